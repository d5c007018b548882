/- MvL5, MvM1, MvM2, MvU0: texts in a row, joined by a program. -/
import Derived.Test.YtnmfblokfponlaaGreatDoorQW
import Derived.Test.YtnmfblokfponlaaGreatDoorQR
import Derived.Test.YtnmfblokfponlaaGreatDoorQS
set_option linter.all false
open Nat renaming reduceEqDiff → rE, reduceLeDiff → rD, reduceAdd → rA, reduceMul → rM, reduceLT → rL
open Go.Ev.T renaming get_put → xZZ
open Bool renaming and_eq_true → xZY, or_eq_false_iff → xZU, not_eq_false' → xZT, false_eq_true → xZS, not_eq_true' → xZQ, not_eq_true → xZP
open Nat renaming le_of_lt → xZX, le_refl → xZW
open Go.Ev.Hp renaming up_n → xZV
open List renaming any_eq_false → xZR
namespace Go.Proofs.Kn
open Go Go.Ev
set_option maxRecDepth 100000
set_option maxHeartbeats 4000000
theorem Mp.ok_rect {m:Mp} (h:m.ok=true):m.Rect:=fun l hl=>by
 simp only [Mp.ok,xZY] at h;have:=List.all_eq_true.1 h.2.1 l hl;simp only [Mp.rowOk,xZY] at this;have q1:(l.length:Int)=(m.cells.headD []).length:=by simpa [Mp.C] using this.1
 omega
theorem zC {x a b:Int}:inB x a b=true↔a<=x/\x<=b:=by simp [inB]
def Wk.tb (w:Wk) (q:Nat):Int×Int×Int:=w.ts.getD q (0,0,0)
def Wk.isT (w:Wk) (s:Int×Int×Int):Bool:=inB s.2.2 0 ((w.ts.length:Int) - 1)
structure Wk.Is (w:Wk):Prop where
 m:w.m.Is w.m.cells.length w.m.W
 rc:w.m.Rect
 t0:1<=w.ts.length
 t4:w.ts.length<=4
 k0:0<=w.kerf
 k5:w.kerf<=5
 ts: ∀t∈w.ts,(1<=t.1/\t.1<=3)/\(1<=t.2.1/\t.2.1<=60)/\1<=t.2.2/\t.2.2<=100
theorem Wk.ok_is {w:Wk} (h:w.ok=true):w.Is:=by
 simp only [Wk.ok,xZY,xZQ,xZR] at h;obtain ⟨h1,h2,h3,h4⟩:=h;rw [zC] at h2 h3;refine ⟨Mp.ok_is h1,Mp.ok_rect h1,by omega,by omega,h3.1,h3.2,fun t ht=> ?_⟩;have:=h4 t ht;simp only [yX,xZP,xZU,xZT,zC] at this;exact this
structure Tub (w:Wk) (q n:Nat) (th wo:Int):Prop where
 at_:w.ts[q]? =some ((n:Int),th,wo)
 tb:w.tb q=((n:Int),th,wo)
 n1:1<=n
 n3:n<=3
 h1:1<=th
 h60:th<=60
 w1:1<=wo
 w100:wo<=100
theorem Wk.Is.tub {w:Wk} (h:w.Is) {q:Nat} (hq:q<w.ts.length): ∃n th wo,Tub w q n th wo:=by
 have e:=List.getElem?_eq_getElem hq;obtain ⟨⟨a1,a2⟩,⟨a3,a4⟩,a5,a6⟩:=h.ts _ (List.getElem_mem hq);obtain ⟨⟨n,th,wo⟩,hx⟩: ∃t,w.ts[q]=t:=⟨_,rfl⟩;rw [hx] at e a1 a2 a3 a4 a5 a6;simp only at a1 a2 a3 a4 a5 a6;obtain ⟨k,rfl⟩: ∃k:Nat,n=k:=⟨n.toNat,by omega⟩;refine ⟨k,th,wo,e,?_,by omega,by omega,a3,a4,a5,a6⟩;simp only [Wk.tb,List.getD_eq_getElem?_getD,e,Option.getD_some]
theorem Wk.Is.tub' {w:Wk} (h:w.Is) {s:Int×Int×Int} (hs:w.isT s=true): ∃q n th wo,s.2.2=(q:Nat)/\Tub w q n th wo:=by
 rw [Wk.isT,zC] at hs;obtain ⟨n,th,wo,ht⟩:=h.tub (q:=s.2.2.toNat) (by omega);exact ⟨_,n,th,wo,by omega,ht⟩
def Wk.pcan (w:Wk) (s:Int×Int×Int):Bool:=w.m.pcan w.m.cells.length w.m.W (w.tb s.2.2.toNat).1.toNat s.1 s.2.1
def Wk.give (w:Wk) (t:Nat->Nat->Int) (s:Int×Int×Int):Int:=(zG t s.1.toNat s.2.1.toNat (w.tb s.2.2.toNat).1.toNat (w.tb s.2.2.toNat).1.toNat+w.kerf).tdiv ((w.tb s.2.2.toNat).2.1+w.kerf)
def Wk.gives (w:Wk) (s:Int×Int×Int):(Int×Int)×Int:=
 if (w.ok && w.isT s)=true then
  match w.m.bnd with
  |none=>((0,0),7)
  |some G=>if w.pcan s=true then ((w.give (gLo G) s,w.give (gHi G) s),0) else ((0,0),5)
 else ((0,0),2)
theorem Wk.pcan_in {w:Wk} {q n:Nat} {th wo:Int} (ht:Tub w q n th wo) {a b:Int} (h:w.pcan (a,b,(q:Int))=true): ∃r0 c0:Nat,a=r0/\b=c0/\r0+n<=w.m.cells.length/\c0+n<=w.m.W:=by
 simp only [Wk.pcan,Int.toNat_natCast,ht.tb,Mp.pcan,xZY] at h;obtain ⟨h1,h2,_⟩:=h;rw [zC] at h1 h2;exact ⟨a.toNat,b.toNat,by omega,by omega,by omega,by omega⟩
theorem Wk.pcan_q {w:Wk} {q n:Nat} {th wo:Int} (ht:Tub w q n th wo) (a b:Int):w.pcan (a,b,(q:Int))=w.m.pcan w.m.cells.length w.m.W n a b:=by simp [Wk.pcan,ht.tb]
theorem Wk.give_q {w:Wk} {q n:Nat} {th wo:Int} (ht:Tub w q n th wo) (t:Nat->Nat->Int) (r0 c0:Nat):w.give t ((r0:Int),(c0:Int),(q:Int))=(zG t r0 c0 n n+w.kerf).tdiv (th+w.kerf):=by simp [Wk.give,ht.tb]
theorem al134 (h:Hp):jI Kn.tb h 134=some (.ptr h.n 0,h.new (.cells (([(.int .i64 0),(.int .i64 0)]:List Value).map .val) 134)):=kJ (by kernel_rfl:Kn.tb.get 134=some te134) rfl
theorem qBM:vJ Kn.tb 43 []=some (.agg [iv 0,iv 0]):=by kernel_rfl
theorem bd135 (f g:Fn) (a b c d:List AV):vJ Kn.tb 135 [(0,.fn f a b),(1,.fn g c d)]=some (.agg [.fn f a b,.fn g c d]):=by kernel_rfl
theorem ix135 (f g:Fn) (a b c d:List AV):pU Kn.tb 135 (.agg [.fn f a b,.fn g c d]) (.val (.int .i64 0))=some (.fn f a b)/\pU Kn.tb 135 (.agg [.fn f a b,.fn g c d]) (.val (.int .i64 1))=some (.fn g c d):=⟨by kernel_rfl,by kernel_rfl⟩
theorem ia134 (b:Nat):qN Kn.tb 134 (.ptr b 0) (.val (.int .i64 0))=some (.ptr b 0)/\qN Kn.tb 134 (.ptr b 0) (.val (.int .i64 1))=some (.ptr b 1):=⟨by kernel_rfl,by kernel_rfl⟩
theorem w01:IntKind.i64.wrap ((0:Int)+1)=1:=by decide
theorem w12:IntKind.i64.wrap ((1:Int)+1)=2:=by decide
theorem ft30 (xt:Addr->Option Value):(SE xt).ft.get 30=some Tryz.f30:=by kernel_rfl
theorem res30:Tryz.f30.results.toList=[.cell 4 43,.tmp 5]:=by kernel_rfl
theorem gives_c (xt:Addr->Option Value) (h:Hp) (w:Wk) (ha:w.At xt h) (s:Int×Int×Int) {K:CR->Hp->Prop} (hk: ∀m,h.n<m->K (.ret (.tup [.agg [iv (w.gives s).1.1,iv (w.gives s).1.2],iv (w.gives s).2])) (h.up m)):FnA (SE xt) 30 [w.av,wY s] h K:=by
 refine FnA.calm ?_ hk;clear hk K;refine FnA.walk (sok xt) (ft30 xt) rfl 55 rfl ?_;obtain ⟨o1,o2,o3,o4,o5⟩:=ha.ones;refine qA fun K hn hp=> ?_;simp only [sw.1,rE,reduceIte,rL];apply hn;obtain ⟨h1,hh1,n1,s1,k1,f1⟩:=uO h (.cells w.cs 30);obtain ⟨h2,hh2,n2,s2,k2,f2⟩:=newF f1 n1 (.cells [iv s.1,iv s.2.1,iv s.2.2] 61);obtain ⟨h3,hh3,n3,s3,k3,f3⟩:=newF f2 n2 (.cells [iv 0,iv 0] 43);simp only [<-hh1,<-hh2,<-hh3];clear hh1 hh2 hh3;have u1:=(k3 h.n (by omega)).trans ((k2 h.n (by omega)).trans s1);have u2:=(k3 (h.n+1) (by omega)).trans s2;have ha3:=ha.fr f3 (xZW _);simp only [rA] at s3 n3;refine qE ?_;refine qA fun K hn hp=> ?_;simp only [sy.1,rE,reduceIte,rL,rA,u1];refine qB (sok xt) (gN xt _ w ha3 fun m1 hm1=> ?_);have no: ∀(tm:T AV) (m:Nat) (K:Ex->St->Prop),h3.n<=m->(w.ok && w.isT s)=false->(K .ret ⟨tm,55,(h3.up m).set (h.n+2) (.cells [iv 0,iv 0] 43),[]⟩->False)->True:=fun _ _ _ _ _ _=>trivial;cases e1:w.ok
 ·simp only [sy.1,rE,reduceIte,rL];apply hn;refine qC true (by simp only [sy.1,rE,reduceIte]) (fun _=> ?_) (fun hx=>by cases hx);refine qE ?_;refine qA fun K hn hp=> ?_;simp only [sw.1,rE,reduceIte,rL,rA,s3,qBM];apply hn;refine qU (yT (v:= .agg [iv 0,iv 0]) res30 ?_ ⟨?_,?_⟩)
  ·simp only [sy.1,rE,reduceIte,rA,s3]
  ·simp [xZZ,Wk.gives,e1]
  ·exact (f3.up (xZX hm1)).set (by omega) (by simp only [xZV];omega) _
 simp only [sy.1,rE,reduceIte,rL,rA,u1,u2];refine qB (sok xt) (qDG xt _ w (ha3.up (xZX hm1)) s fun m2 hm2=> ?_);simp only [xZV] at hm2;cases e2:w.isT s
 ·have e2':inB s.2.2 0 ((w.ts.length:Int) - 1)=false:=e2;simp only [sy.1,rE,reduceIte,rL,e2',Hp.up_up];apply hn;refine qC true (by simp only [sy.1,rE,reduceIte]) (fun _=> ?_) (fun hx=>by cases hx);refine qE ?_;refine qA fun K hn hp=> ?_;simp only [sw.1,rE,reduceIte,rL,rA,s3,qBM];apply hn;refine qU (yT (v:= .agg [iv 0,iv 0]) res30 ?_ ⟨?_,?_⟩)
  ·simp only [sy.1,rE,reduceIte,rA,s3]
  ·simp [xZZ,Wk.gives,e1,e2]
  ·exact (f3.up (by omega)).set (by omega) (by simp only [xZV];omega) _
 have e2':inB s.2.2 0 ((w.ts.length:Int) - 1)=true:=e2;simp only [sy.1,rE,reduceIte,rL,e2',Hp.up_up];apply hn;refine qC false (by simp only [sy.1,rE,reduceIte]) (fun hx=>by cases hx) (fun _=> ?_);refine qI ?_;have his:=Wk.ok_is e1;obtain ⟨q,n,th,wo,hq,ht⟩:=his.tub' e2;refine qA fun K hn hp=> ?_;simp only [sy.1,rE,reduceIte,rL,rA,u1];have ha3u:=ha3.up (n:=m2) (by omega);refine qB (sok xt) (FnA.mono (bH xt (h3.up m2) w ha3u _ _ his.m) fun res h4 hres=> ?_);obtain ⟨f4,hres⟩:=hres;have low4: ∀k,k<m2->h4.t.get k=h3.t.get k:=fun k hk=>f4.at_ k (.inl hk);have v1:=(low4 h.n (by omega)).trans u1;have v2:=(low4 (h.n+1) (by omega)).trans u2;have v3:=(low4 (h.n+2) (by omega)).trans s3;have n4:m2<=h4.n:=f4.lo;have f4h:Fr h.n h h4:=(f3.up (m:=m2) (by omega)).trans f4 (by simp only [xZV];omega);change match w.m.bnd with|some G=>_|none=>_ at hres
 cases hb:w.m.bnd with
 |none=>
  rw [hb] at hres;subst hres;simp only [sw.1,rE,reduceIte,rL,rA,sv.1];obtain ⟨h5,hh5,n5,s5,k5,f5⟩:=nsE h4 (.cells yL 121) (.cells yL 121);rw [<-hh5];apply hn;clear hh5;have x3:=(k5 (h.n+2) (by omega)).trans v3;refine qE ?_;refine qA fun K hn hp=> ?_;simp only [sy.1,rE,reduceIte,rL];apply hn;refine qC true (by simp only [sy.1,rE,reduceIte,d70]) (fun _=> ?_) (fun hx=>by cases hx);refine qE ?_;refine qA fun K hn hp=> ?_;simp only [sw.1,rE,reduceIte,rL,rA,x3,qBM];apply hn;refine qU (yT (v:= .agg [iv 0,iv 0]) res30 ?_ ⟨?_,?_⟩)
  ·simp only [sy.1,rE,reduceIte,rA,x3]
  ·simp [xZZ,Wk.gives,e1,e2,hb]
  ·exact (f4h.trans f5 (by omega)).set (by omega) (by omega) _
 |some G=>
  rw [hb] at hres;obtain ⟨v,M,rfl,sg,m1',m2'⟩:=hres;have onev:=sg.one;simp only [sw.1,rE,reduceIte,rL,rA,sv.1,o1,o2,o3,o4,o5,onev];obtain ⟨h5,hh5,n5,s5,k5,f5⟩:=nsE h4 (.cells yL 121) (.cells (w.bc v) 121);rw [<-hh5];apply hn;clear hh5;have f5h:=f4h.trans f5 (by omega);have x1:=(k5 h.n (by omega)).trans v1;have x2:=(k5 (h.n+1) (by omega)).trans v2;have x3:=(k5 (h.n+2) (by omega)).trans v3;have ha5:=ha.fr f5h (xZW _);refine qE ?_;refine qA fun K hn hp=> ?_;simp only [sy.1,rE,reduceIte,rL];apply hn;refine qC false (by simp only [sy.1,rE,reduceIte]) (fun hx=>by cases hx) (fun _=> ?_);refine qI ?_;refine qE ?_;refine qA fun K hn hp=> ?_;simp only [sy.1,rE,reduceIte,rL,rA,x1,x2];obtain ⟨a,b,c⟩:=s;simp only at hq;subst hq;refine qB (sok xt) (can_c xt h5 w ha5 _ _ his.m his.rc a b q n th wo ht.at_ ht.n3 fun m3 hm3=> ?_);rw [<-Wk.pcan_q ht a b];cases e3:w.pcan (a,b,(q:Int))
  ·simp only [sy.1,rE,reduceIte,rL];apply hn;refine qC true (by simp only [sy.1,rE,reduceIte]) (fun _=> ?_) (fun hx=>by cases hx);refine qE ?_;refine qA fun K hn hp=> ?_;simp only [sw.1,rE,reduceIte,rL,rA,x3,qBM];apply hn;refine qU (yT (v:= .agg [iv 0,iv 0]) res30 ?_ ⟨?_,?_⟩)
   ·simp only [sy.1,rE,reduceIte,rA,x3]
   ·simp [xZZ,Wk.gives,e1,e2,hb,e3]
   ·exact (f5h.up (xZX hm3)).set (by omega) (by simp only [xZV];omega) _
  simp only [sy.1,rE,reduceIte,rL];apply hn;refine qC false (by simp only [sy.1,rE,reduceIte]) (fun hx=>by cases hx) (fun _=> ?_);refine qI ?_;obtain ⟨r0,c0,rfl,rfl,hrn,hcn⟩:=Wk.pcan_in ht e3;refine qA fun K hn hp=> ?_;simp only [sy.1,rL,al134];apply hn;obtain ⟨h6,hh6,n6,s6,k6,f6⟩:=uO (h5.up m3) (.cells [iv 0,iv 0] 134);simp only [xZV,Hp.up_t] at n6 s6 k6 f6;rw [<-hh6];clear hh6;have f6h:=(f5h.up (m:=m3) (by omega)).trans f6 (by omega);have y1:=(k6 h.n (by omega)).trans x1;have y2:=(k6 (h.n+1) (by omega)).trans x2;have y3:=(k6 (h.n+2) (by omega)).trans x3;have y5:=(k6 h4.n (by omega)).trans s5;have sg6:SG h6 (h3.up m2).n M v _ _ G:=sg.keep fun k _ hk=>(k6 k (by omega)).trans (k5 k (by omega));have ha6:=ha.fr f6h (xZW _);refine qE ?_;refine qA fun K hn hp=> ?_;simp only [sy.1,rE,reduceIte,rL,rA,y5];simp only [sy.1,rL,bd135];apply hn;obtain ⟨_,hok,hsub,_⟩:=qD4 his.m hb;have hlo: ∀i,i<n-> ∀j,j<n->0<=gLo G (r0+i) (c0+j):=fun i _ j _=>by
   have q2:=hsub (r0+i) (c0+j);have:0<=(w.m.F0 (r0+i) (c0+j)).1:=by simp only [Mp.F0];split<;>simp
   show 0<=(G (r0+i) (c0+j)).1;omega
  have hhi: ∀i,i<n-> ∀j,j<n->0<=gHi G (r0+i) (c0+j):=fun i hi j hj=>by
   have q1:=hlo i hi j hj;have q2:=hok (r0+i) (c0+j);show 0<=(G (r0+i) (c0+j)).2;have:0<=(G (r0+i) (c0+j)).1:=q1;omega
  have hr6:=his.m.r6;have hc8:=his.m.c8;refine qF fun KA A1 A2 A3 A4 A5=> ?_;refine qS (sok xt) (fun st=> ∃(k:Nat) (hl:Hp) (tm:T AV),st=⟨tm,55,hl,[]⟩/\k<=2/\tm.get 3=some (.ptr (h.n+1) 0)/\tm.get 4=some (.ptr (h.n+2) 0)/\tm.get 8=some (.ptr m3 0)/\tm.get 39=some (.agg [.fn (.func 80) [.agg (w.bc v)] [],.fn (.func 81) [.agg (w.bc v)] []])/\tm.get 40=some (iv k)/\FrM (fun x=>x=m3) h6.n h6 hl/\hl.t.get m3=some (.cells [iv (if 0<k then w.give (gLo G) ((r0:Int),(c0:Int),(q:Int)) else 0),iv (if 1<k then w.give (gHi G) ((r0:Int),(c0:Int),(q:Int)) else 0)] 134)) (fun st=>2 - (match st.tm.get 40 with|some (.val (.int _ n))=>n.toNat|_=>0)) ?_ ?_
  ·rintro st ⟨k,hl,tm,rfl,hkA,g3,g4,g8,g39,g40,z1,z2⟩;have muA:=g40;have y2':=(z1.get (k:=h.n+1) (by omega) (by omega)).trans y2;have fl:Fr h.n h hl:=z1.toFr f6h (by omega) (fun k hk=>by omega);have sgl:SG hl (h3.up m2).n M v _ _ G:=sg6.keep fun k _ hk=>z1.get (by omega) (by omega);have hal:=ha.fr fl (xZW _);have lel:=z1.le;have two:decide ((k:Int)<2)=decide (k<2):=decide_eq_decide.2 (by omega);refine qA fun K hn hp=> ?_;simp only [sy.1,rL,g40,two];apply hn;by_cases hk2:k<2
   ·refine qC true (by simp only [sy.1,reduceIte,hk2]) (fun _=> ?_) (fun hx=>by cases hx);refine qI ?_;refine qF fun KB C1 C2 C3 C4 C5=> ?_;obtain rfl|rfl:k=0\/k=1:=by omega
    ·have g40:tm.get 40=some (iv 0):=g40;have z3:hl.t.get m3=some (.cells [iv 0,iv 0] 134):=by simpa using z2
     refine qA fun K hn hp=> ?_;simp only [sy.1,rE,reduceIte,rL,g39,g40,(ix135 (.func 80) (.func 81) _ _ _ _).1];apply hn;refine reg fun K hn hp=> ?_;simp only [sy.1,rE,reduceIte,rL,rA,g3,y2'];refine j7 (sok xt) (gL xt hl w hal v G _ M _ _ sgl (by omega) r0 c0 q n th wo ht.at_ (by omega) (by omega) hrn hcn ht.n3 ht.n1 his.k0 his.k5 ht.h1 ht.h60 hlo fun m4 hm4=> ?_);rw [<-Wk.give_q ht];simp only [sw.1,rE,reduceIte,rL,rA,rD,g8,(ia134 m3).1,z3];refine hn _ _ (C1 _ ?_);refine reg fun K hn hp=> ?_;simp only [sy.1,rE,reduceIte,rL,g40,w01];apply hn;refine ⟨⟨1,_,_,rfl,by omega,(by simp [xZZ,g3]),(by simp [xZZ,g4]),(by simp [xZZ,g8]),(by simp [xZZ,g39]),(by simp [xZZ]),(z1.up (xZX hm4)).set (.inr rfl) _,?_⟩,by simp [xZZ,g40]⟩;rw [Hp.set_t,xZZ,if_pos rfl];rfl
    ·have g40:tm.get 40=some (iv 1):=g40;have z3:hl.t.get m3=some (.cells [iv (w.give (gLo G) ((r0:Int),(c0:Int),(q:Int))),iv 0] 134):=by simpa using z2
     refine qA fun K hn hp=> ?_;simp only [sy.1,rE,reduceIte,rL,g39,g40,(ix135 (.func 80) (.func 81) _ _ _ _).2];apply hn;refine reg fun K hn hp=> ?_;simp only [sy.1,rE,reduceIte,rL,rA,g3,y2'];refine j7 (sok xt) (most_c xt hl w hal v G _ M _ _ sgl (by omega) r0 c0 q n th wo ht.at_ (by omega) (by omega) hrn hcn ht.n3 ht.n1 his.k0 his.k5 ht.h1 ht.h60 hhi fun m4 hm4=> ?_);rw [<-Wk.give_q ht];simp only [sw.1,rE,reduceIte,rL,rA,g8,(ia134 m3).2,z3];refine hn _ _ (C1 _ ?_);refine reg fun K hn hp=> ?_;simp only [sy.1,rE,reduceIte,rL,g40,w12];apply hn;refine ⟨⟨2,_,_,rfl,by omega,(by simp [xZZ,g3]),(by simp [xZZ,g4]),(by simp [xZZ,g8]),(by simp [xZZ,g39]),(by simp [xZZ]),(z1.up (xZX hm4)).set (.inr rfl) _,?_⟩,by simp [xZZ,g40]⟩;rw [Hp.set_t,xZZ,if_pos rfl];rfl
   ·refine qC false (by simp only [sy.1,reduceIte,hk2]) (fun hx=>by cases hx) (fun _=> ?_);refine qR (A2 _ ?_);obtain rfl:k=2:=by omega
    have z3:hl.t.get m3=some (.cells [iv (w.give (gLo G) ((r0:Int),(c0:Int),(q:Int))),iv (w.give (gHi G) ((r0:Int),(c0:Int),(q:Int)))] 134):=by simpa using z2
    have y3':=(z1.get (k:=h.n+2) (by omega) (by omega)).trans y3;refine qA fun K hn hp=> ?_;simp only [sw.1,rE,reduceIte,rL,rA,g4,g8,(ia134 m3).1,(ia134 m3).2,z3,y3',bd43];apply hn;refine qD (yT (v:= .agg [iv (w.give (gLo G) ((r0:Int),(c0:Int),(q:Int))),iv (w.give (gHi G) ((r0:Int),(c0:Int),(q:Int)))]) res30 ?_ ⟨?_,?_⟩)
    ·simp only [sy.1,rE,reduceIte,rA,g4]
    ·simp [xZZ,Wk.gives,e1,e2,hb,e3]
    ·exact fl.set (by omega) (by omega) _
  ·exact ⟨0,h6,_,rfl,(by omega),(by simp [xZZ]),(by simp [xZZ]),(by simp [xZZ]),(by simp [xZZ]),(by simp [xZZ]),FrM.refl (xZW _),by simpa using s6⟩
end Go.Proofs.Kn
namespace Go.Proofs.Kn
open Go Go.Ev
theorem is_rc {m:Mp} (hr:m.Rect) (r c:Int):m.is r c 2=decide (m.rc r c=2):=by
 rw [Mp.rc_in hr,Mp.is];cases m.inside r c<;>simp
theorem crkIn_iff {r0 c0 n:Nat} {k:Int×Int×Bool}:pI r0 c0 n k=true↔(((r0:Int)<=k.1/\k.1<=r0+(n - 1))/\(c0:Int)<=k.2.1/\k.2.1<=c0+(n - 1))/\((r0:Int)<=wZ k/\wZ k<=r0+(n - 1))/\(c0:Int)<=w8 k/\w8 k<=c0+(n - 1):=by
 simp only [pI,gP,xZY,zC]
theorem crk_iff {m:Mp} {r c:Int} {b:Bool}:m.crk r c b=true↔(r,c,b)∈m.ks:=by
 simp only [Mp.crk,List.any_eq_true,xZY,decide_eq_true_eq];constructor
 ·rintro ⟨⟨x,y,z⟩,h1,rfl,rfl,rfl⟩;exact h1
 ·intro h;exact ⟨_,h,rfl,rfl,rfl⟩
theorem rcan_same {m:Mp} (hr:m.Rect) (R C n:Nat) (a b:Int) (hR:R<=100) (hC:C<=100):m.rcan R C n a b=m.pcan R C n a b:=by
 rw [Bool.eq_iff_iff];simp only [Mp.rcan,Mp.pcan,xZY,yJ,Mp.rcBad,xZQ,xZU,Bool.and_eq_false_iff,decide_eq_false_iff_not,is_rc hr,xZR,crkIn_iff,xZT,decide_eq_true_eq];rw [zC,zC];have hc: ∀r c b,m.crk r c b=false↔(r,c,b) ∉ m.ks:=fun r c b=>by
  rw [<-crk_iff,xZP]
 simp only [hc];constructor
 ·rintro ⟨h1,h2,h3⟩;refine ⟨h1,h2,fun i hi j hj=>(h3 i hi j hj).1,?_⟩;rintro ⟨x,y,z⟩ hk ⟨⟨⟨p1,p2⟩,p3,p4⟩,⟨p5,p6⟩,p7,p8⟩;simp only at p1 p2 p3 p4;obtain ⟨i,rfl⟩: ∃i:Nat,x=((a.toNat+i:Nat):Int):=⟨(x - a.toNat).toNat,by omega⟩;obtain ⟨j,rfl⟩: ∃j:Nat,y=((b.toNat+j:Nat):Int):=⟨(y - b.toNat).toNat,by omega⟩;obtain ⟨_,q2,q3⟩:=h3 i (by omega) j (by omega);cases z with
  |true=>
   simp only [wZ,w8,if_true] at p5 p6 p7 p8;rw [wrap_i64 _ (by omega) (by omega)] at p5 p6;rcases q3 with q3|q3
   ·omega
   ·exact q3 hk
  |false=>
   simp only [wZ,w8,xZS,if_false] at p5 p6 p7 p8;rw [wrap_i64 _ (by omega) (by omega)] at p7 p8;rcases q2 with q2|q2
   ·omega
   ·exact q2 hk
 ·rintro ⟨h1,h2,h3,h4⟩;refine ⟨h1,h2,fun i hi j hj=>⟨h3 i hi j hj,?_,?_⟩⟩
  ·by_cases q:(((b.toNat+j:Nat):Int))+1<((b.toNat+n:Nat):Int)
   ·refine .inr fun hk=>h4 _ hk ?_;simp only [wZ,w8,xZS,if_false];rw [wrap_i64 _ (by omega) (by omega)];omega
   ·exact .inl q
  ·by_cases q:(((a.toNat+i:Nat):Int))+1<((a.toNat+n:Nat):Int)
   ·refine .inr fun hk=>h4 _ hk ?_;simp only [wZ,w8,if_true];rw [wrap_i64 _ (by omega) (by omega)];omega
   ·exact .inl q
end Go.Proofs.Kn
namespace Go.Proofs.Kn
open Go Go.Ev
set_option maxRecDepth 100000
set_option maxHeartbeats 4000000
end Go.Proofs.Kn
noncomputable section
namespace Go.Proofs.Kn
open Go Go.Ev Go.RowKit Go.ChangeShapes Go.WideShapes Go.ChangeAt
set_option maxRecDepth 100000
theorem und30:Tryz.prog.underlying 30=some (.struct (qZ 30)):=by kernel_rfl
theorem und28:Tryz.prog.underlying 28=some (.slice 90):=by kernel_rfl
theorem und33:Tryz.prog.underlying 33=some (.slice 61):=by kernel_rfl
theorem und90:Tryz.prog.underlying 90=some (.struct (qZ 90)):=by kernel_rfl
theorem und61:Tryz.prog.underlying 61=some (.struct (qZ 61)):=by kernel_rfl
theorem co30:Tryz.prog.cellsOf 30=8:=by kernel_rfl
theorem co28:Tryz.prog.cellsOf 28=1:=by kernel_rfl
theorem co90:Tryz.prog.cellsOf 90=3:=by kernel_rfl
theorem co61:Tryz.prog.cellsOf 61=3:=by kernel_rfl
theorem f30_0:((qZ 30)[0]?).map (fun f=>(f.type,f.offset))=some (27,0):=by kernel_rfl
theorem f30_1:((qZ 30)[1]?).map (fun f=>(f.type,f.offset))=some (28,6):=by kernel_rfl
theorem f30_2:((qZ 30)[2]?).map (fun f=>(f.type,f.offset))=some (3,7):=by kernel_rfl
theorem f90_0:((qZ 90)[0]?).map (fun f=>(f.type,f.offset))=some (3,0):=by kernel_rfl
theorem f90_1:((qZ 90)[1]?).map (fun f=>(f.type,f.offset))=some (3,1):=by kernel_rfl
theorem f90_2:((qZ 90)[2]?).map (fun f=>(f.type,f.offset))=some (3,2):=by kernel_rfl
theorem f61_0:((qZ 61)[0]?).map (fun f=>(f.type,f.offset))=some (3,0):=by kernel_rfl
theorem f61_1:((qZ 61)[1]?).map (fun f=>(f.type,f.offset))=some (3,1):=by kernel_rfl
theorem f61_2:((qZ 61)[2]?).map (fun f=>(f.type,f.offset))=some (3,2):=by kernel_rfl
section
variable {H:Type} {enc:TypeId×Value->H} {w:World} {base:Nat} {sp:Nat->Bool} {held:Bool}
theorem qCt {t:TypeId} (hu:Tryz.prog.underlying t=some (.struct (qZ t))) (hc:Tryz.prog.cellsOf t=3) (g0:((qZ t)[0]?).map (fun f=>(f.type,f.offset))=some (3,0)) (g1:((qZ t)[1]?).map (fun f=>(f.type,f.offset))=some (3,1)) (g2:((qZ t)[2]?).map (fun f=>(f.type,f.offset))=some (3,2))
  {n:Nat} {c:List Value} {y:DataW H×List MemPlace} (h:DataW.trod enc Tryz.prog w base sp held n t c=some y): ∃a:Int×Int×Int,c=Kn.t3 a:=by
 have hl:=kK hu h;rw [hc] at hl;obtain ⟨_,_,h0⟩:=jG hu h 0 g0;obtain ⟨_,_,h1⟩:=jG hu h 1 g1;obtain ⟨_,_,h2⟩:=jG hu h 2 g2;obtain ⟨a,e0⟩:=zZ h0;obtain ⟨b,e1⟩:=zZ h1;obtain ⟨d,e2⟩:=zZ h2;rw [co3] at e0 e1 e2
 match c,hl with
 |[x,y,z],_=>
  simp at e0 e1 e2;exact ⟨(a,b,d),by simp [Kn.t3,e0,e1,e2]⟩
theorem read_work {t:Value} {d:DataW H} {ps:List MemPlace} {r:Reach} {b0:Nat} (hval:Value.okWide Tryz.prog w r b0 30 t) (hd:DataW.Trod enc Tryz.prog w base sp held 30 t d ps) (h':Hp):
  ∃k:Wk,k.At w.cell? h'/\ ∀c,R c k.av t:=by
 obtain ⟨cs,rfl⟩: ∃cs,t= .agg cs:=by
  unfold Value.okWide at hval;rw [und30] at hval;obtain ⟨cs,rfl,_⟩:=hval;exact ⟨cs,rfl⟩
 obtain ⟨fuel,hf⟩:=hd;change DataW.trod enc Tryz.prog w base sp held fuel 30 cs.toList=_ at hf;have hl:=kK und30 hf;rw [co30] at hl;obtain ⟨_,_,h0⟩:=jG und30 hf 0 f30_0;obtain ⟨_,_,h1⟩:=jG und30 hf 1 f30_1;obtain ⟨_,_,h2⟩:=jG und30 hf 2 f30_2;obtain ⟨m,v1,v2,v3,v4,ha,e1,e2,e3,e4,hcs⟩:=read_mapc h0 h';obtain ⟨v5,l5,e5,hl5,hr5⟩:=vQ Kn.t3 und28 co90 (by omega) h1 (fun _=>rfl) (fun _ _ _ h=>qCt und90 co90 f90_0 f90_1 f90_2 h) h';obtain ⟨b,e6⟩:=zZ h2;rw [co27] at hcs;rw [co28] at e5;rw [co3] at e6;refine ⟨⟨m,.val v5,l5,b⟩,⟨ha,hr5,hl5⟩,fun cx=> ?_⟩;have:cs=[v1,.int .i64 m.T,.int .i64 m.H,v2,v3,v4,v5,.int .i64 b].toArray:=by
  apply Array.ext'
  match hq:cs.toList,hl with
  |[x0,x1,x2,x3,x4,x5,x6,x7],_=>
   rw [hq] at hcs e5 e6;simp at hcs e5 e6;simp [hcs,e5,e6]
 subst this;simp only [R];exact ⟨_,rfl,by simp [RL,R,e1,e2,e3,e4]⟩
theorem read_cut {t:Value} {d:DataW H} {ps:List MemPlace} {r:Reach} {b0:Nat} (hval:Value.okWide Tryz.prog w r b0 33 t) (hd:DataW.Trod enc Tryz.prog w base sp held 33 t d ps) (h':Hp):
  ∃l:List (Int×Int×Int),RowAt w.cell? h' 3 (.val t) (l.map Kn.t3)/\l.length<=9223372036854775807:=by
 obtain ⟨a,len,cap,rfl⟩:=okWide_slice und33 hval;obtain ⟨fuel,hf⟩:=hd;obtain ⟨v,l,e,hl,hr⟩:=vQ Kn.t3 und33 co61 (by omega) hf (fun _=>rfl) (fun _ _ _ h=>qCt und61 co61 f61_0 f61_1 f61_2 h) h';simp [Value.cells] at e;subst e;exact ⟨l,hr,hl⟩
theorem qDy {t:Value} {d:DataW H} {ps:List MemPlace} {r:Reach} {b0:Nat} (hval:Value.okWide Tryz.prog w r b0 25 t) (hd:DataW.Trod enc Tryz.prog w base sp held 25 t d ps) (h':Hp):
  ∃l:List (Int×Int),RowAt w.cell? h' 2 (.val t) (l.map p2)/\l.length<=9223372036854775807:=by
 obtain ⟨a,len,cap,rfl⟩:=okWide_slice und25 hval;obtain ⟨fuel,hf⟩:=hd;obtain ⟨v,l,e,hl,hr⟩:=vQ p2 und25 co141 (by omega) hf (fun _=>rfl) (fun _ _ _ h=>qCu h) h';simp [Value.cells] at e;subst e;exact ⟨l,hr,hl⟩
end
end Go.Proofs.Kn
end
