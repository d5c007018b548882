/- MvL5, MvM1: texts in a row, joined by a program. -/
import Derived.Test.YtnmfblokfponlaaGreatDoorQW
import Derived.Test.YtnmfblokfponlaaGreatDoorQR
set_option linter.all false
open Nat renaming reduceEqDiff → rE, reduceLeDiff → rD, reduceAdd → rA, reduceMul → rM, reduceLT → rL
namespace Go.Proofs.Kn
open Go Go.Ev
set_option maxRecDepth 100000
set_option maxHeartbeats 4000000
theorem Mp.ok_rect {m:Mp} (h:m.ok=true):m.Rect:=fun l hl=>by
 simp only [Mp.ok,Bool.and_eq_true] at h;have:=List.all_eq_true.1 h.2.1 l hl;simp only [Mp.rowOk,Bool.and_eq_true] at this;have q1:(l.length:Int)=(m.cells.headD []).length:=by simpa [Mp.C] using this.1
 omega
theorem inB_iff' {x a b:Int}:inB x a b=true↔a≤x∧x≤b:=by simp [inB]
def Wk.tb (w:Wk) (q:Nat):Int×Int×Int:=w.ts.getD q (0,0,0)
def Wk.isT (w:Wk) (s:Int×Int×Int):Bool:=inB s.2.2 0 ((w.ts.length:Int) - 1)
structure Wk.Is (w:Wk):Prop where
 m:w.m.Is w.m.cells.length w.m.W
 rc:w.m.Rect
 t0:1≤w.ts.length
 t4:w.ts.length≤4
 k0:0≤w.kerf
 k5:w.kerf≤5
 ts: ∀t∈w.ts,(1≤t.1∧t.1≤3)∧(1≤t.2.1∧t.2.1≤60)∧1≤t.2.2∧t.2.2≤100
theorem Wk.ok_is {w:Wk} (h:w.ok=true):w.Is:=by
 simp only [Wk.ok,Bool.and_eq_true,Bool.not_eq_true',List.any_eq_false] at h;obtain ⟨h1,h2,h3,h4⟩:=h;rw [inB_iff'] at h2 h3;refine ⟨Mp.ok_is h1,Mp.ok_rect h1,by omega,by omega,h3.1,h3.2,fun t ht=> ?_⟩;have:=h4 t ht;simp only [badT,Bool.not_eq_true,Bool.or_eq_false_iff,Bool.not_eq_false',inB_iff'] at this;exact this
structure Tub (w:Wk) (q n:Nat) (th wo:Int):Prop where
 at_:w.ts[q]? =some ((n:Int),th,wo)
 tb:w.tb q=((n:Int),th,wo)
 n1:1≤n
 n3:n≤3
 h1:1≤th
 h60:th≤60
 w1:1≤wo
 w100:wo≤100
theorem Wk.Is.tub {w:Wk} (h:w.Is) {q:Nat} (hq:q<w.ts.length): ∃n th wo,Tub w q n th wo:=by
 have e:=List.getElem?_eq_getElem hq;obtain ⟨⟨a1,a2⟩,⟨a3,a4⟩,a5,a6⟩:=h.ts _ (List.getElem_mem hq);obtain ⟨⟨n,th,wo⟩,hx⟩: ∃t,w.ts[q]=t:=⟨_,rfl⟩;rw [hx] at e a1 a2 a3 a4 a5 a6;simp only at a1 a2 a3 a4 a5 a6;obtain ⟨k,rfl⟩: ∃k:Nat,n=k:=⟨n.toNat,by omega⟩;refine ⟨k,th,wo,e,?_,by omega,by omega,a3,a4,a5,a6⟩;simp only [Wk.tb,List.getD_eq_getElem?_getD,e,Option.getD_some]
theorem Wk.Is.tub' {w:Wk} (h:w.Is) {s:Int×Int×Int} (hs:w.isT s=true): ∃q n th wo,s.2.2=(q:Nat)∧Tub w q n th wo:=by
 rw [Wk.isT,inB_iff'] at hs;obtain ⟨n,th,wo,ht⟩:=h.tub (q:=s.2.2.toNat) (by omega);exact ⟨_,n,th,wo,by omega,ht⟩
def Wk.pcan (w:Wk) (s:Int×Int×Int):Bool:=w.m.pcan w.m.cells.length w.m.W (w.tb s.2.2.toNat).1.toNat s.1 s.2.1
def Wk.give (w:Wk) (t:Nat→Nat→Int) (s:Int×Int×Int):Int:=(blkMin t s.1.toNat s.2.1.toNat (w.tb s.2.2.toNat).1.toNat (w.tb s.2.2.toNat).1.toNat+w.kerf).tdiv ((w.tb s.2.2.toNat).2.1+w.kerf)
def Wk.gives (w:Wk) (s:Int×Int×Int):(Int×Int)×Int:=
 if (w.ok && w.isT s)=true then
  match w.m.bnd with
  |none=>((0,0),7)
  |some G=>if w.pcan s=true then ((w.give (gLo G) s,w.give (gHi G) s),0) else ((0,0),5)
 else ((0,0),2)
theorem Wk.pcan_in {w:Wk} {q n:Nat} {th wo:Int} (ht:Tub w q n th wo) {a b:Int} (h:w.pcan (a,b,(q:Int))=true): ∃r0 c0:Nat,a=r0∧b=c0∧r0+n≤w.m.cells.length∧c0+n≤w.m.W:=by
 simp only [Wk.pcan,Int.toNat_natCast,ht.tb,Mp.pcan,Bool.and_eq_true] at h;obtain ⟨h1,h2,_⟩:=h;rw [inB_iff'] at h1 h2;exact ⟨a.toNat,b.toNat,by omega,by omega,by omega,by omega⟩
theorem Wk.pcan_q {w:Wk} {q n:Nat} {th wo:Int} (ht:Tub w q n th wo) (a b:Int):w.pcan (a,b,(q:Int))=w.m.pcan w.m.cells.length w.m.W n a b:=by simp [Wk.pcan,ht.tb]
theorem Wk.give_q {w:Wk} {q n:Nat} {th wo:Int} (ht:Tub w q n th wo) (t:Nat→Nat→Int) (r0 c0:Nat):w.give t ((r0:Int),(c0:Int),(q:Int))=(blkMin t r0 c0 n n+w.kerf).tdiv (th+w.kerf):=by simp [Wk.give,ht.tb]
theorem al134 (h:Hp):aoAlloc Kn.tb h 134=some (.ptr h.n 0,h.new (.cells (([(.int .i64 0),(.int .i64 0)]:List Value).map .val) 134)):=al_of (by kernel_rfl:Kn.tb.get 134=some te134) rfl
theorem bd43z:abuildA Kn.tb 43 []=some (.agg [iv 0,iv 0]):=by kernel_rfl
theorem bd135 (f g:Fn) (a b c d:List AV):abuildA Kn.tb 135 [(0,.fn f a b),(1,.fn g c d)]=some (.agg [.fn f a b,.fn g c d]):=by kernel_rfl
theorem ix135 (f g:Fn) (a b c d:List AV):aindex Kn.tb 135 (.agg [.fn f a b,.fn g c d]) (.val (.int .i64 0))=some (.fn f a b)∧aindex Kn.tb 135 (.agg [.fn f a b,.fn g c d]) (.val (.int .i64 1))=some (.fn g c d):=⟨by kernel_rfl,by kernel_rfl⟩
theorem ia134 (b:Nat):aindexAddr Kn.tb 134 (.ptr b 0) (.val (.int .i64 0))=some (.ptr b 0)∧aindexAddr Kn.tb 134 (.ptr b 0) (.val (.int .i64 1))=some (.ptr b 1):=⟨by kernel_rfl,by kernel_rfl⟩
theorem w01:IntKind.i64.wrap ((0:Int)+1)=1:=by decide
theorem w12:IntKind.i64.wrap ((1:Int)+1)=2:=by decide
theorem ft30 (xt:Addr→Option Value):(SE xt).ft.get 30=some Tryz.f30:=by kernel_rfl
theorem res30:Tryz.f30.results.toList=[.cell 4 43,.tmp 5]:=by kernel_rfl
theorem gives_c (xt:Addr→Option Value) (h:Hp) (w:Wk) (ha:w.At xt h) (s:Int×Int×Int) {K:CR→Hp→Prop} (hk: ∀m,h.n<m→K (.ret (.tup [.agg [iv (w.gives s).1.1,iv (w.gives s).1.2],iv (w.gives s).2])) (h.up m)):FnA (SE xt) 30 [w.av,cutv s] h K:=by
 refine FnA.calm ?_ hk;clear hk K;refine FnA.walk (sok xt) (ft30 xt) rfl 55 rfl ?_;obtain ⟨o1,o2,o3,o4,o5⟩:=ha.ones;refine seq_reg fun K hn hp=> ?_;simp only [sw.down,rE,reduceIte,rL,rA,rM,rD,sv.down,al90,o1,o2,o3,o4,o5];refine hn _ _ ?_;clear hn hp K;obtain ⟨h1,hh1,n1,s1,k1,f1⟩:=newE h (.cells w.cs 30);obtain ⟨h2,hh2,n2,s2,k2,f2⟩:=newF f1 n1 (.cells [iv s.1,iv s.2.1,iv s.2.2] 61);obtain ⟨h3,hh3,n3,s3,k3,f3⟩:=newF f2 n2 (.cells [iv 0,iv 0] 43);simp only [sw.down,rE,reduceIte,rL,rA,rM,rD,sv.down,al90,o1,o2,o3,o4,o5,n1,n2,←hh1,←hh2,←hh3];clear hh1 hh2 hh3;have u1:=(k3 h.n (by omega)).trans ((k2 h.n (by omega)).trans s1);have u2:=(k3 (h.n+1) (by omega)).trans s2;have ha3:=ha.fr f3 (Nat.le_refl _);simp only [rA] at s3 n3;refine seq_seq ?_;refine seq_reg fun K hn hp=> ?_;simp only [sw.down,rE,reduceIte,rL,rA,rM,rD,sv.down,al90,o1,o2,o3,o4,o5,u1,u2,s3];refine callA_func (sok xt) (isWork_c xt _ w ha3 fun m1 hm1=> ?_);have no: ∀(tm:T AV) (m:Nat) (K:Ex→St→Prop),h3.n≤m→(w.ok && w.isT s)=false→(K .ret ⟨tm,55,(h3.up m).set (h.n+2) (.cells [iv 0,iv 0] 43),[]⟩→False)→True:=fun _ _ _ _ _ _=>trivial;cases e1:w.ok
 ·simp only [sw.down,rE,reduceIte,rL,rA,rM,rD,sv.down,al90,o1,o2,o3,o4,o5,u1,u2,s3,e1];refine hn _ _ ?_;clear hn hp K;refine seq_cond true (by simp only [sw.down,rE,reduceIte,rL,rA,rM,rD,sv.down,al90,o1,o2,o3,o4,o5,u1,u2,s3]) (fun _=> ?_) (fun hx=>by cases hx);refine seq_seq ?_;refine seq_reg fun K hn hp=> ?_;simp only [sw.down,rE,reduceIte,rL,rA,rM,rD,sv.down,al90,o1,o2,o3,o4,o5,u1,u2,s3,bd43z];refine hn _ _ ?_;clear hn hp K;refine seq_ret (end_c1 (v:= .agg [iv 0,iv 0]) res30 ?_ ⟨?_,?_⟩)
  ·simp only [sw.down,rE,reduceIte,rL,rA,rM,rD,sv.down,al90,o1,o2,o3,o4,o5,u1,u2,s3]
  ·simp [T.get_put,Wk.gives,e1]
  ·exact (f3.up (Nat.le_of_lt hm1)).set (by omega) (by simp only [Hp.up_n];omega) _
 simp only [sw.down,rE,reduceIte,rL,rA,rM,rD,sv.down,al90,o1,o2,o3,o4,o5,u1,u2,s3,e1];refine callA_func (sok xt) (isTube_c xt _ w (ha3.up (Nat.le_of_lt hm1)) s fun m2 hm2=> ?_);simp only [Hp.up_n] at hm2;cases e2:w.isT s
 ·have e2':inB s.2.2 0 ((w.ts.length:Int) - 1)=false:=e2;simp only [sw.down,rE,reduceIte,rL,rA,rM,rD,sv.down,al90,o1,o2,o3,o4,o5,u1,u2,s3,e1,e2',Hp.up_up];refine hn _ _ ?_;clear hn hp K;refine seq_cond true (by simp only [sw.down,rE,reduceIte,rL,rA,rM,rD,sv.down,al90,o1,o2,o3,o4,o5,u1,u2,s3]) (fun _=> ?_) (fun hx=>by cases hx);refine seq_seq ?_;refine seq_reg fun K hn hp=> ?_;simp only [sw.down,rE,reduceIte,rL,rA,rM,rD,sv.down,al90,o1,o2,o3,o4,o5,u1,u2,s3,bd43z];refine hn _ _ ?_;clear hn hp K;refine seq_ret (end_c1 (v:= .agg [iv 0,iv 0]) res30 ?_ ⟨?_,?_⟩)
  ·simp only [sw.down,rE,reduceIte,rL,rA,rM,rD,sv.down,al90,o1,o2,o3,o4,o5,u1,u2,s3]
  ·simp [T.get_put,Wk.gives,e1,e2]
  ·exact (f3.up (by omega)).set (by omega) (by simp only [Hp.up_n];omega) _
 have e2':inB s.2.2 0 ((w.ts.length:Int) - 1)=true:=e2;simp only [sw.down,rE,reduceIte,rL,rA,rM,rD,sv.down,al90,o1,o2,o3,o4,o5,u1,u2,s3,e1,e2',Hp.up_up];refine hn _ _ ?_;clear hn hp K;refine seq_cond false (by simp only [sw.down,rE,reduceIte,rL,rA,rM,rD,sv.down,al90,o1,o2,o3,o4,o5,u1,u2,s3]) (fun hx=>by cases hx) (fun _=> ?_);refine seq_skip ?_;have his:=Wk.ok_is e1;obtain ⟨q,n,th,wo,hq,ht⟩:=his.tub' e2;refine seq_reg fun K hn hp=> ?_;simp only [sw.down,rE,reduceIte,rL,rA,rM,rD,sv.down,al90,o1,o2,o3,o4,o5,u1,u2,s3];have ha3u:=ha3.up (n:=m2) (by omega);refine callA_func (sok xt) (FnA.mono (bounds_c xt (h3.up m2) w ha3u _ _ his.m) fun res h4 hres=> ?_);obtain ⟨f4,hres⟩:=hres;have low4: ∀k,k<m2→h4.t.get k=h3.t.get k:=fun k hk=>f4.at_ k (.inl hk);have v1:=(low4 h.n (by omega)).trans u1;have v2:=(low4 (h.n+1) (by omega)).trans u2;have v3:=(low4 (h.n+2) (by omega)).trans s3;have n4:m2≤h4.n:=f4.lo;have f4h:Fr h.n h h4:=(f3.up (m:=m2) (by omega)).trans f4 (by simp only [Hp.up_n];omega);change match w.m.bnd with|some G=>_|none=>_ at hres
 cases hb:w.m.bnd with
 |none=>
  rw [hb] at hres;subst hres;simp only [sw.down,rE,reduceIte,rL,rA,rM,rD,sv.down,al90,o1,o2,o3,o4,o5,v1,v2,v3,ex_tup0,ex_tup1];obtain ⟨h5,hh5,n5,s5,k5,f5⟩:=nsE h4 (.cells z121 121) (.cells z121 121);rw [←hh5];refine hn _ _ ?_;clear hn hp K hh5;have x3:=(k5 (h.n+2) (by omega)).trans v3;refine seq_seq ?_;refine seq_reg fun K hn hp=> ?_;simp only [sw.down,rE,reduceIte,rL,rA,rM,rD,sv.down,al90,o1,o2,o3,o4,o5,v1,v2,v3,x3];refine hn _ _ ?_;clear hn hp K;refine seq_cond true (by simp only [sw.down,rE,reduceIte,rL,rA,rM,rD,sv.down,al90,o1,o2,o3,o4,o5,v1,v2,v3,x3,d70,Bool.not_false]) (fun _=> ?_) (fun hx=>by cases hx);refine seq_seq ?_;refine seq_reg fun K hn hp=> ?_;simp only [sw.down,rE,reduceIte,rL,rA,rM,rD,sv.down,al90,o1,o2,o3,o4,o5,v1,v2,v3,x3,bd43z];refine hn _ _ ?_;clear hn hp K;refine seq_ret (end_c1 (v:= .agg [iv 0,iv 0]) res30 ?_ ⟨?_,?_⟩)
  ·simp only [sw.down,rE,reduceIte,rL,rA,rM,rD,sv.down,al90,o1,o2,o3,o4,o5,v1,v2,v3,x3]
  ·simp [T.get_put,Wk.gives,e1,e2,hb]
  ·exact (f4h.trans f5 (by omega)).set (by omega) (by omega) _
 |some G=>
  rw [hb] at hres;obtain ⟨v,M,rfl,sg,m1',m2'⟩:=hres;have onev:=sg.one;simp only [sw.down,rE,reduceIte,rL,rA,rM,rD,sv.down,al90,o1,o2,o3,o4,o5,v1,v2,v3,ex_tup0,ex_tup1,onev];obtain ⟨h5,hh5,n5,s5,k5,f5⟩:=nsE h4 (.cells z121 121) (.cells (w.bc v) 121);rw [←hh5];refine hn _ _ ?_;clear hn hp K hh5;have f5h:=f4h.trans f5 (by omega);have x1:=(k5 h.n (by omega)).trans v1;have x2:=(k5 (h.n+1) (by omega)).trans v2;have x3:=(k5 (h.n+2) (by omega)).trans v3;have ha5:=ha.fr f5h (Nat.le_refl _);refine seq_seq ?_;refine seq_reg fun K hn hp=> ?_;simp only [sw.down,rE,reduceIte,rL,rA,rM,rD,sv.down,al90,o1,o2,o3,o4,o5,x1,x2,x3,s5];refine hn _ _ ?_;clear hn hp K;refine seq_cond false (by simp only [sw.down,rE,reduceIte,rL,rA,rM,rD,sv.down,al90,o1,o2,o3,o4,o5,x1,x2,x3,s5,d00,Bool.not_true]) (fun hx=>by cases hx) (fun _=> ?_);refine seq_skip ?_;refine seq_seq ?_;refine seq_reg fun K hn hp=> ?_;simp only [sw.down,rE,reduceIte,rL,rA,rM,rD,sv.down,al90,o1,o2,o3,o4,o5,x1,x2,x3,s5];obtain ⟨a,b,c⟩:=s;simp only at hq;subst hq;refine callA_func (sok xt) (can_c xt h5 w ha5 _ _ his.m his.rc a b q n th wo ht.at_ ht.n3 fun m3 hm3=> ?_);rw [←Wk.pcan_q ht a b];cases e3:w.pcan (a,b,(q:Int))
  ·simp only [sw.down,rE,reduceIte,rL,rA,rM,rD,sv.down,al90,o1,o2,o3,o4,o5,x1,x2,x3,s5,e3];refine hn _ _ ?_;clear hn hp K;refine seq_cond true (by simp only [sw.down,rE,reduceIte,rL,rA,rM,rD,sv.down,al90,o1,o2,o3,o4,o5,x1,x2,x3,s5]) (fun _=> ?_) (fun hx=>by cases hx);refine seq_seq ?_;refine seq_reg fun K hn hp=> ?_;simp only [sw.down,rE,reduceIte,rL,rA,rM,rD,sv.down,al90,o1,o2,o3,o4,o5,x1,x2,x3,s5,bd43z];refine hn _ _ ?_;clear hn hp K;refine seq_ret (end_c1 (v:= .agg [iv 0,iv 0]) res30 ?_ ⟨?_,?_⟩)
   ·simp only [sw.down,rE,reduceIte,rL,rA,rM,rD,sv.down,al90,o1,o2,o3,o4,o5,x1,x2,x3,s5]
   ·simp [T.get_put,Wk.gives,e1,e2,hb,e3]
   ·exact (f5h.up (Nat.le_of_lt hm3)).set (by omega) (by simp only [Hp.up_n];omega) _
  simp only [sw.down,rE,reduceIte,rL,rA,rM,rD,sv.down,al90,o1,o2,o3,o4,o5,x1,x2,x3,s5,e3];refine hn _ _ ?_;clear hn hp K;refine seq_cond false (by simp only [sw.down,rE,reduceIte,rL,rA,rM,rD,sv.down,al90,o1,o2,o3,o4,o5,x1,x2,x3,s5]) (fun hx=>by cases hx) (fun _=> ?_);refine seq_skip ?_;obtain ⟨r0,c0,rfl,rfl,hrn,hcn⟩:=Wk.pcan_in ht e3;refine seq_reg fun K hn hp=> ?_;simp only [sw.down,rE,reduceIte,rL,rA,rM,rD,sv.down,al90,o1,o2,o3,o4,o5,x1,x2,x3,s5,al134];refine hn _ _ ?_;clear hn hp K;obtain ⟨h6,hh6,n6,s6,k6,f6⟩:=newE (h5.up m3) (.cells [iv 0,iv 0] 134);simp only [Hp.up_n,Hp.up_t] at n6 s6 k6 f6;rw [←hh6];clear hh6;have f6h:=(f5h.up (m:=m3) (by omega)).trans f6 (by omega);have y1:=(k6 h.n (by omega)).trans x1;have y2:=(k6 (h.n+1) (by omega)).trans x2;have y3:=(k6 (h.n+2) (by omega)).trans x3;have y5:=(k6 h4.n (by omega)).trans s5;have sg6:SG h6 (h3.up m2).n M v _ _ G:=sg.keep fun k _ hk=>(k6 k (by omega)).trans (k5 k (by omega));have ha6:=ha.fr f6h (Nat.le_refl _);refine seq_seq ?_;refine seq_reg fun K hn hp=> ?_;simp only [sw.down,rE,reduceIte,rL,rA,rM,rD,sv.down,al90,o1,o2,o3,o4,o5,y1,y2,y3,y5,onev];simp only [sw.down,rE,reduceIte,rL,rA,rM,rD,sv.down,al90,o1,o2,o3,o4,o5,y1,y2,y3,y5,onev,bd135];refine hn _ _ ?_;clear hn hp K;obtain ⟨_,hok,hsub,_⟩:=bnd_some his.m hb;have hlo: ∀i,i<n→ ∀j,j<n→0≤gLo G (r0+i) (c0+j):=fun i _ j _=>by
   have q2:=hsub (r0+i) (c0+j);have:0≤(w.m.F0 (r0+i) (c0+j)).1:=by simp only [Mp.F0];split<;>simp
   show 0≤(G (r0+i) (c0+j)).1;omega
  have hhi: ∀i,i<n→ ∀j,j<n→0≤gHi G (r0+i) (c0+j):=fun i hi j hj=>by
   have q1:=hlo i hi j hj;have q2:=hok (r0+i) (c0+j);show 0≤(G (r0+i) (c0+j)).2;have:0≤(G (r0+i) (c0+j)).1:=q1;omega
  have hr6:=his.m.r6;have hc8:=his.m.c8;refine seq_block fun KA A1 A2 A3 A4 A5=> ?_;refine wpc_loop (sok xt) (fun st=> ∃(k:Nat) (hl:Hp) (tm:T AV),st=⟨tm,55,hl,[]⟩∧k≤2∧tm.get 3=some (.ptr (h.n+1) 0)∧tm.get 4=some (.ptr (h.n+2) 0)∧tm.get 8=some (.ptr m3 0)∧tm.get 39=some (.agg [.fn (.func 80) [.agg (w.bc v)] [],.fn (.func 81) [.agg (w.bc v)] []])∧tm.get 40=some (iv k)∧FrM (fun x=>x=m3) h6.n h6 hl∧hl.t.get m3=some (.cells [iv (if 0<k then w.give (gLo G) ((r0:Int),(c0:Int),(q:Int)) else 0),iv (if 1<k then w.give (gHi G) ((r0:Int),(c0:Int),(q:Int)) else 0)] 134)) (fun st=>2 - (match st.tm.get 40 with|some (.val (.int _ n))=>n.toNat|_=>0)) ?_ ?_
  ·rintro st ⟨k,hl,tm,rfl,hkA,g3,g4,g8,g39,g40,z1,z2⟩;have muA:=g40;have y2':=(z1.get (k:=h.n+1) (by omega) (by omega)).trans y2;have fl:Fr h.n h hl:=z1.toFr f6h (by omega) (fun k hk=>by omega);have sgl:SG hl (h3.up m2).n M v _ _ G:=sg6.keep fun k _ hk=>z1.get (by omega) (by omega);have hal:=ha.fr fl (Nat.le_refl _);have lel:=z1.le;have two:decide ((k:Int)<2)=decide (k<2):=decide_eq_decide.2 (by omega);refine seq_reg fun K hn hp=> ?_;simp only [sw.down,rE,reduceIte,rL,rA,rM,rD,sv.down,al90,o1,o2,o3,o4,o5,y1,y2,y3,y5,onev,g3,g4,g8,g39,g40,two];refine hn _ _ ?_;clear hn hp K;by_cases hk2:k<2
   ·refine seq_cond true (by simp only [sw.down,rE,reduceIte,rL,rA,rM,rD,sv.down,al90,o1,o2,o3,o4,o5,y1,y2,y3,y5,onev,g3,g4,g8,g39,g40,hk2]) (fun _=> ?_) (fun hx=>by cases hx);refine seq_skip ?_;refine seq_block fun KB C1 C2 C3 C4 C5=> ?_;obtain rfl|rfl:k=0∨k=1:=by omega
    ·have g40:tm.get 40=some (iv 0):=g40;have z3:hl.t.get m3=some (.cells [iv 0,iv 0] 134):=by simpa using z2
     refine seq_reg fun K hn hp=> ?_;simp only [sw.down,rE,reduceIte,rL,rA,rM,rD,sv.down,al90,o1,o2,o3,o4,o5,y1,y2,y3,y5,onev,g3,g4,g8,g39,g40,(ix135 (.func 80) (.func 81) _ _ _ _).1];refine hn _ _ ?_;clear hn hp K;refine reg fun K hn hp=> ?_;simp only [sw.down,rE,reduceIte,rL,rA,rM,rD,sv.down,al90,o1,o2,o3,o4,o5,y1,y2,y3,y5,onev,g3,g4,g8,g39,g40,y2'];refine callA_fn (sok xt) (least_c xt hl w hal v G _ M _ _ sgl (by omega) r0 c0 q n th wo ht.at_ (by omega) (by omega) hrn hcn ht.n3 ht.n1 his.k0 his.k5 ht.h1 ht.h60 hlo fun m4 hm4=> ?_);rw [←Wk.give_q ht];simp only [sw.down,rE,reduceIte,rL,rA,rM,rD,sv.down,al90,o1,o2,o3,o4,o5,y1,y2,y3,y5,onev,g3,g4,g8,g39,g40,(ia134 m3).1,z3];refine hn _ _ (C1 _ ?_);clear hn hp K;refine reg fun K hn hp=> ?_;simp only [sw.down,rE,reduceIte,rL,rA,rM,rD,sv.down,al90,o1,o2,o3,o4,o5,y1,y2,y3,y5,onev,g3,g4,g8,g39,g40,w01,w12];refine hn _ _ ?_;clear hn hp K;refine ⟨⟨1,_,_,rfl,by omega,(by simp [T.get_put,g3]),(by simp [T.get_put,g4]),(by simp [T.get_put,g8]),(by simp [T.get_put,g39]),(by simp [T.get_put]),(z1.up (Nat.le_of_lt hm4)).set (.inr rfl) _,?_⟩,by simp [T.get_put,g40]⟩;rw [Hp.set_t,T.get_put,if_pos rfl];rfl
    ·have g40:tm.get 40=some (iv 1):=g40;have z3:hl.t.get m3=some (.cells [iv (w.give (gLo G) ((r0:Int),(c0:Int),(q:Int))),iv 0] 134):=by simpa using z2
     refine seq_reg fun K hn hp=> ?_;simp only [sw.down,rE,reduceIte,rL,rA,rM,rD,sv.down,al90,o1,o2,o3,o4,o5,y1,y2,y3,y5,onev,g3,g4,g8,g39,g40,(ix135 (.func 80) (.func 81) _ _ _ _).2];refine hn _ _ ?_;clear hn hp K;refine reg fun K hn hp=> ?_;simp only [sw.down,rE,reduceIte,rL,rA,rM,rD,sv.down,al90,o1,o2,o3,o4,o5,y1,y2,y3,y5,onev,g3,g4,g8,g39,g40,y2'];refine callA_fn (sok xt) (most_c xt hl w hal v G _ M _ _ sgl (by omega) r0 c0 q n th wo ht.at_ (by omega) (by omega) hrn hcn ht.n3 ht.n1 his.k0 his.k5 ht.h1 ht.h60 hhi fun m4 hm4=> ?_);rw [←Wk.give_q ht];simp only [sw.down,rE,reduceIte,rL,rA,rM,rD,sv.down,al90,o1,o2,o3,o4,o5,y1,y2,y3,y5,onev,g3,g4,g8,g39,g40,(ia134 m3).2,z3];refine hn _ _ (C1 _ ?_);clear hn hp K;refine reg fun K hn hp=> ?_;simp only [sw.down,rE,reduceIte,rL,rA,rM,rD,sv.down,al90,o1,o2,o3,o4,o5,y1,y2,y3,y5,onev,g3,g4,g8,g39,g40,w01,w12];refine hn _ _ ?_;clear hn hp K;refine ⟨⟨2,_,_,rfl,by omega,(by simp [T.get_put,g3]),(by simp [T.get_put,g4]),(by simp [T.get_put,g8]),(by simp [T.get_put,g39]),(by simp [T.get_put]),(z1.up (Nat.le_of_lt hm4)).set (.inr rfl) _,?_⟩,by simp [T.get_put,g40]⟩;rw [Hp.set_t,T.get_put,if_pos rfl];rfl
   ·refine seq_cond false (by simp only [sw.down,rE,reduceIte,rL,rA,rM,rD,sv.down,al90,o1,o2,o3,o4,o5,y1,y2,y3,y5,onev,g3,g4,g8,g39,g40,hk2]) (fun hx=>by cases hx) (fun _=> ?_);refine seq_exit (A2 _ ?_);obtain rfl:k=2:=by omega
    have z3:hl.t.get m3=some (.cells [iv (w.give (gLo G) ((r0:Int),(c0:Int),(q:Int))),iv (w.give (gHi G) ((r0:Int),(c0:Int),(q:Int)))] 134):=by simpa using z2
    have y3':=(z1.get (k:=h.n+2) (by omega) (by omega)).trans y3;refine seq_reg fun K hn hp=> ?_;simp only [sw.down,rE,reduceIte,rL,rA,rM,rD,sv.down,al90,o1,o2,o3,o4,o5,y1,y2,y3,y5,onev,g3,g4,g8,g39,g40,(ia134 m3).1,(ia134 m3).2,z3,y3',bd43];refine hn _ _ ?_;clear hn hp K;refine wpc_ret (end_c1 (v:= .agg [iv (w.give (gLo G) ((r0:Int),(c0:Int),(q:Int))),iv (w.give (gHi G) ((r0:Int),(c0:Int),(q:Int)))]) res30 ?_ ⟨?_,?_⟩)
    ·simp only [sw.down,rE,reduceIte,rL,rA,rM,rD,sv.down,al90,o1,o2,o3,o4,o5,y1,y2,y3,y5,onev,g3,g4,g8,g39,g40]
    ·simp [T.get_put,Wk.gives,e1,e2,hb,e3]
    ·exact fl.set (by omega) (by omega) _
  ·exact ⟨0,h6,_,rfl,(by omega),(by simp [T.get_put]),(by simp [T.get_put]),(by simp [T.get_put]),(by simp [T.get_put]),(by simp [T.get_put]),FrM.refl (Nat.le_refl _),by simpa using s6⟩
end Go.Proofs.Kn
namespace Go.Proofs.Kn
open Go Go.Ev
theorem is_rc {m:Mp} (hr:m.Rect) (r c:Int):m.is r c 2=decide (m.rc r c=2):=by
 rw [Mp.rc_in hr,Mp.is];cases m.inside r c<;>simp
theorem crkIn_iff {r0 c0 n:Nat} {k:Int×Int×Bool}:crkIn r0 c0 n k=true↔(((r0:Int)≤k.1∧k.1≤r0+(n - 1))∧(c0:Int)≤k.2.1∧k.2.1≤c0+(n - 1))∧((r0:Int)≤beyR k∧beyR k≤r0+(n - 1))∧(c0:Int)≤beyC k∧beyC k≤c0+(n - 1):=by
 simp only [crkIn,hasB,Bool.and_eq_true,inB_iff']
theorem crk_iff {m:Mp} {r c:Int} {b:Bool}:m.crk r c b=true↔(r,c,b)∈m.ks:=by
 simp only [Mp.crk,List.any_eq_true,Bool.and_eq_true,decide_eq_true_eq];constructor
 ·rintro ⟨⟨x,y,z⟩,h1,rfl,rfl,rfl⟩;exact h1
 ·intro h;exact ⟨_,h,rfl,rfl,rfl⟩
theorem rcan_same {m:Mp} (hr:m.Rect) (R C n:Nat) (a b:Int) (hR:R≤100) (hC:C≤100):m.rcan R C n a b=m.pcan R C n a b:=by
 rw [Bool.eq_iff_iff];simp only [Mp.rcan,Mp.pcan,Bool.and_eq_true,all_range,Mp.rcBad,Bool.not_eq_true',Bool.or_eq_false_iff,Bool.and_eq_false_iff,decide_eq_false_iff_not,is_rc hr,List.any_eq_false,crkIn_iff,Bool.not_eq_false',decide_eq_true_eq];rw [inB_iff',inB_iff'];have hc: ∀r c b,m.crk r c b=false↔(r,c,b) ∉ m.ks:=fun r c b=>by
  rw [←crk_iff,Bool.not_eq_true]
 simp only [hc];constructor
 ·rintro ⟨h1,h2,h3⟩;refine ⟨h1,h2,fun i hi j hj=>(h3 i hi j hj).1,?_⟩;rintro ⟨x,y,z⟩ hk ⟨⟨⟨p1,p2⟩,p3,p4⟩,⟨p5,p6⟩,p7,p8⟩;simp only at p1 p2 p3 p4;obtain ⟨i,rfl⟩: ∃i:Nat,x=((a.toNat+i:Nat):Int):=⟨(x - a.toNat).toNat,by omega⟩;obtain ⟨j,rfl⟩: ∃j:Nat,y=((b.toNat+j:Nat):Int):=⟨(y - b.toNat).toNat,by omega⟩;obtain ⟨_,q2,q3⟩:=h3 i (by omega) j (by omega);cases z with
  |true=>
   simp only [beyR,beyC,if_true] at p5 p6 p7 p8;rw [wrap_i64 _ (by omega) (by omega)] at p5 p6;rcases q3 with q3|q3
   ·omega
   ·exact q3 hk
  |false=>
   simp only [beyR,beyC,Bool.false_eq_true,if_false] at p5 p6 p7 p8;rw [wrap_i64 _ (by omega) (by omega)] at p7 p8;rcases q2 with q2|q2
   ·omega
   ·exact q2 hk
 ·rintro ⟨h1,h2,h3,h4⟩;refine ⟨h1,h2,fun i hi j hj=>⟨h3 i hi j hj,?_,?_⟩⟩
  ·by_cases q:(((b.toNat+j:Nat):Int))+1<((b.toNat+n:Nat):Int)
   ·refine .inr fun hk=>h4 _ hk ?_;simp only [beyR,beyC,Bool.false_eq_true,if_false];rw [wrap_i64 _ (by omega) (by omega)];omega
   ·exact .inl q
  ·by_cases q:(((a.toNat+i:Nat):Int))+1<((a.toNat+n:Nat):Int)
   ·refine .inr fun hk=>h4 _ hk ?_;simp only [beyR,beyC,if_true];rw [wrap_i64 _ (by omega) (by omega)];omega
   ·exact .inl q
theorem rowMin_congr {t t':Nat→Int} {c:Nat}: ∀(n:Nat) (a:Int),(∀j,j<n→t (c+j)=t' (c+j))→rowMin t c n a=rowMin t' c n a
 |0,_,_=>rfl
 |n+1,a,h=>by simp only [rowMin];rw [rowMin_congr n a fun j hj=>h j (by omega),h n (by omega)]
theorem blkMin_congr {t t':Nat→Nat→Int} {r c n:Nat}: ∀k:Nat,(∀i,i<k→ ∀j,j<n→t (r+i) (c+j)=t' (r+i) (c+j))→blkMin t r c n k=blkMin t' r c n k
 |0,_=>rfl
 |k+1,h=>by
  simp only [blkMin];rw [blkMin_congr k fun i hi j hj=>h i (by omega) j hj,rowMin_congr n _ fun j hj=>h k (by omega) j hj]
end Go.Proofs.Kn
