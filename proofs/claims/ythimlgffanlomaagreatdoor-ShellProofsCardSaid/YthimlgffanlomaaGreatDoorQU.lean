/- Parts. -/
import Derived.Test.YthimlgffanlomaaGreatDoorQS
set_option linter.all false
open Nat renaming reduceEqDiff → rE, reduceLeDiff → rD, reduceAdd → rA, reduceMul → rM, reduceLT → rL
open Go.Ev.T renaming get_put → xZZ
open Go.Ev.Hp renaming up_up → xZY, up_n → xZW
open Nat renaming le_refl → xZX, add_assoc → xZR
open Go.Ev.FnA renaming walk → xZV, calm → xZU
open List renaming getElem?_map → xZT, getElem?_eq_some_iff → xZS
namespace Go.Proofs.Kn
open Go Go.Ev
set_option maxRecDepth 100000
set_option maxHeartbeats 1000000
set_option maxHeartbeats 4000000
set_option maxHeartbeats 4000000
set_option maxHeartbeats 4000000
theorem ft141 (xt:Xt):(SE xt).ft.get 90=some Tryz.f90:=by kernel_rfl
theorem res141:Tryz.f90.results.toList=[.tmp 2]:=by kernel_rfl
def uP (t:Int×Int×Int):Bool:= !inB t.1 1 3 || (!inB t.2.1 1 60 || !inB t.2.2 1 100)
theorem badT_ok (xt:Xt) (h:Hp) (t:Int×Int×Int):FnA (SE xt) 90 [.agg [iv t.1,iv t.2.1,iv t.2.2]] h (fun r h'=>r= .ret (.val (.bool (uP t)))/\Fr h.n h h'):=by
 refine xZV (sok xt) (ft141 xt) rfl 19 rfl ?_;refine qA fun K hn hp=> ?_;simp only [sw.1,reduceIte,rL];apply hn;obtain ⟨h1,hh1,nh1,sh1,_,fbh1⟩:=nwE h (.cells [iv t.1,iv t.2.1,iv t.2.2] 111);rw [<-hh1];have fh1:=fbh1;refine qA fun K1 hn hp=> ?_;simp only [sy.1,rE,reduceIte,rL,sh1];refine cAS (pZ xt _ _ _ _ fun m1 hm1=> ?_);cases e1:(decide (1<=t.1) && decide (t.1<=3))
 ·simp only [sy.1,rE,reduceIte,rL];refine hn _ _ (qD (qK res141 ⟨?_,fh1.up (by omega)⟩));simp [xZZ,uP,inB,e1]
 simp only [sy.1,rE,reduceIte,rL,sh1];refine cAS (pZ xt _ _ _ _ fun m2 hm2=> ?_);simp only [xZW] at hm2;cases e2:(decide (1<=t.2.1) && decide (t.2.1<=60))
 ·simp only [sy.1,rE,reduceIte,rL,xZY];refine hn _ _ (qD (qK res141 ⟨?_,fh1.up (by omega)⟩));simp [xZZ,uP,inB,e1,e2]
 simp only [sy.1,rE,reduceIte,rL,sh1,xZY];refine cAS (pZ xt _ _ _ _ fun m3 hm3=> ?_);simp only [xZW] at hm3;simp only [sy.1,rE,reduceIte,rL,xZY];refine hn _ _ (qD (qK res141 ⟨?_,fh1.up (by omega)⟩));simp [xZZ,uP,inB,e1,e2]
theorem badT_c (xt:Xt) (h:Hp) (t:Int×Int×Int) {K:KP} (hk: ∀n,h.n<n->K (.ret (.val (.bool (uP t)))) (h.up n)):FnA (SE xt) 90 [.agg [iv t.1,iv t.2.1,iv t.2.2]] h K:=xZU (badT_ok xt h t) hk
theorem ts_asks (xt:Xt) (h:Hp) (w:Wk):kR (SE xt) h (.val (.func (.func 90) #[] #[])) (fun c=> .agg (c.map .val)) (w.ts.map t3) (fun c=>match c with|[.int _ x,.int _ y,.int _ z]=>uP (x,y,z)|_=>false):=by
 intro n c K hn hc hk;obtain ⟨g,_,rfl⟩:=List.mem_map.1 hc;exact cAS (badT_c xt _ g fun n' hn'=>by have:=hk n' hn';rw [xZY];exact this)
theorem any_ts (w:Wk):((w.ts.map t3).any fun c=>match c with|[.int _ x,.int _ y,.int _ z]=>uP (x,y,z)|_=>false)=w.ts.any uP:=by
 rw [List.any_map];rfl
theorem ft71 (xt:Xt):(SE xt).ft.get 33=some Tryz.f33:=by kernel_rfl
theorem res71:Tryz.f33.results.toList=[.tmp 2]:=by kernel_rfl
theorem Wk.At.len {w:Wk} {xt:Xt} {h:Hp} (a:w.At xt h) (h':Hp):zI tb h' 28 w.vt=some w.ts.length:=by
 have:=a.ts.len (h':=h') qAg rfl;simpa using this
def Wk.ok (w:Wk):Bool:=w.m.ok && (inB w.ts.length 1 4 && (inB w.kerf 0 5 && !w.ts.any uP))
theorem qFy (xt:Xt) (h:Hp) (w:Wk) (ha:w.At xt h) {K:KP} (hk: ∀n,h.n<n->K (.ret (.val (.bool w.ok))) (h.up n)):FnA (SE xt) 33 [w.av] h K:=by
 refine xZU ?_ hk;clear hk K;refine xZV (sok xt) (ft71 xt) rfl 23 rfl ?_;obtain ⟨o1,o2,o3,o4,o5⟩:=ha.ones;have hlen:=ha.len;refine qA fun K hn hp=> ?_;simp only [sw.1,reduceIte,rL];apply hn;obtain ⟨h1,hh1,nh1,sh1,_,fbh1⟩:=nwE h (.cells w.cs 30);rw [<-hh1];have fh1:=fbh1;have ha1:=ha.fr fh1 (xZX _);refine qA fun K1 hn hp=> ?_;simp only [sy.1,rE,reduceIte,rL,rA,rD,sh1];refine cAS (isMap_c xt _ w.m ha1.m fun m1 hm1=> ?_);cases e1:w.m.ok
 ·simp only [sy.1,rE,reduceIte,rL];refine hn _ _ (qD (qK res71 ⟨?_,fh1.up (by omega)⟩));simp [xZZ,Wk.ok,e1]
 simp only [sy.1,rE,reduceIte,rL,syw.1,hlen,sh1];refine cAS (pZ xt _ _ _ _ fun m2 hm2=> ?_);simp only [xZW] at hm2;cases e2:(decide ((1:Int)<=w.ts.length) && decide ((w.ts.length:Int)<=4))
 ·simp only [sy.1,rE,reduceIte,rL,xZY];refine hn _ _ (qD (qK res71 ⟨?_,fh1.up (by omega)⟩));have e2':inB w.ts.length 1 4=false:=e2;simp [xZZ,Wk.ok,e1,e2']
 simp only [sy.1,rE,reduceIte,rL,sh1,xZY];refine cAS (pZ xt _ _ _ _ fun m3 hm3=> ?_);simp only [xZW] at hm3;have e2':inB w.ts.length 1 4=true:=e2;cases e3:(decide (0<=w.kerf) && decide (w.kerf<=5))
 ·simp only [sy.1,rE,reduceIte,rL,xZY];refine hn _ _ (qD (qK res71 ⟨?_,fh1.up (by omega)⟩));have e3':inB w.kerf 0 5=false:=e3;simp [xZZ,Wk.ok,e1,e2',e3']
 simp only [sy.1,rE,reduceIte,rL,sh1,xZY];have e3':inB w.kerf 0 5=true:=e3;refine cAS (any140_c xt _ w.vt _ _ _ (ha1.ts.up (by omega)) (by have:=ha1.lt;simpa using this) (ts_asks xt _ w) fun m4 hm4=> ?_);simp only [xZW] at hm4;rw [any_ts];simp only [sy.1,rE,reduceIte,rL,xZY];refine hn _ _ (qD (qK res71 ⟨?_,fh1.up (by omega)⟩));simp [xZZ,Wk.ok,e1,e2',e3']
theorem ft15 (xt:Xt):(SE xt).ft.get 4=some Tryz.f4:=by kernel_rfl
theorem res15:Tryz.f4.results.toList=[.tmp 2]:=by kernel_rfl
def Wk.brief (w:Wk):Bool:=w.m.short && decide ((w.ts.length:Int)<=6)
theorem brief_c (xt:Xt) (h:Hp) (w:Wk) (ha:w.At xt h) {K:KP} (hk: ∀n,h.n<n->K (.ret (.val (.bool w.brief))) (h.up n)):FnA (SE xt) 4 [w.av] h K:=by
 refine xZU ?_ hk;clear hk K;refine xZV (sok xt) (ft15 xt) rfl 12 rfl ?_;obtain ⟨o1,o2,o3,o4,o5⟩:=ha.ones;have hlen:=ha.len;refine qA fun K hn hp=> ?_;simp only [sw.1,reduceIte,rL];apply hn;obtain ⟨h1,hh1,nh1,sh1,_,fbh1⟩:=nwE h (.cells w.cs 30);rw [<-hh1];have fh1:=fbh1;have ha1:=ha.fr fh1 (xZX _);refine qA fun K1 hn hp=> ?_;simp only [sy.1,rE,reduceIte,rL,rA,rD,sh1];refine cAS (short_c xt _ w.m ha1.m fun m1 hm1=> ?_);cases e1:w.m.short
 ·simp only [sy.1,rE,reduceIte,rL];refine hn _ _ (qD (qK res15 ⟨?_,fh1.up (by omega)⟩));simp [xZZ,Wk.brief,e1]
 simp only [sy.1,rE,reduceIte,rL,syw.1,hlen,sh1];refine hn _ _ (qD (qK res15 ⟨?_,fh1.up (by omega)⟩));simp [xZZ,Wk.brief,e1]
theorem ft31 (xt:Xt):(SE xt).ft.get 98=some Tryz.f98:=by kernel_rfl
theorem res31:Tryz.f98.results.toList=[.tmp 4]:=by kernel_rfl
theorem rtube_c (xt:Xt) (h:Hp) (w:Wk) (ha:w.At xt h) (t:Int) {K:KP} (hk: ∀n,h.n<n->K (.ret (.val (.bool (inB t 0 ((w.ts.length:Int) - 1))))) (h.up n)):FnA (SE xt) 98 [w.av,iv t] h K:=by
 refine xZU ?_ hk;clear hk K;refine xZV (sok xt) (ft31 xt) rfl 11 rfl ?_;obtain ⟨o1,o2,o3,o4,o5⟩:=ha.ones;have hlen:=ha.len;have hlt:=ha.lt;refine qA fun K hn hp=> ?_;simp only [sw.1,rE,reduceIte,rL];apply hn;obtain ⟨h1,hh1,nh1,sh1,_,fbh1⟩:=nwE h (.cells w.cs 30);rw [<-hh1];have fh1:=fbh1;refine qA fun K1 hn hp=> ?_;simp only [sy.1,rE,reduceIte,rL,syw.1,hlen,sh1];have hw:IntKind.i64.wrap ((w.ts.length:Int) - 1)=(w.ts.length:Int) - 1:=qF _ (by omega) (by omega);rw [hw];refine cAS (kG xt _ _ _ _ fun m1 hm1=> ?_);simp only [sy.1,rE,reduceIte,rL];refine hn _ _ (qD (qK res31 ⟨?_,fh1.up (by omega)⟩));simp [xZZ,inB]
theorem al90 (h:Hp):jT tb h 111=some (.ptr h.n 0,h.new (.cells (([(.int .i64 0),(.int .i64 0),(.int .i64 0)]:List Value).map .val) 111)):=yP yF rfl
theorem ft21 (xt:Xt):(SE xt).ft.get 47=some Tryz.f47:=by kernel_rfl
theorem res21:Tryz.f47.results.toList=[.tmp 2]:=by kernel_rfl
theorem Wk.t_no {w:Wk} {t:Int×Int×Int} (hm:t∈w.ts) (hb:uP t=true):w.ok=false:=by
 have:w.ts.any uP=true:=List.any_eq_true.2 ⟨t,hm,hb⟩;simp [Wk.ok,this]
theorem rwork_c (xt:Xt) (h:Hp) (w:Wk) (ha:w.At xt h) {K:KP} (hk: ∀n,h.n<n->K (.ret (.val (.bool w.ok))) (h.up n)):FnA (SE xt) 47 [w.av] h K:=by
 refine xZU ?_ hk;clear hk K;refine xZV (sok xt) (ft21 xt) rfl 47 rfl ?_;obtain ⟨o1,o2,o3,o4,o5⟩:=ha.ones;have hlen:=ha.len;have hlt:=ha.lt;refine qA fun K hn hp=> ?_;simp only [sw.1,reduceIte,rL];apply hn;clear hn hp K;obtain ⟨h1,hh1,nh1,sh1,_,fbh1⟩:=nwE h (.cells w.cs 30);rw [<-hh1];have fh1:=fbh1;refine qB fun K hn hp=> ?_;simp only [sy.1,rL];apply hn;clear hn hp K;refine qC fun KG G1 G2 G3 G4 G5=> ?_;refine qI (sok xt) (fun st=> ∃(i:Nat) (hg:Hp) (tm:T AV),st=⟨tm,47,hg,[]⟩/\i<=w.ts.length/\tm.get 1=some (.ptr h.n 0)/\tm.get 3=some (iv i)/\Fr h1.n h1 hg/\ ∀x∈w.ts.take i,uP x=false) (fun st=>w.ts.length - (match st.tm.get 3 with|some (.val (.int _ n))=>n.toNat|_=>0)) ?_ ?_
 ·rintro st ⟨i,hg,tm,rfl,hkG,g1,g3,fg,hallg⟩;have muG:=g3;have fgh:=fh1.trans fg (by omega);have q1:=(fg.at_ h.n (.inl (by omega))).trans sh1;refine qB fun K hn hp=> ?_;simp only [sy.1,rE,reduceIte,rL,syw.1,hlen,qR,g1,g3,q1];apply hn;clear hn hp K;by_cases hi:i<w.ts.length
  ·refine qX (by simp only [sy.1,rE,reduceIte,hi]) ?_;have hag:=ha.fr fgh (xZX _);obtain ⟨x,hx⟩: ∃x,w.ts[i]? =some x:=⟨_,List.getElem?_eq_getElem hi⟩;have i1:=hag.ts.idx qAg rfl yF rfl (i:=i) (by simpa using hi) (k:= .i64);have i2:=hag.ts.loadA yF rfl rfl (i:=i) (c:=Kn.t3 x) (by rw [xZT,hx];rfl);have gno:uP x=true->w.ok=false:=fun hb=>Wk.t_no (List.mem_of_getElem? hx) hb;have gyes:uP x=false-> ∀y∈w.ts.take (i+1),uP y=false:=fun hb=>by
    rw [List.take_succ,hx];intro y hy;simp only [Option.toList_some,List.mem_append,List.mem_singleton] at hy;rcases hy with hy|rfl
    ·exact hallg y hy
    ·exact hb
   obtain ⟨xr,xc,xs⟩:=x;simp only [Kn.t3,List.map_cons,List.map_nil] at i2;refine zD ?_;refine qC fun KH H1 H2 H3 H4 H5=> ?_;refine qA fun K hn hp=> ?_;simp only [sw.1,rE,reduceIte,rL,rA,al90,g1,g3,i1,i2,q1];apply hn;clear hn hp K;obtain ⟨h9,hh9,nh9,sh9,_,fbh9⟩:=nwS hg (.cells [iv 0,iv 0,iv 0] 111) (.cells [iv xr,iv xc,iv xs] 111);rw [<-hh9];have f9:=fg.trans fbh9 fg.lo;have retG: ∀(n:Nat) (tm:T AV),h9.n<=n->tm.get 2=some (.val (.bool false))->uP (xr,xc,xs)=true->xX (SE xt) Tryz.f47 (fun r h'=>r= .ret (.val (.bool w.ok))/\Fr h.n h h') .ret ⟨tm,47,h9.up n,[]⟩:=fun n tm hn g hm=>qK res21 ⟨by simp [g,gno hm],(fh1.trans f9 (by omega)).up hn⟩;refine qA fun K hn hp=> ?_;simp only [sy.1,rE,reduceIte,rL,sh9];refine cAS (kG xt _ _ _ _ fun n10 hn10=> ?_);cases c2:inB xr 1 3
   ·have c2':=c2;unfold inB at c2';simp only [sy.1,rE,reduceIte,rL,c2'];apply hn;clear hn hp K;refine wcT (by simp only [sy.1,rE,reduceIte]) ?_;refine qA fun K hn hp=> ?_;simp only [sy.1,rL];apply hn;clear hn hp K;refine qD (H4 _ (G4 _ (retG _ _ (by omega) (by simp [xZZ]) (by simp [uP,c2]))))
   have c2':=c2;unfold inB at c2';simp only [sy.1,rE,reduceIte,rL,sh9,c2'];refine cAS (kG xt _ _ _ _ fun n11 hn11=> ?_);simp only [xZW] at hn11;cases c3:inB xc 1 60
   ·have c3':=c3;unfold inB at c3';simp only [sy.1,rE,reduceIte,rL,c3',xZY];apply hn;clear hn hp K;refine wcT (by simp only [sy.1,rE,reduceIte]) ?_;refine qA fun K hn hp=> ?_;simp only [sy.1,rL];apply hn;clear hn hp K;refine qD (H4 _ (G4 _ (retG _ _ (by omega) (by simp [xZZ]) (by simp [uP,c2,c3]))))
   have c3':=c3;unfold inB at c3';simp only [sy.1,rE,reduceIte,rL,sh9,c3',xZY];refine cAS (kG xt _ _ _ _ fun n12 hn12=> ?_);simp only [xZW] at hn12;cases c4:inB xs 1 100
   ·have c4':=c4;unfold inB at c4';simp only [sy.1,rE,reduceIte,rL,c4',xZY];apply hn;clear hn hp K;refine wcT (by simp only [sy.1,rE,reduceIte]) ?_;refine qA fun K hn hp=> ?_;simp only [sy.1,rL];apply hn;clear hn hp K;refine qD (H4 _ (G4 _ (retG _ _ (by omega) (by simp [xZZ]) (by simp [uP,c2,c3,c4]))))
   have c4':=c4;unfold inB at c4';simp only [sy.1,rE,reduceIte,rL,c4',xZY];apply hn;clear hn hp K;refine wcF (by simp only [sy.1,rE,reduceIte]) ?_;refine qN (H1 _ ?_);refine reg fun K hn hp=> ?_;simp only [sy.1,rE,reduceIte,rL,g3,qE hi hlt];apply hn;clear hn hp K;refine ⟨⟨i+1,h9.up n12,_,rfl,by omega,(by simp [xZZ,g1]),(by simp [xZZ]),(fg.trans fbh9 fg.lo).up (by omega),gyes (by simp [uP,c2,c3,c4])⟩,by simpa [xZZ,muG] using (by omega:w.ts.length - (i+1)<w.ts.length - i)⟩
  ·refine qU (by simp only [sy.1,rE,reduceIte,hi]) ?_;have hall:w.ts.any uP=false:=by
    rw [List.any_eq_false];intro x hx;have:=hallg x (by rw [List.take_of_length_le (by omega)];exact hx);simp [this]
   have hag:=ha.fr fgh (xZX _);refine qG (G2 _ ?_);refine qA fun K hn hp=> ?_;simp only [sy.1,rE,reduceIte,rL,rA,rD,g1,q1];refine cAS (rmap_c xt hg w.m hag.m fun n13 hn13=> ?_);cases e1:w.m.ok
   ·simp only [sy.1,rE,reduceIte,rL];refine hn _ _ (qD (qK res21 ⟨?_,fgh.up (by omega)⟩));simp [xZZ,Wk.ok,e1]
   simp only [sy.1,rE,reduceIte,rL,syw.1,hlen,g1,q1];refine cAS (kG xt _ _ _ _ fun n14 hn14=> ?_);simp only [xZW] at hn14;cases e2:(decide ((1:Int)<=w.ts.length) && decide ((w.ts.length:Int)<=4))
   ·simp only [sy.1,rE,reduceIte,rL,xZY];refine hn _ _ (qD (qK res21 ⟨?_,fgh.up (by omega)⟩));have e2':inB w.ts.length 1 4=false:=e2;simp [xZZ,Wk.ok,e1,e2']
   simp only [sy.1,rE,reduceIte,rL,g1,q1,xZY];refine cAS (kG xt _ _ _ _ fun n15 hn15=> ?_);simp only [xZW] at hn15;simp only [sy.1,rE,reduceIte,rL,xZY];refine hn _ _ (qD (qK res21 ⟨?_,fgh.up (by omega)⟩));obtain ⟨z1,z2⟩:=Bool.and_eq_true_iff.1 e2;have z1:=of_decide_eq_true z1;have z2:=of_decide_eq_true z2;simp [xZZ,Wk.ok,e1,hall,inB]
   intros
   omega
 ·exact ⟨0,h1,_,rfl,(by omega),(by simp [xZZ]),(by simp [xZZ]),Fr.refl (xZX _),fun x hx=>absurd hx (by simp)⟩
theorem qGd {P:Program} {t:TypeId} {ox oy:Operand} (a b:Int) (hb:b≠0):pQ P tb .quo t ox oy (iv a) (iv b)=some (iv (IntKind.i64.wrap (a.tdiv b))):=by
 have e2:Op.intDiv .quo .i64 a b=pure (.int .i64 (IntKind.i64.wrap (a.tdiv b))):=by unfold Op.intDiv;rw [if_neg hb]
 have e3:qQ P (do eqGuard .quo t ox oy (.int .i64 a) (.int .i64 b);binOp .quo t (.int .i64 a) (.int .i64 b))=some (.int .i64 (IntKind.i64.wrap (a.tdiv b))):=by
  show qQ P (Op.intDiv .quo .i64 a b)=_;rw [e2];rfl
 show (match qQ P (do eqGuard .quo t ox oy (.int .i64 a) (.int .i64 b);binOp .quo t (.int .i64 a) (.int .i64 b)) with|some r=>some (AV.val r)|none=>none)=_;rw [e3]
abbrev qBx (s:Int×Int×Int):AV:= .agg [iv s.1,iv s.2.1,iv s.2.2]
def vZ (t:Nat->Int) (c:Nat):Nat->Int->Int
 |0,a=>a
 |n+1,a=>min (vZ t c n a) (t (c+n))
def zC (t:Nat->Nat->Int) (r c n:Nat):Nat->Int
 |0=>60
 |k+1=>vZ (t (r+k)) c n (zC t r c n k)
@[simp] theorem rowMin_0 (t:Nat->Int) (c:Nat) (a:Int):vZ t c 0 a=a:=rfl
@[simp] theorem blkMin_0 (t:Nat->Nat->Int) (r c n:Nat):zC t r c n 0=60:=rfl
theorem qDN (t:Nat->Int) (c:Nat): ∀(n:Nat) (a:Int),vZ t c n a<=a
 |0,a=>Int.le_refl a
 |n+1,a=>by have:=qDN t c n a;simp only [vZ];omega
theorem qDO {t:Nat->Int} {c:Nat} {b:Int}: ∀(n:Nat) (a:Int),b<=a->(∀j,j<n->b<=t (c+j))->b<=vZ t c n a
 |0,a,ha,_=>ha
 |n+1,a,ha,h=>by
  have h1:=qDO n a ha fun j hj=>h j (by omega);have h2:=h n (by omega);simp only [vZ];omega
theorem bP (t:Nat->Nat->Int) (r c n:Nat): ∀k:Nat,zC t r c n k<=60
 |0=>Int.le_refl _
 |k+1=>Int.le_trans (qDN _ _ _ _) (bP t r c n k)
theorem bQ {t:Nat->Nat->Int} {r c n:Nat} {b:Int} (hb:b<=60): ∀k:Nat,(∀i,i<k-> ∀j,j<n->b<=t (r+i) (c+j))->b<=zC t r c n k
 |0,_=>hb
 |k+1,h=>qDO n _ (bQ hb k fun i hi=>h i (by omega)) (h k (by omega))
theorem ft35 (xt:Xt):(SE xt).ft.get 105=some Tryz.f105:=by kernel_rfl
theorem res35:Tryz.f105.results.toList=[.tmp 6]:=by kernel_rfl
theorem rslices_c (xt:Xt) (h:Hp) (w:Wk) (ha:w.At xt h) (r0 c0 q n:Nat) (th wo:Int) (hx:w.ts[q]? =some ((n:Int),th,wo)) (g:Gr) (hg:g.At xt h) (R C:Nat) (hR:R<=100) (hC:C<=100) (hgl:g.ll.length=R) (hgr: ∀r,r<R->(g.ll.getD r []).length=C) (hrn:r0+n<=R) (hcn:c0+n<=C) (hk1:0<=w.kerf) (hk2:w.kerf<=5) (ht1:1<=th) (ht2:th<=60) (hpos: ∀i,i<n-> ∀j,j<n->0<=g.t (r0+i) (c0+j))
  {K:KP} (hk: ∀m,h.n<m->K (.ret (iv ((zC g.t r0 c0 n n+w.kerf).tdiv (th+w.kerf)))) (h.up m)):FnA (SE xt) 105 [w.av,qBx ((r0:Int),(c0:Int),(q:Int)),g.v] h K:=by
 refine xZU ?_ hk;clear hk K;refine xZV (sok xt) (ft35 xt) rfl 58 rfl ?_;obtain ⟨o1,o2,o3,o4,o5⟩:=ha.ones;have hq:q<w.ts.length:=(xZS.1 hx).1;have i1:=ha.ts.idx qAg rfl yF rfl (i:=q) (by simpa using hq) (k:= .i64);refine qA fun K hn hp=> ?_;simp only [sw.1,rE,reduceIte,rL,rA];apply hn;obtain ⟨h1,hh1,nh1,sh1,_,fbh1⟩:=nwE h (.cells w.cs 30);rw [<-hh1];have fh1:=fbh1;obtain ⟨h2,hh2,nh2,sh2,kh2,fbh2⟩:=nwE h1 (.cells [iv r0,iv c0,iv q] 63);rw [<-hh2];have fh2:Fr h.n h h2:=fh1.trans fbh2 (by omega);simp only [nh1,xZR,rA] at nh2 sh2 kh2;have s1:=(kh2 h.n (by omega)).trans sh1;have ha2:=ha.fr fh2 (xZX _);have i2:=ha2.ts.loadA yF rfl rfl (i:=q) (c:=Kn.t3 ((n:Int),th,wo)) (by rw [xZT,hx];rfl);simp only [Kn.t3,List.map_cons,List.map_nil] at i2;refine qA fun K hn hp=> ?_;simp only [sw.1,rE,reduceIte,rL,rA,al90,i1,sh2,nh2,s1,i2];apply hn;obtain ⟨h3,hh3,nh3,sh3,kh3,fbh3⟩:=nwS h2 (.cells [iv 0,iv 0,iv 0] 111) (.cells [iv n,iv th,iv wo] 111);have fh3:Fr h.n h h3:=fh2.trans fbh3 (by omega);simp only [nh2,xZR,rA] at nh3 sh3 kh3 hh3;rw [<-hh3];have s2:=(kh3 (h.n+1) (by omega)).trans sh2;have s0:=(kh3 h.n (by omega)).trans s1;have hg3:=hg.fr fh3 (xZX _);have w1:IntKind.i64.wrap ((r0:Int)+(n:Int))=((r0+n:Nat):Int):=by rw [qF _ (by omega) (by omega)];simp
 have w2:IntKind.i64.wrap ((c0:Int)+(n:Int))=((c0+n:Nat):Int):=by rw [qF _ (by omega) (by omega)];simp
 refine qA fun K hn hp=> ?_;simp only [sy.1,rL];apply hn;refine qB fun K hn hp=> ?_;simp only [sy.1,rE,reduceIte,rL,s2];apply hn;refine qC fun KA A1 A2 A3 A4 A5=> ?_;refine qI (sok xt) (fun st=> ∃(i:Nat) (tm:T AV),st=⟨tm,58,h3,[]⟩/\i<=(r0+n)/\tm.get 2=some (g.v)/\tm.get 3=some (.ptr h.n 0)/\tm.get 4=some (.ptr (h.n+1) 0)/\tm.get 7=some (.ptr (h.n+2) 0)/\tm.get 8=some (iv (zC g.t r0 c0 n (i - r0)))/\tm.get 9=some (iv i)/\r0<=i) (fun st=>(r0+n) - (match st.tm.get 9 with|some (.val (.int _ n))=>n.toNat|_=>0)) ?_ ?_
 ·rintro st ⟨i,tm,rfl,hkA,g2,g3,g4,g7,g8,g9,hi0⟩;have muA:=g9;refine qB fun K hn hp=> ?_;simp only [sy.1,rE,reduceIte,rL,qR,sh3,s2,w1,g4,g7,g9];apply hn;by_cases hi:i<r0+n
  ·refine qX (by simp only [sy.1,rE,reduceIte,hi]) ?_;obtain ⟨v,j1,j2,j3,j4⟩:=hg3.rowD (i:=i) (by omega);obtain ⟨l,hl⟩: ∃l,l=g.ll.getD i []:=⟨_,rfl⟩;have hlC:l.length=C:=by rw [hl];exact hgr i (by omega)
   rw [<-hl] at j3 j4;refine zD ?_;refine qC fun KB B1 B2 B3 B4 B5=> ?_;refine qA fun K hn hp=> ?_;simp only [sy.1,rE,reduceIte,rL,s2,g4];apply hn;refine qY fun KD D1 D2 D3 D4 D5=> ?_;refine qI (sok xt) (fun st=> ∃(j:Nat) (tm:T AV),st=⟨tm,58,h3,[]⟩/\j<=(c0+n)/\tm.get 2=some (g.v)/\tm.get 3=some (.ptr h.n 0)/\tm.get 4=some (.ptr (h.n+1) 0)/\tm.get 7=some (.ptr (h.n+2) 0)/\tm.get 8=some (iv (vZ (g.t i) c0 (j - c0) (zC g.t r0 c0 n (i - r0))))/\tm.get 9=some (iv i)/\tm.get 10=some (iv j)/\c0<=j) (fun st=>(c0+n) - (match st.tm.get 10 with|some (.val (.int _ n))=>n.toNat|_=>0)) ?_ ?_
   ·rintro st ⟨j,tm,rfl,hkD,g2,g3,g4,g7,g8,g9,g10,hj0⟩;have muD:=g10;refine qB fun K hn hp=> ?_;simp only [sy.1,rE,reduceIte,rL,qR,sh3,s2,w2,g4,g7,g10];apply hn;by_cases hj:j<c0+n
    ·refine qX (by simp only [sy.1,rE,reduceIte,hj]) ?_;obtain ⟨y1,y2⟩:=(j3.m75 (k:=j) (by omega));refine zD ?_;refine qC fun KE E1 E2 E3 E4 E5=> ?_;have hval:min (vZ (g.t i) c0 (j - c0) (zC g.t r0 c0 n (i - r0))) (l.getD j 0)=vZ (g.t i) c0 (j+1 - c0) (zC g.t r0 c0 n (i - r0)):=by
      have e1:j+1 - c0=(j - c0)+1:=by omega
      have e2:c0+(j - c0)=j:=by omega
      rw [e1,vZ,e2,hl];rfl
     refine reg fun K hn hp=> ?_;simp only [sy.1,rE,reduceIte,rL,g2,g8,g9,j1,j2,g10,y1,y2,hval];refine hn _ _ (E1 _ ?_);refine reg fun K hn hp=> ?_;simp only [sy.1,rE,reduceIte,rL,g10,qE hj (show c0+n<=9223372036854775807 by omega)];apply hn;refine ⟨⟨j+1,_,rfl,by omega,(by simp [xZZ,g2]),(by simp [xZZ,g3]),(by simp [xZZ,g4]),(by simp [xZZ,g7]),(by simp [xZZ]),(by simp [xZZ,g9]),(by simp [xZZ]),by omega⟩,by simpa [xZZ,muD] using (by omega:(c0+n) - (j+1)<(c0+n) - j)⟩
    ·refine qU (by simp only [sy.1,rE,reduceIte,hj]) ?_;have hj':j=c0+n:=by omega
     have hv:vZ (g.t i) c0 (j - c0) (zC g.t r0 c0 n (i - r0))=zC g.t r0 c0 n (i+1 - r0):=by
      have e1:i+1 - r0=(i - r0)+1:=by omega
      have e2:r0+(i - r0)=i:=by omega
      have e3:j - c0=n:=by omega
      rw [e1,zC,e2,e3]
     rw [hv] at g8;refine qG (D2 _ ?_);refine B1 _ ?_;refine reg fun K hn hp=> ?_;simp only [sy.1,rE,reduceIte,rL,g9,qE hi (show r0+n<=9223372036854775807 by omega)];apply hn;refine ⟨⟨i+1,_,rfl,by omega,(by simp [xZZ,g2]),(by simp [xZZ,g3]),(by simp [xZZ,g4]),(by simp [xZZ,g7]),(by simp [xZZ,g8]),(by simp [xZZ]),by omega⟩,by simpa [xZZ,muA] using (by omega:(r0+n) - (i+1)<(r0+n) - i)⟩
   ·exact ⟨c0,_,rfl,(by omega),(by simp [xZZ,g2]),(by simp [xZZ,g3]),(by simp [xZZ,g4]),(by simp [xZZ,g7]),(by simp [xZZ,g8]),(by simp [xZZ,g9]),(by simp [xZZ]),xZX _⟩
  ·refine qU (by simp only [sy.1,rE,reduceIte,hi]) ?_;have hi':i - r0=n:=by omega
   rw [hi'] at g8;refine qG (A2 _ ?_);have b1:=bP g.t r0 c0 n n;have b2:=bQ (t:=g.t) (r:=r0) (c:=c0) (n:=n) (b:=0) (by omega) n hpos;obtain ⟨bk,hbk⟩: ∃bk,bk=zC g.t r0 c0 n n:=⟨_,rfl⟩;rw [<-hbk] at b1 b2 g8;have w3:IntKind.i64.wrap (bk+w.kerf)=bk+w.kerf:=qF _ (by omega) (by omega);have w4:IntKind.i64.wrap (th+w.kerf)=th+w.kerf:=qF _ (by omega) (by omega);have e5:(bk+w.kerf).tdiv (th+w.kerf)=(bk+w.kerf) / (th+w.kerf):=Int.tdiv_eq_ediv_of_nonneg (by omega);have e6:=Int.ediv_nonneg (a:=bk+w.kerf) (b:=th+w.kerf) (by omega) (by omega);have e7:=Int.ediv_le_self (th+w.kerf) (show 0<=bk+w.kerf by omega);have w5:IntKind.i64.wrap ((bk+w.kerf).tdiv (th+w.kerf))=(bk+w.kerf).tdiv (th+w.kerf):=qF _ (by omega) (by omega);refine qA fun K hn hp=> ?_;simp only [sy.1,rE,reduceIte,rL,sh3,s0,g3,g7,w3,w4,g8,qGd _ _ (show th+w.kerf≠0 by omega),w5];refine hn _ _ (qD (qK res35 ⟨?_,fh3⟩));simp [xZZ,hbk]
 ·exact ⟨r0,_,rfl,(by omega),(by simp [xZZ]),(by simp [xZZ]),(by simp [xZZ]),(by simp [xZZ]),(by simp [xZZ]),(by simp [xZZ]),xZX _⟩
theorem ft99 (xt:Xt):(SE xt).ft.get 118=some Tryz.f118:=by kernel_rfl
theorem res99:Tryz.f118.results.toList=[.tmp 8]:=by kernel_rfl
def hasB (r0 c0 n:Nat) (x y:Int):Bool:=inB x r0 ((r0:Int)+((n:Int) - 1)) && inB y c0 ((c0:Int)+((n:Int) - 1))
theorem has_c (xt:Xt) (h:Hp) (w:Wk) (ha:w.At xt h) (r0 c0 q n:Nat) (th wo:Int) (hx:w.ts[q]? =some ((n:Int),th,wo)) (hr:r0<=100) (hc:c0<=100) (hn:n<=100) (x y:Int)
  {K:KP} (hk: ∀m,h.n<m->K (.ret (.val (.bool (hasB r0 c0 n x y)))) (h.up m)):FnA (SE xt) 118 [w.av,qBx ((r0:Int),(c0:Int),(q:Int)),iv x,iv y] h K:=by
 refine xZU ?_ hk;clear hk K;refine xZV (sok xt) (ft99 xt) rfl 36 rfl ?_;obtain ⟨o1,o2,o3,o4,o5⟩:=ha.ones;have hq:q<w.ts.length:=(xZS.1 hx).1;have i1:=ha.ts.idx qAg rfl yF rfl (i:=q) (by simpa using hq) (k:= .i64);refine qA fun K hn hp=> ?_;simp only [sw.1,rE,reduceIte,rL,rA];apply hn;obtain ⟨h1,hh1,nh1,sh1,kh1,fbh1⟩:=nwE h (.cells w.cs 30);rw [<-hh1];have fh1:=fbh1;obtain ⟨h2,hh2,nh2,sh2,kh2,fbh2⟩:=nwE h1 (.cells [iv r0,iv c0,iv q] 63);rw [<-hh2];have fh2:Fr h.n h h2:=fh1.trans fbh2 (by omega);simp only [nh1,xZR,rA] at nh2 sh2 kh2;have s1:=(kh2 h.n (by omega)).trans sh1;have ha2:=ha.fr fh2 (xZX _);have hne:w.ts.map Kn.t3≠[]:=by intro e;have:=congrArg List.length e;simp at this;rw [this] at hq;simp at hq
 have i2:=ha2.ts.fa hne yF rfl (f:=0) (o:=0) (s:=0) (ft:=3) rfl (q*3);have i3:qO tb xt h2 3 (elp w.vt (q*3+0))=some (iv n):=ha2.ts.load tg3 rfl (i:=q) (j:=0) (c:=Kn.t3 ((n:Int),th,wo)) (by rw [xZT,hx];rfl) rfl;have w1:IntKind.i64.wrap ((n:Int) - 1)=(n:Int) - 1:=qF _ (by omega) (by omega);have w2:IntKind.i64.wrap ((r0:Int)+((n:Int) - 1))=(r0:Int)+((n:Int) - 1):=qF _ (by omega) (by omega);have w3:IntKind.i64.wrap ((c0:Int)+((n:Int) - 1))=(c0:Int)+((n:Int) - 1):=qF _ (by omega) (by omega);simp only [Nat.add_zero] at i2 i3;refine qA fun K hn hp=> ?_;simp only [sy.1,rE,reduceIte,rL,i1,sh2,s1,i2,i3,w1];apply hn;refine qA fun K hn hp=> ?_;simp only [sy.1,rE,reduceIte,rL,sh2,w2];refine cAS (pZ xt _ _ _ _ fun m1 hm1=> ?_);cases e1:(decide ((r0:Int)<=x) && decide (x<=(r0:Int)+((n:Int) - 1)))
 ·simp only [sy.1,rE,reduceIte,rL];refine hn _ _ (qD (qK res99 ⟨?_,fh2.up (by omega)⟩));have e1':inB x r0 ((r0:Int)+((n:Int) - 1))=false:=e1;simp [xZZ,hasB,e1']
 simp only [sy.1,rE,reduceIte,rL,sh2,w3];refine cAS (pZ xt _ _ _ _ fun m2 hm2=> ?_);simp only [xZW] at hm2;simp only [sy.1,rE,reduceIte,rL,xZY];refine hn _ _ (qD (qK res99 ⟨?_,fh2.up (by omega)⟩));have e1':inB x r0 ((r0:Int)+((n:Int) - 1))=true:=e1;have e2':(decide ((c0:Int)<=y) && decide (y<=(c0:Int)+((n:Int) - 1)))=inB y c0 ((c0:Int)+((n:Int) - 1)):=rfl;simp only [hasB,e1',<-e2',Bool.true_and];simp [xZZ]
end Go.Proofs.Kn
