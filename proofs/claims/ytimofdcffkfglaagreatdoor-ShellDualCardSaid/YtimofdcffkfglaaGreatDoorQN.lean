/- Parts. -/
import Derived.Test.YtimofdcffkfglaaGreatDoorQM
import Derived.Test.YtimofdcffkfglaaGreatDoorQC
set_option linter.all false
open Nat renaming reduceEqDiff → rE, reduceLeDiff → rD, reduceAdd → rA, reduceMul → rM, reduceLT → rL
open Go.Ev.T renaming get_put → xZZ
open Nat renaming le_refl → xZY, le_of_lt → xZR, add_assoc → xZM, not_lt_zero → xZD, add_zero → xZA, lt_of_lt_of_le → xYM, ble_eq → xYL
open Go.Ev.Hp renaming up_up → xZX, up_n → xZT, set_t → xZS, set_n → xYT
open List renaming getElem?_eq_getElem → xZW, getElem?_map → xZV, getElem?_eq_some_iff → xZU, getD_eq_getElem?_getD → xZL, mem_of_getElem? → xZK, any_eq_false → xZH, take_of_length_le → xZE, length_take → xYZ, any_eq_true → xYY, take_succ → xYX, mem_map → xYU, mem_singleton → xYQ, getElem?_take → xYP
open Go.Ev.FnA renaming walk → xZQ, calm → xZO
open Bool renaming and_eq_true → xZP, and_eq_true_iff → xZJ, true_and → xZI, not_eq_true' → xZG, false_eq_true → xZB, false_and → xYV, or_eq_false_iff → xYR, not_eq_false' → xYN, not_eq_true → xYK
open Int renaming toNat_natCast → xZN, tdiv_eq_ediv_of_nonneg → xYW, le_refl → xYO
open Option renaming bind_some → xZF, toList_some → xYS
open Go.Ev.Fr renaming refl → xZC
namespace Go.Proofs.Kn
open Go Go.Ev
set_option maxRecDepth 100000
set_option maxHeartbeats 1000000
set_option maxHeartbeats 4000000
set_option maxHeartbeats 4000000
set_option maxHeartbeats 4000000
theorem ft141 (xt:Xt):(SE xt).ft.get 141=some Tryz.f141:=by kernel_rfl
theorem res141:Tryz.f141.results.toList=[.tmp 2]:=by kernel_rfl
def uE (t:Int×Int×Int):Bool:= !inB t.1 1 3 || (!inB t.2.1 1 60 || !inB t.2.2 1 100)
theorem badT_ok (xt:Xt) (h:Hp) (t:Int×Int×Int):FnA (SE xt) 141 [.agg [iv t.1,iv t.2.1,iv t.2.2]] h (fun r h'=>r= .ret (.val (.bool (uE t)))/\Fr h.n h h'):=by
 refine xZQ (sok xt) (ft141 xt) rfl 19 rfl ?_;refine qA fun K hn hp=> ?_;simp only [sw.1,reduceIte,rL];apply hn;obtain ⟨h1,hh1,nh1,sh1,_,fbh1⟩:=nwE h (.cells [iv t.1,iv t.2.1,iv t.2.2] 130);rw [<-hh1];have fh1:=fbh1;refine qA fun K1 hn hp=> ?_;simp only [sy.1,rE,reduceIte,rL,sh1];refine cAS (wU xt _ _ _ _ fun m1 hm1=> ?_);cases e1:(decide (1<=t.1) && decide (t.1<=3))
 ·simp only [sy.1,rE,reduceIte,rL];refine hn _ _ (qC (qH res141 ⟨?_,fh1.up (by omega)⟩));simp [xZZ,uE,inB,e1]
 simp only [sy.1,rE,reduceIte,rL,sh1];refine cAS (wU xt _ _ _ _ fun m2 hm2=> ?_);simp only [xZT] at hm2;cases e2:(decide (1<=t.2.1) && decide (t.2.1<=60))
 ·simp only [sy.1,rE,reduceIte,rL,xZX];refine hn _ _ (qC (qH res141 ⟨?_,fh1.up (by omega)⟩));simp [xZZ,uE,inB,e1,e2]
 simp only [sy.1,rE,reduceIte,rL,sh1,xZX];refine cAS (wU xt _ _ _ _ fun m3 hm3=> ?_);simp only [xZT] at hm3;simp only [sy.1,rE,reduceIte,rL,xZX];refine hn _ _ (qC (qH res141 ⟨?_,fh1.up (by omega)⟩));simp [xZZ,uE,inB,e1,e2]
theorem badT_c (xt:Xt) (h:Hp) (t:Int×Int×Int) {K:KP} (hk: ∀n,h.n<n->K (.ret (.val (.bool (uE t)))) (h.up n)):FnA (SE xt) 141 [.agg [iv t.1,iv t.2.1,iv t.2.2]] h K:=xZO (badT_ok xt h t) hk
theorem ts_asks (xt:Xt) (h:Hp) (w:Wk):kD (SE xt) h (.val (.func (.func 141) #[] #[])) (fun c=> .agg (c.map .val)) (w.ts.map t3) (fun c=>match c with|[.int _ x,.int _ y,.int _ z]=>uE (x,y,z)|_=>false):=by
 intro n c K hn hc hk;obtain ⟨g,_,rfl⟩:=xYU.1 hc;exact cAS (badT_c xt _ g fun n' hn'=>by have:=hk n' hn';rw [xZX];exact this)
theorem any_ts (w:Wk):((w.ts.map t3).any fun c=>match c with|[.int _ x,.int _ y,.int _ z]=>uE (x,y,z)|_=>false)=w.ts.any uE:=by
 rw [List.any_map];rfl
theorem ft71 (xt:Xt):(SE xt).ft.get 71=some Tryz.f71:=by kernel_rfl
theorem res71:Tryz.f71.results.toList=[.tmp 2]:=by kernel_rfl
theorem Wk.At.len {w:Wk} {xt:Xt} {h:Hp} (a:w.At xt h) (h':Hp):zA tb h' 28 w.vt=some w.ts.length:=by
 have:=a.ts.len (h':=h') qAn rfl;simpa using this
def Wk.ok (w:Wk):Bool:=w.m.ok && (inB w.ts.length 1 4 && (inB w.kerf 0 5 && !w.ts.any uE))
theorem qAD (xt:Xt) (h:Hp) (w:Wk) (ha:w.At xt h) {K:KP} (hk: ∀n,h.n<n->K (.ret (.val (.bool w.ok))) (h.up n)):FnA (SE xt) 71 [w.av] h K:=by
 refine xZO ?_ hk;clear hk K;refine xZQ (sok xt) (ft71 xt) rfl 23 rfl ?_;obtain ⟨o1,o2,o3,o4,o5⟩:=ha.ones;have hlen:=ha.len;refine qA fun K hn hp=> ?_;simp only [sw.1,reduceIte,rL];apply hn;obtain ⟨h1,hh1,nh1,sh1,_,fbh1⟩:=nwE h (.cells w.cs 30);rw [<-hh1];have fh1:=fbh1;have ha1:=ha.fr fh1 (xZY _);refine qA fun K1 hn hp=> ?_;simp only [sy.1,rE,reduceIte,rL,rA,rD,sh1];refine cAS (isMap_c xt _ w.m ha1.m fun m1 hm1=> ?_);cases e1:w.m.ok
 ·simp only [sy.1,rE,reduceIte,rL];refine hn _ _ (qC (qH res71 ⟨?_,fh1.up (by omega)⟩));simp [xZZ,Wk.ok,e1]
 simp only [sy.1,rE,reduceIte,rL,syw.1,hlen,sh1];refine cAS (wU xt _ _ _ _ fun m2 hm2=> ?_);simp only [xZT] at hm2;cases e2:(decide ((1:Int)<=w.ts.length) && decide ((w.ts.length:Int)<=4))
 ·simp only [sy.1,rE,reduceIte,rL,xZX];refine hn _ _ (qC (qH res71 ⟨?_,fh1.up (by omega)⟩));have e2':inB w.ts.length 1 4=false:=e2;simp [xZZ,Wk.ok,e1,e2']
 simp only [sy.1,rE,reduceIte,rL,sh1,xZX];refine cAS (wU xt _ _ _ _ fun m3 hm3=> ?_);simp only [xZT] at hm3;have e2':inB w.ts.length 1 4=true:=e2;cases e3:(decide (0<=w.kerf) && decide (w.kerf<=5))
 ·simp only [sy.1,rE,reduceIte,rL,xZX];refine hn _ _ (qC (qH res71 ⟨?_,fh1.up (by omega)⟩));have e3':inB w.kerf 0 5=false:=e3;simp [xZZ,Wk.ok,e1,e2',e3']
 simp only [sy.1,rE,reduceIte,rL,sh1,xZX];have e3':inB w.kerf 0 5=true:=e3;refine cAS (any140_c xt _ w.vt _ _ _ (ha1.ts.up (by omega)) (by have:=ha1.lt;simpa using this) (ts_asks xt _ w) fun m4 hm4=> ?_);simp only [xZT] at hm4;rw [any_ts];simp only [sy.1,rE,reduceIte,rL,xZX];refine hn _ _ (qC (qH res71 ⟨?_,fh1.up (by omega)⟩));simp [xZZ,Wk.ok,e1,e2',e3']
theorem ft15 (xt:Xt):(SE xt).ft.get 15=some Tryz.f15:=by kernel_rfl
theorem res15:Tryz.f15.results.toList=[.tmp 2]:=by kernel_rfl
def Wk.brief (w:Wk):Bool:=w.m.short && decide ((w.ts.length:Int)<=6)
theorem brief_c (xt:Xt) (h:Hp) (w:Wk) (ha:w.At xt h) {K:KP} (hk: ∀n,h.n<n->K (.ret (.val (.bool w.brief))) (h.up n)):FnA (SE xt) 15 [w.av] h K:=by
 refine xZO ?_ hk;clear hk K;refine xZQ (sok xt) (ft15 xt) rfl 12 rfl ?_;obtain ⟨o1,o2,o3,o4,o5⟩:=ha.ones;have hlen:=ha.len;refine qA fun K hn hp=> ?_;simp only [sw.1,reduceIte,rL];apply hn;obtain ⟨h1,hh1,nh1,sh1,_,fbh1⟩:=nwE h (.cells w.cs 30);rw [<-hh1];have fh1:=fbh1;have ha1:=ha.fr fh1 (xZY _);refine qA fun K1 hn hp=> ?_;simp only [sy.1,rE,reduceIte,rL,rA,rD,sh1];refine cAS (short_c xt _ w.m ha1.m fun m1 hm1=> ?_);cases e1:w.m.short
 ·simp only [sy.1,rE,reduceIte,rL];refine hn _ _ (qC (qH res15 ⟨?_,fh1.up (by omega)⟩));simp [xZZ,Wk.brief,e1]
 simp only [sy.1,rE,reduceIte,rL,syw.1,hlen,sh1];refine hn _ _ (qC (qH res15 ⟨?_,fh1.up (by omega)⟩));simp [xZZ,Wk.brief,e1]
theorem ft31 (xt:Xt):(SE xt).ft.get 31=some Tryz.f31:=by kernel_rfl
theorem res31:Tryz.f31.results.toList=[.tmp 4]:=by kernel_rfl
theorem rtube_c (xt:Xt) (h:Hp) (w:Wk) (ha:w.At xt h) (t:Int) {K:KP} (hk: ∀n,h.n<n->K (.ret (.val (.bool (inB t 0 ((w.ts.length:Int) - 1))))) (h.up n)):FnA (SE xt) 31 [w.av,iv t] h K:=by
 refine xZO ?_ hk;clear hk K;refine xZQ (sok xt) (ft31 xt) rfl 11 rfl ?_;obtain ⟨o1,o2,o3,o4,o5⟩:=ha.ones;have hlen:=ha.len;have hlt:=ha.lt;refine qA fun K hn hp=> ?_;simp only [sw.1,rE,reduceIte,rL];apply hn;obtain ⟨h1,hh1,nh1,sh1,_,fbh1⟩:=nwE h (.cells w.cs 30);rw [<-hh1];have fh1:=fbh1;refine qA fun K1 hn hp=> ?_;simp only [sy.1,rE,reduceIte,rL,syw.1,hlen,sh1];have hw:IntKind.i64.wrap ((w.ts.length:Int) - 1)=(w.ts.length:Int) - 1:=qG _ (by omega) (by omega);rw [hw];refine cAS (kZ xt _ _ _ _ fun m1 hm1=> ?_);simp only [sy.1,rE,reduceIte,rL];refine hn _ _ (qC (qH res31 ⟨?_,fh1.up (by omega)⟩));simp [xZZ,inB]
theorem al90 (h:Hp):jP tb h 130=some (.ptr h.n 0,h.new (.cells (([(.int .i64 0),(.int .i64 0),(.int .i64 0)]:List Value).map .val) 130)):=vU yF rfl
theorem ft21 (xt:Xt):(SE xt).ft.get 21=some Tryz.f21:=by kernel_rfl
theorem res21:Tryz.f21.results.toList=[.tmp 2]:=by kernel_rfl
theorem Wk.t_no {w:Wk} {t:Int×Int×Int} (hm:t∈w.ts) (hb:uE t=true):w.ok=false:=by
 have:w.ts.any uE=true:=xYY.2 ⟨t,hm,hb⟩;simp [Wk.ok,this]
theorem rwork_c (xt:Xt) (h:Hp) (w:Wk) (ha:w.At xt h) {K:KP} (hk: ∀n,h.n<n->K (.ret (.val (.bool w.ok))) (h.up n)):FnA (SE xt) 21 [w.av] h K:=by
 refine xZO ?_ hk;clear hk K;refine xZQ (sok xt) (ft21 xt) rfl 47 rfl ?_;obtain ⟨o1,o2,o3,o4,o5⟩:=ha.ones;have hlen:=ha.len;have hlt:=ha.lt;refine qA fun K hn hp=> ?_;simp only [sw.1,reduceIte,rL];apply hn;clear hn hp K;obtain ⟨h1,hh1,nh1,sh1,_,fbh1⟩:=nwE h (.cells w.cs 30);rw [<-hh1];have fh1:=fbh1;refine qB fun K hn hp=> ?_;simp only [sy.1,rL];apply hn;clear hn hp K;refine qD fun KG G1 G2 G3 G4 G5=> ?_;refine qM (sok xt) (fun st=> ∃(i:Nat) (hg:Hp) (tm:T AV),st=⟨tm,47,hg,[]⟩/\i<=w.ts.length/\tm.get 1=some (.ptr h.n 0)/\tm.get 3=some (iv i)/\Fr h1.n h1 hg/\ ∀x∈w.ts.take i,uE x=false) (fun st=>w.ts.length - (match st.tm.get 3 with|some (.val (.int _ n))=>n.toNat|_=>0)) ?_ ?_
 ·rintro st ⟨i,hg,tm,rfl,hkG,g1,g3,fg,hallg⟩;have muG:=g3;have fgh:=fh1.trans fg (by omega);have q1:=(fg.at_ h.n (.inl (by omega))).trans sh1;refine qB fun K hn hp=> ?_;simp only [sy.1,rE,reduceIte,rL,syw.1,hlen,qV,g1,g3,q1];apply hn;clear hn hp K;by_cases hi:i<w.ts.length
  ·refine qW (by simp only [sy.1,rE,reduceIte,hi]) ?_;have hag:=ha.fr fgh (xZY _);obtain ⟨x,hx⟩: ∃x,w.ts[i]? =some x:=⟨_,xZW hi⟩;have i1:=hag.ts.idx qAn rfl yF rfl (i:=i) (by simpa using hi) (k:= .i64);have i2:=hag.ts.loadA yF rfl rfl (i:=i) (c:=Kn.t3 x) (by rw [xZV,hx];rfl);have gno:uE x=true->w.ok=false:=fun hb=>Wk.t_no (xZK hx) hb;have gyes:uE x=false-> ∀y∈w.ts.take (i+1),uE y=false:=fun hb=>by
    rw [xYX,hx];intro y hy;simp only [xYS,List.mem_append,xYQ] at hy;rcases hy with hy|rfl
    ·exact hallg y hy
    ·exact hb
   obtain ⟨xr,xc,xs⟩:=x;simp only [Kn.t3,List.map_cons,List.map_nil] at i2;refine vH ?_;refine qD fun KH H1 H2 H3 H4 H5=> ?_;refine qA fun K hn hp=> ?_;simp only [sw.1,rE,reduceIte,rL,rA,al90,g1,g3,i1,i2,q1];apply hn;clear hn hp K;obtain ⟨h9,hh9,nh9,sh9,_,fbh9⟩:=nwS hg (.cells [iv 0,iv 0,iv 0] 130) (.cells [iv xr,iv xc,iv xs] 130);rw [<-hh9];have f9:=fg.trans fbh9 fg.lo;have retG: ∀(n:Nat) (tm:T AV),h9.n<=n->tm.get 2=some (.val (.bool false))->uE (xr,xc,xs)=true->xX (SE xt) Tryz.f21 (fun r h'=>r= .ret (.val (.bool w.ok))/\Fr h.n h h') .ret ⟨tm,47,h9.up n,[]⟩:=fun n tm hn g hm=>qH res21 ⟨by simp [g,gno hm],(fh1.trans f9 (by omega)).up hn⟩;refine qA fun K hn hp=> ?_;simp only [sy.1,rE,reduceIte,rL,sh9];refine cAS (kZ xt _ _ _ _ fun n10 hn10=> ?_);cases c2:inB xr 1 3
   ·have c2':=c2;unfold inB at c2';simp only [sy.1,rE,reduceIte,rL,c2'];apply hn;clear hn hp K;refine wcT (by simp only [sy.1,rE,reduceIte]) ?_;refine qA fun K hn hp=> ?_;simp only [sy.1,rL];apply hn;clear hn hp K;refine qC (H4 _ (G4 _ (retG _ _ (by omega) (by simp [xZZ]) (by simp [uE,c2]))))
   have c2':=c2;unfold inB at c2';simp only [sy.1,rE,reduceIte,rL,sh9,c2'];refine cAS (kZ xt _ _ _ _ fun n11 hn11=> ?_);simp only [xZT] at hn11;cases c3:inB xc 1 60
   ·have c3':=c3;unfold inB at c3';simp only [sy.1,rE,reduceIte,rL,c3',xZX];apply hn;clear hn hp K;refine wcT (by simp only [sy.1,rE,reduceIte]) ?_;refine qA fun K hn hp=> ?_;simp only [sy.1,rL];apply hn;clear hn hp K;refine qC (H4 _ (G4 _ (retG _ _ (by omega) (by simp [xZZ]) (by simp [uE,c2,c3]))))
   have c3':=c3;unfold inB at c3';simp only [sy.1,rE,reduceIte,rL,sh9,c3',xZX];refine cAS (kZ xt _ _ _ _ fun n12 hn12=> ?_);simp only [xZT] at hn12;cases c4:inB xs 1 100
   ·have c4':=c4;unfold inB at c4';simp only [sy.1,rE,reduceIte,rL,c4',xZX];apply hn;clear hn hp K;refine wcT (by simp only [sy.1,rE,reduceIte]) ?_;refine qA fun K hn hp=> ?_;simp only [sy.1,rL];apply hn;clear hn hp K;refine qC (H4 _ (G4 _ (retG _ _ (by omega) (by simp [xZZ]) (by simp [uE,c2,c3,c4]))))
   have c4':=c4;unfold inB at c4';simp only [sy.1,rE,reduceIte,rL,c4',xZX];apply hn;clear hn hp K;refine wcF (by simp only [sy.1,rE,reduceIte]) ?_;refine qR (H1 _ ?_);refine reg fun K hn hp=> ?_;simp only [sy.1,rE,reduceIte,rL,g3,qF hi hlt];apply hn;clear hn hp K;refine ⟨⟨i+1,h9.up n12,_,rfl,by omega,(by simp [xZZ,g1]),(by simp [xZZ]),(fg.trans fbh9 fg.lo).up (by omega),gyes (by simp [uE,c2,c3,c4])⟩,by simpa [xZZ,muG] using (by omega:w.ts.length - (i+1)<w.ts.length - i)⟩
  ·refine jD (by simp only [sy.1,rE,reduceIte,hi]) ?_;have hall:w.ts.any uE=false:=by
    rw [xZH];intro x hx;have:=hallg x (by rw [xZE (by omega)];exact hx);simp [this]
   have hag:=ha.fr fgh (xZY _);refine qL (G2 _ ?_);refine qA fun K hn hp=> ?_;simp only [sy.1,rE,reduceIte,rL,rA,rD,g1,q1];refine cAS (rmap_c xt hg w.m hag.m fun n13 hn13=> ?_);cases e1:w.m.ok
   ·simp only [sy.1,rE,reduceIte,rL];refine hn _ _ (qC (qH res21 ⟨?_,fgh.up (by omega)⟩));simp [xZZ,Wk.ok,e1]
   simp only [sy.1,rE,reduceIte,rL,syw.1,hlen,g1,q1];refine cAS (kZ xt _ _ _ _ fun n14 hn14=> ?_);simp only [xZT] at hn14;cases e2:(decide ((1:Int)<=w.ts.length) && decide ((w.ts.length:Int)<=4))
   ·simp only [sy.1,rE,reduceIte,rL,xZX];refine hn _ _ (qC (qH res21 ⟨?_,fgh.up (by omega)⟩));have e2':inB w.ts.length 1 4=false:=e2;simp [xZZ,Wk.ok,e1,e2']
   simp only [sy.1,rE,reduceIte,rL,g1,q1,xZX];refine cAS (kZ xt _ _ _ _ fun n15 hn15=> ?_);simp only [xZT] at hn15;simp only [sy.1,rE,reduceIte,rL,xZX];refine hn _ _ (qC (qH res21 ⟨?_,fgh.up (by omega)⟩));obtain ⟨z1,z2⟩:=xZJ.1 e2;have z1:=of_decide_eq_true z1;have z2:=of_decide_eq_true z2;simp [xZZ,Wk.ok,e1,hall,inB]
   intros
   omega
 ·exact ⟨0,h1,_,rfl,(by omega),(by simp [xZZ]),(by simp [xZZ]),xZC (xZY _),fun x hx=>absurd hx (by simp)⟩
theorem abin_quo {P:Program} {t:TypeId} {ox oy:Operand} (a b:Int) (hb:b≠0):pF P tb .quo t ox oy (iv a) (iv b)=some (iv (IntKind.i64.wrap (a.tdiv b))):=by
 have e2:Op.intDiv .quo .i64 a b=pure (.int .i64 (IntKind.i64.wrap (a.tdiv b))):=by unfold Op.intDiv;rw [if_neg hb]
 have e3:qO P (do eqGuard .quo t ox oy (.int .i64 a) (.int .i64 b);binOp .quo t (.int .i64 a) (.int .i64 b))=some (.int .i64 (IntKind.i64.wrap (a.tdiv b))):=by
  show qO P (Op.intDiv .quo .i64 a b)=_;rw [e2];rfl
 show (match qO P (do eqGuard .quo t ox oy (.int .i64 a) (.int .i64 b);binOp .quo t (.int .i64 a) (.int .i64 b)) with|some r=>some (AV.val r)|none=>none)=_;rw [e3]
theorem ft85 (xt:Xt):(SE xt).ft.get 85=some Tryz.f85:=by kernel_rfl
theorem res85:Tryz.f85.results.toList=[.tmp 4]:=by kernel_rfl
abbrev bI (s:Int×Int×Int):AV:= .agg [iv s.1,iv s.2.1,iv s.2.2]
theorem isTube_c (xt:Xt) (h:Hp) (w:Wk) (ha:w.At xt h) (s:Int×Int×Int) {K:KP} (hk: ∀n,h.n<n->K (.ret (.val (.bool (inB s.2.2 0 ((w.ts.length:Int) - 1))))) (h.up n)):FnA (SE xt) 85 [w.av,bI s] h K:=by
 refine xZO ?_ hk;clear hk K;refine xZQ (sok xt) (ft85 xt) rfl 12 rfl ?_;obtain ⟨o1,o2,o3,o4,o5⟩:=ha.ones;have hlen:=ha.len;have hlt:=ha.lt;refine qA fun K hn hp=> ?_;simp only [sw.1,rE,reduceIte,rL];apply hn;obtain ⟨h1,hh1,nh1,sh1,_,fbh1⟩:=nwE h (.cells w.cs 30);rw [<-hh1];have fh1:=fbh1;obtain ⟨h2,hh2,nh2,sh2,kh2,fbh2⟩:=nwE h1 (.cells [iv s.1,iv s.2.1,iv s.2.2] 61);rw [<-hh2];have fh2:Fr h.n h h2:=fh1.trans fbh2 (by omega);simp only [nh1,xZM,rA] at nh2 sh2 kh2;have s1:=(kh2 h.n (by omega)).trans sh1;refine qA fun K1 hn hp=> ?_;simp only [sy.1,rE,reduceIte,rL,syw.1,hlen,sh2,s1];have hw:IntKind.i64.wrap ((w.ts.length:Int) - 1)=(w.ts.length:Int) - 1:=qG _ (by omega) (by omega);rw [hw];refine cAS (wU xt _ _ _ _ fun m1 hm1=> ?_);simp only [sy.1,rE,reduceIte,rL];refine hn _ _ (qC (qH res85 ⟨?_,fh2.up (by omega)⟩));simp [xZZ,inB]
def xS (t:Nat->Int) (c:Nat):Nat->Int->Int
 |0,a=>a
 |n+1,a=>min (xS t c n a) (t (c+n))
def zR (t:Nat->Nat->Int) (r c n:Nat):Nat->Int
 |0=>60
 |k+1=>xS (t (r+k)) c n (zR t r c n k)
@[simp] theorem rowMin_0 (t:Nat->Int) (c:Nat) (a:Int):xS t c 0 a=a:=rfl
@[simp] theorem blkMin_0 (t:Nat->Nat->Int) (r c n:Nat):zR t r c n 0=60:=rfl
theorem qDN (t:Nat->Int) (c:Nat): ∀(n:Nat) (a:Int),xS t c n a<=a
 |0,a=>xYO a
 |n+1,a=>by have:=qDN t c n a;simp only [xS];omega
theorem qDO {t:Nat->Int} {c:Nat} {b:Int}: ∀(n:Nat) (a:Int),b<=a->(∀j,j<n->b<=t (c+j))->b<=xS t c n a
 |0,a,ha,_=>ha
 |n+1,a,ha,h=>by
  have h1:=qDO n a ha fun j hj=>h j (by omega);have h2:=h n (by omega);simp only [xS];omega
theorem bF (t:Nat->Nat->Int) (r c n:Nat): ∀k:Nat,zR t r c n k<=60
 |0=>xYO _
 |k+1=>Int.le_trans (qDN _ _ _ _) (bF t r c n k)
theorem bG {t:Nat->Nat->Int} {r c n:Nat} {b:Int} (hb:b<=60): ∀k:Nat,(∀i,i<k-> ∀j,j<n->b<=t (r+i) (c+j))->b<=zR t r c n k
 |0,_=>hb
 |k+1,h=>qDO n _ (bG hb k fun i hi=>h i (by omega)) (h k (by omega))
theorem ft99 (xt:Xt):(SE xt).ft.get 99=some Tryz.f99:=by kernel_rfl
theorem res99:Tryz.f99.results.toList=[.tmp 8]:=by kernel_rfl
def hasB (r0 c0 n:Nat) (x y:Int):Bool:=inB x r0 ((r0:Int)+((n:Int) - 1)) && inB y c0 ((c0:Int)+((n:Int) - 1))
theorem has_c (xt:Xt) (h:Hp) (w:Wk) (ha:w.At xt h) (r0 c0 q n:Nat) (th wo:Int) (hx:w.ts[q]? =some ((n:Int),th,wo)) (hr:r0<=100) (hc:c0<=100) (hn:n<=100) (x y:Int)
  {K:KP} (hk: ∀m,h.n<m->K (.ret (.val (.bool (hasB r0 c0 n x y)))) (h.up m)):FnA (SE xt) 99 [w.av,bI ((r0:Int),(c0:Int),(q:Int)),iv x,iv y] h K:=by
 refine xZO ?_ hk;clear hk K;refine xZQ (sok xt) (ft99 xt) rfl 36 rfl ?_;obtain ⟨o1,o2,o3,o4,o5⟩:=ha.ones;have hq:q<w.ts.length:=(xZU.1 hx).1;have i1:=ha.ts.idx qAn rfl yF rfl (i:=q) (by simpa using hq) (k:= .i64);refine qA fun K hn hp=> ?_;simp only [sw.1,rE,reduceIte,rL,rA];apply hn;obtain ⟨h1,hh1,nh1,sh1,kh1,fbh1⟩:=nwE h (.cells w.cs 30);rw [<-hh1];have fh1:=fbh1;obtain ⟨h2,hh2,nh2,sh2,kh2,fbh2⟩:=nwE h1 (.cells [iv r0,iv c0,iv q] 61);rw [<-hh2];have fh2:Fr h.n h h2:=fh1.trans fbh2 (by omega);simp only [nh1,xZM,rA] at nh2 sh2 kh2;have s1:=(kh2 h.n (by omega)).trans sh1;have ha2:=ha.fr fh2 (xZY _);have hne:w.ts.map Kn.t3≠[]:=by intro e;have:=congrArg List.length e;simp at this;rw [this] at hq;simp at hq
 have i2:=ha2.ts.fa hne yF rfl (f:=0) (o:=0) (s:=0) (ft:=3) rfl (q*3);have i3:qN tb xt h2 3 (elp w.vt (q*3+0))=some (iv n):=ha2.ts.load tg3 rfl (i:=q) (j:=0) (c:=Kn.t3 ((n:Int),th,wo)) (by rw [xZV,hx];rfl) rfl;have w1:IntKind.i64.wrap ((n:Int) - 1)=(n:Int) - 1:=qG _ (by omega) (by omega);have w2:IntKind.i64.wrap ((r0:Int)+((n:Int) - 1))=(r0:Int)+((n:Int) - 1):=qG _ (by omega) (by omega);have w3:IntKind.i64.wrap ((c0:Int)+((n:Int) - 1))=(c0:Int)+((n:Int) - 1):=qG _ (by omega) (by omega);simp only [xZA] at i2 i3;refine qA fun K hn hp=> ?_;simp only [sy.1,rE,reduceIte,rL,i1,sh2,s1,i2,i3,w1];apply hn;refine qA fun K hn hp=> ?_;simp only [sy.1,rE,reduceIte,rL,sh2,w2];refine cAS (wU xt _ _ _ _ fun m1 hm1=> ?_);cases e1:(decide ((r0:Int)<=x) && decide (x<=(r0:Int)+((n:Int) - 1)))
 ·simp only [sy.1,rE,reduceIte,rL];refine hn _ _ (qC (qH res99 ⟨?_,fh2.up (by omega)⟩));have e1':inB x r0 ((r0:Int)+((n:Int) - 1))=false:=e1;simp [xZZ,hasB,e1']
 simp only [sy.1,rE,reduceIte,rL,sh2,w3];refine cAS (wU xt _ _ _ _ fun m2 hm2=> ?_);simp only [xZT] at hm2;simp only [sy.1,rE,reduceIte,rL,xZX];refine hn _ _ (qC (qH res99 ⟨?_,fh2.up (by omega)⟩));have e1':inB x r0 ((r0:Int)+((n:Int) - 1))=true:=e1;have e2':(decide ((c0:Int)<=y) && decide (y<=(c0:Int)+((n:Int) - 1)))=inB y c0 ((c0:Int)+((n:Int) - 1)):=rfl;simp only [hasB,e1',<-e2',xZI];simp [xZZ]
theorem eqi50 (d:Nat) (a b c e:Int) (x y:Bool):qO Tryz.prog (Op.equalIn (d+1+1) 50 (.agg #[.int .i64 a,.int .i64 b,.bool x]) (.agg #[.int .i64 c,.int .i64 e,.bool y]))=some (decide (a=c) && (decide (b=e) && decide (x=y))):=by
 have h1:qO Tryz.prog (underlying 50)=some (TypeDesc.struct #[{name:= "Row",type:=3,offset:=0,embedded:=false,tag:= "",pkgPath:= "",byteOffset:=0},{name:= "Column",type:=3,offset:=1,embedded:=false,tag:= "",pkgPath:= "",byteOffset:=8},{name:= "Down",type:=4,offset:=2,embedded:=false,tag:= "",pkgPath:= "",byteOffset:=16}]):=by kernel_rfl
 have h2:Tryz.prog.stoodInHeld 50=false:=by kernel_rfl
 have h3: ∀d a b,qO Tryz.prog (Op.equalIn (d+1) 3 (.int .i64 a) (.int .i64 b))=some (a==b):=fun d a b=>by
  have:qO Tryz.prog (underlying 3)=some (.int .i64):=by kernel_rfl
  rw [Op.equalIn];simp only [zL,this,xZF,if_true,jY]
 have h4: ∀d a b,qO Tryz.prog (Op.equalIn (d+1) 4 (.bool a) (.bool b))=some (a==b):=fun d a b=>eqib d 4 (by kernel_rfl) a b;have p1: ∀a b x,qO Tryz.prog (part 3 #[.int .i64 a,.int .i64 b,.bool x] 0)=some (.int .i64 a):=fun a b x=>by kernel_rfl
 have p2: ∀a b x,qO Tryz.prog (part 3 #[.int .i64 a,.int .i64 b,.bool x] 1)=some (.int .i64 b):=fun a b x=>by kernel_rfl
 have p3: ∀a b x,qO Tryz.prog (part 4 #[.int .i64 a,.int .i64 b,.bool x] 2)=some (.bool x):=fun a b x=>by kernel_rfl
 rw [Op.equalIn];simp only [zL,h1,xZF,pH,h2,xZB,if_false];rw [<-Array.forIn_toList];simp only [List.forIn_cons,List.forIn_nil,zL,yY,p1,h3,xZF,jY];by_cases q1:a=c
 ·by_cases q2:b=e
  ·by_cases q3:x=y
   ·simp [q1,q2,q3,jY,zL,p2,p3,h3,h4,yY]
   ·simp [q1,q2,q3,jY,zL,p2,p3,h3,h4,yY]
  ·simp [q1,q2,jY,zL,p2,h3,yY]
 ·simp [q1,jY]
theorem eql50 (ox oy:Operand) (a b c e:Int) (x y:Bool):pF Tryz.prog tb .eql 50 ox oy (.agg [.val (.int .i64 a),.val (.int .i64 b),.val (.bool x)]) (.agg [.val (.int .i64 c),.val (.int .i64 e),.val (.bool y)])=some (.val (.bool (decide (a=c) && (decide (b=e) && decide (x=y))))):=by
 have h:=eqi50 9998 a b c e x y;have hq:qO Tryz.prog (Op.equal 50 (.agg #[.int .i64 a,.int .i64 b,.bool x]) (.agg #[.int .i64 c,.int .i64 e,.bool y]))=some (decide (a=c) && (decide (b=e) && decide (x=y))):=h;have hg:qO Tryz.prog (eqGuard .eql 50 ox oy (.agg #[.int .i64 a,.int .i64 b,.bool x]) (.agg #[.int .i64 c,.int .i64 e,.bool y]))=some ():=by
  have h1:Tryz.prog.eqGuardType Tryz.prog.depth 50=false:=by kernel_rfl
  simp [eqGuard,zL,jY,pH,yY,h1]
 simp only [pF,toVal,toVals,zL,hg,xZF,binOp,hq,jY]
theorem bd50 (a b:Int) (x:Bool):zE tb 50 [(0,iv a),(1,iv b),(2,.val (.bool x))]=some (.agg [iv a,iv b,.val (.bool x)]):=by kernel_rfl
theorem ft88 (xt:Xt):(SE xt).ft.get 88=some Tryz.f88:=by kernel_rfl
theorem res88:Tryz.f88.results.toList=[.tmp 8]:=by kernel_rfl
def Mp.crk (m:Mp) (r c:Int) (b:Bool):Bool:=m.ks.any fun k=>decide (k.1=r) && (decide (k.2.1=c) && decide (k.2.2=b))
theorem qBr (xt:Xt) (h:Hp) (m:Mp) (ha:m.At xt h) (r c:Int) (b:Bool) {K:KP} (hk: ∀n,h.n<n->K (.ret (.val (.bool (m.crk r c b)))) (h.up n)):FnA (SE xt) 88 [m.av,iv r,iv c,.val (.bool b)] h K:=by
 refine xZO ?_ hk;clear hk K;refine xZQ (sok xt) (ft88 xt) rfl 27 rfl ?_;obtain ⟨o1,o2,o3,o4,o5⟩:=ha.wk.ones;have hlk:=ha.lk;have hlen: ∀h',zA tb h' 24 m.vk=some m.ks.length:=fun h'=>by
  have:=ha.ks.len (h':=h') tg24 rfl;simpa using this
 refine qA fun K hn hp=> ?_;simp only [sw.1,rE,reduceIte,rL,rA];apply hn;obtain ⟨h1,hh1,_,sh1,_,fbh1⟩:=nwE h (.cells m.cs 27);rw [<-hh1];have fh1:=fbh1;have ha1:=ha.fr fh1 (xZY _);refine qB fun K hn hp=> ?_;simp only [sy.1,rL];apply hn;refine qD fun KA A1 A2 A3 A4 A5=> ?_;refine qM (sok xt) (fun st=> ∃(i:Nat) (tm:T AV),st=⟨tm,27,h1,[]⟩/\i<=m.ks.length/\tm.get 1=some (iv r)/\tm.get 2=some (iv c)/\tm.get 3=some (.val (.bool b))/\tm.get 4=some (.ptr h.n 0)/\tm.get 9=some (iv i)/\ ∀x∈m.ks.take i,(decide (x.1=r) && (decide (x.2.1=c) && decide (x.2.2=b)))=false) (fun st=>m.ks.length - (match st.tm.get 9 with|some (.val (.int _ n))=>n.toNat|_=>0)) ?_ ?_
 ·rintro st ⟨i,tm,rfl,hkA,g1,g2,g3,g4,g9,hall⟩;have muA:=g9;refine qB fun K hn hp=> ?_;simp only [sy.1,rE,reduceIte,rL,syw.1,hlen,qV,sh1,g4,g9];apply hn;by_cases hi:i<m.ks.length
  ·refine qW (by simp only [sy.1,rE,reduceIte,hi]) ?_;obtain ⟨x,hx⟩: ∃x,m.ks[i]? =some x:=⟨_,xZW hi⟩;have i1:=ha1.ks.idx tg24 rfl qBW rfl (i:=i) (by simpa using hi) (k:= .i64);have i2:=ha1.ks.loadA qBW rfl rfl (i:=i) (c:=Kn.k3 x) (by rw [xZV,hx];rfl);obtain ⟨xr,xc,xb⟩:=x;simp only [Kn.k3,List.map_cons,List.map_nil] at i2;refine vH ?_;refine qD fun KB B1 B2 B3 B4 B5=> ?_;refine qA fun K hn hp=> ?_;simp only [sy.1,rE,reduceIte,rL,sh1,g1,g2,g3,g4,g9,i1,i2,bd50,eql50];apply hn;cases q:(decide (xr=r) && (decide (xc=c) && decide (xb=b)))
   ·refine wcF (by simp only [sy.1,rE,reduceIte]) ?_;refine qR (B1 _ ?_);refine reg fun K hn hp=> ?_;simp only [sy.1,rE,reduceIte,rL,g9,qF hi hlk];apply hn;refine ⟨⟨i+1,_,rfl,by omega,(by simp [xZZ,g1]),(by simp [xZZ,g2]),(by simp [xZZ,g3]),(by simp [xZZ,g4]),(by simp [xZZ]),?_⟩,by simpa [xZZ,muA] using (by omega:m.ks.length - (i+1)<m.ks.length - i)⟩;rw [xYX,hx];intro y hy;simp only [xYS,List.mem_append,xYQ] at hy;rcases hy with hy|rfl
    ·exact hall y hy
    ·exact q
   ·refine wcT (by simp only [sy.1,rE,reduceIte]) ?_;refine qA fun K hn hp=> ?_;simp only [sy.1,rL];apply hn;refine qC (B4 _ (A4 _ (qH res88 ⟨?_,fh1⟩)));have:m.crk r c b=true:=xYY.2 ⟨_,xZK hx,q⟩;simp [xZZ,this]
  ·refine jD (by simp only [sy.1,rE,reduceIte,hi]) ?_;refine qL (A2 _ ?_);refine qA fun K hn hp=> ?_;simp only [sy.1,rL];apply hn;refine qC (qH res88 ⟨?_,fh1⟩);have:m.crk r c b=false:=by
    unfold Mp.crk;rw [xZH];intro x hx;have:=hall x (by rw [xZE (by omega)];exact hx);rw [this];exact Bool.false_ne_true
   simp [xZZ,this]
 ·exact ⟨0,_,rfl,(by omega),(by simp [xZZ]),(by simp [xZZ]),(by simp [xZZ]),(by simp [xZZ]),(by simp [xZZ]),fun x hx=>absurd hx (by simp)⟩
theorem ft33 (xt:Xt):(SE xt).ft.get 33=some Tryz.f33:=by kernel_rfl
theorem qCw:Tryz.f33.results.toList=[.tmp 4]:=by kernel_rfl
def Mp.rcBad (m:Mp) (r0 c0 n:Nat) (i j:Nat):Bool:= !decide (m.rc i j=2) || (decide ((j:Int)+1<(c0+n:Nat)) && m.crk i j false || decide ((i:Int)+1<(r0+n:Nat)) && m.crk i j true)
def Mp.rcan (m:Mp) (R C:Nat) (n:Nat) (a b:Int):Bool:=inB a 0 ((R:Int) - n) && (inB b 0 ((C:Int) - n) && (List.range n).all fun i=>(List.range n).all fun j=> !m.rcBad a.toNat b.toNat n (a.toNat+i) (b.toNat+j))
theorem rcan_c (xt:Xt) (h:Hp) (w:Wk) (ha:w.At xt h) (R C:Nat) (hm:w.m.Is R C) (hW:w.m.W=C) (a b:Int) (q n:Nat) (th wo:Int) (hx:w.ts[q]? =some ((n:Int),th,wo)) (hn3:n<=3)
  {K:KP} (hk: ∀m,h.n<m->K (.ret (.val (.bool (w.m.rcan R C n a b)))) (h.up m)):FnA (SE xt) 33 [w.av,bI (a,b,(q:Int))] h K:=by
 refine xZO ?_ hk;clear hk K;refine xZQ (sok xt) (ft33 xt) rfl 91 rfl ?_;have hR6:=hm.r6;have hC8:=hm.c8;have hRR:=hm.hR;obtain ⟨o1,o2,o3,o4,o5⟩:=ha.ones;have hq:q<w.ts.length:=(xZU.1 hx).1;have i1:=ha.ts.idx qAn rfl yF rfl (i:=q) (by simpa using hq) (k:= .i64);refine qA fun K hn hp=> ?_;simp only [sw.1,rE,reduceIte,rL];apply hn;obtain ⟨h1,hh1,nh1,sh1,kh1,fbh1⟩:=nwE h (.cells w.cs 30);rw [<-hh1];have fh1:=fbh1;obtain ⟨h2,hh2,nh2,sh2,kh2,fbh2⟩:=nwE h1 (.cells [iv a,iv b,iv q] 61);rw [<-hh2];have fh2:Fr h.n h h2:=fh1.trans fbh2 (by omega);simp only [nh1,xZM,rA] at nh2 sh2 kh2;have s1:=(kh2 h.n (by omega)).trans sh1;have ha2:=ha.fr fh2 (xZY _);have hne:w.ts.map Kn.t3≠[]:=by intro e;have:=congrArg List.length e;simp at this;rw [this] at hq;simp at hq
 have i2:=ha2.ts.fa hne yF rfl (f:=0) (o:=0) (s:=0) (ft:=3) rfl (q*3);have i3:qN tb xt h2 3 (elp w.vt (q*3+0))=some (iv n):=ha2.ts.load tg3 rfl (i:=q) (j:=0) (c:=Kn.t3 ((n:Int),th,wo)) (by rw [xZV,hx];rfl) rfl;have w1:IntKind.i64.wrap ((R:Int) - (n:Int))=(R:Int) - n:=qG _ (by omega) (by omega);have w2:IntKind.i64.wrap ((C:Int) - (n:Int))=(C:Int) - n:=qG _ (by omega) (by omega);simp only [xZA] at i2 i3;refine jL (sok xt) 9 1 1 [(3,1),(5,1),(8,1)] (by kernel_rfl) fun K hn hp=> ?_;have z27:te27.zero.map AV.val=[.val (.slice none 0 0),iv 0,iv 0,.val (.slice none 0 0),.val (.slice none 0 0),.val (.slice none 0 0)]:=rfl;obtain ⟨hA,hhA⟩: ∃hA:Hp,hA={t:=vK h2.t h2.n [.cells [.val (.slice none 0 0),iv 0,iv 0,.val (.slice none 0 0),.val (.slice none 0 0),.val (.slice none 0 0)] 27],n:=h2.n+1}:=⟨_,rfl⟩;have a1:vK h2.t h2.n [.cells [.val (.slice none 0 0),iv 0,iv 0,.val (.slice none 0 0),.val (.slice none 0 0),.val (.slice none 0 0)] 27]=hA.t:=by rw [hhA]
 have a6:hA.n=h2.n+1:=by rw [hhA]
 have a3:hA.t.get h2.n=some (.cells [.val (.slice none 0 0),iv 0,iv 0,.val (.slice none 0 0),.val (.slice none 0 0),.val (.slice none 0 0)] 27):=by rw [<-a1,qBL,xZZ,if_pos rfl]
 have a5: ∀x,x≠h2.n->hA.t.get x=h2.t.get x:=fun x h1=>by rw [<-a1,qBL,xZZ,if_neg h1];rfl
 have y1:=(a5 h.n (by omega)).trans s1;have y2:=(a5 (h.n+1) (by omega)).trans sh2;have fA:Fr h2.n h2 hA:=⟨by omega,by omega,fun x hx=>a5 x (by omega)⟩;have i3A:qN tb xt hA 3 (elp w.vt (q*3))=some (iv n):=(ha2.ts.fr fA (xZY _)).load tg3 rfl (i:=q) (j:=0) (c:=Kn.t3 ((n:Int),th,wo)) (by rw [xZV,hx];rfl) rfl;rw [nh2] at a1 a3;simp only [sw.1,rE,reduceIte,rL,rA,rD,syw.1,o1,o2,o3,o4,i1,sh2,nh2,s1,i2,i3,WOA_cons (E:=SE xt) tg27,z27,a1,a3,y1,y2];have a2:({t:=hA.t,n:=h.n+3}:Hp)=hA:=by
  have e:hA.n=h.n+3:=by omega
  rw [<-e]
 obtain ⟨h3,hh3⟩: ∃h3:Hp,h3=hA.set (h.n+2) (.cells w.m.cs 27):=⟨_,rfl⟩;have nh3:h3.n=h.n+3:=by rw [hh3,xYT];omega
 have k3: ∀x,x≠h.n+2->h3.t.get x=h2.t.get x:=fun x hx=>by rw [hh3,xZS,xZZ,if_neg hx];exact a5 x (by omega)
 have t3:h3.t.get (h.n+2)=some (.cells w.m.cs 27):=by rw [hh3,xZS,xZZ,if_pos rfl]
 have f3:Fr h2.n h2 h3:=⟨by omega,by omega,fun x hx=>k3 x (by omega)⟩;have i3B:qN tb xt h3 3 (elp w.vt (q*3))=some (iv n):=(ha2.ts.fr f3 (xZY _)).load tg3 rfl (i:=q) (j:=0) (c:=Kn.t3 ((n:Int),th,wo)) (by rw [xZV,hx];rfl) rfl;refine ⟨⟨?_,?_,?_⟩,hn _ _ ?_⟩
 ·have:=(aload_t tb xt h3 (h.n+2) 3 (elp w.vt (q*3))).trans i3B;rw [hh3] at this;exact this
 ·rw [if_neg (by omega)];rfl
 ·rw [if_neg (by omega)];rfl
 rw [a2,<-hh3];have fr3:Fr h.n h h3:=fh2.trans f3 (by omega);have ha3:=ha.fr fr3 (xZY _);have u2:=(k3 (h.n+1) (by omega)).trans sh2;refine jK ?_;refine jL (sok xt) 0 0 18 [(1,1),(10,3)] (by kernel_rfl) fun K hn hp=> ?_;simp only [sy.1,rE,reduceIte,rL,rA,syw.1,t3,u2];refine cAS (pO xt h3 w.m ha3.m fun n1 hn1=> ?_);simp only [sy.1,rE,reduceIte,rL,rA,syw.1,w1,hn1,hRR];refine cAS (kZ xt _ _ _ _ fun n2 hn2=> ?_);simp only [xZT] at hn2;cases e1:(decide (0<=a) && decide (a<=(R:Int) - n))
 ·simp only [sy.1,rE,reduceIte,rL,rA,syw.1,u2,hn2,xZX];apply hn;refine qW (by simp only [sy.1,rE,reduceIte]) ?_;refine qB fun K hn hp=> ?_;simp only [sy.1,rL];apply hn;refine qQ (qH qCw ⟨?_,fr3.up (by omega)⟩);have e1':inB a 0 ((R:Int) - n)=false:=e1;simp [xZZ,Mp.rcan,e1']
 simp only [sy.1,rE,reduceIte,rL,rA,syw.1,t3,u2,hn2,xZX];refine cAS (qBs xt _ w.m (ha3.m.up (by omega)) fun n3 hn3=> ?_);simp only [xZT] at hn3;simp only [sy.1,rE,reduceIte,rL,rA,syw.1,w2,hn3,hW,xZX];refine cAS (kZ xt _ _ _ _ fun n4 hn4=> ?_);simp only [xZT] at hn4;cases e2:(decide (0<=b) && decide (b<=(C:Int) - n))
 ·simp only [sy.1,rE,reduceIte,rL,rA,syw.1,u2,hn4,xZX];apply hn;refine qW (by simp only [sy.1,rE,reduceIte]) ?_;refine qB fun K hn hp=> ?_;simp only [sy.1,rL];apply hn;refine qQ (qH qCw ⟨?_,fr3.up (by omega)⟩);have e1':inB a 0 ((R:Int) - n)=true:=e1;have e2':inB b 0 ((C:Int) - n)=false:=e2;simp [xZZ,Mp.rcan,e1',e2']
 simp only [sy.1,rE,reduceIte,rL,rA,syw.1,u2,hn4,xZX];apply hn;refine jB (by simp only [sy.1,rE,reduceIte]) ?_;obtain ⟨za,zb⟩:=xZJ.1 e1;have za:=of_decide_eq_true za;have zb:=of_decide_eq_true zb;obtain ⟨zc,zd⟩:=xZJ.1 e2;have zc:=of_decide_eq_true zc;have zd:=of_decide_eq_true zd;obtain ⟨r0,rfl⟩: ∃r0:Nat,a=r0:=⟨a.toNat,by omega⟩;obtain ⟨c0,rfl⟩: ∃c0:Nat,b=c0:=⟨b.toNat,by omega⟩;have w3:IntKind.i64.wrap ((r0:Int)+(n:Int))=((r0+n:Nat):Int):=by rw [qG _ (by omega) (by omega)];simp
 have w4:IntKind.i64.wrap ((c0:Int)+(n:Int))=((c0+n:Nat):Int):=by rw [qG _ (by omega) (by omega)];simp
 have e1':inB (r0:Int) 0 ((R:Int) - n)=true:=e1;have e2':inB (c0:Int) 0 ((C:Int) - n)=true:=e2;have no: ∀i j,r0<=i->i<r0+n->c0<=j->j<c0+n->w.m.rcBad r0 c0 n i j=true->w.m.rcan R C n r0 c0=false:=fun i j h1 h2 h3 h4 h5=>by
  simp only [Mp.rcan,e1',e2',xZI,xZN];refine wA (p:=fun i'=>(List.range n).all fun j'=> !w.m.rcBad r0 c0 n (r0+i') (c0+j')) (k:=i - r0) (by omega) (wA (p:=fun j'=> !w.m.rcBad r0 c0 n (r0+(i - r0)) (c0+j')) (k:=j - c0) (by omega) ?_);have q1:r0+(i - r0)=i:=by omega
  have q2:c0+(j - c0)=j:=by omega
  show (!w.m.rcBad r0 c0 n (r0+(i - r0)) (c0+(j - c0)))=false;rw [q1,q2,h5];rfl
 refine qB fun K hn hp=> ?_;simp only [sy.1,rE,reduceIte,rL,u2];apply hn;refine qD fun KA A1 A2 A3 A4 A5=> ?_;refine qM (sok xt) (fun st=> ∃(i:Nat) (m:Nat) (tm:T AV),st=⟨tm,91,h3.up m,[]⟩/\i<=(r0+n)/\tm.get 2=some (.ptr h.n 0)/\tm.get 3=some (.ptr (h.n+1) 0)/\tm.get 5=some (.ptr (h.n+2) 0)/\tm.get 6=some (iv n)/\tm.get 7=some (iv i)/\h3.n<=m/\r0<=i/\ ∀i',r0<=i'->i'<i-> ∀j',c0<=j'->j'<c0+n->w.m.rcBad r0 c0 n i' j'=false) (fun st=>(r0+n) - (match st.tm.get 7 with|some (.val (.int _ n))=>n.toNat|_=>0)) ?_ ?_
 ·rintro st ⟨i,m,tm,rfl,hkA,g2,g3,g5,g6,g7,hm1,hi0,hall⟩;have muA:=g7;refine qB fun K hn hp=> ?_;simp only [sy.1,rE,reduceIte,rL,u2,w3,qV,g3,g6,g7];apply hn;by_cases hi:i<r0+n
  ·refine jC (by simp only [sy.1,rE,reduceIte,hi]) ?_;refine qD fun KB B1 B2 B3 B4 B5=> ?_;refine qA fun K hn hp=> ?_;simp only [sy.1,rE,reduceIte,rL,u2,g3];apply hn;refine qZ fun KD D1 D2 D3 D4 D5=> ?_;refine qM (sok xt) (fun st=> ∃(j:Nat) (m2:Nat) (tm:T AV),st=⟨tm,91,h3.up m2,[]⟩/\j<=(c0+n)/\tm.get 2=some (.ptr h.n 0)/\tm.get 3=some (.ptr (h.n+1) 0)/\tm.get 5=some (.ptr (h.n+2) 0)/\tm.get 6=some (iv n)/\tm.get 7=some (iv i)/\tm.get 8=some (iv j)/\h3.n<=m2/\c0<=j/\ ∀j',c0<=j'->j'<j->w.m.rcBad r0 c0 n i j'=false) (fun st=>(c0+n) - (match st.tm.get 8 with|some (.val (.int _ n))=>n.toNat|_=>0)) ?_ ?_
   ·rintro st ⟨j,m2,tm,rfl,hkD,g2,g3,g5,g6,g7,g8,hm2,hj0,hallj⟩;have muD:=g8;refine qB fun K hn hp=> ?_;simp only [sy.1,rE,reduceIte,rL,u2,w4,qV,g3,g6,g8];apply hn;by_cases hj:j<c0+n
    ·refine jC (by simp only [sy.1,rE,reduceIte,hj]) ?_;refine qD fun KE E1 E2 E3 E4 E5=> ?_;have w5:IntKind.i64.wrap ((j:Int)+1)=((j+1:Nat):Int):=by rw [qG _ (by omega) (by omega)];simp
     have w6:IntKind.i64.wrap ((i:Int)+1)=((i+1:Nat):Int):=by rw [qG _ (by omega) (by omega)];simp
     have next: ∀(tm:T AV) (m3:Nat),h3.n<=m3->w.m.rcBad r0 c0 n i j=false->tm.get 2=some (.ptr h.n 0)->tm.get 3=some (.ptr (h.n+1) 0)->tm.get 5=some (.ptr (h.n+2) 0)->tm.get 6=some (iv n)->tm.get 7=some (iv i)->tm.get 8=some (iv j)->KE .normal ⟨tm,91,h3.up m3,[]⟩:=by
      intro tm m3 hm3 hb g2 g3 g5 g6 g7 g8;refine E1 _ ?_;refine reg fun K hn hp=> ?_;simp only [sy.1,rE,reduceIte,rL,g8,qF hj (show c0+n<=9223372036854775807 by omega)];apply hn;refine ⟨⟨j+1,m3,_,rfl,by omega,(by simp [xZZ,g2]),(by simp [xZZ,g3]),(by simp [xZZ,g5]),(by simp [xZZ,g6]),(by simp [xZZ,g7]),(by simp [xZZ]),hm3,by omega,fun j' h1 h2=> ?_⟩,by simpa [xZZ,muD] using (by omega:(c0+n) - (j+1)<(c0+n) - j)⟩;by_cases e:j'=j
      ·rw [e];exact hb
      ·exact hallj j' h1 (by omega)
     refine qA fun K hn hp=> ?_;simp only [sy.1,rE,reduceIte,rL,rA,t3,g5,g7,g8];refine cAS (rc_c xt _ w.m (ha3.m.up hm2) i j fun n5 hn5=> ?_);simp only [xZT] at hn5;cases c1:decide (w.m.rc i j=2)
     ·simp only [sy.1,rE,reduceIte,rL,syw.1,c1,xZX];apply hn;refine wcT (by simp only [sy.1,rE,reduceIte]) ?_;refine qA fun K hn hp=> ?_;simp only [sy.1,rL];apply hn;refine qC (E4 _ (D4 _ (B4 _ (A4 _ (qH qCw ⟨?_,fr3.up (by omega)⟩)))));simp [xZZ,no i j hi0 hi hj0 hj (by simp [Mp.rcBad,c1])]
     have r1:decide ((j:Int)+1<((c0+n:Nat):Int))=decide (j+1<c0+n):=decide_eq_decide.2 (by omega);have r2:decide ((i:Int)+1<((r0+n:Nat):Int))=decide (i+1<r0+n):=decide_eq_decide.2 (by omega);by_cases d1:j+1<c0+n
     ·simp only [sy.1,rE,reduceIte,rL,rA,t3,u2,w4,qV,g3,g5,g6,g7,g8,c1,w5,d1,xZX];refine cAS (qBr xt _ w.m (ha3.m.up (by omega)) i j false fun n6 hn6=> ?_);simp only [xZT] at hn6;cases c2:w.m.crk i j false
      rotate_left
      ·simp only [sy.1,rE,reduceIte,rL,syw.1,xZX];apply hn;refine wcT (by simp only [sy.1,rE,reduceIte]) ?_;refine qA fun K hn hp=> ?_;simp only [sy.1,rL];apply hn;refine qC (E4 _ (D4 _ (B4 _ (A4 _ (qH qCw ⟨?_,fr3.up (by omega)⟩)))));simp [xZZ,no i j hi0 hi hj0 hj (by simp only [Mp.rcBad,c1,r1,r2];simp [*])]
      by_cases d2:i+1<r0+n
      ·simp only [sy.1,rE,reduceIte,rL,rA,t3,u2,w3,qV,g3,g5,g6,g7,g8,w6,d2,xZX];refine cAS (qBr xt _ w.m (ha3.m.up (by omega)) i j true fun n7 hn7=> ?_);simp only [xZT] at hn7;cases c3:w.m.crk i j true
       rotate_left
       ·simp only [sy.1,rE,reduceIte,rL,xZX];apply hn;refine wcT (by simp only [sy.1,rE,reduceIte]) ?_;refine qA fun K hn hp=> ?_;simp only [sy.1,rL];apply hn;refine qC (E4 _ (D4 _ (B4 _ (A4 _ (qH qCw ⟨?_,fr3.up (by omega)⟩)))));simp [xZZ,no i j hi0 hi hj0 hj (by simp only [Mp.rcBad,c1,r1,r2];simp [*])]
       simp only [sy.1,rE,reduceIte,rL,xZX];apply hn;refine wcF (by simp only [sy.1,rE,reduceIte]) ?_;refine qR (next _ n7 (by omega) (by simp only [Mp.rcBad,c1,r1,r2];simp [*]) ?_ ?_ ?_ ?_ ?_ ?_);all_goals simp [xZZ,g2,g3,g5,g6,g7,g8]
      ·skip
       simp only [sy.1,rE,reduceIte,rL,u2,w3,qV,g3,g6,g7,w6,d2,xZX];apply hn;refine wcF (by simp only [sy.1,rE,reduceIte]) ?_;refine qR (next _ n6 (by omega) (by simp only [Mp.rcBad,c1,r1,r2];simp [*]) ?_ ?_ ?_ ?_ ?_ ?_);all_goals simp [xZZ,g2,g3,g5,g6,g7,g8]
     ·skip
      by_cases d2:i+1<r0+n
      ·simp only [sy.1,rE,reduceIte,rL,rA,t3,u2,w3,w4,qV,g3,g5,g6,g7,g8,c1,w5,w6,d1,d2,xZX];refine cAS (qBr xt _ w.m (ha3.m.up (by omega)) i j true fun n7 hn7=> ?_);simp only [xZT] at hn7;cases c3:w.m.crk i j true
       rotate_left
       ·simp only [sy.1,rE,reduceIte,rL,xZX];apply hn;refine wcT (by simp only [sy.1,rE,reduceIte]) ?_;refine qA fun K hn hp=> ?_;simp only [sy.1,rL];apply hn;refine qC (E4 _ (D4 _ (B4 _ (A4 _ (qH qCw ⟨?_,fr3.up (by omega)⟩)))));simp [xZZ,no i j hi0 hi hj0 hj (by simp only [Mp.rcBad,c1,r1,r2];simp [*])]
       simp only [sy.1,rE,reduceIte,rL,xZX];apply hn;refine wcF (by simp only [sy.1,rE,reduceIte]) ?_;refine qR (next _ n7 (by omega) (by simp only [Mp.rcBad,c1,r1,r2];simp [*]) ?_ ?_ ?_ ?_ ?_ ?_);all_goals simp [xZZ,g2,g3,g5,g6,g7,g8]
      ·skip
       simp only [sy.1,rE,reduceIte,rL,u2,w3,w4,qV,g3,g6,g7,g8,c1,w5,w6,d1,d2,xZX];apply hn;refine wcF (by simp only [sy.1,rE,reduceIte]) ?_;refine qR (next _ n5 (by omega) (by simp only [Mp.rcBad,c1,r1,r2];simp [*]) ?_ ?_ ?_ ?_ ?_ ?_);all_goals simp [xZZ,g2,g3,g5,g6,g7,g8]
    ·refine jD (by simp only [sy.1,rE,reduceIte,hj]) ?_;refine qL (D2 _ ?_);refine B1 _ ?_;refine reg fun K hn hp=> ?_;simp only [sy.1,rE,reduceIte,rL,g7,qF hi (show r0+n<=9223372036854775807 by omega)];apply hn;refine ⟨⟨i+1,m2,_,rfl,by omega,(by simp [xZZ,g2]),(by simp [xZZ,g3]),(by simp [xZZ,g5]),(by simp [xZZ,g6]),(by simp [xZZ]),hm2,by omega,fun i' h1 h2 j' h3 h4=> ?_⟩,by simpa [xZZ,muA] using (by omega:(r0+n) - (i+1)<(r0+n) - i)⟩;by_cases e:i'=i
     ·rw [e];exact hallj j' h3 (by omega)
     ·exact hall i' h1 (by omega) j' h3 h4
   ·exact ⟨c0,m,_,rfl,(by omega),(by simp [xZZ,g2]),(by simp [xZZ,g3]),(by simp [xZZ,g5]),(by simp [xZZ,g6]),(by simp [xZZ,g7]),(by simp [xZZ]),hm1,xZY _,fun j' h1 h2=>absurd h1 (by omega)⟩
  ·refine jD (by simp only [sy.1,rE,reduceIte,hi]) ?_;refine qL (A2 _ ?_);refine qA fun K hn hp=> ?_;simp only [sy.1,rL];apply hn;refine qC (qH qCw ⟨?_,fr3.up (by omega)⟩);have:w.m.rcan R C n r0 c0=true:=by
    simp only [Mp.rcan,e1',e2',xZI,xZN];exact gP fun i' h1=>gP fun j' h2=>by rw [hall (r0+i') (by omega) (by omega) (c0+j') (by omega) (by omega)];rfl
   simp [xZZ,this]
 ·exact ⟨r0,n4,_,rfl,(by omega),(by simp [xZZ]),(by simp [xZZ]),(by simp [xZZ]),(by simp [xZZ]),(by simp [xZZ]),by omega,xZY _,fun i' h1 h2=>absurd h1 (by omega)⟩
theorem ft111 (xt:Xt):(SE xt).ft.get 111=some Tryz.f111:=by kernel_rfl
theorem res111:Tryz.f111.results.toList=[.tmp 6]:=by kernel_rfl
theorem qFi (xt:Xt) (h:Hp) (w:Wk) (ha:w.At xt h) (v:AV) (hv:Go.Ev.one v=true) (a b:Int) (q:Nat) (n th wo:Int) (hx:w.ts[q]? =some (n,th,wo)) (hk1:0<=w.kerf) (hk2:w.kerf<=5) (ht1:1<=th) (ht2:th<=60) (bk:Int) (b1:bk<=60) (b2:0<=bk)
  {K:KP} (hk: ∀m,h.n<m->K (.ret (iv ((bk+w.kerf).tdiv (th+w.kerf)))) (h.up m)):FnA (SE xt) 111 [.agg (w.bc v),bI (a,b,(q:Int)),iv bk] h K:=by
 refine xZO ?_ hk;clear hk K;refine xZQ (sok xt) (ft111 xt) rfl 25 rfl ?_;obtain ⟨o1,o2,o3,o4,o5⟩:=ha.ones;have hq:q<w.ts.length:=(xZU.1 hx).1;have i1:=ha.ts.idx qAn rfl yF rfl (i:=q) (by simpa using hq) (k:= .i64);refine qA fun K hn hp=> ?_;simp only [sw.1,rE,reduceIte,rL,rA];apply hn;obtain ⟨h1,hh1,nh1,sh1,kh1,fbh1⟩:=nwE h (.cells (w.bc v) 120);rw [<-hh1];have fh1:=fbh1;obtain ⟨h2,hh2,nh2,sh2,kh2,fbh2⟩:=nwE h1 (.cells [iv a,iv b,iv q] 61);rw [<-hh2];have fh2:Fr h.n h h2:=fh1.trans fbh2 (by omega);simp only [nh1,xZM,rA] at nh2 sh2 kh2;have s1:=(kh2 h.n (by omega)).trans sh1;have ha2:=ha.fr fh2 (xZY _);have hne:w.ts.map Kn.t3≠[]:=by intro e;have:=congrArg List.length e;simp at this;rw [this] at hq;simp at hq
 have i2:=ha2.ts.fa hne yF rfl (f:=1) (o:=1) (s:=0) (ft:=3) rfl (q*3);have i3:qN tb xt h2 3 (elp w.vt (q*3+1))=some (iv th):=ha2.ts.load tg3 rfl (i:=q) (j:=1) (c:=Kn.t3 (n,th,wo)) (by rw [xZV,hx];rfl) rfl;have w3:IntKind.i64.wrap (bk+w.kerf)=bk+w.kerf:=qG _ (by omega) (by omega);have w4:IntKind.i64.wrap (th+w.kerf)=th+w.kerf:=qG _ (by omega) (by omega);have e5:(bk+w.kerf).tdiv (th+w.kerf)=(bk+w.kerf) / (th+w.kerf):=xYW (by omega);have e6:=Int.ediv_nonneg (a:=bk+w.kerf) (b:=th+w.kerf) (by omega) (by omega);have e7:=Int.ediv_le_self (th+w.kerf) (show 0<=bk+w.kerf by omega);have w5:IntKind.i64.wrap ((bk+w.kerf).tdiv (th+w.kerf))=(bk+w.kerf).tdiv (th+w.kerf):=qG _ (by omega) (by omega);refine zM (sok xt) 19 (by kernel_rfl) fun K hn hp=> ?_;simp only [sy.1,rE,reduceIte,rL,i1,sh2,s1,i2,i3,w3,w4,abin_quo _ _ (show th+w.kerf≠0 by omega),w5];refine hn _ _ (qC (qH res111 ⟨?_,fh2⟩));simp [xZZ]
theorem ft166 (xt:Xt):(SE xt).ft.get 166=some Tryz.f166:=by kernel_rfl
theorem res166:Tryz.f166.results.toList=[]:=by kernel_rfl
theorem qC3 (xt:Xt) (h:Hp) (w:Wk) (ha:w.At xt h) (l bw bb r0 c0 q n:Nat) (th wo:Int) (hx:w.ts[q]? =some ((n:Int),th,wo)) (hr:r0<=100) (hc:c0<=100) (hn:n<=3)
  (q1:h.t.get bw=some (.cells w.cs 30)) (I:Nat->Nat->Hp->Prop) (S:Hp->Prop) (h0:I 0 0 h) (hb: ∀i j h',I i j h'->h'.t.get bb=some (.cells [iv r0,iv c0,iv q] 61))
  (hrow: ∀i h',i<n->I i n h'->I (i+1) 0 h') (hY: ∀i j,i<n->j<n->qCg (SE xt) (.yld l) [iv ((r0+i:Nat):Int),iv ((c0+j:Nat):Int)] (I i j) (I i (j+1)) S):
  FnA (SE xt) 166 [.yld l,.ptr bw 0,.ptr bb 0] h (fun res h'=>(∃v,res= .ret v)/\(I n 0 h'\/S h')):=by
 refine xZQ (sok xt) (ft166 xt) rfl 35 rfl ?_;have hq:q<w.ts.length:=(xZU.1 hx).1;have i1:=ha.ts.idx qAn rfl yF rfl (i:=q) (by simpa using hq) (k:= .i64);have hne:w.ts.map Kn.t3≠[]:=by intro e;have:=congrArg List.length e;simp at this;rw [this] at hq;simp at hq
 have i2:=ha.ts.fa hne yF rfl (f:=0) (o:=0) (s:=0) (ft:=3) rfl (q*3);have i3:qN tb xt h 3 (elp w.vt (q*3+0))=some (iv n):=ha.ts.load tg3 rfl (i:=q) (j:=0) (c:=Kn.t3 ((n:Int),th,wo)) (by rw [xZV,hx];rfl) rfl;simp only [xZA] at i2 i3;have hb0:=hb _ _ _ h0;refine qA fun K hn hp=> ?_;simp only [sw.1,rE,reduceIte,rL,rA,i1,i2,i3,q1,hb0];apply hn;refine qA fun K hn hp=> ?_;simp only [sy.1,rE,reduceIte,rL];apply hn;refine qZ fun KA A1 A2 A3 A4 A5=> ?_;refine qM (sok xt) (fun st=> ∃(i:Nat) (hc:Hp) (tm:T AV),st=⟨tm,35,hc,[]⟩/\i<=n/\tm.get 0=some (.yld l)/\tm.get 2=some (.ptr bb 0)/\tm.get 4=some (iv n)/\tm.get 14=some (iv n)/\tm.get 15=some (iv i)/\I i 0 hc) (fun st=>n - (match st.tm.get 15 with|some (.val (.int _ n))=>n.toNat|_=>0)) ?_ ?_
 ·rintro st ⟨i,hc,tm,rfl,hkA,g0,g2,g4,g14,g15,hi0⟩;have muA:=g15;refine qA fun K hn hp=> ?_;simp only [sy.1,rL,qV,g14,g15];apply hn;by_cases hi:i<n
  ·refine jC (by simp only [sy.1,reduceIte,hi]) ?_;refine qD fun KB B1 B2 B3 B4 B5=> ?_;refine qA fun K hn hp=> ?_;simp only [sy.1,rE,reduceIte,rL,g15];apply hn;refine qA fun K hn hp=> ?_;simp only [sy.1,rE,reduceIte,rL,g4];apply hn;refine qZ fun KD D1 D2 D3 D4 D5=> ?_;refine qM (sok xt) (fun st=> ∃(j:Nat) (hd:Hp) (tm:T AV),st=⟨tm,35,hd,[]⟩/\j<=n/\tm.get 0=some (.yld l)/\tm.get 2=some (.ptr bb 0)/\tm.get 4=some (iv n)/\tm.get 5=some (iv i)/\tm.get 14=some (iv n)/\tm.get 15=some (iv i)/\tm.get 18=some (iv n)/\tm.get 19=some (iv j)/\I i j hd) (fun st=>n - (match st.tm.get 19 with|some (.val (.int _ n))=>n.toNat|_=>0)) ?_ ?_
   ·rintro st ⟨j,hd,tm,rfl,hkD,g0,g2,g4,g5,g14,g15,g18,g19,hj0⟩;have muD:=g19;refine qA fun K hn hp=> ?_;simp only [sy.1,rL,qV,g18,g19];apply hn;by_cases hj:j<n
    ·refine jC (by simp only [sy.1,reduceIte,hj]) ?_;refine qD fun KE E1 E2 E3 E4 E5=> ?_;refine qA fun K hn hp=> ?_;simp only [sy.1,rE,reduceIte,rL,g19];apply hn;have hb1:=hb _ _ _ hj0;have w5:IntKind.i64.wrap ((r0:Int)+(i:Int))=((r0+i:Nat):Int):=by rw [qG _ (by omega) (by omega)];simp
     have w6:IntKind.i64.wrap ((c0:Int)+(j:Int))=((c0+j:Nat):Int):=by rw [qG _ (by omega) (by omega)];simp
     refine qA fun K hn hp=> ?_;simp only [sy.1,rE,reduceIte,rL,g0,g2,g5,hb1,w5,w6];refine (hY i j hi hj hd hj0).mono ?_;rintro res h2 (⟨rfl,hI⟩|⟨rfl,hS⟩)
     ·simp only [sy.1,rE,reduceIte,rL];apply hn;refine wcF (by simp only [sy.1,rE,reduceIte]) ?_;refine qR (E1 _ ?_);refine reg fun K hn hp=> ?_;simp only [sy.1,rE,reduceIte,rL,g19,qF hj (show n<=9223372036854775807 by omega)];apply hn;refine ⟨⟨j+1,h2,_,rfl,by omega,(by simp [xZZ,g0]),(by simp [xZZ,g2]),(by simp [xZZ,g4]),(by simp [xZZ,g5]),(by simp [xZZ,g14]),(by simp [xZZ,g15]),(by simp [xZZ,g18]),(by simp [xZZ]),hI⟩,by simpa [xZZ,muD] using (by omega:n - (j+1)<n - j)⟩
     ·simp only [sy.1,rE,reduceIte,rL];apply hn;refine wcT (by simp only [sy.1,rE,reduceIte]) ?_;refine qC (E4 _ (D4 _ (B4 _ (A4 _ ⟨_,[],rfl,by rw [res166];rfl,⟨_,rfl⟩,.inr hS⟩))))
    ·refine jD (by simp only [sy.1,reduceIte,hj]) ?_;refine qL (D2 _ ?_);refine B1 _ ?_;have e:j=n:=by omega
     refine reg fun K hn hp=> ?_;simp only [sy.1,rE,reduceIte,rL,g15,qF hi (show n<=9223372036854775807 by omega)];apply hn;refine ⟨⟨i+1,hd,_,rfl,by omega,(by simp [xZZ,g0]),(by simp [xZZ,g2]),(by simp [xZZ,g4]),(by simp [xZZ,g14]),(by simp [xZZ]),hrow i hd hi (e▸hj0)⟩,by simpa [xZZ,muA] using (by omega:n - (i+1)<n - i)⟩
   ·exact ⟨0,hc,_,rfl,(by omega),(by simp [xZZ,g0]),(by simp [xZZ,g2]),(by simp [xZZ,g4]),(by simp [xZZ]),(by simp [xZZ,g14]),(by simp [xZZ,g15]),(by simp [xZZ]),(by simp [xZZ]),hi0⟩
  ·refine jD (by simp only [sy.1,reduceIte,hi]) ?_;refine qL (A2 _ ?_);have e:i=n:=by omega
   exact ⟨_,[],rfl,by rw [res166];rfl,⟨_,rfl⟩,.inl (e▸hi0)⟩
 ·exact ⟨0,h,_,rfl,(by omega),(by simp [xZZ]),(by simp [xZZ]),(by simp [xZZ]),(by simp [xZZ]),(by simp [xZZ]),h0⟩
theorem ft100 (xt:Xt):(SE xt).ft.get 100=some Tryz.f100:=by kernel_rfl
theorem res100:Tryz.f100.results.toList=[.tmp 4]:=by kernel_rfl
theorem qES (xt:Xt) (h:Hp) (w:Wk) (ha:w.At xt h) (x:Int×Int×Int) {K:KP}
  (hk:K (.ret (.fn (.func 166) [] [.ptr h.n 0,.ptr (h.n+1) 0])) ((h.new (.cells w.cs 30)).new (.cells [iv x.1,iv x.2.1,iv x.2.2] 61))):FnA (SE xt) 100 [w.av,bI x] h K:=by
 refine xZQ (sok xt) (ft100 xt) rfl 6 rfl ?_;obtain ⟨o1,o2,o3,o4,o5⟩:=ha.ones;refine qA fun K hn hp=> ?_;simp only [sw.1,rE,reduceIte,rL];apply hn;refine qA fun K hn hp=> ?_;simp only [sy.1,rE,reduceIte,rL];apply hn;refine qC (qH res100 ?_);simpa [xZZ] using hk
theorem ft159 (xt:Xt):(SE xt).ft.get 159=some Tryz.f159:=by kernel_rfl
theorem res159:Tryz.f159.results.toList=[.tmp 4]:=by kernel_rfl
def bY (r0 c0 n:Nat) (k:Int×Int×Bool):Bool:=hasB r0 c0 n k.1 k.2.1 && hasB r0 c0 n (bK k) (bL k)
theorem crkIn_c (xt:Xt) (h:Hp) (w:Wk) (ha:w.At xt h) (bw bb r0 c0 q n:Nat) (th wo:Int) (hx:w.ts[q]? =some ((n:Int),th,wo)) (hr:r0<=100) (hc:c0<=100) (hn:n<=100) (hbw:bw<h.n) (hbb:bb<h.n)
  (q1:h.t.get bw=some (.cells w.cs 30)) (q2:h.t.get bb=some (.cells [iv r0,iv c0,iv q] 61)) (k:Int×Int×Bool) {K:KP} (hk: ∀m,h.n<m->K (.ret (.val (.bool (bY r0 c0 n k)))) (h.up m)):
  FnA (SE xt) 159 [.agg [iv k.1,iv k.2.1,.val (.bool k.2.2)],.ptr bw 0,.ptr bb 0] h K:=by
 refine xZO ?_ hk;clear hk K;refine xZQ (sok xt) (ft159 xt) rfl 26 rfl ?_;refine qA fun K hn hp=> ?_;simp only [sw.1,rE,reduceIte,rL,rA];apply hn;obtain ⟨h1,hh1,n1,s1,k1,f1⟩:=vQ h (.cells [iv k.1,iv k.2.1,.val (.bool k.2.2)] 50);rw [<-hh1];have ha1:=ha.fr f1 (xZY _);have q1:=(k1 _ hbw).trans q1;have q2:=(k1 _ hbb).trans q2;refine qA fun K hn hp=> ?_;simp only [sy.1,rE,reduceIte,rL,rA,s1];refine cAS (bey_c xt _ k fun m0 hm0=> ?_);simp only [sy.1,rE,reduceIte,rL,sv.1];apply hn;refine qA fun K hn hp=> ?_;simp only [sy.1,rE,reduceIte,rL,rA,s1,q1,q2];refine cAS (has_c xt _ w (ha1.up (by omega)) r0 c0 q n th wo hx hr hc (by omega) _ _ fun m1 hm1=> ?_);simp only [xZT] at hm1;cases e1:hasB r0 c0 n k.1 k.2.1
 ·simp only [sy.1,rE,reduceIte,rL,xZX];refine hn _ _ (qC (qH res159 ⟨?_,f1.up (by omega)⟩));simp [xZZ,bY,e1]
 simp only [sy.1,rE,reduceIte,rL,rA,q1,q2,xZX];refine cAS (has_c xt _ w (ha1.up (by omega)) r0 c0 q n th wo hx hr hc (by omega) _ _ fun m2 hm2=> ?_);simp only [xZT] at hm2;simp only [sy.1,rE,reduceIte,rL,xZX];refine hn _ _ (qC (qH res159 ⟨?_,f1.up (by omega)⟩));simp [xZZ,bY,e1]
theorem crk_asks (xt:Xt) (h:Hp) (w:Wk) (ha:w.At xt h) (bw bb r0 c0 q n:Nat) (th wo:Int) (hx:w.ts[q]? =some ((n:Int),th,wo)) (hr:r0<=100) (hc:c0<=100) (hn:n<=100) (hbw:bw<h.n) (hbb:bb<h.n)
  (q1:h.t.get bw=some (.cells w.cs 30)) (q2:h.t.get bb=some (.cells [iv r0,iv c0,iv q] 61)):kD (SE xt) h (.fn (.func 159) [] [.ptr bw 0,.ptr bb 0]) (fun c=> .agg (c.map .val)) (w.m.ks.map k3) (fun c=>match c with|[.int _ x,.int _ y,.bool z]=>bY r0 c0 n (x,y,z)|_=>false):=by
 intro m c K hm hc' hk;obtain ⟨g,_,rfl⟩:=xYU.1 hc';exact vE (sok xt) (crkIn_c xt (h.up m) w (ha.up hm) bw bb r0 c0 q n th wo hx hr hc hn (xYM hbw hm) (xYM hbb hm) q1 q2 g fun n' hn'=>by have:=hk n' hn';rw [xZX];exact this)
theorem any_crk (w:Wk) (r0 c0 n:Nat):((w.m.ks.map k3).any fun c=>match c with|[.int _ x,.int _ y,.bool z]=>bY r0 c0 n (x,y,z)|_=>false)=w.m.ks.any (bY r0 c0 n):=by
 rw [List.any_map];rfl
def solTo (m:Mp) (r0 c0 n i j:Nat):Prop:=(∀i' j',i'<i->j'<n->m.is (r0+i':Nat) (c0+j':Nat) 2=true)/\ ∀j',j'<j->m.is (r0+i:Nat) (c0+j':Nat) 2=true
def Mp.pcan (m:Mp) (R C:Nat) (n:Nat) (a b:Int):Bool:=inB a 0 ((R:Int) - n) && (inB b 0 ((C:Int) - n) && (((List.range n).all fun i=>(List.range n).all fun j=>m.is (a.toNat+i:Nat) (b.toNat+j:Nat) 2) && !m.ks.any (bY a.toNat b.toNat n)))
theorem ft86 (xt:Xt):(SE xt).ft.get 86=some Tryz.f86:=by kernel_rfl
theorem res86:Tryz.f86.results.toList=[.cell 4 4]:=by kernel_rfl
theorem can_c (xt:Xt) (h:Hp) (w:Wk) (ha:w.At xt h) (R C:Nat) (hm:w.m.Is R C) (hrc:w.m.Rect) (a b:Int) (q n:Nat) (th wo:Int) (hx:w.ts[q]? =some ((n:Int),th,wo)) (hn3:n<=3)
  {K:KP} (hk: ∀m,h.n<m->K (.ret (.val (.bool (w.m.pcan R C n a b)))) (h.up m)):FnA (SE xt) 86 [w.av,bI (a,b,(q:Int))] h K:=by
 refine xZO ?_ hk;clear hk K;refine xZQ (sok xt) (ft86 xt) rfl 55 rfl ?_;have hR6:=hm.r6;have hC8:=hm.c8;have hRR:=hm.hR;obtain ⟨o1,o2,o3,o4,o5⟩:=ha.ones;have hq:q<w.ts.length:=(xZU.1 hx).1;have i1:=ha.ts.idx qAn rfl yF rfl (i:=q) (by simpa using hq) (k:= .i64);refine qA fun K hn hp=> ?_;simp only [sw.1,rE,reduceIte,rL];apply hn;obtain ⟨h1,hh1,nh1,sh1,kh1,fbh1⟩:=nwE h (.cells w.cs 30);rw [<-hh1];have fh1:=fbh1;obtain ⟨h2,hh2,nh2,sh2,kh2,fbh2⟩:=nwE h1 (.cells [iv a,iv b,iv q] 61);rw [<-hh2];have fh2:Fr h.n h h2:=fh1.trans fbh2 (by omega);simp only [nh1,xZM,rA] at nh2 sh2 kh2;obtain ⟨h3,hh3,nh3,sh3,kh3,fbh3⟩:=nwE h2 (.cells [.val (.bool false)] 4);rw [<-hh3];have fh3:Fr h.n h h3:=fh2.trans fbh3 (by omega);simp only [nh2,xZM,rA] at nh3 sh3 kh3;have s1:=(kh3 h.n (by omega)).trans ((kh2 h.n (by omega)).trans sh1);have s2:=(kh3 (h.n+1) (by omega)).trans sh2;refine qA fun K hn hp=> ?_;simp only [sw.1,rE,reduceIte,rL,rA,rD,al27,o1,o2,o3,o4,nh3,s1];apply hn;obtain ⟨h4,hh4,nh4,sh4,kh4,fbh4⟩:=nwS h3 (.cells [.val (.slice none 0 0),iv 0,iv 0,.val (.slice none 0 0),.val (.slice none 0 0),.val (.slice none 0 0)] 27) (.cells w.m.cs 27);have fh4:Fr h.n h h4:=fh3.trans fbh4 (by omega);simp only [nh3,xZM,rA] at nh4 sh4 kh4 hh4;rw [<-hh4];have ha4:=ha.fr fh4 (xZY _);have u1:=(kh4 h.n (by omega)).trans s1;have u2:=(kh4 (h.n+1) (by omega)).trans s2;have u3:=(kh4 (h.n+2) (by omega)).trans sh3;have hne:w.ts.map Kn.t3≠[]:=by intro e;have:=congrArg List.length e;simp at this;rw [this] at hq;simp at hq
 have i2:=ha4.ts.fa hne yF rfl (f:=0) (o:=0) (s:=0) (ft:=3) rfl (q*3);have i3:qN tb xt h4 3 (elp w.vt (q*3+0))=some (iv n):=ha4.ts.load tg3 rfl (i:=q) (j:=0) (c:=Kn.t3 ((n:Int),th,wo)) (by rw [xZV,hx];rfl) rfl;simp only [xZA] at i2 i3;have w1:IntKind.i64.wrap ((R:Int) - (n:Int))=(R:Int) - n:=qG _ (by omega) (by omega);have w2:IntKind.i64.wrap ((C:Int) - (n:Int))=(C:Int) - n:=qG _ (by omega) (by omega);refine qA fun K hn hp=> ?_;simp only [sy.1,rE,reduceIte,rL,i1,u1,u2,i2,i3];apply hn;refine jK ?_;have hlen4:=ha4.m.len;have g0:=ha4.m.cells.at_ tg22 rfl qA8 rfl rfl (i:=0) (l:=(w.m.cells.headD []).map Kn.c1) (by
  have:=hm.r0;cases hcs:w.m.cells with
  |nil=>rw [hcs] at hRR;simp at hRR;omega
  |cons l ls=>rfl)
 obtain ⟨v0,g1,g2,g3⟩:=g0;have g1:qK tb 22 w.m.vc (.val (.int .i64 0))=some (elp w.m.vc 0):=g1 .i64;have l0: ∀h',zA tb h' 58 v0=some C:=fun h'=>by
  have:=g3.len (h':=h') qA8 rfl;have hc:=hm.hC 0 hm.r0;have e:w.m.cells.headD []=w.m.cells.getD 0 []:=by cases w.m.cells<;>rfl
  rw [List.length_map,e,hc] at this;exact this
 refine jL (sok xt) 0 0 22 [] (by kernel_rfl) fun K hn hp=> ?_;simp only [sy.1,rE,reduceIte,rL,rA,syw.1,sh4,u2,hlen4,hRR,w1];refine cAS (wU xt _ _ _ _ fun n1 hn1=> ?_);cases e1:(decide (0<=a) && decide (a<=(R:Int) - n))
 ·simp only [sy.1,rE,reduceIte,rL,rA,syw.1,hn1];apply hn;refine qW (by simp only [sy.1,rE,reduceIte]) ?_;refine qB fun K hn hp=> ?_;simp only [sw.1,rE,reduceIte,nh4,u3];apply hn;refine qQ (bX (v:= .val (.bool false)) res86 ?_ ⟨?_,?_⟩)
  ·simp only [sy.1,rE,reduceIte,u3]
  ·have e1':inB a 0 ((R:Int) - n)=false:=e1;simp [Mp.pcan,e1']
  ·exact (fh4.up (by simp at hn1;omega)).set (by omega) (by simp at hn1 ⊢;omega) _
 simp only [sy.1,rE,reduceIte,rL,rA,syw.1,sh4,u2,hn1,g1,g2,l0,w2];refine cAS (wU xt _ _ _ _ fun n2 hn2=> ?_);simp only [xZT] at hn1 hn2;cases e2:(decide (0<=b) && decide (b<=(C:Int) - n))
 ·simp only [sy.1,rE,reduceIte,rL,rA,syw.1,hn2,xZX];apply hn;refine qW (by simp only [sy.1,rE,reduceIte]) ?_;refine qB fun K hn hp=> ?_;simp only [sw.1,rE,reduceIte,nh4,u3];apply hn;refine qQ (bX (v:= .val (.bool false)) res86 ?_ ⟨?_,?_⟩)
  ·simp only [sy.1,rE,reduceIte,u3]
  ·have e1':inB a 0 ((R:Int) - n)=true:=e1;have e2':inB b 0 ((C:Int) - n)=false:=e2;simp [Mp.pcan,e1',e2']
  ·exact (fh4.up (by omega)).set (by omega) (by simp;omega) _
 simp only [sy.1,rE,reduceIte,rL,rA,syw.1,hn2,xZX];apply hn;refine jB (by simp only [sy.1,rE,reduceIte]) ?_;obtain ⟨za,zb⟩:=xZJ.1 e1;have za:=of_decide_eq_true za;have zb:=of_decide_eq_true zb;obtain ⟨zc,zd⟩:=xZJ.1 e2;have zc:=of_decide_eq_true zc;have zd:=of_decide_eq_true zd;obtain ⟨r0,rfl⟩: ∃r0:Nat,a=r0:=⟨a.toNat,by omega⟩;obtain ⟨c0,rfl⟩: ∃c0:Nat,b=c0:=⟨b.toNat,by omega⟩;have e1':inB (r0:Int) 0 ((R:Int) - n)=true:=e1;have e2':inB (c0:Int) 0 ((C:Int) - n)=true:=e2;refine qB fun K hn hp=> ?_;simp only [sy.1,rE,reduceIte,rL,rA,nh4,u1,u2];refine cAS (qES xt (h4.up n2) w (ha4.up (n:=n2) (by omega)) ((r0:Int),(c0:Int),(q:Int)) ?_);obtain ⟨h5,hh5,n5,s5,k5,f5⟩:=vQ (h4.up n2) (.cells w.cs 30);obtain ⟨h6,hh6,n6,s6,k6,f6⟩:=yJ f5 n5 (.cells [iv r0,iv c0,iv q] 61);simp only [xZT,Hp.up_t,rA] at n5 s5 k5 f5 n6 s6 k6 f6;simp only [sy.1,rL,<-hh5,<-hh6];apply hn;clear hh5 hh6;have f6h:Fr h.n h h6:=(fh4.up (m:=n2) (by omega)).trans f6 (by omega);have low6: ∀k,k<n2->h6.t.get k=h4.t.get k:=fun k hk=>by rw [k6 k (by omega),k5 k hk]
 have v1:=(low6 h.n (by omega)).trans u1;have v2:=(low6 (h.n+1) (by omega)).trans u2;have v3:=(low6 (h.n+2) (by omega)).trans u3;have v4:=(low6 (h.n+3) (by omega)).trans sh4;have v5:=(k6 n2 (by omega)).trans s5;refine qD fun KB B1 B2 B3 B4 B5=> ?_
 let HL:ALoop->Hp:=LH h6
 let I:ALoop->Nat->Nat->Hp->Prop:=fun rc i j h'=>FrM (fun k=>k=h6.n+1) (h6.n+2) (HL rc) h'/\h'.t.get (h6.n+1)=some (.loop rc)/\solTo w.m r0 c0 n i j
 let S:ALoop->Ex->Hp->Prop:=fun rc x h'=>x= .ret/\FrM (fun k=>k=h6.n+1\/k=h.n+2) (h6.n+2) (HL rc) h'/\h'.t.get (h6.n+1)=some (.loop (rc.left .ret))/\h'.t.get (h.n+2)=some (.cells [.val (.bool false)] 4)/\w.m.pcan R C n r0 c0=false
 have hHL: ∀rc k,k<h6.n->(HL rc).t.get k=h6.t.get k:=fun rc k hk=>vV h6 rc hk;have fHL: ∀rc,Fr h.n h (HL rc):=fun rc=>f6h.trans (gJ h6 rc) (by omega);have nHL: ∀rc,(HL rc).n=h6.n+2:=fun rc=>rfl;refine kL (sok xt) (g:=166) (xs:=[.yld (h6.n+1),.ptr n2 0,.ptr (n2+1) 0]) (S:=S) (Z:=fun rc h'=>I rc n 0 h') (by simp only [sy.1,rE,reduceIte];rfl) (fun rc c1 c2 c3 c4 c5 c6 c7=> ?_) ?_ ?_
 ·refine qC3 xt _ w (ha.fr (fHL rc) (xZY _)) (h6.n+1) n2 (n2+1) r0 c0 q n th wo hx (by omega) (by omega) hn3 (by rw [<-v5];exact hHL rc _ (by omega)) (I rc) _ ⟨FrM.refl (xZY _),LH_l h6 rc,fun i' j' h1=>absurd h1 (by omega),fun j' h1=>absurd h1 (by omega)⟩ ?_ ?_ ?_
  ·rintro i j h' ⟨z1,_⟩;rw [z1.get (by omega) (by omega)];exact (hHL rc _ (by omega)).trans s6
  ·rintro i h' hi ⟨z1,z2,z3,z4⟩;refine ⟨z1,z2,fun i' j' h1 h2=> ?_,fun j' h1=>absurd h1 (by omega)⟩;by_cases e:i'=i
   ·subst e;exact z4 j' h2
   ·exact z3 i' j' (by omega) h2
  ·intro i j hi hj;refine yW (sok xt) c1 c2 c3 c4 c5 c6 c7 (fun h' hA=>hA.2.1) (fun h' hA=>⟨_,rfl,?_⟩);obtain ⟨z1,z2,z3,z4⟩:=hA;refine qA fun K hn hp=> ?_;simp only [sy.1,rE,reduceIte,rL];apply hn;refine reg fun K hn hp=> ?_;simp only [sy.1,rE,reduceIte,rL];apply hn;refine ⟨rfl,rfl,rfl,?_⟩;obtain ⟨h7,hh7⟩: ∃h7:Hp,h7=h'.set (h6.n+1) (.loop rc.busy):=⟨_,rfl⟩;rw [<-hh7];have z5:FrM (fun k=>k=h6.n+1) (h6.n+2) (HL rc) h7:=by rw [hh7];exact z1.set (.inr rfl) _
   have z6:h7.t.get (h6.n+1)=some (.loop rc.busy):=by rw [hh7,xZS,xZZ,if_pos rfl]
   have z7: ∀k,k<h6.n->h7.t.get k=h6.t.get k:=fun k hk=>(z5.get (by omega) (by omega)).trans (hHL rc k hk);have x3:=(z7 (h.n+2) (by omega)).trans v3;have x4:=(z7 (h.n+3) (by omega)).trans v4;have f7:Fr h.n h h7:=z5.toFr (fHL rc) (by omega) (fun k hk=>by subst hk;exact ⟨by omega,by rw [nHL];omega⟩);have ha7:=ha.fr f7 (xZY _);have nn:=nHL rc;refine qZ fun K' k1' k2' k3' k4' k5'=> ?_;refine qA fun K hn hp=> ?_;simp only [sy.1,rE,reduceIte,rL,rA,x4];refine cAS (is_c xt _ w.m ha7.m hrc _ _ _ fun n3 hn3=> ?_);cases e3:w.m.is (r0+i:Nat) (c0+j:Nat) 2
   ·simp only [sy.1,rE,reduceIte,rL];apply hn;refine wcT (by simp only [sy.1,rE,reduceIte]) ?_;refine qA fun K hn hp=> ?_;simp only [sw.1,rE,reduceIte,x3];apply hn;refine qC (k4' _ ⟨rfl,?_,.inr ⟨.ret,rfl,rfl,?_,?_,?_,?_⟩⟩)
    ·simp only [xZS,Hp.up_t];rw [xZZ,if_neg (by omega)];exact z6
    ·refine (((z5.sub fun k hk=> .inl hk).up (xZR hn3)).set (.inr (.inr rfl)) _).set (.inr (.inl rfl)) _
    ·simp [xZS,xZZ]
    ·simp only [xZS];rw [xZZ,if_neg (by omega),xZZ,if_pos rfl]
    ·simp only [Mp.pcan,e1',e2',xZI,xZN];have:((List.range n).all fun i=>(List.range n).all fun j=>w.m.is (r0+i:Nat) (c0+j:Nat) 2)=false:=wA (p:=fun i=>(List.range n).all fun j=>w.m.is (r0+i:Nat) (c0+j:Nat) 2) (k:=i) hi (wA (p:=fun j=>w.m.is (r0+i:Nat) (c0+j:Nat) 2) (k:=j) hj e3);rw [this];rfl
   ·simp only [sy.1,rE,reduceIte,rL];apply hn;refine wcF (by simp only [sy.1,rE,reduceIte]) ?_;refine qR (k1' _ ⟨rfl,?_,.inl ⟨rfl,?_,?_,z3,fun j' h1=> ?_⟩⟩)
    ·simp only [Hp.up_t];exact z6
    ·exact (z5.up (xZR hn3)).set (.inr rfl) _
    ·simp [xZS,xZZ]
    ·by_cases e:j'=j
     ·rw [e];exact e3
     ·exact z4 j' (by omega)
 ·rintro rc h' c1 c2 ⟨z1,z2,z3,_⟩;refine ⟨z2,B1 _ ?_⟩;obtain ⟨h8,hh8⟩: ∃h8:Hp,h8=h'.set (h6.n+1) (.loop {rc with state:= .exhausted}):=⟨_,rfl⟩;rw [<-hh8];have z5:FrM (fun k=>k=h6.n+1) (h6.n+2) (HL rc) h8:=by rw [hh8];exact z1.set (.inr rfl) _
  have nn:=nHL rc;have l8:=z5.le;have z7: ∀k,k<h6.n->h8.t.get k=h6.t.get k:=fun k hk=>(z5.get (by omega) (by omega)).trans (hHL rc k hk);have x1:=(z7 h.n (by omega)).trans v1;have x2:=(z7 (h.n+1) (by omega)).trans v2;have x3:=(z7 (h.n+2) (by omega)).trans v3;have x4:=(z7 (h.n+3) (by omega)).trans v4;have x6:h8.t.get h6.n=some .deferred:=(z5.get (by omega) (by omega)).trans (LH_d h6 rc);have f8:Fr h.n h h8:=z5.toFr (fHL rc) (by omega) (fun k hk=>by subst hk;exact ⟨by omega,by omega⟩);have ha8:=ha.fr f8 (xZY _);refine qA fun K hn hp=> ?_;simp only [sy.1,rE,reduceIte,rL,x4];refine cAS (qGc xt _ _ _ _ _ ha8.m.ks (by simpa using ha.m.lk) (crk_asks xt h8 w ha8 h.n (h.n+1) r0 c0 q n th wo hx (by omega) (by omega) (by omega) (by omega) (by omega) x1 x2) fun n3 hn3=> ?_);rw [any_crk];simp only [sw.1,rE,reduceIte,rL,x3];refine hn _ _ (qC (end_cd res86 (d:=h6.n) (v:= .val (.bool !w.m.ks.any (bY r0 c0 n))) ?_ ?_ ⟨?_,?_⟩))
  ·simp only [xZS,Hp.up_t];rw [xZZ,if_neg (by omega)];exact x6
  ·simp only [sy.1,rE,reduceIte,Hp.del_t];rw [if_neg (by omega)];rfl
  ·have:((List.range n).all fun i=>(List.range n).all fun j=>w.m.is (r0+i:Nat) (c0+j:Nat) 2)=true:=gP fun i h1=>gP fun j h2=>z3 i j h1 h2;simp only [Mp.pcan,e1',e2',xZI,xZN,this]
  ·exact ((f8.up (xZR hn3)).set (by omega) (by simp only [xZT];omega) _).del (by omega) (by simp only [xZT,xYT];omega)
 ·rintro rc x h' ⟨rfl,z1,z2,z3,z4⟩;refine ⟨.ret,rfl,z2,B4 _ ?_⟩;have nn:=nHL rc;have l8:=z1.le;have x6:h'.t.get h6.n=some .deferred:=(z1.get (by omega) (by omega)).trans (LH_d h6 rc);have f8:Fr h.n h h':=z1.toFr (fHL rc) (by omega) (fun k hk=>by omega);refine end_cd res86 (d:=h6.n) (v:= .val (.bool false)) ?_ ?_ ⟨by rw [z4],?_⟩
  ·simp only [xZS];rw [xZZ,if_neg (by omega)];exact x6
  ·simp only [sy.1,rE,reduceIte,Hp.del_t];rw [if_neg (by omega),if_neg (by omega),z3];rfl
  ·exact (f8.set (by omega) (by omega) _).del (by omega) (by simp only [xYT];omega)
theorem ft80 (xt:Xt):(SE xt).ft.get 80=some Tryz.f80:=by kernel_rfl
theorem res80:Tryz.f80.results.toList=[.tmp 4]:=by kernel_rfl
abbrev gLo (F:Nat->Nat->Int×Int):Nat->Nat->Int:=fun r c=>(F r c).1
theorem least_c (xt:Xt) (h:Hp) (w:Wk) (ha:w.At xt h) (v:AV) (F:Nat->Nat->Int×Int) (N M R C:Nat) (sg:SG h N M v R C F) (hM:M<=h.n) (r0 c0 q n:Nat) (th wo:Int) (hx:w.ts[q]? =some ((n:Int),th,wo)) (hR:R<=100) (hC:C<=100) (hrn:r0+n<=R) (hcn:c0+n<=C) (hn3:n<=3) (hn0:0<n) (hk1:0<=w.kerf) (hk2:w.kerf<=5) (ht1:1<=th) (ht2:th<=60) (hpos: ∀i,i<n-> ∀j,j<n->0<=gLo F (r0+i) (c0+j))
  {K:KP} (hk: ∀m,h.n<m->K (.ret (iv ((zR (gLo F) r0 c0 n n+w.kerf).tdiv (th+w.kerf)))) (h.up m)):FnA (SE xt) 80 [.agg (w.bc v),bI ((r0:Int),(c0:Int),(q:Int))] h K:=by
 refine xZO ?_ hk;clear hk K;refine xZQ (sok xt) (ft80 xt) rfl 29 rfl ?_;obtain ⟨o1,o2,o3,o4,o5⟩:=ha.ones;have onev:=sg.one;refine qA fun K hn hp=> ?_;simp only [sw.1,rE,reduceIte,rL];apply hn;obtain ⟨h1,hh1,n1,s1,k1,f1⟩:=vQ h (.cells (w.bc v) 120);obtain ⟨h2,hh2,n2,s2,k2,f2⟩:=yJ f1 n1 (.cells [iv r0,iv c0,iv q] 61);rw [<-hh1,<-hh2];simp only [rA] at n2;refine qA fun K hn hp=> ?_;simp only [sw.1,rE,reduceIte,rL,n2];apply hn;obtain ⟨h3,hh3⟩: ∃h3:Hp,h3=(h2.new (.cells [iv 0] 3)).set (h.n+2) (.cells [iv 60] 3):=⟨_,rfl⟩;rw [<-hh3];have n3:h3.n=h.n+3:=by rw [hh3];rw [xYT,Hp.new_n,n2]
 have s3:h3.t.get (h.n+2)=some (.cells [iv 60] 3):=by rw [hh3,xZS,xZZ,if_pos rfl]
 have k3: ∀k,k<h.n+2->h3.t.get k=h2.t.get k:=fun k hk=>by rw [hh3];simp only [xZS,Hp.new_t];rw [xZZ,if_neg (by omega),xZZ,if_neg (by omega)]
 have f3:Fr h.n h h3:=by rw [hh3];exact (f2.new _).set (by omega) (by rw [Hp.new_n];omega) _
 have u1:=(k3 h.n (by omega)).trans ((k2 h.n (by omega)).trans s1);have u2:=(k3 (h.n+1) (by omega)).trans s2;clear hh1 hh2 hh3;refine qB fun K hn hp=> ?_;simp only [sy.1,rE,reduceIte,rL,rA,rD,u1,u2];refine cAS (qES xt h3 w (ha.fr f3 (xZY _)) ((r0:Int),(c0:Int),(q:Int)) ?_);obtain ⟨h4,hh4,n4,s4,k4,f4⟩:=vQ h3 (.cells w.cs 30);obtain ⟨h5,hh5,n5,s5,k5,f5⟩:=yJ f4 n4 (.cells [iv r0,iv c0,iv q] 61);rw [n3] at n4 s4 k4 n5 s5 k5;simp only [sy.1,rL,<-hh4,<-hh5,n3];apply hn;clear hh4 hh5;have f5h:Fr h.n h h5:=f3.trans f5 (by omega);have low5: ∀k,k<h.n+3->h5.t.get k=h3.t.get k:=fun k hk=>by rw [k5 k (by omega),k4 k hk]
 have v1:=(low5 h.n (by omega)).trans u1;have v2:=(low5 (h.n+1) (by omega)).trans u2;have v3:=(low5 (h.n+2) (by omega)).trans s3;have v5:=(k5 (h.n+3) (by omega)).trans s4
 let HL:=LH h5
 let I:ALoop->Nat->Nat->Hp->Prop:=fun rc i j h'=>FrM (fun k=>k=h5.n+1\/k=h.n+2) (h5.n+2) (LH h5 rc) h'/\h'.t.get (h5.n+1)=some (.loop rc)/\h'.t.get (h.n+2)=some (.cells [iv (xS (gLo F (r0+i)) c0 j (zR (gLo F) r0 c0 n i))] 3)
 have fHL: ∀rc,Fr h.n h (LH h5 rc):=fun rc=>f5h.trans (gJ h5 rc) (by omega);have nHL: ∀rc,(LH h5 rc).n=h5.n+2:=fun rc=>rfl;refine qD fun KB B1 B2 B3 B4 B5=> ?_;refine kL (sok xt) (g:=166) (xs:=[.yld (h5.n+1),.ptr (h.n+3) 0,.ptr (h.n+4) 0]) (S:=fun _ _ _=>False) (Z:=fun rc h'=>I rc n 0 h') (by simp only [sy.1,rE,reduceIte];rfl) (fun rc c1 c2 c3 c4 c5 c6 c7=> ?_) ?_ (fun _ _ _ hf=>hf.elim)
 ·refine qC3 xt _ w (ha.fr (fHL rc) (xZY _)) (h5.n+1) (h.n+3) (h.n+4) r0 c0 q n th wo hx (by omega) (by omega) hn3 (by rw [<-v5];exact vV h5 rc (by omega)) (I rc) _ ⟨FrM.refl (xZY _),LH_l h5 rc,(vV h5 rc (by omega)).trans v3⟩ ?_ ?_ ?_
  ·rintro i j h' ⟨z1,_⟩;rw [z1.get (by omega) (by omega)];exact (vV h5 rc (by omega)).trans s5
  ·rintro i h' hi ⟨z1,z2,z3⟩;exact ⟨z1,z2,z3⟩
  ·intro i j hi hj;refine yW (sok xt) c1 c2 c3 c4 c5 c6 c7 (fun h' hA=>hA.2.1) (fun h' hA=>⟨_,rfl,?_⟩);obtain ⟨z1,z2,z3⟩:=hA;refine qA fun K hn hp=> ?_;simp only [sy.1,rE,reduceIte,rL];apply hn;refine reg fun K hn hp=> ?_;simp only [sy.1,rE,reduceIte,rL];apply hn;refine ⟨rfl,rfl,rfl,?_⟩;dsimp only;obtain ⟨h7,hh7⟩: ∃h7:Hp,h7=h'.set (h5.n+1) (.loop rc.busy):=⟨_,rfl⟩;rw [<-hh7];have z5:FrM (fun k=>k=h5.n+1\/k=h.n+2) (h5.n+2) (LH h5 rc) h7:=by rw [hh7];exact z1.set (.inr (.inl rfl)) _
   have z6:h7.t.get (h5.n+1)=some (.loop rc.busy):=by rw [hh7,xZS,xZZ,if_pos rfl]
   have z8:h7.t.get (h.n+2)=some (.cells [iv (xS (gLo F (r0+i)) c0 j (zR (gLo F) r0 c0 n i))] 3):=by rw [hh7,xZS,xZZ,if_neg (by omega)];exact z3
   have z7: ∀k,k<h5.n->k≠h.n+2->h7.t.get k=h5.t.get k:=fun k hk hk2=>(z5.get (by omega) (by omega)).trans (vV h5 rc hk);have x1:=(z7 h.n (by omega) (by omega)).trans v1;have nn:=nHL rc;have sg7:=sg.keep (h':=h7) fun k _ hk=>(z7 k (by omega) (by omega)).trans (f5h.at_ k (.inl (by omega)));obtain ⟨B,b,rws,g1,g2,g3,g4,g5,g6,g7,g8,g9,_⟩:=sg7.at_ (r:=r0+i) (by omega);have g10:=sl55 (b:=b) (C:=C) (c:=c0+j) (by omega);have g11:=wE (F (r0+i)) (C:=C) (c:=c0+j) (by omega);refine qZ fun K' k1' k2' k3' k4' k5'=> ?_;refine regD (sok xt) 11 (by kernel_rfl) fun K hn hp=> ?_;simp only [sw.1,rE,reduceIte,rL,x1,z8,g1,g2,g3,g4,g10,g11];refine hn _ _ (k1' _ ⟨rfl,?_,.inl ⟨rfl,?_,?_,?_⟩⟩)
   ·rw [xZS,xZZ,if_neg (by omega)];exact z6
   ·exact (z5.set (.inr (.inr rfl)) _).set (.inr (.inl rfl)) _
   ·rw [xZS,xZZ,if_pos rfl]
   ·rw [xZS,xZZ,if_neg (by omega),xZS,xZZ,if_pos rfl];rfl
 ·rintro rc h' c1 c2 ⟨z1,z2,z3⟩;refine ⟨z2,B1 _ ?_⟩;obtain ⟨h8,hh8⟩: ∃h8:Hp,h8=h'.set (h5.n+1) (.loop {rc with state:= .exhausted}):=⟨_,rfl⟩;rw [<-hh8];have z5:FrM (fun k=>k=h5.n+1\/k=h.n+2) (h5.n+2) (LH h5 rc) h8:=by rw [hh8];exact z1.set (.inr (.inl rfl)) _
  have nn:=nHL rc;have l8:=z5.le;have z7: ∀k,k<h5.n->k≠h.n+2->h8.t.get k=h5.t.get k:=fun k hk hk2=>(z5.get (by omega) (by omega)).trans (vV h5 rc hk);have x1:=(z7 h.n (by omega) (by omega)).trans v1;have x2:=(z7 (h.n+1) (by omega) (by omega)).trans v2;have x3:h8.t.get (h.n+2)=some (.cells [iv (zR (gLo F) r0 c0 n n)] 3):=by rw [hh8,xZS,xZZ,if_neg (by omega)];exact z3
  have x6:h8.t.get h5.n=some .deferred:=(z5.get (by omega) (by omega)).trans (LH_d h5 rc);have f8:Fr h.n h h8:=z5.toFr (fHL rc) (by omega) (fun k hk=>by omega);refine qA fun K hn hp=> ?_;simp only [sy.1,rE,reduceIte,rL,rA,x1,x2,x3];refine cAS (qFi xt h8 w (ha.fr f8 (xZY _)) v onev r0 c0 q n th wo hx hk1 hk2 ht1 ht2 (zR (gLo F) r0 c0 n n) (bF _ _ _ _ _) (bG (by omega) n hpos) fun m1 hm1=> ?_);simp only [sy.1,rE,reduceIte,rL];refine hn _ _ (qC (end_1d res80 (d:=h5.n) (by simpa using x6) ⟨?_,?_⟩))
  ·simp [xZZ]
  ·exact (f8.up (xZR hm1)).del (by omega) (by simp only [xZT];omega)
theorem ft81 (xt:Xt):(SE xt).ft.get 81=some Tryz.f81:=by kernel_rfl
theorem res81:Tryz.f81.results.toList=[.tmp 4]:=by kernel_rfl
abbrev gHi (F:Nat->Nat->Int×Int):Nat->Nat->Int:=fun r c=>(F r c).2
theorem most_c (xt:Xt) (h:Hp) (w:Wk) (ha:w.At xt h) (v:AV) (F:Nat->Nat->Int×Int) (N M R C:Nat) (sg:SG h N M v R C F) (hM:M<=h.n) (r0 c0 q n:Nat) (th wo:Int) (hx:w.ts[q]? =some ((n:Int),th,wo)) (hR:R<=100) (hC:C<=100) (hrn:r0+n<=R) (hcn:c0+n<=C) (hn3:n<=3) (hn0:0<n) (hk1:0<=w.kerf) (hk2:w.kerf<=5) (ht1:1<=th) (ht2:th<=60) (hpos: ∀i,i<n-> ∀j,j<n->0<=gHi F (r0+i) (c0+j))
  {K:KP} (hk: ∀m,h.n<m->K (.ret (iv ((zR (gHi F) r0 c0 n n+w.kerf).tdiv (th+w.kerf)))) (h.up m)):FnA (SE xt) 81 [.agg (w.bc v),bI ((r0:Int),(c0:Int),(q:Int))] h K:=by
 refine xZO ?_ hk;clear hk K;refine xZQ (sok xt) (ft81 xt) rfl 29 rfl ?_;obtain ⟨o1,o2,o3,o4,o5⟩:=ha.ones;have onev:=sg.one;refine qA fun K hn hp=> ?_;simp only [sw.1,rE,reduceIte,rL];apply hn;obtain ⟨h1,hh1,n1,s1,k1,f1⟩:=vQ h (.cells (w.bc v) 120);obtain ⟨h2,hh2,n2,s2,k2,f2⟩:=yJ f1 n1 (.cells [iv r0,iv c0,iv q] 61);rw [<-hh1,<-hh2];simp only [rA] at n2;refine qA fun K hn hp=> ?_;simp only [sw.1,rE,reduceIte,rL,n2];apply hn;obtain ⟨h3,hh3⟩: ∃h3:Hp,h3=(h2.new (.cells [iv 0] 3)).set (h.n+2) (.cells [iv 60] 3):=⟨_,rfl⟩;rw [<-hh3];have n3:h3.n=h.n+3:=by rw [hh3];rw [xYT,Hp.new_n,n2]
 have s3:h3.t.get (h.n+2)=some (.cells [iv 60] 3):=by rw [hh3,xZS,xZZ,if_pos rfl]
 have k3: ∀k,k<h.n+2->h3.t.get k=h2.t.get k:=fun k hk=>by rw [hh3];simp only [xZS,Hp.new_t];rw [xZZ,if_neg (by omega),xZZ,if_neg (by omega)]
 have f3:Fr h.n h h3:=by rw [hh3];exact (f2.new _).set (by omega) (by rw [Hp.new_n];omega) _
 have u1:=(k3 h.n (by omega)).trans ((k2 h.n (by omega)).trans s1);have u2:=(k3 (h.n+1) (by omega)).trans s2;clear hh1 hh2 hh3;refine qB fun K hn hp=> ?_;simp only [sy.1,rE,reduceIte,rL,rA,rD,u1,u2];refine cAS (qES xt h3 w (ha.fr f3 (xZY _)) ((r0:Int),(c0:Int),(q:Int)) ?_);obtain ⟨h4,hh4,n4,s4,k4,f4⟩:=vQ h3 (.cells w.cs 30);obtain ⟨h5,hh5,n5,s5,k5,f5⟩:=yJ f4 n4 (.cells [iv r0,iv c0,iv q] 61);rw [n3] at n4 s4 k4 n5 s5 k5;simp only [sy.1,rL,<-hh4,<-hh5,n3];apply hn;clear hh4 hh5;have f5h:Fr h.n h h5:=f3.trans f5 (by omega);have low5: ∀k,k<h.n+3->h5.t.get k=h3.t.get k:=fun k hk=>by rw [k5 k (by omega),k4 k hk]
 have v1:=(low5 h.n (by omega)).trans u1;have v2:=(low5 (h.n+1) (by omega)).trans u2;have v3:=(low5 (h.n+2) (by omega)).trans s3;have v5:=(k5 (h.n+3) (by omega)).trans s4
 let HL:=LH h5
 let I:ALoop->Nat->Nat->Hp->Prop:=fun rc i j h'=>FrM (fun k=>k=h5.n+1\/k=h.n+2) (h5.n+2) (LH h5 rc) h'/\h'.t.get (h5.n+1)=some (.loop rc)/\h'.t.get (h.n+2)=some (.cells [iv (xS (gHi F (r0+i)) c0 j (zR (gHi F) r0 c0 n i))] 3)
 have fHL: ∀rc,Fr h.n h (LH h5 rc):=fun rc=>f5h.trans (gJ h5 rc) (by omega);have nHL: ∀rc,(LH h5 rc).n=h5.n+2:=fun rc=>rfl;refine qD fun KB B1 B2 B3 B4 B5=> ?_;refine kL (sok xt) (g:=166) (xs:=[.yld (h5.n+1),.ptr (h.n+3) 0,.ptr (h.n+4) 0]) (S:=fun _ _ _=>False) (Z:=fun rc h'=>I rc n 0 h') (by simp only [sy.1,rE,reduceIte];rfl) (fun rc c1 c2 c3 c4 c5 c6 c7=> ?_) ?_ (fun _ _ _ hf=>hf.elim)
 ·refine qC3 xt _ w (ha.fr (fHL rc) (xZY _)) (h5.n+1) (h.n+3) (h.n+4) r0 c0 q n th wo hx (by omega) (by omega) hn3 (by rw [<-v5];exact vV h5 rc (by omega)) (I rc) _ ⟨FrM.refl (xZY _),LH_l h5 rc,(vV h5 rc (by omega)).trans v3⟩ ?_ ?_ ?_
  ·rintro i j h' ⟨z1,_⟩;rw [z1.get (by omega) (by omega)];exact (vV h5 rc (by omega)).trans s5
  ·rintro i h' hi ⟨z1,z2,z3⟩;exact ⟨z1,z2,z3⟩
  ·intro i j hi hj;refine yW (sok xt) c1 c2 c3 c4 c5 c6 c7 (fun h' hA=>hA.2.1) (fun h' hA=>⟨_,rfl,?_⟩);obtain ⟨z1,z2,z3⟩:=hA;refine qA fun K hn hp=> ?_;simp only [sy.1,rE,reduceIte,rL];apply hn;refine reg fun K hn hp=> ?_;simp only [sy.1,rE,reduceIte,rL];apply hn;refine ⟨rfl,rfl,rfl,?_⟩;dsimp only;obtain ⟨h7,hh7⟩: ∃h7:Hp,h7=h'.set (h5.n+1) (.loop rc.busy):=⟨_,rfl⟩;rw [<-hh7];have z5:FrM (fun k=>k=h5.n+1\/k=h.n+2) (h5.n+2) (LH h5 rc) h7:=by rw [hh7];exact z1.set (.inr (.inl rfl)) _
   have z6:h7.t.get (h5.n+1)=some (.loop rc.busy):=by rw [hh7,xZS,xZZ,if_pos rfl]
   have z8:h7.t.get (h.n+2)=some (.cells [iv (xS (gHi F (r0+i)) c0 j (zR (gHi F) r0 c0 n i))] 3):=by rw [hh7,xZS,xZZ,if_neg (by omega)];exact z3
   have z7: ∀k,k<h5.n->k≠h.n+2->h7.t.get k=h5.t.get k:=fun k hk hk2=>(z5.get (by omega) (by omega)).trans (vV h5 rc hk);have x1:=(z7 h.n (by omega) (by omega)).trans v1;have nn:=nHL rc;have sg7:=sg.keep (h':=h7) fun k _ hk=>(z7 k (by omega) (by omega)).trans (f5h.at_ k (.inl (by omega)));obtain ⟨B,b,rws,g1,g2,g3,g4,g5,g6,g7,g8,g9,_⟩:=sg7.at_ (r:=r0+i) (by omega);have g10:=sl55 (b:=b) (C:=C) (c:=c0+j) (by omega);have g11:=pX (F (r0+i)) (C:=C) (c:=c0+j) (by omega);refine qZ fun K' k1' k2' k3' k4' k5'=> ?_;refine regD (sok xt) 11 (by kernel_rfl) fun K hn hp=> ?_;simp only [sw.1,rE,reduceIte,rL,x1,z8,g1,g2,g3,g4,g10,g11];refine hn _ _ (k1' _ ⟨rfl,?_,.inl ⟨rfl,?_,?_,?_⟩⟩)
   ·rw [xZS,xZZ,if_neg (by omega)];exact z6
   ·exact (z5.set (.inr (.inr rfl)) _).set (.inr (.inl rfl)) _
   ·rw [xZS,xZZ,if_pos rfl]
   ·rw [xZS,xZZ,if_neg (by omega),xZS,xZZ,if_pos rfl];rfl
 ·rintro rc h' c1 c2 ⟨z1,z2,z3⟩;refine ⟨z2,B1 _ ?_⟩;obtain ⟨h8,hh8⟩: ∃h8:Hp,h8=h'.set (h5.n+1) (.loop {rc with state:= .exhausted}):=⟨_,rfl⟩;rw [<-hh8];have z5:FrM (fun k=>k=h5.n+1\/k=h.n+2) (h5.n+2) (LH h5 rc) h8:=by rw [hh8];exact z1.set (.inr (.inl rfl)) _
  have nn:=nHL rc;have l8:=z5.le;have z7: ∀k,k<h5.n->k≠h.n+2->h8.t.get k=h5.t.get k:=fun k hk hk2=>(z5.get (by omega) (by omega)).trans (vV h5 rc hk);have x1:=(z7 h.n (by omega) (by omega)).trans v1;have x2:=(z7 (h.n+1) (by omega) (by omega)).trans v2;have x3:h8.t.get (h.n+2)=some (.cells [iv (zR (gHi F) r0 c0 n n)] 3):=by rw [hh8,xZS,xZZ,if_neg (by omega)];exact z3
  have x6:h8.t.get h5.n=some .deferred:=(z5.get (by omega) (by omega)).trans (LH_d h5 rc);have f8:Fr h.n h h8:=z5.toFr (fHL rc) (by omega) (fun k hk=>by omega);refine qA fun K hn hp=> ?_;simp only [sy.1,rE,reduceIte,rL,rA,x1,x2,x3];refine cAS (qFi xt h8 w (ha.fr f8 (xZY _)) v onev r0 c0 q n th wo hx hk1 hk2 ht1 ht2 (zR (gHi F) r0 c0 n n) (bF _ _ _ _ _) (bG (by omega) n hpos) fun m1 hm1=> ?_);simp only [sy.1,rE,reduceIte,rL];refine hn _ _ (qC (end_1d res81 (d:=h5.n) (by simpa using x6) ⟨?_,?_⟩))
  ·simp [xZZ]
  ·exact (f8.up (xZR hm1)).del (by omega) (by simp only [xZT];omega)
theorem Mp.ok_rect {m:Mp} (h:m.ok=true):m.Rect:=fun l hl=>by
 simp only [Mp.ok,xZP] at h;have:=List.all_eq_true.1 h.2.1 l hl;simp only [Mp.rowOk,xZP] at this;have q1:(l.length:Int)=(m.cells.headD []).length:=by simpa [Mp.C] using this.1
 omega
theorem vR {x a b:Int}:inB x a b=true↔a<=x/\x<=b:=by simp [inB]
def Wk.tb (w:Wk) (q:Nat):Int×Int×Int:=w.ts.getD q (0,0,0)
def Wk.isT (w:Wk) (s:Int×Int×Int):Bool:=inB s.2.2 0 ((w.ts.length:Int) - 1)
structure Wk.Is (w:Wk):Prop where
 m:w.m.Is w.m.cells.length w.m.W
 rc:w.m.Rect
 t0:1<=w.ts.length
 t4:w.ts.length<=4
 k0:0<=w.kerf
 k5:w.kerf<=5
 ts: ∀t∈w.ts,(1<=t.1/\t.1<=3)/\(1<=t.2.1/\t.2.1<=60)/\1<=t.2.2/\t.2.2<=100
theorem Wk.ok_is {w:Wk} (h:w.ok=true):w.Is:=by
 simp only [Wk.ok,xZP,xZG,xZH] at h;obtain ⟨h1,h2,h3,h4⟩:=h;rw [vR] at h2 h3;refine ⟨Mp.ok_is h1,Mp.ok_rect h1,by omega,by omega,h3.1,h3.2,fun t ht=> ?_⟩;have:=h4 t ht;simp only [uE,xYK,xYR,xYN,vR] at this;exact this
structure Tub (w:Wk) (q n:Nat) (th wo:Int):Prop where
 at_:w.ts[q]? =some ((n:Int),th,wo)
 tb:w.tb q=((n:Int),th,wo)
 n1:1<=n
 n3:n<=3
 h1:1<=th
 h60:th<=60
 w1:1<=wo
 w100:wo<=100
theorem Wk.Is.tub {w:Wk} (h:w.Is) {q:Nat} (hq:q<w.ts.length): ∃n th wo,Tub w q n th wo:=by
 have e:=xZW hq;obtain ⟨⟨a1,a2⟩,⟨a3,a4⟩,a5,a6⟩:=h.ts _ (List.getElem_mem hq);obtain ⟨⟨n,th,wo⟩,hx⟩: ∃t,w.ts[q]=t:=⟨_,rfl⟩;rw [hx] at e a1 a2 a3 a4 a5 a6;simp only at a1 a2 a3 a4 a5 a6;obtain ⟨k,rfl⟩: ∃k:Nat,n=k:=⟨n.toNat,by omega⟩;refine ⟨k,th,wo,e,?_,by omega,by omega,a3,a4,a5,a6⟩;simp only [Wk.tb,xZL,e,Option.getD_some]
theorem Wk.Is.tub' {w:Wk} (h:w.Is) {s:Int×Int×Int} (hs:w.isT s=true): ∃q n th wo,s.2.2=(q:Nat)/\Tub w q n th wo:=by
 rw [Wk.isT,vR] at hs;obtain ⟨n,th,wo,ht⟩:=h.tub (q:=s.2.2.toNat) (by omega);exact ⟨_,n,th,wo,by omega,ht⟩
def Wk.pcan (w:Wk) (s:Int×Int×Int):Bool:=w.m.pcan w.m.cells.length w.m.W (w.tb s.2.2.toNat).1.toNat s.1 s.2.1
def Wk.give (w:Wk) (t:Nat->Nat->Int) (s:Int×Int×Int):Int:=(zR t s.1.toNat s.2.1.toNat (w.tb s.2.2.toNat).1.toNat (w.tb s.2.2.toNat).1.toNat+w.kerf).tdiv ((w.tb s.2.2.toNat).2.1+w.kerf)
theorem Wk.pcan_in {w:Wk} {q n:Nat} {th wo:Int} (ht:Tub w q n th wo) {a b:Int} (h:w.pcan (a,b,(q:Int))=true): ∃r0 c0:Nat,a=r0/\b=c0/\r0+n<=w.m.cells.length/\c0+n<=w.m.W:=by
 simp only [Wk.pcan,xZN,ht.tb,Mp.pcan,xZP] at h;obtain ⟨h1,h2,_⟩:=h;rw [vR] at h1 h2;exact ⟨a.toNat,b.toNat,by omega,by omega,by omega,by omega⟩
theorem Wk.pcan_q {w:Wk} {q n:Nat} {th wo:Int} (ht:Tub w q n th wo) (a b:Int):w.pcan (a,b,(q:Int))=w.m.pcan w.m.cells.length w.m.W n a b:=by simp [Wk.pcan,ht.tb]
theorem Wk.give_q {w:Wk} {q n:Nat} {th wo:Int} (ht:Tub w q n th wo) (t:Nat->Nat->Int) (r0 c0:Nat):w.give t ((r0:Int),(c0:Int),(q:Int))=(zR t r0 c0 n n+w.kerf).tdiv (th+w.kerf):=by simp [Wk.give,ht.tb]
theorem bd43z:zE Kn.tb 43 []=some (.agg [iv 0,iv 0]):=by kernel_rfl
theorem is_rc {m:Mp} (hr:m.Rect) (r c:Int):m.is r c 2=decide (m.rc r c=2):=by
 rw [Mp.rc_in hr,Mp.is];cases m.inside r c<;>simp
theorem crkIn_iff {r0 c0 n:Nat} {k:Int×Int×Bool}:bY r0 c0 n k=true↔(((r0:Int)<=k.1/\k.1<=r0+(n - 1))/\(c0:Int)<=k.2.1/\k.2.1<=c0+(n - 1))/\((r0:Int)<=bK k/\bK k<=r0+(n - 1))/\(c0:Int)<=bL k/\bL k<=c0+(n - 1):=by
 simp only [bY,hasB,xZP,vR]
theorem crk_iff {m:Mp} {r c:Int} {b:Bool}:m.crk r c b=true↔(r,c,b)∈m.ks:=by
 simp only [Mp.crk,xYY,xZP,decide_eq_true_eq];constructor
 ·rintro ⟨⟨x,y,z⟩,h1,rfl,rfl,rfl⟩;exact h1
 ·intro h;exact ⟨_,h,rfl,rfl,rfl⟩
theorem rcan_same {m:Mp} (hr:m.Rect) (R C n:Nat) (a b:Int) (hR:R<=100) (hC:C<=100):m.rcan R C n a b=m.pcan R C n a b:=by
 rw [Bool.eq_iff_iff];simp only [Mp.rcan,Mp.pcan,xZP,yQ,Mp.rcBad,xZG,xYR,Bool.and_eq_false_iff,decide_eq_false_iff_not,is_rc hr,xZH,crkIn_iff,xYN,decide_eq_true_eq];rw [vR,vR];have hc: ∀r c b,m.crk r c b=false↔(r,c,b) ∉ m.ks:=fun r c b=>by
  rw [<-crk_iff,xYK]
 simp only [hc];constructor
 ·rintro ⟨h1,h2,h3⟩;refine ⟨h1,h2,fun i hi j hj=>(h3 i hi j hj).1,?_⟩;rintro ⟨x,y,z⟩ hk ⟨⟨⟨p1,p2⟩,p3,p4⟩,⟨p5,p6⟩,p7,p8⟩;simp only at p1 p2 p3 p4;obtain ⟨i,rfl⟩: ∃i:Nat,x=((a.toNat+i:Nat):Int):=⟨(x - a.toNat).toNat,by omega⟩;obtain ⟨j,rfl⟩: ∃j:Nat,y=((b.toNat+j:Nat):Int):=⟨(y - b.toNat).toNat,by omega⟩;obtain ⟨_,q2,q3⟩:=h3 i (by omega) j (by omega);cases z with
  |true=>
   simp only [bK,bL,if_true] at p5 p6 p7 p8;rw [qG _ (by omega) (by omega)] at p5 p6;rcases q3 with q3|q3
   ·omega
   ·exact q3 hk
  |false=>
   simp only [bK,bL,xZB,if_false] at p5 p6 p7 p8;rw [qG _ (by omega) (by omega)] at p7 p8;rcases q2 with q2|q2
   ·omega
   ·exact q2 hk
 ·rintro ⟨h1,h2,h3,h4⟩;refine ⟨h1,h2,fun i hi j hj=>⟨h3 i hi j hj,?_,?_⟩⟩
  ·by_cases q:(((b.toNat+j:Nat):Int))+1<((b.toNat+n:Nat):Int)
   ·refine .inr fun hk=>h4 _ hk ?_;simp only [bK,bL,xZB,if_false];rw [qG _ (by omega) (by omega)];omega
   ·exact .inl q
  ·by_cases q:(((a.toNat+i:Nat):Int))+1<((a.toNat+n:Nat):Int)
   ·refine .inr fun hk=>h4 _ hk ?_;simp only [bK,bL,if_true];rw [qG _ (by omega) (by omega)];omega
   ·exact .inl q
set_option maxHeartbeats 4000000
end Go.Proofs.Kn
noncomputable section
namespace Go.Proofs.Kn
open Go Go.Ev Go.RowKit Go.ChangeShapes Go.WideShapes Go.ChangeAt
set_option maxRecDepth 100000
theorem und30:Tryz.prog.underlying 30=some (.struct (qT 30)):=by kernel_rfl
theorem und28:Tryz.prog.underlying 28=some (.slice 130):=by kernel_rfl
theorem und33:Tryz.prog.underlying 33=some (.slice 61):=by kernel_rfl
theorem und90:Tryz.prog.underlying 130=some (.struct (qT 130)):=by kernel_rfl
theorem und61:Tryz.prog.underlying 61=some (.struct (qT 61)):=by kernel_rfl
theorem co30:Tryz.prog.cellsOf 30=8:=by kernel_rfl
theorem co28:Tryz.prog.cellsOf 28=1:=by kernel_rfl
theorem co90:Tryz.prog.cellsOf 130=3:=by kernel_rfl
theorem co61:Tryz.prog.cellsOf 61=3:=by kernel_rfl
theorem f30_0:((qT 30)[0]?).map (fun f=>(f.type,f.offset))=some (27,0):=by kernel_rfl
theorem f30_1:((qT 30)[1]?).map (fun f=>(f.type,f.offset))=some (28,6):=by kernel_rfl
theorem f30_2:((qT 30)[2]?).map (fun f=>(f.type,f.offset))=some (3,7):=by kernel_rfl
theorem f90_0:((qT 130)[0]?).map (fun f=>(f.type,f.offset))=some (3,0):=by kernel_rfl
theorem f90_1:((qT 130)[1]?).map (fun f=>(f.type,f.offset))=some (3,1):=by kernel_rfl
theorem f90_2:((qT 130)[2]?).map (fun f=>(f.type,f.offset))=some (3,2):=by kernel_rfl
theorem f61_0:((qT 61)[0]?).map (fun f=>(f.type,f.offset))=some (3,0):=by kernel_rfl
theorem f61_1:((qT 61)[1]?).map (fun f=>(f.type,f.offset))=some (3,1):=by kernel_rfl
theorem f61_2:((qT 61)[2]?).map (fun f=>(f.type,f.offset))=some (3,2):=by kernel_rfl
section
variable {H:Type} {enc:TypeId×Value->H} {w:World} {base:Nat} {sp:Nat->Bool} {held:Bool}
theorem qD3 {t:TypeId} (hu:Tryz.prog.underlying t=some (.struct (qT t))) (hc:Tryz.prog.cellsOf t=3) (g0:((qT t)[0]?).map (fun f=>(f.type,f.offset))=some (3,0)) (g1:((qT t)[1]?).map (fun f=>(f.type,f.offset))=some (3,1)) (g2:((qT t)[2]?).map (fun f=>(f.type,f.offset))=some (3,2))
  {n:Nat} {c:List Value} {y:DataW H×List MemPlace} (h:DataW.trod enc Tryz.prog w base sp held n t c=some y): ∃a:Int×Int×Int,c=Kn.t3 a:=by
 have hl:=vP hu h;rw [hc] at hl;obtain ⟨_,_,h0⟩:=qY hu h 0 g0;obtain ⟨_,_,h1⟩:=qY hu h 1 g1;obtain ⟨_,_,h2⟩:=qY hu h 2 g2;obtain ⟨a,e0⟩:=zN h0;obtain ⟨b,e1⟩:=zN h1;obtain ⟨d,e2⟩:=zN h2;rw [co3] at e0 e1 e2
 match c,hl with
 |[x,y,z],_=>
  simp at e0 e1 e2;exact ⟨(a,b,d),by simp [Kn.t3,e0,e1,e2]⟩
theorem read_work {t:Value} {d:DataW H} {ps:List MemPlace} {r:Reach} {b0:Nat} (hval:Value.okWide Tryz.prog w r b0 30 t) (hd:DataW.Trod enc Tryz.prog w base sp held 30 t d ps) (h':Hp):
  ∃k:Wk,k.At w.cell? h'/\ ∀c,R c k.av t:=by
 obtain ⟨cs,rfl⟩: ∃cs,t= .agg cs:=by
  unfold Value.okWide at hval;rw [und30] at hval;obtain ⟨cs,rfl,_⟩:=hval;exact ⟨cs,rfl⟩
 obtain ⟨fuel,hf⟩:=hd;change DataW.trod enc Tryz.prog w base sp held fuel 30 cs.toList=_ at hf;have hl:=vP und30 hf;rw [co30] at hl;obtain ⟨_,_,h0⟩:=qY und30 hf 0 f30_0;obtain ⟨_,_,h1⟩:=qY und30 hf 1 f30_1;obtain ⟨_,_,h2⟩:=qY und30 hf 2 f30_2;obtain ⟨m,v1,v2,v3,v4,ha,e1,e2,e3,e4,hcs⟩:=read_mapc h0 h';obtain ⟨v5,l5,e5,hl5,hr5⟩:=kH Kn.t3 und28 co90 (by omega) h1 (fun _=>rfl) (fun _ _ _ h=>qD3 und90 co90 f90_0 f90_1 f90_2 h) h';obtain ⟨b,e6⟩:=zN h2;rw [co27] at hcs;rw [co28] at e5;rw [co3] at e6;refine ⟨⟨m,.val v5,l5,b⟩,⟨ha,hr5,hl5⟩,fun cx=> ?_⟩;have:cs=[v1,.int .i64 m.T,.int .i64 m.H,v2,v3,v4,v5,.int .i64 b].toArray:=by
  apply Array.ext'
  match hq:cs.toList,hl with
  |[x0,x1,x2,x3,x4,x5,x6,x7],_=>
   rw [hq] at hcs e5 e6;simp at hcs e5 e6;simp [hcs,e5,e6]
 subst this;simp only [R];exact ⟨_,rfl,by simp [RL,R,e1,e2,e3,e4]⟩
theorem read_cut {t:Value} {d:DataW H} {ps:List MemPlace} {r:Reach} {b0:Nat} (hval:Value.okWide Tryz.prog w r b0 33 t) (hd:DataW.Trod enc Tryz.prog w base sp held 33 t d ps) (h':Hp):
  ∃l:List (Int×Int×Int),RowAt w.cell? h' 3 (.val t) (l.map Kn.t3)/\l.length<=9223372036854775807:=by
 obtain ⟨a,len,cap,rfl⟩:=okWide_slice und33 hval;obtain ⟨fuel,hf⟩:=hd;obtain ⟨v,l,e,hl,hr⟩:=kH Kn.t3 und33 co61 (by omega) hf (fun _=>rfl) (fun _ _ _ h=>qD3 und61 co61 f61_0 f61_1 f61_2 h) h';simp [Value.cells] at e;subst e;exact ⟨l,hr,hl⟩
end
end Go.Proofs.Kn
end
namespace Go.Proofs.Kn
open Go Go.Ev
set_option maxRecDepth 100000
set_option maxHeartbeats 4000000
theorem al61 (h:Hp):jP tb h 61=some (.ptr h.n 0,h.new (.cells (([(.int .i64 0),(.int .i64 0),(.int .i64 0)]:List Value).map .val) 61)):=vU qA7 rfl
theorem Wk.At.tubs {w:Wk} {xt:Xt} {h:Hp} (ha:w.At xt h) {q:Nat} {n th wo:Int} (hx:w.ts[q]? =some (n,th,wo)):
  qK Kn.tb 28 w.vt (iv (q:Int))=some (elp w.vt (q*3))/\qI Kn.tb 130 (elp w.vt (q*3)) 0=some (elp w.vt (q*3))/\qI Kn.tb 130 (elp w.vt (q*3)) 1=some (elp w.vt (q*3+1))/\qI Kn.tb 130 (elp w.vt (q*3)) 2=some (elp w.vt (q*3+2))/\
  ∀h',Fr h.n h h'->qN Kn.tb xt h' 3 (elp w.vt (q*3))=some (iv n)/\qN Kn.tb xt h' 3 (elp w.vt (q*3+1))=some (iv th)/\qN Kn.tb xt h' 3 (elp w.vt (q*3+2))=some (iv wo):=by
 have hq:q<w.ts.length:=(xZU.1 hx).1;have hne:w.ts.map Kn.t3≠[]:=by intro e;have:=congrArg List.length e;simp at this;rw [this] at hq;simp at hq
 refine ⟨ha.ts.idx qAn rfl yF rfl (i:=q) (by simpa using hq) (k:= .i64),?_,?_,?_,fun h' f=> ?_⟩
 ·simpa using ha.ts.fa hne yF rfl (f:=0) (o:=0) (s:=0) (ft:=3) rfl (q*3)
 ·exact ha.ts.fa hne yF rfl (f:=1) (o:=1) (s:=0) (ft:=3) rfl (q*3)
 ·exact ha.ts.fa hne yF rfl (f:=2) (o:=2) (s:=0) (ft:=3) rfl (q*3)
 have ha':=ha.fr f (xZY _);have hc:(w.ts.map Kn.t3)[q]? =some (Kn.t3 (n,th,wo)):=by rw [xZV,hx];rfl
 refine ⟨?_,?_,?_⟩
 ·exact ha'.ts.load0 tg3 rfl (i:=q) hc rfl
 ·exact ha'.ts.load tg3 rfl (i:=q) (j:=1) hc rfl
 ·exact ha'.ts.load tg3 rfl (i:=q) (j:=2) hc rfl
def yE (v:AV):Prop:= ∀ad n c,v= .val (.slice ad n c)->n<=c
theorem _root_.Go.Ev.RowAt.upto {xt:Xt} {h:Hp} {sz:Nat} {v:AV} {cs:List (List Value)} {tb:T TE} {t e:TypeId} {te ee:TE} (r:RowAt xt h sz v cs) (hc:yE v) (ht:tb.get t=some te) (hd:te.d= .slice e) (he:tb.get e=some ee) (hs:ee.size=sz) {k:Nat} (hk:k<=cs.length):
  ∃v',j0 tb h t v none (some (iv (k:Int)))=some v'/\RowAt xt h sz v' (cs.take k)/\yE v':=by
 obtain ⟨h1,h2,h3⟩:=r;have e1:vN 0 none=some 0:=rfl;have b0:Nat.ble 0 k=true:=by rw [xYL];omega
 have e2: ∀d,vN d (some (iv (k:Int)))=some k:=fun d=>rfl;have hl:(cs.take k).length=k:=by rw [xYZ];omega
 have hmem: ∀c∈cs.take k,c.length=sz:=fun c hc=>h1 c (List.mem_of_mem_take hc);have hget: ∀i c,(cs.take k)[i]? =some c->cs[i]? =some c:=fun i c hi=>by
  rw [xYP] at hi;split at hi
  ·exact hi
  ·cases hi
 rcases h3 with ⟨rfl,rfl⟩|⟨ad,cap,rfl,hx⟩|⟨b,off,av,e',rfl,⟨q1,q2,q3⟩,hx⟩
 ·simp at hk;subst hk;have e3:vN 0 (some (iv 0))=some 0:=rfl;exact ⟨.val (.slice none 0 0),by simp [j0,ht,hd,he,e1,e3,b0],⟨by simp,h2,.inl ⟨rfl,by simp⟩⟩,fun _ _ _ e=>by cases e;exact xZY _⟩
 ·have hcap:=hc _ _ _ rfl;have b1:Nat.ble k cap=true:=by rw [xYL];omega
  refine ⟨.val (.slice (some (if cap=0 then ad else ad.add 0)) k cap),?_,⟨hmem,h2,.inr (.inl ⟨_,cap,by rw [hl],fun i c hi j u hu=> ?_⟩)⟩,fun _ _ _ e=>by cases e;omega⟩
  ·by_cases q:cap=0
   ·subst q;simp [j0,ht,hd,he,e1,e2,b0,b1]
   ·simp [j0,ht,hd,he,e1,e2,b0,b1,q]
  ·have:=hx i c (hget i c hi) j u hu;by_cases q:cap=0
   ·rw [if_pos q];exact this
   ·rw [if_neg q,qA2,Nat.zero_add];exact this
 ·have b1:Nat.ble k cs.length=true:=by rw [xYL];omega
  have b2:Nat.beq sz ee.size=true:=by rw [hs];exact Nat.beq_refl _
  refine ⟨.sl b off k sz,by simp [j0,ht,hd,he,e1,e2,b0,b1,b2],⟨hmem,h2,.inr (.inr ⟨b,off,av,e',by rw [hl],⟨q1,?_,q3⟩,fun i c hi j u hu=>hx i c (hget i c hi) j u hu⟩)⟩,fun _ _ _ e=>by cases e⟩;rw [hl];have:k*sz<=cs.length*sz:=Nat.mul_le_mul_right _ hk;omega
structure Cuts (xt:Xt) (h:Hp) (v:AV) (ls:List (Int×Int×Int)):Prop where
 row:RowAt xt h 3 v (ls.map t3)
 lt:ls.length<=9223372036854775807
 cap:yE v
theorem Cuts.fr {xt:Xt} {h h':Hp} {v:AV} {ls:List (Int×Int×Int)} (a:Cuts xt h v ls) {M:Nat} (f:Fr M h h') (hM:h.n<=M):Cuts xt h' v ls:=⟨a.row.fr f hM,a.lt,a.cap⟩
theorem Cuts.up {xt:Xt} {h:Hp} {v:AV} {ls:List (Int×Int×Int)} (a:Cuts xt h v ls) {n:Nat} (hn:h.n<=n):Cuts xt (h.up n) v ls:=⟨a.row.up hn,a.lt,a.cap⟩
theorem Cuts.len {xt:Xt} {h:Hp} {v:AV} {ls:List (Int×Int×Int)} (a:Cuts xt h v ls) (h':Hp):zA tb h' 33 v=some ls.length:=by
 have:=a.row.len (h':=h') tg33 rfl;simpa using this
theorem Cuts.at_ {xt:Xt} {h:Hp} {v:AV} {ls:List (Int×Int×Int)} (a:Cuts xt h v ls) {i:Nat} {s:Int×Int×Int} (hx:ls[i]? =some s):
  qK tb 33 v (iv (i:Int))=some (elp v (i*3))/\qN tb xt h 61 (elp v (i*3))=some (bI s)/\qI tb 61 (elp v (i*3)) 2=some (elp v (i*3+2))/\qN tb xt h 3 (elp v (i*3+2))=some (iv s.2.2):=by
 have hq:i<ls.length:=(xZU.1 hx).1;have hne:ls.map Kn.t3≠[]:=by intro e;have:=congrArg List.length e;simp at this;rw [this] at hq;simp at hq
 have hc:(ls.map Kn.t3)[i]? =some (Kn.t3 s):=by rw [xZV,hx];rfl
 refine ⟨a.row.idx tg33 rfl qA7 rfl (i:=i) (by simpa using hq) (k:= .i64),?_,a.row.fa hne qA7 rfl (f:=2) (o:=2) (s:=0) (ft:=3) rfl (i*3),a.row.load tg3 rfl (i:=i) (j:=2) hc rfl⟩;exact a.row.loadA qA7 rfl rfl hc
theorem Cuts.upto {xt:Xt} {h:Hp} {v:AV} {ls:List (Int×Int×Int)} (a:Cuts xt h v ls) {k:Nat} (hk:k<=ls.length): ∃v',j0 tb h 33 v none (some (iv (k:Int)))=some v'/\Cuts xt h v' (ls.take k):=by
 obtain ⟨v',h1,h2,h3⟩:=a.row.upto a.cap tg33 rfl qA7 rfl (k:=k) (by simpa using hk);refine ⟨v',h1,⟨by rw [List.map_take];exact h2,?_,h3⟩⟩;have:=a.lt;rw [xYZ];omega
theorem ft101 (xt:Xt):(SE xt).ft.get 101=some Tryz.f101:=by kernel_rfl
theorem res101:Tryz.f101.results.toList=[.tmp 6]:=by kernel_rfl
theorem value_c (xt:Xt) (h:Hp) (w:Wk) (ha:w.At xt h) (v:AV) (hv:Go.Ev.one v=true) (a b:Int) (q:Nat) (n th wo:Int) (hx:w.ts[q]? =some (n,th,wo)) (m:Int) (hw1: -9223372036854775808<=wo*m) (hw2:wo*m<=9223372036854775807)
  {K:KP} (hk: ∀k,h.n<k->K (.ret (iv (wo*m))) (h.up k)):FnA (SE xt) 101 [.agg (w.bc v),bI (a,b,(q:Int)),iv m] h K:=by
 refine xZO ?_ hk;clear hk K;refine xZQ (sok xt) (ft101 xt) rfl 17 rfl ?_;obtain ⟨o1,o2,o3,o4,o5⟩:=ha.ones;obtain ⟨i1,_,_,i4,ld⟩:=ha.tubs hx;refine qA fun K hn hp=> ?_;simp only [sw.1,rE,reduceIte,rL,rA];apply hn;obtain ⟨h1,hh1,nh1,sh1,_,fbh1⟩:=nwE h (.cells (w.bc v) 120);rw [<-hh1];have fh1:=fbh1;obtain ⟨h2,hh2,nh2,sh2,kh2,fbh2⟩:=nwE h1 (.cells [iv a,iv b,iv q] 61);rw [<-hh2];have fh2:Fr h.n h h2:=fh1.trans fbh2 (by omega);simp only [nh1,xZM,rA] at nh2 sh2 kh2;have s1:=(kh2 h.n (by omega)).trans sh1;obtain ⟨_,_,l3⟩:=ld h2 fh2;have w3:IntKind.i64.wrap (wo*m)=wo*m:=qG _ (by omega) (by omega);refine qA fun K hn hp=> ?_;simp only [sy.1,rE,reduceIte,rL,i1,i4,sh2,s1,l3,w3];refine hn _ _ (qC (qH res101 ⟨?_,fh2⟩));simp [xZZ]
def Wk.apt (w:Wk) (a b:Int×Int×Int):Bool:=
 if a.1=b.1 then decide ((w.tb a.2.2.toNat).1=(w.tb b.2.2.toNat).1) && decide (a.2.1+(w.tb a.2.2.toNat).1<=b.2.1) else decide (a.1+(w.tb a.2.2.toNat).1<=b.1)
theorem ft77 (xt:Xt):(SE xt).ft.get 77=some Tryz.f77:=by kernel_rfl
theorem res77:Tryz.f77.results.toList=[.tmp 6]:=by kernel_rfl
theorem rapart_c (xt:Xt) (h:Hp) (w:Wk) (ha:w.At xt h) {qa qb na nb:Nat} {ta tb' wa wb:Int} (hta:Tub w qa na ta wa) (htb:Tub w qb nb tb' wb) (ra ca rb cb:Int) (b1: -100<=ra) (b2:ra<=100) (b3: -100<=ca) (b4:ca<=100)
  {K:KP} (hk: ∀k,h.n<k->K (.ret (.val (.bool (w.apt (ra,ca,(qa:Int)) (rb,cb,(qb:Int)))))) (h.up k)):FnA (SE xt) 77 [w.av,bI (ra,ca,(qa:Int)),bI (rb,cb,(qb:Int))] h K:=by
 refine xZO ?_ hk;clear hk K;refine xZQ (sok xt) (ft77 xt) rfl 47 rfl ?_;obtain ⟨o1,o2,o3,o4,o5⟩:=ha.ones;obtain ⟨i1,i2,_,_,ld⟩:=ha.tubs hta.at_;obtain ⟨j1,j2,_,_,ld'⟩:=ha.tubs htb.at_;refine qA fun K hn hp=> ?_;simp only [sw.1,rE,reduceIte,rL,rA];apply hn;obtain ⟨h1,hh1,nh1,sh1,_,fbh1⟩:=nwE h (.cells w.cs 30);rw [<-hh1];have fh1:=fbh1;obtain ⟨h2,hh2,nh2,sh2,kh2,fbh2⟩:=nwE h1 (.cells [iv ra,iv ca,iv qa] 61);rw [<-hh2];have fh2:Fr h.n h h2:=fh1.trans fbh2 (by omega);simp only [nh1,xZM,rA] at nh2 sh2 kh2;obtain ⟨h3,hh3,nh3,sh3,kh3,fbh3⟩:=nwE h2 (.cells [iv rb,iv cb,iv qb] 61);rw [<-hh3];have fh3:Fr h.n h h3:=fh2.trans fbh3 (by omega);simp only [nh2,xZM,rA] at nh3 sh3 kh3;have s1:=(kh3 h.n (by omega)).trans ((kh2 h.n (by omega)).trans sh1);have s2:=(kh3 (h.n+1) (by omega)).trans sh2;obtain ⟨l3,_,_⟩:=ld h3 fh3;obtain ⟨l4,_,_⟩:=ld' h3 fh3;have n3:=hta.n3;have w1:IntKind.i64.wrap (ra+(na:Int))=ra+na:=qG _ (by omega) (by omega);have w2:IntKind.i64.wrap (ca+(na:Int))=ca+na:=qG _ (by omega) (by omega);refine zM (sok xt) 16 (by kernel_rfl) fun K hn hp=> ?_;simp only [sy.1,rE,reduceIte,rL,i1,i2,j1,j2,sh3,s1,s2,l3,l4];apply hn;refine jK ?_;by_cases e:ra=rb
 ·have e':decide (ra=rb)=true:=decide_eq_true e;refine qA fun K hn hp=> ?_;simp only [sy.1,rE,reduceIte,rL,sh3,s2,e'];apply hn;refine qW (by simp only [sy.1,rE,reduceIte]) ?_;refine qB fun K hn hp=> ?_;simp only [sy.1,rE,reduceIte,rL];cases q:decide ((na:Int)=nb)
  ·simp only [sy.1,rE,reduceIte,rL];refine hn _ _ (qQ (qH res77 ⟨?_,fh3⟩));simp [xZZ,Wk.apt,hta.tb,htb.tb,e,q]
  ·simp only [sy.1,rE,reduceIte,rL,sh3,s2,w2];refine hn _ _ (qQ (qH res77 ⟨?_,fh3⟩));simp [xZZ,Wk.apt,hta.tb,htb.tb,e,q]
 ·have e':decide (ra=rb)=false:=decide_eq_false e;refine qA fun K hn hp=> ?_;simp only [sy.1,rE,reduceIte,rL,sh3,s2,e'];apply hn;refine jB (by simp only [sy.1,rE,reduceIte]) ?_;refine qA fun K hn hp=> ?_;simp only [sy.1,rE,reduceIte,rL,sh3,s2,w1];apply hn;refine qC (qH res77 ⟨?_,fh3⟩);simp [xZZ,Wk.apt,hta.tb,e]
theorem ft104 (xt:Xt):(SE xt).ft.get 104=some Tryz.f104:=by kernel_rfl
theorem res104:Tryz.f104.results.toList=[.tmp 2]:=by kernel_rfl
def vG (l:List Int):Nat->Int
 |0=>0
 |k+1=>vG l k+l.getD k 0
theorem qDG (xt:Xt) (h:Hp) (v:AV) (l:List Int) (hl:RowAt xt h 1 v (l.map Kn.c1)) (hlt:l.length<=9223372036854775807) (hb: ∀k,k<=l.length-> -9223372036854775808<=vG l k/\vG l k<=9223372036854775807)
  {K:KP} (hk: ∀k,h.n<k->K (.ret (iv (vG l l.length))) (h.up k)):FnA (SE xt) 104 [v] h K:=by
 refine xZO ?_ hk;clear hk K;refine xZQ (sok xt) (ft104 xt) rfl 17 rfl ?_;have hlen: ∀h':Hp,zA tb h' 75 v=some l.length:=fun h'=>by have:=hl.len (h':=h') yG rfl;simpa using this
 refine qA fun K hn hp=> ?_;simp only [sw.1,rL];apply hn;refine qA fun K hn hp=> ?_;simp only [sy.1,rL];apply hn;refine qB fun K hn hp=> ?_;simp only [sy.1,rE,reduceIte,rL,syw.1,hlen];apply hn;refine qD fun KA A1 A2 A3 A4 A5=> ?_;refine qM (sok xt) (fun st=> ∃(k:Nat) (n:Int) (tm:T AV),st=⟨tm,17,h,[]⟩/\k<=l.length/\tm.get 3=some (iv n)/\tm.get 6=some (v)/\tm.get 7=some (iv l.length)/\tm.get 8=some (iv k)/\n=vG l k) (fun st=>l.length - (match st.tm.get 8 with|some (.val (.int _ n))=>n.toNat|_=>0)) ?_ ?_
 ·rintro st ⟨k,n,tm,rfl,hkA,g3,g6,g7,g8,rfl⟩;have muA:=g8;refine qA fun K hn hp=> ?_;simp only [sy.1,rL,qV,g7,g8];apply hn;by_cases hk:k<l.length
  ·refine jC (by simp only [sy.1,reduceIte,hk]) ?_;obtain ⟨i1,i2⟩:=hl.m75 hk;refine qD fun KB B1 B2 B3 B4 B5=> ?_;refine qA fun K hn hp=> ?_;simp only [sy.1,rE,reduceIte,rL,g6,g8,i1,i2];apply hn;have w1:IntKind.i64.wrap (vG l k+l.getD k 0)=vG l (k+1):=qG _ (hb (k+1) hk).1 (hb (k+1) hk).2;refine reg fun K hn hp=> ?_;simp only [sy.1,rE,reduceIte,rL,g3,w1];apply hn;refine B1 _ ?_;refine reg fun K hn hp=> ?_;simp only [sy.1,rE,reduceIte,rL,g8,qF hk hlt];apply hn;refine ⟨⟨k+1,_,_,rfl,by omega,(by simp [xZZ]),(by simp [xZZ,g6]),(by simp [xZZ,g7]),(by simp [xZZ]),rfl⟩,by simpa [xZZ,muA] using (by omega:l.length - (k+1)<l.length - k)⟩
  ·refine jD (by simp only [sy.1,reduceIte,hk]) ?_;refine qL (A2 _ ?_);obtain rfl:k=l.length:=by omega
   refine qA fun K hn hp=> ?_;simp only [sy.1,rE,reduceIte,rL,g3];apply hn;refine qC (qH res104 ⟨?_,xZC (xZY _)⟩);simp [xZZ]
 ·exact ⟨0,0,_,rfl,(by omega),(by simp [xZZ]),(by simp [xZZ]),(by simp [xZZ]),(by simp [xZZ]),rfl⟩
end Go.Proofs.Kn
noncomputable section
namespace Go.Proofs.Kn
open Go Go.Ev Go.RowKit Go.ChangeShapes Go.WideShapes Go.ChangeAt
set_option maxRecDepth 100000
section
variable {H:Type} {enc:TypeId×Value->H} {w:World} {base:Nat} {sp:Nat->Bool} {held:Bool}
theorem read_cuts {t:Value} {d:DataW H} {ps:List MemPlace} {r:Reach} {b0:Nat} (hval:Value.okWide Tryz.prog w r b0 33 t) (hd:DataW.Trod enc Tryz.prog w base sp held 33 t d ps) (h':Hp):
  ∃l:List (Int×Int×Int),Cuts w.cell? h' (.val t) l:=by
 obtain ⟨l,h1,h2⟩:=read_cut hval hd h';refine ⟨l,h1,h2,?_⟩;obtain ⟨a,len,cap,rfl⟩:=okWide_slice und33 hval;obtain ⟨fuel,hf⟩:=hd;rcases DataW.trod_slice und33 hf with ⟨e,_⟩|⟨a',len',cap',elems,rest,n,_,e,_,_,hlc,hcm,_⟩
 ·simp [Value.cells] at e;obtain ⟨rfl,rfl,rfl⟩:=e;intro ad n c e;cases e;exact xZY _
 ·simp [Value.cells] at e;obtain ⟨rfl,rfl,rfl⟩:=e;intro ad n c e;cases e;exact hlc
end
end Go.Proofs.Kn
end
namespace Go.Proofs.Kn
open Go Go.Ev
set_option maxRecDepth 100000
set_option maxHeartbeats 4000000
abbrev b0:Int×Int×Int:=(0,0,0)
def Wk.one1 (w:Wk) (ls:List (Int×Int×Int)) (i:Nat):Bool:=w.isT (ls.getD i b0) && (w.pcan (ls.getD i b0) && (List.range i).all fun k=>w.apt (ls.getD k b0) (ls.getD i b0))
def Wk.cut (w:Wk) (ls:List (Int×Int×Int)):Bool:=(List.range ls.length).all (w.one1 ls)
theorem cut_no {w:Wk} {ls:List (Int×Int×Int)} {i:Nat} (hi:i<ls.length) (h:w.one1 ls i=false):w.cut ls=false:=by
 unfold Wk.cut;exact wA hi h
theorem qER {w:Wk} {ls:List (Int×Int×Int)} (h: ∀i,i<ls.length->w.one1 ls i=true):w.cut ls=true:=by
 unfold Wk.cut;rw [yQ];exact h
theorem cut_at {w:Wk} {ls:List (Int×Int×Int)} (h:w.cut ls=true) {i:Nat} (hi:i<ls.length):w.one1 ls i=true:=by
 unfold Wk.cut at h;rw [yQ] at h;exact h i hi
theorem yU {ls:List (Int×Int×Int)} {i:Nat} {s:Int×Int×Int} (h:ls[i]? =some s):ls.getD i b0=s:=by
 rw [xZL,h];rfl
theorem one1_T {w:Wk} {ls:List (Int×Int×Int)} {i:Nat} {s:Int×Int×Int} (hs:ls[i]? =some s) (h:w.isT s=false):w.one1 ls i=false:=by
 simp only [Wk.one1,yU hs,h,xYV]
theorem one1_P {w:Wk} {ls:List (Int×Int×Int)} {i:Nat} {s:Int×Int×Int} (hs:ls[i]? =some s) (h:w.pcan s=false):w.one1 ls i=false:=by
 simp only [Wk.one1,yU hs,h,xYV,Bool.and_false]
theorem one1_A {w:Wk} {ls:List (Int×Int×Int)} {i k:Nat} {s a:Int×Int×Int} (hs:ls[i]? =some s) (hk:k<i) (ha:ls[k]? =some a) (h:w.apt a s=false):w.one1 ls i=false:=by
 have:((List.range i).all fun k=>w.apt (ls.getD k b0) (ls.getD i b0))=false:=wA hk (by rw [yU hs,yU ha];exact h);simp only [Wk.one1,this,Bool.and_false]
theorem qCC {w:Wk} {ls:List (Int×Int×Int)} {i:Nat} {s:Int×Int×Int} (hs:ls[i]? =some s) (h1:w.isT s=true) (h2:w.pcan s=true) (h3: ∀k,k<i->w.apt (ls.getD k b0) s=true):w.one1 ls i=true:=by
 simp only [Wk.one1,yU hs,h1,h2,xZI];rw [yQ];exact h3
theorem qEp {w:Wk} {ls:List (Int×Int×Int)} {i:Nat} {s:Int×Int×Int} (hs:ls[i]? =some s) (h:w.one1 ls i=true):w.isT s=true/\w.pcan s=true/\ ∀k,k<i->w.apt (ls.getD k b0) s=true:=by
 simp only [Wk.one1,xZP,yQ,yU hs] at h;exact h
theorem qEq {w:Wk} (his:w.Is) {ls:List (Int×Int×Int)} {i:Nat} {s:Int×Int×Int} (hs:ls[i]? =some s) (h:w.one1 ls i=true): ∃(r0 c0 q n:Nat) (th wo:Int),s=((r0:Int),(c0:Int),(q:Int))/\Tub w q n th wo/\r0+n<=w.m.cells.length/\c0+n<=w.m.W:=by
 obtain ⟨h1,h2,_⟩:=qEp hs h;obtain ⟨q,n,th,wo,hq,ht⟩:=his.tub' h1;obtain ⟨a,b,c⟩:=s;simp only at hq;subst hq;obtain ⟨r0,c0,rfl,rfl,h3,h4⟩:=Wk.pcan_in ht h2;exact ⟨r0,c0,q,n,th,wo,rfl,ht,h3,h4⟩
theorem ft22 (xt:Xt):(SE xt).ft.get 22=some Tryz.f22:=by kernel_rfl
theorem res22:Tryz.f22.results.toList=[.tmp 4]:=by kernel_rfl
theorem rcut_c (xt:Xt) (h:Hp) (w:Wk) (ha:w.At xt h) (his:w.Is) (v:AV) (ls:List (Int×Int×Int)) (hl:Cuts xt h v ls)
  {K:KP} (hk: ∀k,h.n<k->K (.ret (.val (.bool (w.cut ls)))) (h.up k)):FnA (SE xt) 22 [w.av,v] h K:=by
 refine xZO ?_ hk;clear hk K;refine xZQ (sok xt) (ft22 xt) rfl 46 rfl ?_;obtain ⟨o1,o2,o3,o4,o5⟩:=ha.ones;have hlen:=hl.len;have hlt:=hl.lt;have hr6:=his.m.r6;have hc8:=his.m.c8;refine qA fun K hn hp=> ?_;simp only [sw.1,rE,reduceIte,rL];apply hn;clear hn hp K;obtain ⟨h1,hh1,nh1,sh1,_,fbh1⟩:=nwE h (.cells w.cs 30);rw [<-hh1];have fh1:=fbh1;have ha1:=ha.fr fh1 (xZY _);have hl1:=hl.fr fh1 (xZY _);refine qB fun K hn hp=> ?_;simp only [sy.1,rL];apply hn;clear hn hp K;refine qD fun KA A1 A2 A3 A4 A5=> ?_;refine qM (sok xt) (fun st=> ∃(i:Nat) (m:Nat) (tm:T AV),st=⟨tm,46,h1.up m,[]⟩/\i<=ls.length/\tm.get 1=some (v)/\tm.get 2=some (.ptr h.n 0)/\tm.get 5=some (iv i)/\h1.n<=m/\ ∀j,j<i->w.one1 ls j=true) (fun st=>ls.length - (match st.tm.get 5 with|some (.val (.int _ n))=>n.toNat|_=>0)) ?_ ?_
 ·rintro st ⟨i,m,tm,rfl,hkA,g1,g2,g5,hm,hall⟩;have muA:=g5;refine qB fun K hn hp=> ?_;simp only [sy.1,rE,reduceIte,rL,syw.1,hlen,qV,g1,g5];apply hn;clear hn hp K;have retF: ∀(n:Nat) (tm:T AV),h1.n<=n->tm.get 4=some (.val (.bool false))->(i<ls.length/\w.one1 ls i=false)->xX (SE xt) Tryz.f22 (fun r h'=>r= .ret (.val (.bool (w.cut ls)))/\Fr h.n h h') .ret ⟨tm,46,h1.up n,[]⟩:=fun n tm hn g hx=>qH res22 ⟨by simp [g,cut_no hx.1 hx.2],fh1.up hn⟩;by_cases hi:i<ls.length
  ·refine jC (by simp only [sy.1,rE,reduceIte,hi]) ?_;obtain ⟨s,hs⟩: ∃s,ls[i]? =some s:=⟨_,xZW hi⟩;obtain ⟨i1,i2,i3,i4⟩:=hl1.at_ hs;refine qD fun KB B1 B2 B3 B4 B5=> ?_;refine jK ?_;refine jL (sok xt) 0 0 14 [] (by kernel_rfl) fun K hn hp=> ?_;simp only [sy.1,rE,reduceIte,rL,rA,syw.1,sh1,g1,g2,g5,i1,i3,i4];refine cAS (rtube_c xt _ w (ha1.up hm) s.2.2 fun m2 hm2=> ?_);simp only [xZT] at hm2;cases e1:w.isT s
   ·have e1':inB s.2.2 0 ((w.ts.length:Int) - 1)=false:=e1;simp only [sy.1,rE,reduceIte,rL,rA,syw.1,hm2,e1',xZX];apply hn;clear hn hp K;refine qW (by simp only [sy.1,rE,reduceIte]) ?_;refine qB fun K hn hp=> ?_;simp only [sy.1,rL];apply hn;clear hn hp K;refine qQ (B4 _ (A4 _ (retF _ _ (by omega) (by simp [xZZ]) ⟨hi,one1_T hs e1⟩)))
   have e1':inB s.2.2 0 ((w.ts.length:Int) - 1)=true:=e1;obtain ⟨q,n,th,wo,hq,ht⟩:=his.tub' e1;obtain ⟨a,b,c⟩:=s;simp only at hq;subst hq;simp only [sy.1,rE,reduceIte,rL,rA,syw.1,sh1,g1,g2,g5,i1,hm2,e1',xZX,i2];refine cAS (rcan_c xt _ w (ha1.up (n:=m2) (by omega)) _ _ his.m rfl a b q n th wo ht.at_ ht.n3 fun m3 hm3=> ?_);simp only [xZT] at hm3;rw [rcan_same his.rc _ _ _ _ _ (by omega) (by omega),<-Wk.pcan_q ht];cases e2:w.pcan (a,b,(q:Int))
   ·simp only [sy.1,rE,reduceIte,rL,xZX];apply hn;clear hn hp K;refine qW (by simp only [sy.1,rE,reduceIte]) ?_;refine qB fun K hn hp=> ?_;simp only [sy.1,rL];apply hn;clear hn hp K;refine qQ (B4 _ (A4 _ (retF _ _ (by omega) (by simp [xZZ]) ⟨hi,one1_P hs e2⟩)))
   simp only [sy.1,rE,reduceIte,rL,xZX];apply hn;clear hn hp K;refine jB (by simp only [sy.1,rE,reduceIte]) ?_;obtain ⟨r0,c0,rfl,rfl,hrn,hcn⟩:=Wk.pcan_in ht e2;refine qA fun K hn hp=> ?_;simp only [sy.1,rL];apply hn;clear hn hp K;refine qZ fun KD D1 D2 D3 D4 D5=> ?_;refine qM (sok xt) (fun st=> ∃(k:Nat) (m2:Nat) (tm:T AV),st=⟨tm,46,h1.up m2,[]⟩/\k<=i/\tm.get 1=some (v)/\tm.get 2=some (.ptr h.n 0)/\tm.get 5=some (iv i)/\tm.get 6=some (iv k)/\h1.n<=m2/\ ∀j,j<k->w.apt (ls.getD j b0) ((r0:Int),(c0:Int),(q:Int))=true) (fun st=>i - (match st.tm.get 6 with|some (.val (.int _ n))=>n.toNat|_=>0)) ?_ ?_
   ·rintro st ⟨k,m2,tm,rfl,hkD,g1,g2,g5,g6,hm2,hallj⟩;have muD:=g6;refine qB fun K hn hp=> ?_;simp only [sy.1,rE,reduceIte,rL,qV,g5,g6];apply hn;clear hn hp K;by_cases hk:k<i
    ·refine jC (by simp only [sy.1,rE,reduceIte,hk]) ?_;obtain ⟨x,hx⟩: ∃x,ls[k]? =some x:=⟨_,xZW (by omega)⟩;obtain ⟨j1,j2,_,_⟩:=hl1.at_ hx;have k2:=(hl1.at_ hs).2.1;obtain ⟨ra,ca,qa,na,ta,wa,rfl,hta,hr1,hc1⟩:=qEq his hx (hall k hk);refine qD fun KE E1 E2 E3 E4 E5=> ?_;refine jL (sok xt) 0 0 9 [] (by kernel_rfl) fun K hn hp=> ?_;simp only [sy.1,rE,reduceIte,rL,rA,syw.1,sh1,g1,g2,g5,i1,g6,j1,j2,k2];refine cAS (rapart_c xt _ w (ha1.up hm2) hta ht ra ca r0 c0 (by omega) (by omega) (by omega) (by omega) fun m5 hm5=> ?_);simp only [xZT] at hm5;cases e3:w.apt ((ra:Int),(ca:Int),(qa:Int)) ((r0:Int),(c0:Int),(q:Int))
     ·simp only [sy.1,rE,reduceIte,rL,xZX];apply hn;clear hn hp K;refine wcT (by simp only [sy.1,rE,reduceIte]) ?_;refine qA fun K hn hp=> ?_;simp only [sy.1,rL];apply hn;clear hn hp K;refine qC (E4 _ (D4 _ (B4 _ (A4 _ (retF _ _ (by omega) (by simp [xZZ]) ⟨hi,one1_A hs hk hx e3⟩)))))
     simp only [sy.1,rE,reduceIte,rL,xZX];apply hn;clear hn hp K;refine wcF (by simp only [sy.1,rE,reduceIte]) ?_;refine qR (E1 _ ?_);refine reg fun K hn hp=> ?_;simp only [sy.1,rE,reduceIte,rL,g6,qF hk (show i<=9223372036854775807 by omega)];apply hn;clear hn hp K;refine ⟨⟨k+1,m5,_,rfl,by omega,(by simp [xZZ,g1]),(by simp [xZZ,g2]),(by simp [xZZ,g5]),(by simp [xZZ]),by omega,fun j hj=> ?_⟩,by simpa [xZZ,muD] using (by omega:i - (k+1)<i - k)⟩;by_cases e:j=k
     ·rw [e,yU hx];exact e3
     ·exact hallj j (by omega)
    ·refine jD (by simp only [sy.1,rE,reduceIte,hk]) ?_;refine qL (D2 _ (B1 _ ?_));obtain rfl:i=k:=by omega
     refine reg fun K hn hp=> ?_;simp only [sy.1,rE,reduceIte,rL,g5,qF hi hlt];apply hn;clear hn hp K;refine ⟨⟨i+1,m2,_,rfl,by omega,(by simp [xZZ,g1]),(by simp [xZZ,g2]),(by simp [xZZ]),hm2,fun j hj=> ?_⟩,by simpa [xZZ,muA] using (by omega:ls.length - (i+1)<ls.length - i)⟩;by_cases e:j=i
     ·rw [e];exact qCC hs e1 e2 hallj
     ·exact hall j (by omega)
   ·exact ⟨0,m3,_,rfl,(by omega),(by simp [xZZ,g1]),(by simp [xZZ,g2]),(by simp [xZZ,g5]),(by simp [xZZ]),by omega,fun j hj=>absurd hj (xZD j)⟩
  ·refine jD (by simp only [sy.1,rE,reduceIte,hi]) ?_;refine qL (A2 _ ?_);obtain rfl:i=ls.length:=by omega
   refine qA fun K hn hp=> ?_;simp only [sy.1,rL];apply hn;clear hn hp K;refine qC (qH res22 ⟨?_,fh1.up hm⟩);simp [xZZ,qER hall]
 ·exact ⟨0,h1.n,_,rfl,(by omega),(by simp [xZZ]),(by simp [xZZ]),(by simp [xZZ]),xZY _,fun j hj=>absurd hj (xZD j)⟩
theorem apt_prog {w:Wk} {qa qb na nb:Nat} {ta tb' wa wb:Int} (hta:Tub w qa na ta wa) (htb:Tub w qb nb tb' wb) (ra ca rb cb:Int):w.apt (ra,ca,(qa:Int)) (rb,cb,(qb:Int))=((decide (ra=rb) && (decide ((na:Int)=nb) && decide (ca+na<=cb))) || !decide (rb<ra+na)):=by
 have h1:=hta.n1;rw [Bool.eq_iff_iff];simp only [Wk.apt,xZN,hta.tb,htb.tb];by_cases e:ra=rb
 ·simp only [if_pos e,decide_eq_true e,xZI,Bool.or_eq_true,xZP,decide_eq_true_eq,xZG,decide_eq_false_iff_not];omega
 ·simp only [if_neg e,decide_eq_false e,xYV,Bool.false_or,decide_eq_true_eq,xZG,decide_eq_false_iff_not];omega
theorem ft78 (xt:Xt):(SE xt).ft.get 78=some Tryz.f78:=by kernel_rfl
theorem res78:Tryz.f78.results.toList=[.tmp 4]:=by kernel_rfl
theorem isCut_c (xt:Xt) (h:Hp) (w:Wk) (ha:w.At xt h) (his:w.Is) (v:AV) (ls:List (Int×Int×Int)) (hl:Cuts xt h v ls)
  {K:KP} (hk: ∀k,h.n<k->K (.ret (.val (.bool (w.cut ls)))) (h.up k)):FnA (SE xt) 78 [w.av,v] h K:=by
 refine xZO ?_ hk;clear hk K;refine xZQ (sok xt) (ft78 xt) rfl 83 rfl ?_;obtain ⟨o1,o2,o3,o4,o5⟩:=ha.ones;have hlen:=hl.len;have hlt:=hl.lt;have hr6:=his.m.r6;have hc8:=his.m.c8;refine qA fun K hn hp=> ?_;simp only [sw.1,rE,reduceIte,rL];apply hn;obtain ⟨h1,hh1,nh1,sh1,_,fbh1⟩:=nwE h (.cells w.cs 30);rw [<-hh1];have fh1:=fbh1;have ha1:=ha.fr fh1 (xZY _);have hl1:=hl.fr fh1 (xZY _);refine qB fun K hn hp=> ?_;simp only [sy.1,rE,reduceIte,rL,syw.1,hlen];apply hn;refine qD fun KA A1 A2 A3 A4 A5=> ?_;refine qM (sok xt) (fun st=> ∃(i:Nat) (hg:Hp) (tm:T AV),st=⟨tm,83,hg,[]⟩/\i<=ls.length/\tm.get 1=some (v)/\tm.get 2=some (.ptr h.n 0)/\tm.get 12=some (v)/\tm.get 13=some (iv ls.length)/\tm.get 14=some (iv i)/\Fr h1.n h1 hg/\ ∀j,j<i->w.one1 ls j=true) (fun st=>ls.length - (match st.tm.get 14 with|some (.val (.int _ n))=>n.toNat|_=>0)) ?_ ?_
 ·rintro st ⟨i,hg,tm,rfl,hkA,g1,g2,g12,g13,g14,fg,hall⟩;have muA:=g14;refine qA fun K hn hp=> ?_;simp only [sy.1,rL,qV,g13,g14];apply hn;have lg:=fg.lo;by_cases hi:i<ls.length
  ·refine jC (by simp only [sy.1,reduceIte,hi]) ?_;obtain ⟨s,hs⟩: ∃s,ls[i]? =some s:=⟨_,xZW hi⟩;have hlg:=hl1.fr fg (xZY _);obtain ⟨i1,i2,_,_⟩:=hlg.at_ hs;refine qD fun KB B1 B2 B3 B4 B5=> ?_;refine qA fun K hn hp=> ?_;simp only [sw.1,rE,reduceIte,rL,rA,al61,g12,g14,i1,i2];obtain ⟨h9,hh9,n9,s9,k9,f9⟩:=nsE hg (.cells [iv 0,iv 0,iv 0] 61) (.cells [iv s.1,iv s.2.1,iv s.2.2] 61);rw [<-hh9];apply hn;clear hh9;have f9h1:=fg.trans f9 fg.lo;have f9h:=fh1.trans f9h1 (by omega);have u1:=(f9h1.at_ h.n (.inl (by omega))).trans sh1;have ha9:=ha1.fr f9h1 (xZY _);have hl9:=hl1.fr f9h1 (xZY _);have retF: ∀(hx:Hp) (tm:T AV),Fr h9.n h9 hx->tm.get 4=some (.val (.bool false))->w.one1 ls i=false->xX (SE xt) Tryz.f78 (fun r h'=>r= .ret (.val (.bool (w.cut ls)))/\Fr h.n h h') .ret ⟨tm,83,hx,[]⟩:=fun hx tm f g e=>qH res78 ⟨by simp [g,cut_no hi e],f9h.trans f f9h.lo⟩;refine qB fun K hn hp=> ?_;simp only [sy.1,rE,reduceIte,rL,rA,g2,u1,s9];refine cAS (isTube_c xt h9 w ha9 s fun m2 hm2=> ?_);cases e1:w.isT s
   ·have e1':inB s.2.2 0 ((w.ts.length:Int) - 1)=false:=e1;simp only [sy.1,rE,reduceIte,rL,e1'];apply hn;refine qW (by simp only [sy.1,rE,reduceIte]) ?_;refine qB fun K hn hp=> ?_;simp only [sy.1,rL];apply hn;refine qQ (B4 _ (A4 _ (retF _ _ ((xZC (xZY _)).up (xZR hm2)) (by simp [xZZ]) (one1_T hs e1))))
   have e1':inB s.2.2 0 ((w.ts.length:Int) - 1)=true:=e1;obtain ⟨q,n,th,wo,hq,ht⟩:=his.tub' e1;obtain ⟨a,b,c⟩:=s;simp only at hq;subst hq;simp only [sy.1,rE,reduceIte,rL,rA,g2,u1,s9,e1'];refine cAS (can_c xt (h9.up m2) w (ha9.up (n:=m2) (by omega)) _ _ his.m his.rc a b q n th wo ht.at_ ht.n3 fun m3 hm3=> ?_);simp only [xZT] at hm3;rw [<-Wk.pcan_q ht];cases e2:w.pcan (a,b,(q:Int))
   ·simp only [sy.1,rE,reduceIte,rL,xZX];apply hn;refine qW (by simp only [sy.1,rE,reduceIte]) ?_;refine qB fun K hn hp=> ?_;simp only [sy.1,rL];apply hn;refine qQ (B4 _ (A4 _ (retF _ _ ((xZC (xZY _)).up (by omega)) (by simp [xZZ]) (one1_P hs e2))))
   simp only [sy.1,rE,reduceIte,rL,xZX];apply hn;refine jB (by simp only [sy.1,rE,reduceIte]) ?_;obtain ⟨r0,c0,rfl,rfl,hrn,hcn⟩:=Wk.pcan_in ht e2;obtain ⟨j1,j2,_,_,ld⟩:=ha9.tubs ht.at_;obtain ⟨l1,_,_⟩:=ld h9 (xZC (xZY _));refine qA fun K hn hp=> ?_;simp only [sy.1,rE,reduceIte,rL,syw.1,g2,u1,s9,j1,j2,l1];apply hn;obtain ⟨v',sl1,hcu⟩:=hl9.upto (k:=i) (by omega);have sl2: ∀h',j0 tb h' 33 v none (some (iv (i:Int)))=some v':=fun h'=>by
    rw [<-sl1];rcases hl9.row.2.2 with ⟨rfl,_⟩|⟨_,_,rfl,_⟩|⟨_,_,_,_,rfl,_⟩<;>rfl
   have hlen': ∀h':Hp,zA tb h' 33 v'=some i:=fun h'=>by rw [hcu.len h',xYZ];simp;omega
   refine qA fun K hn hp=> ?_;simp only [sy.1,rE,reduceIte,rL,syw.1,g1,kS,sl2,hlen',Option.map_none];apply hn;refine qZ fun KD D1 D2 D3 D4 D5=> ?_;refine qM (sok xt) (fun st=> ∃(k:Nat) (hd:Hp) (tm:T AV),st=⟨tm,83,hd,[]⟩/\k<=i/\tm.get 1=some (v)/\tm.get 2=some (.ptr h.n 0)/\tm.get 5=some (iv i)/\tm.get 6=some (.ptr hg.n 0)/\tm.get 7=some (iv n)/\tm.get 12=some (v)/\tm.get 13=some (iv ls.length)/\tm.get 14=some (iv i)/\tm.get 38=some (v')/\tm.get 39=some (iv i)/\tm.get 40=some (iv k)/\Fr h9.n h9 hd/\ ∀j,j<k->w.apt (ls.getD j b0) ((r0:Int),(c0:Int),(q:Int))=true) (fun st=>i - (match st.tm.get 40 with|some (.val (.int _ n))=>n.toNat|_=>0)) ?_ ?_
   ·rintro st ⟨k,hd,tm,rfl,hkD,g1,g2,g5,g6,g7,g12,g13,g14,g38,g39,g40,fd,hallj⟩;have muD:=g40;refine qA fun K hn hp=> ?_;simp only [sy.1,rL,qV,g39,g40];apply hn;have ld':=fd.lo;by_cases hk:k<i
    ·refine jC (by simp only [sy.1,reduceIte,hk]) ?_;obtain ⟨x,hx⟩: ∃x,ls[k]? =some x:=⟨_,xZW (by omega)⟩;obtain ⟨ra,ca,qa,na,ta,wa,rfl,hta,hr1,hc1⟩:=qEq his hx (hall k hk);have hcd:=hcu.fr fd (xZY _);obtain ⟨p1,p2,_,_⟩:=hcd.at_ (i:=k) (s:=((ra:Int),(ca:Int),(qa:Int))) (by rw [xYP,if_pos hk];exact hx);refine qD fun KE E1 E2 E3 E4 E5=> ?_;refine qA fun K hn hp=> ?_;simp only [sw.1,rE,reduceIte,rL,rA,al61,g38,g40,p1,p2];obtain ⟨h11,hh11,n11,s11,k11,f11⟩:=nsE hd (.cells [iv 0,iv 0,iv 0] 61) (.cells [iv ra,iv ca,iv qa] 61);rw [<-hh11];apply hn;clear hh11;have f119:=fd.trans f11 fd.lo;have v1:=(f119.at_ h.n (.inl (by omega))).trans u1;have v2:=(f119.at_ hg.n (.inl (by omega))).trans s9;obtain ⟨y1,y2,_,_,ldx⟩:=ha9.tubs hta.at_;obtain ⟨x1,_,_⟩:=ldx h11 f119;have n3:=hta.n3;have w1:IntKind.i64.wrap ((ra:Int)+(na:Int))=ra+na:=qG _ (by omega) (by omega);have w2:IntKind.i64.wrap ((ca:Int)+(na:Int))=ca+na:=qG _ (by omega) (by omega);refine qA fun K hn hp=> ?_;simp only [sy.1,rE,reduceIte,rL,g2,v1,s11,y1,y2,x1];apply hn;have hap:=apt_prog hta ht (ra:Int) ca r0 c0;refine qAq fun KK hK hX=> ?_;have rest: ∀(tm:T AV) (β:Bool),β=(decide ((ra:Int)=r0) && (decide ((na:Int)=n) && decide ((ca:Int)+na<=c0)))->tm.get 1=some v->tm.get 2=some (.ptr h.n 0)->tm.get 5=some (iv i)->tm.get 6=some (.ptr hg.n 0)->tm.get 7=some (iv n)->tm.get 9=some (.ptr hd.n 0)->tm.get 10=some (iv na)->tm.get 11=some (.val (.bool β))->tm.get 12=some v->tm.get 13=some (iv ls.length)->tm.get 14=some (iv i)->tm.get 38=some v'->tm.get 39=some (iv i)->tm.get 40=some (iv k)->KK .normal ⟨tm,83,h11,[]⟩:=by
      clear g1 g2 g5 g6 g7 g12 g13 g14 g38 g39 g40;intro tm β hβ g1 g2 g5 g6 g7 g9 g10 g11 g12 g13 g14 g38 g39 g40;refine hK _ ?_;clear hX hK KK;rw [<-hβ] at hap;have next: ∀tm:T AV,w.apt ((ra:Int),(ca:Int),(qa:Int)) ((r0:Int),(c0:Int),(q:Int))=true->tm.get 1=some v->tm.get 2=some (.ptr h.n 0)->tm.get 5=some (iv i)->tm.get 6=some (.ptr hg.n 0)->tm.get 7=some (iv n)->tm.get 12=some v->tm.get 13=some (iv ls.length)->tm.get 14=some (iv i)->tm.get 38=some v'->tm.get 39=some (iv i)->tm.get 40=some (iv k)->KE .normal ⟨tm,83,h11,[]⟩:=by
       clear g1 g2 g5 g6 g7 g9 g10 g11 g12 g13 g14 g38 g39 g40;intro tm e3 g1 g2 g5 g6 g7 g12 g13 g14 g38 g39 g40;refine E1 _ ?_;refine reg fun K hn hp=> ?_;simp only [sy.1,reduceIte,rL,g40,qF hk (show i<=9223372036854775807 by omega)];apply hn;refine ⟨⟨k+1,h11,_,rfl,by omega,(by simp [xZZ,g1]),(by simp [xZZ,g2]),(by simp [xZZ,g5]),(by simp [xZZ,g6]),(by simp [xZZ,g7]),(by simp [xZZ,g12]),(by simp [xZZ,g13]),(by simp [xZZ,g14]),(by simp [xZZ,g38]),(by simp [xZZ,g39]),(by simp [xZZ]),f119,fun j hj=> ?_⟩,by simpa [xZZ,muD] using (by omega:i - (k+1)<i - k)⟩;by_cases e:j=k
       ·rw [e,yU hx];exact e3
       ·exact hallj j (by omega)
      cases β with
      |true=>
       refine qA fun K hn hp=> ?_;simp only [sy.1,rE,reduceIte,rL,g11];apply hn;refine wcF (by simp only [sy.1,rE,reduceIte]) ?_;refine qR (next _ (by simpa using hap) ?_ ?_ ?_ ?_ ?_ ?_ ?_ ?_ ?_ ?_ ?_);all_goals simp [xZZ,g1,g2,g5,g6,g7,g12,g13,g14,g38,g39,g40]
      |false=>
       refine qA fun K hn hp=> ?_;simp only [sy.1,rE,reduceIte,rL,g6,v2,s11,w1,g9,g10,g11];cases e4:decide ((r0:Int)<ra+na)
       ·apply hn;refine wcF (by simp only [sy.1,rE,reduceIte]) ?_;refine qR (next _ (by simpa [e4] using hap) ?_ ?_ ?_ ?_ ?_ ?_ ?_ ?_ ?_ ?_ ?_);all_goals simp [xZZ,g1,g2,g5,g6,g7,g12,g13,g14,g38,g39,g40]
       ·apply hn;refine wcT (by simp only [sy.1,rE,reduceIte]) ?_;refine qA fun K hn hp=> ?_;simp only [sy.1,rL];apply hn;refine qC (E4 _ (D4 _ (B4 _ (A4 _ (retF _ _ f119 (by simp [xZZ]) (one1_A hs hk hx (by simpa [e4] using hap)))))))
     refine reg fun K hn hp=> ?_;simp only [sy.1,rE,reduceIte,rL,g6,v2,s11];cases q1:decide ((ra:Int)=r0)
     ·simp only [sy.1,rE,reduceIte,rL];refine hn _ _ (rest _ false ?_ ?_ ?_ ?_ ?_ ?_ ?_ ?_ ?_ ?_ ?_ ?_ ?_ ?_ ?_);all_goals simp [xZZ,g1,g2,g5,g6,g7,g12,g13,g14,g38,g39,g40,q1]
     cases q2:decide ((na:Int)=n)
     ·simp only [sy.1,rE,reduceIte,rL,g7,q2];refine hn _ _ (rest _ false ?_ ?_ ?_ ?_ ?_ ?_ ?_ ?_ ?_ ?_ ?_ ?_ ?_ ?_ ?_);all_goals simp [xZZ,g1,g2,g5,g6,g7,g12,g13,g14,g38,g39,g40,q1,q2]
     simp only [sy.1,rE,reduceIte,rL,g6,g7,v2,s11,w2,q2];refine hn _ _ (rest _ (decide ((ca:Int)+na<=c0)) ?_ ?_ ?_ ?_ ?_ ?_ ?_ ?_ ?_ ?_ ?_ ?_ ?_ ?_ ?_);all_goals simp [xZZ,g1,g2,g5,g6,g7,g12,g13,g14,g38,g39,g40,q1,q2]
    ·refine jD (by simp only [sy.1,reduceIte,hk]) ?_;refine qL (D2 _ (B1 _ ?_));obtain rfl:i=k:=by omega
     refine reg fun K hn hp=> ?_;simp only [sy.1,rE,reduceIte,rL,g14,qF hi hlt];apply hn;refine ⟨⟨i+1,hd,_,rfl,by omega,(by simp [xZZ,g1]),(by simp [xZZ,g2]),(by simp [xZZ,g12]),(by simp [xZZ,g13]),(by simp [xZZ]),f9h1.trans fd (by omega),fun j hj=> ?_⟩,by simpa [xZZ,muA] using (by omega:ls.length - (i+1)<ls.length - i)⟩;by_cases e:j=i
     ·rw [e];exact qCC hs e1 e2 hallj
     ·exact hall j (by omega)
   ·exact ⟨0,h9.up m3,_,rfl,(by omega),(by simp [xZZ,g1]),(by simp [xZZ,g2]),(by simp [xZZ]),(by simp [xZZ]),(by simp [xZZ]),(by simp [xZZ,g12]),(by simp [xZZ,g13]),(by simp [xZZ,g14]),(by simp [xZZ]),(by simp [xZZ]),(by simp [xZZ]),(xZC (xZY _)).up (by omega),fun j hj=>absurd hj (xZD j)⟩
  ·refine jD (by simp only [sy.1,reduceIte,hi]) ?_;refine qL (A2 _ ?_);obtain rfl:i=ls.length:=by omega
   refine qA fun K hn hp=> ?_;simp only [sy.1,rL];apply hn;refine qC (qH res78 ⟨?_,fh1.trans fg (by omega)⟩);simp [xZZ,qER hall]
 ·exact ⟨0,h1,_,rfl,(by omega),(by simp [xZZ]),(by simp [xZZ]),(by simp [xZZ]),(by simp [xZZ]),(by simp [xZZ]),xZC (xZY _),fun j hj=>absurd hj (xZD j)⟩
theorem qCz {xt:Xt} {h:Hp} {N k:Nat} {x:AV} {l:List Int} (own:OwnSl h N 1 3 x k (ivs l)) (hN:N<=h.n) (n:Int) (hk:k<=1000000000):
  ∃(x':AV) (h7:Hp),qS Tryz.prog tb xt .append [75,75] [x,.sl h.n 0 1 1] (h.new (.cells [iv n] 3))=some (x',h7)/\OwnSl h7 N 1 3 x' (k+1) (ivs (l++[n]))/\Fr N h h7:=by
 obtain ⟨h7,p1,p2,p3,p4,p5⟩:=(own.new (.cells [iv n] 3)).append2 (P:=Tryz.prog) (xt:=xt) (x:= .sl h.n 0 1 1) (m:=1) (cz:=[iv n]) (by simp only [Hp.new_n];omega) yG rfl tg3 rfl (show te3.bytes=8 from rfl) yG rfl (wO (e:=3) (pT _ _) rfl rfl) (by omega) rfl (by omega) (by omega);refine ⟨_,h7,p1,?_,((xZC hN).new _).trans p3 (xZY _)⟩;have:ivs (l++[n])=ivs l++[iv n]:=by simp [ivs]
 rw [this];exact p2
def Wk.vals (w:Wk) (gv:Int×Int×Int->Int) (ls:List (Int×Int×Int)):List Int:=ls.map fun s=>(w.tb s.2.2.toNat).2.2*gv s
def Wk.worth (w:Wk) (gv:Int×Int×Int->Int) (ls:List (Int×Int×Int)):Int:=vG (w.vals gv ls) ls.length
theorem qFg {l:List Int} {B:Int} (hB:0<=B) (hl: ∀x∈l,0<=x/\x<=B): ∀k,0<=vG l k/\vG l k<=k*B
 |0=>by simp [vG]
 |k+1=>by
  have:=qFg hB hl k;have h2:0<=l.getD k 0/\l.getD k 0<=B:=by
   rw [xZL];cases e:l[k]? with
   |none=>exact ⟨xYO _,hB⟩
   |some x=>exact hl x (xZK e)
  have h3:((k+1:Nat):Int)*B=k*B+B:=by rw [Int.natCast_add,Int.add_mul];simp
  rw [h3];simp only [vG];omega
theorem ft79 (xt:Xt):(SE xt).ft.get 79=some Tryz.f79:=by kernel_rfl
theorem res79:Tryz.f79.results.toList=[.tmp 6]:=by kernel_rfl
theorem total_c (xt:Xt) (h:Hp) (w:Wk) (ha:w.At xt h) (his:w.Is) (bv:AV) (onev:Go.Ev.one bv=true) (v:AV) (ls:List (Int×Int×Int)) (hl:Cuts xt h v ls) (hT: ∀s∈ls,w.isT s=true) (hl50:ls.length<=1000000) (fv:AV) (gv:Int×Int×Int->Int) (hg: ∀s∈ls,0<=gv s/\gv s<=65)
  (hf: ∀(h':Hp) (s:Int×Int×Int),Fr h.n h h'->s∈ls-> ∀K:KP,(∀m,h'.n<m->K (.ret (iv (gv s))) (h'.up m))->CallA (SE xt) fv [bI s] h' K)
  {K:KP} (hk: ∀k,h.n<k->K (.ret (iv (w.worth gv ls))) (h.up k)):FnA (SE xt) 79 [.agg (w.bc bv),v,fv] h K:=by
 refine xZO ?_ hk;clear hk K;refine xZQ (sok xt) (ft79 xt) rfl 30 rfl ?_;obtain ⟨o1,o2,o3,o4,o5⟩:=ha.ones;have hlen:=hl.len;have hlt:=hl.lt;refine qA fun K hn hp=> ?_;simp only [sw.1,rE,reduceIte,rL,rA];apply hn;obtain ⟨h1,hh1,nh1,sh1,_,fbh1⟩:=nwE h (.cells (w.bc bv) 120);rw [<-hh1];have fh1:=fbh1;have ha1:=ha.fr fh1 (xZY _);have hl1:=hl.fr fh1 (xZY _);have hvl:(w.vals gv ls).length=ls.length:=by simp [Wk.vals]
 have hvb: ∀x∈w.vals gv ls,0<=x/\x<=6500:=fun x hx=>by
  obtain ⟨s,hs,rfl⟩:=xYU.1 hx;obtain ⟨q,n,th,wo,hq,ht⟩:=his.tub' (hT s hs);rw [hq,xZN,ht.tb];have g1:=hg s hs;have w1:=ht.w1;have w2:=ht.w100;have p1:0<=wo*gv s:=Int.mul_nonneg (by omega) g1.1;have p2:wo*gv s<=100*65:=Int.mul_le_mul w2 g1.2 g1.1 (by omega);exact ⟨p1,p2⟩
 refine qA fun K hn hp=> ?_;simp only [sy.1,rL];apply hn;refine qB fun K hn hp=> ?_;simp only [sy.1,rE,reduceIte,rL,syw.1,hlen];apply hn;refine qD fun KA A1 A2 A3 A4 A5=> ?_;refine qM (sok xt) (fun st=> ∃(k:Nat) (z:AV) (hg0:Hp) (tm:T AV),st=⟨tm,30,hg0,[]⟩/\k<=ls.length/\tm.get 2=some (fv)/\tm.get 3=some (.ptr h.n 0)/\tm.get 7=some (z)/\tm.get 11=some (v)/\tm.get 12=some (iv ls.length)/\tm.get 13=some (iv k)/\Fr h1.n h1 hg0/\OwnSl hg0 h1.n 1 3 z k (ivs ((w.vals gv ls).take k))) (fun st=>ls.length - (match st.tm.get 13 with|some (.val (.int _ n))=>n.toNat|_=>0)) ?_ ?_
 ·rintro st ⟨k,z,hg0,tm,rfl,hkA,g2,g3,g7,g11,g12,g13,fg,own⟩;have muA:=g13;refine qA fun K hn hp=> ?_;simp only [sy.1,rL,qV,g12,g13];apply hn;have lg:=fg.lo;by_cases hk:k<ls.length
  ·refine jC (by simp only [sy.1,reduceIte,hk]) ?_;obtain ⟨s,hs⟩: ∃s,ls[k]? =some s:=⟨_,xZW hk⟩;have hsm:=xZK hs;have hlg:=hl1.fr fg (xZY _);obtain ⟨i1,i2,_,_⟩:=hlg.at_ hs;refine qD fun KB B1 B2 B3 B4 B5=> ?_;refine qA fun K hn hp=> ?_;simp only [sw.1,rE,reduceIte,rL,rA,al61,g11,g13,i1,i2];obtain ⟨h9,hh9,n9,s9,k9,f9⟩:=nsE hg0 (.cells [iv 0,iv 0,iv 0] 61) (.cells [iv s.1,iv s.2.1,iv s.2.2] 61);rw [<-hh9];apply hn;clear hh9;have f9h1:=fg.trans f9 fg.lo;have f9h:=fh1.trans f9h1 (by omega);have u1:=(f9h1.at_ h.n (.inl (by omega))).trans sh1;have ha9:=ha1.fr f9h1 (xZY _);refine qA fun K hn hp=> ?_;simp only [sy.1,rE,reduceIte,rL,rA,g2,s9];refine hf h9 s f9h hsm _ fun m1 hm1=> ?_;simp only [sy.1,rE,reduceIte,rL];apply hn;obtain ⟨q,n,th,wo,hq,ht⟩:=his.tub' (hT s hsm);have hvk:(w.vals gv ls).getD k 0=wo*gv s:=by
    rw [xZL,Wk.vals,xZV,hs];show (w.tb s.2.2.toNat).2.2*gv s=_;rw [hq,xZN,ht.tb]
   have hvm:wo*gv s∈w.vals gv ls:=by
    rw [<-hvk];exact xZK (getD_some 0 (by omega))
   have hvr:=hvb _ hvm;obtain ⟨a,b,c⟩:=s;simp only at hq;subst hq;refine reg fun K hn hp=> ?_;simp only [sy.1,rE,reduceIte,rL,rA,g3,g7,u1,s9];refine cAS (value_c xt (h9.up m1) w (ha9.up (xZR hm1)) bv onev a b q n th wo ht.at_ (gv (a,b,(q:Int))) (by omega) (by omega) fun m2 hm2=> ?_);simp only [xZT] at hm2;have own9:OwnSl (h9.up m2) h1.n 1 3 z k (ivs ((w.vals gv ls).take k)):=(own.fr f9 (xZY _)).up (by omega);obtain ⟨z',h7,p1,p2,p3⟩:=qCz (xt:=xt) own9 (by simp only [xZT];omega) (wo*gv (a,b,(q:Int))) (by omega);simp only [xZT] at p1;simp only [sy.1,rE,reduceIte,rL,xZX,jF,bs75,p1];refine hn _ _ (B1 _ ?_);refine reg fun K hn hp=> ?_;simp only [sy.1,rE,reduceIte,rL,g13,qF hk hlt];apply hn;refine ⟨⟨k+1,z',h7,_,rfl,by omega,(by simp [xZZ,g2]),(by simp [xZZ,g3]),(by simp [xZZ]),(by simp [xZZ,g11]),(by simp [xZZ,g12]),(by simp [xZZ]),(f9h1.up (by omega)).trans p3 (xZY _),?_⟩,by simpa [xZZ,muA] using (by omega:ls.length - (k+1)<ls.length - k)⟩;have e9:(w.vals gv ls)[k]? =some (wo*gv (a,b,(q:Int))):=by rw [<-hvk];exact getD_some 0 (by omega)
   rw [xYX,e9];exact p2
  ·refine jD (by simp only [sy.1,reduceIte,hk]) ?_;refine qL (A2 _ ?_);obtain rfl:k=ls.length:=by omega
   rw [xZE (by omega),<-hvl] at own;have hrow:=qEn (xt:=xt) own;refine qA fun K hn hp=> ?_;simp only [sy.1,rE,reduceIte,rL,g7];refine cAS (qDG xt hg0 z _ hrow (by omega) (fun k hk=> ?_) fun m3 hm3=> ?_)
   ·have q1:=qFg (by omega) hvb k;have q2:(k:Int)*6500<=1000000*6500:=by omega
    omega
   simp only [sy.1,rE,reduceIte,rL];refine hn _ _ (qC (qH res79 ⟨?_,(fh1.trans fg (by omega)).up (xZR hm3)⟩));simp [xZZ,Wk.worth,hvl]
 ·exact ⟨0,_,h1,_,rfl,(by omega),(by simp [xZZ]),(by simp [xZZ]),(by simp [xZZ]),(by simp [xZZ]),(by simp [xZZ]),(by simp [xZZ]),xZC (xZY _),OwnSl.nil⟩
def Wk.Blk (w:Wk) (s:Int×Int×Int):Prop:= ∃(r0 c0 q n:Nat) (th wo:Int),s=((r0:Int),(c0:Int),(q:Int))/\Tub w q n th wo/\r0+n<=w.m.cells.length/\c0+n<=w.m.W
theorem cut_blk {w:Wk} (his:w.Is) {ls:List (Int×Int×Int)} (h:w.cut ls=true): ∀s∈ls,w.Blk s:=fun s hs=>by
 obtain ⟨i,hi,e⟩:=List.getElem_of_mem hs;exact qEq his (by rw [xZW hi,e]) (cut_at h hi)
theorem Wk.Blk.isT {w:Wk} {s:Int×Int×Int} (h:w.Blk s):w.isT s=true:=by
 obtain ⟨r0,c0,q,n,th,wo,rfl,ht,_,_⟩:=h;have:=(xZU.1 ht.at_).1;rw [Wk.isT,vR];simp only;omega
theorem qEJ {w:Wk} (his:w.Is) {t:Nat->Nat->Int} (hpos: ∀r c,r<w.m.cells.length->c<w.m.W->0<=t r c) {s:Int×Int×Int} (h:w.Blk s):0<=w.give t s/\w.give t s<=65:=by
 obtain ⟨r0,c0,q,n,th,wo,rfl,ht,h1,h2⟩:=h;rw [Wk.give_q ht];have k0:=his.k0;have k5:=his.k5;have t1:=ht.h1;have b1:=bF t r0 c0 n n;have b2:0<=zR t r0 c0 n n:=bG (by omega) n fun i hi j hj=>hpos _ _ (by omega) (by omega);have e5:(zR t r0 c0 n n+w.kerf).tdiv (th+w.kerf)=(zR t r0 c0 n n+w.kerf) / (th+w.kerf):=xYW (by omega);have e6:=Int.ediv_nonneg (a:=zR t r0 c0 n n+w.kerf) (b:=th+w.kerf) (by omega) (by omega);have e7:=Int.ediv_le_self (th+w.kerf) (show 0<=zR t r0 c0 n n+w.kerf by omega);omega
set_option maxHeartbeats 4000000
theorem qEC {f:Fn} {a b:Array Operand}:zS (.makeFunc f a b)=false:=rfl
theorem qEA {f:Fn} {a b:Array Operand}:zQ (.makeFunc f a b)=false:=rfl
def Wk.asked (w:Wk) (ls:List (Int×Int×Int)):Int:=if (w.ok && w.cut ls)=true then (if w.m.rposs=true then 0 else 7) else 2
def Wk.pworth (w:Wk) (ls:List (Int×Int×Int)):(Int×Int)×Int:=
 if (w.ok && w.cut ls)=true then
  match w.m.bnd with
  |none=>((0,0),7)
  |some G=>((w.worth (w.give (gLo G)) ls,w.worth (w.give (gHi G)) ls),0)
 else ((0,0),2)
theorem qEW {m:Mp} (hm:m.Is m.cells.length m.W) {G:Th.Grid} (hb:m.bnd=some G) (r c:Nat):0<=(G r c).1/\0<=(G r c).2:=by
 obtain ⟨_,hok,hsub,_⟩:=qF4 hm hb;have q1:=hsub r c;have q2:=hok r c;have:0<=(m.F0 r c).1:=by simp only [Mp.F0];split<;>simp
 omega
theorem ft23 (xt:Xt):(SE xt).ft.get 23=some Tryz.f23:=by kernel_rfl
theorem res23:Tryz.f23.results.toList=[.cell 4 43,.tmp 5]:=by kernel_rfl
theorem worth_c (xt:Xt) (h:Hp) (w:Wk) (ha:w.At xt h) (v0:AV) (ls:List (Int×Int×Int)) (hl:Cuts xt h v0 ls) (hl50:ls.length<=1000000)
  {K:KP} (hk: ∀m,h.n<m->K (.ret (.tup [.agg [iv (w.pworth ls).1.1,iv (w.pworth ls).1.2],iv (w.pworth ls).2])) (h.up m)):FnA (SE xt) 23 [w.av,v0] h K:=by
 refine xZO ?_ hk;clear hk K;refine xZQ (sok xt) (ft23 xt) rfl 38 rfl ?_;obtain ⟨o1,o2,o3,o4,o5⟩:=ha.ones;refine qA fun K hn hp=> ?_;simp only [sw.1,rE,reduceIte,rL];apply hn;obtain ⟨h1,hh1,n1,s1,k1,f1⟩:=vQ h (.cells w.cs 30);obtain ⟨h3,hh3,n3,s3,k3,f3⟩:=yJ f1 n1 (.cells [iv 0,iv 0] 43);simp only [<-hh1,<-hh3];clear hh1 hh3;have u1:=(k3 h.n (by omega)).trans s1;have ha3:=ha.fr f3 (xZY _);have hl3:=hl.fr f3 (xZY _);simp only [rA] at s3 n3;refine qB fun K hn hp=> ?_;simp only [sy.1,rE,reduceIte,rL,rA,u1];refine cAS (qAD xt _ w ha3 fun m1 hm1=> ?_);cases e1:w.ok
 ·simp only [sy.1,rE,reduceIte,rL];apply hn;refine qW (by simp only [sy.1,rE,reduceIte]) ?_;refine qB fun K hn hp=> ?_;simp only [sw.1,rE,reduceIte,rL,rA,s3,bd43z];apply hn;refine qQ (qBo (v:= .agg [iv 0,iv 0]) res23 ?_ ⟨?_,?_⟩)
  ·simp only [sy.1,rE,reduceIte,rA,s3]
  ·simp [xZZ,Wk.pworth,e1]
  ·exact (f3.up (xZR hm1)).set (by omega) (by simp only [xZT];omega) _
 have his:=Wk.ok_is e1;simp only [sy.1,rE,reduceIte,rL,rA,u1];refine cAS (isCut_c xt _ w (ha3.up (xZR hm1)) his v0 ls (hl3.up (xZR hm1)) fun m2 hm2=> ?_);simp only [xZT] at hm2;cases e2:w.cut ls
 ·simp only [sy.1,rE,reduceIte,rL,xZX];apply hn;refine qW (by simp only [sy.1,rE,reduceIte]) ?_;refine qB fun K hn hp=> ?_;simp only [sw.1,rE,reduceIte,rL,rA,s3,bd43z];apply hn;refine qQ (qBo (v:= .agg [iv 0,iv 0]) res23 ?_ ⟨?_,?_⟩)
  ·simp only [sy.1,rE,reduceIte,rA,s3]
  ·simp [xZZ,Wk.pworth,e1,e2]
  ·exact (f3.up (by omega)).set (by omega) (by simp only [xZT];omega) _
 simp only [sy.1,rE,reduceIte,rL,xZX];apply hn;refine jB (by simp only [sy.1,rE,reduceIte]) ?_;refine qA fun K hn hp=> ?_;simp only [sy.1,rE,reduceIte,rL,rA,u1];have ha3u:=ha3.up (n:=m2) (by omega);refine cAS (FnA.mono (qAY xt (h3.up m2) w ha3u _ _ his.m) fun res h4 hres=> ?_);obtain ⟨f4,hres⟩:=hres;have low4: ∀k,k<m2->h4.t.get k=h3.t.get k:=fun k hk=>f4.at_ k (.inl hk);have v3:=(low4 (h.n+1) (by omega)).trans s3;have n4:m2<=h4.n:=f4.lo;have f4h:Fr h.n h h4:=(f3.up (m:=m2) (by omega)).trans f4 (by simp only [xZT];omega);change match w.m.bnd with|some G=>_|none=>_ at hres
 cases hb:w.m.bnd with
 |none=>
  rw [hb] at hres;subst hres;simp only [sw.1,rE,reduceIte,rL,rA,sv.1];obtain ⟨h5,hh5,n5,s5,k5,f5⟩:=nsE h4 (.cells xR 120) (.cells xR 120);rw [<-hh5];apply hn;clear hh5;have x3:=(k5 (h.n+1) (by omega)).trans v3;refine qB fun K hn hp=> ?_;simp only [sy.1,rE,reduceIte,rL];apply hn;refine qW (by simp only [sy.1,rE,reduceIte,d70]) ?_;refine qB fun K hn hp=> ?_;simp only [sw.1,rE,reduceIte,rL,rA,x3,bd43z];apply hn;refine qQ (qBo (v:= .agg [iv 0,iv 0]) res23 ?_ ⟨?_,?_⟩)
  ·simp only [sy.1,rE,reduceIte,rA,x3]
  ·simp [xZZ,Wk.pworth,e1,e2,hb]
  ·exact (f4h.trans f5 (by omega)).set (by omega) (by omega) _
 |some G=>
  rw [hb] at hres;obtain ⟨v,M,rfl,sg,m1',m2'⟩:=hres;have onev:=sg.one;simp only [sw.1,rE,reduceIte,rL,rA,sv.1,o1,o2,o3,o4,o5,onev];obtain ⟨h5,hh5,n5,s5,k5,f5⟩:=nsE h4 (.cells xR 120) (.cells (w.bc v) 120);rw [<-hh5];apply hn;clear hh5;have f5h:=f4h.trans f5 (by omega);have x3:=(k5 (h.n+1) (by omega)).trans v3;have ha5:=ha.fr f5h (xZY _);have hl5:=hl.fr f5h (xZY _);refine qB fun K hn hp=> ?_;simp only [sy.1,rE,reduceIte,rL];apply hn;refine jB (by simp only [sy.1,rE,reduceIte]) ?_;have hblk:=cut_blk his e2;have hr6:=his.m.r6;have hc8:=his.m.c8;have sg5:SG h5 (h3.up m2).n M v _ _ G:=sg.keep fun k _ hk=>k5 k (by omega);have hpos:=qEW his.m hb;refine jL (sok xt) 0 0 9 [(5,0),(7,0)] (by kernel_rfl) fun K hn hp=> ?_;simp only [sy.1,rE,reduceIte,rL,rA,syw.1,qEC,qEA,s5];refine cAS (total_c xt h5 w ha5 his v onev v0 ls hl5 (fun s hs=>(hblk s hs).isT) hl50 _ (w.give (gLo G)) (fun s hs=>qEJ his (fun r c _ _=>(hpos r c).1) (hblk s hs)) (fun h' s fr hs K hK=> ?_) fun m3 hm3=> ?_)
  ·obtain ⟨r0,c0,q,n,th,wo,rfl,ht,hrn,hcn⟩:=hblk s hs;refine vE (sok xt) (least_c xt h' w (ha5.fr fr (xZY _)) v G _ M _ _ (sg5.fr fr (by omega)) (by have:=fr.le;omega) r0 c0 q n th wo ht.at_ (by omega) (by omega) hrn hcn ht.n3 ht.n1 his.k0 his.k5 ht.h1 ht.h60 (fun i _ j _=>(hpos _ _).1) fun m4 hm4=> ?_);rw [<-Wk.give_q ht];exact hK m4 hm4
  simp only [sy.1,rE,reduceIte,rL,rA,syw.1,qEC,qEA,s5,hm3];refine cAS (total_c xt (h5.up m3) w (ha5.up (xZR hm3)) his v onev v0 ls (hl5.up (xZR hm3)) (fun s hs=>(hblk s hs).isT) hl50 _ (w.give (gHi G)) (fun s hs=>qEJ his (fun r c _ _=>(hpos r c).2) (hblk s hs)) (fun h' s fr hs K hK=> ?_) fun m4 hm4=> ?_)
  ·obtain ⟨r0,c0,q,n,th,wo,rfl,ht,hrn,hcn⟩:=hblk s hs;have le1:=fr.le;simp only [xZT] at le1;refine vE (sok xt) (most_c xt h' w ((ha5.up (xZR hm3)).fr fr (xZY _)) v G _ M _ _ ((sg5.up m3).fr fr (by simp only [xZT];omega)) (by omega) r0 c0 q n th wo ht.at_ (by omega) (by omega) hrn hcn ht.n3 ht.n1 his.k0 his.k5 ht.h1 ht.h60 (fun i _ j _=>(hpos _ _).2) fun m4 hm4=> ?_);rw [<-Wk.give_q ht];exact hK m4 hm4
  simp only [xZT] at hm4;simp only [sw.1,rE,reduceIte,rL,rA,x3,xZX,bd43];refine hn _ _ (qC (qBo (v:= .agg [iv (w.worth (w.give (gLo G)) ls),iv (w.worth (w.give (gHi G)) ls)]) res23 ?_ ⟨?_,?_⟩))
  ·simp only [sy.1,rE,reduceIte,rA,x3]
  ·simp [xZZ,Wk.pworth,e1,e2,hb]
  ·exact (f5h.up (by omega)).set (by omega) (by simp only [xZT];omega) _
def Wk.fit (w:Wk) (ls:List (Int×Int×Int)) (g:Gr):Bool:=w.ok && (w.cut ls && (g.shape w.m && fitsB w.m g))
def Wk.run (w:Wk) (ls:List (Int×Int×Int)) (g:Gr):Int×Int:=if w.fit ls g=true then (w.worth (w.give g.t) ls,0) else (0,2)
set_option maxHeartbeats 4000000
end Go.Proofs.Kn
namespace Go.Proofs.Kn
open Go Go.Ev
end Go.Proofs.Kn
