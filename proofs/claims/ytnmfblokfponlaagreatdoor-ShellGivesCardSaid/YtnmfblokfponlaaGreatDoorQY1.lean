/- MvM2, MvU0: texts in a row, joined by a program. -/
import Derived.Test.YtnmfblokfponlaaGreatDoorQX1
import Derived.Test.YtnmfblokfponlaaGreatDoorQS
import Derived.Test.YtnmfblokfponlaaGreatDoorQR
set_option linter.all false
open Nat renaming reduceEqDiff → rE, reduceLeDiff → rD, reduceAdd → rA, reduceMul → rM, reduceLT → rL
namespace Go.Proofs.Kn
open Go Go.Ev
set_option maxRecDepth 100000
set_option maxHeartbeats 4000000
theorem endsI_c (xt:Addr→Option Value) (h:Hp) (N M R C:Nat) (v:AV) (F:Nat→Nat→Int×Int) (hs:SG h N M v R C F) (hM:M≤h.n) (hR:R≤100) (hC:C≤100) (b:Bool):
  FnA (SE xt) 36 [v,.val (.bool b)] h (fun res h'=> ∃w,res= .ret w∧Fr h.n h h'∧h.n<h'.n∧(⟨w,endL b F R C⟩:Gr).At xt h'):=by
 refine FnA.inc (FnA.mono (ends_c xt h N M R C v F hs hM hR hC b) fun res ka hres=> ?_)
 obtain ⟨w,rfl,f,l⟩:=hres
 have:=f.le
 exact ⟨w,rfl,f.up (Nat.le_succ _),by rw [Hp.up_n];omega,ends_at (l.up (Nat.le_succ _)) hR hC⟩
theorem ft7 (xt:Addr→Option Value):(SE xt).ft.get 7=some Tryz.f7:=by kernel_rfl
theorem res7:Tryz.f7.results.toList=[.tmp 4]:=by kernel_rfl
theorem gives_true (xt:Addr→Option Value) (h:Hp) (w:Wk) (ha:w.At xt h) (s:Int×Int×Int):FnA (SE xt) 7 [w.av,cutv s] h isTrue:=by
 refine FnA.walk (sok xt) (ft7 xt) rfl 92 rfl ?_
 obtain ⟨o1,o2,o3,o4,o5⟩:=ha.ones
 refine seq_reg fun K hn hp=> ?_
 simp only [sw.down,rE,reduceIte,rL,rA,rM,rD,sv.down,al90,o1,o2,o3,o4,o5]
 refine hn _ _ ?_
 clear hn hp K
 obtain ⟨h1,hh1,n1,s1,k1,f1⟩:=newE h (.cells w.cs 30)
 obtain ⟨h2,hh2,n2,s2,k2,f2⟩:=newF f1 n1 (.cells [iv s.1,iv s.2.1,iv s.2.2] 61)
 simp only [sw.down,rE,reduceIte,rL,rA,rM,rD,sv.down,al90,o1,o2,o3,o4,o5,n1,←hh1,←hh2]
 clear hh1 hh2
 have u1:=(k2 h.n (by omega)).trans s1
 have ha2:=ha.fr f2 (Nat.le_refl _)
 simp only [rA] at n2
 refine seq_seq ?_
 refine seq_reg fun K hn hp=> ?_
 simp only [sw.down,rE,reduceIte,rL,rA,rM,rD,sv.down,al90,o1,o2,o3,o4,o5,u1,s2,n2]
 refine callA_func (sok xt) (brief_c xt h2 w ha2 fun m1 hm1=> ?_)
 cases q1:w.brief
 ·simp only [sw.down,rE,reduceIte,rL,rA,rM,rD,sv.down,al90,o1,o2,o3,o4,o5,u1,s2,n2,q1]
  refine hn _ _ ?_
  clear hn hp K
  refine seq_cond true (by simp only [sw.down,rE,reduceIte,rL,rA,rM,rD,sv.down,al90,o1,o2,o3,o4,o5,u1,s2,n2]) (fun _=> ?_) (fun hx=>by cases hx)
  refine seq_seq ?_
  refine seq_reg fun K hn hp=> ?_
  simp only [sw.down,rE,reduceIte,rL,rA,rM,rD,sv.down,al90,o1,o2,o3,o4,o5,u1,s2,n2]
  refine callA_func (sok xt) (known_c xt _ fun m9 hm9=> ?_)
  simp only [sw.down,rE,reduceIte,rL,rA,rM,rD,sv.down,al90,o1,o2,o3,o4,o5,u1,s2,n2]
  refine hn _ _ (seq_ret (end_1 res7 ?_))
  simp [T.get_put,isTrue]
 simp only [sw.down,rE,reduceIte,rL,rA,rM,rD,sv.down,al90,o1,o2,o3,o4,o5,u1,s2,n2,q1]
 refine hn _ _ ?_
 clear hn hp K
 refine seq_cond false (by simp only [sw.down,rE,reduceIte,rL,rA,rM,rD,sv.down,al90,o1,o2,o3,o4,o5,u1,s2,n2]) (fun hx=>by cases hx) (fun _=> ?_)
 refine seq_skip ?_
 refine seq_reg fun K hn hp=> ?_
 simp only [sw.down,rE,reduceIte,rL,rA,rM,rD,sv.down,al90,o1,o2,o3,o4,o5,u1,s2,n2]
 refine callA_func (sok xt) (wcheck_c xt (h2.up m1) w (ha2.up (Nat.le_of_lt hm1)) fun m2 hm2=> ?_)
 simp only [Hp.up_n] at hm2
 simp only [sw.down,rE,reduceIte,rL,rA,rM,rD,sv.down,al90,o1,o2,o3,o4,o5,u1,s2,n2,Hp.up_up]
 refine hn _ _ ?_
 clear hn hp K
 refine seq_reg fun K hn hp=> ?_
 simp only [sw.down,rE,reduceIte,rL,rA,rM,rD,sv.down,al90,o1,o2,o3,o4,o5,u1,s2,n2]
 refine callA_func (sok xt) (gives_c xt (h2.up m2) w (ha2.up (by omega)) s fun m3 hm3=> ?_)
 simp only [Hp.up_n] at hm3
 simp only [sw.down,rE,reduceIte,rL,rA,rM,rD,sv.down,al90,o1,o2,o3,o4,o5,u1,s2,n2,Hp.up_up,ex_tup0,ex_tup1]
 obtain ⟨h3,hh3,n3,s3,k3,f3⟩:=nsE (h2.up m3) (.cells [iv 0,iv 0] 43) (.cells [iv (w.gives s).1.1,iv (w.gives s).1.2] 43)
 simp only [Hp.up_n,Hp.up_t] at hh3 n3 s3 k3 f3
 rw [←hh3]
 refine hn _ _ ?_
 clear hn hp K hh3
 have f3h:=(f2.up (m:=m3) (by omega)).trans f3 (by omega)
 have v1:=(k3 h.n (by omega)).trans u1
 have v2:=(k3 (h.n+1) (by omega)).trans s2
 have ha3:=ha.fr f3h (Nat.le_refl _)
 refine seq_seq ?_
 refine seq_reg fun K hn hp=> ?_
 simp only [sw.down,rE,reduceIte,rL,rA,rM,rD,sv.down,al90,o1,o2,o3,o4,o5,v1,v2,s3]
 refine callA_func (sok xt) (rwork_c xt h3 w ha3 fun m4 hm4=> ?_)
 simp only [sw.down,rE,reduceIte,rL,rA,rM,rD,sv.down,al90,o1,o2,o3,o4,o5,v1,v2,s3]
 refine hn _ _ ?_
 clear hn hp K
 have d7: ∀x:Int,decide (x=x)=true:=fun x=>decide_eq_true rfl
 refine seq_any fun KK hK hX=> ?_
 have rest: ∀tm:T AV,tm.get 2=some (.ptr h.n 0)→tm.get 3=some (.ptr (h.n+1) 0)→tm.get 6=some (.ptr m3 0)→tm.get 7=some (iv (w.gives s).2)→KK .normal ⟨tm,92,h3.up m4,[]⟩:=by
  intro tm g2 g3 g6 g7
  refine hK _ ?_
  clear hX hK KK
  refine seq_reg fun K hn hp=> ?_
  simp only [sw.down,rE,reduceIte,rL,rA,rM,rD,sv.down,al90,o1,o2,o3,o4,o5,v1,v2,s3,g2,g3,g6,g7]
  refine hn _ _ ?_
  clear hn hp K
  refine seq_any fun KK hK hX=> ?_
  have fin: ∀(tm:T AV) (m:Nat),m4≤m→tm.get 2=some (.ptr h.n 0)→tm.get 3=some (.ptr (h.n+1) 0)→tm.get 6=some (.ptr m3 0)→tm.get 7=some (iv (w.gives s).2)→tm.get 9=some (iv (w.gives s).2)→KK .normal ⟨tm,92,h3.up m,[]⟩:=by
   clear g2 g3 g6 g7
   intro tm m hm g2 g3 g6 g7 g9
   refine hK _ ?_
   clear hX hK KK
   refine seq_seq ?_
   by_cases e:(w.gives s).2=0
   ·have de:decide ((w.gives s).2=0)=true:=decide_eq_true e
    refine seq_reg fun K hn hp=> ?_
    simp only [sw.down,rE,reduceIte,rL,rA,rM,rD,sv.down,al90,o1,o2,o3,o4,o5,v1,v2,s3,g2,g3,g6,g7,g9,de]
    refine hn _ _ ?_
    clear hn hp K
    refine seq_cond false (by simp only [sw.down,rE,reduceIte,rL,rA,rM,rD,sv.down,al90,o1,o2,o3,o4,o5,v1,v2,s3,g2,g3,g6,g7,g9,de,Bool.not_true]) (fun hx=>by cases hx) (fun _=> ?_)
    refine seq_skip ?_
    obtain ⟨e1,e2,G,hb,e3,hg⟩:w.ok=true∧w.isT s=true∧ ∃G,w.m.bnd=some G∧w.pcan s=true∧w.gives s=((w.give (gLo G) s,w.give (gHi G) s),0):=by
     simp only [Wk.gives] at e ⊢
     by_cases z:(w.ok && w.isT s)=true
     ·rw [if_pos z] at e ⊢
      obtain ⟨z1,z2⟩:=Bool.and_eq_true_iff.1 z
      cases hb:w.m.bnd with
      |none=>rw [hb] at e;exact absurd (show (7:Int)=0 from e) (by decide)
      |some G=>
       rw [hb] at e
       simp only at e ⊢
       by_cases z3:w.pcan s=true
       ·exact ⟨z1,z2,G,rfl,z3,by rw [if_pos z3]⟩
       ·rw [if_neg z3] at e;exact absurd e (by decide)
     ·rw [if_neg z] at e;exact absurd e (by decide)
    have his:=Wk.ok_is e1
    obtain ⟨q,n,th,wo,hq,ht⟩:=his.tub' e2
    obtain ⟨a,b,c⟩:=s
    simp only at hq
    subst hq
    obtain ⟨r0,c0,rfl,rfl,hrn,hcn⟩:=Wk.pcan_in ht e3
    rw [Wk.give_q ht,Wk.give_q ht] at hg
    have ham:=ha3.up (n:=m) (by omega)
    refine seq_reg fun K hn hp=> ?_
    simp only [sw.down,rE,reduceIte,rL,rA,rM,rD,sv.down,al90,o1,o2,o3,o4,o5,v1,v2,s3,g2,g3,g6,g7,g9]
    refine callA_func (sok xt) (FnA.mono (rthick_c xt (h3.up m) w.m ham.m _ _ his.m rfl) fun res h4 hres=> ?_)
    obtain ⟨v,M,rfl,f4,sg,hM1,hM2⟩:=hres
    rw [Hp.up_n] at f4 sg hM1
    simp only [sw.down,rE,reduceIte,rL,rA,rM,rD,sv.down,al90,o1,o2,o3,o4,o5,v1,v2,s3,g2,g3,g6,g7,g9]
    refine hn _ _ ?_
    clear hn hp K
    have hG:Th.thickR w.m.T w.m.J (w.m.W - 1) w.m.F0 (w.m.gs.map gg) w.m.cells.length (w.m.W+1)=G:=(bnd_some his.m hb).1
    rw [hG] at sg
    have f4h:=(f3h.up (m:=m) (by omega)).trans f4 (by omega)
    have n4:m≤h4.n:=by omega
    have y1:=(f4.at_ h.n (.inl (by omega))).trans v1
    have y2:=(f4.at_ (h.n+1) (.inl (by omega))).trans v2
    have y3:=(f4.at_ m3 (.inl (by omega))).trans s3
    rw [hg] at y3
    have hr6:=his.m.r6
    have hc8:=his.m.c8
    refine seq_regL (sok xt) 0 0 15 [(3,1),(3,2),(3,3),(3,4),(4,1),(5,1),(9,0),(9,1),(9,2),(9,3),(10,0),(10,1),(10,2),(10,3)] (by kernel_rfl) fun K hn hp=> ?_
    have d0:decide ((0:Int)=0)=true:=rfl
    simp only [sw.down,rE,reduceIte,rL,rA,rM,rD,sv.down,al90,o1,o2,o3,o4,o5,g2,g3,g6,g7,g9,y1,y2,y3,hg,d0]
    refine callA_func (sok xt) (FnA.mono (endsI_c xt h4 _ M _ _ v G sg (by omega) (by omega) (by omega) false) fun res h5 hres=> ?_)
    obtain ⟨z1,rfl,f5,lt5,l1⟩:=hres
    have x1:=(f5.at_ h.n (.inl (by omega))).trans y1
    have x2:=(f5.at_ (h.n+1) (.inl (by omega))).trans y2
    have x3:=(f5.at_ m3 (.inl (by omega))).trans y3
    have f5h:=f4h.trans f5 (by omega)
    have n5:=f5.le
    have gl: ∀(b:Bool) (z:AV) (r:Nat),r<w.m.cells.length→((⟨z,endL b G w.m.cells.length w.m.W⟩:Gr).ll.getD r []).length=w.m.W:=fun b z r hr=>by
     show ((endL b G w.m.cells.length w.m.W).getD r []).length=_
     rw [endL_row _ _ hr];simp
    obtain ⟨_,hok,hsub,_⟩:=bnd_some his.m hb
    have hlo: ∀r c,0≤(G r c).1∧0≤(G r c).2:=fun r c=>by
     have q1:=hsub r c
     have q2:=hok r c
     have:0≤(w.m.F0 r c).1:=by simp only [Mp.F0];split<;>simp
     omega
    have tpos: ∀(b:Bool) (z:AV),∀i,i<n→ ∀j,j<n→0≤(⟨z,endL b G w.m.cells.length w.m.W⟩:Gr).t (r0+i) (c0+j):=fun b z i hi j hj=>by
     rw [endL_t z b G (by omega) (by omega)]
     have:=hlo (r0+i) (c0+j)
     cases b
     ·exact this.1
     ·exact this.2
    simp only [sw.down,rE,reduceIte,rL,rA,rM,rD,sv.down,al90,o1,o2,o3,o4,o5,g2,g3,g6,g7,g9,y1,y2,y3,lt5,x1,x2,x3]
    refine callA_func (sok xt) (rslices_c xt h5 w (ha.fr f5h (Nat.le_refl _)) r0 c0 q n th wo ht.at_ ⟨z1,endL false G w.m.cells.length w.m.W⟩ l1 _ _ (by omega) (by omega) (endL_len _ _ _ _) (gl false z1) hrn hcn his.k0 his.k5 ht.h1 ht.h60 (tpos false z1) fun m5 hm5=> ?_)
    rw [blk_lo hrn hcn]
    simp only [sw.down,rE,reduceIte,rL,rA,rM,rD,sv.down,al90,o1,o2,o3,o4,o5,g2,g3,g6,g7,g9,y1,y2,y3,hm5,x1,x2,x3]
    refine callA_func (sok xt) (FnA.mono (endsI_c xt (h5.up m5) _ M _ _ v G ((sg.fr f5 (by omega)).up m5) (by simp only [Hp.up_n];omega) (by omega) (by omega) true) fun res h6 hres=> ?_)
    obtain ⟨z2,rfl,f6,lt6,l2⟩:=hres
    rw [Hp.up_n] at f6 lt6
    have w1:=(f6.at_ h.n (.inl (by omega))).trans x1
    have w2:=(f6.at_ (h.n+1) (.inl (by omega))).trans x2
    have w3:=(f6.at_ m3 (.inl (by omega))).trans x3
    have f6h:=(f5h.up (m:=m5) (by omega)).trans f6 (by omega)
    simp only [sw.down,rE,reduceIte,rL,rA,rM,rD,sv.down,al90,o1,o2,o3,o4,o5,g2,g3,g6,g7,g9,y1,y2,y3,hm5,lt6,x1,x2,x3,w1,w2,w3]
    refine callA_func (sok xt) (rslices_c xt h6 w (ha.fr f6h (Nat.le_refl _)) r0 c0 q n th wo ht.at_ ⟨z2,endL true G w.m.cells.length w.m.W⟩ l2 _ _ (by omega) (by omega) (endL_len _ _ _ _) (gl true z2) hrn hcn his.k0 his.k5 ht.h1 ht.h60 (tpos true z2) fun m6 hm6=> ?_)
    rw [blk_hi hrn hcn]
    simp only [sw.down,rE,reduceIte,rL,rA,rM,rD,sv.down,al90,o1,o2,o3,o4,o5,g2,g3,g6,g7,g9,y1,y2,y3,hm6,hm5,lt6,lt5,x1,x2,x3,w1,w2,w3,bd43,eql43,decide_true,Bool.and_true]
    refine callA_func (sok xt) (known_c xt _ fun m9 hm9=> ?_)
    simp only [sw.down,rE,reduceIte,rL,rA,rM,rD,sv.down,al90,o1,o2,o3,o4,o5,g2,g3,g6,g7,g9,y1,y2,y3]
    refine hn _ _ (wpc_ret (end_1 res7 ?_))
    simp [T.get_put,isTrue]
   ·have de:decide ((w.gives s).2=0)=false:=decide_eq_false e
    have e0:(w.gives s).1=(0,0):=by
     simp only [Wk.gives] at e ⊢
     split
     ·split
      ·rfl
      ·split
       ·exfalso;apply e;simp [*]
       ·rfl
     ·rfl
    rw [e0] at s3
    simp only at s3
    refine seq_reg fun K hn hp=> ?_
    simp only [sw.down,rE,reduceIte,rL,rA,rM,rD,sv.down,al90,o1,o2,o3,o4,o5,v1,v2,s3,g2,g3,g6,g7,g9,de]
    refine hn _ _ ?_
    clear hn hp K
    refine seq_cond true (by simp only [sw.down,rE,reduceIte,rL,rA,rM,rD,sv.down,al90,o1,o2,o3,o4,o5,v1,v2,s3,g2,g3,g6,g7,g9,de,Bool.not_false]) (fun _=> ?_) (fun hx=>by cases hx)
    refine seq_seq ?_
    refine seq_reg fun K hn hp=> ?_
    simp only [sw.down,rE,reduceIte,rL,rA,rM,rD,sv.down,al90,o1,o2,o3,o4,o5,v1,v2,s3,g2,g3,g6,g7,g9,d7,bd43z,eql43,decide_true,Bool.and_true]
    refine callA_func (sok xt) (known_c xt _ fun m9 hm9=> ?_)
    simp only [sw.down,rE,reduceIte,rL,rA,rM,rD,sv.down,al90,o1,o2,o3,o4,o5,v1,v2,s3,g2,g3,g6,g7,g9]
    refine hn _ _ (seq_ret (end_1 res7 ?_))
    simp [T.get_put,isTrue]
  have ha4:=ha3.up (n:=m4) (by omega)
  refine seq_reg fun K hn hp=> ?_
  simp only [sw.down,rE,reduceIte,rL,rA,rM,rD,sv.down,al90,o1,o2,o3,o4,o5,v1,v2,s3,g2,g3,g6,g7]
  refine callA_func (sok xt) (rwork_c xt (h3.up m4) w ha4 fun m5 hm5=> ?_)
  simp only [Hp.up_n] at hm5
  cases e1:w.ok
  ·simp only [sw.down,rE,reduceIte,rL,rA,rM,rD,sv.down,al90,o1,o2,o3,o4,o5,v1,v2,s3,g2,g3,g6,g7,e1,Hp.up_up]
   refine hn _ _ ?_
   clear hn hp K
   refine wpc_cond true (by simp only [sw.down,rE,reduceIte,rL,rA,rM,rD,sv.down,al90,o1,o2,o3,o4,o5,v1,v2,s3,g2,g3,g6,g7]) (fun _=> ?_) (fun hx=>by cases hx)
   refine reg fun K hn hp=> ?_
   simp only [sw.down,rE,reduceIte,rL,rA,rM,rD,sv.down,al90,o1,o2,o3,o4,o5,v1,v2,s3,g2,g3,g6,g7]
   refine hn _ _ ?_
   clear hn hp K
   refine fin _ m5 (by omega) ?_ ?_ ?_ ?_ ?_
   all_goals simp [T.get_put,g2,g3,g6,g7,Wk.gives,e1]
  simp only [sw.down,rE,reduceIte,rL,rA,rM,rD,sv.down,al90,o1,o2,o3,o4,o5,v1,v2,s3,g2,g3,g6,g7,e1,Hp.up_up]
  refine callA_func (sok xt) (rtube_c xt (h3.up m5) w (ha3.up (by omega)) s.2.2 fun m6 hm6=> ?_)
  simp only [Hp.up_n] at hm6
  cases e2:inB s.2.2 0 ((w.ts.length:Int) - 1)
  ·simp only [sw.down,rE,reduceIte,rL,rA,rM,rD,sv.down,al90,o1,o2,o3,o4,o5,v1,v2,s3,g2,g3,g6,g7,e1,e2,Hp.up_up]
   refine hn _ _ ?_
   clear hn hp K
   refine wpc_cond true (by simp only [sw.down,rE,reduceIte,rL,rA,rM,rD,sv.down,al90,o1,o2,o3,o4,o5,v1,v2,s3,g2,g3,g6,g7]) (fun _=> ?_) (fun hx=>by cases hx)
   refine reg fun K hn hp=> ?_
   simp only [sw.down,rE,reduceIte,rL,rA,rM,rD,sv.down,al90,o1,o2,o3,o4,o5,v1,v2,s3,g2,g3,g6,g7]
   refine hn _ _ ?_
   clear hn hp K
   refine fin _ m6 (by omega) ?_ ?_ ?_ ?_ ?_
   all_goals simp [T.get_put,g2,g3,g6,g7,Wk.gives,e1,Wk.isT,e2]
  simp only [sw.down,rE,reduceIte,rL,rA,rM,rD,sv.down,al90,o1,o2,o3,o4,o5,v1,v2,s3,g2,g3,g6,g7,e1,e2,Hp.up_up]
  refine hn _ _ ?_
  clear hn hp K
  refine wpc_cond false (by simp only [sw.down,rE,reduceIte,rL,rA,rM,rD,sv.down,al90,o1,o2,o3,o4,o5,v1,v2,s3,g2,g3,g6,g7]) (fun hx=>by cases hx) (fun _=> ?_)
  have his:=Wk.ok_is e1
  refine seq_reg fun K hn hp=> ?_
  simp only [sw.down,rE,reduceIte,rL,rA,rM,rD,sv.down,al90,o1,o2,o3,o4,o5,v1,v2,s3,g2,g3,g6,g7]
  refine callA_func (sok xt) (rposs_c xt (h3.up m6) w.m (ha3.up (n:=m6) (by omega)).m his.m fun m7 hm7=> ?_)
  simp only [Hp.up_n] at hm7
  have hp0:=rposs_bnd his.m
  cases e3:w.m.rposs
  ·simp only [sw.down,rE,reduceIte,rL,rA,rM,rD,sv.down,al90,o1,o2,o3,o4,o5,v1,v2,s3,g2,g3,g6,g7,e3,Hp.up_up]
   refine hn _ _ ?_
   clear hn hp K
   refine wpc_cond true (by simp only [sw.down,rE,reduceIte,rL,rA,rM,rD,sv.down,al90,o1,o2,o3,o4,o5,v1,v2,s3,g2,g3,g6,g7]) (fun _=> ?_) (fun hx=>by cases hx)
   refine reg fun K hn hp=> ?_
   simp only [sw.down,rE,reduceIte,rL,rA,rM,rD,sv.down,al90,o1,o2,o3,o4,o5,v1,v2,s3,g2,g3,g6,g7]
   refine hn _ _ ?_
   clear hn hp K
   rw [e3] at hp0
   have hb:w.m.bnd=none:=Option.isNone_iff_eq_none.1 (by simpa using hp0.symm)
   refine fin _ m7 (by omega) ?_ ?_ ?_ ?_ ?_
   all_goals simp [T.get_put,g2,g3,g6,g7,Wk.gives,e1,Wk.isT,e2,hb]
  simp only [sw.down,rE,reduceIte,rL,rA,rM,rD,sv.down,al90,o1,o2,o3,o4,o5,v1,v2,s3,g2,g3,g6,g7,e3,Hp.up_up]
  refine hn _ _ ?_
  clear hn hp K
  refine wpc_cond false (by simp only [sw.down,rE,reduceIte,rL,rA,rM,rD,sv.down,al90,o1,o2,o3,o4,o5,v1,v2,s3,g2,g3,g6,g7]) (fun hx=>by cases hx) (fun _=> ?_)
  rw [e3] at hp0
  obtain ⟨G,hb⟩:=Option.isSome_iff_exists.1 hp0.symm
  obtain ⟨q,n,th,wo,hq,ht⟩:=his.tub' (s:=s) e2
  obtain ⟨a,b,c⟩:=s
  simp only at hq
  subst hq
  have hr6:=his.m.r6
  have hc8:=his.m.c8
  refine seq_reg fun K hn hp=> ?_
  simp only [sw.down,rE,reduceIte,rL,rA,rM,rD,sv.down,al90,o1,o2,o3,o4,o5,v1,v2,s3,g2,g3,g6,g7]
  refine callA_func (sok xt) (rcan_c xt (h3.up m7) w (ha3.up (by omega)) _ _ his.m rfl a b q n th wo ht.at_ ht.n3 fun m8 hm8=> ?_)
  simp only [Hp.up_n] at hm8
  rw [rcan_same his.rc _ _ _ _ _ (by omega) (by omega),←Wk.pcan_q ht]
  cases e4:w.pcan (a,b,(q:Int))
  ·simp only [sw.down,rE,reduceIte,rL,rA,rM,rD,sv.down,al90,o1,o2,o3,o4,o5,v1,v2,s3,g2,g3,g6,g7,e4,Hp.up_up]
   refine hn _ _ ?_
   clear hn hp K
   refine wpc_cond true (by simp only [sw.down,rE,reduceIte,rL,rA,rM,rD,sv.down,al90,o1,o2,o3,o4,o5,v1,v2,s3,g2,g3,g6,g7]) (fun _=> ?_) (fun hx=>by cases hx)
   refine reg fun K hn hp=> ?_
   simp only [sw.down,rE,reduceIte,rL,rA,rM,rD,sv.down,al90,o1,o2,o3,o4,o5,v1,v2,s3,g2,g3,g6,g7]
   refine hn _ _ ?_
   clear hn hp K
   refine fin _ m8 (by omega) ?_ ?_ ?_ ?_ ?_
   all_goals simp [T.get_put,g2,g3,g6,g7,Wk.gives,e1,Wk.isT,e2,hb,e4]
  simp only [sw.down,rE,reduceIte,rL,rA,rM,rD,sv.down,al90,o1,o2,o3,o4,o5,v1,v2,s3,g2,g3,g6,g7,e4,Hp.up_up]
  refine hn _ _ ?_
  clear hn hp K
  refine wpc_cond false (by simp only [sw.down,rE,reduceIte,rL,rA,rM,rD,sv.down,al90,o1,o2,o3,o4,o5,v1,v2,s3,g2,g3,g6,g7]) (fun hx=>by cases hx) (fun _=> ?_)
  refine wpc_skip (fin _ m8 (by omega) ?_ ?_ ?_ ?_ ?_)
  all_goals simp [T.get_put,g2,g3,g6,g7,Wk.gives,e1,Wk.isT,e2,hb,e4]
 refine seq_reg fun K hn hp=> ?_
 cases e1:w.ok
 ·have hg:(w.gives s).2=2:=by simp [Wk.gives,e1]
  have e0:(if false=true then (0:Int) else 2)=2:=rfl
  simp only [sw.down,rE,reduceIte,rL,rA,rM,rD,sv.down,al90,o1,o2,o3,o4,o5,v1,v2,s3,e1,e0,d22,d20]
  refine hn _ _ ?_
  clear hn hp K
  refine wpc_cond false (by simp only [sw.down,rE,reduceIte,rL,rA,rM,rD,sv.down,al90,o1,o2,o3,o4,o5,v1,v2,s3]) (fun hx=>by cases hx) (fun _=> ?_)
  refine wpc_skip (rest _ ?_ ?_ ?_ ?_)
  all_goals simp [T.get_put]
 ·have e0:(if true=true then (0:Int) else 2)=0:=rfl
  simp only [sw.down,rE,reduceIte,rL,rA,rM,rD,sv.down,al90,o1,o2,o3,o4,o5,v1,v2,s3,e1,e0,d22,d20,d00]
  refine hn _ _ ?_
  clear hn hp K
  refine wpc_cond false (by simp only [sw.down,rE,reduceIte,rL,rA,rM,rD,sv.down,al90,o1,o2,o3,o4,o5,v1,v2,s3]) (fun hx=>by cases hx) (fun _=> ?_)
  refine wpc_skip (rest _ ?_ ?_ ?_ ?_)
  all_goals simp [T.get_put]
end Go.Proofs.Kn
noncomputable section
namespace Go.Proofs.Kn
open Go Go.Ev Go.RowKit Go.ChangeShapes Go.WideShapes Go.ChangeAt
set_option maxRecDepth 100000
theorem und30:Tryz.prog.underlying 30=some (.struct (fieldsOf 30)):=by kernel_rfl
theorem und28:Tryz.prog.underlying 28=some (.slice 90):=by kernel_rfl
theorem und90:Tryz.prog.underlying 90=some (.struct (fieldsOf 90)):=by kernel_rfl
theorem und61:Tryz.prog.underlying 61=some (.struct (fieldsOf 61)):=by kernel_rfl
theorem co30:Tryz.prog.cellsOf 30=8:=by kernel_rfl
theorem co28:Tryz.prog.cellsOf 28=1:=by kernel_rfl
theorem co90:Tryz.prog.cellsOf 90=3:=by kernel_rfl
theorem co61:Tryz.prog.cellsOf 61=3:=by kernel_rfl
theorem f30_0:((fieldsOf 30)[0]?).map (fun f=>(f.type,f.offset))=some (27,0):=by kernel_rfl
theorem f30_1:((fieldsOf 30)[1]?).map (fun f=>(f.type,f.offset))=some (28,6):=by kernel_rfl
theorem f30_2:((fieldsOf 30)[2]?).map (fun f=>(f.type,f.offset))=some (3,7):=by kernel_rfl
theorem f90_0:((fieldsOf 90)[0]?).map (fun f=>(f.type,f.offset))=some (3,0):=by kernel_rfl
theorem f90_1:((fieldsOf 90)[1]?).map (fun f=>(f.type,f.offset))=some (3,1):=by kernel_rfl
theorem f90_2:((fieldsOf 90)[2]?).map (fun f=>(f.type,f.offset))=some (3,2):=by kernel_rfl
theorem f61_0:((fieldsOf 61)[0]?).map (fun f=>(f.type,f.offset))=some (3,0):=by kernel_rfl
theorem f61_1:((fieldsOf 61)[1]?).map (fun f=>(f.type,f.offset))=some (3,1):=by kernel_rfl
theorem f61_2:((fieldsOf 61)[2]?).map (fun f=>(f.type,f.offset))=some (3,2):=by kernel_rfl
section
variable {H:Type} {enc:TypeId×Value→H} {w:World} {base:Nat} {sp:Nat→Bool} {held:Bool}
theorem dec_three {t:TypeId} (hu:Tryz.prog.underlying t=some (.struct (fieldsOf t))) (hc:Tryz.prog.cellsOf t=3) (g0:((fieldsOf t)[0]?).map (fun f=>(f.type,f.offset))=some (3,0)) (g1:((fieldsOf t)[1]?).map (fun f=>(f.type,f.offset))=some (3,1)) (g2:((fieldsOf t)[2]?).map (fun f=>(f.type,f.offset))=some (3,2))
  {n:Nat} {c:List Value} {y:DataW H×List MemPlace} (h:DataW.trod enc Tryz.prog w base sp held n t c=some y): ∃a:Int×Int×Int,c=Kn.t3 a:=by
 have hl:=struct_len hu h
 rw [hc] at hl
 obtain ⟨_,_,h0⟩:=read_field hu h 0 g0
 obtain ⟨_,_,h1⟩:=read_field hu h 1 g1
 obtain ⟨_,_,h2⟩:=read_field hu h 2 g2
 obtain ⟨a,e0⟩:=dec_int h0
 obtain ⟨b,e1⟩:=dec_int h1
 obtain ⟨d,e2⟩:=dec_int h2
 rw [co3] at e0 e1 e2
 match c,hl with
 |[x,y,z],_=>
  simp at e0 e1 e2
  exact ⟨(a,b,d),by simp [Kn.t3,e0,e1,e2]⟩
theorem read_work {t:Value} {d:DataW H} {ps:List MemPlace} {r:Reach} {b0:Nat} (hval:Value.okWide Tryz.prog w r b0 30 t) (hd:DataW.Trod enc Tryz.prog w base sp held 30 t d ps) (h':Hp):
  ∃k:Wk,k.At w.cell? h'∧ ∀c,R c k.av t:=by
 obtain ⟨cs,rfl⟩: ∃cs,t= .agg cs:=by
  unfold Value.okWide at hval
  rw [und30] at hval
  obtain ⟨cs,rfl,_⟩:=hval
  exact ⟨cs,rfl⟩
 obtain ⟨fuel,hf⟩:=hd
 change DataW.trod enc Tryz.prog w base sp held fuel 30 cs.toList=_ at hf
 have hl:=struct_len und30 hf
 rw [co30] at hl
 obtain ⟨_,_,h0⟩:=read_field und30 hf 0 f30_0
 obtain ⟨_,_,h1⟩:=read_field und30 hf 1 f30_1
 obtain ⟨_,_,h2⟩:=read_field und30 hf 2 f30_2
 obtain ⟨m,v1,v2,v3,v4,ha,e1,e2,e3,e4,hcs⟩:=read_mapc h0 h'
 obtain ⟨v5,l5,e5,hl5,hr5⟩:=read_slice Kn.t3 und28 co90 (by omega) h1 (fun _=>rfl) (fun _ _ _ h=>dec_three und90 co90 f90_0 f90_1 f90_2 h) h'
 obtain ⟨b,e6⟩:=dec_int h2
 rw [co27] at hcs
 rw [co28] at e5
 rw [co3] at e6
 refine ⟨⟨m,.val v5,l5,b⟩,⟨ha,hr5,hl5⟩,fun cx=> ?_⟩
 have:cs=[v1,.int .i64 m.T,.int .i64 m.H,v2,v3,v4,v5,.int .i64 b].toArray:=by
  apply Array.ext'
  match hq:cs.toList,hl with
  |[x0,x1,x2,x3,x4,x5,x6,x7],_=>
   rw [hq] at hcs e5 e6
   simp at hcs e5 e6
   simp [hcs,e5,e6]
 subst this
 simp only [R]
 exact ⟨_,rfl,by simp [Wk.cs,RL,R,e1,e2,e3,e4]⟩
theorem read_blank {t:Value} {d:DataW H} {ps:List MemPlace} {r:Reach} {b0:Nat} (hval:Value.okWide Tryz.prog w r b0 61 t) (hd:DataW.Trod enc Tryz.prog w base sp held 61 t d ps):
  ∃s:Int×Int×Int,∀c,R c (cutv s) t:=by
 obtain ⟨cs,rfl⟩: ∃cs,t= .agg cs:=by
  unfold Value.okWide at hval
  rw [und61] at hval
  obtain ⟨cs,rfl,_⟩:=hval
  exact ⟨cs,rfl⟩
 obtain ⟨fuel,hf⟩:=hd
 change DataW.trod enc Tryz.prog w base sp held fuel 61 cs.toList=_ at hf
 obtain ⟨s,hs⟩:=dec_three und61 co61 f61_0 f61_1 f61_2 hf
 refine ⟨s,fun cx=> ?_⟩
 have:cs=[.int .i64 s.1,.int .i64 s.2.1,.int .i64 s.2.2].toArray:=by apply Array.ext';exact hs
 subst this
 simp only [R]
 exact ⟨_,rfl,by simp [RL,R]⟩
end
end Go.Proofs.Kn
end
