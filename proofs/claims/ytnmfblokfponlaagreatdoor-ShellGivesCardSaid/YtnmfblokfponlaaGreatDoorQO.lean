/- MvH5: texts in a row, joined by a program. -/
import Derived.Test.YtnmfblokfponlaaGreatDoorQN
set_option linter.all false
open Nat renaming reduceEqDiff → rE, reduceLeDiff → rD, reduceAdd → rA, reduceMul → rM, reduceLT → rL
namespace Go.Proofs.Kn
open Go Go.Ev
set_option maxRecDepth 100000
theorem ft49 (xt:Addr→Option Value):(SE xt).ft.get 49=some Tryz.f49:=by kernel_rfl
theorem res49:Tryz.f49.results.toList=[.tmp 4]:=by kernel_rfl
def rfitAt (m:Mp) (t:List Int) (r c:Nat):Bool:=
 if m.rc r c=1 then decide (t.getD c 0=0) else inB (t.getD c 0) 0 60 && !(!decide (m.rc r (c+1:Nat)=1) && !inB (t.getD (c+1) 0) (t.getD c 0 - m.T) (t.getD c 0))
def rgaugeOk (g:Gr) (x:Int×Int×Int×Int):Bool:=inB (g.cell x.1 x.2.1) (x.2.2.1 - x.2.2.2) (x.2.2.1+x.2.2.2)
def rfitRow (m:Mp) (g:Gr) (r:Nat):Bool:=(List.range m.W).all (rfitAt m (g.ll.getD r []) r)
def rfitsB (m:Mp) (g:Gr):Bool:=(List.range m.cells.length).all (rfitRow m g) && m.gs.all (rgaugeOk g)
theorem rc_at {m:Mp} {R C:Nat} (hm:m.Is R C) {r c:Nat} (hr:r<R):m.rc r c=if c<C then m.cell r c else 1:=by
 have h1:=hm.hR
 have h2:=hm.hC r hr
 simp only [Mp.rc,Int.toNat_natCast,h2,inB,Mp.R,h1,Mp.cell]
 have e1:decide ((0:Int)≤(r:Int))=true:=decide_eq_true (by omega)
 have e2:decide ((r:Int)≤(R:Int) - 1)=true:=decide_eq_true (by omega)
 have e3:decide ((0:Int)≤(c:Int))=true:=decide_eq_true (by omega)
 rw [e1,e2,e3]
 by_cases hc:c<C
 ·have e4:decide ((c:Int)≤(C:Int) - 1)=true:=decide_eq_true (by omega)
  rw [e4,if_pos hc];rfl
 ·have e4:decide ((c:Int)≤(C:Int) - 1)=false:=decide_eq_false (by omega)
  rw [e4,if_neg hc];rfl
theorem rfits_c (xt:Addr→Option Value) (h:Hp) (m:Mp) (ha:m.At xt h) (g:Gr) (hg:g.At xt h) (R C:Nat) (hm:m.Is R C) (hW:m.W=C) (hgl:g.ll.length=R) (hgr: ∀r,r<R→(g.ll.getD r []).length=C) {K:CR→Hp→Prop} (hk: ∀n,h.n<n→K (.ret (.val (.bool (rfitsB m g)))) (h.up n)):FnA (SE xt) 49 [m.av,g.v] h K:=by
 refine FnA.calm ?_ hk
 clear hk K
 refine FnA.walk (sok xt) (ft49 xt) rfl 95 rfl ?_
 obtain ⟨o1,o2,o3,o4,o5⟩:=ha.wk.ones
 have hR:=hm.hR
 have hC8:=hm.c8
 have hR6:=hm.r6
 have hT:=hm.T
 refine seq_reg fun K hn hp=> ?_
 simp only [sw.down,rE,reduceIte,rL,rA,rM,rD,sv.down,o1,o2,o3,o4,lt_dec]
 refine hn _ _ ?_
 clear hn hp K
 obtain ⟨h1,hh1⟩: ∃h1:Hp,h1=h.new (.cells m.cs 27):=⟨_,rfl⟩
 rw [←hh1]
 have nh1:h1.n=h.n+1:=by rw [hh1];rfl
 have sh1:h1.t.get h.n=some (.cells m.cs 27):=by rw [hh1];exact new_at _ _
 have kh1: ∀k,k<h.n→h1.t.get k=h.t.get k:=fun k hk=>by rw [hh1];exact new_lt _ _ hk
 have fbh1:Fr h.n h h1:=by rw [hh1];exact (Fr.refl (Nat.le_refl _)).new _
 have fh1:=fbh1
 have ha1:=ha.fr fh1 (Nat.le_refl _)
 have hg1:=hg.fr fh1 (Nat.le_refl _)
 have retF: ∀(n:Nat) (tm:T AV),h1.n≤n→tm.get 4=some (.val (.bool false))→rfitsB m g=false→endK (SE xt) Tryz.f49 (fun r h'=>r= .ret (.val (.bool (rfitsB m g)))∧Fr h.n h h') .ret ⟨tm,95,h1.up n,[]⟩:=fun n tm hn g hm=>end_1 res49 ⟨by simp [g,hm],fh1.up hn⟩
 refine seq_seq ?_
 refine seq_reg fun K hn hp=> ?_
 simp only [sw.down,rE,reduceIte,rL,rA,rM,rD,sv.down,o1,o2,o3,o4,lt_dec,sh1,nh1]
 refine hn _ _ ?_
 clear hn hp K
 refine seq_block fun KA A1 A2 A3 A4 A5=> ?_
 refine wpc_loop (sok xt) (fun st=> ∃(r:Nat) (n:Nat) (tm:T AV),st=⟨tm,95,h1.up n,[]⟩∧r≤R∧tm.get 1=some (g.v)∧tm.get 2=some (.ptr h.n 0)∧tm.get 5=some (iv r)∧h1.n≤n∧ ∀j,j<r→rfitRow m g j=true) (fun st=>R - (match st.tm.get 5 with|some (.val (.int _ n))=>n.toNat|_=>0)) ?_ ?_
 ·rintro st ⟨r,n,tm,rfl,hkA,g1,g2,g5,hn1,hrows⟩
  have muA:=g5
  refine seq_seq ?_
  refine seq_reg fun K hn hp=> ?_
  simp only [sw.down,rE,reduceIte,rL,rA,rM,rD,sv.down,o1,o2,o3,o4,lt_dec,sh1,nh1,g1,g2,g5]
  refine callA_func (sok xt) (rows_c xt _ m (ha1.up hn1) fun n2 hn2=> ?_)
  simp only [Hp.up_n] at hn2
  simp only [sw.down,rE,reduceIte,rL,rA,rM,rD,sv.down,o1,o2,o3,o4,lt_dec,sh1,nh1,g1,g2,g5,Hp.up_up,hR]
  refine hn _ _ ?_
  clear hn hp K
  by_cases hr:r<R
  ·refine seq_cond true (by simp only [sw.down,rE,reduceIte,rL,rA,rM,rD,sv.down,o1,o2,o3,o4,lt_dec,sh1,nh1,g1,g2,g5,hr]) (fun _=> ?_) (fun hx=>by cases hx)
   obtain ⟨v,i1,i2,i3,i4⟩:=hg1.rowD (i:=r) (by omega)
   obtain ⟨t,ht⟩: ∃t,t=g.ll.getD r []:=⟨_,rfl⟩
   have htC:=hgr r hr
   rw [←ht] at i3 i4 htC
   have noR: ∀c,c<C→rfitAt m t r c=false→rfitsB m g=false:=fun c hc hf=>by
    have q:rfitRow m g r=false:=range_no (k:=c) (by omega) (by rw [←ht];exact hf)
    show ((List.range m.cells.length).all (rfitRow m g) && _)=false
    rw [range_no (k:=r) (by omega) q];rfl
   refine seq_skip ?_
   refine seq_block fun KB B1 B2 B3 B4 B5=> ?_
   refine seq_reg fun K hn hp=> ?_
   simp only [sw.down,rE,reduceIte,rL,rA,rM,rD,sv.down,o1,o2,o3,o4,lt_dec,sh1,nh1,g1,g2,g5,i1,i2,i4]
   refine hn _ _ ?_
   clear hn hp K
   refine wpc_block fun KD D1 D2 D3 D4 D5=> ?_
   refine wpc_loop (sok xt) (fun st=> ∃(c:Nat) (nc:Nat) (tm:T AV),st=⟨tm,95,h1.up nc,[]⟩∧c≤C∧tm.get 1=some (g.v)∧tm.get 2=some (.ptr h.n 0)∧tm.get 5=some (iv r)∧tm.get 6=some (iv c)∧h1.n≤nc∧ ∀j,j<c→rfitAt m t r j=true) (fun st=>C - (match st.tm.get 6 with|some (.val (.int _ n))=>n.toNat|_=>0)) ?_ ?_
   ·rintro st ⟨c,nc,tm,rfl,hkD,g1,g2,g5,g6,hn3,hcols⟩
    have muD:=g6
    refine seq_seq ?_
    refine seq_reg fun K hn hp=> ?_
    simp only [sw.down,rE,reduceIte,rL,rA,rM,rD,sv.down,o1,o2,o3,o4,lt_dec,sh1,nh1,g1,g2,g5,i1,i2,i4,g6]
    refine callA_func (sok xt) (cols_c xt _ m (ha1.up hn3) fun n4 hn4=> ?_)
    simp only [Hp.up_n] at hn4
    simp only [sw.down,rE,reduceIte,rL,rA,rM,rD,sv.down,o1,o2,o3,o4,lt_dec,sh1,nh1,g1,g2,g5,i1,i2,i4,g6,Hp.up_up,hW]
    refine hn _ _ ?_
    clear hn hp K
    by_cases hc:c<C
    ·refine seq_cond true (by simp only [sw.down,rE,reduceIte,rL,rA,rM,rD,sv.down,o1,o2,o3,o4,lt_dec,sh1,nh1,g1,g2,g5,i1,i2,i4,g6,hc]) (fun _=> ?_) (fun hx=>by cases hx)
     obtain ⟨x1,x2⟩:=(i3.m75 (k:=c) (by omega))
     refine seq_skip ?_
     refine seq_block fun KE E1 E2 E3 E4 E5=> ?_
     refine seq_reg fun K hn hp=> ?_
     simp only [sw.down,rE,reduceIte,rL,rA,rM,rD,sv.down,o1,o2,o3,o4,lt_dec,sh1,nh1,g1,g2,g5,i1,i2,i4,g6,x1,x2]
     refine hn _ _ ?_
     clear hn hp K
     refine seq_seq ?_
     refine seq_reg fun K hn hp=> ?_
     simp only [sw.down,rE,reduceIte,rL,rA,rM,rD,sv.down,o1,o2,o3,o4,lt_dec,sh1,nh1,g1,g2,g5,i1,i2,i4,g6,x1,x2]
     refine callA_func (sok xt) (rc_c xt _ m (ha1.up (by omega)) r c fun n5 hn5=> ?_)
     simp only [Hp.up_n] at hn5
     simp only [sw.down,rE,reduceIte,rL,rA,rM,rD,sv.down,o1,o2,o3,o4,lt_dec,sh1,nh1,g1,g2,g5,i1,i2,i4,g6,x1,x2,Hp.up_up]
     refine hn _ _ ?_
     clear hn hp K
     have nextE: ∀(tm:T AV) (n:Nat),h1.n≤n→rfitAt m t r c=true→tm.get 1=some g.v→tm.get 2=some (.ptr h.n 0)→tm.get 5=some (iv r)→tm.get 6=some (iv c)→KE (.exit 3) ⟨tm,95,h1.up n,[]⟩:=by
      intro tm n hn hfit g1 g2 g5 g6
      refine E2 _ ?_
      refine reg fun K hn hp=> ?_
      simp only [sw.down,rE,reduceIte,rL,rA,rM,rD,sv.down,o1,o2,o3,o4,lt_dec,sh1,nh1,g1,g2,g5,i1,i2,i4,g6,x1,x2,wrap_succ hc (show C≤9223372036854775807 by omega)]
      refine hn _ _ ?_
      clear hn hp K
      refine ⟨⟨c+1,n,_,rfl,by omega,(by simp [T.get_put,g1,g2,g5,g6]),(by simp [T.get_put,g1,g2,g5,g6]),(by simp [T.get_put,g1,g2,g5,g6]),(by simp [T.get_put,g1,g2,g5,g6]),hn,fun j hj=> ?_⟩,by simpa [T.get_put,muD] using (by omega:C - (c+1)<C - c)⟩
      by_cases e:j=c
      ·rw [e];exact hfit
      ·exact hcols j (by omega)
     have nextN: ∀(tm:T AV) (n:Nat),h1.n≤n→rfitAt m t r c=true→tm.get 1=some g.v→tm.get 2=some (.ptr h.n 0)→tm.get 5=some (iv r)→tm.get 6=some (iv c)→KE .normal ⟨tm,95,h1.up n,[]⟩:=by
      intro tm n hn hfit g1 g2 g5 g6
      refine E1 _ ?_
      refine reg fun K hn hp=> ?_
      simp only [sw.down,rE,reduceIte,rL,rA,rM,rD,sv.down,o1,o2,o3,o4,lt_dec,sh1,nh1,g1,g2,g5,i1,i2,i4,g6,x1,x2,wrap_succ hc (show C≤9223372036854775807 by omega)]
      refine hn _ _ ?_
      clear hn hp K
      refine ⟨⟨c+1,n,_,rfl,by omega,(by simp [T.get_put,g1,g2,g5,g6]),(by simp [T.get_put,g1,g2,g5,g6]),(by simp [T.get_put,g1,g2,g5,g6]),(by simp [T.get_put,g1,g2,g5,g6]),hn,fun j hj=> ?_⟩,by simpa [T.get_put,muD] using (by omega:C - (c+1)<C - c)⟩
      by_cases e:j=c
      ·rw [e];exact hfit
      ·exact hcols j (by omega)
     by_cases b1:m.rc r c=1
     ·refine seq_cond true (by simp only [sw.down,rE,reduceIte,rL,rA,rM,rD,sv.down,o1,o2,o3,o4,lt_dec,sh1,nh1,g1,g2,g5,i1,i2,i4,g6,x1,x2,decide_eq_true b1]) (fun _=> ?_) (fun hx=>by cases hx)
      refine seq_seq ?_
      refine seq_seq ?_
      refine seq_reg fun K hn hp=> ?_
      simp only [sw.down,rE,reduceIte,rL,rA,rM,rD,sv.down,o1,o2,o3,o4,lt_dec,sh1,nh1,g1,g2,g5,i1,i2,i4,g6,x1,x2]
      refine hn _ _ ?_
      clear hn hp K
      cases b2:decide (t.getD c 0=0)
      ·refine seq_cond true (by simp only [sw.down,rE,reduceIte,rL,rA,rM,rD,sv.down,o1,o2,o3,o4,lt_dec,sh1,nh1,g1,g2,g5,i1,i2,i4,g6,x1,x2,b2]) (fun _=> ?_) (fun hx=>by cases hx)
       refine seq_seq ?_
       refine seq_reg fun K hn hp=> ?_
       simp only [sw.down,rE,reduceIte,rL,rA,rM,rD,sv.down,o1,o2,o3,o4,lt_dec,sh1,nh1,g1,g2,g5,i1,i2,i4,g6,x1,x2]
       refine hn _ _ ?_
       clear hn hp K
       refine seq_ret (E4 _ (D4 _ (B4 _ (A4 _ (retF _ _ (by omega) (by simp [T.get_put]) (noR c hc (by simp only [rfitAt,if_pos b1,b2])))))))
      ·refine seq_cond false (by simp only [sw.down,rE,reduceIte,rL,rA,rM,rD,sv.down,o1,o2,o3,o4,lt_dec,sh1,nh1,g1,g2,g5,i1,i2,i4,g6,x1,x2,b2]) (fun hx=>by cases hx) (fun _=> ?_)
       refine seq_skip ?_
       refine seq_exit (nextE _ _ (by omega) (by simp only [rfitAt,if_pos b1,b2]) ?_ ?_ ?_ ?_)
       all_goals simp [T.get_put,g1,g2,g5,g6]
     ·refine seq_cond false (by simp only [sw.down,rE,reduceIte,rL,rA,rM,rD,sv.down,o1,o2,o3,o4,lt_dec,sh1,nh1,g1,g2,g5,i1,i2,i4,g6,x1,x2,decide_eq_false b1]) (fun hx=>by cases hx) (fun _=> ?_)
      refine seq_skip ?_
      refine seq_seq ?_
      refine seq_reg fun K hn hp=> ?_
      simp only [sw.down,rE,reduceIte,rL,rA,rM,rD,sv.down,o1,o2,o3,o4,lt_dec,sh1,nh1,g1,g2,g5,i1,i2,i4,g6,x1,x2]
      refine callA_func (sok xt) (rin_c xt _ _ _ _ fun n6 hn6=> ?_)
      simp only [Hp.up_n] at hn6
      cases b2:inB (t.getD c 0) 0 60
      ·have b2':=b2
       unfold inB at b2'
       simp only [sw.down,rE,reduceIte,rL,rA,rM,rD,sv.down,o1,o2,o3,o4,lt_dec,sh1,nh1,g1,g2,g5,i1,i2,i4,g6,x1,x2,b2',Hp.up_up]
       refine hn _ _ ?_
       clear hn hp K
       refine seq_cond true (by simp only [sw.down,rE,reduceIte,rL,rA,rM,rD,sv.down,o1,o2,o3,o4,lt_dec,sh1,nh1,g1,g2,g5,i1,i2,i4,g6,x1,x2]) (fun _=> ?_) (fun hx=>by cases hx)
       refine seq_seq ?_
       refine seq_reg fun K hn hp=> ?_
       simp only [sw.down,rE,reduceIte,rL,rA,rM,rD,sv.down,o1,o2,o3,o4,lt_dec,sh1,nh1,g1,g2,g5,i1,i2,i4,g6,x1,x2]
       refine hn _ _ ?_
       clear hn hp K
       refine seq_ret (E4 _ (D4 _ (B4 _ (A4 _ (retF _ _ (by omega) (by simp [T.get_put]) (noR c hc (by simp only [rfitAt,if_neg b1,b2,Bool.false_and])))))))
      have b2':=b2
      unfold inB at b2'
      simp only [sw.down,rE,reduceIte,rL,rA,rM,rD,sv.down,o1,o2,o3,o4,lt_dec,sh1,nh1,g1,g2,g5,i1,i2,i4,g6,x1,x2,b2',Hp.up_up]
      refine hn _ _ ?_
      clear hn hp K
      obtain ⟨z1,z2⟩:=Bool.and_eq_true_iff.1 b2'
      have z1:=of_decide_eq_true z1
      have z2:=of_decide_eq_true z2
      refine seq_cond false (by simp only [sw.down,rE,reduceIte,rL,rA,rM,rD,sv.down,o1,o2,o3,o4,lt_dec,sh1,nh1,g1,g2,g5,i1,i2,i4,g6,x1,x2]) (fun hx=>by cases hx) (fun _=> ?_)
      refine seq_skip ?_
      have wc:=wrap_succ hc (show C≤9223372036854775807 by omega)
      have wt:IntKind.i64.wrap (t.getD c 0 - m.T)=t.getD c 0 - m.T:=wrap_i64 _ (by omega) (by omega)
      refine seq_regW (sok xt) 0 0 20 [] (by kernel_rfl) fun K hn hp=> ?_
      simp only [sw.down,rE,reduceIte,rL,rA,rM,rD,sv.down,o1,o2,o3,o4,lt_dec,sh1,nh1,g1,g2,g5,i1,i2,i4,g6,x1,x2,wc,wt]
      refine callA_func (sok xt) (rc_c xt _ m (ha1.up (by omega)) r (c+1:Nat) fun n7 hn7=> ?_)
      simp only [Hp.up_n] at hn7
      by_cases b3:m.rc r (c+1:Nat)=1
      ·simp only [sw.down,rE,reduceIte,rL,rA,rM,rD,sv.down,o1,o2,o3,o4,lt_dec,sh1,nh1,g1,g2,g5,i1,i2,i4,g6,x1,x2,wc,wt,hn7,Hp.up_up,decide_eq_true b3,aoPick_b]
       refine hn _ _ ?_
       clear hn hp K
       refine wpc_cond false (by simp only [sw.down,rE,reduceIte,rL,rA,rM,rD,sv.down,o1,o2,o3,o4,lt_dec,sh1,nh1,g1,g2,g5,i1,i2,i4,g6,x1,x2,wc,wt]) (fun hx=>by cases hx) (fun _=> ?_)
       refine wpc_skip (nextN _ _ (by omega) (by simp only [rfitAt,if_neg b1,b2,b3];rfl) ?_ ?_ ?_ ?_)
       all_goals simp [T.get_put,g1,g2,g5,g6]
      ·have hc1:c+1<C:=by
        rw [rc_at hm hr] at b3
        by_cases q:c+1<C
        ·exact q
        ·rw [if_neg q] at b3;exact absurd rfl b3
       obtain ⟨x3,x4⟩:=(i3.m75 (k:=c+1) (by omega))
       simp only [sw.down,rE,reduceIte,rL,rA,rM,rD,sv.down,o1,o2,o3,o4,lt_dec,sh1,nh1,g1,g2,g5,i1,i2,i4,g6,x1,x2,wc,wt,hn7,Hp.up_up,decide_eq_false b3,aoPick_b,x3,x4]
       refine callA_func (sok xt) (rin_c xt _ _ _ _ fun n8 hn8=> ?_)
       simp only [Hp.up_n] at hn8
       cases b4:inB (t.getD (c+1) 0) (t.getD c 0 - m.T) (t.getD c 0)
       ·have b4':=b4
        unfold inB at b4'
        simp only [sw.down,rE,reduceIte,rL,rA,rM,rD,sv.down,o1,o2,o3,o4,lt_dec,sh1,nh1,g1,g2,g5,i1,i2,i4,g6,x1,x2,wc,wt,b4',Hp.up_up]
        refine hn _ _ ?_
        clear hn hp K
        refine wpc_cond true (by simp only [sw.down,rE,reduceIte,rL,rA,rM,rD,sv.down,o1,o2,o3,o4,lt_dec,sh1,nh1,g1,g2,g5,i1,i2,i4,g6,x1,x2,wc,wt]) (fun _=> ?_) (fun hx=>by cases hx)
        refine seq_reg fun K hn hp=> ?_
        simp only [sw.down,rE,reduceIte,rL,rA,rM,rD,sv.down,o1,o2,o3,o4,lt_dec,sh1,nh1,g1,g2,g5,i1,i2,i4,g6,x1,x2,wc,wt]
        refine hn _ _ ?_
        clear hn hp K
        refine wpc_ret (E4 _ (D4 _ (B4 _ (A4 _ (retF _ _ (by omega) (by simp [T.get_put]) (noR c hc (by simp only [rfitAt,if_neg b1,b2,decide_eq_false b3,b4];rfl)))))))
       ·have b4':=b4
        unfold inB at b4'
        simp only [sw.down,rE,reduceIte,rL,rA,rM,rD,sv.down,o1,o2,o3,o4,lt_dec,sh1,nh1,g1,g2,g5,i1,i2,i4,g6,x1,x2,wc,wt,b4',Hp.up_up]
        refine hn _ _ ?_
        clear hn hp K
        refine wpc_cond false (by simp only [sw.down,rE,reduceIte,rL,rA,rM,rD,sv.down,o1,o2,o3,o4,lt_dec,sh1,nh1,g1,g2,g5,i1,i2,i4,g6,x1,x2,wc,wt]) (fun hx=>by cases hx) (fun _=> ?_)
        refine wpc_skip (nextN _ _ (by omega) (by simp only [rfitAt,if_neg b1,b2,decide_eq_false b3,b4];rfl) ?_ ?_ ?_ ?_)
        all_goals simp [T.get_put,g1,g2,g5,g6]
    ·refine seq_cond false (by simp only [sw.down,rE,reduceIte,rL,rA,rM,rD,sv.down,o1,o2,o3,o4,lt_dec,sh1,nh1,g1,g2,g5,i1,i2,i4,g6,hc]) (fun hx=>by cases hx) (fun _=> ?_)
     refine seq_exit (D2 _ (B1 _ ?_))
     refine reg fun K hn hp=> ?_
     simp only [sw.down,rE,reduceIte,rL,rA,rM,rD,sv.down,o1,o2,o3,o4,lt_dec,sh1,nh1,g1,g2,g5,i1,i2,i4,g6,wrap_succ hr (show R≤9223372036854775807 by omega)]
     refine hn _ _ ?_
     clear hn hp K
     refine ⟨⟨r+1,n4,_,rfl,by omega,(by simp [T.get_put,g1,g2,g5]),(by simp [T.get_put,g1,g2,g5]),(by simp [T.get_put,g1,g2,g5]),by omega,fun j hj=> ?_⟩,by simpa [T.get_put,muA] using (by omega:R - (r+1)<R - r)⟩
     by_cases e:j=r
     ·rw [e];exact range_yes fun c' hc'=>by rw [←ht];exact hcols c' (by omega)
     ·exact hrows j (by omega)
   ·exact ⟨0,n2,_,rfl,(by omega),(by simp [T.get_put,g1,g2,g5]),(by simp [T.get_put,g1,g2,g5]),(by simp [T.get_put,g1,g2,g5]),(by simp [T.get_put,g1,g2,g5]),by omega,fun j hj=>absurd hj (Nat.not_lt_zero _)⟩
  ·refine seq_cond false (by simp only [sw.down,rE,reduceIte,rL,rA,rM,rD,sv.down,o1,o2,o3,o4,lt_dec,sh1,nh1,g1,g2,g5,hr]) (fun hx=>by cases hx) (fun _=> ?_)
   have hfr:(List.range m.cells.length).all (rfitRow m g)=true:=range_yes fun k hk=>hrows k (by omega)
   have hin: ∀r c,r<R→c<C→0≤(g.ll.getD r []).getD c 0∧(g.ll.getD r []).getD c 0≤60:=fun r c hr hc=>by
    have q:=List.all_eq_true.1 (List.all_eq_true.1 hfr r (List.mem_range.2 (by omega))) c (List.mem_range.2 (by omega))
    simp only [rfitAt] at q
    split at q
    ·have:=of_decide_eq_true q;omega
    ·simp only [inB,Bool.and_eq_true,decide_eq_true_eq] at q
     exact q.1
   refine seq_exit (A2 _ ?_)
   refine seq_seq ?_
   refine seq_reg fun K hn hp=> ?_
   simp only [sw.down,rE,reduceIte,rL,rA,rM,rD,sv.down,o1,o2,o3,o4,lt_dec,sh1,nh1,g1,g2,g5]
   refine hn _ _ ?_
   clear hn hp K
   have hgl':=fun h':Hp=>(ha.gs).len (h':=h') tg23 rfl
   simp only [List.length_map] at hgl'
   refine seq_block fun KG G1 G2 G3 G4 G5=> ?_
   refine wpc_loop (sok xt) (fun st=> ∃(i:Nat) (hg:Hp) (tm:T AV),st=⟨tm,95,hg,[]⟩∧i≤m.gs.length∧tm.get 1=some (g.v)∧tm.get 2=some (.ptr h.n 0)∧tm.get 8=some (iv i)∧Fr h1.n h1 hg∧ ∀x∈m.gs.take i,rgaugeOk g x=true) (fun st=>m.gs.length - (match st.tm.get 8 with|some (.val (.int _ n))=>n.toNat|_=>0)) ?_ ?_
   ·rintro st ⟨i,hg,tm,rfl,hkG,g1,g2,g8,fg,hall⟩
    have muG:=g8
    have fgh:=fh1.trans fg (by omega)
    have q1:=(fg.at_ h.n (.inl (by omega))).trans sh1
    refine seq_seq ?_
    refine seq_reg fun K hn hp=> ?_
    simp only [sw.down,rE,reduceIte,rL,rA,rM,rD,sv.down,o1,o2,o3,o4,lt_dec,nh1,g1,g2,g5,g8,q1,hgl']
    refine hn _ _ ?_
    clear hn hp K
    by_cases hi:i<m.gs.length
    ·refine seq_cond true (by simp only [sw.down,rE,reduceIte,rL,rA,rM,rD,sv.down,o1,o2,o3,o4,lt_dec,nh1,g1,g2,g5,g8,hi]) (fun _=> ?_) (fun hx=>by cases hx)
     have hag:=ha.fr fgh (Nat.le_refl _)
     obtain ⟨x,hx⟩: ∃x,m.gs[i]? =some x:=⟨_,List.getElem?_eq_getElem hi⟩
     obtain ⟨y1,y2,y3,y4⟩:=hm.gs x (List.mem_of_getElem? hx)
     have i1:=hag.gs.idx tg23 rfl tg48 rfl (i:=i) (by simpa using hi) (k:= .i64)
     have i2:=hag.gs.loadA tg48 rfl rfl (i:=i) (c:=Kn.g4 x) (by rw [List.getElem?_map,hx];rfl)
     obtain ⟨xr,xc,xs,xo⟩:=x
     simp only [Kn.g4,List.map_cons,List.map_nil] at i2 y1 y2 y3 y4
     obtain ⟨r',rfl⟩: ∃r':Nat,xr=r':=⟨xr.toNat,by omega⟩
     obtain ⟨c',rfl⟩: ∃c':Nat,xc=c':=⟨xc.toNat,by omega⟩
     simp only [Int.toNat_natCast] at y1 y2
     have hr':r'<R:=by omega
     have hc':c'<C:=by have:=hm.hC r' hr';omega
     refine seq_skip ?_
     refine seq_block fun KH H1 H2 H3 H4 H5=> ?_
     refine seq_reg fun K hn hp=> ?_
     simp only [sw.down,rE,reduceIte,rL,rA,rM,rD,sv.down,o1,o2,o3,o4,lt_dec,nh1,g1,g2,g5,g8,i1,i2,q1]
     refine hn _ _ ?_
     clear hn hp K
     obtain ⟨h9,hh9⟩: ∃h9:Hp,h9=(hg.new (.cells [iv 0,iv 0,iv 0,iv 0] 48)).set hg.n (.cells [iv (r':Int),iv (c':Int),iv xs,iv xo] 48):=⟨_,rfl⟩
     have nh9:h9.n=hg.n+1:=by rw [hh9];rfl
     have sh9:h9.t.get hg.n=some (.cells [iv (r':Int),iv (c':Int),iv xs,iv xo] 48):=by rw [hh9,Hp.set_t,T.get_put,if_pos rfl]
     have kh9: ∀k,k<hg.n→h9.t.get k=hg.t.get k:=fun k hk=>by rw [hh9];exact newset_lt _ _ _ hk
     have fbh9:Fr hg.n hg h9:=by rw [hh9];exact newset_fr _ _ _
     have fh9:=fbh9
     rw [←hh9]
     have f9:=fg.trans fbh9 fg.lo
     obtain ⟨v,j1,j2,j3,j4⟩:=(hg1.fr f9 (Nat.le_refl _)).rowD (i:=r') (by omega)
     obtain ⟨x1,x2⟩:=(j3.m75 (k:=c') (by have:=hgr r' hr';omega))
     have w1:IntKind.i64.wrap (xs - xo)=xs - xo:=wrap_i64 _ (by omega) (by omega)
     have w2:IntKind.i64.wrap (xs+xo)=xs+xo:=wrap_i64 _ (by omega) (by omega)
     refine seq_regD (sok xt) 19 (by kernel_rfl) fun K hn hp=> ?_
     simp only [sw.down,rE,reduceIte,rL,rA,rM,rD,sv.down,o1,o2,o3,o4,lt_dec,nh1,g1,g2,g5,g8,i1,i2,sh9,j1,j2,x1,x2,w1,w2]
     refine callA_func (sok xt) (rin_c xt _ _ _ _ fun n7 hn7=> ?_)
     have hn7:=Nat.le_of_lt hn7
     have hq:rgaugeOk g ((r':Int),(c':Int),xs,xo)=(decide (xs - xo≤(g.ll.getD r' []).getD c' 0) && decide ((g.ll.getD r' []).getD c' 0≤xs+xo)):=by
      simp only [rgaugeOk,inB,Gr.cell,Int.toNat_natCast]
      rfl
     cases b4:rgaugeOk g ((r':Int),(c':Int),xs,xo)
     ·rw [b4] at hq
      simp only [sw.down,rE,reduceIte,rL,rA,rM,rD,sv.down,o1,o2,o3,o4,lt_dec,nh1,g1,g2,g5,g8,i1,i2,sh9,nh9,←hq]
      refine hn _ _ ?_
      clear hn hp K
      refine wpc_cond true (by simp only [sw.down,rE,reduceIte,rL,rA,rM,rD,sv.down,o1,o2,o3,o4,lt_dec,nh1,g1,g2,g5,g8,i1,i2,sh9,nh9]) (fun _=> ?_) (fun hx=>by cases hx)
      refine seq_reg fun K hn hp=> ?_
      simp only [sw.down,rE,reduceIte,rL,rA,rM,rD,sv.down,o1,o2,o3,o4,lt_dec,nh1,g1,g2,g5,g8,i1,i2,sh9,nh9]
      refine hn _ _ ?_
      clear hn hp K
      refine wpc_ret (H4 _ (G4 _ (end_1 res49 ⟨?_,(fh1.trans f9 (by omega)).up hn7⟩)))
      have:rfitsB m g=false:=by
       have:m.gs.all (rgaugeOk g)=false:=by
        rw [List.all_eq_false]
        exact ⟨_,List.mem_of_getElem? hx,by rw [b4];exact Bool.false_ne_true⟩
       simp only [rfitsB,this,Bool.and_false]
      simp [T.get_put,this]
     ·rw [b4] at hq
      simp only [sw.down,rE,reduceIte,rL,rA,rM,rD,sv.down,o1,o2,o3,o4,lt_dec,nh1,g1,g2,g5,g8,i1,i2,sh9,nh9,←hq]
      refine hn _ _ ?_
      clear hn hp K
      refine wpc_cond false (by simp only [sw.down,rE,reduceIte,rL,rA,rM,rD,sv.down,o1,o2,o3,o4,lt_dec,nh1,g1,g2,g5,g8,i1,i2,sh9,nh9]) (fun hx=>by cases hx) (fun _=> ?_)
      refine wpc_skip (H1 _ ?_)
      refine reg fun K hn hp=> ?_
      simp only [sw.down,rE,reduceIte,rL,rA,rM,rD,sv.down,o1,o2,o3,o4,lt_dec,nh1,g1,g2,g5,g8,i1,i2,sh9,nh9,wrap_succ hi ha.lg]
      refine hn _ _ ?_
      clear hn hp K
      refine ⟨⟨i+1,_,_,rfl,by omega,(by simp [T.get_put,g1,g2,g8]),(by simp [T.get_put,g1,g2,g8]),(by simp [T.get_put,g1,g2,g8]),f9.up hn7,?_⟩,by simpa [T.get_put,muG] using (by omega:m.gs.length - (i+1)<m.gs.length - i)⟩
      rw [List.take_succ,hx]
      intro y hy
      simp only [Option.toList_some,List.mem_append,List.mem_singleton] at hy
      rcases hy with hy|rfl
      ·exact hall y hy
      ·exact b4
    ·refine seq_cond false (by simp only [sw.down,rE,reduceIte,rL,rA,rM,rD,sv.down,o1,o2,o3,o4,lt_dec,nh1,g1,g2,g5,g8,hi]) (fun hx=>by cases hx) (fun _=> ?_)
     refine seq_exit (G2 _ ?_)
     refine seq_reg fun K hn hp=> ?_
     simp only [sw.down,rE,reduceIte,rL,rA,rM,rD,sv.down,o1,o2,o3,o4,lt_dec,sh1,nh1,g1,g2,g5,g8]
     refine hn _ _ ?_
     clear hn hp K
     refine wpc_ret (end_1 res49 ⟨?_,fgh⟩)
     have:rfitsB m g=true:=by
      have h2:m.gs.all (rgaugeOk g)=true:=by
       rw [List.take_of_length_le (by omega)] at hall
       exact List.all_eq_true.2 hall
      simp only [rfitsB,hfr,h2,Bool.and_self]
     simp [T.get_put,this]
   ·exact ⟨0,h1.up n2,_,rfl,(by omega),(by simp [T.get_put,g1,g2,g5]),(by simp [T.get_put,g1,g2,g5]),(by simp [T.get_put,g1,g2,g5]),(Fr.refl (Nat.le_refl _)).up (by omega),fun x hx=>by simp at hx⟩
 ·exact ⟨0,h1.n,_,rfl,(by omega),(by simp [T.get_put]),(by simp [T.get_put]),(by simp [T.get_put]),Nat.le_refl _,fun j hj=>absurd hj (Nat.not_lt_zero _)⟩
end Go.Proofs.Kn
