/- Parts of the proof, joined by a program. -/
import Derived.Test.YtafhmammmgbdgaaGreatDoorQD
import Derived.Test.YtafhmammmgbdgaaGreatDoorQC
set_option linter.all false
namespace Go.Proofs.Kn
open Go Go.Ev
set_option maxRecDepth 100000
set_option maxHeartbeats 4000000
theorem naext0 (a b : AV) : aextract (.tup [a, b]) 0 = some a := rfl
theorem naext1 (a b : AV) : aextract (.tup [a, b]) 1 = some b := rfl
noncomputable def zcs : List AV := te53.zero.map AV.val
theorem anil_ptr (b o : Nat) : anilCheck (.ptr b o) = true := rfl
theorem zc19 : zcs[19]? = some (.val (.bool false)) := by kernel_rfl
def NoDesk (h : Hp) (p : AV) : Prop := p = .val (.pointer none) ∨ ∃ b, p = .ptr b 0 ∧ b < h.n ∧ h.t.get b = some (.cells zcs 53)
theorem NoDesk.up {h : Hp} {p : AV} (d : NoDesk h p) {n : Nat} (hn : h.n ≤ n) : NoDesk (h.up n) p := by
  rcases d with rfl | ⟨b, rfl, hb, q⟩
  · exact .inl rfl
  · exact .inr ⟨b, rfl, by rw [Hp.up_n]; omega, q⟩
theorem NoDesk.new {h : Hp} {p : AV} (d : NoDesk h p) (o : AO) : NoDesk (h.new o) p := by
  rcases d with rfl | ⟨b, rfl, hb, q⟩
  · exact .inl rfl
  · exact .inr ⟨b, rfl, by rw [Hp.new_n]; omega, by rw [Hp.new_t, T.get_put, if_neg (by omega)]; exact q⟩
theorem nptr_nn (ox oy : Operand) : abin Tryz.prog tb .neq 30 ox oy (.val (.pointer none)) (.val (.pointer none)) = some (.val (.bool false)) := by kernel_rfl
theorem nptr_pn (ox oy : Operand) (b o : Nat) : abin Tryz.prog tb .neq 30 ox oy (.ptr b o) (.val (.pointer none)) = some (.val (.bool true)) := by
  simp only [abin, toVal, isEql, tg30]
  rfl
theorem ft18s (xt : Addr → Option Value) : (SE xt).ft.get 18 = some Tryz.f18 := by kernel_rfl
theorem res18s : Tryz.f18.results.toList = [.tmp 2] := by kernel_rfl
theorem ready_c (xt : Addr → Option Value) (h : Hp) (p : AV) (d : NoDesk h p) {K : CR → Hp → Prop} (hk : ∀ n, h.n < n → K (.ret (.val (.bool false))) (h.up n)) : FnA (SE xt) 18 [p] h K := by
  refine FnA.calm ?_ hk
  clear hk K
  refine FnA.walk (sok xt) (ft18s xt) rfl 11 rfl ?_
  rcases d with rfl | ⟨b, rfl, hb, q⟩
  · refine seq_reg fun K hn hp => ?_
    simp only [sy.down, argsTo, cellPut_some, Nat.reduceEqDiff, reduceIte, Nat.reduceLT, Nat.reduceAdd, Nat.reduceMul, Nat.reduceLeDiff]
    refine hn _ _ ?_
    clear hn hp K
    refine seq_reg fun K hn hp => ?_
    simp only [sy.down, argsTo, cellPut_some, Nat.reduceEqDiff, reduceIte, Nat.reduceLT, Nat.reduceAdd, Nat.reduceMul, Nat.reduceLeDiff, nptr_nn]
    refine hn _ _ ?_
    clear hn hp K
    refine wpc_ret (end_1 res18s ⟨?_, Fr.refl (Nat.le_refl _)⟩)
    simp [T.get_put]
  · refine seq_reg fun K hn hp => ?_
    simp only [sy.down, argsTo, cellPut_some, Nat.reduceEqDiff, reduceIte, Nat.reduceLT, Nat.reduceAdd, Nat.reduceMul, Nat.reduceLeDiff]
    refine hn _ _ ?_
    clear hn hp K
    refine seq_reg fun K hn hp => ?_
    simp only [sy.down, argsTo, cellPut_some, Nat.reduceEqDiff, reduceIte, Nat.reduceLT, Nat.reduceAdd, Nat.reduceMul, Nat.reduceLeDiff, nptr_pn, WOp_nilCheck, anil_ptr, zc19, q]
    refine hn _ _ ?_
    clear hn hp K
    refine wpc_ret (end_1 res18s ⟨?_, Fr.refl (Nat.le_refl _)⟩)
    simp [T.get_put]
end Go.Proofs.Kn
namespace Go.Proofs.Kn
open Go Go.Ev
set_option maxRecDepth 100000
set_option maxHeartbeats 4000000
def kn (k : Int) (a : Option Addr) (n c : Nat) : AV := .agg [.val (.int .i64 k), .val (.slice a n c)]
def knC (k : Int) (a : Option Addr) (n c : Nat) : List AV := [.val (.int .i64 k), .val (.slice a n c)]
theorem kn_cells (k : Int) (a : Option Addr) (n c : Nat) : cellsOf (kn k a n c) = knC k a n c := rfl
theorem NoDesk.at_ {h h' : Hp} {p : AV} (d : NoDesk h p) (f : Fr h.n h h') : NoDesk h' p := by
  rcases d with rfl | ⟨b, rfl, hb, q⟩
  · exact .inl rfl
  · exact .inr ⟨b, rfl, Nat.lt_of_lt_of_le hb f.le, by rw [f.at_ _ (.inl hb)]; exact q⟩
theorem NoDesk.one {h : Hp} {p : AV} (d : NoDesk h p) : cellsOf p = [p] := by
  rcases d with rfl | ⟨b, rfl, hb, q⟩ <;> rfl
theorem ft7s (xt : Addr → Option Value) : (SE xt).ft.get 7 = some Tryz.f7 := by kernel_rfl
theorem res7s : Tryz.f7.results.toList = [.tmp 4, .tmp 5] := by kernel_rfl
theorem Ask_c (xt : Addr → Option Value) (h : Hp) (p : AV) (d : NoDesk h p) (k : Int) (a : Option Addr) (n c : Nat) {K : CR → Hp → Prop} (hk : ∀ m, h.n < m → K (.ret (.tup [.val (.slice none 0 0), .val (.int .i64 1)])) (h.up m)) : FnA (SE xt) 7 [p, kn k a n c] h K := by
  refine FnA.calm ?_ hk
  clear hk K
  refine FnA.walk (sok xt) (ft7s xt) rfl 83 rfl ?_
  refine seq_reg fun K hn hp => ?_
  simp only [sy.down, argsTo, cellPut_some, Nat.reduceEqDiff, reduceIte, Nat.reduceLT, Nat.reduceAdd, Nat.reduceMul, Nat.reduceLeDiff, kn_cells]
  refine hn _ _ ?_
  clear hn hp K
  obtain ⟨h1, hh1, n1, s1, k1, f1⟩ := newE h (.cells (knC k a n c) 28)
  rw [← hh1]
  have d1 : NoDesk h1 p := d.at_ f1
  clear hh1
  refine seq_seq ?_
  refine seq_reg fun K hn hp => ?_
  simp only [sy.down, argsTo, cellPut_some, Nat.reduceEqDiff, reduceIte, Nat.reduceLT, Nat.reduceAdd, Nat.reduceMul, Nat.reduceLeDiff, kn_cells]
  refine callA_func (sok xt) (ready_c xt h1 p d1 fun m hm => ?_)
  simp only [sy.down, argsTo, cellPut_some, Nat.reduceEqDiff, reduceIte, Nat.reduceLT, Nat.reduceAdd, Nat.reduceMul, Nat.reduceLeDiff, kn_cells]
  refine hn _ _ ?_
  clear hn hp K
  refine seq_cond true (by simp only [sy.down, argsTo, cellPut_some, Nat.reduceEqDiff, reduceIte, Nat.reduceLT, Nat.reduceAdd, Nat.reduceMul, Nat.reduceLeDiff, kn_cells]) (fun _ => ?_) (fun hx => by cases hx)
  refine seq_seq ?_
  refine seq_reg fun K hn hp => ?_
  simp only [sy.down, argsTo, cellPut_some, Nat.reduceEqDiff, reduceIte, Nat.reduceLT, Nat.reduceAdd, Nat.reduceMul, Nat.reduceLeDiff, kn_cells]
  refine hn _ _ ?_
  clear hn hp K
  refine seq_ret (end_2 res7s ⟨?_, f1.up (by omega)⟩)
  simp [T.get_put]
theorem ft8s (xt : Addr → Option Value) : (SE xt).ft.get 8 = some Tryz.f8 := by kernel_rfl
theorem res8s : Tryz.f8.results.toList = [.tmp 2, .tmp 3] := by kernel_rfl
theorem Journal_c (xt : Addr → Option Value) (h : Hp) (p : AV) (d : NoDesk h p) {K : CR → Hp → Prop} (hk : ∀ m, h.n < m → K (.ret (.tup [sv [], .val (.int .i64 1)])) (h.up m)) : FnA (SE xt) 8 [p] h K := by
  refine FnA.calm ?_ hk
  clear hk K
  refine FnA.walk (sok xt) (ft8s xt) rfl 25 rfl ?_
  refine seq_reg fun K hn hp => ?_
  simp only [sy.down, argsTo, cellPut_some, Nat.reduceEqDiff, reduceIte, Nat.reduceLT, Nat.reduceAdd, Nat.reduceMul, Nat.reduceLeDiff]
  refine hn _ _ ?_
  clear hn hp K
  refine seq_seq ?_
  refine seq_reg fun K hn hp => ?_
  simp only [sy.down, argsTo, cellPut_some, Nat.reduceEqDiff, reduceIte, Nat.reduceLT, Nat.reduceAdd, Nat.reduceMul, Nat.reduceLeDiff]
  refine callA_func (sok xt) (ready_c xt h p d fun m hm => ?_)
  simp only [sy.down, argsTo, cellPut_some, Nat.reduceEqDiff, reduceIte, Nat.reduceLT, Nat.reduceAdd, Nat.reduceMul, Nat.reduceLeDiff]
  refine hn _ _ ?_
  clear hn hp K
  refine seq_cond true (by simp only [sy.down, argsTo, cellPut_some, Nat.reduceEqDiff, reduceIte, Nat.reduceLT, Nat.reduceAdd, Nat.reduceMul, Nat.reduceLeDiff]) (fun _ => ?_) (fun hx => by cases hx)
  refine seq_seq ?_
  refine seq_reg fun K hn hp => ?_
  simp only [sy.down, argsTo, cellPut_some, Nat.reduceEqDiff, reduceIte, Nat.reduceLT, Nat.reduceAdd, Nat.reduceMul, Nat.reduceLeDiff]
  refine hn _ _ ?_
  clear hn hp K
  refine seq_ret (end_2 res8s ⟨?_, (Fr.refl (Nat.le_refl _)).up (by omega)⟩)
  simp [T.get_put]
  rfl
theorem ft9s (xt : Addr → Option Value) : (SE xt).ft.get 9 = some Tryz.f9 := by kernel_rfl
theorem res9s : Tryz.f9.results.toList = [.tmp 4] := by kernel_rfl
theorem Enter_c (xt : Addr → Option Value) (h : Hp) (p : AV) (d : NoDesk h p) (k : Int) (a : Option Addr) (n c : Nat) {K : CR → Hp → Prop} (hk : ∀ m, h.n < m → K (.ret (.val (.int .i64 1))) (h.up m)) : FnA (SE xt) 9 [p, kn k a n c] h K := by
  refine FnA.calm ?_ hk
  clear hk K
  refine FnA.walk (sok xt) (ft9s xt) rfl 79 rfl ?_
  have dc := d.one
  refine seq_reg fun K hn hp => ?_
  simp only [sy.down, argsTo, cellPut_some, Nat.reduceEqDiff, reduceIte, Nat.reduceLT, Nat.reduceAdd, Nat.reduceMul, Nat.reduceLeDiff, kn_cells, dc]
  refine hn _ _ ?_
  clear hn hp K
  obtain ⟨h1, hh1, n1, s1, k1, f1⟩ := newE h (.cells [p] 30)
  obtain ⟨h2, hh2, n2, s2, k2, f2⟩ := newE h1 (.cells (knC k a n c) 25)
  rw [← hh1, ← hh2]
  have fr2 : Fr h.n h h2 := f1.trans f2 (by omega)
  have q : h2.t.get h.n = some (.cells [p] 30) := (k2 h.n (by omega)).trans s1
  have d2 : NoDesk h2 p := d.at_ fr2
  clear hh1 hh2
  refine seq_block fun K2 e1 e2 e3 e4 e5 => ?_
  refine seq_reg fun K hn hp => ?_
  simp only [sy.down, argsTo, cellPut_some, Nat.reduceEqDiff, reduceIte, Nat.reduceLT, Nat.reduceAdd, Nat.reduceMul, Nat.reduceLeDiff, kn_cells, dc, q]
  refine callA_func (sok xt) (ready_c xt h2 p d2 fun m hm => ?_)
  simp only [sy.down, argsTo, cellPut_some, Nat.reduceEqDiff, reduceIte, Nat.reduceLT, Nat.reduceAdd, Nat.reduceMul, Nat.reduceLeDiff, kn_cells, dc, q]
  refine hn _ _ ?_
  clear hn hp K
  refine wpc_cond true (by simp only [sy.down, argsTo, cellPut_some, Nat.reduceEqDiff, reduceIte, Nat.reduceLT, Nat.reduceAdd, Nat.reduceMul, Nat.reduceLeDiff, kn_cells, dc, q]) (fun _ => ?_) (fun hx => by cases hx)
  refine seq_reg fun K hn hp => ?_
  simp only [sy.down, argsTo, cellPut_some, Nat.reduceEqDiff, reduceIte, Nat.reduceLT, Nat.reduceAdd, Nat.reduceMul, Nat.reduceLeDiff, kn_cells, dc, q]
  refine hn _ _ (wpc_ret (e4 _ (end_1 res9s ⟨?_, fr2.up (by omega)⟩)))
  simp [T.get_put]
end Go.Proofs.Kn
namespace Go.Proofs.Kn
open Go Go.Ev
set_option maxRecDepth 100000
set_option maxHeartbeats 4000000
def isTrue (r : CR) (_ : Hp) : Prop := r = .ret (.val (.bool true))
theorem nlen23 (h : Hp) (a : Option Addr) (n c : Nat) : alen tb h 23 (.val (.slice a n c)) = some n := by simp only [alen, tg23]; rfl
theorem nlen54 (h : Hp) (b o n s : Nat) : alen tb h 54 (.sl b o n s) = some n := by simp only [alen, tg54]; rfl
theorem nbd53 : abuildA tb 53 [] = some (.agg zcs) := by kernel_rfl
theorem nzc53 : cellsOf (.agg zcs) = zcs := rfl
theorem nkn1 (k : Int) (a : Option Addr) (n c : Nat) : (knC k a n c)[1]? = some (.val (.slice a n c)) := rfl
theorem nknl (k : Int) (a : Option Addr) (n c : Nat) : (2 ≤ (knC k a n c).length) = True := by simp [knC]
theorem nknt (k : Int) (a : Option Addr) (n c : Nat) : AV.agg (List.take 2 (knC k a n c)) = kn k a n c := rfl
theorem nbs54 (h : Hp) (b : Nat) : aoBuildSlice tb h 54 2 [(0, .val (.pointer none)), (1, .ptr b 0)] = some (.sl h.n 0 2 1, h.new (.cells [.val (.pointer none), .ptr b 0] 30)) := by kernel_rfl
theorem nia54 (L k : Nat) (hk : k < 2) : aindexAddr tb 54 (.sl L 0 2 1) (.val (.int .i64 (k : Int))) = some (.ptr L (0 + k * 1)) := by
  have e1 : aint (.val (.int .i64 (k : Int))) = some (Int.ofNat k) := rfl
  have e2 : te54.d = .slice 30 := rfl
  have e3 : te30.size = 1 := rfl
  have e4 : Nat.blt k 2 = true := by rw [Nat.blt_eq]; exact hk
  simp only [aindexAddr, tg54, tg30, e1, e2, e3, e4]
  rfl
theorem ne00 : decide ((0 : Int) = 0) = true := by decide
theorem ne11 : decide ((1 : Int) = 1) = true := by decide
theorem nabs (ox oy : Operand) : abin Tryz.prog tb .neq 9 ox oy (sv []) (.val (.string (ByteArray.mk (Array.mk [])))) = some (.val (.bool false)) := by kernel_rfl
theorem ne0n : decide (((0 : Nat) : Int) = 0) = true := by decide
theorem nwrap_succ {k n : Nat} (h : k < n) (hn : n ≤ 9223372036854775807) : IntKind.i64.wrap ((k : Int) + 1) = ((k + 1 : Nat) : Int) := by rw [wrap_i64 _ (by omega) (by omega)]; simp
theorem nlt_dec (a b : Nat) : decide ((a : Int) < (b : Int)) = decide (a < b) := by simp
theorem ft3s (xt : Addr → Option Value) : (SE xt).ft.get 3 = some Tryz.f3 := by kernel_rfl
theorem res3s : Tryz.f3.results.toList = [.tmp 4] := by kernel_rfl
theorem nil_w (xt : Addr → Option Value) (kc : ∀ (h : Hp) {K : CR → Hp → Prop}, (∀ n, h.n < n → K (.ret (.val (.bool true))) (h.up n)) → FnA (SE xt) 6 [] h K)
    (h : Hp) (k1 : Int) (a1 : Option Addr) (n1 c1 : Nat) (k2 : Int) (a2 : Option Addr) (n2 c2 : Nat) : FnA (SE xt) 3 [kn k1 a1 n1 c1, kn k2 a2 n2 c2] h isTrue := by
  refine FnA.walk (sok xt) (ft3s xt) rfl 73 rfl ?_
  refine seq_reg fun K hn hp => ?_
  simp only [sy.down, argsTo, cellPut_some, Nat.reduceEqDiff, reduceIte, Nat.reduceLT, Nat.reduceAdd, Nat.reduceMul, Nat.reduceLeDiff, kn_cells, nlen23]
  refine hn _ _ ?_
  clear hn hp K
  obtain ⟨h1, hh1, m1, s1, o1, f1⟩ := newE h (.cells (knC k1 a1 n1 c1) 25)
  obtain ⟨h2, hh2, m2, s2, o2, f2⟩ := newE h1 (.cells (knC k2 a2 n2 c2) 28)
  rw [← hh1, ← hh2]
  have q1 : h2.t.get h.n = some (.cells (knC k1 a1 n1 c1) 25) := (o2 h.n (by omega)).trans s1
  have q2 : h2.t.get (h.n + 1) = some (.cells (knC k2 a2 n2 c2) 28) := by rw [← m1]; exact s2
  simp only [m1] at m2
  clear hh1 hh2
  refine seq_seq ?_
  by_cases b1 : (6 : Int) < (n1 : Int)
  · refine seq_reg fun K hn hp => ?_
    simp only [sy.down, argsTo, cellPut_some, Nat.reduceEqDiff, reduceIte, Nat.reduceLT, Nat.reduceAdd, Nat.reduceMul, Nat.reduceLeDiff, kn_cells, nlen23, q1, q2, nkn1, decide_eq_true b1]
    refine hn _ _ ?_
    clear hn hp K
    refine seq_cond true (by simp only [sy.down, argsTo, cellPut_some, Nat.reduceEqDiff, reduceIte, Nat.reduceLT, Nat.reduceAdd, Nat.reduceMul, Nat.reduceLeDiff, kn_cells, nlen23, q1, q2, nkn1]) (fun _ => ?_) (fun hx => by cases hx)
    refine seq_seq ?_
    refine seq_reg fun K hn hp => ?_
    simp only [sy.down, argsTo, cellPut_some, Nat.reduceEqDiff, reduceIte, Nat.reduceLT, Nat.reduceAdd, Nat.reduceMul, Nat.reduceLeDiff, kn_cells, nlen23, q1, q2, nkn1]
    refine callA_func (sok xt) (kc _ fun m hm => ?_)
    simp only [sy.down, argsTo, cellPut_some, Nat.reduceEqDiff, reduceIte, Nat.reduceLT, Nat.reduceAdd, Nat.reduceMul, Nat.reduceLeDiff, kn_cells, nlen23, q1, q2, nkn1]
    refine hn _ _ (seq_ret (end_1 res3s ?_))
    simp [T.get_put, isTrue]
  by_cases b2 : (6 : Int) < (n2 : Int)
  · refine seq_reg fun K hn hp => ?_
    simp only [sy.down, argsTo, cellPut_some, Nat.reduceEqDiff, reduceIte, Nat.reduceLT, Nat.reduceAdd, Nat.reduceMul, Nat.reduceLeDiff, kn_cells, nlen23, q1, q2, nkn1, decide_eq_false b1, decide_eq_true b2]
    refine hn _ _ ?_
    clear hn hp K
    refine seq_cond true (by simp only [sy.down, argsTo, cellPut_some, Nat.reduceEqDiff, reduceIte, Nat.reduceLT, Nat.reduceAdd, Nat.reduceMul, Nat.reduceLeDiff, kn_cells, nlen23, q1, q2, nkn1]) (fun _ => ?_) (fun hx => by cases hx)
    refine seq_seq ?_
    refine seq_reg fun K hn hp => ?_
    simp only [sy.down, argsTo, cellPut_some, Nat.reduceEqDiff, reduceIte, Nat.reduceLT, Nat.reduceAdd, Nat.reduceMul, Nat.reduceLeDiff, kn_cells, nlen23, q1, q2, nkn1]
    refine callA_func (sok xt) (kc _ fun m hm => ?_)
    simp only [sy.down, argsTo, cellPut_some, Nat.reduceEqDiff, reduceIte, Nat.reduceLT, Nat.reduceAdd, Nat.reduceMul, Nat.reduceLeDiff, kn_cells, nlen23, q1, q2, nkn1]
    refine hn _ _ (seq_ret (end_1 res3s ?_))
    simp [T.get_put, isTrue]
  refine seq_reg fun K hn hp => ?_
  simp only [sy.down, argsTo, cellPut_some, Nat.reduceEqDiff, reduceIte, Nat.reduceLT, Nat.reduceAdd, Nat.reduceMul, Nat.reduceLeDiff, kn_cells, nlen23, q1, q2, nkn1, decide_eq_false b1, decide_eq_false b2]
  refine hn _ _ ?_
  clear hn hp K
  refine seq_cond false (by simp only [sy.down, argsTo, cellPut_some, Nat.reduceEqDiff, reduceIte, Nat.reduceLT, Nat.reduceAdd, Nat.reduceMul, Nat.reduceLeDiff, kn_cells, nlen23, q1, q2, nkn1]) (fun hx => by cases hx) (fun _ => ?_)
  refine seq_skip ?_
  refine seq_reg fun K hn hp => ?_
  simp only [sy.down, argsTo, cellPut_some, Nat.reduceEqDiff, reduceIte, Nat.reduceLT, Nat.reduceAdd, Nat.reduceMul, Nat.reduceLeDiff, kn_cells, nlen23, q1, q2, nkn1, nbd53, nzc53, WOp_buildSlice]
  obtain ⟨h3, hh3, m3, s3, o3, f3⟩ := newE h2 (.cells zcs 53)
  rw [← hh3]
  simp only [sy.down, argsTo, cellPut_some, Nat.reduceEqDiff, reduceIte, Nat.reduceLT, Nat.reduceAdd, Nat.reduceMul, Nat.reduceLeDiff, kn_cells, nlen23, q1, q2, nkn1, nbs54]
  refine hn _ _ ?_
  clear hn hp K
  obtain ⟨h4, hh4, m4, s4, o4, f4⟩ := newE h3 (.cells [.val (.pointer none), .ptr h2.n 0] 30)
  rw [← hh4]
  have p1 : h4.t.get h.n = some (.cells (knC k1 a1 n1 c1) 25) := ((o4 _ (by omega)).trans (o3 _ (by omega))).trans q1
  have p2 : h4.t.get (h.n + 1) = some (.cells (knC k2 a2 n2 c2) 28) := ((o4 _ (by omega)).trans (o3 _ (by omega))).trans q2
  have p3 : h4.t.get h2.n = some (.cells zcs 53) := (o4 _ (by omega)).trans s3
  clear hh3 hh4 q1 q2
  refine seq_seq ?_
  refine seq_reg fun K hn hp => ?_
  simp only [sy.down, argsTo, cellPut_some, Nat.reduceEqDiff, reduceIte, Nat.reduceLT, Nat.reduceAdd, Nat.reduceMul, Nat.reduceLeDiff, kn_cells, nlen23, nkn1, p1, p2, s4]
  refine hn _ _ ?_
  clear hn hp K
  refine seq_block fun KA A1 A2 A3 A4 A5 => ?_
  refine wpc_loop (sok xt) (fun st => ∃ (k : Nat) (m : Nat) (tm : T AV), st = ⟨tm, 73, h4.up m, []⟩ ∧ k ≤ 2 ∧ tm.get 2 = some (.ptr h.n 0) ∧ tm.get 3 = some (.ptr (h.n + 1) 0) ∧ tm.get 5 = some (.sl h3.n 0 2 1) ∧ tm.get 6 = some (.val (.int .i64 k)) ∧ h4.n ≤ m) (fun st => 2 - (match st.tm.get 6 with | some (.val (.int _ n)) => n.toNat | _ => 0)) ?_ ?_
  · rintro st ⟨k, m, tm, rfl, hkA, g2, g3, g5, g6, hm4⟩
    have muA := g6
    have q : decide ((k : Int) < ((2 : Nat) : Int)) = decide (k < 2) := nlt_dec k 2
    refine seq_seq ?_
    refine seq_reg fun K hn hp => ?_
    simp only [sy.down, argsTo, cellPut_some, Nat.reduceEqDiff, reduceIte, Nat.reduceLT, Nat.reduceAdd, Nat.reduceMul, Nat.reduceLeDiff, kn_cells, nlen23, nkn1, p1, p2, s4, g2, g3, g5, g6, nlen54, q]
    refine hn _ _ ?_
    clear hn hp K
    by_cases hlt : k < 2
    · refine seq_cond true (by simp only [sy.down, argsTo, cellPut_some, Nat.reduceEqDiff, reduceIte, Nat.reduceLT, Nat.reduceAdd, Nat.reduceMul, Nat.reduceLeDiff, kn_cells, nlen23, nkn1, p1, p2, s4, g2, g3, g5, g6, hlt]) (fun _ => ?_) (fun hx => by cases hx)
      refine seq_skip ?_
      refine seq_block fun K2 e1 e2 e3 e4 e5 => ?_
      obtain ⟨p, hl, hd⟩ : ∃ p : AV, ([.val (.pointer none), .ptr h2.n 0] : List AV)[k * 1]? = some p ∧ ∀ m, h4.n ≤ m → NoDesk (h4.up m) p := by
        obtain rfl | rfl : k = 0 ∨ k = 1 := by omega
        · exact ⟨_, rfl, fun m hm => .inl rfl⟩
        · exact ⟨_, rfl, fun m hm => .inr ⟨_, rfl, by rw [Hp.up_n]; omega, p3⟩⟩
      have hi := nia54 h3.n k hlt
      rw [Nat.zero_add] at hi
      refine seq_regD (sok xt) 11 (by kernel_rfl) fun K hn hp => ?_
      simp only [sy.down, argsTo, cellPut_some, Nat.reduceEqDiff, reduceIte, Nat.reduceLT, Nat.reduceAdd, Nat.reduceMul, Nat.reduceLeDiff, kn_cells, nlen23, nkn1, p1, p2, s4, g2, g3, g5, g6, hi, hl, nknl, nknt, naext0, naext1]
      refine callA_func (sok xt) (Ask_c xt _ p (hd _ hm4) _ _ _ _ fun m2 hm2 => ?_)
      simp only [sy.down, argsTo, cellPut_some, Nat.reduceEqDiff, reduceIte, Nat.reduceLT, Nat.reduceAdd, Nat.reduceMul, Nat.reduceLeDiff, kn_cells, nlen23, nkn1, p1, p2, s4, g2, g3, g5, g6, hi, hl, nknl, nknt, naext0, naext1, Bool.false_eq_true, WOCn_t hm2]
      rw [Hp.up_n] at hm2
      simp only [sy.down, argsTo, cellPut_some, Nat.reduceEqDiff, reduceIte, Nat.reduceLT, Nat.reduceAdd, Nat.reduceMul, Nat.reduceLeDiff, kn_cells, nlen23, nkn1, p1, p2, s4, g2, g3, g5, g6, hi, hl, nknl, nknt, naext0, naext1, Bool.false_eq_true, Hp.up_up]
      refine hn _ _ ?_
      clear hn hp K
      refine seq_reg fun K hn hp => ?_
      simp only [sy.down, argsTo, cellPut_some, Nat.reduceEqDiff, reduceIte, Nat.reduceLT, Nat.reduceAdd, Nat.reduceMul, Nat.reduceLeDiff, kn_cells, nlen23, nkn1, p1, p2, s4, g2, g3, g5, g6, hi, hl, nknl, nknt, naext0, naext1]
      refine callA_func (sok xt) (Journal_c xt _ p (hd _ (by omega)) fun m3 hm3 => ?_)
      rw [Hp.up_n] at hm3
      simp only [sy.down, argsTo, cellPut_some, Nat.reduceEqDiff, reduceIte, Nat.reduceLT, Nat.reduceAdd, Nat.reduceMul, Nat.reduceLeDiff, kn_cells, nlen23, nkn1, p1, p2, s4, g2, g3, g5, g6, hi, hl, nknl, nknt, naext0, naext1, Hp.up_up]
      refine hn _ _ ?_
      clear hn hp K
      refine seq_regD (sok xt) 24 (by kernel_rfl) fun K hn hp => ?_
      simp only [sy.down, argsTo, cellPut_some, Nat.reduceEqDiff, reduceIte, Nat.reduceLT, Nat.reduceAdd, Nat.reduceMul, Nat.reduceLeDiff, kn_cells, nlen23, nkn1, p1, p2, s4, g2, g3, g5, g6, hi, hl, nknl, nknt, naext0, naext1]
      refine callA_func (sok xt) (Enter_c xt _ p (hd _ (by omega)) _ _ _ _ fun m4 hm5 => ?_)
      simp only [sy.down, argsTo, cellPut_some, Nat.reduceEqDiff, reduceIte, Nat.reduceLT, Nat.reduceAdd, Nat.reduceMul, Nat.reduceLeDiff, kn_cells, nkn1, p1, p2, s4, g2, g3, g5, g6, hi, hl, nknl, nknt, naext0, naext1, Bool.false_eq_true, WOCn_t hm5, ne00, ne11, ne0n, nlen23, nabs]
      rw [Hp.up_n] at hm5
      simp only [sy.down, argsTo, cellPut_some, Nat.reduceEqDiff, reduceIte, Nat.reduceLT, Nat.reduceAdd, Nat.reduceMul, Nat.reduceLeDiff, kn_cells, nlen23, nkn1, p1, p2, s4, g2, g3, g5, g6, hi, hl, nknl, nknt, naext0, naext1, Bool.false_eq_true, Hp.up_up, ne00, ne11, ne0n, nabs]
      refine hn _ _ ?_
      clear hn hp K
      refine wpc_cond false (by simp only [sy.down, argsTo, cellPut_some, Nat.reduceEqDiff, reduceIte, Nat.reduceLT, Nat.reduceAdd, Nat.reduceMul, Nat.reduceLeDiff, kn_cells, nlen23, nkn1, p1, p2, s4, g2, g3, g5, g6, hi, hl, nknl, nknt, naext0, naext1]) (fun hx => by cases hx) (fun _ => ?_)
      refine wpc_skip (e1 _ ?_)
      have w1 := nwrap_succ hlt (by omega)
      refine reg fun K hn hp => ?_
      simp only [sy.down, argsTo, cellPut_some, Nat.reduceEqDiff, reduceIte, Nat.reduceLT, Nat.reduceAdd, Nat.reduceMul, Nat.reduceLeDiff, kn_cells, nlen23, nkn1, p1, p2, s4, g2, g3, g5, g6, hi, hl, nknl, nknt, naext0, naext1, w1]
      refine hn _ _ ?_
      clear hn hp K
      refine ⟨⟨k + 1, m4, _, rfl, by omega, (by simp [T.get_put, g2, g3, g5, g6]), (by simp [T.get_put, g2, g3, g5, g6]), (by simp [T.get_put, g2, g3, g5, g6]), (by simp [T.get_put, g2, g3, g5, g6]), by omega⟩, by simpa [T.get_put, muA] using (by omega : 2 - (k + 1) < 2 - k)⟩
    · refine seq_cond false (by simp only [sy.down, argsTo, cellPut_some, Nat.reduceEqDiff, reduceIte, Nat.reduceLT, Nat.reduceAdd, Nat.reduceMul, Nat.reduceLeDiff, kn_cells, nlen23, nkn1, p1, p2, s4, g2, g3, g5, g6, hlt]) (fun hx => by cases hx) (fun _ => ?_)
      refine seq_exit (A2 _ ?_)
      refine seq_reg fun K hn hp => ?_
      simp only [sy.down, argsTo, cellPut_some, Nat.reduceEqDiff, reduceIte, Nat.reduceLT, Nat.reduceAdd, Nat.reduceMul, Nat.reduceLeDiff, kn_cells, nlen23, nkn1, p1, p2, s4, g2, g3, g5, g6]
      refine callA_func (sok xt) (kc _ fun m hm => ?_)
      simp only [sy.down, argsTo, cellPut_some, Nat.reduceEqDiff, reduceIte, Nat.reduceLT, Nat.reduceAdd, Nat.reduceMul, Nat.reduceLeDiff, kn_cells, nlen23, nkn1, p1, p2, s4, g2, g3, g5, g6]
      refine hn _ _ (wpc_ret (end_1 res3s ?_))
      simp [T.get_put, isTrue]
  · exact ⟨0, h4.n, _, rfl, by omega, by simp [T.get_put, argsTo], by simp [T.get_put], by simp [T.get_put], by simp [T.get_put], Nat.le_refl _⟩
end Go.Proofs.Kn
