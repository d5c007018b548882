/- MvJ1: texts in a row, joined by a program. -/
import Derived.Test.YtnmfblokfponlaaGreatDoorQS
set_option linter.all false
open Nat (reduceAdd reduceMul reduceLT reduceEqDiff reduceLeDiff)
namespace Go.Proofs.Kn
open Go Go.Ev
set_option maxRecDepth 100000
set_option maxHeartbeats 4000000
theorem ft26 (xt : Addr → Option Value) : (SE xt).ft.get 26 = some Tryz.f26 := by kernel_rfl
theorem res26 : Tryz.f26.results.toList = [.tmp 4] := by kernel_rfl
theorem plain_c (xt : Addr → Option Value) (h : Hp) (m : Mp) (ha : m.At xt h) (R C : Nat) (his : m.Is R C) (hW : m.W = C) (N M : Nat) (v : AV) (G : Nat → Nat → Int × Int) (sg : SG h N M v R C G) (hM : M ≤ h.n) (hG : ∀ r c, 0 ≤ (G r c).1 ∧ (G r c).1 ≤ (G r c).2 ∧ (G r c).2 ≤ 60) {K : CR → Hp → Prop} (hk : ∀ n, h.n < n → K (.ret (.val (.bool true))) (h.up n)) : FnA (SE xt) 26 [m.av, v] h K := by
  have hR6 := his.r6
  have hC8 := his.c8
  have hR := his.hR
  refine FnA.calm ?_ hk
  clear hk K
  refine FnA.walk (sok xt) (ft26 xt) rfl 78 rfl ?_
  obtain ⟨o1, o2, o3, o4, o5⟩ := ha.wk.ones
  have hlen := sg.len
  refine seq_reg fun K hn hp => ?_
  simp only [sy.down, argsTo, cellPut_some, reduceEqDiff, reduceIte, reduceLT, reduceAdd, reduceMul, reduceLeDiff, syw.down, al27, al43, al48, al58, al225, al50, aext0, aext1, o1, o2, o3, o4, hlen, lt_dec]
  refine hn _ _ ?_
  clear hn hp K
  obtain ⟨h1, hh1⟩ : ∃ h1 : Hp, h1 = h.new (.cells m.cs 27) := ⟨_, rfl⟩
  rw [← hh1]
  have nh1 : h1.n = h.n + 1 := by rw [hh1]; rfl
  have sh1 : h1.t.get h.n = some (.cells m.cs 27) := by rw [hh1]; exact new_at _ _
  have kh1 : ∀ k, k < h.n → h1.t.get k = h.t.get k := fun k hk => by rw [hh1]; exact new_lt _ _ hk
  have fbh1 : Fr h.n h h1 := by rw [hh1]; exact (Fr.refl (Nat.le_refl _)).new _
  have fh1 := fbh1
  have ha1 := ha.fr fh1 (Nat.le_refl _)
  have sg1 : SG h1 N M v R C G := sg.fr fh1 hM
  have dC : decide ((C : Int) = (C : Int)) = true := decide_eq_true rfl
  have dR : decide ((R : Int) = (R : Int)) = true := decide_eq_true rfl
  refine seq_seq ?_
  refine seq_reg fun K hn hp => ?_
  simp only [sy.down, argsTo, cellPut_some, reduceEqDiff, reduceIte, reduceLT, reduceAdd, reduceMul, reduceLeDiff, syw.down, al27, al43, al48, al58, al225, al50, aext0, aext1, o1, o2, o3, o4, hlen, lt_dec, sh1, nh1]
  refine hn _ _ ?_
  clear hn hp K
  refine seq_block fun KA A1 A2 A3 A4 A5 => ?_
  refine wpc_loop (sok xt) (fun st => ∃ (r : Nat) (n : Nat) (tm : T AV), st = ⟨tm, 78, h1.up n, []⟩ ∧ r ≤ R ∧ tm.get 1 = some (v) ∧ tm.get 2 = some (.ptr h.n 0) ∧ tm.get 5 = some (iv r) ∧ h1.n ≤ n) (fun st => R - (match st.tm.get 5 with | some (.val (.int _ n)) => n.toNat | _ => 0)) ?_ ?_
  · rintro st ⟨r, n, tm, rfl, hkA, g1, g2, g5, hn1⟩
    have muA := g5
    have d9 : decide ((r : Int) < 9) = true := decide_eq_true (by omega)
    refine seq_seq ?_
    by_cases hr : r < R
    · refine seq_reg fun K hn hp => ?_
      simp only [sy.down, argsTo, cellPut_some, reduceEqDiff, reduceIte, reduceLT, reduceAdd, reduceMul, reduceLeDiff, syw.down, al27, al43, al48, al58, al225, al50, aext0, aext1, o1, o2, o3, o4, hlen, lt_dec, sh1, nh1, g1, g2, g5, d9, hr, decide_true]
      refine hn _ _ ?_
      clear hn hp K
      refine seq_cond true (by simp only [sy.down, argsTo, cellPut_some, reduceEqDiff, reduceIte, reduceLT, reduceAdd, reduceMul, reduceLeDiff, syw.down, al27, al43, al48, al58, al225, al50, aext0, aext1, o1, o2, o3, o4, hlen, lt_dec, sh1, nh1, g1, g2, g5]) (fun _ => ?_) (fun hx => by cases hx)
      obtain ⟨B, b, rws, z1, z2, z3, z4, z5, z6, z7, z8, z9, _⟩ := sg1.at_ hr
      have z10 := fun h' => sgl55 (C := C) b h'
      refine seq_skip ?_
      refine seq_block fun KB B1 B2 B3 B4 B5 => ?_
      refine seq_seq ?_
      refine seq_regW (sok xt) 0 0 8 [(3, 1), (4, 1)] (by kernel_rfl) fun K hn hp => ?_
      simp only [sy.down, argsTo, cellPut_some, reduceEqDiff, reduceIte, reduceLT, reduceAdd, reduceMul, reduceLeDiff, syw.down, al27, al43, al48, al58, al225, al50, aext0, aext1, o1, o2, o3, o4, hlen, lt_dec, sh1, nh1, g1, g2, g5, z1, z2, z3, z4, z10]
      refine callA_func (sok xt) (cols_c xt _ m (ha1.up hn1) fun n2 hn2 => ?_)
      simp only [Hp.up_n] at hn2
      simp only [sy.down, argsTo, cellPut_some, reduceEqDiff, reduceIte, reduceLT, reduceAdd, reduceMul, reduceLeDiff, syw.down, al27, al43, al48, al58, al225, al50, aext0, aext1, o1, o2, o3, o4, hlen, lt_dec, sh1, nh1, g1, g2, g5, z1, z2, z3, z4, z10, hn2, Hp.up_up, hW]
      refine hn _ _ ?_
      clear hn hp K
      refine wpc_cond false (by simp only [sy.down, argsTo, cellPut_some, reduceEqDiff, reduceIte, reduceLT, reduceAdd, reduceMul, reduceLeDiff, syw.down, al27, al43, al48, al58, al225, al50, aext0, aext1, o1, o2, o3, o4, hlen, lt_dec, sh1, nh1, g1, g2, g5, z1, z2, z3, z4, z10, dC, Bool.not_true]) (fun hx => by cases hx) (fun _ => ?_)
      refine seq_skip ?_
      refine seq_reg fun K hn hp => ?_
      simp only [sy.down, argsTo, cellPut_some, reduceEqDiff, reduceIte, reduceLT, reduceAdd, reduceMul, reduceLeDiff, syw.down, al27, al43, al48, al58, al225, al50, aext0, aext1, o1, o2, o3, o4, hlen, lt_dec, sh1, nh1, g1, g2, g5, z1, z2, z3, z4, z10]
      refine hn _ _ ?_
      clear hn hp K
      refine wpc_block fun KD D1 D2 D3 D4 D5 => ?_
      refine wpc_loop (sok xt) (fun st => ∃ (c : Nat) (nc : Nat) (tm : T AV), st = ⟨tm, 78, h1.up nc, []⟩ ∧ c ≤ C ∧ tm.get 1 = some (v) ∧ tm.get 2 = some (.ptr h.n 0) ∧ tm.get 5 = some (iv r) ∧ tm.get 6 = some (iv c) ∧ h1.n ≤ nc) (fun st => C - (match st.tm.get 6 with | some (.val (.int _ n)) => n.toNat | _ => 0)) ?_ ?_
      · rintro st ⟨c, nc, tm, rfl, hkD, g1, g2, g5, g6, hn3⟩
        have muD := g6
        refine seq_seq ?_
        refine seq_reg fun K hn hp => ?_
        simp only [sy.down, argsTo, cellPut_some, reduceEqDiff, reduceIte, reduceLT, reduceAdd, reduceMul, reduceLeDiff, syw.down, al27, al43, al48, al58, al225, al50, aext0, aext1, o1, o2, o3, o4, hlen, lt_dec, sh1, nh1, g1, g2, g5, z1, z2, z3, z4, z10, g6]
        refine hn _ _ ?_
        clear hn hp K
        by_cases hc : c < C
        · refine seq_cond true (by simp only [sy.down, argsTo, cellPut_some, reduceEqDiff, reduceIte, reduceLT, reduceAdd, reduceMul, reduceLeDiff, syw.down, al27, al43, al48, al58, al225, al50, aext0, aext1, o1, o2, o3, o4, hlen, lt_dec, sh1, nh1, g1, g2, g5, z1, z2, z3, z4, z10, g6, hc]) (fun _ => ?_) (fun hx => by cases hx)
          have x1 := sl55 (C := C) (b := b) hc
          have x2 := flatR_lo (G r) hc
          have x3 := flatR_hi (G r) hc
          obtain ⟨w1, w2, w3⟩ := hG r c
          have e1 : decide ((G r c).1 < 0) = false := decide_eq_false (by omega)
          have e2 : decide ((G r c).2 < (G r c).1) = false := decide_eq_false (by omega)
          have e3 : decide (60 < (G r c).2) = false := decide_eq_false (by omega)
          refine seq_skip ?_
          refine seq_block fun KE E1 E2 E3 E4 E5 => ?_
          refine seq_regD (sok xt) 39 (by kernel_rfl) fun K hn hp => ?_
          simp only [sy.down, argsTo, cellPut_some, reduceEqDiff, reduceIte, reduceLT, reduceAdd, reduceMul, reduceLeDiff, syw.down, al27, al43, al48, al58, al225, al50, aext0, aext1, o1, o2, o3, o4, hlen, lt_dec, sh1, nh1, g1, g2, g5, z1, z2, z3, z4, z10, g6, x1, x2, x3, e1, e2, e3]
          refine hn _ _ ?_
          clear hn hp K
          refine wpc_cond false (by simp only [sy.down, argsTo, cellPut_some, reduceEqDiff, reduceIte, reduceLT, reduceAdd, reduceMul, reduceLeDiff, syw.down, al27, al43, al48, al58, al225, al50, aext0, aext1, o1, o2, o3, o4, hlen, lt_dec, sh1, nh1, g1, g2, g5, z1, z2, z3, z4, z10, g6]) (fun hx => by cases hx) (fun _ => ?_)
          refine wpc_skip (E1 _ ?_)
          refine reg fun K hn hp => ?_
          simp only [sy.down, argsTo, cellPut_some, reduceEqDiff, reduceIte, reduceLT, reduceAdd, reduceMul, reduceLeDiff, syw.down, al27, al43, al48, al58, al225, al50, aext0, aext1, o1, o2, o3, o4, hlen, lt_dec, sh1, nh1, g1, g2, g5, z1, z2, z3, z4, z10, g6, wrap_succ hc (show C ≤ 9223372036854775807 by omega)]
          refine hn _ _ ?_
          clear hn hp K
          refine ⟨⟨c + 1, nc, _, rfl, by omega, (by simp [T.get_put, g1, g2, g5, g6]), (by simp [T.get_put, g1, g2, g5, g6]), (by simp [T.get_put, g1, g2, g5, g6]), (by simp [T.get_put, g1, g2, g5, g6]), hn3⟩, by simpa [T.get_put, muD] using (by omega : C - (c + 1) < C - c)⟩
        · refine seq_cond false (by simp only [sy.down, argsTo, cellPut_some, reduceEqDiff, reduceIte, reduceLT, reduceAdd, reduceMul, reduceLeDiff, syw.down, al27, al43, al48, al58, al225, al50, aext0, aext1, o1, o2, o3, o4, hlen, lt_dec, sh1, nh1, g1, g2, g5, z1, z2, z3, z4, z10, g6, hc]) (fun hx => by cases hx) (fun _ => ?_)
          refine seq_exit (D2 _ ?_)
          refine B1 _ ?_
          refine reg fun K hn hp => ?_
          simp only [sy.down, argsTo, cellPut_some, reduceEqDiff, reduceIte, reduceLT, reduceAdd, reduceMul, reduceLeDiff, syw.down, al27, al43, al48, al58, al225, al50, aext0, aext1, o1, o2, o3, o4, hlen, lt_dec, sh1, nh1, g1, g2, g5, z1, z2, z3, z4, z10, g6, wrap_succ hr (show R ≤ 9223372036854775807 by omega)]
          refine hn _ _ ?_
          clear hn hp K
          refine ⟨⟨r + 1, nc, _, rfl, by omega, (by simp [T.get_put, g1, g2, g5]), (by simp [T.get_put, g1, g2, g5]), (by simp [T.get_put, g1, g2, g5]), hn3⟩, by simpa [T.get_put, muA] using (by omega : R - (r + 1) < R - r)⟩
      · exact ⟨0, n2, _, rfl, Nat.zero_le _, (by simp [T.get_put, g1, g2, g5]), (by simp [T.get_put, g1, g2, g5]), (by simp [T.get_put, g1, g2, g5]), (by simp [T.get_put, g1, g2, g5]), by omega⟩
    · refine seq_reg fun K hn hp => ?_
      simp only [sy.down, argsTo, cellPut_some, reduceEqDiff, reduceIte, reduceLT, reduceAdd, reduceMul, reduceLeDiff, syw.down, al27, al43, al48, al58, al225, al50, aext0, aext1, o1, o2, o3, o4, hlen, lt_dec, sh1, nh1, g1, g2, g5, d9, hr, decide_false]
      refine hn _ _ ?_
      clear hn hp K
      refine seq_cond false (by simp only [sy.down, argsTo, cellPut_some, reduceEqDiff, reduceIte, reduceLT, reduceAdd, reduceMul, reduceLeDiff, syw.down, al27, al43, al48, al58, al225, al50, aext0, aext1, o1, o2, o3, o4, hlen, lt_dec, sh1, nh1, g1, g2, g5]) (fun hx => by cases hx) (fun _ => ?_)
      refine seq_exit (A2 _ ?_)
      refine seq_reg fun K hn hp => ?_
      simp only [sy.down, argsTo, cellPut_some, reduceEqDiff, reduceIte, reduceLT, reduceAdd, reduceMul, reduceLeDiff, syw.down, al27, al43, al48, al58, al225, al50, aext0, aext1, o1, o2, o3, o4, hlen, lt_dec, sh1, nh1, g1, g2, g5]
      refine callA_func (sok xt) (rows_c xt _ m (ha1.up hn1) fun n2 hn2 => ?_)
      simp only [Hp.up_n] at hn2
      simp only [sy.down, argsTo, cellPut_some, reduceEqDiff, reduceIte, reduceLT, reduceAdd, reduceMul, reduceLeDiff, syw.down, al27, al43, al48, al58, al225, al50, aext0, aext1, o1, o2, o3, o4, hlen, lt_dec, sh1, nh1, g1, g2, g5, Hp.up_up, hR]
      refine hn _ _ ?_
      refine wpc_ret (end_1 res26 ⟨?_, fh1.up (by omega)⟩)
      simp [T.get_put]
  · exact ⟨0, h1.n, _, rfl, Nat.zero_le _, (by simp [T.get_put]), (by simp [T.get_put]), (by simp [T.get_put]), Nat.le_refl _⟩
end Go.Proofs.Kn
