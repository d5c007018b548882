/- MvJ2: texts in a row, joined by a program. -/
import Derived.Test.YtnmfblokfponlaaGreatDoorQXMvJ1
set_option linter.all false
open Nat (reduceAdd reduceMul reduceLT reduceEqDiff reduceLeDiff)
namespace Go.Proofs.Kn
open Go Go.Ev
set_option maxRecDepth 100000
set_option maxHeartbeats 4000000
theorem ftS8 (xt : Addr → Option Value) : (SE xt).ft.get 8 = some Tryz.f8 := by kernel_rfl
theorem resS8 : Tryz.f8.results.toList = [.tmp 4] := by kernel_rfl
theorem endL_shape {m : Mp} {R C : Nat} (hm : m.Is R C) (w : AV) (b : Bool) (G : Nat → Nat → Int × Int) : (⟨w, endL b G R C⟩ : Gr).shape m = true := by
  refine decide_eq_true (List.ext_getElem (by simp [endL_len, hm.hR]) fun i p1 p2 => ?_)
  have hi : i < m.cells.length := by simpa using p2
  have := hm.hC i (by rw [← hm.hR]; exact hi)
  rw [List.getD_eq_getElem?_getD, List.getElem?_eq_getElem hi, Option.getD_some] at this
  simp [endL, this]
theorem endL_fits {m : Mp} {R C : Nat} (hm : m.Is R C) (w : AV) (b : Bool) (G : Nat → Nat → Int × Int) (ht : m.Truth R C (fun r c => endOf b (G r c))) : fitsB m ⟨w, endL b G R C⟩ = true :=
  (fitsB_iff hm _).2 (Mp.Truth.congr hm ht fun _ hr _ hc => endL_t w b G hr hc)
theorem true_true (xt : Addr → Option Value) (h : Hp) (m : Mp) (ha : m.At xt h) (g : Gr) (hg : g.At xt h) : FnA (SE xt) 8 [m.av, g.v] h isTrue := by
  refine FnA.walk (sok xt) (ftS8 xt) rfl 147 rfl ?_
  obtain ⟨o1, o2, o3, o4, o5⟩ := ha.wk.ones
  refine seq_reg fun K hn hp => ?_
  simp only [sy.down, argsTo, cellPut_some, reduceEqDiff, reduceIte, reduceLT, reduceAdd, reduceMul, reduceLeDiff, syw.down, al27, al43, al48, al58, al225, al50, aext0, aext1, o1, o2, o3, o4]
  refine hn _ _ ?_
  clear hn hp K
  obtain ⟨h1, hh1⟩ : ∃ h1 : Hp, h1 = h.new (.cells m.cs 27) := ⟨_, rfl⟩
  rw [← hh1]
  have nh1 : h1.n = h.n + 1 := by rw [hh1]; rfl
  have sh1 : h1.t.get h.n = some (.cells m.cs 27) := by rw [hh1]; exact new_at _ _
  have kh1 : ∀ k, k < h.n → h1.t.get k = h.t.get k := fun k hk => by rw [hh1]; exact new_lt _ _ hk
  have fbh1 : Fr h.n h h1 := by rw [hh1]; exact (Fr.refl (Nat.le_refl _)).new _
  have fh1 := fbh1
  have ha1 := ha.fr fh1 (Nat.le_refl _)
  have hg1 := hg.fr fh1 (Nat.le_refl _)
  refine seq_seq ?_
  refine seq_reg fun K hn hp => ?_
  simp only [sy.down, argsTo, cellPut_some, reduceEqDiff, reduceIte, reduceLT, reduceAdd, reduceMul, reduceLeDiff, syw.down, al27, al43, al48, al58, al225, al50, aext0, aext1, o1, o2, o3, o4, sh1, nh1]
  refine callA_func (sok xt) (short_c xt h1 m ha1 fun n1 hn1 => ?_)
  cases q1 : m.short
  · simp only [sy.down, argsTo, cellPut_some, reduceEqDiff, reduceIte, reduceLT, reduceAdd, reduceMul, reduceLeDiff, syw.down, al27, al43, al48, al58, al225, al50, aext0, aext1, o1, o2, o3, o4, sh1, nh1, q1]
    refine hn _ _ ?_
    clear hn hp K
    refine seq_cond true (by simp only [sy.down, argsTo, cellPut_some, reduceEqDiff, reduceIte, reduceLT, reduceAdd, reduceMul, reduceLeDiff, syw.down, al27, al43, al48, al58, al225, al50, aext0, aext1, o1, o2, o3, o4, sh1, nh1]) (fun _ => ?_) (fun hx => by cases hx)
    refine seq_seq ?_
    refine seq_reg fun K hn hp => ?_
    simp only [sy.down, argsTo, cellPut_some, reduceEqDiff, reduceIte, reduceLT, reduceAdd, reduceMul, reduceLeDiff, syw.down, al27, al43, al48, al58, al225, al50, aext0, aext1, o1, o2, o3, o4, sh1, nh1]
    refine callA_func (sok xt) (known_c xt _ fun n2 hn2 => ?_)
    simp only [sy.down, argsTo, cellPut_some, reduceEqDiff, reduceIte, reduceLT, reduceAdd, reduceMul, reduceLeDiff, syw.down, al27, al43, al48, al58, al225, al50, aext0, aext1, o1, o2, o3, o4, sh1, nh1]
    refine hn _ _ (seq_ret (end_1 resS8 ?_))
    simp [T.get_put, isTrue]
  simp only [sy.down, argsTo, cellPut_some, reduceEqDiff, reduceIte, reduceLT, reduceAdd, reduceMul, reduceLeDiff, syw.down, al27, al43, al48, al58, al225, al50, aext0, aext1, o1, o2, o3, o4, sh1, nh1, q1]
  refine callA_func (sok xt) (sized_c xt _ g (hg1.up (Nat.le_of_lt hn1)) fun n2 hn2 => ?_)
  simp only [Hp.up_n] at hn2
  cases q2 : sizedB g.ll
  · simp only [sy.down, argsTo, cellPut_some, reduceEqDiff, reduceIte, reduceLT, reduceAdd, reduceMul, reduceLeDiff, syw.down, al27, al43, al48, al58, al225, al50, aext0, aext1, o1, o2, o3, o4, sh1, nh1, q2, Hp.up_up]
    refine hn _ _ ?_
    clear hn hp K
    refine seq_cond true (by simp only [sy.down, argsTo, cellPut_some, reduceEqDiff, reduceIte, reduceLT, reduceAdd, reduceMul, reduceLeDiff, syw.down, al27, al43, al48, al58, al225, al50, aext0, aext1, o1, o2, o3, o4, sh1, nh1]) (fun _ => ?_) (fun hx => by cases hx)
    refine seq_seq ?_
    refine seq_reg fun K hn hp => ?_
    simp only [sy.down, argsTo, cellPut_some, reduceEqDiff, reduceIte, reduceLT, reduceAdd, reduceMul, reduceLeDiff, syw.down, al27, al43, al48, al58, al225, al50, aext0, aext1, o1, o2, o3, o4, sh1, nh1]
    refine callA_func (sok xt) (known_c xt _ fun n2 hn2 => ?_)
    simp only [sy.down, argsTo, cellPut_some, reduceEqDiff, reduceIte, reduceLT, reduceAdd, reduceMul, reduceLeDiff, syw.down, al27, al43, al48, al58, al225, al50, aext0, aext1, o1, o2, o3, o4, sh1, nh1]
    refine hn _ _ (seq_ret (end_1 resS8 ?_))
    simp [T.get_put, isTrue]
  simp only [sy.down, argsTo, cellPut_some, reduceEqDiff, reduceIte, reduceLT, reduceAdd, reduceMul, reduceLeDiff, syw.down, al27, al43, al48, al58, al225, al50, aext0, aext1, o1, o2, o3, o4, sh1, nh1, q2, Hp.up_up]
  refine callA_func (sok xt) (rmap_c xt _ m (ha1.up (by omega)) fun n3 hn3 => ?_)
  simp only [Hp.up_n] at hn3
  cases q : m.ok
  · simp only [sy.down, argsTo, cellPut_some, reduceEqDiff, reduceIte, reduceLT, reduceAdd, reduceMul, reduceLeDiff, syw.down, al27, al43, al48, al58, al225, al50, aext0, aext1, o1, o2, o3, o4, sh1, nh1, q, Hp.up_up]
    refine hn _ _ ?_
    clear hn hp K
    refine seq_cond true (by simp only [sy.down, argsTo, cellPut_some, reduceEqDiff, reduceIte, reduceLT, reduceAdd, reduceMul, reduceLeDiff, syw.down, al27, al43, al48, al58, al225, al50, aext0, aext1, o1, o2, o3, o4, sh1, nh1]) (fun _ => ?_) (fun hx => by cases hx)
    refine seq_seq ?_
    refine seq_reg fun K hn hp => ?_
    simp only [sy.down, argsTo, cellPut_some, reduceEqDiff, reduceIte, reduceLT, reduceAdd, reduceMul, reduceLeDiff, syw.down, al27, al43, al48, al58, al225, al50, aext0, aext1, o1, o2, o3, o4, sh1, nh1]
    refine callA_func (sok xt) (known_c xt _ fun n2 hn2 => ?_)
    simp only [sy.down, argsTo, cellPut_some, reduceEqDiff, reduceIte, reduceLT, reduceAdd, reduceMul, reduceLeDiff, syw.down, al27, al43, al48, al58, al225, al50, aext0, aext1, o1, o2, o3, o4, sh1, nh1]
    refine hn _ _ (seq_ret (end_1 resS8 ?_))
    simp [T.get_put, isTrue]
  have his := Mp.ok_is q
  have hR6 := his.r6
  have hC8 := his.c8
  simp only [sy.down, argsTo, cellPut_some, reduceEqDiff, reduceIte, reduceLT, reduceAdd, reduceMul, reduceLeDiff, syw.down, al27, al43, al48, al58, al225, al50, aext0, aext1, o1, o2, o3, o4, sh1, nh1, q, Hp.up_up]
  refine callA_func (sok xt) (sz_c xt _ m (ha1.up (by omega)) g (hg1.up (by omega)) fun n4 hn4 => ?_)
  simp only [Hp.up_n] at hn4
  rw [sz_shape his]
  cases q3 : g.shape m
  · simp only [sy.down, argsTo, cellPut_some, reduceEqDiff, reduceIte, reduceLT, reduceAdd, reduceMul, reduceLeDiff, syw.down, al27, al43, al48, al58, al225, al50, aext0, aext1, o1, o2, o3, o4, sh1, nh1, q3, Hp.up_up]
    refine hn _ _ ?_
    clear hn hp K
    refine seq_cond true (by simp only [sy.down, argsTo, cellPut_some, reduceEqDiff, reduceIte, reduceLT, reduceAdd, reduceMul, reduceLeDiff, syw.down, al27, al43, al48, al58, al225, al50, aext0, aext1, o1, o2, o3, o4, sh1, nh1]) (fun _ => ?_) (fun hx => by cases hx)
    refine seq_seq ?_
    refine seq_reg fun K hn hp => ?_
    simp only [sy.down, argsTo, cellPut_some, reduceEqDiff, reduceIte, reduceLT, reduceAdd, reduceMul, reduceLeDiff, syw.down, al27, al43, al48, al58, al225, al50, aext0, aext1, o1, o2, o3, o4, sh1, nh1]
    refine callA_func (sok xt) (known_c xt _ fun n2 hn2 => ?_)
    simp only [sy.down, argsTo, cellPut_some, reduceEqDiff, reduceIte, reduceLT, reduceAdd, reduceMul, reduceLeDiff, syw.down, al27, al43, al48, al58, al225, al50, aext0, aext1, o1, o2, o3, o4, sh1, nh1]
    refine hn _ _ (seq_ret (end_1 resS8 ?_))
    simp [T.get_put, isTrue]
  simp only [sy.down, argsTo, cellPut_some, reduceEqDiff, reduceIte, reduceLT, reduceAdd, reduceMul, reduceLeDiff, syw.down, al27, al43, al48, al58, al225, al50, aext0, aext1, o1, o2, o3, o4, sh1, nh1, q3, Hp.up_up]
  refine hn _ _ ?_
  clear hn hp K
  refine seq_cond false (by simp only [sy.down, argsTo, cellPut_some, reduceEqDiff, reduceIte, reduceLT, reduceAdd, reduceMul, reduceLeDiff, syw.down, al27, al43, al48, al58, al225, al50, aext0, aext1, o1, o2, o3, o4, sh1, nh1]) (fun hx => by cases hx) (fun _ => ?_)
  refine seq_skip ?_
  refine seq_reg fun K hn hp => ?_
  simp only [sy.down, argsTo, cellPut_some, reduceEqDiff, reduceIte, reduceLT, reduceAdd, reduceMul, reduceLeDiff, syw.down, al27, al43, al48, al58, al225, al50, aext0, aext1, o1, o2, o3, o4, sh1, nh1]
  refine callA_func (sok xt) (Fits_c xt _ m (ha1.up (by omega)) g (hg1.up (by omega)) fun n5 hn5 => ?_)
  simp only [Hp.up_n] at hn5
  simp only [sy.down, argsTo, cellPut_some, reduceEqDiff, reduceIte, reduceLT, reduceAdd, reduceMul, reduceLeDiff, syw.down, al27, al43, al48, al58, al225, al50, aext0, aext1, o1, o2, o3, o4, sh1, nh1, q, q3, Bool.true_and, Hp.up_up]
  refine hn _ _ ?_
  clear hn hp K
  refine seq_reg fun K hn hp => ?_
  simp only [sy.down, argsTo, cellPut_some, reduceEqDiff, reduceIte, reduceLT, reduceAdd, reduceMul, reduceLeDiff, syw.down, al27, al43, al48, al58, al225, al50, aext0, aext1, o1, o2, o3, o4, sh1, nh1]
  refine callA_func (sok xt) (FnA.mono (thick_c xt (h1.up n5) m (ha1.up (by omega))) fun res h5 hres => ?_)
  obtain ⟨f5, hres⟩ := hres
  rw [q] at hres
  have fr5 : Fr h.n h h5 := (fh1.up (by omega)).trans f5 (by simp only [Hp.up_n]; omega)
  have s5 : h5.t.get h.n = some (.cells m.cs 27) := by rw [f5.at_ _ (.inl (by simp only [Hp.up_n]; omega))]; exact sh1
  have ha5 := ha.fr fr5 (Nat.le_refl _)
  have hg5 := hg.fr fr5 (Nat.le_refl _)
  cases hb : m.bnd with
  | none =>
    rw [hb] at hres
    have hres : res = .ret (.tup [nilS, iv 7]) := hres
    obtain rfl := hres
    have qf : fitsB m g = false := by
      cases qq : fitsB m g
      · rfl
      · obtain ⟨G, h1, _⟩ := truth_bnd his ((fitsB_iff his g).1 qq)
        rw [hb] at h1; cases h1
    simp only [sy.down, argsTo, cellPut_some, reduceEqDiff, reduceIte, reduceLT, reduceAdd, reduceMul, reduceLeDiff, syw.down, al27, al43, al48, al58, al225, al50, aext0, aext1, o1, o2, o3, o4, nh1, s5, d22, d02, d20, d77, d00, d70, dn0, nil51, qf]
    refine hn _ _ ?_
    clear hn hp K
    refine seq_seq ?_
    refine seq_reg fun K hn hp => ?_
    simp only [sy.down, argsTo, cellPut_some, reduceEqDiff, reduceIte, reduceLT, reduceAdd, reduceMul, reduceLeDiff, syw.down, al27, al43, al48, al58, al225, al50, aext0, aext1, o1, o2, o3, o4, nh1, s5, d22, d02, d20, d77, d00, d70, dn0, nil51]
    refine hn _ _ ?_
    clear hn hp K
    refine seq_cond false (by simp only [sy.down, argsTo, cellPut_some, reduceEqDiff, reduceIte, reduceLT, reduceAdd, reduceMul, reduceLeDiff, syw.down, al27, al43, al48, al58, al225, al50, aext0, aext1, o1, o2, o3, o4, nh1, s5, d22, d02, d20, d77, d00, d70, dn0, nil51]) (fun hx => by cases hx) (fun _ => ?_)
    refine seq_skip ?_
    refine seq_seq ?_
    refine seq_reg fun K hn hp => ?_
    simp only [sy.down, argsTo, cellPut_some, reduceEqDiff, reduceIte, reduceLT, reduceAdd, reduceMul, reduceLeDiff, syw.down, al27, al43, al48, al58, al225, al50, aext0, aext1, o1, o2, o3, o4, nh1, s5, d22, d02, d20, d77, d00, d70, dn0, nil51]
    refine hn _ _ ?_
    clear hn hp K
    refine seq_cond true (by simp only [sy.down, argsTo, cellPut_some, reduceEqDiff, reduceIte, reduceLT, reduceAdd, reduceMul, reduceLeDiff, syw.down, al27, al43, al48, al58, al225, al50, aext0, aext1, o1, o2, o3, o4, nh1, s5, d22, d02, d20, d77, d00, d70, dn0, nil51]) (fun _ => ?_) (fun hx => by cases hx)
    refine seq_seq ?_
    refine seq_reg fun K hn hp => ?_
    simp only [sy.down, argsTo, cellPut_some, reduceEqDiff, reduceIte, reduceLT, reduceAdd, reduceMul, reduceLeDiff, syw.down, al27, al43, al48, al58, al225, al50, aext0, aext1, o1, o2, o3, o4, nh1, s5, d22, d02, d20, d77, d00, d70, dn0, nil51]
    refine callA_func (sok xt) (known_c xt _ fun n7 hn7 => ?_)
    simp only [sy.down, argsTo, cellPut_some, reduceEqDiff, reduceIte, reduceLT, reduceAdd, reduceMul, reduceLeDiff, syw.down, al27, al43, al48, al58, al225, al50, aext0, aext1, o1, o2, o3, o4, nh1, s5, d22, d02, d20, d77, d00, d70, dn0, nil51]
    refine hn _ _ (seq_ret (end_1 resS8 ?_))
    simp [T.get_put, isTrue]
  | some G =>
    rw [hb] at hres
    obtain ⟨tv, M, rfl, sg, m1, m2⟩ := hres
    obtain ⟨_, gok, gsub, tlo, thi⟩ := bnd_some his hb
    simp only [sy.down, argsTo, cellPut_some, reduceEqDiff, reduceIte, reduceLT, reduceAdd, reduceMul, reduceLeDiff, syw.down, al27, al43, al48, al58, al225, al50, aext0, aext1, o1, o2, o3, o4, nh1, s5, d22, d02, d20, d77, d00, d70, dn0, nil51]
    refine hn _ _ ?_
    clear hn hp K
    refine seq_seq ?_
    refine seq_reg fun K hn hp => ?_
    simp only [sy.down, argsTo, cellPut_some, reduceEqDiff, reduceIte, reduceLT, reduceAdd, reduceMul, reduceLeDiff, syw.down, al27, al43, al48, al58, al225, al50, aext0, aext1, o1, o2, o3, o4, nh1, s5, d22, d02, d20, d77, d00, d70, dn0, nil51]
    refine hn _ _ ?_
    clear hn hp K
    refine seq_cond false (by simp only [sy.down, argsTo, cellPut_some, reduceEqDiff, reduceIte, reduceLT, reduceAdd, reduceMul, reduceLeDiff, syw.down, al27, al43, al48, al58, al225, al50, aext0, aext1, o1, o2, o3, o4, nh1, s5, d22, d02, d20, d77, d00, d70, dn0, nil51]) (fun hx => by cases hx) (fun _ => ?_)
    refine seq_skip ?_
    refine seq_seq ?_
    refine seq_reg fun K hn hp => ?_
    simp only [sy.down, argsTo, cellPut_some, reduceEqDiff, reduceIte, reduceLT, reduceAdd, reduceMul, reduceLeDiff, syw.down, al27, al43, al48, al58, al225, al50, aext0, aext1, o1, o2, o3, o4, nh1, s5, d22, d02, d20, d77, d00, d70, dn0, nil51]
    refine hn _ _ ?_
    clear hn hp K
    refine seq_cond false (by simp only [sy.down, argsTo, cellPut_some, reduceEqDiff, reduceIte, reduceLT, reduceAdd, reduceMul, reduceLeDiff, syw.down, al27, al43, al48, al58, al225, al50, aext0, aext1, o1, o2, o3, o4, nh1, s5, d22, d02, d20, d77, d00, d70, dn0, nil51]) (fun hx => by cases hx) (fun _ => ?_)
    refine seq_skip ?_
    refine seq_seq ?_
    refine seq_reg fun K hn hp => ?_
    simp only [sy.down, argsTo, cellPut_some, reduceEqDiff, reduceIte, reduceLT, reduceAdd, reduceMul, reduceLeDiff, syw.down, al27, al43, al48, al58, al225, al50, aext0, aext1, o1, o2, o3, o4, nh1, s5, d22, d02, d20, d77, d00, d70, dn0, nil51]
    have hbox : ∀ r c, 0 ≤ (G r c).1 ∧ (G r c).1 ≤ (G r c).2 ∧ (G r c).2 ≤ 60 := fun r c => by
      have b1 := gok r c
      have b2 := gsub r c
      simp only [Mp.F0] at b2
      split at b2 <;> simp at b2 <;> omega
    refine callA_func (sok xt) (plain_c xt h5 m ha5 m.cells.length m.W his rfl _ M tv G sg m2 hbox fun n6 hn6 => ?_)
    simp only [sy.down, argsTo, cellPut_some, reduceEqDiff, reduceIte, reduceLT, reduceAdd, reduceMul, reduceLeDiff, syw.down, al27, al43, al48, al58, al225, al50, aext0, aext1, o1, o2, o3, o4, nh1, s5, d22, d02, d20, d77, d00, d70, dn0, nil51]
    refine hn _ _ ?_
    clear hn hp K
    refine seq_cond false (by simp only [sy.down, argsTo, cellPut_some, reduceEqDiff, reduceIte, reduceLT, reduceAdd, reduceMul, reduceLeDiff, syw.down, al27, al43, al48, al58, al225, al50, aext0, aext1, o1, o2, o3, o4, nh1, s5, d22, d02, d20, d77, d00, d70, dn0, nil51]) (fun hx => by cases hx) (fun _ => ?_)
    refine seq_skip ?_
    have fl5 := fr5.le
    have hlt5 : h.n < h5.n := by have := f5.le; simp only [Hp.up_n] at this; omega
    obtain ⟨h6, hh6⟩ : ∃ x, x = h5.up n6 := ⟨_, rfl⟩
    rw [← hh6]
    have fr6 : Fr h.n h h6 := by rw [hh6]; exact fr5.up (by omega)
    have s6 : h6.t.get h.n = some (.cells m.cs 27) := by rw [hh6]; exact s5
    have le6 : M ≤ h6.n := by rw [hh6, Hp.up_n]; omega
    have sg6 : SG h6 (h1.up n5).n M tv m.cells.length m.W G := by rw [hh6]; exact sg.up _
    have lt6 : h.n < h6.n := by rw [hh6, Hp.up_n]; omega
    refine seq_regW (sok xt) 0 0 9 [(0, 1)] (by kernel_rfl) fun K hn hp => ?_
    simp only [sy.down, argsTo, cellPut_some, reduceEqDiff, reduceIte, reduceLT, reduceAdd, reduceMul, reduceLeDiff, syw.down, al27, al43, al48, al58, al225, al50, aext0, aext1, o1, o2, o3, o4, nh1, d22, d02, d20, d77, d00, d70, dn0, nil51, s6]
    refine callA_func (sok xt) (FnA.inc (FnA.mono (ends_c xt h6 _ M _ _ tv _ sg6 le6 (by omega) (by omega) false) fun res ka hres => ?_))
    obtain ⟨wa, rfl, fa, rowsa⟩ := hres
    obtain ⟨ja, hja⟩ : ∃ j, j = ka.up (ka.n + 1) := ⟨_, rfl⟩
    have fla := fa.le
    have gja : h6.n < ja.n := by rw [hja, Hp.up_n]; omega
    have fja : Fr h6.n h6 ja := by rw [hja]; exact fa.up (Nat.le_succ _)
    have sja := (fja.at_ h.n (.inl (by omega))).trans s6
    have rja : LRows xt ja h6.n 1 75 wa ((endL false G m.cells.length m.W).map fun l => l.map Kn.c1) := by rw [hja]; exact rowsa.up (Nat.le_succ _)
    rw [← hja]
    simp only [sy.down, argsTo, cellPut_some, reduceEqDiff, reduceIte, reduceLT, reduceAdd, reduceMul, reduceLeDiff, syw.down, al27, al43, al48, al58, al225, al50, aext0, aext1, o1, o2, o3, o4, nh1, d22, d02, d20, d77, d00, d70, dn0, nil51, s6, gja, sja]
    have frja : Fr h.n h ja := fr6.trans fja (by omega)
    have gaa := ends_at rja (by omega) (by omega)
    have gsa := endL_shape his wa false G
    have gta := endL_fits his wa false G tlo
    refine callA_func (sok xt) (Fits_c xt ja m (ha.fr frja (Nat.le_refl _)) ⟨wa, endL false G m.cells.length m.W⟩ gaa fun pa hpa => ?_)
    simp only [sy.down, argsTo, cellPut_some, reduceEqDiff, reduceIte, reduceLT, reduceAdd, reduceMul, reduceLeDiff, syw.down, al27, al43, al48, al58, al225, al50, aext0, aext1, o1, o2, o3, o4, nh1, d22, d02, d20, d77, d00, d70, dn0, nil51, s6, q, gsa, gta, Bool.and_self, hpa, sja]
    refine hn _ _ ?_
    clear hn hp K
    obtain ⟨h7, hh7⟩ : ∃ x, x = ja.up pa := ⟨_, rfl⟩
    rw [← hh7]
    have fr7 : Fr h.n h h7 := by rw [hh7]; exact frja.up (by omega)
    have s7 : h7.t.get h.n = some (.cells m.cs 27) := by rw [hh7]; exact sja
    have le7 : M ≤ h7.n := by rw [hh7, Hp.up_n]; omega
    have sg7 : SG h7 (h1.up n5).n M tv m.cells.length m.W G := by rw [hh7]; exact (sg6.fr fja le6).up _
    have lt7 : h.n < h7.n := by rw [hh7, Hp.up_n]; omega
    refine seq_regW (sok xt) 0 0 9 [(0, 1)] (by kernel_rfl) fun K hn hp => ?_
    simp only [sy.down, argsTo, cellPut_some, reduceEqDiff, reduceIte, reduceLT, reduceAdd, reduceMul, reduceLeDiff, syw.down, al27, al43, al48, al58, al225, al50, aext0, aext1, o1, o2, o3, o4, nh1, d22, d02, d20, d77, d00, d70, dn0, nil51, s7]
    refine callA_func (sok xt) (FnA.inc (FnA.mono (ends_c xt h7 _ M _ _ tv _ sg7 le7 (by omega) (by omega) true) fun res kb hres => ?_))
    obtain ⟨wb, rfl, fb, rowsb⟩ := hres
    obtain ⟨jb, hjb⟩ : ∃ j, j = kb.up (kb.n + 1) := ⟨_, rfl⟩
    have flb := fb.le
    have gjb : h7.n < jb.n := by rw [hjb, Hp.up_n]; omega
    have fjb : Fr h7.n h7 jb := by rw [hjb]; exact fb.up (Nat.le_succ _)
    have sjb := (fjb.at_ h.n (.inl (by omega))).trans s7
    have rjb : LRows xt jb h7.n 1 75 wb ((endL true G m.cells.length m.W).map fun l => l.map Kn.c1) := by rw [hjb]; exact rowsb.up (Nat.le_succ _)
    rw [← hjb]
    simp only [sy.down, argsTo, cellPut_some, reduceEqDiff, reduceIte, reduceLT, reduceAdd, reduceMul, reduceLeDiff, syw.down, al27, al43, al48, al58, al225, al50, aext0, aext1, o1, o2, o3, o4, nh1, d22, d02, d20, d77, d00, d70, dn0, nil51, s7, gjb, sjb]
    have frjb : Fr h.n h jb := fr7.trans fjb (by omega)
    have gab := ends_at rjb (by omega) (by omega)
    have gsb := endL_shape his wb true G
    have gtb := endL_fits his wb true G thi
    refine callA_func (sok xt) (Fits_c xt jb m (ha.fr frjb (Nat.le_refl _)) ⟨wb, endL true G m.cells.length m.W⟩ gab fun pb hpb => ?_)
    simp only [sy.down, argsTo, cellPut_some, reduceEqDiff, reduceIte, reduceLT, reduceAdd, reduceMul, reduceLeDiff, syw.down, al27, al43, al48, al58, al225, al50, aext0, aext1, o1, o2, o3, o4, nh1, d22, d02, d20, d77, d00, d70, dn0, nil51, s7, q, gsb, gtb, Bool.and_self, hpb, sjb]
    refine hn _ _ ?_
    clear hn hp K
    obtain ⟨h8, hh8⟩ : ∃ x, x = jb.up pb := ⟨_, rfl⟩
    rw [← hh8]
    have fr8 : Fr h.n h h8 := by rw [hh8]; exact frjb.up (by omega)
    have s8 : h8.t.get h.n = some (.cells m.cs 27) := by rw [hh8]; exact sjb
    have le8 : M ≤ h8.n := by rw [hh8, Hp.up_n]; omega
    have sg8 : SG h8 (h1.up n5).n M tv m.cells.length m.W G := by rw [hh8]; exact (sg7.fr fjb le7).up _
    have lt8 : h.n < h8.n := by rw [hh8, Hp.up_n]; omega
    refine seq_seq ?_
    refine seq_reg fun K hn hp => ?_
    simp only [sy.down, argsTo, cellPut_some, reduceEqDiff, reduceIte, reduceLT, reduceAdd, reduceMul, reduceLeDiff, syw.down, al27, al43, al48, al58, al225, al50, aext0, aext1, o1, o2, o3, o4, nh1, d22, d02, d20, d77, d00, d70, dn0, nil51, s8]
    refine hn _ _ ?_
    clear hn hp K
    refine seq_cond false (by simp only [sy.down, argsTo, cellPut_some, reduceEqDiff, reduceIte, reduceLT, reduceAdd, reduceMul, reduceLeDiff, syw.down, al27, al43, al48, al58, al225, al50, aext0, aext1, o1, o2, o3, o4, nh1, d22, d02, d20, d77, d00, d70, dn0, nil51, s8]) (fun hx => by cases hx) (fun _ => ?_)
    refine seq_skip ?_
    have hg8 := hg.fr fr8 (Nat.le_refl _)
    have hlen := sg.len
    have hsz := shape_len q3
    refine seq_seq ?_
    refine seq_reg fun K hn hp => ?_
    simp only [sy.down, argsTo, cellPut_some, reduceEqDiff, reduceIte, reduceLT, reduceAdd, reduceMul, reduceLeDiff, syw.down, al27, al43, al48, al58, al225, al50, aext0, aext1, o1, o2, o3, o4, nh1, d22, d02, d20, d77, d00, d70, dn0, nil51, s8, hlen, lt_dec]
    refine hn _ _ ?_
    clear hn hp K
    refine seq_block fun KA A1 A2 A3 A4 A5 => ?_
    refine wpc_loop (sok xt) (fun st => ∃ (i : Nat)  (tm : T AV), st = ⟨tm, 147, h8, []⟩ ∧ i ≤ m.cells.length ∧ tm.get 1 = some (g.v) ∧ tm.get 5 = some (.val (.bool (fitsB m g))) ∧ tm.get 7 = some (tv) ∧ tm.get 13 = some (iv i) ∧ h.n < h8.n) (fun st => m.cells.length - (match st.tm.get 13 with | some (.val (.int _ n)) => n.toNat | _ => 0)) ?_ ?_
    · rintro st ⟨i, tm, rfl, hkA, g1, g5, g7, g13, _hh⟩
      have muA := g13
      refine seq_seq ?_
      by_cases hi : i < m.cells.length
      · rcases Bool.eq_false_or_eq_true (fitsB m g) with qf | qf
        · refine seq_reg fun K hn hp => ?_
          simp only [sy.down, argsTo, cellPut_some, reduceEqDiff, reduceIte, reduceLT, reduceAdd, reduceMul, reduceLeDiff, syw.down, al27, al43, al48, al58, al225, al50, aext0, aext1, o1, o2, o3, o4, nh1, d22, d02, d20, d77, d00, d70, dn0, nil51, s8, hlen, lt_dec, g1, g5, g7, g13, hi, decide_true, qf]
          refine hn _ _ ?_
          clear hn hp K
          refine seq_cond true (by simp only [sy.down, argsTo, cellPut_some, reduceEqDiff, reduceIte, reduceLT, reduceAdd, reduceMul, reduceLeDiff, syw.down, al27, al43, al48, al58, al225, al50, aext0, aext1, o1, o2, o3, o4, nh1, d22, d02, d20, d77, d00, d70, dn0, nil51, s8, hlen, lt_dec, g1, g5, g7, g13]) (fun _ => ?_) (fun hx => by cases hx)
          obtain ⟨B, bb, rws, z1, z2, z3, z4, z5, z6, z7, z8, z9, _⟩ := sg8.at_ hi
          have z10 := fun h' => sgl55 (C := m.W) bb h'
          obtain ⟨v, i1, i2, i3, i4⟩ := hg8.rowD (i := i) (by omega)
          obtain ⟨l, hl⟩ : ∃ l, l = g.ll.getD i [] := ⟨_, rfl⟩
          have hlC : l.length = m.W := by rw [hl, shape_row q3]; exact his.hC i hi
          rw [← hl] at i3 i4
          obtain ⟨G', hG', hin⟩ := truth_bnd his ((fitsB_iff his g).1 qf)
          obtain rfl : G' = G := by rw [hb] at hG'; cases hG'; rfl
          refine seq_skip ?_
          refine seq_block fun KB B1 B2 B3 B4 B5 => ?_
          refine seq_reg fun K hn hp => ?_
          simp only [sy.down, argsTo, cellPut_some, reduceEqDiff, reduceIte, reduceLT, reduceAdd, reduceMul, reduceLeDiff, syw.down, al27, al43, al48, al58, al225, al50, aext0, aext1, o1, o2, o3, o4, nh1, d22, d02, d20, d77, d00, d70, dn0, nil51, s8, hlen, lt_dec, g1, g5, g7, g13, z1, z2, z3, z4, z10, i1, i2]
          refine hn _ _ ?_
          clear hn hp K
          refine wpc_block fun KD D1 D2 D3 D4 D5 => ?_
          refine wpc_loop (sok xt) (fun st => ∃ (c : Nat)  (tm : T AV), st = ⟨tm, 147, h8, []⟩ ∧ c ≤ m.W ∧ tm.get 1 = some (g.v) ∧ tm.get 5 = some (.val (.bool (fitsB m g))) ∧ tm.get 7 = some (tv) ∧ tm.get 13 = some (iv i) ∧ tm.get 14 = some (iv c) ∧ h.n < h8.n) (fun st => m.W - (match st.tm.get 14 with | some (.val (.int _ n)) => n.toNat | _ => 0)) ?_ ?_
          · rintro st ⟨c, tm, rfl, hkD, g1, g5, g7, g13, g14, _hh2⟩
            have muD := g14
            refine seq_seq ?_
            refine seq_reg fun K hn hp => ?_
            simp only [sy.down, argsTo, cellPut_some, reduceEqDiff, reduceIte, reduceLT, reduceAdd, reduceMul, reduceLeDiff, syw.down, al27, al43, al48, al58, al225, al50, aext0, aext1, o1, o2, o3, o4, nh1, d22, d02, d20, d77, d00, d70, dn0, nil51, s8, hlen, lt_dec, g1, g5, g7, g13, z1, z2, z3, z4, z10, i1, i2, g14]
            refine hn _ _ ?_
            clear hn hp K
            by_cases hc : c < m.W
            · refine seq_cond true (by simp only [sy.down, argsTo, cellPut_some, reduceEqDiff, reduceIte, reduceLT, reduceAdd, reduceMul, reduceLeDiff, syw.down, al27, al43, al48, al58, al225, al50, aext0, aext1, o1, o2, o3, o4, nh1, d22, d02, d20, d77, d00, d70, dn0, nil51, s8, hlen, lt_dec, g1, g5, g7, g13, z1, z2, z3, z4, z10, i1, i2, g14, hc]) (fun _ => ?_) (fun hx => by cases hx)
              have x1 := sl55 (C := m.W) (b := bb) hc
              have x2 := flatR_lo (G' i) hc
              have x3 := flatR_hi (G' i) hc
              obtain ⟨y1, y2⟩ := (i3.m75 (k := c) (by omega))
              have ht := hin i hi c hc
              have htl : g.t i c = l.getD c 0 := by rw [hl]; rfl
              rw [htl] at ht
              have e1 : decide (l.getD c 0 < (G' i c).1) = false := decide_eq_false (by omega)
              have e2 : decide ((G' i c).2 < l.getD c 0) = false := decide_eq_false (by omega)
              refine seq_skip ?_
              refine seq_block fun KE E1 E2 E3 E4 E5 => ?_
              refine seq_regD (sok xt) 34 (by kernel_rfl) fun K hn hp => ?_
              simp only [sy.down, argsTo, cellPut_some, reduceEqDiff, reduceIte, reduceLT, reduceAdd, reduceMul, reduceLeDiff, syw.down, al27, al43, al48, al58, al225, al50, aext0, aext1, o1, o2, o3, o4, nh1, d22, d02, d20, d77, d00, d70, dn0, nil51, s8, hlen, lt_dec, g1, g5, g7, g13, z1, z2, z3, z4, z10, i1, i2, g14, x1, x2, x3, y1, y2, e1, e2]
              refine hn _ _ ?_
              clear hn hp K
              refine wpc_cond false (by simp only [sy.down, argsTo, cellPut_some, reduceEqDiff, reduceIte, reduceLT, reduceAdd, reduceMul, reduceLeDiff, syw.down, al27, al43, al48, al58, al225, al50, aext0, aext1, o1, o2, o3, o4, nh1, d22, d02, d20, d77, d00, d70, dn0, nil51, s8, hlen, lt_dec, g1, g5, g7, g13, z1, z2, z3, z4, z10, i1, i2, g14]) (fun hx => by cases hx) (fun _ => ?_)
              refine wpc_skip (E1 _ ?_)
              refine reg fun K hn hp => ?_
              simp only [sy.down, argsTo, cellPut_some, reduceEqDiff, reduceIte, reduceLT, reduceAdd, reduceMul, reduceLeDiff, syw.down, al27, al43, al48, al58, al225, al50, aext0, aext1, o1, o2, o3, o4, nh1, d22, d02, d20, d77, d00, d70, dn0, nil51, s8, hlen, lt_dec, g1, g5, g7, g13, z1, z2, z3, z4, z10, i1, i2, g14, wrap_succ hc (show m.W ≤ 9223372036854775807 by omega)]
              refine hn _ _ ?_
              clear hn hp K
              refine ⟨⟨c + 1, _, rfl, by omega, (by simp [T.get_put, g1, g5, g7, g13, g14]), (by simp [T.get_put, g1, g5, g7, g13, g14]), (by simp [T.get_put, g1, g5, g7, g13, g14]), (by simp [T.get_put, g1, g5, g7, g13, g14]), (by simp [T.get_put, g1, g5, g7, g13, g14]), lt8⟩, by simpa [T.get_put, muD] using (by omega : m.W - (c + 1) < m.W - c)⟩
            · refine seq_cond false (by simp only [sy.down, argsTo, cellPut_some, reduceEqDiff, reduceIte, reduceLT, reduceAdd, reduceMul, reduceLeDiff, syw.down, al27, al43, al48, al58, al225, al50, aext0, aext1, o1, o2, o3, o4, nh1, d22, d02, d20, d77, d00, d70, dn0, nil51, s8, hlen, lt_dec, g1, g5, g7, g13, z1, z2, z3, z4, z10, i1, i2, g14, hc]) (fun hx => by cases hx) (fun _ => ?_)
              refine seq_exit (D2 _ ?_)
              refine B1 _ ?_
              refine reg fun K hn hp => ?_
              simp only [sy.down, argsTo, cellPut_some, reduceEqDiff, reduceIte, reduceLT, reduceAdd, reduceMul, reduceLeDiff, syw.down, al27, al43, al48, al58, al225, al50, aext0, aext1, o1, o2, o3, o4, nh1, d22, d02, d20, d77, d00, d70, dn0, nil51, s8, hlen, lt_dec, g1, g5, g7, g13, z1, z2, z3, z4, z10, i1, i2, g14, wrap_succ hi (show m.cells.length ≤ 9223372036854775807 by omega)]
              refine hn _ _ ?_
              clear hn hp K
              refine ⟨⟨i + 1, _, rfl, by omega, (by simp [T.get_put, g1, g5, g7, g13]), (by simp [T.get_put, g1, g5, g7, g13]), (by simp [T.get_put, g1, g5, g7, g13]), (by simp [T.get_put, g1, g5, g7, g13]), lt8⟩, by simpa [T.get_put, muA] using (by omega : m.cells.length - (i + 1) < m.cells.length - i)⟩
          · exact ⟨0, _, rfl, Nat.zero_le _, (by simp [T.get_put, g1, g5, g7, g13]), (by simp [T.get_put, g1, g5, g7, g13]), (by simp [T.get_put, g1, g5, g7, g13]), (by simp [T.get_put, g1, g5, g7, g13]), (by simp [T.get_put, g1, g5, g7, g13]), lt8⟩
        · refine seq_reg fun K hn hp => ?_
          simp only [sy.down, argsTo, cellPut_some, reduceEqDiff, reduceIte, reduceLT, reduceAdd, reduceMul, reduceLeDiff, syw.down, al27, al43, al48, al58, al225, al50, aext0, aext1, o1, o2, o3, o4, nh1, d22, d02, d20, d77, d00, d70, dn0, nil51, s8, hlen, lt_dec, g1, g5, g7, g13, hi, decide_true, qf]
          refine hn _ _ ?_
          clear hn hp K
          refine seq_cond false (by simp only [sy.down, argsTo, cellPut_some, reduceEqDiff, reduceIte, reduceLT, reduceAdd, reduceMul, reduceLeDiff, syw.down, al27, al43, al48, al58, al225, al50, aext0, aext1, o1, o2, o3, o4, nh1, d22, d02, d20, d77, d00, d70, dn0, nil51, s8, hlen, lt_dec, g1, g5, g7, g13]) (fun hx => by cases hx) (fun _ => ?_)
          refine seq_exit (A2 _ ?_)
          refine seq_reg fun K hn hp => ?_
          simp only [sy.down, argsTo, cellPut_some, reduceEqDiff, reduceIte, reduceLT, reduceAdd, reduceMul, reduceLeDiff, syw.down, al27, al43, al48, al58, al225, al50, aext0, aext1, o1, o2, o3, o4, nh1, d22, d02, d20, d77, d00, d70, dn0, nil51, s8, hlen, lt_dec, g1, g5, g7, g13]
          refine callA_func (sok xt) (known_c xt _ fun n7 hn7 => ?_)
          simp only [sy.down, argsTo, cellPut_some, reduceEqDiff, reduceIte, reduceLT, reduceAdd, reduceMul, reduceLeDiff, syw.down, al27, al43, al48, al58, al225, al50, aext0, aext1, o1, o2, o3, o4, nh1, d22, d02, d20, d77, d00, d70, dn0, nil51, s8, hlen, lt_dec, g1, g5, g7, g13]
          refine hn _ _ (wpc_ret (end_1 resS8 ?_))
          simp [T.get_put, isTrue]
      · refine seq_reg fun K hn hp => ?_
        simp only [sy.down, argsTo, cellPut_some, reduceEqDiff, reduceIte, reduceLT, reduceAdd, reduceMul, reduceLeDiff, syw.down, al27, al43, al48, al58, al225, al50, aext0, aext1, o1, o2, o3, o4, nh1, d22, d02, d20, d77, d00, d70, dn0, nil51, s8, hlen, lt_dec, g1, g5, g7, g13, hi, decide_false]
        refine hn _ _ ?_
        clear hn hp K
        refine seq_cond false (by simp only [sy.down, argsTo, cellPut_some, reduceEqDiff, reduceIte, reduceLT, reduceAdd, reduceMul, reduceLeDiff, syw.down, al27, al43, al48, al58, al225, al50, aext0, aext1, o1, o2, o3, o4, nh1, d22, d02, d20, d77, d00, d70, dn0, nil51, s8, hlen, lt_dec, g1, g5, g7, g13]) (fun hx => by cases hx) (fun _ => ?_)
        refine seq_exit (A2 _ ?_)
        refine seq_reg fun K hn hp => ?_
        simp only [sy.down, argsTo, cellPut_some, reduceEqDiff, reduceIte, reduceLT, reduceAdd, reduceMul, reduceLeDiff, syw.down, al27, al43, al48, al58, al225, al50, aext0, aext1, o1, o2, o3, o4, nh1, d22, d02, d20, d77, d00, d70, dn0, nil51, s8, hlen, lt_dec, g1, g5, g7, g13]
        refine callA_func (sok xt) (known_c xt _ fun n7 hn7 => ?_)
        simp only [sy.down, argsTo, cellPut_some, reduceEqDiff, reduceIte, reduceLT, reduceAdd, reduceMul, reduceLeDiff, syw.down, al27, al43, al48, al58, al225, al50, aext0, aext1, o1, o2, o3, o4, nh1, d22, d02, d20, d77, d00, d70, dn0, nil51, s8, hlen, lt_dec, g1, g5, g7, g13]
        refine hn _ _ (wpc_ret (end_1 resS8 ?_))
        simp [T.get_put, isTrue]
    · exact ⟨0, _, rfl, Nat.zero_le _, (by simp [T.get_put]), (by simp [T.get_put]), (by simp [T.get_put]), (by simp [T.get_put]), lt8⟩
end Go.Proofs.Kn
