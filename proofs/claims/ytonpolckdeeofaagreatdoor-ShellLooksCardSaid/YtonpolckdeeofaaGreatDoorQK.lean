/-
  Texts in a row, joined by a program: SyK1, SyK2, SyDraw4, SyK3.
-/
import Derived.Test.YtonpolckdeeofaaGreatDoorQJ
import Derived.Test.YtonpolckdeeofaaGreatDoorQC
set_option linter.all false
namespace Go.Proofs.Kn
open Go Go.Ev
set_option maxRecDepth 100000
theorem ft89 (xt : Addr → Option Value) : (SE xt).ft.get 89 = some Tryz.f89 := by kernel_rfl
theorem res89 : Tryz.f89.results.toList = [.tmp 4] := by kernel_rfl
/-- At least so many of each sort. -/
def geL : List Int → List Int → Bool
  | x :: l, y :: m => decide (y ≤ x) && geL l m
  | _, _ => true
theorem geL_drop {l m : List Int} {k : Nat} {x y : Int} (hx : l[k]? = some x) (hy : m[k]? = some y) : geL (l.drop k) (m.drop k) = (decide (y ≤ x) && geL (l.drop (k + 1)) (m.drop (k + 1))) := by
  obtain ⟨h1, rfl⟩ := List.getElem?_eq_some_iff.1 hx
  obtain ⟨h2, rfl⟩ := List.getElem?_eq_some_iff.1 hy
  rw [List.drop_eq_getElem_cons h1, List.drop_eq_getElem_cons h2]; rfl
def PartR (xt : Addr → Option Value) (all : List (List Int)) (seen : List Int) (h : Hp) (r : CR) (h' : Hp) : Prop := ∃ v, r = .ret v ∧ Fr h.n h h' ∧ LRows xt h' h.n 1 23 v (cc (all.filter fun l => geL l seen))
theorem part_c (xt : Addr → Option Value) (h : Hp) (N : Nat) (v w : AV) (all : List (List Int)) (seen : List Int) (rows : LRows xt h N 1 23 v (cc all)) (hw : RowAt xt h 1 w (seen.map c1)) (hlen : ∀ l ∈ all, l.length = seen.length) (hal : all.length ≤ 2000) (hsl : seen.length ≤ 3) : FnA (SE xt) 89 [v, w] h (PartR xt all seen h) := by
  refine FnA.walk (sok xt) (ft89 xt) rfl 45 rfl ?_
  refine seq_reg fun K hn hp => ?_
  simp only [sy.down, argsTo, cellPut_some, Nat.reduceEqDiff, reduceIte, Nat.reduceLT, Nat.reduceAdd, Nat.reduceMul, Nat.reduceLeDiff]
  refine hn _ _ ?_
  clear hn hp K
  refine seq_reg fun K hn hp => ?_
  simp only [sy.down, argsTo, cellPut_some, Nat.reduceEqDiff, reduceIte, Nat.reduceLT, Nat.reduceAdd, Nat.reduceMul, Nat.reduceLeDiff]
  refine hn _ _ ?_
  clear hn hp K
  refine seq_seq ?_
  refine seq_reg fun K hn hp => ?_
  simp only [sy.down, argsTo, cellPut_some, Nat.reduceEqDiff, reduceIte, Nat.reduceLT, Nat.reduceAdd, Nat.reduceMul, Nat.reduceLeDiff]
  refine hn _ _ ?_
  clear hn hp K
  refine seq_block fun K k1 k2 k3 k4 k5 => ?_
  refine wpc_loop (sok xt) (fun st => ∃ (k : Nat) (u : AV) (tm : T AV) (hd : Hp), st = ⟨tm, 45, hd, []⟩ ∧ Fr h.n h hd ∧ k ≤ all.length ∧ tm.get 0 = some v ∧ tm.get 1 = some w ∧ tm.get 5 = some u ∧ tm.get 6 = some (iv k) ∧ LRows xt hd h.n 1 23 u (cc ((all.take k).filter fun l => geL l seen)))
    (fun st => all.length - (match st.tm.get 6 with | some (.val (.int _ n)) => n.toNat | _ => 0)) ?_ ?_
  · rintro st ⟨k, u, tm, hd, rfl, fr, hk, g0, g1, g5, g6, ru⟩
    have rowsd := rows.fr fr (Nat.le_refl _)
    have hwd := hw.fr fr (Nat.le_refl _)
    have hlenA := fun h' => rowsd.len (h' := h') tg97 rfl
    have hlenW := fun h' => hwd.len (h' := h') tg23 rfl
    simp only [cc, List.length_map] at hlenA hlenW
    refine seq_seq ?_
    refine seq_reg fun K hn hp => ?_
    simp only [sy.down, argsTo, cellPut_some, Nat.reduceEqDiff, reduceIte, Nat.reduceLT, Nat.reduceAdd, Nat.reduceMul, Nat.reduceLeDiff, g0, g6, hlenA]
    refine hn _ _ ?_
    clear hn hp K
    have ht : (decide ((k : Int) < (all.length : Int))) = decide (k < all.length) := by simp
    by_cases hlt : k < all.length
    · obtain ⟨l, hl⟩ : ∃ l, all[k]? = some l := ⟨_, List.getElem?_eq_getElem hlt⟩
      have hll := hlen l (List.mem_of_getElem? hl)
      obtain ⟨b, a, cs, z1, z2, z3, z4, z5, z6, z7⟩ := rowsd.at_ tg97 rfl tg23 rfl (cc_get hl) (k := .i64)
      refine seq_cond true (by simp only [sy.down, argsTo, cellPut_some, Nat.reduceEqDiff, reduceIte, Nat.reduceLT, Nat.reduceAdd, Nat.reduceMul, Nat.reduceLeDiff, ht, hlt]) (fun _ => ?_) (fun hx => by cases hx)
      refine seq_skip ?_
      refine seq_block fun K' k1' k2' k3' k4' k5' => ?_
      refine seq_reg fun K hn hp => ?_
      simp only [sy.down, argsTo, cellPut_some, Nat.reduceEqDiff, reduceIte, Nat.reduceLT, Nat.reduceAdd, Nat.reduceMul, Nat.reduceLeDiff]
      refine hn _ _ ?_
      clear hn hp K
      refine seq_seq ?_
      refine seq_reg fun K hn hp => ?_
      simp only [sy.down, argsTo, cellPut_some, Nat.reduceEqDiff, reduceIte, Nat.reduceLT, Nat.reduceAdd, Nat.reduceMul, Nat.reduceLeDiff]
      refine hn _ _ ?_
      clear hn hp K
      refine seq_block fun Kb kb1 kb2 kb3 kb4 kb5 => ?_
      refine wpc_loop (sok xt) (fun st => ∃ (i : Nat) (q : Bool) (tm : T AV), st = ⟨tm, 45, hd, []⟩ ∧ i ≤ seen.length ∧ tm.get 0 = some v ∧ tm.get 1 = some w ∧ tm.get 5 = some u ∧ tm.get 6 = some (iv k) ∧ tm.get 7 = some (.val (.bool q)) ∧ tm.get 8 = some (iv i) ∧ geL l seen = (q && geL (l.drop i) (seen.drop i)))
        (fun st => seen.length - (match st.tm.get 8 with | some (.val (.int _ n)) => n.toNat | _ => 0)) ?_ ?_
      · rintro st ⟨i, q, tmj, rfl, hi, j0, j1, j5, j6, j7, j8, hq⟩
        refine seq_seq ?_
        refine seq_reg fun K hn hp => ?_
        simp only [sy.down, argsTo, cellPut_some, Nat.reduceEqDiff, reduceIte, Nat.reduceLT, Nat.reduceAdd, Nat.reduceMul, Nat.reduceLeDiff, j1, j8, hlenW]
        refine hn _ _ ?_
        clear hn hp K
        have hti : (decide ((i : Int) < (seen.length : Int))) = decide (i < seen.length) := by simp
        by_cases hit : i < seen.length
        · obtain ⟨x, hx⟩ : ∃ x, l[i]? = some x := ⟨_, List.getElem?_eq_getElem (by omega)⟩
          obtain ⟨y, hy⟩ : ∃ y, seen[i]? = some y := ⟨_, List.getElem?_eq_getElem hit⟩
          have hidx := z4.idx tg23 rfl tg3 rfl (by simp; omega) (k := .i64) (i := i)
          have hld : aload tb xt hd 3 (elp a (i * 1)) = some (iv x) := z4.load0 tg3 rfl (c := c1 x) (by simp [hx]) rfl
          have hidx2 := hwd.idx tg23 rfl tg3 rfl (by simp; omega) (k := .i64) (i := i)
          have hld2 : aload tb xt hd 3 (elp w (i * 1)) = some (iv y) := hwd.load0 tg3 rfl (c := c1 y) (by simp [hy]) rfl
          rw [geL_drop hx hy] at hq
          refine seq_cond true (by simp only [sy.down, argsTo, cellPut_some, Nat.reduceEqDiff, reduceIte, Nat.reduceLT, Nat.reduceAdd, Nat.reduceMul, Nat.reduceLeDiff, hti, hit]) (fun _ => ?_) (fun hx => by cases hx)
          refine seq_skip ?_
          refine seq_block fun Kc kc1 kc2 kc3 kc4 kc5 => ?_
          have hw1 : IntKind.i64.wrap ((i : Int) + 1) = ((i + 1 : Nat) : Int) := by rw [wrap_i64 _ (by omega) (by omega)]; simp
          cases q
          · refine regD (sok xt) 16 (by kernel_rfl) fun K1 hn hp => ?_
            simp only [sy.down, argsTo, cellPut_some, Nat.reduceEqDiff, reduceIte, Nat.reduceLT, Nat.reduceAdd, Nat.reduceMul, Nat.reduceLeDiff, j0, j1, j6, j7, j8, wnt_d]
            refine hn _ _ (kc1 _ ?_)
            clear hn hp K1
            refine reg fun K1 hn hp => ?_
            simp only [sy.down, argsTo, cellPut_some, Nat.reduceEqDiff, reduceIte, Nat.reduceLT, Nat.reduceAdd, Nat.reduceMul, Nat.reduceLeDiff, j8, hw1]
            refine hn _ _ ?_
            refine ⟨⟨i + 1, false, _, rfl, hit, ?_, ?_, ?_, ?_, ?_, ?_, ?_⟩, ?_⟩
            · simp [T.get_put, j0]
            · simp [T.get_put, j1]
            · simp [T.get_put, j5]
            · simp [T.get_put, j6]
            · simp [T.get_put]
            · simp [T.get_put]
            · rw [hq]; rfl
            · have hm : seen.length - (i + 1) < seen.length - i := by omega
              simpa [T.get_put, j8] using hm
          · refine regD (sok xt) 16 (by kernel_rfl) fun K1 hn hp => ?_
            simp only [sy.down, argsTo, cellPut_some, Nat.reduceEqDiff, reduceIte, Nat.reduceLT, Nat.reduceAdd, Nat.reduceMul, Nat.reduceLeDiff, j0, j1, j6, j7, j8, z1, z2, z3, hidx, hld, hidx2, hld2]
            refine hn _ _ (kc1 _ ?_)
            clear hn hp K1
            refine reg fun K1 hn hp => ?_
            simp only [sy.down, argsTo, cellPut_some, Nat.reduceEqDiff, reduceIte, Nat.reduceLT, Nat.reduceAdd, Nat.reduceMul, Nat.reduceLeDiff, j8, hw1]
            refine hn _ _ ?_
            refine ⟨⟨i + 1, decide (y ≤ x), _, rfl, hit, ?_, ?_, ?_, ?_, ?_, ?_, ?_⟩, ?_⟩
            · simp [T.get_put, j0]
            · simp [T.get_put, j1]
            · simp [T.get_put, j5]
            · simp [T.get_put, j6]
            · simp [T.get_put]
            · simp [T.get_put]
            · rw [hq, Bool.true_and]
            · have hm : seen.length - (i + 1) < seen.length - i := by omega
              simpa [T.get_put, j8] using hm
        · refine seq_cond false (by simp only [sy.down, argsTo, cellPut_some, Nat.reduceEqDiff, reduceIte, Nat.reduceLT, Nat.reduceAdd, Nat.reduceMul, Nat.reduceLeDiff, hti, hit]) (fun hx => by cases hx) (fun _ => ?_)
          refine seq_exit (kb2 _ ?_)
          have hnil : seen.drop i = [] := List.drop_eq_nil_of_le (by omega)
          have hnil2 : l.drop i = [] := List.drop_eq_nil_of_le (by omega)
          rw [hnil, hnil2] at hq
          have hq : geL l seen = q := by rw [hq]; simp [geL]
          have htk : all.take (k + 1) = all.take k ++ [l] := by rw [List.take_add_one, hl]; rfl
          have hw2 : IntKind.i64.wrap ((k : Int) + 1) = ((k + 1 : Nat) : Int) := by rw [wrap_i64 _ (by omega) (by omega)]; simp
          refine seq_reg fun K hn hp => ?_
          simp only [sy.down, argsTo, cellPut_some, Nat.reduceEqDiff, reduceIte, Nat.reduceLT, Nat.reduceAdd, Nat.reduceMul, Nat.reduceLeDiff, j7]
          refine hn _ _ ?_
          clear hn hp K
          cases q
          · refine wpc_cond false (by simp only [sy.down, argsTo, cellPut_some, Nat.reduceEqDiff, reduceIte, Nat.reduceLT, Nat.reduceAdd, Nat.reduceMul, Nat.reduceLeDiff]) (fun hx => by cases hx) (fun _ => ?_)
            refine wpc_skip (k1' _ ?_)
            refine reg fun K1 hn hp => ?_
            simp only [sy.down, argsTo, cellPut_some, Nat.reduceEqDiff, reduceIte, Nat.reduceLT, Nat.reduceAdd, Nat.reduceMul, Nat.reduceLeDiff, j6, hw2]
            refine hn _ _ ?_
            refine ⟨⟨k + 1, u, _, hd, rfl, fr, hlt, ?_, ?_, ?_, ?_, ?_⟩, ?_⟩
            · simp [T.get_put, j0]
            · simp [T.get_put, j1]
            · simp [T.get_put, j5]
            · simp [T.get_put]
            · rw [htk, List.filter_append]
              simp only [List.filter_cons, hq, List.filter_nil, Bool.false_eq_true, if_false, List.append_nil]
              exact ru
            · have hm : all.length - (k + 1) < all.length - k := by omega
              simpa [T.get_put, g6] using hm
          · refine wpc_cond true (by simp only [sy.down, argsTo, cellPut_some, Nat.reduceEqDiff, reduceIte, Nat.reduceLT, Nat.reduceAdd, Nat.reduceMul, Nat.reduceLeDiff]) (fun _ => ?_) (fun hx => by cases hx)
            have hfl : ((all.take k).filter fun l => geL l seen).length ≤ 2000 := by
              refine Nat.le_trans (List.length_filter_le _ _) ?_
              rw [List.length_take]; omega
            obtain ⟨v', h', y1, y2, y3, y4, _⟩ := (ru.new (.cells [a] 23)).append (P := Tryz.prog) (a := a) (x := .sl hd.n 0 1 1) (l := l.map c1) (by simp [Hp.new_n]; have := fr.le; omega) tg97 rfl tg23 rfl rfl tg97 rfl
              (src_own (e := 23) (by simp [Hp.new_t, T.get_put]) rfl (by simp [z4.one])) (z4.new _) (fun b' off k' s' hb off' k'' s'' hq' => by
                obtain ⟨b2, a2, cs2, w1, w2, w3, w4, w5, _, w7⟩ := rows.at_ tg97 rfl tg23 rfl (cc_get hl) (k := .i64)
                have hbb : b2 = b := by rw [z1] at w1; simpa using w1.symm
                subst hbb
                rw [fr.at_ _ (.inl w5), w2] at z2
                cases z2
                rw [w3] at z3
                cases z3
                have := w4.lt hb
                have := ru.lt hq'
                omega) (by simp [te23, cc]; omega) (by simp [cc]; omega)
            refine reg fun K1 hn hp => ?_
            simp only [sy.down, argsTo, cellPut_some, Nat.reduceEqDiff, reduceIte, Nat.reduceLT, Nat.reduceAdd, Nat.reduceMul, Nat.reduceLeDiff, j0, j5, j6, z1, z2, z3, WOp_buildSlice, bs97 _ z4.cells, y1]
            refine hn _ _ (k1' _ ?_)
            clear hn hp K1
            refine reg fun K1 hn hp => ?_
            simp only [sy.down, argsTo, cellPut_some, Nat.reduceEqDiff, reduceIte, Nat.reduceLT, Nat.reduceAdd, Nat.reduceMul, Nat.reduceLeDiff, j6, hw2]
            refine hn _ _ ?_
            refine ⟨⟨k + 1, v', _, h', rfl, (fr.new _).trans y3 (Nat.le_refl _), hlt, ?_, ?_, ?_, ?_, ?_⟩, ?_⟩
            · simp [T.get_put, j0]
            · simp [T.get_put, j1]
            · simp [T.get_put]
            · simp [T.get_put]
            · rw [htk, List.filter_append]
              simp only [List.filter_cons, hq, List.filter_nil, if_true]
              simpa [cc] using y2
            · have hm : all.length - (k + 1) < all.length - k := by omega
              simpa [T.get_put, g6] using hm
      · refine ⟨0, true, _, rfl, Nat.zero_le _, ?_, ?_, ?_, ?_, ?_, ?_, ?_⟩
        · simp [T.get_put, g0]
        · simp [T.get_put, g1]
        · simp [T.get_put, g5]
        · simp [T.get_put, g6]
        · simp [T.get_put]
        · simp [T.get_put]
        · simp
    · refine seq_cond false (by simp only [sy.down, argsTo, cellPut_some, Nat.reduceEqDiff, reduceIte, Nat.reduceLT, Nat.reduceAdd, Nat.reduceMul, Nat.reduceLeDiff, ht, hlt]) (fun hx => by cases hx) (fun _ => ?_)
      refine seq_exit (k2 _ ?_)
      refine seq_reg fun K hn hp => ?_
      simp only [sy.down, argsTo, cellPut_some, Nat.reduceEqDiff, reduceIte, Nat.reduceLT, Nat.reduceAdd, Nat.reduceMul, Nat.reduceLeDiff, g5]
      refine hn _ _ ?_
      clear hn hp K
      have hkk : k = all.length := by omega
      subst hkk
      rw [List.take_length] at ru
      refine wpc_ret (end_1 res89 ⟨u, ?_, fr, ru⟩)
      simp [T.get_put]
  · refine ⟨0, .val (.slice none 0 0), _, h, rfl, Fr.refl (Nat.le_refl _), Nat.zero_le _, ?_, ?_, ?_, ?_, LRows.nil⟩
    all_goals simp [T.get_put]
end Go.Proofs.Kn
namespace Go.Proofs.Kn
open Go Go.Ev
set_option maxRecDepth 100000
theorem ft46 (xt : Addr → Option Value) : (SE xt).ft.get 46 = some Tryz.f46 := by kernel_rfl
theorem res46 : Tryz.f46.results.toList = [.tmp 6] := by kernel_rfl
/-- The truths that are left. -/
structure Left (s t : Sk) (all : List (List Int)) : Prop where
  len : ∀ l ∈ all, l.length = s.sorts.length
  same : ∀ n, n ∈ s.truths t.seenF ↔ ∃ l ∈ all, n = fnOf l
theorem geL_iff : ∀ (l m : List Int), l.length = m.length → (geL l m = true ↔ ∀ i, i < l.length → m.getD i 0 ≤ l.getD i 0)
  | [], [], _ => by simp [geL]
  | x :: l, y :: m, h => by
    simp only [List.length_cons, Nat.add_right_cancel_iff] at h
    simp only [geL, Bool.and_eq_true, decide_eq_true_eq, geL_iff l m h, List.length_cons]
    constructor
    · rintro ⟨h1, h2⟩ i hi
      cases i with
      | zero => simpa using h1
      | succ i => simpa using h2 i (by omega)
    · intro h1
      exact ⟨by simpa using h1 0 (by omega), fun i hi => by simpa using h1 (i + 1) (by omega)⟩
  | [], _ :: _, h => by simp at h
  | _ :: _, [], h => by simp at h
theorem Left.next {s t u : Sk} {all : List (List Int)} (g : s.Good) (L : Left s t all) (hs : s.Sn t.seenF) {i : Nat} (hi : i < s.sorts.length) (hu : u.seenF = bump t.seenF i) (hul : u.seen.length = s.sorts.length) : Left s u (all.filter fun l => geL l u.seen) := by
  refine ⟨fun l hl => L.len l (List.mem_filter.1 hl).1, fun n => ?_⟩
  rw [hu, bump_mem g hs hi, L.same]
  have key : ∀ l ∈ all, (geL l u.seen = true ↔ t.seenF i < l.getD i 0) := fun l hl => by
    have hll := L.len l hl
    have hin := (L.same (fnOf l)).2 ⟨l, hl, rfl⟩
    have h2 := ((Sk.mem_truths hs.nn).1 hin).2.1
    have hb := bump_at g hs hi
    rw [geL_iff l u.seen (by rw [hll, hul])]
    have e : ∀ j, u.seen.getD j 0 = bump t.seenF i j := fun j => by rw [← hu]; rfl
    constructor
    · intro h
      have := h i (by omega)
      rw [e, hb, if_pos rfl] at this
      omega
    · intro h j hj
      rw [e, hb]
      split
      · rename_i hq; subst hq; omega
      · exact h2 j (by omega)
  constructor
  · rintro ⟨⟨l, hl, rfl⟩, h⟩
    exact ⟨l, List.mem_filter.2 ⟨hl, (key l hl).2 h⟩, rfl⟩
  · rintro ⟨l, hl, rfl⟩
    obtain ⟨h1, h2⟩ := List.mem_filter.1 hl
    exact ⟨⟨l, h1, rfl⟩, (key l h1).1 h2⟩
theorem Left.nil {s t : Sk} {all : List (List Int)} (L : Left s t all) : s.truths t.seenF = [] ↔ all = [] := by
  constructor
  · intro h
    apply List.eq_nil_iff_forall_not_mem.2
    intro l hl
    have := (L.same (fnOf l)).2 ⟨l, hl, rfl⟩
    rw [h] at this; cases this
  · intro h
    apply List.eq_nil_iff_forall_not_mem.2
    intro n hn
    obtain ⟨l, hl, _⟩ := (L.same n).1 hn
    rw [h] at hl; cases hl
theorem Left.open_ {s t : Sk} {all : List (List Int)} (g : s.Good) (L : Left s t all) (hs : s.Sn t.seenF) (B : Int) : s.open_ B t.seenF ↔ (all.any fun l => decide (B ≤ s.blanks (fnOf l))) = true ∧ (all.any fun l => !decide (B ≤ s.blanks (fnOf l))) = true := by
  rw [open_iff g hs]
  simp only [List.any_eq_true, decide_eq_true_eq, Bool.not_eq_true', decide_eq_false_iff_not]
  constructor
  · rintro ⟨⟨n, h1, h2⟩, ⟨m, h3, h4⟩⟩
    obtain ⟨l, hl, rfl⟩ := (L.same n).1 h1
    obtain ⟨k, hk, rfl⟩ := (L.same m).1 h3
    exact ⟨⟨k, hk, h4⟩, ⟨l, hl, by omega⟩⟩
  · rintro ⟨⟨k, hk, h4⟩, ⟨l, hl, h2⟩⟩
    exact ⟨⟨fnOf l, (L.same _).2 ⟨l, hl, rfl⟩, by omega⟩, ⟨fnOf k, (L.same _).2 ⟨k, hk, rfl⟩, h4⟩⟩
theorem any_take {α : Type} {p : α → Bool} {l : List α} {k : Nat} {x : α} (hk : l[k]? = some x) : (l.take (k + 1)).any p = ((l.take k).any p || p x) := by
  rw [List.take_add_one, hk]; simp
set_option maxHeartbeats 2000000 in
theorem rlooks_ok (xt : Addr → Option Value) (s : Sk) (g : s.Good) (B : Int) : ∀ (d : Nat) (t : Sk), s.Like t → t.seen.length = s.sorts.length → s.Sn t.seenF → s.sh - sumF t.seenF 0 s.sorts.length < d → ∀ (h : Hp) (N : Nat) (v : AV) (all : List (List Int)), t.At xt h → LRows xt h N 1 23 v (cc all) → Left s t all → all.length ≤ 2000 →
    FnA (SE xt) 46 [t.av, v, iv B] h (fun r h' => r = .ret (iv (s.LK B t.seenF)) ∧ Fr h.n h h') := by
  have gl2 := g.l2
  have gs2 := g.sh2
  intro d
  induction d with
  | zero => intro t _ _ hs hd; have := Sk.sum_le hs.nn hs.some_; omega
  | succ d ih =>
    intro t hlk htl hs hd h N v all ha rows L hal
    refine FnA.walk (sok xt) (ft46 xt) rfl 59 rfl ?_
    refine seq_reg fun K hn hp => ?_
    simp only [sy.down, argsTo, cellPut_some, Nat.reduceEqDiff, reduceIte, Nat.reduceLT, Nat.reduceAdd, Nat.reduceMul, Nat.reduceLeDiff]
    refine hn _ _ ?_
    clear hn hp K
    obtain ⟨h1, hh1⟩ : ∃ h1 : Hp, h1 = h.new (.cells t.cells 25) := ⟨_, rfl⟩
    rw [← hh1]
    have n1 : h1.n = h.n + 1 := by rw [hh1]; rfl
    have f1 : Fr h.n h h1 := by rw [hh1]; exact (Fr.refl (Nat.le_refl _)).new _
    have q1 : h1.t.get h.n = some (.cells t.cells 25) := by rw [hh1]; simp [Hp.new_t, T.get_put]
    have ha1 := ha.fr f1 (Nat.le_refl _)
    have rows1 := rows.fr f1 (Nat.le_refl _)
    have hlenS := fun h' => ha.sorts.len (h' := h') tg22 rfl
    simp only [List.length_map] at hlenS
    refine seq_reg fun K hn hp => ?_
    simp only [sy.down, argsTo, cellPut_some, Nat.reduceEqDiff, reduceIte, Nat.reduceLT, Nat.reduceAdd, Nat.reduceMul, Nat.reduceLeDiff]
    refine hn _ _ ?_
    clear hn hp K
    refine seq_seq ?_
    refine seq_reg fun K hn hp => ?_
    simp only [sy.down, argsTo, cellPut_some, Nat.reduceEqDiff, reduceIte, Nat.reduceLT, Nat.reduceAdd, Nat.reduceMul, Nat.reduceLeDiff]
    refine hn _ _ ?_
    clear hn hp K
    refine seq_block fun K k1 k2 k3 k4 k5 => ?_
    refine wpc_loop (sok xt) (fun st => ∃ (k : Nat) (tm : T AV) (hd : Hp), st = ⟨tm, 59, hd, []⟩ ∧ Fr h1.n h1 hd ∧ k ≤ all.length ∧ tm.get 1 = some v ∧ tm.get 2 = some (iv B) ∧ tm.get 3 = some (.ptr h.n 0) ∧ tm.get 7 = some (.val (.bool ((all.take k).any fun l => decide (B ≤ s.blanks (fnOf l))))) ∧ tm.get 8 = some (.val (.bool ((all.take k).any fun l => !decide (B ≤ s.blanks (fnOf l))))) ∧ tm.get 9 = some (iv k))
      (fun st => all.length - (match st.tm.get 9 with | some (.val (.int _ n)) => n.toNat | _ => 0)) ?_ ?_
    · rintro st ⟨k, tm, hd', rfl, fr, hk, g1, g2, g3, g7, g8, g9⟩
      have rowsd := rows1.fr fr (Nat.le_refl _)
      have had := ha1.fr fr (Nat.le_refl _)
      have q0d : hd'.t.get h.n = some (.cells t.cells 25) := by rw [fr.at_ _ (by omega)]; exact q1
      have hlenA := fun h' => rowsd.len (h' := h') tg97 rfl
      simp only [cc, List.length_map] at hlenA
      refine seq_seq ?_
      refine seq_reg fun K hn hp => ?_
      simp only [sy.down, argsTo, cellPut_some, Nat.reduceEqDiff, reduceIte, Nat.reduceLT, Nat.reduceAdd, Nat.reduceMul, Nat.reduceLeDiff, g1, g9, hlenA]
      refine hn _ _ ?_
      clear hn hp K
      have ht : (decide ((k : Int) < (all.length : Int))) = decide (k < all.length) := by simp
      by_cases hlt : k < all.length
      · obtain ⟨l, hl⟩ : ∃ l, all[k]? = some l := ⟨_, List.getElem?_eq_getElem hlt⟩
        have hll := L.len l (List.mem_of_getElem? hl)
        obtain ⟨b, a, cs, z1, z2, z3, z4, z5, z6, z7⟩ := rowsd.at_ tg97 rfl tg23 rfl (cc_get hl) (k := .i64)
        refine seq_cond true (by simp only [sy.down, argsTo, cellPut_some, Nat.reduceEqDiff, reduceIte, Nat.reduceLT, Nat.reduceAdd, Nat.reduceMul, Nat.reduceLeDiff, ht, hlt]) (fun _ => ?_) (fun hx => by cases hx)
        refine seq_skip ?_
        refine seq_block fun K' k1' k2' k3' k4' k5' => ?_
        refine seq_regD (sok xt) 8 (by kernel_rfl) fun K1 hn hp => ?_
        simp only [sy.down, argsTo, cellPut_some, Nat.reduceEqDiff, reduceIte, Nat.reduceLT, Nat.reduceAdd, Nat.reduceMul, Nat.reduceLeDiff, g1, g2, g3, g9, q0d, z1, z2, z3]
        refine callA_func (sok xt) (rblanks_c xt _ t had a l z4 (by rw [hll, hlk.sorts]) fun m3 hm3 => ?_)
        simp only [sy.down, argsTo, cellPut_some, Nat.reduceEqDiff, reduceIte, Nat.reduceLT, Nat.reduceAdd, Nat.reduceMul, Nat.reduceLeDiff, WOCn_t (h := hd') hm3, g2]
        refine hn _ _ ?_
        clear hn hp K1
        have eb : (t.blanks fun i => l.getD i 0) = s.blanks (fnOf l) := by rw [hlk.blanksF]
        rw [eb]
        have hw : IntKind.i64.wrap ((k : Int) + 1) = ((k + 1 : Nat) : Int) := by rw [wrap_i64 _ (by omega) (by omega)]; simp
        cases hq : decide (B ≤ s.blanks (fnOf l))
        · refine wpc_cond false (by simp only [sy.down, argsTo, cellPut_some, Nat.reduceEqDiff, reduceIte, Nat.reduceLT, Nat.reduceAdd, Nat.reduceMul, Nat.reduceLeDiff]) (fun hx => by cases hx) (fun _ => ?_)
          refine reg fun K1 hn hp => ?_
          simp only [sy.down, argsTo, cellPut_some, Nat.reduceEqDiff, reduceIte, Nat.reduceLT, Nat.reduceAdd, Nat.reduceMul, Nat.reduceLeDiff]
          refine hn _ _ (k1' _ ?_)
          clear hn hp K1
          refine reg fun K1 hn hp => ?_
          simp only [sy.down, argsTo, cellPut_some, Nat.reduceEqDiff, reduceIte, Nat.reduceLT, Nat.reduceAdd, Nat.reduceMul, Nat.reduceLeDiff, g9, hw]
          refine hn _ _ ?_
          refine ⟨⟨k + 1, _, hd'.up m3, rfl, fr.up (Nat.le_of_lt hm3), hlt, ?_, ?_, ?_, ?_, ?_, ?_⟩, ?_⟩
          · simp [T.get_put, g1]
          · simp [T.get_put, g2]
          · simp [T.get_put, g3]
          · rw [any_take hl, hq, Bool.or_false]; simp [T.get_put, g7]
          · rw [any_take hl, hq, Bool.not_false, Bool.or_true]; simp [T.get_put]
          · simp [T.get_put]
          · have hm : all.length - (k + 1) < all.length - k := by omega
            simpa [T.get_put, g9] using hm
        · refine wpc_cond true (by simp only [sy.down, argsTo, cellPut_some, Nat.reduceEqDiff, reduceIte, Nat.reduceLT, Nat.reduceAdd, Nat.reduceMul, Nat.reduceLeDiff]) (fun _ => ?_) (fun hx => by cases hx)
          refine reg fun K1 hn hp => ?_
          simp only [sy.down, argsTo, cellPut_some, Nat.reduceEqDiff, reduceIte, Nat.reduceLT, Nat.reduceAdd, Nat.reduceMul, Nat.reduceLeDiff]
          refine hn _ _ (k1' _ ?_)
          clear hn hp K1
          refine reg fun K1 hn hp => ?_
          simp only [sy.down, argsTo, cellPut_some, Nat.reduceEqDiff, reduceIte, Nat.reduceLT, Nat.reduceAdd, Nat.reduceMul, Nat.reduceLeDiff, g9, hw]
          refine hn _ _ ?_
          refine ⟨⟨k + 1, _, hd'.up m3, rfl, fr.up (Nat.le_of_lt hm3), hlt, ?_, ?_, ?_, ?_, ?_, ?_⟩, ?_⟩
          · simp [T.get_put, g1]
          · simp [T.get_put, g2]
          · simp [T.get_put, g3]
          · rw [any_take hl, hq, Bool.or_true]; simp [T.get_put]
          · rw [any_take hl, hq, Bool.not_true, Bool.or_false]; simp [T.get_put, g8]
          · simp [T.get_put]
          · have hm : all.length - (k + 1) < all.length - k := by omega
            simpa [T.get_put, g9] using hm
      · refine seq_cond false (by simp only [sy.down, argsTo, cellPut_some, Nat.reduceEqDiff, reduceIte, Nat.reduceLT, Nat.reduceAdd, Nat.reduceMul, Nat.reduceLeDiff, ht, hlt]) (fun hx => by cases hx) (fun _ => ?_)
        refine seq_exit (k2 _ ?_)
        have hkk : k = all.length := by omega
        subst hkk
        rw [List.take_length] at g7 g8
        have hfr : Fr h.n h hd' := f1.trans fr (by omega)
        have ho := L.open_ g hs B
        refine seq_seq ?_
        cases qa : (all.any fun l => decide (B ≤ s.blanks (fnOf l)))
        · rw [qa] at g7 ho
          refine seq_reg fun K hn hp => ?_
          simp only [sy.down, argsTo, cellPut_some, Nat.reduceEqDiff, reduceIte, Nat.reduceLT, Nat.reduceAdd, Nat.reduceMul, Nat.reduceLeDiff, g7, wnt_d]
          refine hn _ _ ?_
          clear hn hp K
          refine seq_cond true (by simp only [sy.down, argsTo, cellPut_some, Nat.reduceEqDiff, reduceIte, Nat.reduceLT, Nat.reduceAdd, Nat.reduceMul, Nat.reduceLeDiff]) (fun _ => ?_) (fun hx => by cases hx)
          refine seq_seq ?_
          refine seq_reg fun K hn hp => ?_
          simp only [sy.down, argsTo, cellPut_some, Nat.reduceEqDiff, reduceIte, Nat.reduceLT, Nat.reduceAdd, Nat.reduceMul, Nat.reduceLeDiff]
          refine hn _ _ ?_
          clear hn hp K
          refine seq_ret (end_1 res46 ⟨?_, hfr⟩)
          rw [Sk.LK_eq g hs, lookAt_shut (fun q => by have := (ho.1 q).1; cases this)]
          simp [T.get_put]
        cases qb : (all.any fun l => !decide (B ≤ s.blanks (fnOf l)))
        · rw [qa] at g7
          rw [qb] at g8 ho
          refine seq_reg fun K hn hp => ?_
          simp only [sy.down, argsTo, cellPut_some, Nat.reduceEqDiff, reduceIte, Nat.reduceLT, Nat.reduceAdd, Nat.reduceMul, Nat.reduceLeDiff, g7, g8]
          refine hn _ _ ?_
          clear hn hp K
          refine seq_cond true (by simp only [sy.down, argsTo, cellPut_some, Nat.reduceEqDiff, reduceIte, Nat.reduceLT, Nat.reduceAdd, Nat.reduceMul, Nat.reduceLeDiff]) (fun _ => ?_) (fun hx => by cases hx)
          refine seq_seq ?_
          refine seq_reg fun K hn hp => ?_
          simp only [sy.down, argsTo, cellPut_some, Nat.reduceEqDiff, reduceIte, Nat.reduceLT, Nat.reduceAdd, Nat.reduceMul, Nat.reduceLeDiff]
          refine hn _ _ ?_
          clear hn hp K
          refine seq_ret (end_1 res46 ⟨?_, hfr⟩)
          rw [Sk.LK_eq g hs, lookAt_shut (fun q => by have := (ho.1 q).2; cases this)]
          simp [T.get_put]
        have hop := ho.2 ⟨qa, qb⟩
        rw [qa] at g7
        rw [qb] at g8
        refine seq_reg fun K hn hp => ?_
        simp only [sy.down, argsTo, cellPut_some, Nat.reduceEqDiff, reduceIte, Nat.reduceLT, Nat.reduceAdd, Nat.reduceMul, Nat.reduceLeDiff, g7, g8]
        refine hn _ _ ?_
        clear hn hp K
        refine seq_cond false (by simp only [sy.down, argsTo, cellPut_some, Nat.reduceEqDiff, reduceIte, Nat.reduceLT, Nat.reduceAdd, Nat.reduceMul, Nat.reduceLeDiff]) (fun hx => by cases hx) (fun _ => ?_)
        refine seq_skip ?_
        have eLK : s.LK B t.seenF = (List.range s.sorts.length).foldl (s.lookStep (s.LK B) t.seenF) 0 := by rw [Sk.LK_eq g hs, lookAt_open hop]
        refine seq_reg fun K hn hp => ?_
        simp only [sy.down, argsTo, cellPut_some, Nat.reduceEqDiff, reduceIte, Nat.reduceLT, Nat.reduceAdd, Nat.reduceMul, Nat.reduceLeDiff]
        refine hn _ _ ?_
        clear hn hp K
        refine seq_seq ?_
        refine seq_reg fun K hn hp => ?_
        simp only [sy.down, argsTo, cellPut_some, Nat.reduceEqDiff, reduceIte, Nat.reduceLT, Nat.reduceAdd, Nat.reduceMul, Nat.reduceLeDiff]
        refine hn _ _ ?_
        clear hn hp K
        refine seq_block fun Kb kb1 kb2 kb3 kb4 kb5 => ?_
        refine wpc_loop (sok xt) (fun st => ∃ (i : Nat) (tm : T AV) (he : Hp), st = ⟨tm, 59, he, []⟩ ∧ Fr hd'.n hd' he ∧ i ≤ s.sorts.length ∧ tm.get 1 = some v ∧ tm.get 2 = some (iv B) ∧ tm.get 3 = some (.ptr h.n 0) ∧ tm.get 10 = some (iv ((List.range i).foldl (s.lookStep (s.LK B) t.seenF) 0)) ∧ tm.get 11 = some (iv i))
          (fun st => s.sorts.length - (match st.tm.get 11 with | some (.val (.int _ n)) => n.toNat | _ => 0)) ?_ ?_
        · rintro st ⟨i, tmj, he, rfl, fre, hi, j1, j2, j3, j10, j11⟩
          have hloe := fre.lo
          have hlod := fr.lo
          have q0e : he.t.get h.n = some (.cells t.cells 25) := by rw [fre.at_ _ (by omega)]; exact q0d
          have hae := had.fr fre (Nat.le_refl _)
          have rowse := rowsd.fr fre (Nat.le_refl _)
          refine seq_seq ?_
          refine seq_reg fun K hn hp => ?_
          simp only [sy.down, argsTo, cellPut_some, Nat.reduceEqDiff, reduceIte, Nat.reduceLT, Nat.reduceAdd, Nat.reduceMul, Nat.reduceLeDiff, j3, j11, q0e, hlenS]
          refine hn _ _ ?_
          clear hn hp K
          rw [hlk.sorts]
          have hti : (decide ((i : Int) < (s.sorts.length : Int))) = decide (i < s.sorts.length) := by simp
          by_cases hit : i < s.sorts.length
          · refine seq_cond true (by simp only [sy.down, argsTo, cellPut_some, Nat.reduceEqDiff, reduceIte, Nat.reduceLT, Nat.reduceAdd, Nat.reduceMul, Nat.reduceLeDiff, hti, hit]) (fun _ => ?_) (fun hx => by cases hx)
            refine seq_skip ?_
            refine seq_block fun Kc kc1 kc2 kc3 kc4 kc5 => ?_
            refine seq_reg fun K1 hn hp => ?_
            simp only [sy.down, argsTo, cellPut_some, Nat.reduceEqDiff, reduceIte, Nat.reduceLT, Nat.reduceAdd, Nat.reduceMul, Nat.reduceLeDiff, j3, j11, q0e]
            refine callA_func (sok xt) ((looked_c xt _ t hae i (by omega) (by omega)).mono ?_)
            rintro r hb ⟨Y, rfl, frb, hY⟩
            have hYov := hY.at_.sorts.one
            have hYoe := hY.at_.seen.one
            simp only [sy.down, argsTo, cellPut_some, Nat.reduceEqDiff, reduceIte, Nat.reduceLT, Nat.reduceAdd, Nat.reduceMul, Nat.reduceLeDiff, hYov, hYoe]
            refine hn _ _ ?_
            clear hn hp K1
            have hlob := frb.lo
            obtain ⟨hc, hhc⟩ : ∃ hc : Hp, hc = (hb.new (.cells [iv 0, .val (.slice none 0 0), .val (.slice none 0 0), iv 0, iv 0] 25)).set hb.n (.cells Y.cells 25) := ⟨_, rfl⟩
            rw [← hhc]
            have fc : Fr hb.n hb hc := by rw [hhc]; exact ((Fr.refl (Nat.le_refl _)).new _).set (Nat.le_refl _) (by simp [Hp.new_n]) _
            have nc : hc.n = hb.n + 1 := by rw [hhc]; rfl
            have qYc : hc.t.get hb.n = some (.cells Y.cells 25) := by rw [hhc, Hp.set_t, T.get_put, if_pos rfl]
            have hYc := hY.at_.fr fc (Nat.le_refl _)
            have fec : Fr he.n he hc := frb.trans fc (by omega)
            have rowsc := rowse.fr fec (Nat.le_refl _)
            have hYs : Y.seenF = bump t.seenF i := hY.seenF (by omega)
            have hYl : Y.seen.length = s.sorts.length := by rw [hY.seen, List.length_set, htl]
            refine seq_reg fun K1 hn hp => ?_
            simp only [sy.down, argsTo, cellPut_some, Nat.reduceEqDiff, reduceIte, Nat.reduceLT, Nat.reduceAdd, Nat.reduceMul, Nat.reduceLeDiff, j1, qYc]
            refine callA_func (sok xt) ((part_c xt hc N v Y.ve all Y.seen rowsc hYc.seen (fun l hl => by rw [L.len l hl, hYl]) hal (by omega)).mono ?_)
            rintro r hf ⟨u, rfl, frf, rowsf⟩
            simp only [sy.down, argsTo, cellPut_some, Nat.reduceEqDiff, reduceIte, Nat.reduceLT, Nat.reduceAdd, Nat.reduceMul, Nat.reduceLeDiff]
            refine hn _ _ ?_
            clear hn hp K1
            have hlof := frf.lo
            have L' := L.next g hs hit hYs hYl
            have hal' : (all.filter fun l => geL l Y.seen).length ≤ 2000 := Nat.le_trans (List.length_filter_le _ _) hal
            have hlenU := fun h' => rowsf.len (h' := h') tg97 rfl
            simp only [cc, List.length_map] at hlenU
            have frE : Fr hd'.n hd' hf := (fre.trans fec (by omega)).trans frf (by omega)
            have qYf : hf.t.get hb.n = some (.cells Y.cells 25) := by rw [frf.at_ _ (by omega)]; exact qYc
            have hYf := hYc.fr frf (Nat.le_refl _)
            have hw : IntKind.i64.wrap ((i : Int) + 1) = ((i + 1 : Nat) : Int) := by rw [wrap_i64 _ (by omega) (by omega)]; simp
            have hnil := L'.nil
            rw [hYs] at hnil
            by_cases hq : s.truths (bump t.seenF i) = []
            · have e0 := hnil.1 hq
              have d0 : decide ((0 : Int) < ((all.filter fun l => geL l Y.seen).length : Int)) = false := decide_eq_false (by rw [e0]; simp)
              refine seq_reg fun K hn hp => ?_
              simp only [sy.down, argsTo, cellPut_some, Nat.reduceEqDiff, reduceIte, Nat.reduceLT, Nat.reduceAdd, Nat.reduceMul, Nat.reduceLeDiff, hlenU, d0]
              refine hn _ _ ?_
              clear hn hp K
              refine wpc_cond false (by simp only [sy.down, argsTo, cellPut_some, Nat.reduceEqDiff, reduceIte, Nat.reduceLT, Nat.reduceAdd, Nat.reduceMul, Nat.reduceLeDiff]) (fun hx => by cases hx) (fun _ => ?_)
              refine wpc_skip (kc1 _ ?_)
              refine reg fun K1 hn hp => ?_
              simp only [sy.down, argsTo, cellPut_some, Nat.reduceEqDiff, reduceIte, Nat.reduceLT, Nat.reduceAdd, Nat.reduceMul, Nat.reduceLeDiff, j11, hw]
              refine hn _ _ ?_
              refine ⟨⟨i + 1, _, hf, rfl, frE, hit, ?_, ?_, ?_, ?_, ?_⟩, ?_⟩
              · simp [T.get_put, j1]
              · simp [T.get_put, j2]
              · simp [T.get_put, j3]
              · rw [List.range_succ, List.foldl_append]
                simp only [List.foldl_cons, List.foldl_nil, Sk.lookStep, hq, if_true]
                simp [T.get_put, j10]
              · simp [T.get_put]
              · have hm : s.sorts.length - (i + 1) < s.sorts.length - i := by omega
                simpa [T.get_put, j11] using hm
            · have hne : (all.filter fun l => geL l Y.seen) ≠ [] := fun e => hq (hnil.2 e)
              have d0 : decide ((0 : Int) < ((all.filter fun l => geL l Y.seen).length : Int)) = true := decide_eq_true (by have := List.length_pos_iff.2 hne; omega)
              refine seq_reg fun K hn hp => ?_
              simp only [sy.down, argsTo, cellPut_some, Nat.reduceEqDiff, reduceIte, Nat.reduceLT, Nat.reduceAdd, Nat.reduceMul, Nat.reduceLeDiff, hlenU, d0]
              refine hn _ _ ?_
              clear hn hp K
              refine wpc_cond true (by simp only [sy.down, argsTo, cellPut_some, Nat.reduceEqDiff, reduceIte, Nat.reduceLT, Nat.reduceAdd, Nat.reduceMul, Nat.reduceLeDiff]) (fun _ => ?_) (fun hx => by cases hx)
              have hsum := bump_sum g hs hit
              have hsn := bump_sn g hs hit hq
              refine reg fun K1 hn hp => ?_
              simp only [sy.down, argsTo, cellPut_some, Nat.reduceEqDiff, reduceIte, Nat.reduceLT, Nat.reduceAdd, Nat.reduceMul, Nat.reduceLeDiff, j2, j10, qYf]
              refine callA_func (sok xt) ((ih Y (hlk.trans hY.like) hYl (by rw [hYs]; exact hsn) (by rw [hYs]; omega) hf hc.n u _ hYf rowsf L' hal').mono ?_)
              rintro r hg ⟨rfl, frg⟩
              rw [hYs]
              simp only [sy.down, argsTo, cellPut_some, Nat.reduceEqDiff, reduceIte, Nat.reduceLT, Nat.reduceAdd, Nat.reduceMul, Nat.reduceLeDiff, j10]
              refine hn _ _ (kc1 _ ?_)
              clear hn hp K1
              refine reg fun K1 hn hp => ?_
              simp only [sy.down, argsTo, cellPut_some, Nat.reduceEqDiff, reduceIte, Nat.reduceLT, Nat.reduceAdd, Nat.reduceMul, Nat.reduceLeDiff, j11, hw]
              refine hn _ _ ?_
              refine ⟨⟨i + 1, _, hg, rfl, frE.trans frg (by omega), hit, ?_, ?_, ?_, ?_, ?_⟩, ?_⟩
              · simp [T.get_put, j1]
              · simp [T.get_put, j2]
              · simp [T.get_put, j3]
              · rw [List.range_succ, List.foldl_append]
                simp only [List.foldl_cons, List.foldl_nil, Sk.lookStep, hq, if_false]
                rw [Int.add_comm (s.LK B (bump t.seenF i)) 1]
                simp [T.get_put]
              · simp [T.get_put]
              · have hm : s.sorts.length - (i + 1) < s.sorts.length - i := by omega
                simpa [T.get_put, j11] using hm
          · refine seq_cond false (by simp only [sy.down, argsTo, cellPut_some, Nat.reduceEqDiff, reduceIte, Nat.reduceLT, Nat.reduceAdd, Nat.reduceMul, Nat.reduceLeDiff, hti, hit]) (fun hx => by cases hx) (fun _ => ?_)
            refine seq_exit (kb2 _ ?_)
            have hii : i = s.sorts.length := by omega
            subst hii
            refine seq_reg fun K hn hp => ?_
            simp only [sy.down, argsTo, cellPut_some, Nat.reduceEqDiff, reduceIte, Nat.reduceLT, Nat.reduceAdd, Nat.reduceMul, Nat.reduceLeDiff, j10]
            refine hn _ _ ?_
            clear hn hp K
            refine wpc_ret (end_1 res46 ⟨?_, hfr.trans fre (by omega)⟩)
            rw [eLK]; simp [T.get_put]
        · refine ⟨0, _, hd', rfl, Fr.refl (Nat.le_refl _), Nat.zero_le _, ?_, ?_, ?_, ?_, ?_⟩
          all_goals simp [T.get_put, g1, g2, g3]
    · refine ⟨0, _, h1, rfl, Fr.refl (Nat.le_refl _), Nat.zero_le _, ?_, ?_, ?_, ?_, ?_, ?_⟩
      all_goals simp [T.get_put]
end Go.Proofs.Kn
/-
  A region that draws its order, with a call in its midst that makes memory, beside which what lies fast is looked at.
-/
noncomputable section
namespace Go.Ev
section
variable {E : Env} {nt : Nat} {ops : Array Oper}
structure SInv4 (P : Program) (tb : T TE) (xt : Addr → Option Value) (t0 : T AO) (RD : Oper → T AV → Prop) (PM PRm PR PC : Nat → Prop) (bs0 : List BE) (rs0 : List RE) (cs : List Nat) (st : DS) : Prop where
  mj : PM st.mj
  rs : ∀ r ∈ st.rs, r ∈ rs0 ∨ (PRm r.m ∧ (PR r.i ∨ RD r.o r.tm) ∧ ∀ call, evOp P tb xt call r.o r.tm { t := t0, n := r.n } = some (.ok r.v { t := t0, n := r.n }))
  fs : st.fs = []
  b : st.b = t0
  bs : ∀ e ∈ st.bs, e ∈ bs0 ∨ (e.b = t0 ∧ PM e.mj ∧ PC e.nx)
  dl : st.ne = 0 ∨ (st.dl ∈ cs ∧ PC st.dl)

theorem woc_drun4 {t0 : T AO} {RD : Oper → T AV → Prop} {D : Tmp → Prop} {tm0 : T AV} {PM PRm PR PC : Nat → Prop} {bs0 : List BE} {rs0 : List RE} : ∀ (ol : List Oper) (ms : List Nat) (i : Nat) (cs : List Nat) (tm : T AV) (h : Hp) (Q : T AV → Hp → Prop) (st : DS), WOC E nt ops ol tm h Q → chainOk ol ms i cs = true →
    (∀ (k : Nat) (o : Oper) (m : Nat), ol[k]? = some o → ms[k]? = some m → (kindOf o.op = .read → PRm m ∧ (PR (i + k) ∨ ∀ tm', (∀ d, D d → tm'.get d = tm0.get d) → RD o tm')) ∧ (calm o.op = false → PM m ∧ PC (i + k))) → (∀ o ∈ ol, ∀ d, o.dst = some d → ¬ D d) → (∀ d, D d → tm.get d = tm0.get d) → st.i = i → st.tm = tm → st.n = h.n → h.t = t0 → SInv4 E.P E.tb E.xt t0 RD PM PRm PR PC bs0 rs0 cs st →
    ∃ call st' h' cs', Sound E.P E.xt call ∧ ((∀ fv args k r, call fv args k = some r → h.n ≤ k.n ∧ k.n < h'.n) ∧ h.n ≤ h'.n) ∧ drun E.P E.tb E.xt call ops ol ms st = some st' ∧ SInv4 E.P E.tb E.xt t0 RD PM PRm PR PC bs0 rs0 cs' st' ∧ st'.n = h'.n ∧ h'.t = t0 ∧ Q st'.tm h'
  | [], ms, i, cs, tm, h, Q, st, hw, hc, hpr, hdd, hag, hi, htm, hn, ht, hI => ⟨ncall, st, h, cs, ncall_ok _ _, ⟨(fun _ _ _ _ hx => by cases hx), Nat.le_refl _⟩, rfl, hI, hn, ht, by rw [htm]; exact hw⟩
  | o :: ol, [], i, cs, tm, h, Q, st, hw, hc, hpr, hdd, hag, hi, htm, hn, ht, hI => by simp [chainOk] at hc
  | o :: ol, m :: ms, i, cs, tm, h, Q, st, hw, hc, hpr, hdd, hag, hi, htm, hn, ht, hI => by
    simp only [WOC] at hw
    obtain ⟨_, hw⟩ := hw
    obtain ⟨I0, I4, I1, I2, I3, I5⟩ := hI
    have hpr' : ∀ (k : Nat) (o : Oper) (m : Nat), ol[k]? = some o → ms[k]? = some m → (kindOf o.op = .read → PRm m ∧ (PR (i + 1 + k) ∨ ∀ tm', (∀ d, D d → tm'.get d = tm0.get d) → RD o tm')) ∧ (calm o.op = false → PM m ∧ PC (i + 1 + k)) := fun k o' m' ho hm => by have := hpr (k + 1) o' m' (by simpa using ho) (by simpa using hm); rwa [show i + (k + 1) = i + 1 + k by omega] at this
    have hdd' : ∀ o ∈ ol, ∀ d, o.dst = some d → ¬ D d := fun o ho => hdd o (List.mem_cons_of_mem _ ho)
    have hag' : ∀ v, ∀ d, D d → (putT tm o.dst v).get d = tm0.get d := fun v d hd => by
      unfold putT
      split
      · exact hag d hd
      · rename_i d' he
        rw [T.get_put, if_neg (by rintro rfl; exact hdd o List.mem_cons_self _ he hd)]
        exact hag d hd
    have hput : ∀ {v : AV} {N : T AV → Prop}, putK nt tm o.dst v N → N (putT tm o.dst v) := fun {v N} hp => by
      unfold putK at hp
      unfold putT
      split at hp
      · rename_i hd; rw [hd]; exact hp
      · rename_i d hd; rw [hd]; exact hp.2
    have heta : ({ t := t0, n := h.n } : Hp) = h := by rw [← ht]
    simp only [chainOk] at hc
    cases haw : awanted ops o tm with
    | false =>
      rw [haw] at hw; simp only [cond_false] at hw
      have hw := hput hw
      have hd : ∀ call, dstep E.P E.tb E.xt call ops o m st = some (upd o m st default { t := .e, n := st.n } .new) := fun call => by
        unfold dstep dres
        rw [htm, haw]; rfl
      have hnext : ∃ cs2, chainOk ol ms (i + 1) cs2 = true ∧ ∀ x ∈ cs, x ∈ cs2 := by
        cases hcal : calm o.op with
        | true => rw [hcal] at hc; exact ⟨cs, hc, fun _ h => h⟩
        | false =>
          rw [hcal] at hc
          simp only [cond_false, Bool.and_eq_true] at hc
          exact ⟨i :: cs, hc.2.2, fun _ h => List.mem_cons_of_mem _ h⟩
      obtain ⟨cs2, hc2, hsub⟩ := hnext
      obtain ⟨call, st', h', cs', r1, r2, r3, r4, r5, r6, r7⟩ := woc_drun4 (t0 := t0) ol ms (i + 1) cs2 _ h Q (upd o m st default { t := .e, n := st.n } .new) hw hc2 hpr' hdd' (hag' _) (by simp [upd, hi]) (by simp [upd, htm]) (by simp [upd, hn]) ht
        ⟨by simpa [upd] using I0, by simpa [upd] using I4, by simp [upd, I1], by simp [upd, I2], by simpa [upd] using I3, by rcases I5 with h1 | h1; exact .inl (by simp [upd, h1]); exact .inr ⟨by simpa [upd] using hsub _ h1.1, by simpa [upd] using h1.2⟩⟩
      exact ⟨call, st', h', cs', r1, r2, by rw [drun_cons, hd]; exact r3, r4, r5, r6, r7⟩
    | true =>
      rw [haw] at hw; simp only [cond_true] at hw
      cases hcal : calm o.op with
      | true =>
        rw [hcal] at hc; simp only [cond_true] at hc
        obtain ⟨call0, res, _, hop, hk⟩ := hw.ev
        rw [calm_evOp rfl hcal] at hop
        cases ha : aop E.P E.tb E.xt (aeval tm) o.op h with
        | none => rw [ha] at hop; cases hop
        | some p =>
          obtain ⟨v, h1⟩ := p
          rw [ha] at hop
          simp only [orOk, Option.some.injEq] at hop
          subst hop
          obtain ⟨_, hk⟩ := hk
          have hk := hput hk
          rcases calm_kind hcal with hkd | hkd
          · obtain ⟨e1, e2⟩ := calm_new hcal hkd ha
            subst e1
            have hd : ∀ call, dstep E.P E.tb E.xt call ops o m st = some (upd o m st v { t := .e, n := st.n } .new) := fun call => by
              unfold dstep dres
              rw [htm, haw, hkd]
              simp only [cond_true]
              rw [calm_evOp rfl hcal, e2]; rfl
            obtain ⟨call, st', h', cs', r1, r2, r3, r4, r5, r6, r7⟩ := woc_drun4 (t0 := t0) ol ms (i + 1) cs _ h1 Q (upd o m st v { t := .e, n := st.n } .new) hk hc hpr' hdd' (hag' _) (by simp [upd, hi]) (by simp [upd, htm]) (by simp [upd, hn]) ht
              ⟨by simpa [upd] using I0, by simpa [upd] using I4, by simp [upd, I1], by simp [upd, I2], by simpa [upd] using I3, by simpa [upd] using I5⟩
            exact ⟨call, st', h', cs', r1, r2, by rw [drun_cons, hd]; exact r3, r4, r5, r6, r7⟩
          · obtain ⟨e1, e2⟩ := calm_read hcal hkd ha
            subst e1
            have hov : ∀ q, ({ t := ovl q st.fs st.b, n := st.n } : Hp) = h1 := fun q => by rw [I1, I2, hn]; exact heta
            have hd : ∀ call, dstep E.P E.tb E.xt call ops o m st = some (upd o m st v h1 .read) := fun call => by
              unfold dstep dres
              rw [htm, haw, hkd]
              simp only [cond_true]
              rw [hov, calm_evOp rfl hcal, ha]; rfl
            obtain ⟨call, st', h', cs', r1, r2, r3, r4, r5, r6, r7⟩ := woc_drun4 (t0 := t0) ol ms (i + 1) cs _ h1 Q (upd o m st v h1 .read) hk hc hpr' hdd' (hag' _) (by simp [upd, hi]) (by simp [upd, htm]) (by simp [upd, hn]) ht
              ⟨by simpa [upd] using I0, fun r hr => by
                simp only [upd, List.mem_cons] at hr
                rcases hr with rfl | hr
                · have hp := (hpr 0 o m rfl rfl).1 hkd
                  refine .inr ⟨hp.1, by rcases hp.2 with h2 | h2; exact .inl (by simpa [hi] using h2); exact .inr (by show RD o st.tm; rw [htm]; exact h2 tm hag), fun call => ?_⟩
                  simp only
                  rw [calm_evOp rfl hcal, htm, hn, ← ht, e2]; rfl
                · exact I4 r hr, by simp [upd, I1], by simp [upd, I2], by simpa [upd] using I3, by simpa [upd] using I5⟩
            exact ⟨call, st', h', cs', r1, r2, by rw [drun_cons, hd]; exact r3, r4, r5, r6, r7⟩
      | false =>
        rw [hcal] at hc
        simp only [cond_false, Bool.and_eq_true] at hc
        obtain ⟨hc1, hc2, hc3⟩ := hc
        unfold isCall at hc1
        split at hc1
        · rename_i q hq
          split at hc1
          · rename_i f hf
            unfold WOp at hw
            simp only [hq, calK, hf] at hw
            obtain ⟨res, h1, hcs, hk⟩ := hw
            cases res with
            | pan v => exact hk.elim
            | ret v =>
              obtain ⟨⟨n, hlt, hnn, rfl⟩, hk⟩ := hk
              have hlt : h.n < n := hlt (by simp [isCall, hq, hf])
              have hk := hput hk
              have hkd : kindOf o.op = .eff := by simp [hq, kindOf, hf]
              have hp := (hpr 0 o m rfl rfl).2 hcal
              simp only [Nat.add_zero] at hp
              obtain ⟨call, st', h', cs', r1, r2, r3, r4, r5, r6, r7⟩ := woc_drun4 (t0 := t0) ol ms (i + 1) (i :: cs) _ (h.up n) Q (upd o m st v (h.up n) .eff) hk hc3 hpr' hdd' (hag' _) (by simp [upd, hi]) (by simp [upd, htm]) (by simp [upd]) ht
                ⟨by simpa [upd] using hp.1, by simpa [upd] using I4, by simp [upd, I1], by simp [upd, ht], fun e he => by
                  simp only [upd, List.mem_cons] at he
                  rcases he with rfl | he
                  · exact .inr ⟨I2, I0, by simpa [hi] using hp.2⟩
                  · exact I3 e he, .inr ⟨by simp [upd, hi], by simpa [upd, hi] using hp.2⟩⟩
              have hsd : Sound E.P E.xt (ocall (aeval tm f) (q.args.toList.map (aeval tm)) h (.ret v) (h.up n) call) := by
                intro fv a k r k' he
                unfold ocall at he
                split at he
                · rename_i hq
                  obtain ⟨rfl, rfl, rfl⟩ := hq
                  cases he
                  exact hcs
                · exact r1 _ _ _ _ _ he
              refine ⟨ocall (aeval tm f) (q.args.toList.map (aeval tm)) h (.ret v) (h.up n) call, st', h', cs', hsd, ⟨fun fv a k r he => ?_, Nat.le_trans hnn r2.2⟩, ?_, r4, r5, r6, r7⟩
              · unfold ocall at he
                split at he
                · rename_i hq
                  rw [hq.2.2]
                  have := r2.2
                  simp only [Hp.up_n] at this
                  exact ⟨Nat.le_refl _, by omega⟩
                · have := r2.1 _ _ _ _ he
                  simp only [Hp.up_n] at this; omega
              · have hov : ∀ q, ({ t := ovl q st.fs st.b, n := st.n } : Hp) = h := fun q => by rw [I1, I2, hn]; exact heta
                have hch : (Nat.beq st.ne 0 || bt m st.dl) = true := by
                  rcases I5 with h1 | h1
                  · rw [h1]; rfl
                  · rw [List.all_eq_true.1 hc2 _ h1.1]; simp
                have hev : evOp E.P E.tb E.xt (ocall (aeval tm f) (q.args.toList.map (aeval tm)) h (.ret v) (h.up n) call) o tm h = some (.ok v (h.up n)) := by
                  simp [evOp, hq, evOpCall, hf, ocall, orCall]
                rw [drun_cons]
                have hd : dstep E.P E.tb E.xt (ocall (aeval tm f) (q.args.toList.map (aeval tm)) h (.ret v) (h.up n) call) ops o m st = some (upd o m st v (h.up n) .eff) := by
                  unfold dstep dres
                  rw [htm, haw, hkd]
                  simp only [cond_true]
                  rw [hch]
                  simp only [cond_true]
                  rw [hov, hev]
                rw [hd]
                simp only
                refine drun_later r1 ol ms _ _ (fun fv a k r hk hr => ?_) r3
                unfold ocall
                rw [if_neg (fun hq => ?_)]
                · exact hr
                · simp only [upd, Hp.up_n] at hk
                  rw [hq.2.2] at hk; omega
          · cases hc1
        · cases hc1


def asgOf (l : List Oper) : List Tmp := l.filterMap (·.dst)
/-- A look at what lies fast. -/
def fixLd (asg : List Tmp) (o : Oper) : Bool :=
  match o.op with
  | .load _ (.tmp d) => !asg.contains d
  | _ => false
def fixT (asg : List Tmp) : List Oper → List Tmp
  | [] => []
  | o :: l => match o.op with
    | .load _ (.tmp d) => bif asg.contains d then fixT asg l else d :: fixT asg l
    | _ => fixT asg l
theorem fixT_mem {asg : List Tmp} {o : Oper} (h : fixLd asg o = true) : ∀ {l : List Oper}, o ∈ l → ∃ ty d, o.op = .load ty (.tmp d) ∧ d ∈ fixT asg l ∧ asg.contains d = false := by
  intro l hl
  unfold fixLd at h
  split at h
  · rename_i ty d hop
    refine ⟨ty, d, hop, ?_, by simpa using h⟩
    induction l with
    | nil => cases hl
    | cons p l ih =>
      have hc : asg.contains d = false := by simpa using h
      rcases List.mem_cons.1 hl with rfl | hl
      · simp only [fixT, hop, hc, cond_false]; exact List.mem_cons_self
      · have := ih hl
        simp only [fixT]
        split
        · rename_i d' _
          cases asg.contains d'
          · exact List.mem_cons_of_mem _ this
          · exact this
        · exact this
  · cases h
def frontOk (asg : List Tmp) (mz : Nat) (M2 : List Nat) : List Oper → Nat → Bool
  | [], _ => true
  | o :: ol, i => (match kindOf o.op with
    | .new => true
    | .read => (bt mz i && M2.all fun m => bt m i) || fixLd asg o
    | .eff => bt mz i && M2.all fun m => bt m i) && frontOk asg mz M2 ol (i + 1)
theorem frontOk_at {asg : List Tmp} {mz : Nat} {M2 : List Nat} : ∀ (l : List Oper) (i k : Nat) (o : Oper), frontOk asg mz M2 l i = true → l[k]? = some o → kindOf o.op ≠ .new → ((bt mz (i + k) = true ∧ ∀ m ∈ M2, bt m (i + k) = true) ∨ (kindOf o.op = .read ∧ fixLd asg o = true))
  | [], i, k, o, _, ho, _ => by simp at ho
  | p :: l, i, 0, o, h, ho, hk => by
    simp only [List.getElem?_cons_zero, Option.some.injEq] at ho
    subst ho
    simp only [frontOk, Bool.and_eq_true] at h
    have h := h.1
    split at h
    · rename_i hq; exact absurd hq hk
    · rename_i hq
      simp only [Bool.or_eq_true, Bool.and_eq_true, List.all_eq_true] at h
      rcases h with h | h
      · exact .inl (by simpa using h)
      · exact .inr ⟨hq, h⟩
    · simp only [Bool.and_eq_true, List.all_eq_true] at h
      exact .inl (by simpa using h)
  | p :: l, i, k + 1, o, h, ho, hk => by
    simp only [frontOk, Bool.and_eq_true] at h
    have := frontOk_at l (i + 1) k o h.2 (by simpa using ho) hk
    rwa [show i + 1 + k = i + (k + 1) by omega] at this
def RDp (P : Program) (tb : T TE) (xt : Addr → Option Value) (B : Nat) (t0 : T AO) (o : Oper) (tm : T AV) : Prop := ∀ t2 : T AO, (∀ k, k < B → t2.get k = t0.get k) → ∀ (call : CallF) (n : Nat) (v : AV), evOp P tb xt call o tm { t := t0, n := n } = some (.ok v { t := t0, n := n }) → evOp P tb xt call o tm { t := t2, n := n } = some (.ok v { t := t2, n := n })
theorem rd_load {P : Program} {tb : T TE} {xt : Addr → Option Value} {B : Nat} {t0 : T AO} {o : Oper} {tm : T AV} {ty d b off : Nat} (hop : o.op = .load ty (.tmp d)) (hd : tm.get d = some (.ptr b off)) (hb : b < B) : RDp P tb xt B t0 o tm := by
  intro t2 h2 call n v he
  have hae : aeval tm (.tmp d) = .ptr b off := by rw [aeval_tmp, hd]; rfl
  have e1 : ∀ t : T AO, aload tb xt { t := t, n := n } ty (.ptr b off) = aload tb xt { t := t0, n := n } ty (.ptr b off) ∨ t.get b ≠ t0.get b := fun t => by
    by_cases h : t.get b = t0.get b
    · left
      simp only [aload, h]
    · exact .inr h
  have e2 := (e1 t2).resolve_right (fun h => h (h2 b hb))
  simp only [evOp, hop, aop, hae] at he ⊢
  rw [e2]
  cases hl : aload tb xt { t := t0, n := n } ty (.ptr b off) with
  | none => rw [hl] at he; cases he
  | some u =>
    rw [hl] at he
    simp only [pr1, orOk, Option.some.injEq, OR.ok.injEq] at he ⊢
    exact ⟨he.1, trivial⟩
theorem chain_eff : ∀ (ol : List Oper) (ms : List Nat) (i : Nat) (cs : List Nat), chainOk ol ms i cs = true → ∀ (k : Nat) (o : Oper), ol[k]? = some o → calm o.op = false → kindOf o.op = .eff
  | [], ms, i, cs, _, k, o, ho, _ => by simp at ho
  | p :: ol, [], i, cs, h, k, o, ho, _ => by simp [chainOk] at h
  | p :: ol, m :: ms, i, cs, h, k, o, ho, hc => by
    simp only [chainOk] at h
    cases k with
    | zero =>
      simp only [List.getElem?_cons_zero, Option.some.injEq] at ho
      subst ho
      rw [hc] at h
      simp only [cond_false, Bool.and_eq_true] at h
      have := h.1
      unfold isCall at this
      split at this
      · rename_i q hq
        split at this
        · rename_i f hf; simp [hq, kindOf, hf]
        · cases this
      · cases this
    | succ k =>
      cases hp : calm p.op with
      | true =>
        rw [hp] at h
        exact chain_eff ol ms (i + 1) cs h k o (by simpa using ho) hc
      | false =>
        rw [hp] at h
        simp only [cond_false, Bool.and_eq_true] at h
        exact chain_eff ol ms (i + 1) _ h.2.2 k o (by simpa using ho) hc
end
section
def calmOkF (nt : Nat) (l : List Oper) (z : Oper) (l2 : List Oper) : Bool :=
  match sta ⟨l ++ z :: l2⟩ with
  | none => false
  | some s => Nat.ble s.mx nt && (chainOk l s.ms 0 [] && (isCall z.op && ((match s.ms[l.length]? with | some mz => frontOk (asgOf l) mz (actM l2 (s.ms.drop (l.length + 1))) l 0 | none => false) && (chainOk l2 (s.ms.drop (l.length + 1)) (l.length + 1) [l.length] && (actM l2 (s.ms.drop (l.length + 1))).all fun m => bt m l.length))))
theorem WOC.okF {E : Env} {nt : Nat} (htb : Tb E.P E.tb) {l : List Oper} {z : Oper} {l2 : List Oper} {ops : Array Oper} (hops : ops = ⟨l ++ z :: l2⟩) (hst : calmOkF nt l z l2 = true) {tm : T AV} {h : Hp} (hfx : ∀ d ∈ fixT (asgOf l) l, ∃ b off, tm.get d = some (.ptr b off) ∧ b < h.n) {Q : T AV → Hp → Prop}
    (hw : WOC E nt ops l tm h (fun tm1 h1 => awanted ops z tm1 = true ∧ WOp E z tm1 h1 (fun r => match r with | .pan _ _ => False | .ok v h2 => h1.n < h2.n ∧ (∀ k, k < h.n → h2.t.get k = h.t.get k) ∧ putK nt tm1 z.dst v (fun tm2 => WOC E nt ops l2 tm2 h2 Q)))) : ∃ tm' h', DrX E nt ops tm h .normal tm' h' ∧ Q tm' h' := by
  have hol : ops.toList = l ++ z :: l2 := by rw [hops]
  unfold calmOkF at hst
  rw [← hops] at hst
  split at hst
  · cases hst
  rename_i s hs
  simp only [Bool.and_eq_true] at hst
  obtain ⟨hmx, hch, hic, hrd, hch2, hM2⟩ := hst
  split at hrd
  rotate_left
  · cases hrd
  rename_i mz hmz
  obtain ⟨M2, hM⟩ : ∃ M2, M2 = actM l2 (s.ms.drop (l.length + 1)) := ⟨_, rfl⟩
  rw [← hM] at hM2 hrd
  have hfr := fun k o ho hk => by simpa using frontOk_at l 0 k o hrd ho hk
  have hzk : ∀ q f, z.op = .call q → q.callee = .value f → kindOf z.op = .eff := fun q f hq hf => by simp [hq, kindOf, hf]
  have hPE : ∀ (k : Nat) (o : Oper), l[k]? = some o → kindOf o.op = .eff → bt mz k = true ∧ ∀ m ∈ M2, bt m k = true := fun k o ho hk => by
    rcases frontOk_at l 0 k o hrd ho (by rw [hk]; simp) with h1 | h1
    · simpa using h1
    · rw [hk] at h1; cases h1.1
  have hPC : ∀ (k : Nat) (o : Oper), l[k]? = some o → kindOf o.op = .read → (bt mz k = true ∧ ∀ m ∈ M2, bt m k = true) ∨ ∀ tm' : T AV, (∀ d, (asgOf l).contains d = false → tm'.get d = tm.get d) → RDp E.P E.tb E.xt h.n h.t o tm' := fun k o ho hk => by
    rcases frontOk_at l 0 k o hrd ho (by rw [hk]; simp) with h1 | h1
    · exact .inl (by simpa using h1)
    · refine .inr fun tm' hag => ?_
      obtain ⟨ty, d, hop, hd, hc⟩ := fixT_mem h1.2 (List.mem_of_getElem? ho)
      obtain ⟨b, off, hg, hb⟩ := hfx d hd
      exact rd_load hop (by rw [hag d hc]; exact hg) hb
  have hzM : ∀ m ∈ M2, bt m l.length = true := List.all_eq_true.1 hM2
  obtain ⟨call, st, h1, cs, r1, r2, r3, I, r5, r6, hz⟩ := woc_drun4 (t0 := h.t) (RD := RDp E.P E.tb E.xt h.n h.t) (D := fun d => (asgOf l).contains d = false) (tm0 := tm) (bs0 := []) (rs0 := []) (PM := fun _ => True) (PRm := fun _ => True) (PR := fun i => bt mz i = true ∧ ∀ m ∈ M2, bt m i = true) (PC := fun i => bt mz i = true ∧ ∀ m ∈ M2, bt m i = true) l s.ms 0 [] tm h _ { i := 0, tm := tm, n := h.n, b := h.t, mj := 0, dl := 0, ne := 0, fs := [], bs := [], rs := [] } hw hch
    (fun k o m ho _ => ⟨fun hk => ⟨trivial, by rw [Nat.zero_add]; exact hPC k o ho hk⟩, fun hk => ⟨trivial, by rw [Nat.zero_add]; exact hPE k o ho (chain_eff l s.ms 0 [] hch k o ho hk)⟩⟩)
    (fun o ho d hd hx => by
      have : (asgOf l).contains d = true := by simp only [List.contains_iff_mem, asgOf, List.mem_filterMap]; exact ⟨o, ho, hd⟩
      rw [hx] at this; cases this) (fun _ _ => rfl) rfl rfl rfl rfl ⟨trivial, by simp, rfl, rfl, by simp, .inl rfl⟩
  obtain ⟨_, I4, I1, I2, I3, I5⟩ := I
  have hi : st.i = l.length := by have := drun_i _ _ _ _ r3; simpa using this
  have hlen : l.length < s.ms.length := (List.getElem?_eq_some_iff.1 hmz).1
  have hm : s.ms.drop l.length = mz :: s.ms.drop (l.length + 1) := by
    rw [List.drop_eq_getElem_cons hlen, (List.getElem?_eq_some_iff.1 hmz).2]
  have heta : ({ t := h.t, n := st.n } : Hp) = h1 := by rw [r5, ← r6]
  have hov : ∀ q, ({ t := ovl q st.fs st.b, n := st.n } : Hp) = h1 := fun q => by rw [I1, I2]; exact heta
  obtain ⟨haw, hz⟩ := hz
  have hput : ∀ {v : AV} {N : T AV → Prop}, putK nt st.tm z.dst v N → N (putT st.tm z.dst v) := fun {v N} hp => by
    unfold putK at hp
    unfold putT
    split at hp
    · rename_i hd; rw [hd]; exact hp
    · rename_i d hd; rw [hd]; exact hp.2
  unfold isCall at hic
  split at hic
  rotate_left
  · cases hic
  rename_i q hq
  split at hic
  rotate_left
  · cases hic
  rename_i f hf
  unfold WOp at hz
  simp only [hq, calK, hf] at hz
  obtain ⟨res, h2, hcs, hk⟩ := hz
  cases res with
  | pan v => exact hk.elim
  | ret v =>
    have hk' : h1.n < h2.n ∧ (∀ k, k < h.n → h2.t.get k = h.t.get k) ∧ putK nt st.tm z.dst v (fun tm2 => WOC E nt ops l2 tm2 h2 Q) := hk
    clear hk
    obtain ⟨n12, hfix, hk⟩ := hk'
    have hk : WOC E nt ops l2 (putT st.tm z.dst v) h2 Q := hput hk
    have hkd := hzk q f hq hf
    obtain ⟨st2, hst2⟩ : ∃ st2, st2 = upd z mz st v h2 .eff := ⟨_, rfl⟩
    have e1 : st2.tm = putT st.tm z.dst v := by rw [hst2]; rfl
    have e2 : st2.n = h2.n := by rw [hst2]; rfl
    have e3 : st2.i = l.length + 1 := by rw [hst2]; simp [upd, hi]
    have e4 : st2.fs = [] := by rw [hst2]; simp [upd, I1]
    have e5 : st2.b = h2.t := by rw [hst2]; rfl
    have e6 : st2.mj = mz := by rw [hst2]; rfl
    have e7 : st2.dl = l.length := by rw [hst2]; simp [upd, hi]
    have e8 : st2.rs = st.rs := by rw [hst2]; rfl
    obtain ⟨call2, st3, h3, cs3, p1, p2, p3, J, p5, p6, hQ⟩ := woc_drun4 (t0 := h2.t) (RD := fun _ _ => True) (D := fun _ => False) (tm0 := .e) (bs0 := st2.bs) (rs0 := st2.rs) (PM := fun m => m = mz ∨ m ∈ M2) (PRm := fun m => m ∈ M2) (PR := fun _ => True) (PC := fun _ => True) l2 (s.ms.drop (l.length + 1)) (l.length + 1) [l.length] _ h2 Q st2 hk hch2
      (fun k o m ho hmk => ⟨fun hk => ⟨by rw [hM]; exact actM_mem _ _ k o m ho hmk (by rw [hk]; simp), .inl trivial⟩, fun hk => ⟨(.inr (by rw [hM]; exact actM_mem _ _ k o m ho hmk (chain_calls l2 _ _ _ hch2 k o ho hk))), trivial⟩⟩) (fun _ _ _ _ hx => hx) (fun _ hx => hx.elim) e3 e1 e2 rfl
      ⟨.inl e6, fun r hr => .inl hr, e4, e5, fun e he => .inl he, .inr ⟨by rw [e7]; simp, trivial⟩⟩
    obtain ⟨J0, J4, J1, J2, J3, _⟩ := J
    have hsd : Sound E.P E.xt (ocall (aeval st.tm f) (q.args.toList.map (aeval st.tm)) h1 (.ret v) h2 call2) := by
      intro fv a k r k' he
      unfold ocall at he
      split at he
      · rename_i hq
        obtain ⟨rfl, rfl, rfl⟩ := hq
        cases he
        exact hcs
      · exact p1 _ _ _ _ _ he
    -- the calls before, the one in the midst, those behind
    obtain ⟨cl, hcl⟩ : ∃ cl : CallF, cl = fun fv a k => if k.n < h1.n then call fv a k else ocall (aeval st.tm f) (q.args.toList.map (aeval st.tm)) h1 (.ret v) h2 call2 fv a k := ⟨_, rfl⟩
    have hcls : Sound E.P E.xt cl := by
      intro fv a k r k' he
      rw [hcl] at he
      simp only at he
      split at he
      · exact r1 _ _ _ _ _ he
      · exact hsd _ _ _ _ _ he
    have r3' := drun_later (call' := cl) r1 l s.ms _ _ (fun fv a k r _ hr => by
      rw [hcl]
      simp only
      rw [if_pos (r2.1 _ _ _ _ hr).2]
      exact hr) r3
    have p3' := drun_later (call' := cl) p1 l2 _ _ _ (fun fv a k r hk hr => by
      have hb := p2.1 _ _ _ _ hr
      rw [hcl]
      simp only
      rw [if_neg (by omega)]
      unfold ocall
      rw [if_neg (fun hqq => by rw [hqq.2.2] at hb; omega)]
      exact hr) p3
    have hch' : (Nat.beq st.ne 0 || bt mz st.dl) = true := by
      rcases I5 with h1 | h1
      · rw [h1]; rfl
      · rw [h1.2.1]; simp
    have hev : evOp E.P E.tb E.xt cl z st.tm h1 = some (.ok v h2) := by
      simp [evOp, hq, evOpCall, hf, hcl, ocall, orCall]
    have hd : dstep E.P E.tb E.xt cl ops z mz st = some st2 := by
      rw [hst2]
      unfold dstep dres
      rw [haw, hkd]
      simp only [cond_true]
      rw [hch']
      simp only [cond_true]
      rw [hov, hev]
    have hrun : drun E.P E.tb E.xt cl ops ops.toList s.ms { i := 0, tm := tm, n := h.n, b := h.t, mj := 0, dl := 0, ne := 0, fs := [], bs := [], rs := [] } = some st3 := by
      rw [hol, drun_append _ _ _ _ _ r3', hm, drun_cons, hd]; exact p3'
    have hbs2 : ∀ e ∈ st2.bs, e.b = h.t ∧ (∀ m ∈ M2, bt m e.nx = true) := fun e he => by
      rw [hst2] at he
      simp only [upd, List.mem_cons] at he
      rcases he with rfl | he
      · exact ⟨I2, fun m hm => by simp only [hi]; exact hzM m hm⟩
      · rcases I3 e he with h1 | h1
        · cases h1
        · exact ⟨h1.1, h1.2.2.2⟩
    have hrs2 : ∀ r ∈ st2.rs, ((bt mz r.i = true ∧ ∀ m ∈ M2, bt m r.i = true) ∨ RDp E.P E.tb E.xt h.n h.t r.o r.tm) ∧ ∀ call, evOp E.P E.tb E.xt call r.o r.tm { t := h.t, n := r.n } = some (.ok r.v { t := h.t, n := r.n }) := fun r hr => by
      rw [e8] at hr
      rcases I4 r hr with h1 | h1
      · cases h1
      · exact h1.2
    have hchk : DChk E.P E.tb E.xt cl st3 ops.size := by
      intro r hr e' he'
      rcases J4 r hr with hro | ⟨hrm, _, hrv⟩
      · obtain ⟨hri, hrv⟩ := hrs2 r hro
        have hnew : ∀ m, (m = mz ∨ m ∈ M2) → (bt mz r.i = true ∧ ∀ m ∈ M2, bt m r.i = true) → bt m r.i = true := fun m hm hri => by
          rcases hm with rfl | hm
          · exact hri.1
          · exact hri.2 m hm
        have hold : e'.b = h2.t → RDp E.P E.tb E.xt h.n h.t r.o r.tm → ∃ h'', evOp E.P E.tb E.xt cl r.o r.tm { t := ovl (fun f => bt r.m f && !bt e'.mj f) st3.fs e'.b, n := r.n } = some (.ok r.v h'') := fun hb hri => by
          refine ⟨{ t := h2.t, n := r.n }, ?_⟩
          rw [J1]
          show evOp E.P E.tb E.xt cl r.o r.tm { t := e'.b, n := r.n } = _
          rw [hb]
          exact hri h2.t hfix cl r.n r.v (hrv cl)
        rcases List.mem_cons.1 he' with rfl | he'
        · rcases hri with hri | hri
          · exact .inr (.inr (.inl (hnew _ J0 hri)))
          · exact .inr (.inr (.inr (hold J2 hri)))
        · rcases J3 e' he' with heo | ⟨heb, hem, _⟩
          · refine .inr (.inr (.inr ⟨{ t := h.t, n := r.n }, ?_⟩))
            rw [J1]
            show evOp E.P E.tb E.xt cl r.o r.tm { t := e'.b, n := r.n } = _
            rw [(hbs2 e' heo).1]
            exact hrv cl
          · rcases hri with hri | hri
            · exact .inr (.inr (.inl (hnew _ hem hri)))
            · exact .inr (.inr (.inr (hold heb hri)))
      · have same : e'.b = h2.t → ∃ h'', evOp E.P E.tb E.xt cl r.o r.tm { t := ovl (fun f => bt r.m f && !bt e'.mj f) st3.fs e'.b, n := r.n } = some (.ok r.v h'') := fun hb => by
          refine ⟨{ t := h2.t, n := r.n }, ?_⟩
          rw [J1]
          show evOp E.P E.tb E.xt cl r.o r.tm { t := e'.b, n := r.n } = _
          rw [hb]
          exact hrv cl
        rcases List.mem_cons.1 he' with rfl | he'
        · exact .inr (.inr (.inr (same J2)))
        · rcases J3 e' he' with heo | ⟨heb, _, _⟩
          · exact .inr (.inl ((hbs2 e' heo).2 _ hrm))
          · exact .inr (.inr (.inr (same heb)))
    obtain ⟨n1, s1⟩ := drun_okP htb hcls hs (Nat.le_of_ble_eq_true hmx) hrun hchk
    have f1 : ({ t := ovl (fun f => !bt st3.mj f) st3.fs st3.b, n := st3.n } : Hp) = h3 := by
      rw [J1]
      show ({ t := st3.b, n := st3.n } : Hp) = h3
      rw [J2, p5, ← p6]
    rw [f1] at s1
    rw [p5] at n1 s1
    exact ⟨_, _, ⟨n1, s1⟩, hQ⟩
def drawOkF (nt : Nat) (ops : Array Oper) (k j : Nat) : Bool :=
  match ops.toList.drop k with
  | [] => false
  | z :: zs => calmOkF nt (ops.toList.take k) z (zs.take j) && (lastsOk (ops.toList.take k ++ z :: zs.take j) (zs.drop j) && ((ops.toList.take k).all (guardLt k) && ((zs.take j).all (guardLt (k + 1 + j)) && (guardLt k z && Nat.ble (k + 1 + j) ops.size))))
/-- What stands behind the call in the midst. -/
def midKF (E : Env) (nt : Nat) (ops : Array Oper) (h0 : Hp) (z : Oper) (l2 : List Oper) (Q : T AV → Hp → Prop) (tm1 : T AV) (h1 : Hp) : OR → Prop
  | .pan _ _ => False
  | .ok v h2 => h1.n < h2.n ∧ (∀ k, k < h0.n → h2.t.get k = h0.t.get k) ∧ putK nt tm1 z.dst v (fun tm2 => WOC E nt ops l2 tm2 h2 Q)
def midZF (E : Env) (nt : Nat) (ops : Array Oper) (h0 : Hp) (l2 : List Oper) (Q : T AV → Hp → Prop) (z : Oper) (tm1 : T AV) (h1 : Hp) : Prop := awanted ops z tm1 = true ∧ WOp E z tm1 h1 (midKF E nt ops h0 z l2 Q tm1 h1)
theorem SemC.drawnF {E : Env} {nt : Nat} (htb : Tb E.P E.tb) (hm : E.P.follows .mixedOrders = true) {r : Option Nat} {id : Nat} {ops : Array Oper} (k j : Nat) (hst : drawOkF nt ops k j = true) {tm : T AV} {h : Hp} (hfx : ∀ d ∈ fixT (asgOf (ops.toList.take k)) (ops.toList.take k), ∃ b off, tm.get d = some (.ptr b off) ∧ b < h.n) {mks : List Nat} {Q : Ex → St → Prop}
    (hw : WOC E nt ops (ops.toList.take k) tm h (fun tm1 h1 => ∀ z, ops.toList[k]? = some z → midZF E nt ops h ((ops.toList.drop (k + 1)).take j) (fun tm2 h2 => WO E nt ops (ops.toList.drop (k + 1 + j)) tm2 h2 (regK ⟨tm, nt, h, mks⟩ Q)) z tm1 h1)) : W E r (.region id ops true) ⟨tm, nt, h, mks⟩ Q := by
  unfold drawOkF at hst
  split at hst
  · cases hst
  rename_i z zs hz
  simp only [Bool.and_eq_true, Nat.ble_eq] at hst
  obtain ⟨hca, hla, hgd, hg2, hgz, hsz⟩ := hst
  have hzk : ops.toList[k]? = some z := by
    have := congrArg List.head? hz
    rwa [List.head?_drop] at this
  have hdr : ops.toList.drop (k + 1) = zs := by rw [← List.drop_drop, hz]; rfl
  have hdr2 : ops.toList.drop (k + 1 + j) = zs.drop j := by rw [← List.drop_drop, hdr]
  have hall : ops.toList.take k ++ z :: zs = ops.toList := by rw [← hz]; exact List.take_append_drop _ _
  have hall2 : (ops.toList.take k ++ z :: zs.take j) ++ zs.drop j = ops.toList := by
    rw [List.append_assoc, List.cons_append, List.take_append_drop]; exact hall
  have hlen : (ops.toList.take k).length = k := by
    have h1 : 0 < (ops.toList.drop k).length := by rw [hz]; simp
    rw [List.length_drop] at h1
    rw [List.length_take]; omega
  have hzl : (zs.take j).length = j := by
    have : zs.length = ops.toList.length - (k + 1) := by rw [← hdr, List.length_drop]
    have e : ops.toList.length = ops.size := by simp
    rw [List.length_take]; omega
  have hat : ∀ i, i < k + 1 + j → (⟨ops.toList.take k ++ z :: zs.take j⟩ : Array Oper)[i]? = ops[i]? := fun i hi => by
    simp only [List.getElem?_toArray]
    rw [← Array.getElem?_toList]
    have hlt : i < (ops.toList.take k ++ z :: zs.take j).length := by simp only [List.length_append, List.length_cons, hlen, hzl]; omega
    conv => rhs; rw [← hall2]
    rw [List.getElem?_append_left hlt]
  have gl : ∀ {n : Nat} {o : Oper}, guardLt n o = true → ∀ i w, o.guard = some (i, w) → i < n := fun {n o} hg i w hgu => by
    unfold guardLt at hg
    rw [hgu] at hg
    simpa [Nat.blt_eq] using hg
  have hw1 := WOC_prefix (ops' := ⟨ops.toList.take k ++ z :: zs.take j⟩) _ _ _ _ (fun o ho i w hg => hat i (by have := gl (List.all_eq_true.1 hgd o ho) i w hg; omega)) hw
  have haw : ∀ tm1, awanted ⟨ops.toList.take k ++ z :: zs.take j⟩ z tm1 = awanted ops z tm1 := fun tm1 => by
    simp only [awanted]
    cases hg : z.guard with
    | none => rfl
    | some p =>
      obtain ⟨i, w⟩ := p
      simp only
      rw [hat i (by have := gl hgz i w hg; omega)]
  have hw2 := WOC_mono (Q' := fun tm1 h1 => awanted ⟨ops.toList.take k ++ z :: zs.take j⟩ z tm1 = true ∧ WOp E z tm1 h1 (fun r => match r with | .pan _ _ => False | .ok v h2 => h1.n < h2.n ∧ (∀ k, k < h.n → h2.t.get k = h.t.get k) ∧ putK nt tm1 z.dst v (fun tm2 => WOC E nt ⟨ops.toList.take k ++ z :: zs.take j⟩ (zs.take j) tm2 h2 (fun tm2 h2 => WO E nt ops (zs.drop j) tm2 h2 (regK ⟨tm, nt, h, mks⟩ Q))))) _ _ _ hw1 (fun tm1 h1 hx => by
    obtain ⟨x1, x2⟩ := hx z hzk
    refine ⟨by rw [haw]; exact x1, x2.mono fun r hr => ?_⟩
    cases r with
    | pan v h2 => exact hr
    | ok v h2 =>
      refine ⟨hr.1, hr.2.1, ?_⟩
      have hr2 := hr.2.2
      have key : ∀ tm2, WOC E nt ops ((ops.toList.drop (k + 1)).take j) tm2 h2 (fun tm2 h2 => WO E nt ops (ops.toList.drop (k + 1 + j)) tm2 h2 (regK ⟨tm, nt, h, mks⟩ Q)) → WOC E nt ⟨ops.toList.take k ++ z :: zs.take j⟩ (zs.take j) tm2 h2 (fun tm2 h2 => WO E nt ops (zs.drop j) tm2 h2 (regK ⟨tm, nt, h, mks⟩ Q)) := fun tm2 hy => by
        rw [hdr, hdr2] at hy
        exact WOC_prefix (ops' := ⟨ops.toList.take k ++ z :: zs.take j⟩) _ _ _ _ (fun o ho i w hg => hat i (gl (List.all_eq_true.1 hg2 o ho) i w hg)) hy
      unfold putK at hr2 ⊢
      split at hr2
      · exact key _ hr2
      · exact ⟨hr2.1, key _ hr2.2⟩)
  obtain ⟨tm1, h1, hd, hq⟩ := WOC.okF htb rfl hca hfx hw2
  obtain ⟨x, tm2, h2, hd2, hq2⟩ := DrX.lasts htb _ _ tm1 h1 hla (fun i hi => by rw [hall2, Array.getElem?_toList]) hd hq
  rw [hall2] at hd2
  have lift : ∀ {a : Act} {w : World} {r : Option Nat} {id : Nat} {Q : Exit → Act → World → Prop}, (∀ t, wpOpsIn (Wd r) 0 E.P ops Q (Region.linearise .any ops t) a { w with drawn := w.drawn + 1 }) → (Code.region id ops true).wpIn (Wd r) 0 E.P Q a w := fun hh => by
    refine wpIn_region_draw fun t => ?_
    simp only [Region.schedule, hm, Bool.true_or, if_true]
    exact hh t
  have hds : DrwS E nt ops tm h x tm2 h2 := ⟨hd2.1, fun lim hl c a w r id g hxt ht Q hQ => lift fun t => hd2.2 lim hl c a w r t g hxt ht Q hQ⟩
  exact ⟨_, _, .regionD (st := ⟨tm, nt, h, mks⟩) hds, hq2⟩
end
section
variable {E : Env} {nt : Nat} {ops : Array Oper} {tm : T AV} {h : Hp} {mks : List Nat} {r : Option Nat} {id : Nat} {b : Code} {Q : Ex → St → Prop}
theorem seq_regDF (ok : SyOk E) (k j : Nat) (hst : drawOkF nt ops k j = true) (hfx : ∀ d ∈ fixT (asgOf (ops.toList.take k)) (ops.toList.take k), ∃ b off, tm.get d = some (.ptr b off) ∧ b < h.n) {z : Oper} (hz : ops.toList[k]? = some z) (hw : ∀ K : Ex → T AV → Hp → Prop, (∀ tm h, wpc E r b ⟨tm, nt, h, mks⟩ Q → K .normal tm h) → (∀ v tm h, Q (.panic v) ⟨tm, nt, h, mks⟩ → K (.panic v) tm h) → WOC E nt ops (ops.toList.take k) tm h (midZF E nt ops h ((ops.toList.drop (k + 1)).take j) (fun tm2 h2 => WO E nt ops (ops.toList.drop (k + 1 + j)) tm2 h2 K) z)) :
    wpc E r (.seq (.region id ops true) b) ⟨tm, nt, h, mks⟩ Q := by
  show W E r (.region id ops true) ⟨tm, nt, h, mks⟩ (seqK (fun s => wpc E r b s Q) Q)
  refine SemC.drawnF ok.tb ok.mixed k j hst hfx (WOC_mono _ _ _ (hw (regK ⟨tm, nt, h, mks⟩ (seqK (fun s => wpc E r b s Q) Q)) (fun tm h hh => hh) (fun v tm h hh => hh)) fun tm1 h1 hx z' hz' => ?_)
  rw [hz] at hz'
  cases hz'
  exact hx
theorem midZF_some {h0 : Hp} {ops : Array Oper} {l2 : List Oper} {Q : T AV → Hp → Prop} {d : Tmp} {op : Op} {ty : TypeId} {ps : String} {af : Array Edge} {jj : Nat} {bb : Bool} {tm1 : T AV} {h1 : Hp} : midZF E nt ops h0 l2 Q ⟨some d, op, ty, ps, af, some (jj, bb)⟩ tm1 h1 = (wntd bb tm1 ((ops[jj]?).bind (·.dst)) = true ∧ WOp E ⟨some d, op, ty, ps, af, some (jj, bb)⟩ tm1 h1 (midKF E nt ops h0 ⟨some d, op, ty, ps, af, some (jj, bb)⟩ l2 Q tm1 h1)) := by simp only [midZF, awanted_some]
theorem midZF_none {h0 : Hp} {ops : Array Oper} {l2 : List Oper} {Q : T AV → Hp → Prop} {d : Tmp} {op : Op} {ty : TypeId} {ps : String} {af : Array Edge} {tm1 : T AV} {h1 : Hp} : midZF E nt ops h0 l2 Q ⟨some d, op, ty, ps, af, none⟩ tm1 h1 = WOp E ⟨some d, op, ty, ps, af, none⟩ tm1 h1 (midKF E nt ops h0 ⟨some d, op, ty, ps, af, none⟩ l2 Q tm1 h1) := by simp only [midZF, awanted_none, true_and]
theorem midKF_some {h0 : Hp} {ops : Array Oper} {l2 : List Oper} {Q : T AV → Hp → Prop} {d : Tmp} {op : Op} {ty : TypeId} {ps : String} {af : Array Edge} {g : Option (Nat × Bool)} {tm1 : T AV} {h1 h2 : Hp} {v : AV} (hn : h1.n < h2.n) (hf : ∀ k, k < h0.n → h2.t.get k = h0.t.get k) : midKF E nt ops h0 ⟨some d, op, ty, ps, af, g⟩ l2 Q tm1 h1 (.ok v h2) = (d < nt ∧ WOC E nt ops l2 (tm1.put (some v) d) h2 Q) := by 
  simp only [midKF, putK, hn, true_and]
  exact propext ⟨fun hx => hx.2, fun hx => ⟨hf, hx⟩⟩
end
end Go.Ev
end
namespace Go.Proofs.Kn
open Go Go.Ev
set_option maxRecDepth 100000
theorem ft11 (xt : Addr → Option Value) : (SE xt).ft.get 11 = some Tryz.f11 := by kernel_rfl
theorem res11 : Tryz.f11.results.toList = [.tmp 4] := by kernel_rfl
theorem rLooks_c (xt : Addr → Option Value) (h : Hp) (s : Sk) (ha : s.At xt h) (he : s.err = 0) (B : Int) {K : CR → Hp → Prop} (hk : ∀ n, h.n < n → K (.ret (iv (s.LK B s.seenF))) (h.up n)) : FnA (SE xt) 11 [s.av, iv B] h K := by
  refine FnA.calm ?_ hk
  clear hk K
  have hok := (Sk.err_0.1 he).1
  have g := Sk.good hok
  have hrok : s.rok = true := by rw [s.rok_ok]; exact hok
  have hs := Sk.sn he
  refine FnA.walk (sok xt) (ft11 xt) rfl 10 rfl ?_
  have ha1 := ha.new (.cells s.cells 25)
  refine seq_reg fun K hn hp => ?_
  simp only [sy.down, argsTo, cellPut_some, Nat.reduceEqDiff, reduceIte, Nat.reduceLT, Nat.reduceAdd, Nat.reduceMul, Nat.reduceLeDiff]
  refine hn _ _ ?_
  clear hn hp K
  refine seq_regDF (sok xt) 2 1 (by kernel_rfl) ?_ rfl fun K1 hn hp => ?_
  · intro d hd
    have hd' : d ∈ [2, 2] := hd
    simp only [List.mem_cons, List.not_mem_nil, or_false, or_self] at hd'
    subst hd'
    exact ⟨h.n, 0, by simp [T.get_put], by simp [Hp.new_n]⟩
  simp only [sy.down, argsTo, cellPut_some, Nat.reduceEqDiff, reduceIte, Nat.reduceLT, Nat.reduceAdd, Nat.reduceMul, Nat.reduceLeDiff, midZF_none]
  refine callA_func (sok xt) ((rtruths_c xt _ s ha1 hrok).bumped.mono ?_)
  rintro r _ ⟨h2, ⟨v, rfl, fr, rows⟩, rfl⟩
  have hlo := fr.lo
  simp only [Hp.new_n] at hlo
  have hlt : (h.new (.cells s.cells 25)).n < (h2.up (h2.n + 1)).n := by simp [Hp.new_n]; omega
  have hfx : ∀ k, k < (h.new (.cells s.cells 25)).n → (h2.up (h2.n + 1)).t.get k = (h.new (.cells s.cells 25)).t.get k := fun k hk => fr.at_ _ (.inl hk)
  simp only [sy.down, argsTo, cellPut_some, Nat.reduceEqDiff, reduceIte, Nat.reduceLT, Nat.reduceAdd, Nat.reduceMul, Nat.reduceLeDiff, midKF_some hlt hfx]
  have fr2 : Fr (h.n + 1) (h.new (.cells s.cells 25)) (h2.up (h2.n + 1)) := fr.up (Nat.le_succ _)
  have L : Left s s s.rtruths := ⟨fun l hl => (Sk.mem_rtruths.1 hl).1, fun n => Sk.same_truths g⟩
  have hsum : s.sh - sumF s.seenF 0 s.sorts.length < (11 : Nat) := by
    have := g.sh2
    have := sumF_nn (n := s.seenF) s.sorts.length 0 fun j _ _ => g.seen j
    omega
  refine callA_func (sok xt) ((rlooks_ok xt s g B 11 s ⟨rfl, rfl, rfl, rfl⟩ g.le hs hsum (h2.up (h2.n + 1)) _ v s.rtruths (ha1.fr fr2 (Nat.le_refl _)) (rows.up (Nat.le_succ _)) L (Nat.le_trans (len_rtruths g) (by omega))).mono ?_)
  rintro r h3 ⟨rfl, fr3⟩
  simp only [sy.down, argsTo, cellPut_some, Nat.reduceEqDiff, reduceIte, Nat.reduceLT, Nat.reduceAdd, Nat.reduceMul, Nat.reduceLeDiff]
  refine hn _ _ ?_
  refine wpc_ret (end_1 res11 ⟨?_, (((Fr.refl (Nat.le_refl _)).new _).trans fr2 (by omega)).trans fr3 (by simp; omega)⟩)
  simp [T.get_put]
theorem looksE_sacked (s : Sk) (B : Int) : s.looksE B = s.sacked (decide (0 ≤ B) && decide (B ≤ 200)) := by
  simp only [Sk.looksE, Sk.sacked, s.rok_ok, Sk.err_same, Sk.rerr]
  cases hok : s.ok with
  | false => rfl
  | true =>
    simp only [if_true]
theorem ft3 (xt : Addr → Option Value) : (SE xt).ft.get 3 = some Tryz.f3 := by kernel_rfl
theorem res3 : Tryz.f3.results.toList = [.tmp 4] := by kernel_rfl
def hdc : Code → Code
  | .seq a _ => a
  | c => c
noncomputable def tail3 : Code := .seq (tl (hdc (tl (tl (tl (bdOf Tryz.f3)))))) (tl (tl (tl (tl (bdOf Tryz.f3)))))
theorem looks_tail (xt : Addr → Option Value) (h : Hp) (s : Sk) (ha : s.At xt h) (h0 : Nat) (q0 : h.t.get h0 = some (.cells s.cells 25)) (B : Int) (tm : T AV) (g1 : tm.get 1 = some (iv B)) (g2 : tm.get 2 = some (.ptr h0 0)) (g5 : tm.get 5 = some (iv (s.looks B))) (g6 : tm.get 6 = some (iv (s.looksE B))) (g7 : tm.get 7 = some (iv (s.looksE B))) : wpc (SE xt) none tail3 ⟨tm, 50, h, []⟩ (endK (SE xt) Tryz.f3 isTrue) := by
  refine seq_seq ?_
  by_cases hE : s.looksE B = 0
  · refine seq_reg fun K hn hp => ?_
    simp only [sy.down, argsTo, cellPut_some, Nat.reduceEqDiff, reduceIte, Nat.reduceLT, Nat.reduceAdd, Nat.reduceMul, Nat.reduceLeDiff, g7, hE]
    refine hn _ _ ?_
    clear hn hp K
    refine seq_cond false (by simp only [sy.down, argsTo, cellPut_some, Nat.reduceEqDiff, reduceIte, Nat.reduceLT, Nat.reduceAdd, Nat.reduceMul, Nat.reduceLeDiff]) (fun hx => by cases hx) (fun _ => ?_)
    refine seq_skip ?_
    have he : s.err = 0 := by
      rw [Sk.looksE] at hE
      split at hE
      · split at hE
        · exact hE
        · cases hE
      · cases hE
    have hL : s.looks B = s.LK B s.seenF := by rw [Sk.looks, if_pos hE]
    refine seq_reg fun K1 hn hp => ?_
    simp only [sy.down, argsTo, cellPut_some, Nat.reduceEqDiff, reduceIte, Nat.reduceLT, Nat.reduceAdd, Nat.reduceMul, Nat.reduceLeDiff, g1, g2, g5, g6, q0, hE]
    refine callA_func (sok xt) (rLooks_c xt _ s ha he B fun m4 hm4 => ?_)
    simp only [sy.down, argsTo, cellPut_some, Nat.reduceEqDiff, reduceIte, Nat.reduceLT, Nat.reduceAdd, Nat.reduceMul, Nat.reduceLeDiff, hL, decide_eq_true (show s.LK B s.seenF = s.LK B s.seenF from rfl)]
    refine callA_func (sok xt) (known_c xt _ fun m2 hm2 => ?_)
    simp only [sy.down, argsTo, cellPut_some, Nat.reduceEqDiff, reduceIte, Nat.reduceLT, Nat.reduceAdd, Nat.reduceMul, Nat.reduceLeDiff]
    refine hn _ _ ?_
    refine wpc_ret (end_1 res3 ?_)
    simp [T.get_put, isTrue]
  · refine seq_reg fun K hn hp => ?_
    simp only [sy.down, argsTo, cellPut_some, Nat.reduceEqDiff, reduceIte, Nat.reduceLT, Nat.reduceAdd, Nat.reduceMul, Nat.reduceLeDiff, g7, decide_eq_false hE]
    refine hn _ _ ?_
    clear hn hp K
    refine seq_cond true (by simp only [sy.down, argsTo, cellPut_some, Nat.reduceEqDiff, reduceIte, Nat.reduceLT, Nat.reduceAdd, Nat.reduceMul, Nat.reduceLeDiff]) (fun _ => ?_) (fun hx => by cases hx)
    have hL : s.looks B = 0 := by rw [Sk.looks, if_neg hE]
    refine seq_seq ?_
    refine seq_reg fun K1 hn hp => ?_
    simp only [sy.down, argsTo, cellPut_some, Nat.reduceEqDiff, reduceIte, Nat.reduceLT, Nat.reduceAdd, Nat.reduceMul, Nat.reduceLeDiff, g5, g6, g7, hL, decide_eq_true (show s.looksE B = s.looksE B from rfl)]
    refine callA_func (sok xt) (known_c xt _ fun m2 hm2 => ?_)
    simp only [sy.down, argsTo, cellPut_some, Nat.reduceEqDiff, reduceIte, Nat.reduceLT, Nat.reduceAdd, Nat.reduceMul, Nat.reduceLeDiff]
    refine hn _ _ ?_
    refine seq_ret (end_1 res3 ?_)
    simp [T.get_put, isTrue]
theorem looks_true (xt : Addr → Option Value) (h : Hp) (s : Sk) (ha : s.At xt h) (B : Int) : FnA (SE xt) 3 [s.av, iv B] h isTrue := by
  refine FnA.walk (sok xt) (ft3 xt) rfl 50 rfl ?_
  have ha1 := ha.new (.cells s.cells 25)
  have hret : ∀ tm' hx', tm'.get 4 = some (.val (.bool true)) → endK (SE xt) Tryz.f3 isTrue .ret ⟨tm', 50, hx', []⟩ := fun tm' hx' h6 => end_1 res3 (by simp [h6, isTrue])
  refine seq_reg fun K hn hp => ?_
  simp only [sy.down, argsTo, cellPut_some, Nat.reduceEqDiff, reduceIte, Nat.reduceLT, Nat.reduceAdd, Nat.reduceMul, Nat.reduceLeDiff]
  refine hn _ _ ?_
  clear hn hp K
  refine seq_seq ?_
  refine seq_reg fun K1 hn hp => ?_
  simp only [sy.down, argsTo, cellPut_some, Nat.reduceEqDiff, reduceIte, Nat.reduceLT, Nat.reduceAdd, Nat.reduceMul, Nat.reduceLeDiff]
  refine callA_func (sok xt) (slim_c xt _ s ha1 fun m1 hm1 => ?_)
  simp only [Hp.new_n] at hm1
  cases q1 : s.slim
  · simp only [sy.down, argsTo, cellPut_some, Nat.reduceEqDiff, reduceIte, Nat.reduceLT, Nat.reduceAdd, Nat.reduceMul, Nat.reduceLeDiff, q1]
    exact hn _ _ (known_seq xt hret (by omega) (by omega) (by simp [T.get_put]))
  simp only [sy.down, argsTo, cellPut_some, Nat.reduceEqDiff, reduceIte, Nat.reduceLT, Nat.reduceAdd, Nat.reduceMul, Nat.reduceLeDiff, q1]
  refine hn _ _ ?_
  clear hn hp K1
  refine seq_cond false (by simp only [sy.down, argsTo, cellPut_some, Nat.reduceEqDiff, reduceIte, Nat.reduceLT, Nat.reduceAdd, Nat.reduceMul, Nat.reduceLeDiff]) (fun hx => by cases hx) (fun _ => ?_)
  refine seq_skip ?_
  have ha2 := ha1.up (n := m1) (by simp [Hp.new_n]; omega)
  refine seq_reg fun K1 hn hp => ?_
  simp only [sy.down, argsTo, cellPut_some, Nat.reduceEqDiff, reduceIte, Nat.reduceLT, Nat.reduceAdd, Nat.reduceMul, Nat.reduceLeDiff]
  refine callA_func (sok xt) (looks_c xt _ s ha2 B fun m2 hm2 => ?_)
  simp only [Hp.up_n] at hm2
  simp only [sy.down, argsTo, cellPut_some, Nat.reduceEqDiff, reduceIte, Nat.reduceLT, Nat.reduceAdd, Nat.reduceMul, Nat.reduceLeDiff, Hp.up_up, ex_tup0, ex_tup1]
  refine hn _ _ ?_
  clear hn hp K1
  have ha3 := ha1.up (n := m2) (by simp [Hp.new_n]; omega)
  obtain ⟨IN, hIN⟩ : ∃ b : Bool, b = (decide (0 ≤ B) && decide (B ≤ 200)) := ⟨_, rfl⟩
  have hEs := looksE_sacked s B
  rw [← hIN] at hEs
  refine gen_st (fun tm => tm.get 1 = some (iv B) ∧ tm.get 2 = some (.ptr h.n 0) ∧ tm.get 5 = some (iv (s.looks B)) ∧ tm.get 6 = some (iv (s.looksE B))) (by simp [T.get_put]) ?_
  rintro tm ⟨g1, g2, g5, g6⟩
  refine seq_seq ?_
  have q0 : ((h.new (.cells s.cells 25)).up m2).t.get h.n = some (.cells s.cells 25) := by simp [Hp.new_t, T.get_put]
  by_cases c0 : 0 ≤ B
  · refine seq_reg fun K1 hn hp => ?_
    simp only [sy.down, argsTo, cellPut_some, Nat.reduceEqDiff, reduceIte, Nat.reduceLT, Nat.reduceAdd, Nat.reduceMul, Nat.reduceLeDiff, g1, g2, decide_eq_true c0]
    have hI : IN = decide (B ≤ 200) := by rw [hIN, decide_eq_true c0, Bool.true_and]
    refine callA_func (sok xt) (sacked_c xt _ s ha3 _ fun m3 hm3 => ?_)
    simp only [Hp.up_n] at hm3
    simp only [sy.down, argsTo, cellPut_some, Nat.reduceEqDiff, reduceIte, Nat.reduceLT, Nat.reduceAdd, Nat.reduceMul, Nat.reduceLeDiff, Hp.up_up]
    refine hn _ _ ?_
    refine looks_tail xt _ s (ha1.up (n := m3) (by simp [Hp.new_n]; omega)) h.n (by simp [Hp.new_t, T.get_put]) B _ ?_ ?_ ?_ ?_ ?_
    · simp [T.get_put, g1]
    · simp [T.get_put, g2]
    · simp [T.get_put, g5]
    · simp [T.get_put, g6]
    · simp [T.get_put, hEs, hI]
  · refine seq_reg fun K1 hn hp => ?_
    simp only [sy.down, argsTo, cellPut_some, Nat.reduceEqDiff, reduceIte, Nat.reduceLT, Nat.reduceAdd, Nat.reduceMul, Nat.reduceLeDiff, g1, g2, decide_eq_false c0]
    have hI : IN = false := by rw [hIN, decide_eq_false c0, Bool.false_and]
    refine callA_func (sok xt) (sacked_c xt _ s ha3 _ fun m3 hm3 => ?_)
    simp only [Hp.up_n] at hm3
    simp only [sy.down, argsTo, cellPut_some, Nat.reduceEqDiff, reduceIte, Nat.reduceLT, Nat.reduceAdd, Nat.reduceMul, Nat.reduceLeDiff, Hp.up_up]
    refine hn _ _ ?_
    refine looks_tail xt _ s (ha1.up (n := m3) (by simp [Hp.new_n]; omega)) h.n (by simp [Hp.new_t, T.get_put]) B _ ?_ ?_ ?_ ?_ ?_
    · simp [T.get_put, g1]
    · simp [T.get_put, g2]
    · simp [T.get_put, g5]
    · simp [T.get_put, g6]
    · simp [T.get_put, hEs, hI]
end Go.Proofs.Kn
