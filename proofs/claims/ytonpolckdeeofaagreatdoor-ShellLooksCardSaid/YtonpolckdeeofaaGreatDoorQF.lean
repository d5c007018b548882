/-
  Texts in a row, joined by a program: SyR1, SyR2, SyEq, SyR3, SyL1, SyL2, SyR4, SyR5, SyR6, SyR7.
-/
import Derived.Test.YtonpolckdeeofaaGreatDoorQE
import Derived.Test.YtonpolckdeeofaaGreatDoorQD
import Derived.Test.YtonpolckdeeofaaGreatDoorQC
set_option linter.all false
namespace Go.Proofs.Kn
open Go Go.Ev
set_option maxRecDepth 100000
theorem ft47 (xt : Addr → Option Value) : (SE xt).ft.get 47 = some Tryz.f47 := by kernel_rfl
theorem res47 : Tryz.f47.results.toList = [.tmp 6] := by kernel_rfl
theorem rin_c (xt : Addr → Option Value) (h : Hp) (x lo hi : Int) {K : CR → Hp → Prop} (hk : ∀ n, h.n < n → K (.ret (.val (.bool (decide (lo ≤ x) && decide (x ≤ hi))))) (h.up n)) :
    FnA (SE xt) 47 [.val (.int .i64 x), .val (.int .i64 lo), .val (.int .i64 hi)] h K := by
  refine FnA.calm ?_ hk
  refine FnA.walk (sok xt) (ft47 xt) rfl 15 rfl ?_
  refine seq_reg fun K hn hp => ?_
  simp only [sy.down, argsTo, cellPut_some, Nat.reduceEqDiff, reduceIte, Nat.reduceLT, Nat.reduceAdd, Nat.reduceMul, Nat.reduceLeDiff]
  refine hn _ _ ?_
  clear hn hp K
  cases hx : decide (lo ≤ x)
  · refine seq_reg fun K hn hp => ?_
    simp only [sy.down, argsTo, cellPut_some, Nat.reduceEqDiff, reduceIte, Nat.reduceLT, Nat.reduceAdd, Nat.reduceMul, Nat.reduceLeDiff, hx]
    refine hn _ _ ?_
    clear hn hp K
    refine wpc_ret (end_1 res47 ⟨?_, Fr.refl (Nat.le_refl _)⟩)
    simp [T.get_put]
  · refine seq_reg fun K hn hp => ?_
    simp only [sy.down, argsTo, cellPut_some, Nat.reduceEqDiff, reduceIte, Nat.reduceLT, Nat.reduceAdd, Nat.reduceMul, Nat.reduceLeDiff, hx]
    refine hn _ _ ?_
    clear hn hp K
    refine wpc_ret (end_1 res47 ⟨?_, Fr.refl (Nat.le_refl _)⟩)
    simp [T.get_put]
theorem ft7 (xt : Addr → Option Value) : (SE xt).ft.get 7 = some Tryz.f7 := by kernel_rfl
theorem res7 : Tryz.f7.results.toList = [.tmp 2] := by kernel_rfl
def Sk.slim (s : Sk) : Bool := decide ((s.sorts.length : Int) ≤ 5) && decide ((s.seen.length : Int) ≤ 5)
theorem slim_c (xt : Addr → Option Value) (h : Hp) (s : Sk) (ha : s.At xt h) {K : CR → Hp → Prop} (hk : ∀ n, h.n < n → K (.ret (.val (.bool s.slim))) (h.up n)) : FnA (SE xt) 7 [s.av] h K := by
  refine FnA.calm ?_ hk
  refine FnA.walk (sok xt) (ft7 xt) rfl 13 rfl ?_
  have hlenS := fun h' => ha.sorts.len (h' := h') tg22 rfl
  have hlenE := fun h' => ha.seen.len (h' := h') tg23 rfl
  simp only [List.length_map] at hlenS hlenE
  refine seq_reg fun K hn hp => ?_
  simp only [sy.down, argsTo, cellPut_some, Nat.reduceEqDiff, reduceIte, Nat.reduceLT, Nat.reduceAdd, Nat.reduceMul, Nat.reduceLeDiff]
  refine hn _ _ ?_
  clear hn hp K
  cases q : decide ((s.sorts.length : Int) ≤ 5)
  · refine seq_reg fun K hn hp => ?_
    simp only [sy.down, argsTo, cellPut_some, Nat.reduceEqDiff, reduceIte, Nat.reduceLT, Nat.reduceAdd, Nat.reduceMul, Nat.reduceLeDiff, hlenS, hlenE, q]
    refine hn _ _ ?_
    clear hn hp K
    refine wpc_ret (end_1 res7 ⟨?_, (Fr.refl (Nat.le_refl _)).new _⟩)
    simp [T.get_put, Sk.slim, q]
  · refine seq_reg fun K hn hp => ?_
    simp only [sy.down, argsTo, cellPut_some, Nat.reduceEqDiff, reduceIte, Nat.reduceLT, Nat.reduceAdd, Nat.reduceMul, Nat.reduceLeDiff, hlenS, hlenE, q]
    refine hn _ _ ?_
    clear hn hp K
    refine wpc_ret (end_1 res7 ⟨?_, (Fr.refl (Nat.le_refl _)).new _⟩)
    simp [T.get_put, Sk.slim, q]
theorem ft16 (xt : Addr → Option Value) : (SE xt).ft.get 16 = some Tryz.f16 := by kernel_rfl
theorem res16 : Tryz.f16.results.toList = [.tmp 4] := by kernel_rfl
theorem any_drop {p : Int → Bool} {l : List Int} {k : Nat} {x : Int} (hk : l[k]? = some x) : (l.drop k).any p = (p x || (l.drop (k + 1)).any p) := by
  obtain ⟨hlt, rfl⟩ := List.getElem?_eq_some_iff.1 hk
  rw [List.drop_eq_getElem_cons hlt]; rfl
def Sk.numbers (s : Sk) (l : List Int) : Bool := !l.any (notIn s.sh) && decide ((l.length : Int) = s.sorts.length)
theorem numbers_c (xt : Addr → Option Value) (h : Hp) (s : Sk) (ha : s.At xt h) (v : AV) (l : List Int) (hv : RowAt xt h 1 v (l.map c1)) (hl : l.length ≤ 9223372036854775807) {K : CR → Hp → Prop} (hk : ∀ n, h.n < n → K (.ret (.val (.bool (s.numbers l)))) (h.up n)) : FnA (SE xt) 16 [s.av, v] h K := by
  refine FnA.calm ?_ hk
  clear hk K
  refine FnA.walk (sok xt) (ft16 xt) rfl 26 rfl ?_
  have ha1 := ha.new (.cells s.cells 25)
  have hv1 := hv.new (.cells s.cells 25)
  have hlenS := fun h' => ha.sorts.len (h' := h') tg22 rfl
  have hlenL := fun h' => hv.len (h' := h') tg23 rfl
  simp only [List.length_map] at hlenS hlenL
  have hfr : ∀ m, h.n + 1 ≤ m → Fr h.n h ((h.new (.cells s.cells 25)).up m) := fun m hm => ((Fr.refl (Nat.le_refl _)).new _).up hm
  refine seq_reg fun K hn hp => ?_
  simp only [sy.down, argsTo, cellPut_some, Nat.reduceEqDiff, reduceIte, Nat.reduceLT, Nat.reduceAdd, Nat.reduceMul, Nat.reduceLeDiff]
  refine hn _ _ ?_
  clear hn hp K
  refine seq_seq ?_
  refine seq_reg fun K hn hp => ?_
  simp only [sy.down, argsTo, cellPut_some, Nat.reduceEqDiff, reduceIte, Nat.reduceLT, Nat.reduceAdd, Nat.reduceMul, Nat.reduceLeDiff]
  refine hn _ _ ?_
  clear hn hp K
  refine seq_block fun K k1 k2 k3 k4 k5 => ?_
  refine wpc_loop (sok xt) (fun st => ∃ (k m : Nat) (tm : T AV), st = ⟨tm, 26, (h.new (.cells s.cells 25)).up m, []⟩ ∧ h.n + 1 ≤ m ∧ k ≤ l.length ∧ tm.get 1 = some v ∧ tm.get 2 = some (.ptr h.n 0) ∧ tm.get 5 = some (iv k) ∧ l.any (notIn s.sh) = (l.drop k).any (notIn s.sh))
    (fun st => l.length - (match st.tm.get 5 with | some (.val (.int _ n)) => n.toNat | _ => 0)) ?_ ?_
  · rintro st ⟨k, m, tm, rfl, hm, hk, g1, g2, g5, hfi⟩
    refine seq_seq ?_
    refine seq_reg fun K hn hp => ?_
    simp only [sy.down, argsTo, cellPut_some, Nat.reduceEqDiff, reduceIte, Nat.reduceLT, Nat.reduceAdd, Nat.reduceMul, Nat.reduceLeDiff, g1, g2, g5, hlenL]
    refine hn _ _ ?_
    clear hn hp K
    have ht : (decide ((k : Int) < (l.length : Int))) = decide (k < l.length) := by simp
    by_cases hlt : k < l.length
    · obtain ⟨x, hx⟩ : ∃ x, l[k]? = some x := ⟨_, List.getElem?_eq_getElem hlt⟩
      have hidx := hv1.idx tg23 rfl tg3 rfl (by simpa using hlt) (k := .i64)
      have hld : aload tb xt ((h.new (.cells s.cells 25)).up m) 3 (elp v (k * 1)) = some (iv x) := (hv1.up (by simpa [Hp.new_n] using hm)).load0 tg3 rfl (c := c1 x) (by simp [hx]) rfl
      rw [any_drop hx] at hfi
      refine seq_cond true (by simp only [sy.down, argsTo, cellPut_some, Nat.reduceEqDiff, reduceIte, Nat.reduceLT, Nat.reduceAdd, Nat.reduceMul, Nat.reduceLeDiff, ht, hlt]) (fun _ => ?_) (fun hx => by cases hx)
      refine seq_skip ?_
      refine seq_block fun K' k1' k2' k3' k4' k5' => ?_
      refine seq_regD (sok xt) 8 (by kernel_rfl) fun K1 hn hp => ?_
      simp only [sy.down, argsTo, cellPut_some, Nat.reduceEqDiff, reduceIte, Nat.reduceLT, Nat.reduceAdd, Nat.reduceMul, Nat.reduceLeDiff, g1, g2, g5, hidx, hld]
      refine callA_func (sok xt) (rin_c xt _ _ _ _ fun m1 hm1 => ?_)
      simp only [Hp.up_n] at hm1
      simp only [sy.down, argsTo, cellPut_some, Nat.reduceEqDiff, reduceIte, Nat.reduceLT, Nat.reduceAdd, Nat.reduceMul, Nat.reduceLeDiff, WOCn_t (h := (h.new (.cells s.cells 25)).up m) hm1]
      simp only [Hp.up_up]
      refine hn _ _ ?_
      clear hn hp K1
      cases q : (decide (0 ≤ x) && decide (x ≤ s.sh))
      · refine wpc_cond true (by simp only [sy.down, argsTo, cellPut_some, Nat.reduceEqDiff, reduceIte, Nat.reduceLT, Nat.reduceAdd, Nat.reduceMul, Nat.reduceLeDiff, q]) (fun _ => ?_) (fun hx => by cases hx)
        refine seq_reg fun K hn hp => ?_
        simp only [sy.down, argsTo, cellPut_some, Nat.reduceEqDiff, reduceIte, Nat.reduceLT, Nat.reduceAdd, Nat.reduceMul, Nat.reduceLeDiff]
        refine hn _ _ ?_
        clear hn hp K
        refine wpc_ret (k4' _ (k4 _ (end_1 res16 ⟨?_, hfr _ (by omega)⟩)))
        simp [T.get_put, Sk.numbers, hfi, notIn, q]
      · refine wpc_cond false (by simp only [sy.down, argsTo, cellPut_some, Nat.reduceEqDiff, reduceIte, Nat.reduceLT, Nat.reduceAdd, Nat.reduceMul, Nat.reduceLeDiff, q]) (fun hx => by cases hx) (fun _ => ?_)
        refine wpc_skip (k1' _ ?_)
        refine reg fun K1 hn hp => ?_
        have hw : IntKind.i64.wrap ((k : Int) + 1) = ((k + 1 : Nat) : Int) := by rw [wrap_i64 _ (by omega) (by omega)]; simp
        simp only [sy.down, argsTo, cellPut_some, Nat.reduceEqDiff, reduceIte, Nat.reduceLT, Nat.reduceAdd, Nat.reduceMul, Nat.reduceLeDiff, g5, hw]
        refine hn _ _ ?_
        refine ⟨⟨k + 1, m1, _, rfl, by omega, hlt, ?_, ?_, ?_, ?_⟩, ?_⟩
        · simp [T.get_put, g1]
        · simp [T.get_put, g2]
        · simp [T.get_put]
        · rw [hfi]; simp [notIn, q]
        · have hm : l.length - (k + 1) < l.length - k := by omega
          simpa [T.get_put, g5] using hm
    · refine seq_cond false (by simp only [sy.down, argsTo, cellPut_some, Nat.reduceEqDiff, reduceIte, Nat.reduceLT, Nat.reduceAdd, Nat.reduceMul, Nat.reduceLeDiff, ht, hlt]) (fun hx => by cases hx) (fun _ => ?_)
      refine seq_exit (k2 _ ?_)
      have hnil : l.drop k = [] := List.drop_eq_nil_of_le (by omega)
      rw [hnil] at hfi
      refine seq_reg fun K hn hp => ?_
      simp only [sy.down, argsTo, cellPut_some, Nat.reduceEqDiff, reduceIte, Nat.reduceLT, Nat.reduceAdd, Nat.reduceMul, Nat.reduceLeDiff, g1, g2, hlenS, hlenL]
      refine hn _ _ ?_
      clear hn hp K
      refine wpc_ret (end_1 res16 ⟨?_, hfr _ hm⟩)
      simp [T.get_put, Sk.numbers, hfi]
  · refine ⟨0, h.n + 1, _, rfl, Nat.le_refl _, Nat.zero_le _, ?_, ?_, ?_, ?_⟩
    all_goals simp [T.get_put]
end Go.Proofs.Kn
namespace Go.Proofs.Kn
open Go Go.Ev
set_option maxRecDepth 100000
def Sk.rholds (s : Sk) (l : List Int) : Bool := !ltS l s.seen && (decide (sumW l 0 = s.sh) && s.weighs (fun i => l.getD i 0))
theorem ft21 (xt : Addr → Option Value) : (SE xt).ft.get 21 = some Tryz.f21 := by kernel_rfl
theorem res21 : Tryz.f21.results.toList = [.tmp 4] := by kernel_rfl
theorem accW_take {l : List Int} {g : Int × Int × Int → Int} {m : List (Int × Int × Int)} {k : Nat} {x : Int} {y : Int × Int × Int} (hx : l[k]? = some x) (hy : m[k]? = some y) (a : Int) : accW (fun i => l.getD i 0) g (m.drop k) k a = accW (fun i => l.getD i 0) g (m.drop (k + 1)) (k + 1) (wr (a + wr (x * g y))) := by
  rw [accW_drop hy]
  have : l.getD k 0 = x := by rw [List.getD_eq_getElem?_getD, hx]; rfl
  rw [this]
theorem rholds_c (xt : Addr → Option Value) (h : Hp) (s : Sk) (ha : s.At xt h) (v : AV) (l : List Int) (hv : RowAt xt h 1 v (l.map c1)) (hl1 : l.length = s.sorts.length) (hl2 : l.length = s.seen.length) {K : CR → Hp → Prop} (hk : ∀ n, h.n < n → K (.ret (.val (.bool (s.rholds l)))) (h.up n)) : FnA (SE xt) 21 [s.av, v] h K := by
  refine FnA.calm ?_ hk
  clear hk K
  refine FnA.walk (sok xt) (ft21 xt) rfl 81 rfl ?_
  have ha1 := ha.new (.cells s.cells 25)
  have hv1 := hv.new (.cells s.cells 25)
  have hlenL := fun h' => hv.len (h' := h') tg23 rfl
  simp only [List.length_map] at hlenL
  have hfr : Fr h.n h (h.new (.cells s.cells 25)) := (Fr.refl (Nat.le_refl _)).new _
  have hmax := ha.le
  refine seq_reg fun K hn hp => ?_
  simp only [sy.down, argsTo, cellPut_some, Nat.reduceEqDiff, reduceIte, Nat.reduceLT, Nat.reduceAdd, Nat.reduceMul, Nat.reduceLeDiff]
  refine hn _ _ ?_
  clear hn hp K
  refine seq_reg fun K hn hp => ?_
  simp only [sy.down, argsTo, cellPut_some, Nat.reduceEqDiff, reduceIte, Nat.reduceLT, Nat.reduceAdd, Nat.reduceMul, Nat.reduceLeDiff]
  refine hn _ _ ?_
  clear hn hp K
  refine seq_seq ?_
  refine seq_reg fun K hn hp => ?_
  simp only [sy.down, argsTo, cellPut_some, Nat.reduceEqDiff, reduceIte, Nat.reduceLT, Nat.reduceAdd, Nat.reduceMul, Nat.reduceLeDiff]
  refine hn _ _ ?_
  clear hn hp K
  refine seq_block fun K k1 k2 k3 k4 k5 => ?_
  refine wpc_loop (sok xt) (fun st => ∃ (k : Nat) (a b c : Int) (tm : T AV), st = ⟨tm, 81, h.new (.cells s.cells 25), []⟩ ∧ k ≤ l.length ∧ tm.get 1 = some v ∧ tm.get 2 = some (.ptr h.n 0) ∧ tm.get 5 = some (iv a) ∧ tm.get 6 = some (iv b) ∧ tm.get 7 = some (iv c) ∧ tm.get 8 = some (iv k) ∧ ltS l s.seen = ltS (l.drop k) (s.seen.drop k) ∧ sumW l 0 = sumW (l.drop k) a ∧
      accW (fun i => l.getD i 0) (·.2.1) s.sorts 0 0 = accW (fun i => l.getD i 0) (·.2.1) (s.sorts.drop k) k b ∧ accW (fun i => l.getD i 0) (·.2.2) s.sorts 0 0 = accW (fun i => l.getD i 0) (·.2.2) (s.sorts.drop k) k c)
    (fun st => l.length - (match st.tm.get 8 with | some (.val (.int _ n)) => n.toNat | _ => 0)) ?_ ?_
  · rintro st ⟨k, a, b, c, tm, rfl, hk, g1, g2, g5, g6, g7, g8, f1, f2, f3, f4⟩
    refine seq_seq ?_
    refine seq_reg fun K hn hp => ?_
    simp only [sy.down, argsTo, cellPut_some, Nat.reduceEqDiff, reduceIte, Nat.reduceLT, Nat.reduceAdd, Nat.reduceMul, Nat.reduceLeDiff, g1, g2, g8, hlenL]
    refine hn _ _ ?_
    clear hn hp K
    have ht : (decide ((k : Int) < (l.length : Int))) = decide (k < l.length) := by simp
    by_cases hlt : k < l.length
    · obtain ⟨x, hx⟩ : ∃ x, l[k]? = some x := ⟨_, List.getElem?_eq_getElem hlt⟩
      obtain ⟨y, hy⟩ : ∃ y, s.seen[k]? = some y := ⟨_, List.getElem?_eq_getElem (by omega)⟩
      obtain ⟨z, hz⟩ : ∃ z, s.sorts[k]? = some z := ⟨_, List.getElem?_eq_getElem (by omega)⟩
      have hidx := hv1.idx tg23 rfl tg3 rfl (by simpa using hlt) (k := .i64)
      have hld : aload tb xt (h.new (.cells s.cells 25)) 3 (elp v (k * 1)) = some (iv x) := hv1.load0 tg3 rfl (c := c1 x) (by simp [hx]) rfl
      have hidx2 := ha1.seen.idx tg23 rfl tg3 rfl (by simp; omega) (k := .i64) (i := k)
      have hld2 : aload tb xt (h.new (.cells s.cells 25)) 3 (elp s.ve (k * 1)) = some (iv y) := ha1.seen.load0 tg3 rfl (c := c1 y) (by simp [hy]) rfl
      have hidx3 := ha1.sorts.idx tg22 rfl tg101 rfl (by simp; omega) (k := .i64) (i := k)
      have hne : s.sorts.map c3 ≠ [] := by intro hq; rw [List.map_eq_nil_iff] at hq; rw [hq] at hz; simp at hz
      have hfa1 := ha1.sorts.fa hne tg101 (te := te101) rfl (f := 1) rfl (k * 3)
      have hfa2 := ha1.sorts.fa hne tg36 (te := te36) rfl (f := 0) rfl (k * 3 + 1)
      have hfa3 := ha1.sorts.fa hne tg36 (te := te36) rfl (f := 1) rfl (k * 3 + 1)
      have hl3 : aload tb xt (h.new (.cells s.cells 25)) 3 (elp s.vs (k * 3 + 1)) = some (iv z.2.1) := ha1.sorts.load tg3 rfl (c := c3 z) (by simp [hz]) rfl
      have hl4 : aload tb xt (h.new (.cells s.cells 25)) 3 (elp s.vs (k * 3 + 1 + 1)) = some (iv z.2.2) := ha1.sorts.load tg3 rfl (j := 2) (c := c3 z) (by simp [hz]) rfl
      simp only [Nat.add_zero] at hfa2
      rw [ltS_drop hx hy] at f1
      rw [sumW_drop hx] at f2
      rw [accW_take hx hz] at f3 f4
      refine seq_cond true (by simp only [sy.down, argsTo, cellPut_some, Nat.reduceEqDiff, reduceIte, Nat.reduceLT, Nat.reduceAdd, Nat.reduceMul, Nat.reduceLeDiff, ht, hlt]) (fun _ => ?_) (fun hx => by cases hx)
      refine seq_skip ?_
      refine seq_block fun K' k1' k2' k3' k4' k5' => ?_
      refine seq_seq ?_
      refine seq_regD (sok xt) 10 (by kernel_rfl) fun K hn hp => ?_
      simp only [sy.down, argsTo, cellPut_some, Nat.reduceEqDiff, reduceIte, Nat.reduceLT, Nat.reduceAdd, Nat.reduceMul, Nat.reduceLeDiff, g1, g2, g8, hidx, hld, hidx2, hld2]
      refine hn _ _ ?_
      clear hn hp K
      cases q4 : decide (x < y)
      · refine seq_cond false (by simp only [sy.down, argsTo, cellPut_some, Nat.reduceEqDiff, reduceIte, Nat.reduceLT, Nat.reduceAdd, Nat.reduceMul, Nat.reduceLeDiff, q4]) (fun hx => by cases hx) (fun _ => ?_)
        refine seq_skip ?_
        refine regD (sok xt) 37 (by kernel_rfl) fun K1 hn hp => ?_
        simp only [sy.down, argsTo, cellPut_some, Nat.reduceEqDiff, reduceIte, Nat.reduceLT, Nat.reduceAdd, Nat.reduceMul, Nat.reduceLeDiff, g1, g2, g5, g6, g7, g8, hidx, hld, hidx3, hfa1, hfa2, hfa3, hl3, hl4]
        refine hn _ _ (k1' _ ?_)
        refine reg fun K1 hn hp => ?_
        have hw : IntKind.i64.wrap ((k : Int) + 1) = ((k + 1 : Nat) : Int) := by rw [wrap_i64 _ (by omega) (by omega)]; simp
        simp only [sy.down, argsTo, cellPut_some, Nat.reduceEqDiff, reduceIte, Nat.reduceLT, Nat.reduceAdd, Nat.reduceMul, Nat.reduceLeDiff, g8, hw]
        refine hn _ _ ?_
        refine ⟨⟨k + 1, wr (a + x), wr (b + wr (x * z.2.1)), wr (c + wr (x * z.2.2)), _, rfl, hlt, ?_, ?_, ?_, ?_, ?_, ?_, ?_, f2, f3, f4⟩, ?_⟩
        · simp [T.get_put, g1]
        · simp [T.get_put, g2]
        · simp [T.get_put]
        · simp [T.get_put]
        · simp [T.get_put]
        · simp [T.get_put]
        · rw [f1, q4]; simp
        · have hm : l.length - (k + 1) < l.length - k := by omega
          simpa [T.get_put, g8] using hm
      · refine seq_cond true (by simp only [sy.down, argsTo, cellPut_some, Nat.reduceEqDiff, reduceIte, Nat.reduceLT, Nat.reduceAdd, Nat.reduceMul, Nat.reduceLeDiff, q4]) (fun _ => ?_) (fun hx => by cases hx)
        refine seq_seq ?_
        refine seq_reg fun K hn hp => ?_
        simp only [sy.down, argsTo, cellPut_some, Nat.reduceEqDiff, reduceIte, Nat.reduceLT, Nat.reduceAdd, Nat.reduceMul, Nat.reduceLeDiff]
        refine hn _ _ ?_
        clear hn hp K
        refine seq_ret (k4' _ (k4 _ (end_1 res21 ⟨?_, hfr⟩)))
        simp [T.get_put, Sk.rholds, f1, q4]
    · refine seq_cond false (by simp only [sy.down, argsTo, cellPut_some, Nat.reduceEqDiff, reduceIte, Nat.reduceLT, Nat.reduceAdd, Nat.reduceMul, Nat.reduceLeDiff, ht, hlt]) (fun hx => by cases hx) (fun _ => ?_)
      refine seq_exit (k2 _ ?_)
      have hnil : l.drop k = [] := List.drop_eq_nil_of_le (by omega)
      have hnil2 : s.sorts.drop k = [] := List.drop_eq_nil_of_le (by omega)
      rw [hnil] at f1 f2
      rw [hnil2] at f3 f4
      simp only [sumW] at f2
      simp only [accW] at f3 f4
      have f1 : ltS l s.seen = false := by rw [f1]; simp [ltS]
      cases q5 : decide (a = s.sh)
      · refine seq_reg fun K hn hp => ?_
        simp only [sy.down, argsTo, cellPut_some, Nat.reduceEqDiff, reduceIte, Nat.reduceLT, Nat.reduceAdd, Nat.reduceMul, Nat.reduceLeDiff, g2, g5, g6, g7, q5]
        refine hn _ _ ?_
        clear hn hp K
        refine wpc_ret (end_1 res21 ⟨?_, hfr⟩)
        simp [T.get_put, Sk.rholds, f1, f2, q5]
      · cases q6 : decide (b ≤ wr (s.wt + s.off))
        · refine seq_reg fun K hn hp => ?_
          simp only [sy.down, argsTo, cellPut_some, Nat.reduceEqDiff, reduceIte, Nat.reduceLT, Nat.reduceAdd, Nat.reduceMul, Nat.reduceLeDiff, g2, g5, g6, g7, q5, q6]
          refine hn _ _ ?_
          clear hn hp K
          refine wpc_ret (end_1 res21 ⟨?_, hfr⟩)
          have e : s.rholds l = false := by simp only [Sk.rholds, Sk.weighs, f1, f2, f3, f4, q5, q6]; rfl
          rw [e]; simp [T.get_put]
        · refine seq_reg fun K hn hp => ?_
          simp only [sy.down, argsTo, cellPut_some, Nat.reduceEqDiff, reduceIte, Nat.reduceLT, Nat.reduceAdd, Nat.reduceMul, Nat.reduceLeDiff, g2, g5, g6, g7, q5, q6]
          refine hn _ _ ?_
          clear hn hp K
          refine wpc_ret (end_1 res21 ⟨?_, hfr⟩)
          have e : s.rholds l = decide (wr (s.wt - s.off) ≤ c) := by simp only [Sk.rholds, Sk.weighs, f1, f2, f3, f4, q5, q6]; simp
          rw [e]; simp [T.get_put]
  · refine ⟨0, 0, 0, 0, _, rfl, Nat.zero_le _, ?_, ?_, ?_, ?_, ?_, ?_, ?_, ?_, ?_, ?_⟩
    all_goals simp [T.get_put]
theorem ft19 (xt : Addr → Option Value) : (SE xt).ft.get 19 = some Tryz.f19 := by kernel_rfl
theorem res19 : Tryz.f19.results.toList = [.tmp 4] := by kernel_rfl
theorem rblanks_c (xt : Addr → Option Value) (h : Hp) (s : Sk) (ha : s.At xt h) (v : AV) (l : List Int) (hv : RowAt xt h 1 v (l.map c1)) (hl1 : l.length = s.sorts.length) {K : CR → Hp → Prop} (hk : ∀ n, h.n < n → K (.ret (iv (s.blanks fun i => l.getD i 0))) (h.up n)) : FnA (SE xt) 19 [s.av, v] h K := by
  refine FnA.calm ?_ hk
  clear hk K
  refine FnA.walk (sok xt) (ft19 xt) rfl 27 rfl ?_
  have ha1 := ha.new (.cells s.cells 25)
  have hv1 := hv.new (.cells s.cells 25)
  have hlenL := fun h' => hv.len (h' := h') tg23 rfl
  simp only [List.length_map] at hlenL
  have hfr : Fr h.n h (h.new (.cells s.cells 25)) := (Fr.refl (Nat.le_refl _)).new _
  have hmax := ha.ls
  refine seq_reg fun K hn hp => ?_
  simp only [sy.down, argsTo, cellPut_some, Nat.reduceEqDiff, reduceIte, Nat.reduceLT, Nat.reduceAdd, Nat.reduceMul, Nat.reduceLeDiff]
  refine hn _ _ ?_
  clear hn hp K
  refine seq_reg fun K hn hp => ?_
  simp only [sy.down, argsTo, cellPut_some, Nat.reduceEqDiff, reduceIte, Nat.reduceLT, Nat.reduceAdd, Nat.reduceMul, Nat.reduceLeDiff]
  refine hn _ _ ?_
  clear hn hp K
  refine seq_seq ?_
  refine seq_reg fun K hn hp => ?_
  simp only [sy.down, argsTo, cellPut_some, Nat.reduceEqDiff, reduceIte, Nat.reduceLT, Nat.reduceAdd, Nat.reduceMul, Nat.reduceLeDiff]
  refine hn _ _ ?_
  clear hn hp K
  refine seq_block fun K k1 k2 k3 k4 k5 => ?_
  refine wpc_loop (sok xt) (fun st => ∃ (k : Nat) (a : Int) (tm : T AV), st = ⟨tm, 27, h.new (.cells s.cells 25), []⟩ ∧ k ≤ l.length ∧ tm.get 1 = some v ∧ tm.get 2 = some (.ptr h.n 0) ∧ tm.get 5 = some (iv a) ∧ tm.get 6 = some (iv k) ∧ accW (fun i => l.getD i 0) (·.1) s.sorts 0 0 = accW (fun i => l.getD i 0) (·.1) (s.sorts.drop k) k a)
    (fun st => l.length - (match st.tm.get 6 with | some (.val (.int _ n)) => n.toNat | _ => 0)) ?_ ?_
  · rintro st ⟨k, a, tm, rfl, hk, g1, g2, g5, g6, f3⟩
    refine seq_seq ?_
    refine seq_reg fun K hn hp => ?_
    simp only [sy.down, argsTo, cellPut_some, Nat.reduceEqDiff, reduceIte, Nat.reduceLT, Nat.reduceAdd, Nat.reduceMul, Nat.reduceLeDiff, g1, g2, g6, hlenL]
    refine hn _ _ ?_
    clear hn hp K
    have ht : (decide ((k : Int) < (l.length : Int))) = decide (k < l.length) := by simp
    by_cases hlt : k < l.length
    · obtain ⟨x, hx⟩ : ∃ x, l[k]? = some x := ⟨_, List.getElem?_eq_getElem hlt⟩
      obtain ⟨z, hz⟩ : ∃ z, s.sorts[k]? = some z := ⟨_, List.getElem?_eq_getElem (by omega)⟩
      have hidx := hv1.idx tg23 rfl tg3 rfl (by simpa using hlt) (k := .i64)
      have hld : aload tb xt (h.new (.cells s.cells 25)) 3 (elp v (k * 1)) = some (iv x) := hv1.load0 tg3 rfl (c := c1 x) (by simp [hx]) rfl
      have hidx3 := ha1.sorts.idx tg22 rfl tg101 rfl (by simp; omega) (k := .i64) (i := k)
      have hne : s.sorts.map c3 ≠ [] := by intro hq; rw [List.map_eq_nil_iff] at hq; rw [hq] at hz; simp at hz
      have hfa1 := ha1.sorts.fa hne tg101 (te := te101) rfl (f := 0) rfl (k * 3)
      have hl3 : aload tb xt (h.new (.cells s.cells 25)) 3 (elp s.vs (k * 3)) = some (iv z.1) := ha1.sorts.load0 tg3 rfl (c := c3 z) (by simp [hz]) rfl
      simp only [Nat.add_zero] at hfa1
      rw [accW_take hx hz] at f3
      refine seq_cond true (by simp only [sy.down, argsTo, cellPut_some, Nat.reduceEqDiff, reduceIte, Nat.reduceLT, Nat.reduceAdd, Nat.reduceMul, Nat.reduceLeDiff, ht, hlt]) (fun _ => ?_) (fun hx => by cases hx)
      refine seq_skip ?_
      refine seq_block fun K' k1' k2' k3' k4' k5' => ?_
      refine regD (sok xt) 14 (by kernel_rfl) fun K1 hn hp => ?_
      simp only [sy.down, argsTo, cellPut_some, Nat.reduceEqDiff, reduceIte, Nat.reduceLT, Nat.reduceAdd, Nat.reduceMul, Nat.reduceLeDiff, g1, g2, g5, g6, hidx, hld, hidx3, hfa1, hl3]
      refine hn _ _ (k1' _ ?_)
      refine reg fun K1 hn hp => ?_
      have hw : IntKind.i64.wrap ((k : Int) + 1) = ((k + 1 : Nat) : Int) := by rw [wrap_i64 _ (by omega) (by omega)]; simp
      simp only [sy.down, argsTo, cellPut_some, Nat.reduceEqDiff, reduceIte, Nat.reduceLT, Nat.reduceAdd, Nat.reduceMul, Nat.reduceLeDiff, g6, hw]
      refine hn _ _ ?_
      refine ⟨⟨k + 1, wr (a + wr (x * z.1)), _, rfl, hlt, ?_, ?_, ?_, ?_, f3⟩, ?_⟩
      · simp [T.get_put, g1]
      · simp [T.get_put, g2]
      · simp [T.get_put]
      · simp [T.get_put]
      · have hm : l.length - (k + 1) < l.length - k := by omega
        simpa [T.get_put, g6] using hm
    · refine seq_cond false (by simp only [sy.down, argsTo, cellPut_some, Nat.reduceEqDiff, reduceIte, Nat.reduceLT, Nat.reduceAdd, Nat.reduceMul, Nat.reduceLeDiff, ht, hlt]) (fun hx => by cases hx) (fun _ => ?_)
      refine seq_exit (k2 _ ?_)
      have hnil2 : s.sorts.drop k = [] := List.drop_eq_nil_of_le (by omega)
      rw [hnil2] at f3
      refine seq_reg fun K hn hp => ?_
      simp only [sy.down, argsTo, cellPut_some, Nat.reduceEqDiff, reduceIte, Nat.reduceLT, Nat.reduceAdd, Nat.reduceMul, Nat.reduceLeDiff, g5]
      refine hn _ _ ?_
      clear hn hp K
      refine wpc_ret (end_1 res19 ⟨?_, hfr⟩)
      have e : s.blanks (fun i => l.getD i 0) = a := by simp only [Sk.blanks, f3, accW]
      rw [e]; simp [T.get_put]
  · refine ⟨0, 0, _, rfl, Nat.zero_le _, ?_, ?_, ?_, ?_, ?_⟩
    all_goals simp [T.get_put]
end Go.Proofs.Kn
/-
  Two structs of numbers, compared.
-/
noncomputable section
namespace Go.Ev
theorem pRun_bind {P : Program} {α β : Type} : ∀ (s : Sem α) (f : α → Sem β), pureRun P (s >>= f) = (pureRun P s).bind (fun a => pureRun P (f a))
  | .pure a, f => rfl
  | .program k, f => by show pureRun P ((k P) >>= f) = _; rw [pRun_bind (k P) f]; rfl
  | .mark m k, f => by show pureRun P (k >>= f) = _; rw [pRun_bind k f]; rfl
  | .load _ _ _, _ => rfl
  | .store _ _ _ _, _ => rfl
  | .new _ _, _ => rfl
  | .shape _ _, _ => rfl
  | .freeze _ _ _, _ => rfl
  | .frozen _ _, _ => rfl
  | .getObj _ _, _ => rfl
  | .setObj _ _ _, _ => rfl
  | .choose _ _, _ => rfl
  | .sys _ _, _ => rfl
  | .halt _, _ => rfl
theorem pureRun_pure {P : Program} {α : Type} (a : α) : pureRun P (pure a : Sem α) = some a := rfl
theorem pureRun_ite {P : Program} {α : Type} (c : Prop) [Decidable c] (a b : Sem α) : pureRun P (if c then a else b) = if c then pureRun P a else pureRun P b := by split <;> rfl
theorem pureRun_program {P : Program} : pureRun P program = some P := rfl
end Go.Ev
namespace Go.Proofs.Kn
open Go Go.Ev
theorem eqi36 (d : Nat) (a b c e : Int) : pureRun Tryz.prog (Op.equalIn (d + 1 + 1) 36 (.agg #[.int .i64 a, .int .i64 b]) (.agg #[.int .i64 c, .int .i64 e])) = some (decide (a = c) && decide (b = e)) := by
  have h1 : pureRun Tryz.prog (underlying 36) = some (TypeDesc.struct #[{ name := "Low", type := 3, offset := 0, embedded := false, tag := "", pkgPath := "", byteOffset := 0 }, { name := "High", type := 3, offset := 1, embedded := false, tag := "", pkgPath := "", byteOffset := 8 }]) := by kernel_rfl
  have h2 : Tryz.prog.stoodInHeld 36 = false := by kernel_rfl
  have h3 : ∀ d a b, pureRun Tryz.prog (Op.equalIn (d + 1) 3 (.int .i64 a) (.int .i64 b)) = some (a == b) := fun d a b => by
    have : pureRun Tryz.prog (underlying 3) = some (.int .i64) := by kernel_rfl
    rw [Op.equalIn]
    simp only [pRun_bind, this, Option.bind_some, if_true, pureRun_pure]
  have p1 : ∀ a b, pureRun Tryz.prog (part 3 #[.int .i64 a, .int .i64 b] 0) = some (.int .i64 a) := fun a b => by kernel_rfl
  have p2 : ∀ a b, pureRun Tryz.prog (part 3 #[.int .i64 a, .int .i64 b] 1) = some (.int .i64 b) := fun a b => by kernel_rfl
  rw [Op.equalIn]
  simp only [pRun_bind, h1, Option.bind_some, pureRun_program, h2, Bool.false_eq_true, if_false, pureRun_pure]
  rw [← Array.forIn_toList]
  simp only [List.toList_toArray, List.forIn_cons, List.forIn_nil, pRun_bind, pureRun_ite, p1, p2, h3, Option.bind_some, pureRun_pure]
  by_cases q1 : a = c
  · by_cases q2 : b = e
    · simp [q1, q2, pureRun_pure, pRun_bind, p1, p2, h3, pureRun_ite]
    · simp [q1, q2, pureRun_pure, pRun_bind, p1, p2, h3, pureRun_ite]
  · simp [q1, pureRun_pure, pRun_bind, p1, p2, h3, pureRun_ite]
theorem guard36 (op : BinOp) (ox oy : Operand) (x y : Array Value) : pureRun Tryz.prog (eqGuard op 36 ox oy (.agg x) (.agg y)) = some () := by
  have h1 : Tryz.prog.eqGuardType Tryz.prog.depth 36 = false := by kernel_rfl
  cases op <;> simp [eqGuard, pRun_bind, pureRun_pure, pureRun_program, pureRun_ite, h1]
theorem neq36 (ox oy : Operand) (a b c e : Int) : abin Tryz.prog tb .neq 36 ox oy (.agg [.val (.int .i64 a), .val (.int .i64 b)]) (.agg [.val (.int .i64 c), .val (.int .i64 e)]) = some (.val (.bool (!(decide (a = c) && decide (b = e))))) := by
  have h := eqi36 9998 a b c e
  have hq : pureRun Tryz.prog (Op.equal 36 (.agg #[.int .i64 a, .int .i64 b]) (.agg #[.int .i64 c, .int .i64 e])) = some (decide (a = c) && decide (b = e)) := h
  simp only [abin, toVal, toVals, pRun_bind, guard36, Option.bind_some, binOp, hq, pureRun_pure]
theorem eql36 (ox oy : Operand) (a b c e : Int) : abin Tryz.prog tb .eql 36 ox oy (.agg [.val (.int .i64 a), .val (.int .i64 b)]) (.agg [.val (.int .i64 c), .val (.int .i64 e)]) = some (.val (.bool (decide (a = c) && decide (b = e)))) := by
  have h := eqi36 9998 a b c e
  have hq : pureRun Tryz.prog (Op.equal 36 (.agg #[.int .i64 a, .int .i64 b]) (.agg #[.int .i64 c, .int .i64 e])) = some (decide (a = c) && decide (b = e)) := h
  simp only [abin, toVal, toVals, pRun_bind, guard36, Option.bind_some, binOp, hq, pureRun_pure]
theorem eqib (d : Nat) (t : TypeId) (ht : pureRun Tryz.prog (underlying t) = some .bool) (a b : Bool) : pureRun Tryz.prog (Op.equalIn (d + 1) t (.bool a) (.bool b)) = some (a == b) := by
  rw [Op.equalIn]
  simp only [pRun_bind, ht, Option.bind_some, pureRun_pure]
theorem neqb (ox oy : Operand) (t : TypeId) (ht : pureRun Tryz.prog (underlying t) = some .bool) (a b : Bool) : abin Tryz.prog tb .neq t ox oy (.val (.bool a)) (.val (.bool b)) = some (.val (.bool (!(a == b)))) := by
  have hg : pureRun Tryz.prog (eqGuard .neq t ox oy (.bool a) (.bool b)) = some () := rfl
  have hq : pureRun Tryz.prog (Op.equal t (.bool a) (.bool b)) = some (a == b) := eqib 9999 t ht a b
  simp only [abin, toVal, pRun_bind, hg, Option.bind_some, binOp, hq, pureRun_pure]
theorem neq4 (ox oy : Operand) (a b : Bool) : abin Tryz.prog tb .neq 4 ox oy (.val (.bool a)) (.val (.bool b)) = some (.val (.bool (!(a == b)))) := neqb ox oy 4 (by kernel_rfl) a b
end Go.Proofs.Kn
end
namespace Go.Proofs.Kn
open Go Go.Ev
set_option maxRecDepth 100000
theorem ft22 (xt : Addr → Option Value) : (SE xt).ft.get 22 = some Tryz.f22 := by kernel_rfl
theorem res22 : Tryz.f22.results.toList = [.tmp 4] := by kernel_rfl
theorem beq_drop {l m : List (Int × Int)} {k : Nat} {x y : Int × Int} (hx : l[k]? = some x) (hy : m[k]? = some y) : (l.drop k == m.drop k) = ((decide (x.1 = y.1) && decide (x.2 = y.2)) && (l.drop (k + 1) == m.drop (k + 1))) := by
  obtain ⟨h1, rfl⟩ := List.getElem?_eq_some_iff.1 hx
  obtain ⟨h2, rfl⟩ := List.getElem?_eq_some_iff.1 hy
  rw [List.drop_eq_getElem_cons h1, List.drop_eq_getElem_cons h2]
  rw [List.cons_beq_cons]
  congr 1
theorem spans_c (xt : Addr → Option Value) (h : Hp) (v u : AV) (l m : List (Int × Int)) (hv : RowAt xt h 2 v (l.map c2)) (hu : RowAt xt h 2 u (m.map c2)) (hl : l.length ≤ 9223372036854775807) {K : CR → Hp → Prop} (hk : ∀ n, h.n < n → K (.ret (.val (.bool (l == m)))) (h.up n)) : FnA (SE xt) 22 [v, u] h K := by
  refine FnA.calm ?_ hk
  clear hk K
  refine FnA.walk (sok xt) (ft22 xt) rfl 26 rfl ?_
  have hlenL := fun h' => hv.len (h' := h') tg43 rfl
  have hlenM := fun h' => hu.len (h' := h') tg43 rfl
  simp only [List.length_map] at hlenL hlenM
  refine seq_reg fun K hn hp => ?_
  simp only [sy.down, argsTo, cellPut_some, Nat.reduceEqDiff, reduceIte, Nat.reduceLT, Nat.reduceAdd, Nat.reduceMul, Nat.reduceLeDiff]
  refine hn _ _ ?_
  clear hn hp K
  refine seq_seq ?_
  cases q : decide ((l.length : Int) = m.length)
  · refine seq_reg fun K hn hp => ?_
    simp only [sy.down, argsTo, cellPut_some, Nat.reduceEqDiff, reduceIte, Nat.reduceLT, Nat.reduceAdd, Nat.reduceMul, Nat.reduceLeDiff, hlenL, hlenM, q]
    refine hn _ _ ?_
    clear hn hp K
    refine seq_cond true (by simp only [sy.down, argsTo, cellPut_some, Nat.reduceEqDiff, reduceIte, Nat.reduceLT, Nat.reduceAdd, Nat.reduceMul, Nat.reduceLeDiff]) (fun _ => ?_) (fun hx => by cases hx)
    refine seq_seq ?_
    refine seq_reg fun K hn hp => ?_
    simp only [sy.down, argsTo, cellPut_some, Nat.reduceEqDiff, reduceIte, Nat.reduceLT, Nat.reduceAdd, Nat.reduceMul, Nat.reduceLeDiff]
    refine hn _ _ ?_
    clear hn hp K
    refine seq_ret (end_1 res22 ⟨?_, Fr.refl (Nat.le_refl _)⟩)
    have : (l == m) = false := by
      rw [beq_eq_false_iff_ne]
      intro he
      rw [he] at q; simp at q
    simp [T.get_put, this]
  · have hlm : l.length = m.length := by simp at q; omega
    refine seq_reg fun K hn hp => ?_
    simp only [sy.down, argsTo, cellPut_some, Nat.reduceEqDiff, reduceIte, Nat.reduceLT, Nat.reduceAdd, Nat.reduceMul, Nat.reduceLeDiff, hlenL, hlenM, q]
    refine hn _ _ ?_
    clear hn hp K
    refine seq_cond false (by simp only [sy.down, argsTo, cellPut_some, Nat.reduceEqDiff, reduceIte, Nat.reduceLT, Nat.reduceAdd, Nat.reduceMul, Nat.reduceLeDiff]) (fun hx => by cases hx) (fun _ => ?_)
    refine seq_skip ?_
    refine seq_seq ?_
    refine seq_reg fun K hn hp => ?_
    simp only [sy.down, argsTo, cellPut_some, Nat.reduceEqDiff, reduceIte, Nat.reduceLT, Nat.reduceAdd, Nat.reduceMul, Nat.reduceLeDiff]
    refine hn _ _ ?_
    clear hn hp K
    refine seq_block fun K k1 k2 k3 k4 k5 => ?_
    refine wpc_loop (sok xt) (fun st => ∃ (k : Nat) (tm : T AV), st = ⟨tm, 26, h, []⟩ ∧ k ≤ l.length ∧ tm.get 0 = some v ∧ tm.get 1 = some u ∧ tm.get 5 = some (iv k) ∧ (l == m) = (l.drop k == m.drop k))
      (fun st => l.length - (match st.tm.get 5 with | some (.val (.int _ n)) => n.toNat | _ => 0)) ?_ ?_
    · rintro st ⟨k, tm, rfl, hk, g0, g1, g5, hfi⟩
      refine seq_seq ?_
      refine seq_reg fun K hn hp => ?_
      simp only [sy.down, argsTo, cellPut_some, Nat.reduceEqDiff, reduceIte, Nat.reduceLT, Nat.reduceAdd, Nat.reduceMul, Nat.reduceLeDiff, g0, g1, g5, hlenL]
      refine hn _ _ ?_
      clear hn hp K
      have ht : (decide ((k : Int) < (l.length : Int))) = decide (k < l.length) := by simp
      by_cases hlt : k < l.length
      · obtain ⟨x, hx⟩ : ∃ x, l[k]? = some x := ⟨_, List.getElem?_eq_getElem hlt⟩
        obtain ⟨y, hy⟩ : ∃ y, m[k]? = some y := ⟨_, List.getElem?_eq_getElem (by omega)⟩
        have hidx := hv.idx tg43 rfl tg36 rfl (by simpa using hlt) (k := .i64)
        have hld : aload tb xt h 36 (elp v (k * 2)) = some (.agg [iv x.1, iv x.2]) := hv.loadA tg36 rfl rfl (c := c2 x) (by simp [hx])
        have hidx2 := hu.idx tg43 rfl tg36 rfl (by simp; omega) (k := .i64) (i := k)
        have hld2 : aload tb xt h 36 (elp u (k * 2)) = some (.agg [iv y.1, iv y.2]) := hu.loadA tg36 rfl rfl (c := c2 y) (by simp [hy])
        rw [beq_drop hx hy] at hfi
        refine seq_cond true (by simp only [sy.down, argsTo, cellPut_some, Nat.reduceEqDiff, reduceIte, Nat.reduceLT, Nat.reduceAdd, Nat.reduceMul, Nat.reduceLeDiff, ht, hlt]) (fun _ => ?_) (fun hx => by cases hx)
        refine seq_skip ?_
        refine seq_block fun K' k1' k2' k3' k4' k5' => ?_
        refine seq_regD (sok xt) 9 (by kernel_rfl) fun K hn hp => ?_
        simp only [sy.down, argsTo, cellPut_some, Nat.reduceEqDiff, reduceIte, Nat.reduceLT, Nat.reduceAdd, Nat.reduceMul, Nat.reduceLeDiff, g0, g1, g5, hidx, hld, hidx2, hld2, neq36]
        refine hn _ _ ?_
        clear hn hp K
        cases q2 : (decide (x.1 = y.1) && decide (x.2 = y.2))
        · refine wpc_cond true (by simp only [sy.down, argsTo, cellPut_some, Nat.reduceEqDiff, reduceIte, Nat.reduceLT, Nat.reduceAdd, Nat.reduceMul, Nat.reduceLeDiff, q2]) (fun _ => ?_) (fun hx => by cases hx)
          refine seq_reg fun K hn hp => ?_
          simp only [sy.down, argsTo, cellPut_some, Nat.reduceEqDiff, reduceIte, Nat.reduceLT, Nat.reduceAdd, Nat.reduceMul, Nat.reduceLeDiff]
          refine hn _ _ ?_
          clear hn hp K
          refine wpc_ret (k4' _ (k4 _ (end_1 res22 ⟨?_, Fr.refl (Nat.le_refl _)⟩)))
          rw [hfi, q2]; simp [T.get_put]
        · refine wpc_cond false (by simp only [sy.down, argsTo, cellPut_some, Nat.reduceEqDiff, reduceIte, Nat.reduceLT, Nat.reduceAdd, Nat.reduceMul, Nat.reduceLeDiff, q2]) (fun hx => by cases hx) (fun _ => ?_)
          refine wpc_skip (k1' _ ?_)
          refine reg fun K1 hn hp => ?_
          have hw : IntKind.i64.wrap ((k : Int) + 1) = ((k + 1 : Nat) : Int) := by rw [wrap_i64 _ (by omega) (by omega)]; simp
          simp only [sy.down, argsTo, cellPut_some, Nat.reduceEqDiff, reduceIte, Nat.reduceLT, Nat.reduceAdd, Nat.reduceMul, Nat.reduceLeDiff, g5, hw]
          refine hn _ _ ?_
          refine ⟨⟨k + 1, _, rfl, hlt, ?_, ?_, ?_, ?_⟩, ?_⟩
          · simp [T.get_put, g0]
          · simp [T.get_put, g1]
          · simp [T.get_put]
          · rw [hfi, q2]; simp
          · have hm : l.length - (k + 1) < l.length - k := by omega
            simpa [T.get_put, g5] using hm
      · refine seq_cond false (by simp only [sy.down, argsTo, cellPut_some, Nat.reduceEqDiff, reduceIte, Nat.reduceLT, Nat.reduceAdd, Nat.reduceMul, Nat.reduceLeDiff, ht, hlt]) (fun hx => by cases hx) (fun _ => ?_)
        refine seq_exit (k2 _ ?_)
        have h1 : l.drop k = [] := List.drop_eq_nil_of_le (by omega)
        have h2 : m.drop k = [] := List.drop_eq_nil_of_le (by omega)
        rw [h1, h2] at hfi
        refine seq_reg fun K hn hp => ?_
        simp only [sy.down, argsTo, cellPut_some, Nat.reduceEqDiff, reduceIte, Nat.reduceLT, Nat.reduceAdd, Nat.reduceMul, Nat.reduceLeDiff]
        refine hn _ _ ?_
        clear hn hp K
        refine wpc_ret (end_1 res22 ⟨?_, Fr.refl (Nat.le_refl _)⟩)
        rw [hfi]; simp [T.get_put]
    · refine ⟨0, _, rfl, Nat.zero_le _, ?_, ?_, ?_, ?_⟩
      all_goals simp [T.get_put]
/-! ### which sacks are as defined -/
def rLoop : List (Int × Int × Int) → List Int → Int → Bool
  | x :: l, y :: m, a => !badSort x.1 x.2.1 x.2.2 && ((decide (0 ≤ y) && decide (y ≤ a)) && rLoop l m (wr (a - y)))
  | _, _, _ => true
theorem rLoop_drop {l : List (Int × Int × Int)} {m : List Int} {k : Nat} {x : Int × Int × Int} {y : Int} (hx : l[k]? = some x) (hy : m[k]? = some y) (a : Int) : rLoop (l.drop k) (m.drop k) a = (!badSort x.1 x.2.1 x.2.2 && ((decide (0 ≤ y) && decide (y ≤ a)) && rLoop (l.drop (k + 1)) (m.drop (k + 1)) (wr (a - y)))) := by
  obtain ⟨h1, rfl⟩ := List.getElem?_eq_some_iff.1 hx
  obtain ⟨h2, rfl⟩ := List.getElem?_eq_some_iff.1 hy
  rw [List.drop_eq_getElem_cons h1, List.drop_eq_getElem_cons h2]; rfl
def Sk.rok (s : Sk) : Bool :=
  (decide (1 ≤ s.sh) && decide (s.sh ≤ 10)) && ((decide ((1 : Int) ≤ s.sorts.length) && decide ((s.sorts.length : Int) ≤ 3)) && (decide ((s.seen.length : Int) = s.sorts.length) &&
    ((decide (0 ≤ s.wt) && decide (s.wt ≤ 1000)) && ((decide (0 ≤ s.off) && decide (s.off ≤ 100)) && rLoop s.sorts s.seen s.sh))))
theorem ft12 (xt : Addr → Option Value) : (SE xt).ft.get 12 = some Tryz.f12 := by kernel_rfl
theorem res12 : Tryz.f12.results.toList = [.tmp 2] := by kernel_rfl
theorem rsack_c (xt : Addr → Option Value) (h : Hp) (s : Sk) (ha : s.At xt h) {K : CR → Hp → Prop} (hk : ∀ n, h.n < n → K (.ret (.val (.bool s.rok))) (h.up n)) : FnA (SE xt) 12 [s.av] h K := by
  refine FnA.calm ?_ hk
  clear hk K
  refine FnA.walk (sok xt) (ft12 xt) rfl 94 rfl ?_
  have hfr0 : ∀ n, h.n + 1 ≤ n → Fr h.n h ((h.new (.cells s.cells 25)).up n) := fun n hn => ((Fr.refl (Nat.le_refl _)).new _).up hn
  have ha1 := ha.new (.cells s.cells 25)
  have hlenS := fun h' => ha.sorts.len (h' := h') tg22 rfl
  have hlenE := fun h' => ha.seen.len (h' := h') tg23 rfl
  simp only [List.length_map] at hlenS hlenE
  refine seq_reg fun K hn hp => ?_
  simp only [sy.down, argsTo, cellPut_some, Nat.reduceEqDiff, reduceIte, Nat.reduceLT, Nat.reduceAdd, Nat.reduceMul, Nat.reduceLeDiff]
  refine hn _ _ ?_
  clear hn hp K
  refine seq_seq ?_
  refine seq_reg fun K hn hp => ?_
  simp only [sy.down, argsTo, cellPut_some, Nat.reduceEqDiff, reduceIte, Nat.reduceLT, Nat.reduceAdd, Nat.reduceMul, Nat.reduceLeDiff]
  refine callA_func (sok xt) (rin_c xt _ _ _ _ fun n1 hn1 => ?_)
  simp only [Hp.new_n] at hn1
  cases q1 : (decide (1 ≤ s.sh) && decide (s.sh ≤ 10))
  · simp only [sy.down, argsTo, cellPut_some, Nat.reduceEqDiff, reduceIte, Nat.reduceLT, Nat.reduceAdd, Nat.reduceMul, Nat.reduceLeDiff, q1]
    refine hn _ _ ?_
    refine seq_cond true (by simp only [sy.down, argsTo, cellPut_some, Nat.reduceEqDiff, reduceIte, Nat.reduceLT, Nat.reduceAdd, Nat.reduceMul, Nat.reduceLeDiff]) (fun _ => ?_) (fun hx => by cases hx)
    refine seq_seq ?_
    refine seq_reg fun K hn hp => ?_
    simp only [sy.down, argsTo, cellPut_some, Nat.reduceEqDiff, reduceIte, Nat.reduceLT, Nat.reduceAdd, Nat.reduceMul, Nat.reduceLeDiff]
    refine hn _ _ ?_
    clear hn hp K
    refine seq_ret (end_1 res12 ⟨?_, hfr0 _ (by omega)⟩)
    simp [T.get_put, Sk.rok, q1]
  simp only [sy.down, argsTo, cellPut_some, Nat.reduceEqDiff, reduceIte, Nat.reduceLT, Nat.reduceAdd, Nat.reduceMul, Nat.reduceLeDiff, q1, hlenS]
  refine callA_func (sok xt) (rin_c xt _ _ _ _ fun n2 hn2 => ?_)
  simp only [Hp.up_n] at hn2
  cases q2 : (decide ((1 : Int) ≤ s.sorts.length) && decide ((s.sorts.length : Int) ≤ 3))
  · simp only [sy.down, argsTo, cellPut_some, Nat.reduceEqDiff, reduceIte, Nat.reduceLT, Nat.reduceAdd, Nat.reduceMul, Nat.reduceLeDiff, q2, Hp.up_up]
    refine hn _ _ ?_
    refine seq_cond true (by simp only [sy.down, argsTo, cellPut_some, Nat.reduceEqDiff, reduceIte, Nat.reduceLT, Nat.reduceAdd, Nat.reduceMul, Nat.reduceLeDiff]) (fun _ => ?_) (fun hx => by cases hx)
    refine seq_seq ?_
    refine seq_reg fun K hn hp => ?_
    simp only [sy.down, argsTo, cellPut_some, Nat.reduceEqDiff, reduceIte, Nat.reduceLT, Nat.reduceAdd, Nat.reduceMul, Nat.reduceLeDiff]
    refine hn _ _ ?_
    clear hn hp K
    refine seq_ret (end_1 res12 ⟨?_, hfr0 _ (by omega)⟩)
    simp [T.get_put, Sk.rok, q2]
  cases q3 : decide ((s.seen.length : Int) = s.sorts.length)
  · simp only [sy.down, argsTo, cellPut_some, Nat.reduceEqDiff, reduceIte, Nat.reduceLT, Nat.reduceAdd, Nat.reduceMul, Nat.reduceLeDiff, q2, q3, Hp.up_up, hlenS, hlenE]
    refine hn _ _ ?_
    refine seq_cond true (by simp only [sy.down, argsTo, cellPut_some, Nat.reduceEqDiff, reduceIte, Nat.reduceLT, Nat.reduceAdd, Nat.reduceMul, Nat.reduceLeDiff]) (fun _ => ?_) (fun hx => by cases hx)
    refine seq_seq ?_
    refine seq_reg fun K hn hp => ?_
    simp only [sy.down, argsTo, cellPut_some, Nat.reduceEqDiff, reduceIte, Nat.reduceLT, Nat.reduceAdd, Nat.reduceMul, Nat.reduceLeDiff]
    refine hn _ _ ?_
    clear hn hp K
    refine seq_ret (end_1 res12 ⟨?_, hfr0 _ (by omega)⟩)
    simp [T.get_put, Sk.rok, q3]
  simp only [sy.down, argsTo, cellPut_some, Nat.reduceEqDiff, reduceIte, Nat.reduceLT, Nat.reduceAdd, Nat.reduceMul, Nat.reduceLeDiff, q2, q3, Hp.up_up, hlenS, hlenE]
  refine callA_func (sok xt) (rin_c xt _ _ _ _ fun n3 hn3 => ?_)
  simp only [Hp.up_n] at hn3
  cases q4 : (decide (0 ≤ s.wt) && decide (s.wt ≤ 1000))
  · simp only [sy.down, argsTo, cellPut_some, Nat.reduceEqDiff, reduceIte, Nat.reduceLT, Nat.reduceAdd, Nat.reduceMul, Nat.reduceLeDiff, q4, Hp.up_up]
    refine hn _ _ ?_
    refine seq_cond true (by simp only [sy.down, argsTo, cellPut_some, Nat.reduceEqDiff, reduceIte, Nat.reduceLT, Nat.reduceAdd, Nat.reduceMul, Nat.reduceLeDiff]) (fun _ => ?_) (fun hx => by cases hx)
    refine seq_seq ?_
    refine seq_reg fun K hn hp => ?_
    simp only [sy.down, argsTo, cellPut_some, Nat.reduceEqDiff, reduceIte, Nat.reduceLT, Nat.reduceAdd, Nat.reduceMul, Nat.reduceLeDiff]
    refine hn _ _ ?_
    clear hn hp K
    refine seq_ret (end_1 res12 ⟨?_, hfr0 _ (by omega)⟩)
    simp [T.get_put, Sk.rok, q4]
  simp only [sy.down, argsTo, cellPut_some, Nat.reduceEqDiff, reduceIte, Nat.reduceLT, Nat.reduceAdd, Nat.reduceMul, Nat.reduceLeDiff, q4, Hp.up_up]
  refine callA_func (sok xt) (rin_c xt _ _ _ _ fun n4 hn4 => ?_)
  simp only [Hp.up_n] at hn4
  simp only [sy.down, argsTo, cellPut_some, Nat.reduceEqDiff, reduceIte, Nat.reduceLT, Nat.reduceAdd, Nat.reduceMul, Nat.reduceLeDiff, Hp.up_up]
  refine hn _ _ ?_
  clear hn hp K
  cases q5 : (decide (0 ≤ s.off) && decide (s.off ≤ 100))
  · refine seq_cond true (by simp only [sy.down, argsTo, cellPut_some, Nat.reduceEqDiff, reduceIte, Nat.reduceLT, Nat.reduceAdd, Nat.reduceMul, Nat.reduceLeDiff, q5]) (fun _ => ?_) (fun hx => by cases hx)
    refine seq_seq ?_
    refine seq_reg fun K hn hp => ?_
    simp only [sy.down, argsTo, cellPut_some, Nat.reduceEqDiff, reduceIte, Nat.reduceLT, Nat.reduceAdd, Nat.reduceMul, Nat.reduceLeDiff]
    refine hn _ _ ?_
    clear hn hp K
    refine seq_ret (end_1 res12 ⟨?_, hfr0 _ (by omega)⟩)
    simp [T.get_put, Sk.rok, q5]
  refine seq_cond false (by simp only [sy.down, argsTo, cellPut_some, Nat.reduceEqDiff, reduceIte, Nat.reduceLT, Nat.reduceAdd, Nat.reduceMul, Nat.reduceLeDiff, q5]) (fun hx => by cases hx) (fun _ => ?_)
  refine seq_skip ?_
  have hse : s.seen.length = s.sorts.length := by simp at q3; omega
  refine seq_reg fun K hn hp => ?_
  simp only [sy.down, argsTo, cellPut_some, Nat.reduceEqDiff, reduceIte, Nat.reduceLT, Nat.reduceAdd, Nat.reduceMul, Nat.reduceLeDiff]
  refine hn _ _ ?_
  clear hn hp K
  refine seq_seq ?_
  refine seq_reg fun K hn hp => ?_
  simp only [sy.down, argsTo, cellPut_some, Nat.reduceEqDiff, reduceIte, Nat.reduceLT, Nat.reduceAdd, Nat.reduceMul, Nat.reduceLeDiff]
  refine hn _ _ ?_
  clear hn hp K
  have hmax := ha.ls
  refine seq_block fun K k1 k2 k3 k4 k5 => ?_
  refine wpc_loop (sok xt) (fun st => ∃ (k : Nat) (a : Int) (tm : T AV) (hc : Hp), st = ⟨tm, 94, hc, []⟩ ∧ Fr (h.n + 1) (h.new (.cells s.cells 25)) hc ∧ k ≤ s.sorts.length ∧ tm.get 1 = some (.ptr h.n 0) ∧ tm.get 3 = some (iv a) ∧ tm.get 4 = some (iv k) ∧ rLoop s.sorts s.seen s.sh = rLoop (s.sorts.drop k) (s.seen.drop k) a)
    (fun st => s.sorts.length - (match st.tm.get 4 with | some (.val (.int _ n)) => n.toNat | _ => 0)) ?_ ?_
  · rintro st ⟨k, a, tm, hc, rfl, fr, hk, g1, g3, g4, hfi⟩
    have hlo := fr.lo
    have q0 : hc.t.get h.n = some (.cells s.cells 25) := by rw [fr.at_ _ (by omega)]; simp [Hp.new_t, T.get_put]
    have n0 : (h.n = hc.n) = False := by simp; omega
    have hfrC : Fr h.n h hc := ((Fr.refl (Nat.le_refl _)).new _).trans fr (by omega)
    refine seq_seq ?_
    refine seq_reg fun K hn hp => ?_
    simp only [sy.down, argsTo, cellPut_some, Nat.reduceEqDiff, reduceIte, Nat.reduceLT, Nat.reduceAdd, Nat.reduceMul, Nat.reduceLeDiff, g1, g3, g4, q0, hlenS]
    refine hn _ _ ?_
    clear hn hp K
    have ht : (decide ((k : Int) < (s.sorts.length : Int))) = decide (k < s.sorts.length) := by simp
    by_cases hlt : k < s.sorts.length
    · obtain ⟨x, hx⟩ : ∃ x, s.sorts[k]? = some x := ⟨_, List.getElem?_eq_getElem hlt⟩
      obtain ⟨y, hy⟩ : ∃ y, s.seen[k]? = some y := ⟨_, List.getElem?_eq_getElem (by omega)⟩
      have haC := ha1.fr fr (by simp [Hp.new_n])
      have hidx := ha1.sorts.idx tg22 rfl tg101 rfl (by simpa using hlt) (k := .i64)
      have hld : aload tb xt hc 101 (elp s.vs (k * 3)) = some (.agg [iv x.1, iv x.2.1, iv x.2.2]) := haC.sorts.loadA tg101 rfl rfl (c := c3 x) (by simp [hx])
      rw [rLoop_drop hx hy] at hfi
      refine seq_cond true (by simp only [sy.down, argsTo, cellPut_some, Nat.reduceEqDiff, reduceIte, Nat.reduceLT, Nat.reduceAdd, Nat.reduceMul, Nat.reduceLeDiff, ht, hlt]) (fun _ => ?_) (fun hx => by cases hx)
      refine seq_skip ?_
      refine seq_block fun K' k1' k2' k3' k4' k5' => ?_
      refine seq_reg fun K hn hp => ?_
      simp only [sy.down, argsTo, cellPut_some, Nat.reduceEqDiff, reduceIte, Nat.reduceLT, Nat.reduceAdd, Nat.reduceMul, Nat.reduceLeDiff, g1, g3, g4, q0, hidx, hld]
      refine hn _ _ ?_
      clear hn hp K
      have frD : Fr (h.n + 1) (h.new (.cells s.cells 25)) ((hc.new (.cells [iv 0, iv 0, iv 0] 101)).set hc.n (.cells [iv x.1, iv x.2.1, iv x.2.2] 101)) := (fr.new _).set hlo (by simp [Hp.new_n]) _
      have haD := ha1.fr frD (by simp [Hp.new_n])
      have hidx2 := ha1.seen.idx tg23 rfl tg3 rfl (by simp; omega) (k := .i64) (i := k)
      have hld2 : ∀ m, hc.n + 1 ≤ m → aload tb xt (((hc.new (.cells [iv 0, iv 0, iv 0] 101)).set hc.n (.cells [iv x.1, iv x.2.1, iv x.2.2] 101)).up m) 3 (elp s.ve (k * 1)) = some (iv y) := fun m hm => (haD.seen.up hm).load0 tg3 rfl (c := c1 y) (by simp [hy]) rfl
      have bad : ∀ (tm' : T AV) (m : Nat), hc.n + 1 ≤ m → rLoop s.sorts s.seen s.sh = false → tm'.get 86 = some (.val (.bool true)) → endK (SE xt) Tryz.f12 (fun r h' => r = CR.ret (AV.val (Value.bool s.rok)) ∧ Fr h.n h h') Ex.ret ⟨tm'.put (some (.val (.bool false))) 2, 94, ((hc.new (.cells [iv 0, iv 0, iv 0] 101)).set hc.n (.cells [iv x.1, iv x.2.1, iv x.2.2] 101)).up m, []⟩ := by
        intro tm' m hm hr _
        refine end_1 res12 ⟨?_, (((Fr.refl (Nat.le_refl _)).new _).trans frD (by omega)).up hm⟩
        simp [T.get_put, Sk.rok, hr]
      refine seq_seq ?_
      refine seq_reg fun K1 hn hp => ?_
      simp only [sy.down, argsTo, cellPut_some, Nat.reduceEqDiff, reduceIte, Nat.reduceLT, Nat.reduceAdd, Nat.reduceMul, Nat.reduceLeDiff, g1, g3, g4, q0, n0]
      refine callA_func (sok xt) (rin_c xt _ _ _ _ fun m1 hm1 => ?_)
      simp only [Hp.set_n, Hp.new_n] at hm1
      cases r1 : (decide (0 ≤ x.1) && decide (x.1 ≤ 20))
      · simp only [sy.down, argsTo, cellPut_some, Nat.reduceEqDiff, reduceIte, Nat.reduceLT, Nat.reduceAdd, Nat.reduceMul, Nat.reduceLeDiff, r1]
        refine hn _ _ ?_
        refine seq_cond true (by simp only [sy.down, argsTo, cellPut_some, Nat.reduceEqDiff, reduceIte, Nat.reduceLT, Nat.reduceAdd, Nat.reduceMul, Nat.reduceLeDiff]) (fun _ => ?_) (fun hx => by cases hx)
        refine seq_seq ?_
        refine seq_reg fun K hn hp => ?_
        simp only [sy.down, argsTo, cellPut_some, Nat.reduceEqDiff, reduceIte, Nat.reduceLT, Nat.reduceAdd, Nat.reduceMul, Nat.reduceLeDiff]
        refine hn _ _ ?_
        clear hn hp K
        refine seq_ret (k4' _ (k4 _ (bad _ _ (by omega) (by rw [hfi]; simp [badSort, r1]) (by simp [T.get_put]))))
      cases r2 : decide (x.2.1 < 1)
      rotate_left
      · simp only [sy.down, argsTo, cellPut_some, Nat.reduceEqDiff, reduceIte, Nat.reduceLT, Nat.reduceAdd, Nat.reduceMul, Nat.reduceLeDiff, r1, r2]
        refine hn _ _ ?_
        refine seq_cond true (by simp only [sy.down, argsTo, cellPut_some, Nat.reduceEqDiff, reduceIte, Nat.reduceLT, Nat.reduceAdd, Nat.reduceMul, Nat.reduceLeDiff]) (fun _ => ?_) (fun hx => by cases hx)
        refine seq_seq ?_
        refine seq_reg fun K hn hp => ?_
        simp only [sy.down, argsTo, cellPut_some, Nat.reduceEqDiff, reduceIte, Nat.reduceLT, Nat.reduceAdd, Nat.reduceMul, Nat.reduceLeDiff]
        refine hn _ _ ?_
        clear hn hp K
        refine seq_ret (k4' _ (k4 _ (bad _ _ (by omega) (by rw [hfi]; simp [badSort, r2]) (by simp [T.get_put]))))
      cases r3 : decide (x.2.2 < x.2.1)
      rotate_left
      · simp only [sy.down, argsTo, cellPut_some, Nat.reduceEqDiff, reduceIte, Nat.reduceLT, Nat.reduceAdd, Nat.reduceMul, Nat.reduceLeDiff, r1, r2, r3]
        refine hn _ _ ?_
        refine seq_cond true (by simp only [sy.down, argsTo, cellPut_some, Nat.reduceEqDiff, reduceIte, Nat.reduceLT, Nat.reduceAdd, Nat.reduceMul, Nat.reduceLeDiff]) (fun _ => ?_) (fun hx => by cases hx)
        refine seq_seq ?_
        refine seq_reg fun K hn hp => ?_
        simp only [sy.down, argsTo, cellPut_some, Nat.reduceEqDiff, reduceIte, Nat.reduceLT, Nat.reduceAdd, Nat.reduceMul, Nat.reduceLeDiff]
        refine hn _ _ ?_
        clear hn hp K
        refine seq_ret (k4' _ (k4 _ (bad _ _ (by omega) (by rw [hfi]; simp [badSort, r3]) (by simp [T.get_put]))))
      cases r4 : decide (100 < x.2.2)
      rotate_left
      · simp only [sy.down, argsTo, cellPut_some, Nat.reduceEqDiff, reduceIte, Nat.reduceLT, Nat.reduceAdd, Nat.reduceMul, Nat.reduceLeDiff, r1, r2, r3, r4]
        refine hn _ _ ?_
        refine seq_cond true (by simp only [sy.down, argsTo, cellPut_some, Nat.reduceEqDiff, reduceIte, Nat.reduceLT, Nat.reduceAdd, Nat.reduceMul, Nat.reduceLeDiff]) (fun _ => ?_) (fun hx => by cases hx)
        refine seq_seq ?_
        refine seq_reg fun K hn hp => ?_
        simp only [sy.down, argsTo, cellPut_some, Nat.reduceEqDiff, reduceIte, Nat.reduceLT, Nat.reduceAdd, Nat.reduceMul, Nat.reduceLeDiff]
        refine hn _ _ ?_
        clear hn hp K
        refine seq_ret (k4' _ (k4 _ (bad _ _ (by omega) (by rw [hfi]; simp [badSort, r4]) (by simp [T.get_put]))))
      have hgood : badSort x.1 x.2.1 x.2.2 = false := by simp only [badSort, r1, r2, r3, r4]; rfl
      have hl2 := hld2 m1 (by omega)
      simp only [sy.down, argsTo, cellPut_some, Nat.reduceEqDiff, reduceIte, Nat.reduceLT, Nat.reduceAdd, Nat.reduceMul, Nat.reduceLeDiff, r1, r2, r3, r4, g1, g3, g4, q0, n0, hidx2, hl2]
      refine callA_func (sok xt) (rin_c xt _ _ _ _ fun m2 hm2 => ?_)
      simp only [Hp.up_n] at hm2
      simp only [sy.down, argsTo, cellPut_some, Nat.reduceEqDiff, reduceIte, Nat.reduceLT, Nat.reduceAdd, Nat.reduceMul, Nat.reduceLeDiff, Hp.up_up]
      refine hn _ _ ?_
      clear hn hp K1
      cases r5 : (decide (0 ≤ y) && decide (y ≤ a))
      · refine seq_cond true (by simp only [sy.down, argsTo, cellPut_some, Nat.reduceEqDiff, reduceIte, Nat.reduceLT, Nat.reduceAdd, Nat.reduceMul, Nat.reduceLeDiff, r5]) (fun _ => ?_) (fun hx => by cases hx)
        refine seq_seq ?_
        refine seq_reg fun K hn hp => ?_
        simp only [sy.down, argsTo, cellPut_some, Nat.reduceEqDiff, reduceIte, Nat.reduceLT, Nat.reduceAdd, Nat.reduceMul, Nat.reduceLeDiff]
        refine hn _ _ ?_
        clear hn hp K
        refine seq_ret (k4' _ (k4 _ ?_))
        refine end_1 res12 ⟨?_, (((Fr.refl (Nat.le_refl _)).new _).trans frD (by omega)).up (by simp [Hp.set_n, Hp.new_n]; omega)⟩
        have : rLoop s.sorts s.seen s.sh = false := by rw [hfi, r5]; simp
        simp [T.get_put, Sk.rok, this]
      · refine seq_cond false (by simp only [sy.down, argsTo, cellPut_some, Nat.reduceEqDiff, reduceIte, Nat.reduceLT, Nat.reduceAdd, Nat.reduceMul, Nat.reduceLeDiff, r5]) (fun hx => by cases hx) (fun _ => ?_)
        refine seq_skip ?_
        have hl3 := hld2 m2 (by omega)
        refine reg fun K1 hn hp => ?_
        simp only [sy.down, argsTo, cellPut_some, Nat.reduceEqDiff, reduceIte, Nat.reduceLT, Nat.reduceAdd, Nat.reduceMul, Nat.reduceLeDiff, g1, g3, g4, q0, n0, hidx2, hl3]
        refine hn _ _ (k1' _ ?_)
        clear hn hp K1
        refine reg fun K1 hn hp => ?_
        have hw : IntKind.i64.wrap ((k : Int) + 1) = ((k + 1 : Nat) : Int) := by rw [wrap_i64 _ (by omega) (by omega)]; simp
        simp only [sy.down, argsTo, cellPut_some, Nat.reduceEqDiff, reduceIte, Nat.reduceLT, Nat.reduceAdd, Nat.reduceMul, Nat.reduceLeDiff, g4, hw]
        refine hn _ _ ?_
        refine ⟨⟨k + 1, wr (a - y), _, _, rfl, frD.up (by simp [Hp.set_n, Hp.new_n]; omega), hlt, ?_, ?_, ?_, ?_⟩, ?_⟩
        · simp [T.get_put, g1]
        · simp [T.get_put]
        · simp [T.get_put]
        · rw [hfi, hgood, r5]; simp
        · have hm : s.sorts.length - (k + 1) < s.sorts.length - k := by omega
          simpa [T.get_put, g4] using hm
    · refine seq_cond false (by simp only [sy.down, argsTo, cellPut_some, Nat.reduceEqDiff, reduceIte, Nat.reduceLT, Nat.reduceAdd, Nat.reduceMul, Nat.reduceLeDiff, ht, hlt]) (fun hx => by cases hx) (fun _ => ?_)
      refine seq_exit (k2 _ ?_)
      have hnil : s.sorts.drop k = [] := List.drop_eq_nil_of_le (by omega)
      rw [hnil] at hfi
      have hfi : rLoop s.sorts s.seen s.sh = true := by rw [hfi]; simp [rLoop]
      refine seq_reg fun K hn hp => ?_
      simp only [sy.down, argsTo, cellPut_some, Nat.reduceEqDiff, reduceIte, Nat.reduceLT, Nat.reduceAdd, Nat.reduceMul, Nat.reduceLeDiff]
      refine hn _ _ ?_
      clear hn hp K
      refine wpc_ret (end_1 res12 ⟨?_, hfrC⟩)
      have e : s.rok = true := by simp only [Sk.rok, q1, q2, q3, q4, q5, hfi]; rfl
      rw [e]; simp [T.get_put]
  · refine ⟨0, s.sh, _, _, rfl, (Fr.refl (by simp [Hp.new_n])).up (by simp [Hp.new_n]; omega), Nat.zero_le _, ?_, ?_, ?_, ?_⟩
    all_goals simp [T.get_put]
end Go.Proofs.Kn
/-
  What the program finds of a sack is what the reference finds: in plain words, with no program in sight.
-/
namespace Go.Proofs.Kn
open Go Go.Ev
theorem wr_id {x : Int} (h1 : -9223372036854775808 ≤ x) (h2 : x ≤ 9223372036854775807) : wr x = x := wrap_i64 x h1 h2
def sumF (n : Nat → Int) : Nat → Nat → Int
  | _, 0 => 0
  | i, d + 1 => n i + sumF n (i + 1) d
def listOf (n : Nat → Int) (k : Nat) : List Int := (List.range k).map n
def extL (sh : Int) (ll : List (List Int)) : List (List Int) := ll.flatMap fun l => (rngI 0 sh).map fun n => l ++ [n]
def allL (sh : Int) : Nat → List (List Int)
  | 0 => [[]]
  | k + 1 => extL sh (allL sh k)
/-- All truths, as the reference finds them. -/
def Sk.rtruths (s : Sk) : List (List Int) := (allL s.sh s.sorts.length).filter s.rholds
abbrev fnOf (l : List Int) : Nat → Int := fun i => l.getD i 0

theorem mem_rngI {a b x : Int} : x ∈ rngI a b ↔ a ≤ x ∧ x ≤ b := by
  simp only [rngI, List.mem_map, List.mem_range]
  constructor
  · rintro ⟨k, hk, rfl⟩; omega
  · rintro ⟨h1, h2⟩; exact ⟨(x - a).toNat, by omega, by omega⟩
theorem mem_allL {sh : Int} : ∀ {k : Nat} {l : List Int}, l ∈ allL sh k ↔ l.length = k ∧ ∀ x ∈ l, 0 ≤ x ∧ x ≤ sh
  | 0, l => by
    simp only [allL, List.mem_singleton]
    constructor
    · rintro rfl; exact ⟨rfl, fun x hx => by cases hx⟩
    · rintro ⟨h, _⟩; exact List.eq_nil_of_length_eq_zero h
  | k + 1, l => by
    simp only [allL, extL, List.mem_flatMap, List.mem_map]
    constructor
    · rintro ⟨m, hm, n, hn, rfl⟩
      obtain ⟨h1, h2⟩ := mem_allL.1 hm
      refine ⟨by simp [h1], fun x hx => ?_⟩
      rcases List.mem_append.1 hx with hx | hx
      · exact h2 x hx
      · rw [List.mem_singleton] at hx; subst hx; exact mem_rngI.1 hn
    · rintro ⟨h1, h2⟩
      have hne : l ≠ [] := by rintro rfl; simp at h1
      refine ⟨l.dropLast, mem_allL.2 ⟨by simp [h1], fun x hx => h2 x (List.dropLast_subset _ hx)⟩, l.getLast hne, mem_rngI.2 (h2 _ (List.getLast_mem hne)), List.dropLast_concat_getLast hne⟩
theorem sumW_eq : ∀ (l : List Int) (a : Int), 0 ≤ a → (∀ x ∈ l, 0 ≤ x ∧ x ≤ 10) → a + 10 * l.length ≤ 1000 → sumW l a = a + l.sum
  | [], a, _, _, _ => by simp [sumW]
  | x :: l, a, h0, h1, h2 => by
    have hx := h1 x List.mem_cons_self
    simp only [List.length_cons] at h2
    simp only [sumW]
    rw [wr_id (by omega) (by omega), sumW_eq l _ (by omega) (fun y hy => h1 y (List.mem_cons_of_mem _ hy)) (by omega), List.sum_cons]; omega
theorem sumF_range (n : Nat → Int) : ∀ (d i : Nat), sumF n i d = ((List.range' i d).map n).sum
  | 0, i => rfl
  | d + 1, i => by rw [sumF, sumF_range n d (i + 1), List.range'_succ, List.map_cons, List.sum_cons]
theorem sumF_list (n : Nat → Int) (k : Nat) : sumF n 0 k = (listOf n k).sum := by rw [sumF_range, listOf, List.range_eq_range']
theorem sumF_nn {n : Nat → Int} : ∀ (d i : Nat), (∀ j, i ≤ j → j < i + d → 0 ≤ n j) → 0 ≤ sumF n i d
  | 0, _, _ => by simp [sumF]
  | d + 1, i, h => by
    have h1 := h i (Nat.le_refl _) (by omega)
    have h2 := sumF_nn d (i + 1) fun j a b => h j (by omega) (by omega)
    simp only [sumF]; omega
theorem sumF_one {n : Nat → Int} : ∀ (d i k : Nat), (∀ j, i ≤ j → j < i + d → 0 ≤ n j) → i ≤ k → k < i + d → n k ≤ sumF n i d
  | 0, i, k, _, h1, h2 => by omega
  | d + 1, i, k, h, h1, h2 => by
    simp only [sumF]
    have h3 := sumF_nn d (i + 1) fun j a b => h j (by omega) (by omega)
    by_cases hk : k = i
    · subst hk; omega
    · have h4 := sumF_one d (i + 1) k (fun j a b => h j (by omega) (by omega)) (by omega) (by omega)
      have h5 := h i (by omega) (by omega)
      omega
theorem mem_srch (s : Sk) {seen : Nat → Int} (hs : ∀ j, 0 ≤ seen j) : ∀ (d : Nat) (now : Nat → Int) (i : Nat) (left : Int) (n : Nat → Int), n ∈ s.srch seen d now i left ↔ (∀ j, j < i ∨ i + d ≤ j → n j = now j) ∧ (∀ j, i ≤ j → j < i + d → seen j ≤ n j) ∧ sumF n i d = left ∧ s.weighs n = true
  | 0, now, i, left, n => by
    simp only [Sk.srch, sumF]
    constructor
    · intro h
      split at h
      · rename_i hc
        rw [List.mem_singleton] at h; subst h
        exact ⟨fun _ _ => rfl, fun j a b => by omega, hc.1.symm, hc.2⟩
      · cases h
    · rintro ⟨h1, _, h3, h4⟩
      have : n = now := funext fun j => h1 j (by omega)
      subst this
      rw [if_pos ⟨h3.symm, h4⟩]; exact List.mem_singleton.2 rfl
  | d + 1, now, i, left, n => by
    simp only [Sk.srch, List.mem_flatMap, sumF]
    constructor
    · rintro ⟨m, hm, hn⟩
      obtain ⟨h1, h2, h3, h4⟩ := (mem_srch s hs d _ _ _ n).1 hn
      have hmm := mem_rngI.1 hm
      have hni : n i = m := by rw [h1 i (by omega)]; simp [updN]
      refine ⟨fun j hj => ?_, fun j a b => ?_, by omega, h4⟩
      · rw [h1 j (by omega)]; simp only [updN]; rw [if_neg (by omega)]
      · by_cases hj : j = i
        · subst hj; omega
        · exact h2 j (by omega) (by omega)
    · rintro ⟨h1, h2, h3, h4⟩
      have hi := h2 i (by omega) (by omega)
      have hnn : 0 ≤ sumF n (i + 1) d := sumF_nn d (i + 1) fun j a b => by have := h2 j (by omega) (by omega); have := hs j; omega
      refine ⟨n i, mem_rngI.2 ⟨hi, by omega⟩, (mem_srch s hs d _ _ _ n).2 ⟨fun j hj => ?_, fun j a b => h2 j (by omega) (by omega), by omega, h4⟩⟩
      simp only [updN]
      by_cases hj2 : j = i
      · simp [hj2]
      · rw [if_neg hj2]; exact h1 j (by omega)
theorem listOf_len (n : Nat → Int) (k : Nat) : (listOf n k).length = k := by simp [listOf]
theorem listOf_get (n : Nat → Int) (k i : Nat) : (listOf n k).getD i 0 = if i < k then n i else 0 := by
  rw [List.getD_eq_getElem?_getD]
  simp only [listOf, List.getElem?_map]
  by_cases h : i < k
  · simp [h]
  · rw [List.getElem?_eq_none (by simp; omega)]; simp [h]
theorem listOf_fn (l : List Int) : listOf (fnOf l) l.length = l := by
  apply List.ext_getElem (by simp [listOf])
  intro i h1 h2
  simp [listOf, fnOf, List.getD_eq_getElem?_getD, h2]
theorem ltS_iff : ∀ (l m : List Int), l.length = m.length → (ltS l m = false ↔ ∀ i, i < l.length → m.getD i 0 ≤ l.getD i 0)
  | [], [], _ => by simp [ltS]
  | x :: l, y :: m, h => by
    simp only [List.length_cons, Nat.add_right_cancel_iff] at h
    simp only [ltS, Bool.or_eq_false_iff, decide_eq_false_iff_not, ltS_iff l m h, List.length_cons]
    constructor
    · rintro ⟨h1, h2⟩ i hi
      cases i with
      | zero => simp; omega
      | succ i => simpa using h2 i (by omega)
    · intro h1
      refine ⟨by have := h1 0 (by omega); simp at this; omega, fun i hi => by simpa using h1 (i + 1) (by omega)⟩
  | [], _ :: _, h => by simp at h
  | _ :: _, [], h => by simp at h
/-- What is known of a sack that is as defined. -/
structure Sk.Good (s : Sk) : Prop where
  sh1 : 1 ≤ s.sh
  sh2 : s.sh ≤ 10
  l1 : 1 ≤ s.sorts.length
  l2 : s.sorts.length ≤ 3
  le : s.seen.length = s.sorts.length
  seen : ∀ j, 0 ≤ s.seenF j
  sum : s.seen.sum ≤ s.sh
  bl : ∀ x ∈ s.sorts, 0 ≤ x.1 ∧ x.1 ≤ 20
theorem sum_nn : ∀ (l : List Int), (∀ x ∈ l, 0 ≤ x) → 0 ≤ l.sum
  | [], _ => by simp
  | y :: l, h => by
    have := h y List.mem_cons_self
    have := sum_nn l fun z hz => h z (List.mem_cons_of_mem _ hz)
    simp only [List.sum_cons]; omega
theorem seenW_iff {sh : Int} (h10 : sh ≤ 10) : ∀ (l : List Int) (a : Int), 0 ≤ a → a ≤ sh → (seenW sh l a = true ↔ (∀ x ∈ l, 0 ≤ x) ∧ a + l.sum ≤ sh)
  | [], a, _, h2 => by simp [seenW, h2]
  | x :: l, a, h1, h2 => by
    simp only [seenW, Bool.and_eq_true, decide_eq_true_eq, Bool.not_eq_true', decide_eq_false_iff_not, List.mem_cons, forall_eq_or_imp, List.sum_cons]
    have hnn := sum_nn l
    constructor
    · rintro ⟨⟨h3, h4⟩, h5, h6⟩
      rw [wr_id (by omega) (by omega)] at h5 h6
      obtain ⟨h7, h8⟩ := (seenW_iff h10 l (a + x) (by omega) (by omega)).1 h6
      exact ⟨⟨h3, h7⟩, by omega⟩
    · rintro ⟨⟨h3, h7⟩, h8⟩
      have := hnn h7
      rw [wr_id (by omega) (by omega)]
      exact ⟨⟨h3, by omega⟩, by omega, (seenW_iff h10 l (a + x) (by omega) (by omega)).2 ⟨h7, by omega⟩⟩
theorem rLoop_iff {sh : Int} (h10 : sh ≤ 10) : ∀ (l : List (Int × Int × Int)) (m : List Int) (a : Int), l.length = m.length → 0 ≤ a → a ≤ sh → (rLoop l m a = true ↔ (l.map c3).any bad3 = false ∧ (∀ x ∈ m, 0 ≤ x) ∧ m.sum ≤ a)
  | [], [], a, _, h1, _ => by simp [rLoop, h1]
  | x :: l, y :: m, a, h, h1, h2 => by
    simp only [List.length_cons, Nat.add_right_cancel_iff] at h
    have hb : bad3 (c3 x) = badSort x.1 x.2.1 x.2.2 := rfl
    simp only [rLoop, Bool.and_eq_true, decide_eq_true_eq, Bool.not_eq_true', List.map_cons, List.any_cons, hb, Bool.or_eq_false_iff, List.mem_cons, forall_eq_or_imp, List.sum_cons]
    have hnn := sum_nn m
    constructor
    · rintro ⟨h3, ⟨h4, h5⟩, h6⟩
      rw [wr_id (by omega) (by omega)] at h6
      obtain ⟨h7, h8, h9⟩ := (rLoop_iff h10 l m (a - y) h (by omega) (by omega)).1 h6
      exact ⟨⟨h3, h7⟩, ⟨h4, h8⟩, by omega⟩
    · rintro ⟨⟨h3, h7⟩, ⟨h4, h8⟩, h9⟩
      have := hnn h8
      rw [wr_id (by omega) (by omega)]
      exact ⟨h3, ⟨h4, by omega⟩, (rLoop_iff h10 l m (a - y) h (by omega) (by omega)).2 ⟨h7, h8, by omega⟩⟩
  | [], _ :: _, _, h, _, _ => by simp at h
  | _ :: _, [], _, h, _, _ => by simp at h
/-- The program and the reference agree on which sacks are as defined. -/
theorem Sk.rok_ok (s : Sk) : s.rok = s.ok := by
  rw [Bool.eq_iff_iff]
  simp only [Sk.rok, Sk.ok, Bool.and_eq_true, decide_eq_true_eq, Bool.not_eq_true']
  constructor
  · rintro ⟨⟨a1, a2⟩, ⟨b1, b2⟩, c, d, e, f⟩
    obtain ⟨h1, h2, h3⟩ := (rLoop_iff a2 _ _ _ (by omega) (by omega) (Int.le_refl _)).1 f
    exact ⟨(seenW_iff a2 _ _ (by omega) (by omega)).2 ⟨h2, by omega⟩, ⟨a1, a2⟩, ⟨b1, b2⟩, c, d, e, h1⟩
  · rintro ⟨g, ⟨a1, a2⟩, ⟨b1, b2⟩, c, d, e, f⟩
    obtain ⟨h1, h2⟩ := (seenW_iff a2 _ _ (by omega) (by omega)).1 g
    exact ⟨⟨a1, a2⟩, ⟨b1, b2⟩, c, d, e, (rLoop_iff a2 _ _ _ (by omega) (by omega) (Int.le_refl _)).2 ⟨f, h1, by omega⟩⟩
theorem Sk.good {s : Sk} (h : s.ok = true) : s.Good := by
  simp only [Sk.ok, Bool.and_eq_true, decide_eq_true_eq, Bool.not_eq_true'] at h
  obtain ⟨g, ⟨a1, a2⟩, ⟨b1, b2⟩, c, d, e, f⟩ := h
  obtain ⟨h1, h2⟩ := (seenW_iff a2 _ _ (by omega) (by omega)).1 g
  refine ⟨a1, a2, by omega, by omega, by omega, fun j => ?_, by omega, fun x hx => ?_⟩
  · unfold Sk.seenF
    rw [List.getD_eq_getElem?_getD]
    cases hj : s.seen[j]? with
    | none => simp
    | some x => exact h1 x (List.mem_of_getElem? hj)
  · rw [List.any_eq_false] at f
    have := f (c3 x) (List.mem_map_of_mem hx)
    have hb : bad3 (c3 x) = badSort x.1 x.2.1 x.2.2 := rfl
    rw [hb] at this
    simp [badSort] at this
    omega
theorem Sk.mem_truths {s : Sk} {seen : Nat → Int} (hs : ∀ j, 0 ≤ seen j) {n : Nat → Int} : n ∈ s.truths seen ↔ (∀ j, s.sorts.length ≤ j → n j = 0) ∧ (∀ j, j < s.sorts.length → seen j ≤ n j) ∧ sumF n 0 s.sorts.length = s.sh ∧ s.weighs n = true := by
  rw [Sk.truths, mem_srch s hs]
  constructor
  · rintro ⟨h1, h2, h3⟩
    exact ⟨fun j hj => h1 j (by omega), fun j hj => h2 j (by omega) (by omega), h3⟩
  · rintro ⟨h1, h2, h3⟩
    exact ⟨fun j hj => h1 j (by omega), fun j a b => h2 j (by omega), h3⟩
theorem Sk.mem_rtruths {s : Sk} {l : List Int} : l ∈ s.rtruths ↔ l.length = s.sorts.length ∧ (∀ x ∈ l, 0 ≤ x ∧ x ≤ s.sh) ∧ s.rholds l = true := by
  rw [Sk.rtruths, List.mem_filter, mem_allL, and_assoc]
theorem fnOf_list {n : Nat → Int} {k : Nat} (h : ∀ j, k ≤ j → n j = 0) : fnOf (listOf n k) = n := by
  funext i
  show (listOf n k).getD i 0 = _
  rw [listOf_get]
  split
  · rfl
  · exact (h i (by omega)).symm
/-- The program and the reference have the same truths. -/
theorem Sk.rholds_iff {s : Sk} (g : s.Good) {l : List Int} (hl : l.length = s.sorts.length) (hx : ∀ x ∈ l, 0 ≤ x ∧ x ≤ s.sh) : s.rholds l = true ↔ fnOf l ∈ s.truths s.seenF := by
  have hsh := g.sh2
  have hl3 := g.l2
  rw [Sk.mem_truths g.seen]
  simp only [Sk.rholds, Bool.and_eq_true, Bool.not_eq_true', decide_eq_true_eq]
  rw [ltS_iff _ _ (by rw [hl, g.le]), sumW_eq l 0 (by omega) (fun x hq => by have := hx x hq; omega) (by omega), Int.zero_add, hl, sumF_list, ← hl, listOf_fn, hl]
  constructor
  · rintro ⟨h1, h2, h3⟩
    refine ⟨fun j hj => ?_, h1, h2, h3⟩
    show l.getD j 0 = 0
    rw [List.getD_eq_getElem?_getD, List.getElem?_eq_none (by omega)]; rfl
  · rintro ⟨_, h1, h2, h3⟩
    exact ⟨h1, h2, h3⟩
theorem Sk.truth_bounds {s : Sk} (g : s.Good) {n : Nat → Int} (h : n ∈ s.truths s.seenF) (i : Nat) : 0 ≤ n i ∧ n i ≤ s.sh := by
  obtain ⟨h1, h2, h3, _⟩ := (Sk.mem_truths g.seen).1 h
  by_cases hi : i < s.sorts.length
  · have h4 := h2 i hi
    have h5 := g.seen i
    refine ⟨by omega, ?_⟩
    rw [← h3]
    exact sumF_one _ _ _ (fun j _ hj => by have := h2 j (by omega); have := g.seen j; omega) (by omega) (by omega)
  · rw [h1 i (by omega)]; have := g.sh1; omega
theorem Sk.same_truths {s : Sk} (g : s.Good) {n : Nat → Int} : n ∈ s.truths s.seenF ↔ ∃ l ∈ s.rtruths, n = fnOf l := by
  constructor
  · intro h
    have hb := Sk.truth_bounds g h
    obtain ⟨h1, _⟩ := (Sk.mem_truths g.seen).1 h
    have hf := fnOf_list h1
    have hxx : ∀ x ∈ listOf n s.sorts.length, 0 ≤ x ∧ x ≤ s.sh := fun x hx => by
      simp only [listOf, List.mem_map] at hx
      obtain ⟨i, _, rfl⟩ := hx
      exact hb i
    refine ⟨listOf n s.sorts.length, Sk.mem_rtruths.2 ⟨listOf_len _ _, hxx, (Sk.rholds_iff g (listOf_len _ _) hxx).2 (by rw [hf]; exact h)⟩, hf.symm⟩
  · rintro ⟨l, hl, rfl⟩
    obtain ⟨h1, h2, h3⟩ := Sk.mem_rtruths.1 hl
    exact (Sk.rholds_iff g h1 h2).1 h3
/-- The ends of numbers. -/
def IsEnds (T : List (Nat → Int)) (g : (Nat → Int) → Int) (p : Int × Int) : Prop := (∃ n ∈ T, g n = p.1) ∧ (∃ n ∈ T, g n = p.2) ∧ ∀ n ∈ T, p.1 ≤ g n ∧ g n ≤ p.2
theorem IsEnds.uniq {T : List (Nat → Int)} {g : (Nat → Int) → Int} {p q : Int × Int} (hp : IsEnds T g p) (hq : IsEnds T g q) : p = q := by
  obtain ⟨⟨a, ha, ha'⟩, ⟨b, hb, hb'⟩, hc⟩ := hp
  obtain ⟨⟨d, hd, hd'⟩, ⟨e, he, he'⟩, hf⟩ := hq
  have h1 := hc d hd; have h2 := hc e he; have h3 := hf a ha; have h4 := hf b hb
  exact Prod.ext (by omega) (by omega)
theorem ends_fold {g : (Nat → Int) → Int} : ∀ (l T : List (Nat → Int)) (a : Int × Int), IsEnds T g a → 0 ≤ a.1 → (∀ n ∈ l, 0 ≤ g n) → IsEnds (T ++ l) g (l.foldl (fun a n => endStep a (g n)) a)
  | [], T, a, h, _, _ => by simpa using h
  | n :: l, T, a, h, h0, hn => by
    rw [List.foldl_cons, show T ++ n :: l = (T ++ [n]) ++ l by simp]
    have hg := hn n List.mem_cons_self
    have e : endStep a (g n) = (min a.1 (g n), max a.2 (g n)) := by simp only [endStep]; rw [if_neg (by omega)]
    rw [e]
    refine ends_fold l (T ++ [n]) _ ?_ (by show 0 ≤ min a.1 (g n); omega) fun m hm => hn m (List.mem_cons_of_mem _ hm)
    obtain ⟨⟨b, hb, hb'⟩, ⟨d, hd, hd'⟩, hc⟩ := h
    refine ⟨?_, ?_, fun m hm => ?_⟩
    · by_cases hq : a.1 ≤ g n
      · exact ⟨b, by simp [hb], by show g b = min _ _; omega⟩
      · exact ⟨n, by simp, by show g n = min _ _; omega⟩
    · by_cases hq : g n ≤ a.2
      · exact ⟨d, by simp [hd], by show g d = max _ _; omega⟩
      · exact ⟨n, by simp, by show g n = max _ _; omega⟩
    · show min _ _ ≤ _ ∧ _ ≤ max _ _
      rcases List.mem_append.1 hm with hm | hm
      · have := hc m hm; omega
      · rw [List.mem_singleton] at hm; subst hm; omega
theorem endsOf_is {g : (Nat → Int) → Int} {l : List (Nat → Int)} (hne : l ≠ []) (hn : ∀ n ∈ l, 0 ≤ g n) : IsEnds l g (endsOf g l) := by
  cases l with
  | nil => exact absurd rfl hne
  | cons n l =>
    have hg := hn n List.mem_cons_self
    have e : endStep (-1, 0) (g n) = (g n, g n) := by
      simp only [endStep]; rw [if_pos (by show (-1 : Int) < 0; omega)]
      exact Prod.ext (by show min _ _ = _; omega) (by show max _ _ = _; omega)
    rw [endsOf, List.foldl_cons, e]
    refine ends_fold l [n] _ ⟨⟨n, by simp, rfl⟩, ⟨n, by simp, rfl⟩, fun m hm => ?_⟩ hg fun m hm => hn m (List.mem_cons_of_mem _ hm)
    rw [List.mem_singleton] at hm; subst hm; exact ⟨Int.le_refl _, Int.le_refl _⟩
/-- The ends, as the reference finds them. -/
def rendStep (a : Int × Int) (x : Int) : Int × Int := (min a.1 x, max a.2 x)
def rends (g : List Int → Int) (ll : List (List Int)) : Int × Int := ll.tail.foldl (fun a l => rendStep a (g l)) (g (ll.headD []), g (ll.headD []))
theorem rends_fold {g : (Nat → Int) → Int} : ∀ (l T : List (List Int)) (a : Int × Int), IsEnds (T.map fnOf) g a → IsEnds ((T ++ l).map fnOf) g (l.foldl (fun a l => rendStep a (g (fnOf l))) a)
  | [], T, a, h => by simpa using h
  | n :: l, T, a, h => by
    rw [List.foldl_cons, show T ++ n :: l = (T ++ [n]) ++ l by simp]
    refine rends_fold l (T ++ [n]) _ ?_
    obtain ⟨⟨b, hb, hb'⟩, ⟨d, hd, hd'⟩, hc⟩ := h
    rw [List.map_append]
    refine ⟨?_, ?_, fun m hm => ?_⟩
    · by_cases hq : a.1 ≤ g (fnOf n)
      · exact ⟨b, List.mem_append_left _ hb, by show g b = min _ _; omega⟩
      · exact ⟨fnOf n, List.mem_append_right _ (by simp), by show g (fnOf n) = min _ _; omega⟩
    · by_cases hq : g (fnOf n) ≤ a.2
      · exact ⟨d, List.mem_append_left _ hd, by show g d = max _ _; omega⟩
      · exact ⟨fnOf n, List.mem_append_right _ (by simp), by show g (fnOf n) = max _ _; omega⟩
    · show min _ _ ≤ _ ∧ _ ≤ max _ _
      rcases List.mem_append.1 hm with hm | hm
      · have := hc m hm; omega
      · simp only [List.map_cons, List.map_nil, List.mem_singleton] at hm; subst hm; omega
theorem rends_is {g : (Nat → Int) → Int} {ll : List (List Int)} (hne : ll ≠ []) : IsEnds (ll.map fnOf) g (rends (fun l => g (fnOf l)) ll) := by
  cases ll with
  | nil => exact absurd rfl hne
  | cons n l =>
    simp only [rends, List.tail_cons, List.headD_cons]
    refine rends_fold l [n] _ ⟨⟨fnOf n, by simp, rfl⟩, ⟨fnOf n, by simp, rfl⟩, fun m hm => ?_⟩
    simp only [List.map_cons, List.map_nil, List.mem_singleton] at hm; subst hm; exact ⟨Int.le_refl _, Int.le_refl _⟩
theorem IsEnds.congr {T U : List (Nat → Int)} {g : (Nat → Int) → Int} {p : Int × Int} (h : ∀ n, n ∈ T ↔ n ∈ U) (hp : IsEnds T g p) : IsEnds U g p := by
  obtain ⟨⟨b, hb, hb'⟩, ⟨d, hd, hd'⟩, hc⟩ := hp
  exact ⟨⟨b, (h b).1 hb, hb'⟩, ⟨d, (h d).1 hd, hd'⟩, fun m hm => hc m ((h m).2 hm)⟩
theorem Sk.truths_nil {s : Sk} (g : s.Good) : s.truths s.seenF = [] ↔ s.rtruths = [] := by
  constructor
  · intro h
    apply List.eq_nil_iff_forall_not_mem.2
    intro l hl
    have := (Sk.same_truths g).2 ⟨l, hl, rfl⟩
    rw [h] at this; cases this
  · intro h
    apply List.eq_nil_iff_forall_not_mem.2
    intro l hl
    obtain ⟨m, hm, _⟩ := (Sk.same_truths g).1 hl
    rw [h] at hm; cases hm
theorem Sk.ends_same {s : Sk} (g : s.Good) (hne : s.truths s.seenF ≠ []) (f : (Nat → Int) → Int) (hf : ∀ n ∈ s.truths s.seenF, 0 ≤ f n) : endsOf f (s.truths s.seenF) = rends (fun l => f (fnOf l)) s.rtruths := by
  refine (endsOf_is hne hf).uniq ((rends_is (g := f) fun h => hne ((Sk.truths_nil g).2 h)).congr fun n => ?_)
  rw [Sk.same_truths g]
  simp only [List.mem_map]
  exact ⟨fun ⟨l, h1, h2⟩ => ⟨l, h1, h2.symm⟩, fun ⟨l, h1, h2⟩ => ⟨l, h1, h2.symm⟩⟩
theorem blanks_bound {n : Nat → Int} (hn : ∀ j, 0 ≤ n j) : ∀ (l : List (Int × Int × Int)) (k : Nat) (a : Int), (∀ x ∈ l, 0 ≤ x.1 ∧ x.1 ≤ 20) → 0 ≤ a → a + 20 * sumF n k l.length ≤ 1000000 → 0 ≤ accW n (·.1) l k a ∧ accW n (·.1) l k a ≤ a + 20 * sumF n k l.length
  | [], k, a, _, h0, _ => by simp [accW, sumF, h0]
  | x :: l, k, a, hx, h0, hb => by
    have h1 := hx x List.mem_cons_self
    simp only [List.length_cons, sumF] at hb ⊢
    have h2 := sumF_nn (n := n) l.length (k + 1) fun j _ _ => hn j
    have h3 := hn k
    have h4 : 0 ≤ n k * x.1 := Int.mul_nonneg h3 h1.1
    have h5 : n k * x.1 ≤ n k * 20 := Int.mul_le_mul_of_nonneg_left h1.2 h3
    simp only [accW]
    rw [wr_id (x := n k * x.1) (by omega) (by omega), wr_id (by omega) (by omega)]
    have := blanks_bound hn l (k + 1) (a + n k * x.1) (fun y hy => hx y (List.mem_cons_of_mem _ hy)) (by omega) (by omega)
    omega
theorem Sk.blanks_range {s : Sk} (g : s.Good) {n : Nat → Int} (h : n ∈ s.truths s.seenF) : 0 ≤ s.blanks n ∧ s.blanks n ≤ 20 * s.sh := by
  obtain ⟨_, _, h3, _⟩ := (Sk.mem_truths g.seen).1 h
  have := blanks_bound (fun j => (Sk.truth_bounds g h j).1) s.sorts 0 0 g.bl (Int.le_refl _) (by rw [h3]; have := g.sh2; omega)
  rw [h3] at this
  simp only [Sk.blanks]; omega
/-- The error of a sack, as the reference has it. -/
def Sk.rerr (s : Sk) : Int := if s.rok = true then (if s.rtruths = [] then 7 else 0) else 2
theorem Sk.err_same (s : Sk) : s.err = s.rerr := by
  simp only [Sk.err, Sk.rerr, Sk.rok_ok]
  cases h : s.ok with
  | false => rfl
  | true =>
    simp only [if_true]
    have := Sk.truths_nil (Sk.good h)
    by_cases h2 : s.truths s.seenF = []
    · rw [if_pos h2, if_pos (this.1 h2)]
    · rw [if_neg h2, if_neg fun h3 => h2 (this.2 h3)]
theorem Sk.total_same {s : Sk} (h : s.err = 0) : s.total = rends (fun l => s.blanks (fnOf l)) s.rtruths := by
  have h' := h
  simp only [Sk.err] at h'
  split at h'
  · rename_i hok
    split at h'
    · cases h'
    · rename_i hne
      rw [Sk.total, if_pos h]
      exact Sk.ends_same (Sk.good hok) hne _ fun n hn => (Sk.blanks_range (Sk.good hok) hn).1
  · cases h'
theorem Sk.spans_same {s : Sk} (h : s.err = 0) : s.spans = (List.range s.sorts.length).map fun i => rends (fun l => l.getD i 0) s.rtruths := by
  have h' := h
  simp only [Sk.err] at h'
  split at h'
  · rename_i hok
    split at h'
    · cases h'
    · rename_i hne
      rw [Sk.spans, if_pos h]
      apply List.map_congr_left
      intro i _
      exact Sk.ends_same (Sk.good hok) hne _ fun n hn => (Sk.truth_bounds (Sk.good hok) hn i).1
  · cases h'
end Go.Proofs.Kn
/-
  What is true of the bounds of a sack: in plain words, with no program in sight.
-/
namespace Go.Proofs.Kn
open Go Go.Ev
/-- Another sack, that was looked at otherwise. -/
structure Sk.Like (s t : Sk) : Prop where
  sh : t.sh = s.sh
  wt : t.wt = s.wt
  off : t.off = s.off
  sorts : t.sorts = s.sorts
theorem Sk.Like.weighs {s t : Sk} (k : s.Like t) (n : Nat → Int) : t.weighs n = s.weighs n := by simp only [Sk.weighs, k.wt, k.off, k.sorts]
theorem Sk.Like.ok {s t : Sk} (k : s.Like t) (h : s.ok = true) : t.ok = true ↔ t.seen.length = s.sorts.length ∧ (∀ x ∈ t.seen, 0 ≤ x) ∧ t.seen.sum ≤ s.sh := by
  simp only [Sk.ok, Bool.and_eq_true, decide_eq_true_eq, Bool.not_eq_true', k.sh, k.wt, k.off, k.sorts] at h ⊢
  obtain ⟨g, ⟨a1, a2⟩, b, c, d, e, f⟩ := h
  rw [seenW_iff a2 _ _ (by omega) (by omega), Int.zero_add]
  constructor
  · rintro ⟨h1, _, _, h2, _⟩; exact ⟨by omega, h1⟩
  · rintro ⟨h1, h2⟩; exact ⟨h2, ⟨a1, a2⟩, b, by omega, d, e, f⟩
theorem Sk.Like.truths {s t : Sk} (k : s.Like t) (_hs : ∀ j, 0 ≤ s.seenF j) (ht : ∀ j, 0 ≤ t.seenF j) {n : Nat → Int} : n ∈ t.truths t.seenF ↔ (∀ j, s.sorts.length ≤ j → n j = 0) ∧ (∀ j, j < s.sorts.length → t.seenF j ≤ n j) ∧ sumF n 0 s.sorts.length = s.sh ∧ s.weighs n = true := by
  rw [Sk.mem_truths ht, k.sorts, k.sh, k.weighs]
theorem sumF_mono {n m : Nat → Int} : ∀ (d i : Nat), (∀ j, i ≤ j → j < i + d → n j ≤ m j) → sumF n i d ≤ sumF m i d
  | 0, _, _ => by simp [sumF]
  | d + 1, i, h => by
    have h1 := h i (Nat.le_refl _) (by omega)
    have h2 := sumF_mono d (i + 1) fun j a b => h j (by omega) (by omega)
    simp only [sumF]; omega
theorem sum_fn (l : List Int) : l.sum = sumF (fnOf l) 0 l.length := by rw [sumF_list, listOf_fn]
theorem set_getD (l : List Int) (i j : Nat) (x : Int) (hi : i < l.length) : (l.set i x).getD j 0 = if j = i then x else l.getD j 0 := by
  rw [List.getD_eq_getElem?_getD, List.getElem?_set, List.getD_eq_getElem?_getD]
  by_cases h : i = j
  · subst h; simp [hi]
  · rw [if_neg h, if_neg (Ne.symm h)]
theorem Sk.err_0 {s : Sk} : s.err = 0 ↔ s.ok = true ∧ s.truths s.seenF ≠ [] := by
  simp only [Sk.err]
  split
  · rename_i h
    split
    · rename_i h2; simp [h2]
    · rename_i h2; simp [h2, h]
  · rename_i h; simp [h]
theorem Sk.total_ends {s : Sk} (h : s.err = 0) : IsEnds (s.truths s.seenF) s.blanks s.total := by
  obtain ⟨h1, h2⟩ := Sk.err_0.1 h
  rw [Sk.total, if_pos h]
  exact endsOf_is h2 fun n hn => (Sk.blanks_range (Sk.good h1) hn).1
theorem Sk.spans_ends {s : Sk} (h : s.err = 0) {i : Nat} (hi : i < s.sorts.length) : ∃ p, s.spans[i]? = some p ∧ IsEnds (s.truths s.seenF) (fun n => n i) p := by
  obtain ⟨h1, h2⟩ := Sk.err_0.1 h
  refine ⟨endsOf (fun n => n i) (s.truths s.seenF), ?_, endsOf_is h2 fun n hn => (Sk.truth_bounds (Sk.good h1) hn i).1⟩
  rw [Sk.spans, if_pos h]
  simp [hi]
theorem Sk.spans_len {s : Sk} (h : s.err = 0) : s.spans.length = s.sorts.length := by rw [Sk.spans, if_pos h]; simp
theorem Sk.holds_truth {s : Sk} (h : s.ok = true) {l : List Int} (hn : s.numbers l = true) : s.holds l = true ↔ fnOf l ∈ s.truths s.seenF := by
  have hn' := hn
  simp only [Sk.numbers, Bool.and_eq_true, Bool.not_eq_true', decide_eq_true_eq, List.any_eq_false, notIn] at hn'
  have ha : s.asks l = true := by
    simp only [Sk.numbers, Bool.and_eq_true] at hn
    simp only [Sk.asks, h, hn.1, hn.2, Bool.and_self]
  rw [← Sk.rholds_iff (Sk.good h) (by omega) (fun x hx => by have := hn'.1 x hx; simp at this; omega)]
  simp only [Sk.holds, ha, Bool.true_and, Sk.rholds]
/-- As many of a sort were seen as there are at most: the sack is possible still. -/
theorem Sk.Like.most {s t : Sk} (k : s.Like t) (h : s.err = 0) {i : Nat} (hi : i < s.sorts.length) {p : Int × Int} (hp : s.spans[i]? = some p) (ht : t.seen = s.seen.set i p.2) : t.err = 0 := by
  obtain ⟨h1, h2⟩ := Sk.err_0.1 h
  have g := Sk.good h1
  obtain ⟨p', hp', he⟩ := Sk.spans_ends h hi
  rw [hp] at hp'
  cases hp'
  obtain ⟨_, ⟨n, hn, hnp⟩, _⟩ := he
  have hi' : i < s.seen.length := by rw [g.le]; exact hi
  have hF : ∀ j, t.seenF j = if j = i then p.2 else s.seenF j := fun j => by
    show t.seen.getD j 0 = _
    rw [ht, set_getD _ _ _ _ hi']; rfl
  obtain ⟨m1, m2, m3, m4⟩ := (Sk.mem_truths g.seen).1 hn
  have hle : ∀ j, j < s.sorts.length → t.seenF j ≤ n j := fun j hj => by
    rw [hF]; split
    · rename_i hq; subst hq; have : n j = p.2 := hnp; omega
    · exact m2 j hj
  have ht0 : ∀ j, 0 ≤ t.seenF j := fun j => by
    rw [hF]; split
    · have := (Sk.truth_bounds g hn i).1; have : n i = p.2 := hnp; omega
    · exact g.seen j
  have hlen : t.seen.length = s.sorts.length := by rw [ht, List.length_set, g.le]
  have hok : t.ok = true := by
    refine (k.ok h1).2 ⟨hlen, fun x hx => ?_, ?_⟩
    · obtain ⟨j, hj, rfl⟩ := List.mem_iff_getElem.1 hx
      have := ht0 j
      simp only [Sk.seenF, List.getD_eq_getElem?_getD, List.getElem?_eq_getElem hj, Option.getD_some] at this
      exact this
    · rw [sum_fn, hlen, ← m3]
      exact sumF_mono _ _ fun j _ hj => hle j (by omega)
  exact Sk.err_0.2 ⟨hok, List.ne_nil_of_mem ((k.truths g.seen ht0).2 ⟨m1, hle, m3, m4⟩)⟩
/-- One more was seen than there are at most: it is not. -/
theorem Sk.Like.over {s t : Sk} (k : s.Like t) (h : s.err = 0) {i : Nat} (hi : i < s.sorts.length) {p : Int × Int} (hp : s.spans[i]? = some p) (ht : t.seen = s.seen.set i (p.2 + 1)) : t.err ≠ 0 := by
  intro h0
  obtain ⟨h1, h2⟩ := Sk.err_0.1 h
  obtain ⟨q1, q2⟩ := Sk.err_0.1 h0
  have g := Sk.good h1
  obtain ⟨p', hp', he⟩ := Sk.spans_ends h hi
  rw [hp] at hp'
  cases hp'
  obtain ⟨_, _, hend⟩ := he
  have hi' : i < s.seen.length := by rw [g.le]; exact hi
  have hF : ∀ j, t.seenF j = if j = i then p.2 + 1 else s.seenF j := fun j => by
    show t.seen.getD j 0 = _
    rw [ht, set_getD _ _ _ _ hi']; rfl
  obtain ⟨n, hn⟩ := List.exists_mem_of_ne_nil _ q2
  obtain ⟨m1, m2, m3, m4⟩ := (k.truths g.seen (Sk.good q1).seen).1 hn
  have hpi : s.seenF i ≤ p.2 := by
    obtain ⟨n', hn'⟩ := List.exists_mem_of_ne_nil _ h2
    have a1 := ((Sk.mem_truths g.seen).1 hn').2.1 i hi
    have a2 := (hend n' hn').2
    simp only at a2
    omega
  have hns : n ∈ s.truths s.seenF := (Sk.mem_truths g.seen).2 ⟨m1, fun j hj => by
    have := m2 j hj
    rw [hF] at this
    split at this
    · rename_i hq; subst hq; omega
    · exact this, m3, m4⟩
  have a1 := (hend n hns).2
  have a2 := m2 i hi
  rw [hF, if_pos rfl] at a2
  simp only at a1
  omega
end Go.Proofs.Kn
namespace Go.Proofs.Kn
open Go Go.Ev
set_option maxRecDepth 100000
abbrev cc (ll : List (List Int)) : List (List (List Value)) := ll.map (List.map c1)
theorem bs97 (h : Hp) {a : AV} (hc : cellsOf a = [a]) : aoBuildSlice tb h 97 1 [(0, a)] = some (.sl h.n 0 1 1, h.new (.cells [a] 23)) :=
  bs_of tg97 rfl tg23 rfl rfl (by omega) (by omega) (by simp [fillA, hc, repl, te23]; rfl)
theorem bs97n (h : Hp) : aoBuildSlice tb h 97 1 [(0, .val (.slice none 0 0))] = some (.sl h.n 0 1 1, h.new (.cells [.val (.slice none 0 0)] 23)) := bs97 h rfl
theorem bs97s (h : Hp) (b o n z : Nat) : aoBuildSlice tb h 97 1 [(0, .sl b o n z)] = some (.sl h.n 0 1 1, h.new (.cells [.sl b o n z] 23)) := bs97 h rfl
theorem bs23 (h : Hp) (n : Int) : aoBuildSlice tb h 23 1 [(0, iv n)] = some (.sl h.n 0 1 1, h.new (.cells [iv n] 3)) := by kernel_rfl
theorem c1_sz {l : List Int} : ∀ c ∈ l.map c1, c.length = 1 := by
  intro c hc; obtain ⟨x, _, rfl⟩ := List.mem_map.1 hc; rfl
theorem c1_flat : ∀ (l : List Int), (l.map c1).flatten.map AV.val = l.map iv
  | [] => rfl
  | x :: l => by rw [List.map_cons, List.flatten_cons, List.map_append, c1_flat l]; rfl
theorem extL_succ (sh : Int) (ll : List (List Int)) {j : Nat} {l : List Int} (hl : ll[j]? = some l) : extL sh (ll.take (j + 1)) = extL sh (ll.take j) ++ (rngI 0 sh).map fun n => l ++ [n] := by
  rw [List.take_add_one, hl]
  simp [extL, List.flatMap_append]
theorem len_ext (sh : Int) (hs : 0 ≤ sh) (hs2 : sh ≤ 10) : ∀ (ll : List (List Int)), (extL sh ll).length = ll.length * (sh + 1).toNat
  | [] => by simp [extL]
  | l :: ll => by
    have := len_ext sh hs hs2 ll
    simp only [extL] at this
    simp only [extL, List.flatMap_cons, List.length_append, this, List.length_map, List.length_cons, Nat.add_mul]
    simp [rngI]; omega
theorem len_all (sh : Int) (hs : 0 ≤ sh) (hs2 : sh ≤ 10) : ∀ (k : Nat), k ≤ 3 → (allL sh k).length ≤ 1331
  | 0, _ => by simp [allL]
  | 1, _ => by simp only [allL, len_ext sh hs hs2, List.length_cons, List.length_nil]; omega
  | 2, _ => by
    have h : (sh + 1).toNat ≤ 11 := by omega
    have : (sh + 1).toNat * (sh + 1).toNat ≤ 11 * 11 := Nat.mul_le_mul h h
    simp only [allL, len_ext sh hs hs2, List.length_cons, List.length_nil, Nat.zero_add, Nat.one_mul]; omega
  | 3, _ => by
    have h : (sh + 1).toNat ≤ 11 := by omega
    have h1 : (sh + 1).toNat * (sh + 1).toNat ≤ 11 * 11 := Nat.mul_le_mul h h
    have : (sh + 1).toNat * (sh + 1).toNat * (sh + 1).toNat ≤ 11 * 11 * 11 := Nat.mul_le_mul h1 h
    simp only [allL, len_ext sh hs hs2, List.length_cons, List.length_nil, Nat.zero_add, Nat.one_mul]; omega
  | k + 4, h => by omega
/-- One list more, made of a copy. -/
theorem ext_step (xt : Addr → Option Value) (h : Hp) (N j : Nat) (a v : AV) (l : List Int) (ll : List (List Int)) (n : Int) (hN : N ≤ h.n) (ha : RowAt xt h 1 a (l.map c1)) (hl : l.length ≤ 3) (hr : LRows xt h N 1 23 v (cc ll)) (hll : ll.length ≤ 100000) :
    ∃ v1 h1 h2 v3 h3, abuiltin Tryz.prog tb xt .append [23, 23] [.val (.slice none 0 0), a] h = some (v1, h1) ∧ abuiltin Tryz.prog tb xt .append [23, 23] [v1, .sl h1.n 0 1 1] (h1.new (.cells [iv n] 3)) = some (.sl (h1.n + 1) 0 (l.length + 1) 1, h2) ∧
      abuiltin Tryz.prog tb xt .append [97, 97] [v, .sl h2.n 0 1 1] (h2.new (.cells [.sl (h1.n + 1) 0 (l.length + 1) 1] 23)) = some (v3, h3) ∧ LRows xt h3 N 1 23 v3 (cc (ll ++ [l ++ [n]])) ∧ Fr N h h3 := by
  have hsrc := ha.src
  obtain ⟨v1, h1, p1, p2, p3, p4⟩ := append_copy (P := Tryz.prog) (xt := xt) (h := h) (x := a) (l := l.map c1) (N := h.n) (Nat.le_refl _) tg23 rfl tg3 rfl rfl tg23 rfl (by rw [c1_flat, List.length_map]; exact hsrc) c1_sz (by simp [te3]; omega) (by simp; omega)
  have p2' := p2.new (.cells [iv n] 3)
  rw [List.length_map] at p2'
  obtain ⟨h2, q1, q2, q3, q4, q5⟩ := p2'.append2 (P := Tryz.prog) (xt := xt) (x := .sl h1.n 0 1 1) (m := 1) (cz := [iv n]) (by simp [Hp.new_n]; have := p3.le; omega) tg23 rfl tg3 rfl rfl tg23 rfl (src_own (e := 3) (by simp [Hp.new_t, T.get_put]) rfl rfl) (by omega) rfl (by simp [te3]; omega) (by omega)
  have e2 : (h1.new (.cells [iv n] 3)).n = h1.n + 1 := rfl
  rw [e2] at q1 q2 q5
  have f1 : Fr h.n h h2 := p3.trans (((Fr.refl p3.lo).new (.cells [iv n] 3)).trans q3 (Nat.le_refl _)) (Nat.le_refl _)
  have f2 := f1.new (.cells [.sl (h1.n + 1) 0 (l.length + 1) 1] 23)
  have row : RowAt xt h2 1 (.sl (h1.n + 1) 0 (l.length + 1) 1) ((l ++ [n]).map c1) := by
    refine OwnSl.row (N := h.n) (e := 3) c1_sz (by omega) ?_
    rw [c1_flat, List.length_map, List.length_append, List.map_append]
    rw [c1_flat] at q2
    exact q2
  obtain ⟨v3, h3, r1, r2, r3, _⟩ := (hr.fr f2 (Nat.le_refl _)).append (P := Tryz.prog) (a := .sl (h1.n + 1) 0 (l.length + 1) 1) (x := .sl h2.n 0 1 1) (l := (l ++ [n]).map c1) (by simp [Hp.new_n]; have := f1.le; omega) tg97 rfl tg23 rfl rfl tg97 rfl
    (src_own (e := 23) (by simp [Hp.new_t, T.get_put]) rfl rfl) (row.new _) (fun b off k s hb off' k' s' hq => by
      have := hr.lt hq
      cases hb
      have := p3.le
      omega) (by simp [te23, cc]; omega) (by simp [cc]; omega)
  refine ⟨v1, h1, h2, v3, h3, p1, q1, r1, ?_, ((f2.lower hN).trans r3 (Nat.le_refl _))⟩
  simpa [cc] using r2
end Go.Proofs.Kn
namespace Go.Proofs.Kn
open Go Go.Ev
set_option maxRecDepth 100000
theorem ft45 (xt : Addr → Option Value) : (SE xt).ft.get 45 = some Tryz.f45 := by kernel_rfl
theorem res45 : Tryz.f45.results.toList = [.tmp 2] := by kernel_rfl
/-- What 'Truths' of the reference comes to. -/
def TruthsR (xt : Addr → Option Value) (s : Sk) (h : Hp) (r : CR) (h' : Hp) : Prop := ∃ v, r = .ret v ∧ Fr h.n h h' ∧ LRows xt h' h.n 1 23 v (cc s.rtruths)
theorem cc_get {ll : List (List Int)} {i : Nat} {l : List Int} (h : ll[i]? = some l) : (cc ll)[i]? = some (l.map c1) := by simp [cc, h]
theorem rtruths_c (xt : Addr → Option Value) (h : Hp) (s : Sk) (ha : s.At xt h) (hok : s.rok = true) : FnA (SE xt) 45 [s.av] h (TruthsR xt s h) := by
  have g := Sk.good (by rw [← Sk.rok_ok]; exact hok)
  have gs1 := g.sh1
  have gs2 := g.sh2
  have gl1 := g.l1
  have gl2 := g.l2
  have gle := g.le
  refine FnA.walk (sok xt) (ft45 xt) rfl 62 rfl ?_
  have ha1 := ha.new (.cells s.cells 25)
  have hlenS := fun h' => ha.sorts.len (h' := h') tg22 rfl
  simp only [List.length_map] at hlenS
  refine seq_reg fun K hn hp => ?_
  simp only [sy.down, argsTo, cellPut_some, Nat.reduceEqDiff, reduceIte, Nat.reduceLT, Nat.reduceAdd, Nat.reduceMul, Nat.reduceLeDiff]
  refine hn _ _ ?_
  clear hn hp K
  refine seq_reg fun K hn hp => ?_
  simp only [sy.down, argsTo, cellPut_some, Nat.reduceEqDiff, reduceIte, Nat.reduceLT, Nat.reduceAdd, Nat.reduceMul, Nat.reduceLeDiff, WOp_buildSlice, bs97n]
  refine hn _ _ ?_
  clear hn hp K
  refine seq_seq ?_
  refine seq_reg fun K hn hp => ?_
  simp only [sy.down, argsTo, cellPut_some, Nat.reduceEqDiff, reduceIte, Nat.reduceLT, Nat.reduceAdd, Nat.reduceMul, Nat.reduceLeDiff]
  refine hn _ _ ?_
  clear hn hp K
  refine seq_block fun K k1 k2 k3 k4 k5 => ?_
  obtain ⟨hb, hhb⟩ : ∃ hb : Hp, hb = (h.new (.cells s.cells 25)).new (.cells [.val (.slice none 0 0)] 23) := ⟨_, rfl⟩
  rw [← hhb]
  have hbn : hb.n = h.n + 2 := by rw [hhb]; rfl
  have qb0 : hb.t.get h.n = some (.cells s.cells 25) := by rw [hhb]; simp [Hp.new_t, Hp.new_n, T.get_put]
  have hab : s.At xt hb := by rw [hhb]; exact ha1.new _
  have frb : Fr h.n h hb := by rw [hhb]; exact ((Fr.refl (Nat.le_refl _)).new _).new _
  refine wpc_loop (sok xt) (fun st => ∃ (k : Nat) (v : AV) (tm : T AV) (hc : Hp), st = ⟨tm, 62, hc, []⟩ ∧ Fr (h.n + 1) hb hc ∧ k ≤ s.sorts.length ∧ tm.get 1 = some (.ptr h.n 0) ∧ tm.get 3 = some v ∧ tm.get 4 = some (iv k) ∧ LRows xt hc (h.n + 1) 1 23 v (cc (allL s.sh k)))
    (fun st => s.sorts.length - (match st.tm.get 4 with | some (.val (.int _ n)) => n.toNat | _ => 0)) ?_ ?_
  · rintro st ⟨k, v, tm, hc, rfl, fr, hk, g1, g3, g4, rows⟩
    have hlo := fr.lo
    have hle := fr.le
    have q0 : hc.t.get h.n = some (.cells s.cells 25) := by rw [fr.at_ _ (by omega)]; exact qb0
    have hac : s.At xt hc := by
      have : s.At xt h := ha
      exact ⟨this.sorts.fr (frb.trans (fr.lower (Nat.le_succ _)) (Nat.le_refl _)) (Nat.le_refl _), this.seen.fr (frb.trans (fr.lower (Nat.le_succ _)) (Nat.le_refl _)) (Nat.le_refl _), this.ls, this.le⟩
    refine seq_seq ?_
    refine seq_reg fun K hn hp => ?_
    simp only [sy.down, argsTo, cellPut_some, Nat.reduceEqDiff, reduceIte, Nat.reduceLT, Nat.reduceAdd, Nat.reduceMul, Nat.reduceLeDiff, g1, g4, q0, hlenS]
    refine hn _ _ ?_
    clear hn hp K
    have ht : (decide ((k : Int) < (s.sorts.length : Int))) = decide (k < s.sorts.length) := by simp
    by_cases hlt : k < s.sorts.length
    · refine seq_cond true (by simp only [sy.down, argsTo, cellPut_some, Nat.reduceEqDiff, reduceIte, Nat.reduceLT, Nat.reduceAdd, Nat.reduceMul, Nat.reduceLeDiff, ht, hlt]) (fun _ => ?_) (fun hx => by cases hx)
      refine seq_skip ?_
      refine seq_block fun K' k1' k2' k3' k4' k5' => ?_
      refine seq_reg fun K hn hp => ?_
      simp only [sy.down, argsTo, cellPut_some, Nat.reduceEqDiff, reduceIte, Nat.reduceLT, Nat.reduceAdd, Nat.reduceMul, Nat.reduceLeDiff]
      refine hn _ _ ?_
      clear hn hp K
      refine seq_seq ?_
      refine seq_reg fun K hn hp => ?_
      simp only [sy.down, argsTo, cellPut_some, Nat.reduceEqDiff, reduceIte, Nat.reduceLT, Nat.reduceAdd, Nat.reduceMul, Nat.reduceLeDiff]
      refine hn _ _ ?_
      clear hn hp K
      refine seq_block fun Kb kb1 kb2 kb3 kb4 kb5 => ?_
      obtain ⟨AL, hAL⟩ : ∃ AL, AL = allL s.sh k := ⟨_, rfl⟩
      rw [← hAL] at rows
      have hALl : AL.length ≤ 1331 := by rw [hAL]; exact len_all s.sh (by omega) (by omega) k (by omega)
      have hALe : (extL s.sh AL).length ≤ 1331 := by
        have := len_all s.sh (by omega) (by omega) (k + 1) (by omega)
        rw [hAL]; exact this
      have hALm : ∀ l ∈ AL, l.length = k := fun l hl => by rw [hAL] at hl; exact (mem_allL.1 hl).1
      refine wpc_loop (sok xt) (fun st => ∃ (j : Nat) (v5 : AV) (tm : T AV) (hd : Hp), st = ⟨tm, 62, hd, []⟩ ∧ Fr hc.n hc hd ∧ j ≤ AL.length ∧ tm.get 1 = some (.ptr h.n 0) ∧ tm.get 3 = some v ∧ tm.get 4 = some (iv k) ∧ tm.get 5 = some v5 ∧ tm.get 6 = some (iv j) ∧ LRows xt hd hc.n 1 23 v5 (cc (extL s.sh (AL.take j))))
        (fun st => AL.length - (match st.tm.get 6 with | some (.val (.int _ n)) => n.toNat | _ => 0)) ?_ ?_
      · rintro st ⟨j, v5, tmj, hd, rfl, frd, hj, j1, j3, j4, j5, j6, rows5⟩
        have hlod := frd.lo
        have rowsd := rows.fr frd (Nat.le_refl _)
        have hlenA := fun h' => rowsd.len (h' := h') tg97 rfl
        simp only [cc, List.length_map] at hlenA
        have q0d : hd.t.get h.n = some (.cells s.cells 25) := by rw [frd.at_ _ (by omega)]; exact q0
        refine seq_seq ?_
        refine seq_reg fun K hn hp => ?_
        simp only [sy.down, argsTo, cellPut_some, Nat.reduceEqDiff, reduceIte, Nat.reduceLT, Nat.reduceAdd, Nat.reduceMul, Nat.reduceLeDiff, j3, j6, hlenA]
        refine hn _ _ ?_
        clear hn hp K
        have htj : (decide ((j : Int) < (AL.length : Int))) = decide (j < AL.length) := by simp
        by_cases hjt : j < AL.length
        · obtain ⟨l, hl⟩ : ∃ l, AL[j]? = some l := ⟨_, List.getElem?_eq_getElem hjt⟩
          have hll := hALm l (List.mem_of_getElem? hl)
          refine seq_cond true (by simp only [sy.down, argsTo, cellPut_some, Nat.reduceEqDiff, reduceIte, Nat.reduceLT, Nat.reduceAdd, Nat.reduceMul, Nat.reduceLeDiff, htj, hjt]) (fun _ => ?_) (fun hx => by cases hx)
          refine seq_skip ?_
          refine seq_block fun Kc kc1 kc2 kc3 kc4 kc5 => ?_
          refine seq_reg fun K hn hp => ?_
          simp only [sy.down, argsTo, cellPut_some, Nat.reduceEqDiff, reduceIte, Nat.reduceLT, Nat.reduceAdd, Nat.reduceMul, Nat.reduceLeDiff]
          refine hn _ _ ?_
          clear hn hp K
          refine wpc_block fun Kd kd1 kd2 kd3 kd4 kd5 => ?_
          refine wpc_loop (sok xt) (fun st => ∃ (n : Nat) (v5 : AV) (tm : T AV) (he : Hp), st = ⟨tm, 62, he, []⟩ ∧ Fr hc.n hc he ∧ (n : Int) ≤ s.sh + 1 ∧ tm.get 1 = some (.ptr h.n 0) ∧ tm.get 3 = some v ∧ tm.get 4 = some (iv k) ∧ tm.get 5 = some v5 ∧ tm.get 6 = some (iv j) ∧ tm.get 7 = some (iv n) ∧
              LRows xt he hc.n 1 23 v5 (cc (extL s.sh (AL.take j) ++ (List.range n).map fun (m : Nat) => l ++ [(m : Int)])))
            (fun st => (s.sh + 1).toNat - (match st.tm.get 7 with | some (.val (.int _ n)) => n.toNat | _ => 0)) ?_ ?_
          · rintro st ⟨n, v5, tmn, he, rfl, fre, hn1, n1, n3, n4, n5, n6, n7, rowse⟩
            have hloe := fre.lo
            have q0e : he.t.get h.n = some (.cells s.cells 25) := by rw [fre.at_ _ (by omega)]; exact q0
            refine seq_seq ?_
            refine seq_reg fun K hn hp => ?_
            simp only [sy.down, argsTo, cellPut_some, Nat.reduceEqDiff, reduceIte, Nat.reduceLT, Nat.reduceAdd, Nat.reduceMul, Nat.reduceLeDiff, n1, n7, q0e]
            refine hn _ _ ?_
            clear hn hp K
            by_cases hnt : (n : Int) ≤ s.sh
            · refine seq_cond true (by simp only [sy.down, argsTo, cellPut_some, Nat.reduceEqDiff, reduceIte, Nat.reduceLT, Nat.reduceAdd, Nat.reduceMul, Nat.reduceLeDiff, hnt]) (fun _ => ?_) (fun hx => by cases hx)
              refine seq_skip ?_
              refine seq_block fun Ke ke1 ke2 ke3 ke4 ke5 => ?_
              obtain ⟨b, a, cs, z1, z2, z3, z4, z5, _, _⟩ := (rows.fr fre (Nat.le_refl _)).at_ tg97 rfl tg23 rfl (cc_get hl) (k := .i64)
              have hlenr : (extL s.sh (AL.take j) ++ (List.range n).map fun (m : Nat) => l ++ [(m : Int)]).length ≤ 2000 := by
                have e1 : (extL s.sh (AL.take j)).length ≤ 1331 := by
                  rw [len_ext s.sh (by omega) (by omega)] at hALe ⊢
                  refine Nat.le_trans (Nat.mul_le_mul_right _ ?_) hALe
                  rw [List.length_take]; omega
                simp only [List.length_append, List.length_map, List.length_range]; omega
              obtain ⟨v1, h1, h2, v3, h3, p1, p2, p3, p4, p5⟩ := ext_step xt he hc.n j a v5 l _ n fre.lo z4 (by omega) rowse (by omega)
              refine reg fun K1 hn hp => ?_
              simp only [sy.down, argsTo, cellPut_some, Nat.reduceEqDiff, reduceIte, Nat.reduceLT, Nat.reduceAdd, Nat.reduceMul, Nat.reduceLeDiff, n1, n3, n5, n6, n7, z1, z2, z3, WOp_buildSlice, p1, bs23, p2, bs97s, p3]
              refine hn _ _ (ke1 _ ?_)
              clear hn hp K1
              refine reg fun K1 hn hp => ?_
              have hw : IntKind.i64.wrap ((n : Int) + 1) = ((n + 1 : Nat) : Int) := by rw [wrap_i64 _ (by omega) (by omega)]; simp
              simp only [sy.down, argsTo, cellPut_some, Nat.reduceEqDiff, reduceIte, Nat.reduceLT, Nat.reduceAdd, Nat.reduceMul, Nat.reduceLeDiff, n7, hw]
              refine hn _ _ ?_
              refine ⟨⟨n + 1, v3, _, h3, rfl, fre.trans p5 (Nat.le_refl _), by omega, ?_, ?_, ?_, ?_, ?_, ?_, ?_⟩, ?_⟩
              · simp [T.get_put, n1]
              · simp [T.get_put, n3]
              · simp [T.get_put, n4]
              · simp [T.get_put]
              · simp [T.get_put, n6]
              · simp [T.get_put]
              · rw [List.range_succ, List.map_append, ← List.append_assoc]; exact p4
              · have hm : (s.sh + 1).toNat - (n + 1) < (s.sh + 1).toNat - n := by omega
                simpa [T.get_put, n7] using hm
            · refine seq_cond false (by simp only [sy.down, argsTo, cellPut_some, Nat.reduceEqDiff, reduceIte, Nat.reduceLT, Nat.reduceAdd, Nat.reduceMul, Nat.reduceLeDiff, hnt]) (fun hx => by cases hx) (fun _ => ?_)
              refine seq_exit (kd2 _ (kc1 _ ?_))
              have hnn : n = (s.sh + 1).toNat := by omega
              refine reg fun K1 hn hp => ?_
              have hw : IntKind.i64.wrap ((j : Int) + 1) = ((j + 1 : Nat) : Int) := by rw [wrap_i64 _ (by omega) (by omega)]; simp
              simp only [sy.down, argsTo, cellPut_some, Nat.reduceEqDiff, reduceIte, Nat.reduceLT, Nat.reduceAdd, Nat.reduceMul, Nat.reduceLeDiff, n6, hw]
              refine hn _ _ ?_
              refine ⟨⟨j + 1, v5, _, he, rfl, fre, hjt, ?_, ?_, ?_, ?_, ?_, ?_⟩, ?_⟩
              · simp [T.get_put, n1]
              · simp [T.get_put, n3]
              · simp [T.get_put, n4]
              · simp [T.get_put, n5]
              · simp [T.get_put]
              · have e : extL s.sh (AL.take (j + 1)) = extL s.sh (AL.take j) ++ (List.range n).map fun (m : Nat) => l ++ [(m : Int)] := by
                  rw [extL_succ s.sh AL hl, hnn]
                  simp [rngI]
                rw [e]; exact rowse
              · have hm : AL.length - (j + 1) < AL.length - j := by omega
                simpa [T.get_put, j6] using hm
          · refine ⟨0, v5, _, hd, rfl, frd, by omega, ?_, ?_, ?_, ?_, ?_, ?_, ?_⟩
            · simp [T.get_put, j1]
            · simp [T.get_put, j3]
            · simp [T.get_put, j4]
            · simp [T.get_put, j5]
            · simp [T.get_put, j6]
            · simp [T.get_put]
            · simpa using rows5
        · refine seq_cond false (by simp only [sy.down, argsTo, cellPut_some, Nat.reduceEqDiff, reduceIte, Nat.reduceLT, Nat.reduceAdd, Nat.reduceMul, Nat.reduceLeDiff, htj, hjt]) (fun hx => by cases hx) (fun _ => ?_)
          refine seq_exit (kb2 _ ?_)
          have hjj : j = AL.length := by omega
          subst hjj
          rw [List.take_length] at rows5
          refine reg fun K1 hn hp => ?_
          simp only [sy.down, argsTo, cellPut_some, Nat.reduceEqDiff, reduceIte, Nat.reduceLT, Nat.reduceAdd, Nat.reduceMul, Nat.reduceLeDiff, j5]
          refine hn _ _ (k1' _ ?_)
          clear hn hp K1
          refine reg fun K1 hn hp => ?_
          have hw : IntKind.i64.wrap ((k : Int) + 1) = ((k + 1 : Nat) : Int) := by rw [wrap_i64 _ (by omega) (by omega)]; simp
          simp only [sy.down, argsTo, cellPut_some, Nat.reduceEqDiff, reduceIte, Nat.reduceLT, Nat.reduceAdd, Nat.reduceMul, Nat.reduceLeDiff, j4, hw]
          refine hn _ _ ?_
          refine ⟨⟨k + 1, v5, _, hd, rfl, fr.trans frd (by omega), hlt, ?_, ?_, ?_, ?_⟩, ?_⟩
          · simp [T.get_put, j1]
          · simp [T.get_put]
          · simp [T.get_put]
          · have e : allL s.sh (k + 1) = extL s.sh AL := by rw [hAL]; rfl
            rw [e]; exact rows5.weaken (by omega)
          · have hm : s.sorts.length - (k + 1) < s.sorts.length - k := by omega
            simpa [T.get_put, g4] using hm
      · refine ⟨0, .val (.slice none 0 0), _, hc, rfl, Fr.refl (Nat.le_refl _), Nat.zero_le _, ?_, ?_, ?_, ?_, ?_, ?_⟩
        · simp [T.get_put, g1]
        · simp [T.get_put, g3]
        · simp [T.get_put, g4]
        · simp [T.get_put]
        · simp [T.get_put]
        · exact LRows.nil
    · refine seq_cond false (by simp only [sy.down, argsTo, cellPut_some, Nat.reduceEqDiff, reduceIte, Nat.reduceLT, Nat.reduceAdd, Nat.reduceMul, Nat.reduceLeDiff, ht, hlt]) (fun hx => by cases hx) (fun _ => ?_)
      refine seq_exit (k2 _ ?_)
      have hkk : k = s.sorts.length := by omega
      subst hkk
      obtain ⟨AL, hAL⟩ : ∃ AL, AL = allL s.sh s.sorts.length := ⟨_, rfl⟩
      rw [← hAL] at rows
      have hALl : AL.length ≤ 1331 := by rw [hAL]; exact len_all s.sh (by omega) (by omega) _ (by omega)
      have hALm : ∀ l ∈ AL, l.length = s.sorts.length := fun l hl => by rw [hAL] at hl; exact (mem_allL.1 hl).1
      refine seq_reg fun K hn hp => ?_
      simp only [sy.down, argsTo, cellPut_some, Nat.reduceEqDiff, reduceIte, Nat.reduceLT, Nat.reduceAdd, Nat.reduceMul, Nat.reduceLeDiff]
      refine hn _ _ ?_
      clear hn hp K
      refine seq_seq ?_
      refine seq_reg fun K hn hp => ?_
      simp only [sy.down, argsTo, cellPut_some, Nat.reduceEqDiff, reduceIte, Nat.reduceLT, Nat.reduceAdd, Nat.reduceMul, Nat.reduceLeDiff]
      refine hn _ _ ?_
      clear hn hp K
      refine seq_block fun K' k1' k2' k3' k4' k5' => ?_
      refine wpc_loop (sok xt) (fun st => ∃ (j : Nat) (v8 : AV) (tm : T AV) (hd : Hp), st = ⟨tm, 62, hd, []⟩ ∧ Fr hc.n hc hd ∧ j ≤ AL.length ∧ tm.get 1 = some (.ptr h.n 0) ∧ tm.get 3 = some v ∧ tm.get 8 = some v8 ∧ tm.get 9 = some (iv j) ∧ LRows xt hd hc.n 1 23 v8 (cc ((AL.take j).filter s.rholds)))
        (fun st => AL.length - (match st.tm.get 9 with | some (.val (.int _ n)) => n.toNat | _ => 0)) ?_ ?_
      · rintro st ⟨j, v8, tmj, hd, rfl, frd, hj, j1, j3, j8, j9, rows8⟩
        have hlod := frd.lo
        have rowsd := rows.fr frd (Nat.le_refl _)
        have hlenA := fun h' => rowsd.len (h' := h') tg97 rfl
        simp only [cc, List.length_map] at hlenA
        have q0d : hd.t.get h.n = some (.cells s.cells 25) := by rw [frd.at_ _ (by omega)]; exact q0
        have had : s.At xt hd := hac.fr frd (Nat.le_refl _)
        refine seq_seq ?_
        refine seq_reg fun K hn hp => ?_
        simp only [sy.down, argsTo, cellPut_some, Nat.reduceEqDiff, reduceIte, Nat.reduceLT, Nat.reduceAdd, Nat.reduceMul, Nat.reduceLeDiff, j3, j9, hlenA]
        refine hn _ _ ?_
        clear hn hp K
        have htj : (decide ((j : Int) < (AL.length : Int))) = decide (j < AL.length) := by simp
        by_cases hjt : j < AL.length
        · obtain ⟨l, hl⟩ : ∃ l, AL[j]? = some l := ⟨_, List.getElem?_eq_getElem hjt⟩
          have hll := hALm l (List.mem_of_getElem? hl)
          obtain ⟨b, a, cs, z1, z2, z3, z4, z5, z6, z7⟩ := rowsd.at_ tg97 rfl tg23 rfl (cc_get hl) (k := .i64)
          refine seq_cond true (by simp only [sy.down, argsTo, cellPut_some, Nat.reduceEqDiff, reduceIte, Nat.reduceLT, Nat.reduceAdd, Nat.reduceMul, Nat.reduceLeDiff, htj, hjt]) (fun _ => ?_) (fun hx => by cases hx)
          refine seq_skip ?_
          refine seq_block fun Kc kc1 kc2 kc3 kc4 kc5 => ?_
          refine seq_regD (sok xt) 6 (by kernel_rfl) fun K1 hn hp => ?_
          simp only [sy.down, argsTo, cellPut_some, Nat.reduceEqDiff, reduceIte, Nat.reduceLT, Nat.reduceAdd, Nat.reduceMul, Nat.reduceLeDiff, j1, j3, j9, q0d, z1, z2, z3]
          refine callA_func (sok xt) (rholds_c xt _ s had a l z4 (by omega) (by omega) fun m1 hm1 => ?_)
          simp only [sy.down, argsTo, cellPut_some, Nat.reduceEqDiff, reduceIte, Nat.reduceLT, Nat.reduceAdd, Nat.reduceMul, Nat.reduceLeDiff, WOCn_t (h := hd) hm1]
          refine hn _ _ ?_
          clear hn hp K1
          have htk : AL.take (j + 1) = AL.take j ++ [l] := by rw [List.take_add_one, hl]; rfl
          have hw : IntKind.i64.wrap ((j : Int) + 1) = ((j + 1 : Nat) : Int) := by rw [wrap_i64 _ (by omega) (by omega)]; simp
          cases hq : s.rholds l
          · refine wpc_cond false (by simp only [sy.down, argsTo, cellPut_some, Nat.reduceEqDiff, reduceIte, Nat.reduceLT, Nat.reduceAdd, Nat.reduceMul, Nat.reduceLeDiff]) (fun hx => by cases hx) (fun _ => ?_)
            refine wpc_skip (kc1 _ ?_)
            refine reg fun K1 hn hp => ?_
            simp only [sy.down, argsTo, cellPut_some, Nat.reduceEqDiff, reduceIte, Nat.reduceLT, Nat.reduceAdd, Nat.reduceMul, Nat.reduceLeDiff, j9, hw]
            refine hn _ _ ?_
            refine ⟨⟨j + 1, v8, _, hd.up m1, rfl, frd.up (Nat.le_of_lt hm1), hjt, ?_, ?_, ?_, ?_, ?_⟩, ?_⟩
            · simp [T.get_put, j1]
            · simp [T.get_put, j3]
            · simp [T.get_put, j8]
            · simp [T.get_put]
            · rw [htk, List.filter_append]
              simp only [List.filter_cons, hq, List.filter_nil, Bool.false_eq_true, if_false, List.append_nil]
              exact rows8.up (Nat.le_of_lt hm1)
            · have hm : AL.length - (j + 1) < AL.length - j := by omega
              simpa [T.get_put, j9] using hm
          · refine wpc_cond true (by simp only [sy.down, argsTo, cellPut_some, Nat.reduceEqDiff, reduceIte, Nat.reduceLT, Nat.reduceAdd, Nat.reduceMul, Nat.reduceLeDiff]) (fun _ => ?_) (fun hx => by cases hx)
            have hfl : ((AL.take j).filter s.rholds).length ≤ 1331 := by
              refine Nat.le_trans (List.length_filter_le _ _) ?_
              rw [List.length_take]; omega
            obtain ⟨v', h', y1, y2, y3, y4, _⟩ := ((rows8.up (Nat.le_of_lt hm1)).new (.cells [a] 23)).append (P := Tryz.prog) (a := a) (x := .sl m1 0 1 1) (l := l.map c1) (by simp [Hp.new_n]; omega) tg97 rfl tg23 rfl rfl tg97 rfl
              (src_own (e := 23) (by simp [Hp.new_t, T.get_put]) rfl (by simp [z4.one])) ((z4.up (Nat.le_of_lt hm1)).new _) (fun b' off k' s' hb off' k'' s'' hq' => by
                have e1 := (rows.at_ tg97 rfl tg23 rfl (cc_get hl) (k := .i64))
                obtain ⟨b2, a2, cs2, w1, w2, w3, w4, w5, _, w7⟩ := e1
                have hbb : b2 = b := by rw [z1] at w1; simpa using w1.symm
                subst hbb
                rw [frd.at_ _ (.inl w5), w2] at z2
                cases z2
                rw [w3] at z3
                cases z3
                have := w4.lt hb
                have := rows8.lt hq'
                omega) (by simp [te23, cc]; omega) (by simp [cc]; omega)
            refine reg fun K1 hn hp => ?_
            simp only [sy.down, argsTo, cellPut_some, Nat.reduceEqDiff, reduceIte, Nat.reduceLT, Nat.reduceAdd, Nat.reduceMul, Nat.reduceLeDiff, j3, j8, j9, z1, z2, z3, WOp_buildSlice, bs97 _ z4.cells, y1]
            refine hn _ _ (kc1 _ ?_)
            clear hn hp K1
            refine reg fun K1 hn hp => ?_
            simp only [sy.down, argsTo, cellPut_some, Nat.reduceEqDiff, reduceIte, Nat.reduceLT, Nat.reduceAdd, Nat.reduceMul, Nat.reduceLeDiff, j9, hw]
            refine hn _ _ ?_
            refine ⟨⟨j + 1, v', _, h', rfl, ((frd.up (Nat.le_of_lt hm1)).new _).trans y3 (Nat.le_refl _), hjt, ?_, ?_, ?_, ?_, ?_⟩, ?_⟩
            · simp [T.get_put, j1]
            · simp [T.get_put, j3]
            · simp [T.get_put]
            · simp [T.get_put]
            · rw [htk, List.filter_append]
              simp only [List.filter_cons, hq, List.filter_nil, if_true]
              simpa [cc] using y2
            · have hm : AL.length - (j + 1) < AL.length - j := by omega
              simpa [T.get_put, j9] using hm
        · refine seq_cond false (by simp only [sy.down, argsTo, cellPut_some, Nat.reduceEqDiff, reduceIte, Nat.reduceLT, Nat.reduceAdd, Nat.reduceMul, Nat.reduceLeDiff, htj, hjt]) (fun hx => by cases hx) (fun _ => ?_)
          refine seq_exit (k2' _ ?_)
          refine seq_reg fun K hn hp => ?_
          simp only [sy.down, argsTo, cellPut_some, Nat.reduceEqDiff, reduceIte, Nat.reduceLT, Nat.reduceAdd, Nat.reduceMul, Nat.reduceLeDiff, j8]
          refine hn _ _ ?_
          clear hn hp K
          have hjj : j = AL.length := by omega
          subst hjj
          rw [List.take_length] at rows8
          refine wpc_ret (end_1 res45 ⟨v8, ?_, (frb.trans (fr.lower (Nat.le_succ _)) (Nat.le_refl _)).trans frd (by omega), ?_⟩)
          · simp [T.get_put]
          · have e : s.rtruths = AL.filter s.rholds := by rw [hAL]; rfl
            rw [e]; exact rows8.weaken (by omega)
      · refine ⟨0, .val (.slice none 0 0), _, hc, rfl, Fr.refl (Nat.le_refl _), Nat.zero_le _, ?_, ?_, ?_, ?_, ?_⟩
        · simp [T.get_put, g1]
        · simp [T.get_put, g3]
        · simp [T.get_put]
        · simp [T.get_put]
        · exact LRows.nil
  · refine ⟨0, .sl (h.n + 1) 0 1 1, _, hb, rfl, Fr.refl (by omega), Nat.zero_le _, ?_, ?_, ?_, ?_⟩
    · simp [T.get_put]
    · simp [T.get_put, Hp.new_n]
    · simp [T.get_put]
    · refine ⟨[.val (.slice none 0 0)], .inr ⟨h.n + 1, rfl, by omega, by omega, by rw [hhb]; simp [Hp.new_t, Hp.new_n, T.get_put], rfl⟩, fun i l hl => ?_⟩
      cases i with
      | zero =>
        simp [allL, cc] at hl
        subst hl
        exact ⟨_, rfl, ⟨by simp, by omega, .inl ⟨rfl, rfl⟩⟩, fun b off n s hq => by cases hq⟩
      | succ i => simp [allL, cc] at hl
end Go.Proofs.Kn
namespace Go.Proofs.Kn
open Go Go.Ev
set_option maxRecDepth 100000
theorem ft24 (xt : Addr → Option Value) : (SE xt).ft.get 24 = some Tryz.f24 := by kernel_rfl
theorem res24 : Tryz.f24.results.toList = [.cell 2 36] := by kernel_rfl
theorem fold_drop {α β : Type} {f : β → α → β} {l : List α} {k : Nat} {x : α} (hx : l[k]? = some x) (a : β) : (l.drop k).foldl f a = (l.drop (k + 1)).foldl f (f a x) := by
  obtain ⟨h1, rfl⟩ := List.getElem?_eq_some_iff.1 hx
  rw [List.drop_eq_getElem_cons h1]; rfl
theorem rends_drop (g : List Int → Int) {ll : List (List Int)} {l : List Int} (h : ll[0]? = some l) : rends g ll = (ll.drop 1).foldl (fun a l => rendStep a (g l)) (g l, g l) := by
  cases ll with
  | nil => simp at h
  | cons x ll => simp only [List.getElem?_cons_zero, Option.some.injEq] at h; subst h; rfl
theorem len_rtruths {s : Sk} (g : s.Good) : s.rtruths.length ≤ 1331 := by
  have h1 := g.sh1
  refine Nat.le_trans (List.length_filter_le _ _) (len_all s.sh (by omega) g.sh2 _ g.l2)
/-- A row of some lists, at index 0. -/
theorem rtotal_c (xt : Addr → Option Value) (h : Hp) (s : Sk) (ha : s.At xt h) (hok : s.rok = true) (hne : s.rtruths ≠ []) {K : CR → Hp → Prop} (hk : ∀ n, h.n < n → K (.ret (.agg [iv (rends (fun l => s.blanks (fnOf l)) s.rtruths).1, iv (rends (fun l => s.blanks (fnOf l)) s.rtruths).2])) (h.up n)) : FnA (SE xt) 24 [s.av] h K := by
  refine FnA.calm ?_ hk
  clear hk K
  have g := Sk.good (by rw [← Sk.rok_ok]; exact hok)
  refine FnA.walk (sok xt) (ft24 xt) rfl 42 rfl ?_
  have hm0 : ∀ l ∈ s.rtruths, l.length = s.sorts.length := fun l hl => (Sk.mem_rtruths.1 hl).1
  have hlen0 := len_rtruths g
  obtain ⟨ll, hll⟩ : ∃ ll, ll = s.rtruths := ⟨_, rfl⟩
  rw [← hll] at hne hm0 hlen0 ⊢
  obtain ⟨l0, hl0⟩ : ∃ l, ll[0]? = some l := ⟨_, List.getElem?_eq_getElem (by cases ll with | nil => exact absurd rfl hne | cons x l => simp)⟩
  have hl0m := hm0 l0 (List.mem_of_getElem? hl0)
  have ha1 := (ha.new (.cells s.cells 25)).new (.cells [iv 0, iv 0] 36)
  refine seq_reg fun K hn hp => ?_
  simp only [sy.down, argsTo, cellPut_some, Nat.reduceEqDiff, reduceIte, Nat.reduceLT, Nat.reduceAdd, Nat.reduceMul, Nat.reduceLeDiff]
  refine hn _ _ ?_
  clear hn hp K
  obtain ⟨h1, hh1⟩ : ∃ h1 : Hp, h1 = (h.new (.cells s.cells 25)).new (.cells [iv 0, iv 0] 36) := ⟨_, rfl⟩
  rw [← hh1] at ha1 ⊢
  have n1 : h1.n = h.n + 2 := by rw [hh1]; rfl
  have q0 : h1.t.get h.n = some (.cells s.cells 25) := by rw [hh1]; simp [Hp.new_t, Hp.new_n, T.get_put]
  have q1 : h1.t.get (h.n + 1) = some (.cells [iv 0, iv 0] 36) := by rw [hh1]; simp [Hp.new_t, Hp.new_n, T.get_put]
  have fr1 : Fr h.n h h1 := by rw [hh1]; exact ((Fr.refl (Nat.le_refl _)).new _).new _
  refine seq_reg fun K1 hn hp => ?_
  simp only [sy.down, argsTo, cellPut_some, Nat.reduceEqDiff, reduceIte, Nat.reduceLT, Nat.reduceAdd, Nat.reduceMul, Nat.reduceLeDiff, q0]
  refine callA_func (sok xt) ((rtruths_c xt _ s ha1 hok).mono ?_)
  rintro r h2 ⟨v, rfl, fr2, rows⟩
  rw [← hll] at rows
  simp only [sy.down, argsTo, cellPut_some, Nat.reduceEqDiff, reduceIte, Nat.reduceLT, Nat.reduceAdd, Nat.reduceMul, Nat.reduceLeDiff]
  refine hn _ _ ?_
  clear hn hp K1
  have hlo2 := fr2.lo
  have q02 : h2.t.get h.n = some (.cells s.cells 25) := by rw [fr2.at_ _ (by omega)]; exact q0
  have q12 : h2.t.get (h.n + 1) = some (.cells [iv 0, iv 0] 36) := by rw [fr2.at_ _ (by omega)]; exact q1
  have ha2 := ha1.fr fr2 (Nat.le_refl _)
  obtain ⟨b, a, cs, z1, z2, z3, z4, z5, z6, z7⟩ := rows.at_ tg97 rfl tg23 rfl (cc_get hl0) (k := .i64)
  have z1 : aindexAddr tb 97 v (.val (.int .i64 0)) = some (.ptr b 0) := z1
  refine seq_regDA (sok xt) 11 (by kernel_rfl) fun K1 hn hp => ?_
  simp only [sy.down, argsTo, cellPut_some, Nat.reduceEqDiff, reduceIte, Nat.reduceLT, Nat.reduceAdd, Nat.reduceMul, Nat.reduceLeDiff, q02, z1, z2, z3]
  refine callA_func (sok xt) (rblanks_c xt _ s ha2 a l0 z4 hl0m fun m1 hm1 => ?_)
  simp only [sy.down, argsTo, cellPut_some, Nat.reduceEqDiff, reduceIte, Nat.reduceLT, Nat.reduceAdd, Nat.reduceMul, Nat.reduceLeDiff, WOCn_t (h := h2) hm1, q02, z1, z2, z3]
  refine callA_func (sok xt) (rblanks_c xt _ s (ha2.up (Nat.le_of_lt hm1)) a l0 (z4.up (Nat.le_of_lt hm1)) hl0m fun m2 hm2 => ?_)
  simp only [Hp.up_n] at hm2
  simp only [sy.down, argsTo, cellPut_some, Nat.reduceEqDiff, reduceIte, Nat.reduceLT, Nat.reduceAdd, Nat.reduceMul, Nat.reduceLeDiff, WOCn_t (h := h2.up m1) hm2, bd36b]
  simp only [Hp.up_up]
  refine hn _ _ ?_
  clear hn hp K1
  refine seq_seq ?_
  refine seq_reg fun K hn hp => ?_
  simp only [sy.down, argsTo, cellPut_some, Nat.reduceEqDiff, reduceIte, Nat.reduceLT, Nat.reduceAdd, Nat.reduceMul, Nat.reduceLeDiff]
  refine hn _ _ ?_
  clear hn hp K
  refine seq_block fun K k1 k2 k3 k4 k5 => ?_
  obtain ⟨B, hB⟩ : ∃ B : Int, B = s.blanks (fun i => l0.getD i 0) := ⟨_, rfl⟩
  rw [← hB]
  have hfin : rends (fun l => s.blanks (fnOf l)) ll = (ll.drop 1).foldl (fun a l => rendStep a (s.blanks (fnOf l))) (B, B) := by rw [rends_drop _ hl0, hB]
  refine wpc_loop (sok xt) (fun st => ∃ (k : Nat) (p : Int × Int) (tm : T AV) (hd : Hp), st = ⟨tm, 42, hd, []⟩ ∧ Fr h2.n h2 hd ∧ 1 ≤ k ∧ k ≤ ll.length ∧ m2 < hd.n ∧ hd.t.get m2 = some (.cells [iv p.1, iv p.2] 36) ∧ tm.get 1 = some (.ptr h.n 0) ∧ tm.get 2 = some (.ptr (h.n + 1) 0) ∧ tm.get 3 = some v ∧ tm.get 4 = some (.ptr m2 0) ∧ tm.get 5 = some (iv k) ∧
      rends (fun l => s.blanks (fnOf l)) ll = (ll.drop k).foldl (fun a l => rendStep a (s.blanks (fnOf l))) p)
    (fun st => ll.length - (match st.tm.get 5 with | some (.val (.int _ n)) => n.toNat | _ => 0)) ?_ ?_
  · rintro st ⟨k, p, tm, hd, rfl, frd, hk1, hk, hmd, qm, g1, g2, g3, g4, g5, hfi⟩
    have hlod := frd.lo
    have rowsd := rows.fr frd (Nat.le_refl _)
    have hlenA := fun h' => rowsd.len (h' := h') tg97 rfl
    simp only [cc, List.length_map] at hlenA
    have q0d : hd.t.get h.n = some (.cells s.cells 25) := by rw [frd.at_ _ (by omega)]; exact q02
    have q1d : hd.t.get (h.n + 1) = some (.cells [iv 0, iv 0] 36) := by rw [frd.at_ _ (by omega)]; exact q12
    have had := ha2.fr frd (Nat.le_refl _)
    refine seq_seq ?_
    refine seq_reg fun K hn hp => ?_
    simp only [sy.down, argsTo, cellPut_some, Nat.reduceEqDiff, reduceIte, Nat.reduceLT, Nat.reduceAdd, Nat.reduceMul, Nat.reduceLeDiff, g3, g5, hlenA]
    refine hn _ _ ?_
    clear hn hp K
    have ht : (decide ((k : Int) < (ll.length : Int))) = decide (k < ll.length) := by simp
    by_cases hlt : k < ll.length
    · obtain ⟨l, hl⟩ : ∃ l, ll[k]? = some l := ⟨_, List.getElem?_eq_getElem hlt⟩
      have hlm := hm0 l (List.mem_of_getElem? hl)
      obtain ⟨b, a, cs, z1, z2, z3, z4, z5, z6, z7⟩ := rowsd.at_ tg97 rfl tg23 rfl (cc_get hl) (k := .i64)
      refine seq_cond true (by simp only [sy.down, argsTo, cellPut_some, Nat.reduceEqDiff, reduceIte, Nat.reduceLT, Nat.reduceAdd, Nat.reduceMul, Nat.reduceLeDiff, ht, hlt]) (fun _ => ?_) (fun hx => by cases hx)
      refine seq_skip ?_
      refine seq_block fun K' k1' k2' k3' k4' k5' => ?_
      refine seq_regD (sok xt) 7 (by kernel_rfl) fun K1 hn hp => ?_
      simp only [sy.down, argsTo, cellPut_some, Nat.reduceEqDiff, reduceIte, Nat.reduceLT, Nat.reduceAdd, Nat.reduceMul, Nat.reduceLeDiff, g1, g3, g5, q0d, z1, z2, z3]
      refine callA_func (sok xt) (rblanks_c xt _ s had a l z4 hlm fun m3 hm3 => ?_)
      simp only [sy.down, argsTo, cellPut_some, Nat.reduceEqDiff, reduceIte, Nat.reduceLT, Nat.reduceAdd, Nat.reduceMul, Nat.reduceLeDiff, WOCn_t (h := hd) hm3]
      refine hn _ _ ?_
      clear hn hp K1
      refine reg fun K1 hn hp => ?_
      simp only [sy.down, argsTo, cellPut_some, Nat.reduceEqDiff, reduceIte, Nat.reduceLT, Nat.reduceAdd, Nat.reduceMul, Nat.reduceLeDiff, g4, qm, bd36b]
      refine hn _ _ (k1' _ ?_)
      clear hn hp K1
      refine reg fun K1 hn hp => ?_
      have hw : IntKind.i64.wrap ((k : Int) + 1) = ((k + 1 : Nat) : Int) := by rw [wrap_i64 _ (by omega) (by omega)]; simp
      simp only [sy.down, argsTo, cellPut_some, Nat.reduceEqDiff, reduceIte, Nat.reduceLT, Nat.reduceAdd, Nat.reduceMul, Nat.reduceLeDiff, g5, hw]
      refine hn _ _ ?_
      have hmn : h2.n ≤ m2 := by omega
      refine ⟨⟨k + 1, rendStep p (s.blanks (fnOf l)), _, _, rfl, (frd.up (Nat.le_of_lt hm3)).set hmn (by simp; omega) _, by omega, hlt, by simp [Hp.set_n]; omega, by rw [Hp.set_t, T.get_put, if_pos rfl]; rfl, ?_, ?_, ?_, ?_, ?_, by rw [hfi, fold_drop hl]⟩, ?_⟩
      · simp [T.get_put, g1]
      · simp [T.get_put, g2]
      · simp [T.get_put, g3]
      · simp [T.get_put, g4]
      · simp [T.get_put]
      · have hm : ll.length - (k + 1) < ll.length - k := by omega
        simpa [T.get_put, g5] using hm
    · refine seq_cond false (by simp only [sy.down, argsTo, cellPut_some, Nat.reduceEqDiff, reduceIte, Nat.reduceLT, Nat.reduceAdd, Nat.reduceMul, Nat.reduceLeDiff, ht, hlt]) (fun hx => by cases hx) (fun _ => ?_)
      refine seq_exit (k2 _ ?_)
      have hnil : ll.drop k = [] := List.drop_eq_nil_of_le (by omega)
      rw [hnil] at hfi
      simp only [List.foldl_nil] at hfi
      rw [hfi]
      refine seq_reg fun K hn hp => ?_
      simp only [sy.down, argsTo, cellPut_some, Nat.reduceEqDiff, reduceIte, Nat.reduceLT, Nat.reduceAdd, Nat.reduceMul, Nat.reduceLeDiff, g2, g4, qm, q1d]
      refine hn _ _ ?_
      clear hn hp K
      refine wpc_ret (end_c res24 (by simp only [sy.down, argsTo, cellPut_some, Nat.reduceEqDiff, reduceIte, Nat.reduceLT, Nat.reduceAdd, Nat.reduceMul, Nat.reduceLeDiff, g2]) ⟨rfl, ?_⟩)
      exact ((fr1.trans fr2 (by omega)).trans frd (by omega)).set (by omega) (by omega) _
  · refine ⟨1, (B, B), _, _, rfl, ((Fr.refl (Nat.le_refl _)).up (by omega)).new _ |>.set (by omega) (by simp [Hp.new_n]) _, Nat.le_refl _, ?_, by simp [Hp.new_n, Hp.set_n], by simp [Hp.set_t, T.get_put], ?_, ?_, ?_, ?_, ?_, hfin⟩
    · cases ll with
      | nil => exact absurd rfl hne
      | cons x l => simp
    all_goals simp [T.get_put]
end Go.Proofs.Kn
namespace Go.Proofs.Kn
open Go Go.Ev
set_option maxRecDepth 100000
theorem ft23 (xt : Addr → Option Value) : (SE xt).ft.get 23 = some Tryz.f23 := by kernel_rfl
theorem res23 : Tryz.f23.results.toList = [.tmp 2] := by kernel_rfl
def Sk.rspans (s : Sk) : List (Int × Int) := (List.range s.sorts.length).map fun i => rends (fun l => l.getD i 0) s.rtruths
/-- What 'Sorts' of the reference comes to. -/
def RSortsR (xt : Addr → Option Value) (s : Sk) (h : Hp) (r : CR) (h' : Hp) : Prop := ∃ v, r = .ret v ∧ Fr h.n h h' ∧ RowAt xt h' 2 v (s.rspans.map c2)
theorem rsorts_c (xt : Addr → Option Value) (h : Hp) (s : Sk) (ha : s.At xt h) (hok : s.rok = true) (hne : s.rtruths ≠ []) : FnA (SE xt) 23 [s.av] h (RSortsR xt s h) := by
  have g := Sk.good (by rw [← Sk.rok_ok]; exact hok)
  have gl2 := g.l2
  refine FnA.walk (sok xt) (ft23 xt) rfl 62 rfl ?_
  have hm0 : ∀ l ∈ s.rtruths, l.length = s.sorts.length := fun l hl => (Sk.mem_rtruths.1 hl).1
  have hlen0 := len_rtruths g
  have hsp : s.rspans.map c2 = spK (fun i => rends (fun l => l.getD i 0) s.rtruths) s.sorts.length := by simp [Sk.rspans, spK]
  unfold RSortsR
  rw [hsp]
  obtain ⟨ll, hll⟩ : ∃ ll, ll = s.rtruths := ⟨_, rfl⟩
  rw [← hll] at hne hm0 hlen0 ⊢
  obtain ⟨l0, hl0⟩ : ∃ l, ll[0]? = some l := ⟨_, List.getElem?_eq_getElem (by cases ll with | nil => exact absurd rfl hne | cons x l => simp)⟩
  have hl0m := hm0 l0 (List.mem_of_getElem? hl0)
  have ha1 := ha.new (.cells s.cells 25)
  have hlenS := fun h' => ha.sorts.len (h' := h') tg22 rfl
  simp only [List.length_map] at hlenS
  refine seq_reg fun K hn hp => ?_
  simp only [sy.down, argsTo, cellPut_some, Nat.reduceEqDiff, reduceIte, Nat.reduceLT, Nat.reduceAdd, Nat.reduceMul, Nat.reduceLeDiff]
  refine hn _ _ ?_
  clear hn hp K
  obtain ⟨h1, hh1⟩ : ∃ h1 : Hp, h1 = h.new (.cells s.cells 25) := ⟨_, rfl⟩
  rw [← hh1] at ha1 ⊢
  have n1 : h1.n = h.n + 1 := by rw [hh1]; rfl
  have q0 : h1.t.get h.n = some (.cells s.cells 25) := by rw [hh1]; simp [Hp.new_t, T.get_put]
  have fr1 : Fr h.n h h1 := by rw [hh1]; exact (Fr.refl (Nat.le_refl _)).new _
  refine seq_reg fun K1 hn hp => ?_
  simp only [sy.down, argsTo, cellPut_some, Nat.reduceEqDiff, reduceIte, Nat.reduceLT, Nat.reduceAdd, Nat.reduceMul, Nat.reduceLeDiff, q0]
  refine callA_func (sok xt) ((rtruths_c xt _ s ha1 hok).mono ?_)
  rintro r h2 ⟨v, rfl, fr2, rows⟩
  rw [← hll] at rows
  simp only [sy.down, argsTo, cellPut_some, Nat.reduceEqDiff, reduceIte, Nat.reduceLT, Nat.reduceAdd, Nat.reduceMul, Nat.reduceLeDiff]
  refine hn _ _ ?_
  clear hn hp K1
  have hlo2 := fr2.lo
  have q02 : h2.t.get h.n = some (.cells s.cells 25) := by rw [fr2.at_ _ (by omega)]; exact q0
  refine seq_reg fun K hn hp => ?_
  simp only [sy.down, argsTo, cellPut_some, Nat.reduceEqDiff, reduceIte, Nat.reduceLT, Nat.reduceAdd, Nat.reduceMul, Nat.reduceLeDiff]
  refine hn _ _ ?_
  clear hn hp K
  refine seq_seq ?_
  refine seq_reg fun K hn hp => ?_
  simp only [sy.down, argsTo, cellPut_some, Nat.reduceEqDiff, reduceIte, Nat.reduceLT, Nat.reduceAdd, Nat.reduceMul, Nat.reduceLeDiff]
  refine hn _ _ ?_
  clear hn hp K
  refine seq_block fun K k1 k2 k3 k4 k5 => ?_
  refine wpc_loop (sok xt) (fun st => ∃ (k : Nat) (u : AV) (tm : T AV) (hd : Hp), st = ⟨tm, 62, hd, []⟩ ∧ Fr h2.n h2 hd ∧ k ≤ s.sorts.length ∧ tm.get 1 = some (.ptr h.n 0) ∧ tm.get 3 = some v ∧ tm.get 4 = some u ∧ tm.get 5 = some (iv k) ∧
      OwnSl hd h2.n 2 36 u k ((spK (fun i => rends (fun l => l.getD i 0) ll) k).flatten.map .val))
    (fun st => s.sorts.length - (match st.tm.get 5 with | some (.val (.int _ n)) => n.toNat | _ => 0)) ?_ ?_
  · rintro st ⟨k, u, tm, hd, rfl, frd, hk, g1, g3, g4, g5, ow⟩
    have hlod := frd.lo
    have rowsd := rows.fr frd (Nat.le_refl _)
    have q0d : hd.t.get h.n = some (.cells s.cells 25) := by rw [frd.at_ _ (by omega)]; exact q02
    refine seq_seq ?_
    refine seq_reg fun K hn hp => ?_
    simp only [sy.down, argsTo, cellPut_some, Nat.reduceEqDiff, reduceIte, Nat.reduceLT, Nat.reduceAdd, Nat.reduceMul, Nat.reduceLeDiff, g1, g5, q0d, hlenS]
    refine hn _ _ ?_
    clear hn hp K
    have ht : (decide ((k : Int) < (s.sorts.length : Int))) = decide (k < s.sorts.length) := by simp
    by_cases hlt : k < s.sorts.length
    · refine seq_cond true (by simp only [sy.down, argsTo, cellPut_some, Nat.reduceEqDiff, reduceIte, Nat.reduceLT, Nat.reduceAdd, Nat.reduceMul, Nat.reduceLeDiff, ht, hlt]) (fun _ => ?_) (fun hx => by cases hx)
      refine seq_skip ?_
      refine seq_block fun K' k1' k2' k3' k4' k5' => ?_
      obtain ⟨b, a, cs, z1, z2, z3, z4, z5, z6, z7⟩ := rowsd.at_ tg97 rfl tg23 rfl (cc_get hl0) (k := .i64)
      have z1 : aindexAddr tb 97 v (.val (.int .i64 0)) = some (.ptr b 0) := z1
      have hx0 : l0[k]? = some (l0.getD k 0) := by rw [List.getD_eq_getElem?_getD, List.getElem?_eq_getElem (by omega)]; rfl
      have hidx := z4.idx tg23 rfl tg3 rfl (by simp; omega) (k := .i64) (i := k)
      have hld : aload tb xt hd 3 (elp a (k * 1)) = some (iv (l0.getD k 0)) := z4.load0 tg3 rfl (c := c1 (l0.getD k 0)) (by simp only [List.getElem?_map, hx0]; rfl) rfl
      obtain ⟨B, hB⟩ : ∃ B : Int, B = l0.getD k 0 := ⟨_, rfl⟩
      rw [← hB] at hld
      refine seq_regDA (sok xt) 13 (by kernel_rfl) fun K1 hn hp => ?_
      simp only [sy.down, argsTo, cellPut_some, Nat.reduceEqDiff, reduceIte, Nat.reduceLT, Nat.reduceAdd, Nat.reduceMul, Nat.reduceLeDiff, g3, g5, z1, z2, z3, hidx, hld, bd36b]
      refine hn _ _ ?_
      clear hn hp K1
      refine seq_seq ?_
      refine seq_reg fun K hn hp => ?_
      simp only [sy.down, argsTo, cellPut_some, Nat.reduceEqDiff, reduceIte, Nat.reduceLT, Nat.reduceAdd, Nat.reduceMul, Nat.reduceLeDiff]
      refine hn _ _ ?_
      clear hn hp K
      refine seq_block fun Kb kb1 kb2 kb3 kb4 kb5 => ?_
      have hfin : rends (fun l => l.getD k 0) ll = (ll.drop 1).foldl (fun a l => rendStep a (l.getD k 0)) (B, B) := by rw [rends_drop _ hl0, hB]
      refine wpc_loop (sok xt) (fun st => ∃ (j : Nat) (p : Int × Int) (tm : T AV) (he : Hp), st = ⟨tm, 62, he, []⟩ ∧ Fr hd.n hd he ∧ 1 ≤ j ∧ j ≤ ll.length ∧ hd.n < he.n ∧ he.t.get hd.n = some (.cells [iv p.1, iv p.2] 36) ∧ tm.get 1 = some (.ptr h.n 0) ∧ tm.get 3 = some v ∧ tm.get 4 = some u ∧ tm.get 5 = some (iv k) ∧ tm.get 6 = some (.ptr hd.n 0) ∧ tm.get 7 = some (iv j) ∧
          rends (fun l => l.getD k 0) ll = (ll.drop j).foldl (fun a l => rendStep a (l.getD k 0)) p)
        (fun st => ll.length - (match st.tm.get 7 with | some (.val (.int _ n)) => n.toNat | _ => 0)) ?_ ?_
      · rintro st ⟨j, p, tmj, he, rfl, fre, hj1, hj, hme, qm, j1, j3, j4, j5, j6, j7, hfi⟩
        have hloe := fre.lo
        have rowse := rowsd.fr fre (Nat.le_refl _)
        have hlenA := fun h' => rowse.len (h' := h') tg97 rfl
        simp only [cc, List.length_map] at hlenA
        refine seq_seq ?_
        refine seq_reg fun K hn hp => ?_
        simp only [sy.down, argsTo, cellPut_some, Nat.reduceEqDiff, reduceIte, Nat.reduceLT, Nat.reduceAdd, Nat.reduceMul, Nat.reduceLeDiff, j3, j7, hlenA]
        refine hn _ _ ?_
        clear hn hp K
        have htj : (decide ((j : Int) < (ll.length : Int))) = decide (j < ll.length) := by simp
        by_cases hjt : j < ll.length
        · obtain ⟨l, hl⟩ : ∃ l, ll[j]? = some l := ⟨_, List.getElem?_eq_getElem hjt⟩
          have hlm := hm0 l (List.mem_of_getElem? hl)
          obtain ⟨b', a', cs', w1, w2, w3, w4, w5, w6, w7⟩ := rowse.at_ tg97 rfl tg23 rfl (cc_get hl) (k := .i64)
          have hx1 : l[k]? = some (l.getD k 0) := by rw [List.getD_eq_getElem?_getD, List.getElem?_eq_getElem (by omega)]; rfl
          have hidx' := w4.idx tg23 rfl tg3 rfl (by simp; omega) (k := .i64) (i := k)
          have hld' : aload tb xt he 3 (elp a' (k * 1)) = some (iv (l.getD k 0)) := w4.load0 tg3 rfl (c := c1 (l.getD k 0)) (by simp only [List.getElem?_map, hx1]; rfl) rfl
          refine seq_cond true (by simp only [sy.down, argsTo, cellPut_some, Nat.reduceEqDiff, reduceIte, Nat.reduceLT, Nat.reduceAdd, Nat.reduceMul, Nat.reduceLeDiff, htj, hjt]) (fun _ => ?_) (fun hx => by cases hx)
          refine seq_skip ?_
          refine seq_block fun Kc kc1 kc2 kc3 kc4 kc5 => ?_
          refine regD (sok xt) 21 (by kernel_rfl) fun K1 hn hp => ?_
          simp only [sy.down, argsTo, cellPut_some, Nat.reduceEqDiff, reduceIte, Nat.reduceLT, Nat.reduceAdd, Nat.reduceMul, Nat.reduceLeDiff, j3, j5, j6, j7, qm, w1, w2, w3, hidx', hld', bd36b]
          refine hn _ _ (kc1 _ ?_)
          clear hn hp K1
          refine reg fun K1 hn hp => ?_
          have hw : IntKind.i64.wrap ((j : Int) + 1) = ((j + 1 : Nat) : Int) := by rw [wrap_i64 _ (by omega) (by omega)]; simp
          simp only [sy.down, argsTo, cellPut_some, Nat.reduceEqDiff, reduceIte, Nat.reduceLT, Nat.reduceAdd, Nat.reduceMul, Nat.reduceLeDiff, j7, hw]
          refine hn _ _ ?_
          refine ⟨⟨j + 1, rendStep p (l.getD k 0), _, _, rfl, fre.set (Nat.le_refl _) hme _, by omega, hjt, hme, by rw [Hp.set_t, T.get_put, if_pos rfl]; rfl, ?_, ?_, ?_, ?_, ?_, ?_, by rw [hfi, fold_drop hl]⟩, ?_⟩
          · simp [T.get_put, j1]
          · simp [T.get_put, j3]
          · simp [T.get_put, j4]
          · simp [T.get_put, j5]
          · simp [T.get_put, j6]
          · simp [T.get_put]
          · have hm : ll.length - (j + 1) < ll.length - j := by omega
            simpa [T.get_put, j7] using hm
        · refine seq_cond false (by simp only [sy.down, argsTo, cellPut_some, Nat.reduceEqDiff, reduceIte, Nat.reduceLT, Nat.reduceAdd, Nat.reduceMul, Nat.reduceLeDiff, htj, hjt]) (fun hx => by cases hx) (fun _ => ?_)
          refine seq_exit (kb2 _ ?_)
          have hnil : ll.drop j = [] := List.drop_eq_nil_of_le (by omega)
          rw [hnil] at hfi
          simp only [List.foldl_nil] at hfi
          have ow2 := (ow.fr fre (Nat.le_refl _)).new (.cells [iv p.1, iv p.2] 36)
          obtain ⟨u', h', ha', ow', fr', hn'⟩ := ow2.append (P := Tryz.prog) (xt := xt) (x := .sl he.n 0 1 2) (m := 1) (cz := [iv p.1, iv p.2]) (by simp [Hp.new_n]; omega) tg43 rfl tg36 rfl rfl tg43 rfl (src_own (e := 36) (by simp [Hp.new_t, T.get_put]) rfl rfl) (by omega) rfl (by simp [te36]; omega) (by omega)
          refine reg fun K1 hn hp => ?_
          simp only [sy.down, argsTo, cellPut_some, Nat.reduceEqDiff, reduceIte, Nat.reduceLT, Nat.reduceAdd, Nat.reduceMul, Nat.reduceLeDiff, WOp_buildSlice, bs43, j4, j6, qm, ha']
          refine hn _ _ (k1' _ ?_)
          clear hn hp K1
          refine reg fun K1 hn hp => ?_
          have hw : IntKind.i64.wrap ((k : Int) + 1) = ((k + 1 : Nat) : Int) := by rw [wrap_i64 _ (by omega) (by omega)]; simp
          simp only [sy.down, argsTo, cellPut_some, Nat.reduceEqDiff, reduceIte, Nat.reduceLT, Nat.reduceAdd, Nat.reduceMul, Nat.reduceLeDiff, j5, hw]
          refine hn _ _ ?_
          refine ⟨⟨k + 1, u', _, h', rfl, ((frd.trans fre (by omega)).new _).trans fr' (Nat.le_refl _), hlt, ?_, ?_, ?_, ?_, ?_⟩, ?_⟩
          · simp [T.get_put, j1]
          · simp [T.get_put, j3]
          · simp [T.get_put]
          · simp [T.get_put]
          · rw [spK_succ, hfi]; exact ow'
          · have hm : s.sorts.length - (k + 1) < s.sorts.length - k := by omega
            simpa [T.get_put, g5] using hm
      · refine ⟨1, (B, B), _, _, rfl, ((Fr.refl (Nat.le_refl _)).new _).set (Nat.le_refl _) (by simp [Hp.new_n]) _, Nat.le_refl _, ?_, by simp [Hp.new_n, Hp.set_n], by simp [Hp.set_t, T.get_put], ?_, ?_, ?_, ?_, ?_, ?_, hfin⟩
        · cases ll with
          | nil => exact absurd rfl hne
          | cons x l => simp
        · simp [T.get_put, g1]
        · simp [T.get_put, g3]
        · simp [T.get_put, g4]
        · simp [T.get_put, g5]
        · simp [T.get_put]
        · simp [T.get_put]
    · refine seq_cond false (by simp only [sy.down, argsTo, cellPut_some, Nat.reduceEqDiff, reduceIte, Nat.reduceLT, Nat.reduceAdd, Nat.reduceMul, Nat.reduceLeDiff, ht, hlt]) (fun hx => by cases hx) (fun _ => ?_)
      refine seq_exit (k2 _ ?_)
      refine seq_reg fun K hn hp => ?_
      simp only [sy.down, argsTo, cellPut_some, Nat.reduceEqDiff, reduceIte, Nat.reduceLT, Nat.reduceAdd, Nat.reduceMul, Nat.reduceLeDiff, g4]
      refine hn _ _ ?_
      clear hn hp K
      refine wpc_ret (end_1 res23 ⟨u, ?_, (fr1.trans fr2 (by omega)).trans frd (by omega), ?_⟩)
      · simp [T.get_put]
      · have hkk : k = s.sorts.length := by omega
        subst hkk
        refine OwnSl.row (N := h2.n) (e := 36) ?_ (by omega) ?_
        · intro c hc'; simp only [spK, List.mem_map] at hc'; obtain ⟨i, _, rfl⟩ := hc'; rfl
        · have e2 : (spK (fun i => rends (fun l => l.getD i 0) ll) s.sorts.length).length = s.sorts.length := by simp [spK]
          rw [e2]; exact ow
  · refine ⟨0, .val (.slice none 0 0), _, _, rfl, Fr.refl (Nat.le_refl _), Nat.zero_le _, ?_, ?_, ?_, ?_, OwnSl.nil⟩
    all_goals simp [T.get_put]
end Go.Proofs.Kn
