/-
  Texts in a row, joined by a program: SyF1, SyF2, SyF3, SyF4, SyF5, SyF6, SyF7, SyF8, SyF9, SyF10, SyF11, SyF12, SyF13.
-/
import Derived.Test.YtonpolckdeeofaaGreatDoorQD
set_option linter.all false
namespace Go.Proofs.Kn
open Go Go.Ev
set_option maxRecDepth 100000
theorem ft41 (xt : Addr → Option Value) : (SE xt).ft.get 41 = some Tryz.f41 := by kernel_rfl
theorem res41 : Tryz.f41.results.toList = [.tmp 6] := by kernel_rfl
theorem in_ok (xt : Addr → Option Value) (h : Hp) (x lo hi : Int) : FnA (SE xt) 41 [.val (.int .i64 x), .val (.int .i64 lo), .val (.int .i64 hi)] h (fun r h' => r = .ret (.val (.bool (decide (lo ≤ x) && decide (x ≤ hi)))) ∧ Fr h.n h h') := by
  refine FnA.walk (sok xt) (ft41 xt) rfl 15 rfl ?_
  refine seq_reg fun K hn hp => ?_
  simp only [sy.down, argsTo, cellPut_some, Nat.reduceEqDiff, reduceIte, Nat.reduceLT, Nat.reduceAdd, Nat.reduceMul, Nat.reduceLeDiff]
  refine hn _ _ ?_
  clear hn hp K
  cases hx : decide (lo ≤ x)
  · refine seq_reg fun K hn hp => ?_
    simp only [sy.down, argsTo, cellPut_some, Nat.reduceEqDiff, reduceIte, Nat.reduceLT, Nat.reduceAdd, Nat.reduceMul, Nat.reduceLeDiff, hx]
    refine hn _ _ ?_
    clear hn hp K
    refine wpc_ret (end_1 res41 ⟨?_, Fr.refl (Nat.le_refl _)⟩)
    simp [T.get_put]
  · refine seq_reg fun K hn hp => ?_
    simp only [sy.down, argsTo, cellPut_some, Nat.reduceEqDiff, reduceIte, Nat.reduceLT, Nat.reduceAdd, Nat.reduceMul, Nat.reduceLeDiff, hx]
    refine hn _ _ ?_
    clear hn hp K
    refine wpc_ret (end_1 res41 ⟨?_, Fr.refl (Nat.le_refl _)⟩)
    simp [T.get_put]
theorem in_c (xt : Addr → Option Value) (h : Hp) (x lo hi : Int) {K : CR → Hp → Prop} (hk : ∀ n, h.n < n → K (.ret (.val (.bool (decide (lo ≤ x) && decide (x ≤ hi))))) (h.up n)) :
    FnA (SE xt) 41 [.val (.int .i64 x), .val (.int .i64 lo), .val (.int .i64 hi)] h K := FnA.calm (in_ok xt h x lo hi) hk
end Go.Proofs.Kn
namespace Go.Proofs.Kn
open Go Go.Ev
set_option maxRecDepth 100000
/-- A number of Go's type int, as a value. -/
abbrev iv (n : Int) : AV := .val (.int .i64 n)
theorem ft86 (xt : Addr → Option Value) : (SE xt).ft.get 86 = some Tryz.f86 := by kernel_rfl
theorem res86 : Tryz.f86.results.toList = [.tmp 2] := by kernel_rfl
/-- A sort that is not as defined. -/
def badSort (bl lo hi : Int) : Bool := !(decide (0 ≤ bl) && decide (bl ≤ 20)) || (decide (lo < 1) || (decide (hi < lo) || decide (100 < hi)))
theorem bad_ok (xt : Addr → Option Value) (h : Hp) (bl lo hi : Int) : FnA (SE xt) 86 [.agg [iv bl, iv lo, iv hi]] h (fun r h' => r = .ret (.val (.bool (badSort bl lo hi))) ∧ Fr h.n h h') := by
  refine FnA.walk (sok xt) (ft86 xt) rfl 28 rfl ?_
  refine seq_reg fun K hn hp => ?_
  simp only [sy.down, argsTo, cellPut_some, Nat.reduceEqDiff, reduceIte, Nat.reduceLT, Nat.reduceAdd, Nat.reduceMul, Nat.reduceLeDiff]
  refine hn _ _ ?_
  clear hn hp K
  refine seq_reg fun K hn hp => ?_
  simp only [sy.down, argsTo, cellPut_some, Nat.reduceEqDiff, reduceIte, Nat.reduceLT, Nat.reduceAdd, Nat.reduceMul, Nat.reduceLeDiff]
  refine callA_func (sok xt) (in_c xt _ _ _ _ fun n1 hn1 => ?_)
  have hn1 := Nat.le_of_lt hn1
  simp only [Hp.new_n] at hn1
  have hfr : Fr h.n h ((h.new (.cells [iv bl, iv lo, iv hi] 101)).up n1) := ((Fr.refl (Nat.le_refl _)).new _).up hn1
  cases c1 : (decide (0 ≤ bl) && decide (bl ≤ 20))
  · simp only [sy.down, argsTo, cellPut_some, Nat.reduceEqDiff, reduceIte, Nat.reduceLT, Nat.reduceAdd, Nat.reduceMul, Nat.reduceLeDiff, c1]
    refine hn _ _ (wpc_ret (end_1 res86 ⟨?_, hfr⟩))
    simp [T.get_put, badSort, c1]
  · cases c2 : decide (lo < 1)
    · cases c3 : decide (hi < lo)
      · simp only [sy.down, argsTo, cellPut_some, Nat.reduceEqDiff, reduceIte, Nat.reduceLT, Nat.reduceAdd, Nat.reduceMul, Nat.reduceLeDiff, c1, c2, c3]
        refine hn _ _ (wpc_ret (end_1 res86 ⟨?_, hfr⟩))
        simp [T.get_put, badSort, c1, c2, c3]
      · simp only [sy.down, argsTo, cellPut_some, Nat.reduceEqDiff, reduceIte, Nat.reduceLT, Nat.reduceAdd, Nat.reduceMul, Nat.reduceLeDiff, c1, c2, c3]
        refine hn _ _ (wpc_ret (end_1 res86 ⟨?_, hfr⟩))
        simp [T.get_put, badSort, c1, c2, c3]
    · simp only [sy.down, argsTo, cellPut_some, Nat.reduceEqDiff, reduceIte, Nat.reduceLT, Nat.reduceAdd, Nat.reduceMul, Nat.reduceLeDiff, c1, c2]
      refine hn _ _ (wpc_ret (end_1 res86 ⟨?_, hfr⟩))
      simp [T.get_put, badSort, c1, c2]
theorem bad_c (xt : Addr → Option Value) (h : Hp) (bl lo hi : Int) {K : CR → Hp → Prop} (hk : ∀ n, h.n < n → K (.ret (.val (.bool (badSort bl lo hi)))) (h.up n)) :
    FnA (SE xt) 86 [.agg [iv bl, iv lo, iv hi]] h K := FnA.calm (bad_ok xt h bl lo hi) hk
end Go.Proofs.Kn
namespace Go.Proofs.Kn
open Go Go.Ev
set_option maxRecDepth 100000
theorem ft130 (xt : Addr → Option Value) : (SE xt).ft.get 130 = some Tryz.f130 := by kernel_rfl
theorem res130 : Tryz.f130.results.toList = [.tmp 4] := by kernel_rfl
/-- A function value that answers of each element of a list whether it is so, and leaves memory alone. -/
def Asks (E : Env) (fv : AV) (el : List Value → AV) (cs : List (List Value)) (p : List Value → Bool) : Prop :=
  ∀ (h : Hp) (c : List Value) (K : CR → Hp → Prop), c ∈ cs → (∀ n, h.n < n → K (.ret (.val (.bool (p c)))) (h.up n)) → CallA E fv [el c] h K
theorem idx130_ok (xt : Addr → Option Value) (h : Hp) (v fv : AV) (cs : List (List Value)) (p : List Value → Bool) (hv : RowAt xt h 3 v cs) (hl : cs.length ≤ 9223372036854775807) (hf : Asks (SE xt) fv (fun c => .agg (c.map .val)) cs p) :
    FnA (SE xt) 130 [v, fv] h (fun r h' => r = .ret (iv (fidx p cs 0)) ∧ Fr h.n h h') := by
  refine FnA.walk (sok xt) (ft130 xt) rfl 19 rfl ?_
  have hlen := fun h' => hv.len (h' := h') tg22 rfl
  refine seq_reg fun K hn hp => ?_
  simp only [sy.down, argsTo, cellPut_some, Nat.reduceEqDiff, reduceIte, Nat.reduceLT, Nat.reduceAdd, Nat.reduceMul, Nat.reduceLeDiff]
  refine hn _ _ ?_
  clear hn hp K
  refine seq_seq ?_
  refine seq_reg fun K hn hp => ?_
  simp only [sy.down, argsTo, cellPut_some, Nat.reduceEqDiff, reduceIte, Nat.reduceLT, Nat.reduceAdd, Nat.reduceMul, Nat.reduceLeDiff, hlen]
  refine hn _ _ ?_
  clear hn hp K
  refine seq_block fun K k1 k2 k3 k4 k5 => ?_
  refine wpc_loop (sok xt) (fun st => ∃ (k n : Nat) (tm : T AV), st = ⟨tm, 19, h.up n, []⟩ ∧ h.n ≤ n ∧ k ≤ cs.length ∧ tm.get 0 = some v ∧ tm.get 1 = some fv ∧ tm.get 7 = some (iv cs.length) ∧ tm.get 8 = some (iv k) ∧ fidx p cs 0 = fidx p (cs.drop k) k)
    (fun st => cs.length - (match st.tm.get 8 with | some (.val (.int _ n)) => n.toNat | _ => 0)) ?_ ?_
  · rintro st ⟨k, n, tm, rfl, hn1, hk, g0, g1, g7, g8, hfi⟩
    refine seq_reg fun K hn hp => ?_
    simp only [sy.down, argsTo, cellPut_some, Nat.reduceEqDiff, reduceIte, Nat.reduceLT, Nat.reduceAdd, Nat.reduceMul, Nat.reduceLeDiff, g0, g1, g7, g8]
    refine hn _ _ ?_
    clear hn hp K
    have ht : (decide ((k : Int) < (cs.length : Int))) = decide (k < cs.length) := by simp
    by_cases hlt : k < cs.length
    · obtain ⟨c, hc⟩ : ∃ c, cs[k]? = some c := ⟨_, List.getElem?_eq_getElem hlt⟩
      have hidx := hv.idx tg22 rfl tg101 rfl hlt (k := .i64)
      have hld : aload tb xt (h.up n) 101 (elp v (k * 3)) = some (.agg (c.map .val)) := (hv.up hn1).loadA tg101 rfl rfl hc
      refine seq_cond true (by simp only [sy.down, argsTo, cellPut_some, Nat.reduceEqDiff, reduceIte, Nat.reduceLT, Nat.reduceAdd, Nat.reduceMul, Nat.reduceLeDiff, g0, g1, g7, g8, ht, hlt]) (fun _ => ?_) (fun hx => by cases hx)
      refine seq_skip ?_
      refine seq_block fun K' k1' k2' k3' k4' k5' => ?_
      refine seq_reg fun K hn hp => ?_
      simp only [sy.down, argsTo, cellPut_some, Nat.reduceEqDiff, reduceIte, Nat.reduceLT, Nat.reduceAdd, Nat.reduceMul, Nat.reduceLeDiff, g0, g1, g7, g8]
      refine hn _ _ ?_
      clear hn hp K
      refine seq_reg fun K hn hp => ?_
      simp only [sy.down, argsTo, cellPut_some, Nat.reduceEqDiff, reduceIte, Nat.reduceLT, Nat.reduceAdd, Nat.reduceMul, Nat.reduceLeDiff, g0, g1, g7, g8, hidx, hld]
      refine hf _ c _ (List.mem_of_getElem? hc) fun n1 hn1' => ?_
      have hn1' := Nat.le_of_lt hn1'
      simp only [sy.down, argsTo, cellPut_some, Nat.reduceEqDiff, reduceIte, Nat.reduceLT, Nat.reduceAdd, Nat.reduceMul, Nat.reduceLeDiff, g0, g1, g7, g8, Hp.up_up]
      refine hn _ _ ?_
      clear hn hp
      rw [fidx_drop p hc] at hfi
      cases hp : p c with
      | true =>
        refine wpc_cond true (by simp only [sy.down, argsTo, cellPut_some, Nat.reduceEqDiff, reduceIte, Nat.reduceLT, Nat.reduceAdd, Nat.reduceMul, Nat.reduceLeDiff]) (fun _ => ?_) (fun hx => by cases hx)
        refine seq_reg fun K hn hp => ?_
        simp only [sy.down, argsTo, cellPut_some, Nat.reduceEqDiff, reduceIte, Nat.reduceLT, Nat.reduceAdd, Nat.reduceMul, Nat.reduceLeDiff, g8]
        refine hn _ _ ?_
        clear hn hp K
        refine wpc_ret (k4' _ (k4 _ (end_1 res130 ⟨?_, (Fr.refl (Nat.le_refl _)).up (Nat.le_trans hn1 hn1')⟩)))
        simp [T.get_put, g8, hfi, hp]
      | false =>
        refine wpc_cond false (by simp only [sy.down, argsTo, cellPut_some, Nat.reduceEqDiff, reduceIte, Nat.reduceLT, Nat.reduceAdd, Nat.reduceMul, Nat.reduceLeDiff]) (fun hx => by cases hx) (fun _ => ?_)
        refine wpc_skip (k1' _ ?_)
        refine reg fun K hn hp' => ?_
        have hw : IntKind.i64.wrap ((k : Int) + 1) = ((k + 1 : Nat) : Int) := by rw [wrap_i64 _ (by omega) (by omega)]; simp
        simp only [sy.down, argsTo, cellPut_some, Nat.reduceEqDiff, reduceIte, Nat.reduceLT, Nat.reduceAdd, Nat.reduceMul, Nat.reduceLeDiff, g8, hw]
        refine hn _ _ ?_
        refine ⟨⟨k + 1, n1, _, rfl, Nat.le_trans hn1 hn1', hlt, ?_, ?_, ?_, ?_, ?_⟩, ?_⟩
        · simp [T.get_put, g0]
        · simp [T.get_put, g1]
        · simp [T.get_put, g7]
        · simp [T.get_put]
        · rw [hfi, hp]; simp
        · have hm : cs.length - (k + 1) < cs.length - k := by omega
          simpa [T.get_put, g8] using hm
    · refine seq_cond false (by simp only [sy.down, argsTo, cellPut_some, Nat.reduceEqDiff, reduceIte, Nat.reduceLT, Nat.reduceAdd, Nat.reduceMul, Nat.reduceLeDiff, g0, g1, g7, g8, ht, hlt]) (fun hx => by cases hx) (fun _ => ?_)
      refine seq_exit (k2 _ ?_)
      refine seq_reg fun K hn hp => ?_
      simp only [sy.down, argsTo, cellPut_some, Nat.reduceEqDiff, reduceIte, Nat.reduceLT, Nat.reduceAdd, Nat.reduceMul, Nat.reduceLeDiff]
      refine hn _ _ ?_
      clear hn hp K
      refine wpc_ret (end_1 res130 ⟨?_, (Fr.refl (Nat.le_refl _)).up hn1⟩)
      have : cs.drop k = [] := List.drop_eq_nil_of_le (by omega)
      simp [T.get_put, hfi, this, fidx]
  · refine ⟨0, h.n, _, rfl, Nat.le_refl _, Nat.zero_le _, ?_, ?_, ?_, ?_, ?_⟩
    all_goals simp [T.get_put]
theorem idx130_c (xt : Addr → Option Value) (h : Hp) (v fv : AV) (cs : List (List Value)) (p : List Value → Bool) (hv : RowAt xt h 3 v cs) (hl : cs.length ≤ 9223372036854775807) (hf : Asks (SE xt) fv (fun c => .agg (c.map .val)) cs p)
    {K : CR → Hp → Prop} (hk : ∀ n, h.n < n → K (.ret (iv (fidx p cs 0))) (h.up n)) : FnA (SE xt) 130 [v, fv] h K := FnA.calm (idx130_ok xt h v fv cs p hv hl hf) hk
theorem ft85 (xt : Addr → Option Value) : (SE xt).ft.get 85 = some Tryz.f85 := by kernel_rfl
theorem res85 : Tryz.f85.results.toList = [.tmp 4] := by kernel_rfl
theorem any85_c (xt : Addr → Option Value) (h : Hp) (v fv : AV) (cs : List (List Value)) (p : List Value → Bool) (hv : RowAt xt h 3 v cs) (hl : cs.length ≤ 9223372036854775807) (hf : Asks (SE xt) fv (fun c => .agg (c.map .val)) cs p)
    {K : CR → Hp → Prop} (hk : ∀ n, h.n < n → K (.ret (.val (.bool (cs.any p)))) (h.up n)) : FnA (SE xt) 85 [v, fv] h K := by
  refine FnA.calm ?_ hk
  refine FnA.walk (sok xt) (ft85 xt) rfl 9 rfl ?_
  refine seq_reg fun K hn hp => ?_
  simp only [sy.down, argsTo, cellPut_some, Nat.reduceEqDiff, reduceIte, Nat.reduceLT, Nat.reduceAdd, Nat.reduceMul, Nat.reduceLeDiff]
  refine hn _ _ ?_
  clear hn hp K
  refine seq_reg fun K hn hp => ?_
  simp only [sy.down, argsTo, cellPut_some, Nat.reduceEqDiff, reduceIte, Nat.reduceLT, Nat.reduceAdd, Nat.reduceMul, Nat.reduceLeDiff]
  refine callA_func (sok xt) (idx130_c xt h v fv cs p hv hl hf fun n1 hn1 => ?_)
  have hn1 := Nat.le_of_lt hn1
  simp only [sy.down, argsTo, cellPut_some, Nat.reduceEqDiff, reduceIte, Nat.reduceLT, Nat.reduceAdd, Nat.reduceMul, Nat.reduceLeDiff, fidx_any]
  refine hn _ _ (wpc_ret (end_1 res85 ⟨?_, (Fr.refl (Nat.le_refl _)).up hn1⟩))
  simp [T.get_put]
end Go.Proofs.Kn
namespace Go.Proofs.Kn
open Go Go.Ev
set_option maxRecDepth 100000
/-- A sack: numbers of shells, sorts, what was seen, weight, how far off. -/
structure Sk where
  sh : Int
  vs : AV
  ve : AV
  wt : Int
  off : Int
  sorts : List (Int × Int × Int)
  seen : List Int
abbrev Sk.cells (s : Sk) : List AV := [iv s.sh, s.vs, s.ve, iv s.wt, iv s.off]
abbrev Sk.av (s : Sk) : AV := .agg s.cells
def c3 (x : Int × Int × Int) : List Value := [.int .i64 x.1, .int .i64 x.2.1, .int .i64 x.2.2]
def c1 (x : Int) : List Value := [.int .i64 x]
/-- The sack lies so in memory. -/
structure Sk.At (s : Sk) (xt : Addr → Option Value) (h : Hp) : Prop where
  sorts : RowAt xt h 3 s.vs (s.sorts.map c3)
  seen : RowAt xt h 1 s.ve (s.seen.map c1)
  ls : s.sorts.length ≤ 9223372036854775807
  le : s.seen.length ≤ 9223372036854775807
theorem Sk.At.keep {s : Sk} {xt : Addr → Option Value} {h h' : Hp} (a : s.At xt h) (hn : h.n ≤ h'.n) (hk : ∀ b, b < h.n → h'.t.get b = h.t.get b) : s.At xt h' := ⟨a.sorts.keep hn hk, a.seen.keep hn hk, a.ls, a.le⟩
theorem Sk.At.up {s : Sk} {xt : Addr → Option Value} {h : Hp} (a : s.At xt h) {n : Nat} (hn : h.n ≤ n) : s.At xt (h.up n) := a.keep hn fun _ _ => rfl
theorem Sk.At.new {s : Sk} {xt : Addr → Option Value} {h : Hp} (a : s.At xt h) (o : AO) : s.At xt (h.new o) := ⟨a.sorts.new o, a.seen.new o, a.ls, a.le⟩
theorem Sk.At.fr {s : Sk} {xt : Addr → Option Value} {h : Hp} (a : s.At xt h) {m : Nat} {h' : Hp} (f : Fr m h h') (hm : h.n ≤ m) : s.At xt h' := ⟨a.sorts.fr f hm, a.seen.fr f hm, a.ls, a.le⟩

abbrev wr (n : Int) : Int := IntKind.i64.wrap n
/-- What was seen is as defined, from some sum on. -/
def seenW (sh : Int) : List Int → Int → Bool
  | [], _ => true
  | n :: l, a => (decide (0 ≤ n) && decide (n ≤ sh)) && (!decide (sh < wr (a + n)) && seenW sh l (wr (a + n)))
def bad3 (c : List Value) : Bool :=
  match c with
  | [.int _ a, .int _ b, .int _ d] => badSort a b d
  | _ => false
def Sk.ok (s : Sk) : Bool :=
  seenW s.sh s.seen 0 && ((decide (1 ≤ s.sh) && decide (s.sh ≤ 10)) && ((decide ((1 : Int) ≤ s.sorts.length) && decide ((s.sorts.length : Int) ≤ 3)) && (decide ((s.seen.length : Int) = s.sorts.length) &&
    ((decide (0 ≤ s.wt) && decide (s.wt ≤ 1000)) && ((decide (0 ≤ s.off) && decide (s.off ≤ 100)) && !(s.sorts.map c3).any bad3)))))

theorem bad_asks (xt : Addr → Option Value) (l : List (Int × Int × Int)) : Asks (SE xt) (.val (.func (.func 86) #[] #[])) (fun c => .agg (c.map .val)) (l.map c3) bad3 := by
  intro h c K hc hk
  obtain ⟨x, _, rfl⟩ := List.mem_map.1 hc
  exact callA_func (sok xt) (bad_c xt h _ _ _ hk)

theorem ft40 (xt : Addr → Option Value) : (SE xt).ft.get 40 = some Tryz.f40 := by kernel_rfl
theorem res40 : Tryz.f40.results.toList = [.tmp 2] := by kernel_rfl
theorem seenW_drop {sh : Int} {l : List Int} {k : Nat} {n : Int} (hk : l[k]? = some n) (a : Int) : seenW sh (l.drop k) a = ((decide (0 ≤ n) && decide (n ≤ sh)) && (!decide (sh < wr (a + n)) && seenW sh (l.drop (k + 1)) (wr (a + n)))) := by
  obtain ⟨hlt, rfl⟩ := List.getElem?_eq_some_iff.1 hk
  rw [List.drop_eq_getElem_cons hlt]; rfl

theorem isSack_c (xt : Addr → Option Value) (h : Hp) (s : Sk) (ha : s.At xt h) {K : CR → Hp → Prop} (hk : ∀ n, h.n < n → K (.ret (.val (.bool s.ok))) (h.up n)) : FnA (SE xt) 40 [s.av] h K := by
  refine FnA.calm ?_ hk
  clear hk K
  refine FnA.walk (sok xt) (ft40 xt) rfl 60 rfl ?_
  have hfr0 : ∀ n, h.n + 1 ≤ n → Fr h.n h ((h.new (.cells s.cells 25)).up n) := fun n hn => ((Fr.refl (Nat.le_refl _)).new _).up hn
  have ha1 := ha.new (.cells s.cells 25)
  have hlenS := fun h' => ha.sorts.len (h' := h') tg22 rfl
  have hlenE := fun h' => ha.seen.len (h' := h') tg23 rfl
  simp only [List.length_map] at hlenS hlenE
  refine seq_reg fun K hn hp => ?_
  simp only [sy.down, argsTo, cellPut_some, Nat.reduceEqDiff, reduceIte, Nat.reduceLT, Nat.reduceAdd, Nat.reduceMul, Nat.reduceLeDiff]
  refine hn _ _ ?_
  clear hn hp K
  refine seq_reg fun K hn hp => ?_
  simp only [sy.down, argsTo, cellPut_some, Nat.reduceEqDiff, reduceIte, Nat.reduceLT, Nat.reduceAdd, Nat.reduceMul, Nat.reduceLeDiff]
  refine hn _ _ ?_
  clear hn hp K
  refine seq_seq ?_
  refine seq_reg fun K hn hp => ?_
  simp only [sy.down, argsTo, cellPut_some, Nat.reduceEqDiff, reduceIte, Nat.reduceLT, Nat.reduceAdd, Nat.reduceMul, Nat.reduceLeDiff, hlenE]
  refine hn _ _ ?_
  clear hn hp K
  refine seq_block fun K k1 k2 k3 k4 k5 => ?_
  refine wpc_loop (sok xt) (fun st => ∃ (k n : Nat) (a : Int) (tm : T AV), st = ⟨tm, 60, (h.new (.cells s.cells 25)).up n, []⟩ ∧ h.n + 1 ≤ n ∧ k ≤ s.seen.length ∧ tm.get 1 = some (.ptr h.n 0) ∧ tm.get 3 = some (iv a) ∧ tm.get 7 = some s.ve ∧ tm.get 8 = some (iv s.seen.length) ∧ tm.get 9 = some (iv k) ∧ seenW s.sh s.seen 0 = seenW s.sh (s.seen.drop k) a)
    (fun st => s.seen.length - (match st.tm.get 9 with | some (.val (.int _ n)) => n.toNat | _ => 0)) ?_ ?_
  · rintro st ⟨k, n, a, tm, rfl, hn1, hk, g1, g3, g7, g8, g9, hfi⟩
    refine seq_reg fun K hn hp => ?_
    simp only [sy.down, argsTo, cellPut_some, Nat.reduceEqDiff, reduceIte, Nat.reduceLT, Nat.reduceAdd, Nat.reduceMul, Nat.reduceLeDiff, g1, g3, g7, g8, g9]
    refine hn _ _ ?_
    clear hn hp K
    have ht : (decide ((k : Int) < (s.seen.length : Int))) = decide (k < s.seen.length) := by simp
    by_cases hlt : k < s.seen.length
    · obtain ⟨x, hx⟩ : ∃ x, s.seen[k]? = some x := ⟨_, List.getElem?_eq_getElem hlt⟩
      have hidx := ha1.seen.idx tg23 rfl tg3 rfl (by simpa using hlt) (k := .i64)
      have hld : aload tb xt ((h.new (.cells s.cells 25)).up n) 3 (elp s.ve (k * 1)) = some (iv x) := (ha1.seen.up hn1).load0 tg3 rfl (c := c1 x) (by simp [hx]) rfl
      rw [seenW_drop hx] at hfi
      refine seq_cond true (by simp only [sy.down, argsTo, cellPut_some, Nat.reduceEqDiff, reduceIte, Nat.reduceLT, Nat.reduceAdd, Nat.reduceMul, Nat.reduceLeDiff, g1, g3, g7, g8, g9, ht, hlt]) (fun _ => ?_) (fun hx => by cases hx)
      refine seq_skip ?_
      refine seq_block fun K' k1' k2' k3' k4' k5' => ?_
      refine seq_reg fun K hn hp => ?_
      simp only [sy.down, argsTo, cellPut_some, Nat.reduceEqDiff, reduceIte, Nat.reduceLT, Nat.reduceAdd, Nat.reduceMul, Nat.reduceLeDiff, g1, g3, g7, g8, g9, hidx, hld]
      refine hn _ _ ?_
      clear hn hp K
      refine seq_seq ?_
      refine seq_reg fun K hn hp => ?_
      simp only [sy.down, argsTo, cellPut_some, Nat.reduceEqDiff, reduceIte, Nat.reduceLT, Nat.reduceAdd, Nat.reduceMul, Nat.reduceLeDiff, g1, g3, g7, g8, g9]
      refine callA_func (sok xt) (in_c xt _ _ _ _ fun n1 hn1' => ?_)
      have hn1' := Nat.le_of_lt hn1'
      have hn1'' : h.n + 1 ≤ n1 := Nat.le_trans hn1 hn1'
      simp only [sy.down, argsTo, cellPut_some, Nat.reduceEqDiff, reduceIte, Nat.reduceLT, Nat.reduceAdd, Nat.reduceMul, Nat.reduceLeDiff, g1, g3, g7, g8, g9, Hp.up_up]
      refine hn _ _ ?_
      clear hn hp K
      cases q1 : (decide (0 ≤ x) && decide (x ≤ s.sh))
      · refine seq_cond true (by simp only [sy.down, argsTo, cellPut_some, Nat.reduceEqDiff, reduceIte, Nat.reduceLT, Nat.reduceAdd, Nat.reduceMul, Nat.reduceLeDiff, q1]) (fun _ => ?_) (fun hx => by cases hx)
        refine seq_seq ?_
        refine seq_reg fun K hn hp => ?_
        simp only [sy.down, argsTo, cellPut_some, Nat.reduceEqDiff, reduceIte, Nat.reduceLT, Nat.reduceAdd, Nat.reduceMul, Nat.reduceLeDiff]
        refine hn _ _ ?_
        clear hn hp K
        refine seq_ret (k4' _ (k4 _ (end_1 res40 ⟨?_, hfr0 _ hn1''⟩)))
        simp [T.get_put, Sk.ok, hfi, q1]
      · refine seq_cond false (by simp only [sy.down, argsTo, cellPut_some, Nat.reduceEqDiff, reduceIte, Nat.reduceLT, Nat.reduceAdd, Nat.reduceMul, Nat.reduceLeDiff, q1]) (fun hx => by cases hx) (fun _ => ?_)
        refine seq_skip ?_
        refine seq_reg fun K hn hp => ?_
        simp only [sy.down, argsTo, cellPut_some, Nat.reduceEqDiff, reduceIte, Nat.reduceLT, Nat.reduceAdd, Nat.reduceMul, Nat.reduceLeDiff, g1, g3, g7, g8, g9]
        refine hn _ _ ?_
        clear hn hp K
        refine seq_reg fun K hn hp => ?_
        simp only [sy.down, argsTo, cellPut_some, Nat.reduceEqDiff, reduceIte, Nat.reduceLT, Nat.reduceAdd, Nat.reduceMul, Nat.reduceLeDiff, g1, g3, g7, g8, g9]
        refine hn _ _ ?_
        clear hn hp K
        cases q2 : decide (s.sh < wr (a + x))
        · refine wpc_cond false (by simp only [sy.down, argsTo, cellPut_some, Nat.reduceEqDiff, reduceIte, Nat.reduceLT, Nat.reduceAdd, Nat.reduceMul, Nat.reduceLeDiff, q2]) (fun hx => by cases hx) (fun _ => ?_)
          refine wpc_skip (k1' _ ?_)
          refine reg fun K hn hp' => ?_
          have hw : IntKind.i64.wrap ((k : Int) + 1) = ((k + 1 : Nat) : Int) := by have := ha.le; rw [wrap_i64 _ (by omega) (by omega)]; simp
          simp only [sy.down, argsTo, cellPut_some, Nat.reduceEqDiff, reduceIte, Nat.reduceLT, Nat.reduceAdd, Nat.reduceMul, Nat.reduceLeDiff, g9, hw]
          refine hn _ _ ?_
          refine ⟨⟨k + 1, n1, wr (a + x), _, rfl, hn1'', hlt, ?_, ?_, ?_, ?_, ?_, ?_⟩, ?_⟩
          · simp [T.get_put, g1]
          · simp [T.get_put]
          · simp [T.get_put, g7]
          · simp [T.get_put, g8]
          · simp [T.get_put]
          · rw [hfi, q1, q2]; simp
          · have hm : s.seen.length - (k + 1) < s.seen.length - k := by omega
            simpa [T.get_put, g9] using hm
        · refine wpc_cond true (by simp only [sy.down, argsTo, cellPut_some, Nat.reduceEqDiff, reduceIte, Nat.reduceLT, Nat.reduceAdd, Nat.reduceMul, Nat.reduceLeDiff, q2]) (fun _ => ?_) (fun hx => by cases hx)
          refine seq_reg fun K hn hp => ?_
          simp only [sy.down, argsTo, cellPut_some, Nat.reduceEqDiff, reduceIte, Nat.reduceLT, Nat.reduceAdd, Nat.reduceMul, Nat.reduceLeDiff]
          refine hn _ _ ?_
          clear hn hp K
          refine wpc_ret (k4' _ (k4 _ (end_1 res40 ⟨?_, hfr0 _ hn1''⟩)))
          simp [T.get_put, Sk.ok, hfi, q2]
    · refine seq_cond false (by simp only [sy.down, argsTo, cellPut_some, Nat.reduceEqDiff, reduceIte, Nat.reduceLT, Nat.reduceAdd, Nat.reduceMul, Nat.reduceLeDiff, g1, g3, g7, g8, g9, ht, hlt]) (fun hx => by cases hx) (fun _ => ?_)
      refine seq_exit (k2 _ ?_)
      have hnil : s.seen.drop k = [] := List.drop_eq_nil_of_le (by omega)
      rw [hnil] at hfi
      refine seq_reg fun K hn hp => ?_
      simp only [sy.down, argsTo, cellPut_some, Nat.reduceEqDiff, reduceIte, Nat.reduceLT, Nat.reduceAdd, Nat.reduceMul, Nat.reduceLeDiff, g1]
      refine callA_func (sok xt) (in_c xt _ _ _ _ fun n1 hn1' => ?_)
      have hn1' := Nat.le_of_lt hn1'
      have hn1'' : h.n + 1 ≤ n1 := Nat.le_trans hn1 hn1'
      cases q1 : (decide (1 ≤ s.sh) && decide (s.sh ≤ 10))
      · simp only [sy.down, argsTo, cellPut_some, Nat.reduceEqDiff, reduceIte, Nat.reduceLT, Nat.reduceAdd, Nat.reduceMul, Nat.reduceLeDiff, q1, g1, Hp.up_up]
        refine hn _ _ (wpc_ret (end_1 res40 ⟨?_, hfr0 _ hn1''⟩))
        simp [T.get_put, Sk.ok, q1]
      simp only [sy.down, argsTo, cellPut_some, Nat.reduceEqDiff, reduceIte, Nat.reduceLT, Nat.reduceAdd, Nat.reduceMul, Nat.reduceLeDiff, q1, g1, Hp.up_up, hlenS]
      refine callA_func (sok xt) (in_c xt _ _ _ _ fun n2 hn2' => ?_)
      have hn2' := Nat.le_of_lt hn2'
      have hn2'' : h.n + 1 ≤ n2 := Nat.le_trans hn1'' hn2'
      cases q2 : (decide ((1 : Int) ≤ s.sorts.length) && decide ((s.sorts.length : Int) ≤ 3))
      · simp only [sy.down, argsTo, cellPut_some, Nat.reduceEqDiff, reduceIte, Nat.reduceLT, Nat.reduceAdd, Nat.reduceMul, Nat.reduceLeDiff, q2, g1, Hp.up_up]
        refine hn _ _ (wpc_ret (end_1 res40 ⟨?_, hfr0 _ hn2''⟩))
        simp [T.get_put, Sk.ok, q2]
      cases q3 : decide ((s.seen.length : Int) = s.sorts.length)
      · simp only [sy.down, argsTo, cellPut_some, Nat.reduceEqDiff, reduceIte, Nat.reduceLT, Nat.reduceAdd, Nat.reduceMul, Nat.reduceLeDiff, q2, q3, g1, Hp.up_up, hlenS, hlenE]
        refine hn _ _ (wpc_ret (end_1 res40 ⟨?_, hfr0 _ hn2''⟩))
        simp [T.get_put, Sk.ok, q3]
      simp only [sy.down, argsTo, cellPut_some, Nat.reduceEqDiff, reduceIte, Nat.reduceLT, Nat.reduceAdd, Nat.reduceMul, Nat.reduceLeDiff, q2, q3, g1, Hp.up_up, hlenS, hlenE]
      refine callA_func (sok xt) (in_c xt _ _ _ _ fun n3 hn3' => ?_)
      have hn3' := Nat.le_of_lt hn3'
      have hn3'' : h.n + 1 ≤ n3 := Nat.le_trans hn2'' hn3'
      cases q4 : (decide (0 ≤ s.wt) && decide (s.wt ≤ 1000))
      · simp only [sy.down, argsTo, cellPut_some, Nat.reduceEqDiff, reduceIte, Nat.reduceLT, Nat.reduceAdd, Nat.reduceMul, Nat.reduceLeDiff, q4, g1, Hp.up_up]
        refine hn _ _ (wpc_ret (end_1 res40 ⟨?_, hfr0 _ hn3''⟩))
        simp [T.get_put, Sk.ok, q4]
      simp only [sy.down, argsTo, cellPut_some, Nat.reduceEqDiff, reduceIte, Nat.reduceLT, Nat.reduceAdd, Nat.reduceMul, Nat.reduceLeDiff, q4, g1, Hp.up_up]
      refine callA_func (sok xt) (in_c xt _ _ _ _ fun n4 hn4' => ?_)
      have hn4' := Nat.le_of_lt hn4'
      have hn4'' : h.n + 1 ≤ n4 := Nat.le_trans hn3'' hn4'
      cases q5 : (decide (0 ≤ s.off) && decide (s.off ≤ 100))
      · simp only [sy.down, argsTo, cellPut_some, Nat.reduceEqDiff, reduceIte, Nat.reduceLT, Nat.reduceAdd, Nat.reduceMul, Nat.reduceLeDiff, q5, g1, Hp.up_up]
        refine hn _ _ (wpc_ret (end_1 res40 ⟨?_, hfr0 _ hn4''⟩))
        simp [T.get_put, Sk.ok, q5]
      simp only [sy.down, argsTo, cellPut_some, Nat.reduceEqDiff, reduceIte, Nat.reduceLT, Nat.reduceAdd, Nat.reduceMul, Nat.reduceLeDiff, q5, g1, Hp.up_up]
      refine callA_func (sok xt) (any85_c xt _ _ _ _ bad3 (ha1.sorts.up hn4'') (by simpa using ha.ls) (bad_asks xt _) fun n5 hn5' => ?_)
      have hn5' := Nat.le_of_lt hn5'
      have hn5'' : h.n + 1 ≤ n5 := Nat.le_trans hn4'' hn5'
      simp only [sy.down, argsTo, cellPut_some, Nat.reduceEqDiff, reduceIte, Nat.reduceLT, Nat.reduceAdd, Nat.reduceMul, Nat.reduceLeDiff, g1, Hp.up_up]
      refine hn _ _ (wpc_ret (end_1 res40 ⟨?_, hfr0 _ hn5''⟩))
      simp [T.get_put, Sk.ok, q1, q2, q3, q4, q5, hfi, seenW]
  · refine ⟨0, h.n + 1, 0, _, rfl, Nat.le_refl _, Nat.zero_le _, ?_, ?_, ?_, ?_, ?_, ?_⟩
    all_goals simp [T.get_put]
end Go.Proofs.Kn
namespace Go.Proofs.Kn
open Go Go.Ev
set_option maxRecDepth 100000
/-! ### sum -/
def sumW : List Int → Int → Int
  | [], a => a
  | x :: l, a => sumW l (wr (a + x))
theorem sumW_drop {l : List Int} {k : Nat} {n : Int} (hk : l[k]? = some n) (a : Int) : sumW (l.drop k) a = sumW (l.drop (k + 1)) (wr (a + n)) := by
  obtain ⟨hlt, rfl⟩ := List.getElem?_eq_some_iff.1 hk
  rw [List.drop_eq_getElem_cons hlt]; rfl
theorem ft53 (xt : Addr → Option Value) : (SE xt).ft.get 53 = some Tryz.f53 := by kernel_rfl
theorem res53 : Tryz.f53.results.toList = [.tmp 2] := by kernel_rfl
theorem sum_c (xt : Addr → Option Value) (h : Hp) (v : AV) (l : List Int) (hv : RowAt xt h 1 v (l.map c1)) (hl : l.length ≤ 9223372036854775807) {K : CR → Hp → Prop} (hk : ∀ n, h.n < n → K (.ret (iv (sumW l 0))) (h.up n)) : FnA (SE xt) 53 [v] h K := by
  refine FnA.calm ?_ hk
  clear hk K
  refine FnA.walk (sok xt) (ft53 xt) rfl 17 rfl ?_
  have hlen := fun h' => hv.len (h' := h') tg23 rfl
  simp only [List.length_map] at hlen
  refine seq_reg fun K hn hp => ?_
  simp only [sy.down, argsTo, cellPut_some, Nat.reduceEqDiff, reduceIte, Nat.reduceLT, Nat.reduceAdd, Nat.reduceMul, Nat.reduceLeDiff]
  refine hn _ _ ?_
  clear hn hp K
  refine seq_reg fun K hn hp => ?_
  simp only [sy.down, argsTo, cellPut_some, Nat.reduceEqDiff, reduceIte, Nat.reduceLT, Nat.reduceAdd, Nat.reduceMul, Nat.reduceLeDiff]
  refine hn _ _ ?_
  clear hn hp K
  refine seq_seq ?_
  refine seq_reg fun K hn hp => ?_
  simp only [sy.down, argsTo, cellPut_some, Nat.reduceEqDiff, reduceIte, Nat.reduceLT, Nat.reduceAdd, Nat.reduceMul, Nat.reduceLeDiff, hlen]
  refine hn _ _ ?_
  clear hn hp K
  refine seq_block fun K k1 k2 k3 k4 k5 => ?_
  refine wpc_loop (sok xt) (fun st => ∃ (k : Nat) (a : Int) (tm : T AV), st = ⟨tm, 17, h, []⟩ ∧ k ≤ l.length ∧ tm.get 3 = some (iv a) ∧ tm.get 6 = some v ∧ tm.get 7 = some (iv l.length) ∧ tm.get 8 = some (iv k) ∧ sumW l 0 = sumW (l.drop k) a)
    (fun st => l.length - (match st.tm.get 8 with | some (.val (.int _ n)) => n.toNat | _ => 0)) ?_ ?_
  · rintro st ⟨k, a, tm, rfl, hk, g3, g6, g7, g8, hfi⟩
    refine seq_reg fun K hn hp => ?_
    simp only [sy.down, argsTo, cellPut_some, Nat.reduceEqDiff, reduceIte, Nat.reduceLT, Nat.reduceAdd, Nat.reduceMul, Nat.reduceLeDiff, g3, g6, g7, g8]
    refine hn _ _ ?_
    clear hn hp K
    have ht : (decide ((k : Int) < (l.length : Int))) = decide (k < l.length) := by simp
    by_cases hlt : k < l.length
    · obtain ⟨x, hx⟩ : ∃ x, l[k]? = some x := ⟨_, List.getElem?_eq_getElem hlt⟩
      have hidx := hv.idx tg23 rfl tg3 rfl (by simpa using hlt) (k := .i64)
      have hld : aload tb xt h 3 (elp v (k * 1)) = some (iv x) := hv.load0 tg3 rfl (c := c1 x) (by simp [hx]) rfl
      rw [sumW_drop hx] at hfi
      refine seq_cond true (by simp only [sy.down, argsTo, cellPut_some, Nat.reduceEqDiff, reduceIte, Nat.reduceLT, Nat.reduceAdd, Nat.reduceMul, Nat.reduceLeDiff, g3, g6, g7, g8, ht, hlt]) (fun _ => ?_) (fun hx => by cases hx)
      refine seq_skip ?_
      refine seq_block fun K' k1' k2' k3' k4' k5' => ?_
      refine seq_reg fun K hn hp => ?_
      simp only [sy.down, argsTo, cellPut_some, Nat.reduceEqDiff, reduceIte, Nat.reduceLT, Nat.reduceAdd, Nat.reduceMul, Nat.reduceLeDiff, g3, g6, g7, g8, hidx, hld]
      refine hn _ _ ?_
      clear hn hp K
      refine reg fun K hn hp => ?_
      simp only [sy.down, argsTo, cellPut_some, Nat.reduceEqDiff, reduceIte, Nat.reduceLT, Nat.reduceAdd, Nat.reduceMul, Nat.reduceLeDiff, g3, g6, g7, g8]
      refine hn _ _ (k1' _ ?_)
      refine reg fun K hn hp => ?_
      have hw : IntKind.i64.wrap ((k : Int) + 1) = ((k + 1 : Nat) : Int) := by rw [wrap_i64 _ (by omega) (by omega)]; simp
      simp only [sy.down, argsTo, cellPut_some, Nat.reduceEqDiff, reduceIte, Nat.reduceLT, Nat.reduceAdd, Nat.reduceMul, Nat.reduceLeDiff, g8, hw]
      refine hn _ _ ?_
      refine ⟨⟨k + 1, wr (a + x), _, rfl, hlt, ?_, ?_, ?_, ?_, hfi⟩, ?_⟩
      · simp [T.get_put]
      · simp [T.get_put, g6]
      · simp [T.get_put, g7]
      · simp [T.get_put]
      · have hm : l.length - (k + 1) < l.length - k := by omega
        simpa [T.get_put, g8] using hm
    · refine seq_cond false (by simp only [sy.down, argsTo, cellPut_some, Nat.reduceEqDiff, reduceIte, Nat.reduceLT, Nat.reduceAdd, Nat.reduceMul, Nat.reduceLeDiff, g3, g6, g7, g8, ht, hlt]) (fun hx => by cases hx) (fun _ => ?_)
      refine seq_exit (k2 _ ?_)
      refine seq_reg fun K hn hp => ?_
      simp only [sy.down, argsTo, cellPut_some, Nat.reduceEqDiff, reduceIte, Nat.reduceLT, Nat.reduceAdd, Nat.reduceMul, Nat.reduceLeDiff, g3]
      refine hn _ _ ?_
      clear hn hp K
      refine wpc_ret (end_1 res53 ⟨?_, Fr.refl (Nat.le_refl _)⟩)
      have : l.drop k = [] := List.drop_eq_nil_of_le (by omega)
      simp [T.get_put, hfi, this, sumW]
  · refine ⟨0, 0, _, rfl, Nat.zero_le _, ?_, ?_, ?_, ?_, ?_⟩
    all_goals simp [T.get_put]

/-! ### list -/
abbrev sh3 (n : Nat → Int) : AV := .agg [iv (n 0), iv (n 1), iv (n 2)]
theorem ft44 (xt : Addr → Option Value) : (SE xt).ft.get 44 = some Tryz.f44 := by kernel_rfl
theorem res44 : Tryz.f44.results.toList = [.cell 2 95] := by kernel_rfl
theorem sl95 (h : Hp) (b : Nat) (cs : List AV) (e : TypeId) (hb : h.t.get b = some (.cells cs e)) (hl : 3 ≤ cs.length) : aslice tb h 95 (.ptr b 0) none none = some (.sl b 0 3 1) := by
  have e1 : Nat.ble (0 + 3 * 1) cs.length = true := by rw [Nat.ble_eq]; omega
  have e2 : te95.d = .array 3 3 := rfl
  have e3 : te3.size = 1 := rfl
  simp only [aslice, tg95, e2, tg3, hb, abound, e3, e1]; rfl
theorem cp23 {xt : Addr → Option Value} {h : Hp} {b n : Nat} {cs xs : List AV} {e : TypeId} {v : AV} (hb : h.t.get b = some (.cells cs e)) (hs : asrc xt h 1 v = some (n, xs)) (hn : n ≤ 3) (hc : n ≤ cs.length) :
    abuiltin Tryz.prog tb xt .copy [23, 23] [.sl b 0 3 1, v] h = some (.val (.int .i64 n), h.set b (.cells (xs ++ cs.drop n) e)) := by
  have e2 : te23.d = .slice 3 := rfl
  have e3 : te3.size = 1 := rfl
  have b1 : Nat.ble n 3 = true := by rw [Nat.ble_eq]; exact hn
  have b2 : Nat.ble (0 + n * 1) cs.length = true := by rw [Nat.ble_eq]; omega
  simp only [abuiltin, acopy, tg23, e2, tg3, e3, hs, hb, b1, b2]
  simp
  rfl
theorem list_c (xt : Addr → Option Value) (h : Hp) (v : AV) (l : List Int) (hv : RowAt xt h 1 v (l.map c1)) (hl : l.length ≤ 3) {K : CR → Hp → Prop} (hk : ∀ n, h.n < n → K (.ret (sh3 fun i => l.getD i 0)) (h.up n)) : FnA (SE xt) 44 [v] h K := by
  refine FnA.calm ?_ hk
  clear hk K
  refine FnA.walk (sok xt) (ft44 xt) rfl 8 rfl ?_
  have hsrc : ∀ o1 o2, asrc xt ((h.new o1).new o2) 1 v = some (l.length, l.map iv) := fun o1 o2 => ((hv.new o1).new o2).src
  have hfr : ∀ o1 o2 o3 o4, Fr h.n h ((((h.new o1).new o2).set (h.n + 1) o3).set h.n o4) := fun o1 o2 o3 o4 => ((((Fr.refl (Nat.le_refl _)).new _).new _).set (by omega) (by simp [Hp.new_n]) _).set (by omega) (by simp [Hp.new_n, Hp.set_n]; omega) _
  refine seq_reg fun K hn hp => ?_
  simp only [sy.down, argsTo, cellPut_some, Nat.reduceEqDiff, reduceIte, Nat.reduceLT, Nat.reduceAdd, Nat.reduceMul, Nat.reduceLeDiff]
  refine hn _ _ ?_
  clear hn hp K
  refine seq_reg fun K hn hp => ?_
  simp only [sy.down, argsTo, cellPut_some, Nat.reduceEqDiff, reduceIte, Nat.reduceLT, Nat.reduceAdd, Nat.reduceMul, Nat.reduceLeDiff]
  refine hn _ _ ?_
  clear hn hp K
  refine seq_reg fun K hn hp => ?_
  have hs := sl95 ((h.new (.cells [iv 0, iv 0, iv 0] 95)).new (.cells [iv 0, iv 0, iv 0] 95)) (h.n + 1) [iv 0, iv 0, iv 0] 95 (by simp [Hp.new_t, Hp.new_n, T.get_put]) (by simp)
  have hcp := cp23 (b := h.n + 1) (cs := [iv 0, iv 0, iv 0]) (e := 95) (by simp [Hp.new_t, Hp.new_n, T.get_put]) (hsrc (.cells [iv 0, iv 0, iv 0] 95) (.cells [iv 0, iv 0, iv 0] 95)) hl (by simpa using hl)
  simp only [sy.down, argsTo, cellPut_some, Nat.reduceEqDiff, reduceIte, Nat.reduceLT, Nat.reduceAdd, Nat.reduceMul, Nat.reduceLeDiff, WOp_slice, Option.map_none, hs, hcp]
  refine hn _ _ ?_
  clear hn hp K
  have hne : (h.n + 1 = h.n) = False := by simp
  have hne' : (h.n = h.n + 1) = False := by simp
  match l, hl with
  | [], _ =>
    refine seq_reg fun K hn hp => ?_
    simp only [sy.down, argsTo, cellPut_some, Nat.reduceEqDiff, reduceIte, Nat.reduceLT, Nat.reduceAdd, Nat.reduceMul, Nat.reduceLeDiff, hne, hne']
    refine hn _ _ ?_
    clear hn hp K
    refine wpc_ret (end_c res44 (by simp only [sy.down, argsTo, cellPut_some, Nat.reduceEqDiff, reduceIte, Nat.reduceLT, Nat.reduceAdd, Nat.reduceMul, Nat.reduceLeDiff, hne, hne']; rfl) ⟨?_, hfr _ _ _ _⟩)
    simp
  | [a], _ =>
    refine seq_reg fun K hn hp => ?_
    simp only [sy.down, argsTo, cellPut_some, Nat.reduceEqDiff, reduceIte, Nat.reduceLT, Nat.reduceAdd, Nat.reduceMul, Nat.reduceLeDiff, hne, hne']
    refine hn _ _ ?_
    clear hn hp K
    refine wpc_ret (end_c res44 (by simp only [sy.down, argsTo, cellPut_some, Nat.reduceEqDiff, reduceIte, Nat.reduceLT, Nat.reduceAdd, Nat.reduceMul, Nat.reduceLeDiff, hne, hne']; rfl) ⟨?_, hfr _ _ _ _⟩)
    simp
  | [a, b], _ =>
    refine seq_reg fun K hn hp => ?_
    simp only [sy.down, argsTo, cellPut_some, Nat.reduceEqDiff, reduceIte, Nat.reduceLT, Nat.reduceAdd, Nat.reduceMul, Nat.reduceLeDiff, hne, hne']
    refine hn _ _ ?_
    clear hn hp K
    refine wpc_ret (end_c res44 (by simp only [sy.down, argsTo, cellPut_some, Nat.reduceEqDiff, reduceIte, Nat.reduceLT, Nat.reduceAdd, Nat.reduceMul, Nat.reduceLeDiff, hne, hne']; rfl) ⟨?_, hfr _ _ _ _⟩)
    simp
  | [a, b, c], _ =>
    refine seq_reg fun K hn hp => ?_
    simp only [sy.down, argsTo, cellPut_some, Nat.reduceEqDiff, reduceIte, Nat.reduceLT, Nat.reduceAdd, Nat.reduceMul, Nat.reduceLeDiff, hne, hne']
    refine hn _ _ ?_
    clear hn hp K
    refine wpc_ret (end_c res44 (by simp only [sy.down, argsTo, cellPut_some, Nat.reduceEqDiff, reduceIte, Nat.reduceLT, Nat.reduceAdd, Nat.reduceMul, Nat.reduceLeDiff, hne, hne']; rfl) ⟨?_, hfr _ _ _ _⟩)
    simp
end Go.Proofs.Kn
namespace Go.Proofs.Kn
open Go Go.Ev
set_option maxRecDepth 100000
/-- Sums over sorts, with numbers of shells of them. -/
def accW (n : Nat → Int) (g : Int × Int × Int → Int) : List (Int × Int × Int) → Nat → Int → Int
  | [], _, a => a
  | x :: l, i, a => accW n g l (i + 1) (wr (a + wr (n i * g x)))
theorem accW_drop {n : Nat → Int} {g : Int × Int × Int → Int} {l : List (Int × Int × Int)} {k : Nat} {x : Int × Int × Int} (hk : l[k]? = some x) (a : Int) : accW n g (l.drop k) k a = accW n g (l.drop (k + 1)) (k + 1) (wr (a + wr (n k * g x))) := by
  obtain ⟨hlt, rfl⟩ := List.getElem?_eq_some_iff.1 hk
  rw [List.drop_eq_getElem_cons hlt]; rfl
theorem sh3_get (n : Nat → Int) {k : Nat} (hk : k < 3) : [iv (n 0), iv (n 1), iv (n 2)][k]? = some (iv (n k)) := by
  match k, hk with
  | 0, _ => rfl
  | 1, _ => rfl
  | 2, _ => rfl
def Sk.weighs (s : Sk) (n : Nat → Int) : Bool := decide (accW n (·.2.1) s.sorts 0 0 ≤ wr (s.wt + s.off)) && decide (wr (s.wt - s.off) ≤ accW n (·.2.2) s.sorts 0 0)
theorem ft54 (xt : Addr → Option Value) : (SE xt).ft.get 54 = some Tryz.f54 := by kernel_rfl
theorem res54 : Tryz.f54.results.toList = [.tmp 4] := by kernel_rfl
theorem weighs_c (xt : Addr → Option Value) (h : Hp) (s : Sk) (ha : s.At xt h) (h3 : s.sorts.length ≤ 3) (m : Nat → Int) {K : CR → Hp → Prop} (hk : ∀ n, h.n < n → K (.ret (.val (.bool (s.weighs m)))) (h.up n)) : FnA (SE xt) 54 [s.av, sh3 m] h K := by
  refine FnA.calm ?_ hk
  clear hk K
  refine FnA.walk (sok xt) (ft54 xt) rfl 52 rfl ?_
  have ha1 := (ha.new (.cells s.cells 25)).new (.cells [iv (m 0), iv (m 1), iv (m 2)] 95)
  have hlenS := fun h' => ha.sorts.len (h' := h') tg22 rfl
  simp only [List.length_map] at hlenS
  have hne : (h.n = h.n + 1) = False := by simp
  refine seq_reg fun K hn hp => ?_
  simp only [sy.down, argsTo, cellPut_some, Nat.reduceEqDiff, reduceIte, Nat.reduceLT, Nat.reduceAdd, Nat.reduceMul, Nat.reduceLeDiff, hne]
  refine hn _ _ ?_
  clear hn hp K
  refine seq_reg fun K hn hp => ?_
  simp only [sy.down, argsTo, cellPut_some, Nat.reduceEqDiff, reduceIte, Nat.reduceLT, Nat.reduceAdd, Nat.reduceMul, Nat.reduceLeDiff, hne]
  refine hn _ _ ?_
  clear hn hp K
  refine seq_seq ?_
  refine seq_reg fun K hn hp => ?_
  simp only [sy.down, argsTo, cellPut_some, Nat.reduceEqDiff, reduceIte, Nat.reduceLT, Nat.reduceAdd, Nat.reduceMul, Nat.reduceLeDiff, hne, hlenS]
  refine hn _ _ ?_
  clear hn hp K
  refine seq_block fun K k1 k2 k3 k4 k5 => ?_
  refine wpc_loop (sok xt) (fun st => ∃ (k : Nat) (a b : Int) (tm : T AV) (hc : Hp), st = ⟨tm, 52, hc, []⟩ ∧ Fr (h.n + 2) ((h.new (.cells s.cells 25)).new (.cells [iv (m 0), iv (m 1), iv (m 2)] 95)) hc ∧ k ≤ s.sorts.length ∧ tm.get 2 = some (.ptr h.n 0) ∧ tm.get 3 = some (.ptr (h.n + 1) 0) ∧ tm.get 5 = some (iv a) ∧ tm.get 6 = some (iv b) ∧ tm.get 10 = some s.vs ∧ tm.get 11 = some (iv s.sorts.length) ∧ tm.get 12 = some (iv k) ∧
      accW m (·.2.1) s.sorts 0 0 = accW m (·.2.1) (s.sorts.drop k) k a ∧ accW m (·.2.2) s.sorts 0 0 = accW m (·.2.2) (s.sorts.drop k) k b)
    (fun st => s.sorts.length - (match st.tm.get 12 with | some (.val (.int _ n)) => n.toNat | _ => 0)) ?_ ?_
  · rintro st ⟨k, a, b, tm, hc, rfl, fr, hk, g2, g3, g5, g6, g10, g11, g12, hfa, hfb⟩
    have hlo := fr.lo
    have q0 : hc.t.get h.n = some (.cells s.cells 25) := by rw [fr.at_ _ (by omega)]; simp [Hp.new_t, Hp.new_n, T.get_put]
    have q1 : hc.t.get (h.n + 1) = some (.cells [iv (m 0), iv (m 1), iv (m 2)] 95) := by rw [fr.at_ _ (by omega)]; simp [Hp.new_t, Hp.new_n, T.get_put]
    have n0 : (h.n = hc.n) = False := by simp; omega
    have n1 : (h.n + 1 = hc.n) = False := by simp; omega
    refine seq_reg fun K hn hp => ?_
    simp only [sy.down, argsTo, cellPut_some, Nat.reduceEqDiff, reduceIte, Nat.reduceLT, Nat.reduceAdd, Nat.reduceMul, Nat.reduceLeDiff, g2, g3, g5, g6, g10, g11, g12]
    refine hn _ _ ?_
    clear hn hp K
    have ht : (decide ((k : Int) < (s.sorts.length : Int))) = decide (k < s.sorts.length) := by simp
    by_cases hlt : k < s.sorts.length
    · obtain ⟨x, hx⟩ : ∃ x, s.sorts[k]? = some x := ⟨_, List.getElem?_eq_getElem hlt⟩
      have hidx := ha1.sorts.idx tg22 rfl tg101 rfl (by simpa using hlt) (k := .i64)
      have hld : aload tb xt hc 101 (elp s.vs (k * 3)) = some (.agg [iv x.1, iv x.2.1, iv x.2.2]) := (ha1.sorts.fr fr (by simp [Hp.new_n])).loadA tg101 rfl rfl (c := c3 x) (by simp [hx])
      have hia : aindexAddr tb 95 (.ptr (h.n + 1) 0) (.val (.int .i64 (k : Int))) = some (.ptr (h.n + 1) (0 + k * 1)) := ia95 _ _ _ (by omega)
      have hsg := sh3_get m (k := k) (by omega)
      rw [accW_drop hx] at hfa hfb
      refine seq_cond true (by simp only [sy.down, argsTo, cellPut_some, Nat.reduceEqDiff, reduceIte, Nat.reduceLT, Nat.reduceAdd, Nat.reduceMul, Nat.reduceLeDiff, g11, g12, ht, hlt]) (fun _ => ?_) (fun hx => by cases hx)
      refine seq_skip ?_
      refine seq_block fun K' k1' k2' k3' k4' k5' => ?_
      refine seq_reg fun K hn hp => ?_
      simp only [sy.down, argsTo, cellPut_some, Nat.reduceEqDiff, reduceIte, Nat.reduceLT, Nat.reduceAdd, Nat.reduceMul, Nat.reduceLeDiff, g2, g3, g5, g6, g10, g11, g12, hidx, hld]
      refine hn _ _ ?_
      clear hn hp K
      refine regD (sok xt) 20 (by kernel_rfl) fun K hn hp => ?_
      simp only [sy.down, argsTo, cellPut_some, Nat.reduceEqDiff, reduceIte, Nat.reduceLT, Nat.reduceAdd, Nat.reduceMul, Nat.reduceLeDiff, g2, g3, g5, g6, g10, g11, g12, q0, q1, n0, n1, hia, Nat.mul_one, hsg]
      refine hn _ _ (k1' _ ?_)
      refine reg fun K hn hp => ?_
      have hw : IntKind.i64.wrap ((k : Int) + 1) = ((k + 1 : Nat) : Int) := by have := ha.ls; rw [wrap_i64 _ (by omega) (by omega)]; simp
      simp only [sy.down, argsTo, cellPut_some, Nat.reduceEqDiff, reduceIte, Nat.reduceLT, Nat.reduceAdd, Nat.reduceMul, Nat.reduceLeDiff, g12, hw]
      refine hn _ _ ?_
      refine ⟨⟨k + 1, _, _, _, _, rfl, (fr.new _).set hlo (by simp [Hp.new_n]) _, hlt, ?_, ?_, ?_, ?_, ?_, ?_, ?_, hfa, hfb⟩, ?_⟩
      · simp [T.get_put, g2]
      · simp [T.get_put, g3]
      · simp [T.get_put]
      · simp [T.get_put]
      · simp [T.get_put, g10]
      · simp [T.get_put, g11]
      · simp [T.get_put]
      · have hm : s.sorts.length - (k + 1) < s.sorts.length - k := by omega
        simpa [T.get_put, g12] using hm
    · refine seq_cond false (by simp only [sy.down, argsTo, cellPut_some, Nat.reduceEqDiff, reduceIte, Nat.reduceLT, Nat.reduceAdd, Nat.reduceMul, Nat.reduceLeDiff, g11, g12, ht, hlt]) (fun hx => by cases hx) (fun _ => ?_)
      refine seq_exit (k2 _ ?_)
      have hnil : s.sorts.drop k = [] := List.drop_eq_nil_of_le (by omega)
      rw [hnil] at hfa hfb
      have hfr : Fr h.n h hc := (((Fr.refl (Nat.le_refl _)).new _).new _).trans fr (by omega)
      cases c : decide (a ≤ wr (s.wt + s.off))
      · refine seq_reg fun K hn hp => ?_
        simp only [sy.down, argsTo, cellPut_some, Nat.reduceEqDiff, reduceIte, Nat.reduceLT, Nat.reduceAdd, Nat.reduceMul, Nat.reduceLeDiff, g2, g5, g6, q0, c]
        refine hn _ _ ?_
        clear hn hp K
        refine wpc_ret (end_1 res54 ⟨?_, hfr⟩)
        simp [T.get_put, Sk.weighs, hfa, hfb, accW, c]
      · refine seq_reg fun K hn hp => ?_
        simp only [sy.down, argsTo, cellPut_some, Nat.reduceEqDiff, reduceIte, Nat.reduceLT, Nat.reduceAdd, Nat.reduceMul, Nat.reduceLeDiff, g2, g5, g6, q0, c]
        refine hn _ _ ?_
        clear hn hp K
        refine wpc_ret (end_1 res54 ⟨?_, hfr⟩)
        simp [T.get_put, Sk.weighs, hfa, hfb, accW, c]
  · refine ⟨0, 0, 0, _, _, rfl, Fr.refl (by simp [Hp.new_n]), Nat.zero_le _, ?_, ?_, ?_, ?_, ?_, ?_, ?_, ?_, ?_⟩
    all_goals simp [T.get_put]

theorem ft50 (xt : Addr → Option Value) : (SE xt).ft.get 50 = some Tryz.f50 := by kernel_rfl
theorem res50 : Tryz.f50.results.toList = [.tmp 4] := by kernel_rfl
def Sk.blanks (s : Sk) (n : Nat → Int) : Int := accW n (·.1) s.sorts 0 0
theorem blanks_c (xt : Addr → Option Value) (h : Hp) (s : Sk) (ha : s.At xt h) (h3 : s.sorts.length ≤ 3) (m : Nat → Int) {K : CR → Hp → Prop} (hk : ∀ n, h.n < n → K (.ret (iv (s.blanks m))) (h.up n)) : FnA (SE xt) 50 [s.av, sh3 m] h K := by
  refine FnA.calm ?_ hk
  clear hk K
  refine FnA.walk (sok xt) (ft50 xt) rfl 26 rfl ?_
  have ha1 := (ha.new (.cells s.cells 25)).new (.cells [iv (m 0), iv (m 1), iv (m 2)] 95)
  have hlenS := fun h' => ha.sorts.len (h' := h') tg22 rfl
  simp only [List.length_map] at hlenS
  have hne : (h.n = h.n + 1) = False := by simp
  refine seq_reg fun K hn hp => ?_
  simp only [sy.down, argsTo, cellPut_some, Nat.reduceEqDiff, reduceIte, Nat.reduceLT, Nat.reduceAdd, Nat.reduceMul, Nat.reduceLeDiff, hne]
  refine hn _ _ ?_
  clear hn hp K
  refine seq_reg fun K hn hp => ?_
  simp only [sy.down, argsTo, cellPut_some, Nat.reduceEqDiff, reduceIte, Nat.reduceLT, Nat.reduceAdd, Nat.reduceMul, Nat.reduceLeDiff, hne]
  refine hn _ _ ?_
  clear hn hp K
  refine seq_seq ?_
  refine seq_reg fun K hn hp => ?_
  simp only [sy.down, argsTo, cellPut_some, Nat.reduceEqDiff, reduceIte, Nat.reduceLT, Nat.reduceAdd, Nat.reduceMul, Nat.reduceLeDiff, hne, hlenS]
  refine hn _ _ ?_
  clear hn hp K
  refine seq_block fun K k1 k2 k3 k4 k5 => ?_
  refine wpc_loop (sok xt) (fun st => ∃ (k : Nat) (a : Int) (tm : T AV) (hc : Hp), st = ⟨tm, 26, hc, []⟩ ∧ Fr (h.n + 2) ((h.new (.cells s.cells 25)).new (.cells [iv (m 0), iv (m 1), iv (m 2)] 95)) hc ∧ k ≤ s.sorts.length ∧ tm.get 2 = some (.ptr h.n 0) ∧ tm.get 3 = some (.ptr (h.n + 1) 0) ∧ tm.get 5 = some (iv a) ∧ tm.get 9 = some s.vs ∧ tm.get 10 = some (iv s.sorts.length) ∧ tm.get 11 = some (iv k) ∧
      s.blanks m = accW m (·.1) (s.sorts.drop k) k a)
    (fun st => s.sorts.length - (match st.tm.get 11 with | some (.val (.int _ n)) => n.toNat | _ => 0)) ?_ ?_
  · rintro st ⟨k, a, tm, hc, rfl, fr, hk, g2, g3, g5, g9, g10, g11, hfa⟩
    have hlo := fr.lo
    have q0 : hc.t.get h.n = some (.cells s.cells 25) := by rw [fr.at_ _ (by omega)]; simp [Hp.new_t, Hp.new_n, T.get_put]
    have q1 : hc.t.get (h.n + 1) = some (.cells [iv (m 0), iv (m 1), iv (m 2)] 95) := by rw [fr.at_ _ (by omega)]; simp [Hp.new_t, Hp.new_n, T.get_put]
    have n0 : (h.n = hc.n) = False := by simp; omega
    have n1 : (h.n + 1 = hc.n) = False := by simp; omega
    refine seq_reg fun K hn hp => ?_
    simp only [sy.down, argsTo, cellPut_some, Nat.reduceEqDiff, reduceIte, Nat.reduceLT, Nat.reduceAdd, Nat.reduceMul, Nat.reduceLeDiff, g2, g3, g5, g9, g10, g11]
    refine hn _ _ ?_
    clear hn hp K
    have ht : (decide ((k : Int) < (s.sorts.length : Int))) = decide (k < s.sorts.length) := by simp
    by_cases hlt : k < s.sorts.length
    · obtain ⟨x, hx⟩ : ∃ x, s.sorts[k]? = some x := ⟨_, List.getElem?_eq_getElem hlt⟩
      have hidx := ha1.sorts.idx tg22 rfl tg101 rfl (by simpa using hlt) (k := .i64)
      have hld : aload tb xt hc 101 (elp s.vs (k * 3)) = some (.agg [iv x.1, iv x.2.1, iv x.2.2]) := (ha1.sorts.fr fr (by simp [Hp.new_n])).loadA tg101 rfl rfl (c := c3 x) (by simp [hx])
      have hia : aindexAddr tb 95 (.ptr (h.n + 1) 0) (.val (.int .i64 (k : Int))) = some (.ptr (h.n + 1) (0 + k * 1)) := ia95 _ _ _ (by omega)
      have hsg := sh3_get m (k := k) (by omega)
      rw [accW_drop hx] at hfa
      refine seq_cond true (by simp only [sy.down, argsTo, cellPut_some, Nat.reduceEqDiff, reduceIte, Nat.reduceLT, Nat.reduceAdd, Nat.reduceMul, Nat.reduceLeDiff, g10, g11, ht, hlt]) (fun _ => ?_) (fun hx => by cases hx)
      refine seq_skip ?_
      refine seq_block fun K' k1' k2' k3' k4' k5' => ?_
      refine seq_reg fun K hn hp => ?_
      simp only [sy.down, argsTo, cellPut_some, Nat.reduceEqDiff, reduceIte, Nat.reduceLT, Nat.reduceAdd, Nat.reduceMul, Nat.reduceLeDiff, g2, g3, g5, g9, g10, g11, hidx, hld]
      refine hn _ _ ?_
      clear hn hp K
      refine regD (sok xt) 9 (by kernel_rfl) fun K hn hp => ?_
      simp only [sy.down, argsTo, cellPut_some, Nat.reduceEqDiff, reduceIte, Nat.reduceLT, Nat.reduceAdd, Nat.reduceMul, Nat.reduceLeDiff, g2, g3, g5, g9, g10, g11, q0, q1, n0, n1, hia, Nat.mul_one, hsg]
      refine hn _ _ (k1' _ ?_)
      refine reg fun K hn hp => ?_
      have hw : IntKind.i64.wrap ((k : Int) + 1) = ((k + 1 : Nat) : Int) := by have := ha.ls; rw [wrap_i64 _ (by omega) (by omega)]; simp
      simp only [sy.down, argsTo, cellPut_some, Nat.reduceEqDiff, reduceIte, Nat.reduceLT, Nat.reduceAdd, Nat.reduceMul, Nat.reduceLeDiff, g11, hw]
      refine hn _ _ ?_
      refine ⟨⟨k + 1, _, _, _, rfl, (fr.new _).set hlo (by simp [Hp.new_n]) _, hlt, ?_, ?_, ?_, ?_, ?_, ?_, hfa⟩, ?_⟩
      · simp [T.get_put, g2]
      · simp [T.get_put, g3]
      · simp [T.get_put]
      · simp [T.get_put, g9]
      · simp [T.get_put, g10]
      · simp [T.get_put]
      · have hm : s.sorts.length - (k + 1) < s.sorts.length - k := by omega
        simpa [T.get_put, g11] using hm
    · refine seq_cond false (by simp only [sy.down, argsTo, cellPut_some, Nat.reduceEqDiff, reduceIte, Nat.reduceLT, Nat.reduceAdd, Nat.reduceMul, Nat.reduceLeDiff, g10, g11, ht, hlt]) (fun hx => by cases hx) (fun _ => ?_)
      refine seq_exit (k2 _ ?_)
      have hnil : s.sorts.drop k = [] := List.drop_eq_nil_of_le (by omega)
      rw [hnil] at hfa
      have hfr : Fr h.n h hc := (((Fr.refl (Nat.le_refl _)).new _).new _).trans fr (by omega)
      refine seq_reg fun K hn hp => ?_
      simp only [sy.down, argsTo, cellPut_some, Nat.reduceEqDiff, reduceIte, Nat.reduceLT, Nat.reduceAdd, Nat.reduceMul, Nat.reduceLeDiff, g5]
      refine hn _ _ ?_
      clear hn hp K
      refine wpc_ret (end_1 res50 ⟨?_, hfr⟩)
      simp [T.get_put, hfa, accW]
  · refine ⟨0, 0, _, _, rfl, Fr.refl (by simp [Hp.new_n]), Nat.zero_le _, ?_, ?_, ?_, ?_, ?_, ?_, ?_⟩
    all_goals simp [T.get_put, Sk.blanks]
end Go.Proofs.Kn
namespace Go.Proofs.Kn
open Go Go.Ev
set_option maxRecDepth 100000
/-- Memory is as it was but for some names, and those from 'n' on. -/
structure FrM (M : Nat → Prop) (n : Nat) (h h' : Hp) : Prop where
  lo : n ≤ h'.n
  le : h.n ≤ h'.n
  at_ : ∀ k, (k < n ∨ h'.n ≤ k) → ¬ M k → h'.t.get k = h.t.get k
section
variable {M : Nat → Prop} {n m : Nat} {h h1 h2 : Hp}
theorem FrM.refl (hn : n ≤ h.n) : FrM M n h h := ⟨hn, Nat.le_refl _, fun _ _ _ => rfl⟩
theorem FrM.of (f : Fr n h h1) : FrM M n h h1 := ⟨f.lo, f.le, fun k hk _ => f.at_ k hk⟩
theorem FrM.trans (f : FrM M n h h1) (g : FrM M m h1 h2) (hm : n ≤ m) : FrM M n h h2 := by
  refine ⟨Nat.le_trans hm g.lo, Nat.le_trans f.le g.le, fun k hk hM => ?_⟩
  have := f.lo; have := g.le; have := g.lo
  rw [g.at_ k (by omega) hM, f.at_ k (by omega) hM]
theorem FrM.new (f : FrM M n h h1) (o : AO) : FrM M n h (h1.new o) := f.trans (FrM.of (Fr.new (Fr.refl f.lo) o)) (Nat.le_refl _)
theorem FrM.up (f : FrM M n h h1) (hm : h1.n ≤ m) : FrM M n h (h1.up m) := f.trans (FrM.of (Fr.up (Fr.refl f.lo) hm)) (Nat.le_refl _)
theorem FrM.set (f : FrM M n h h1) {b : Nat} (hb : (n ≤ b ∧ b < h1.n) ∨ M b) (o : AO) : FrM M n h (h1.set b o) := by
  refine ⟨f.lo, f.le, fun k hk hM => ?_⟩
  simp only [Hp.set_t, Hp.set_n] at hk ⊢
  rw [T.get_put, if_neg (by rintro rfl; rcases hb with hb | hb; omega; exact hM hb)]
  exact f.at_ k hk hM
end
/-- What the sack has in memory lies below some name. -/
def Sk.Low (s : Sk) (N : Nat) : Prop := (∀ b off n e, s.vs = .sl b off n e → b < N) ∧ (∀ b off n e, s.ve = .sl b off n e → b < N)
theorem rowFrM {xt : Addr → Option Value} {h h' : Hp} {sz : Nat} {v : AV} {cs : List (List Value)} {M : Nat → Prop} {n N : Nat} (r : RowAt xt h sz v cs) (f : FrM M n h h') (hN : ∀ k, M k → N ≤ k) (hv : ∀ b off n e, v = .sl b off n e → b < N) (hn : N ≤ n) : RowAt xt h' sz v cs := by
  obtain ⟨h1, h2, h3⟩ := r
  refine ⟨h1, h2, ?_⟩
  rcases h3 with h3 | h3 | ⟨b, off, av, e, he, ⟨hlt, hle, hb⟩, hc⟩
  · exact .inl h3
  · exact .inr (.inl h3)
  · have hb' := hv _ _ _ _ he
    refine .inr (.inr ⟨b, off, av, e, he, ⟨Nat.lt_of_lt_of_le hlt f.le, hle, ?_⟩, hc⟩)
    rw [f.at_ b (.inl (by omega)) (fun hm => by have := hN b hm; omega)]; exact hb
theorem Sk.At.frM {s : Sk} {xt : Addr → Option Value} {h h' : Hp} {M : Nat → Prop} {n N : Nat} (a : s.At xt h) (f : FrM M n h h') (hN : ∀ k, M k → N ≤ k) (hv : s.Low N) (hn : N ≤ n) : s.At xt h' := ⟨rowFrM a.sorts f hN hv.1 hn, rowFrM a.seen f hN hv.2 hn, a.ls, a.le⟩

/-! ### what a body of a loop over truths does -/
structure Yl (E : Env) (yv : AV) (M : Nat → Prop) (N : Nat) {σ : Type} (go : σ → Prop) (Rep : σ → Hp → Prop) (f : σ → (Nat → Int) → σ × Bool) : Prop where
  next : ∀ (a : σ) (now : Nat → Int), go a → (f a now).2 = true → go (f a now).1
  call : ∀ (a : σ) (h : Hp) (now : Nat → Int) (K : CR → Hp → Prop), go a → Rep a h → (∀ h', FrM M h.n h h' → Rep (f a now).1 h' → K (.ret (.val (.bool (f a now).2))) h') → CallA E yv [sh3 now] h K
  keep : ∀ (a : σ) (h h' : Hp), Rep a h → (∀ k, (M k ∨ k < N) → h'.t.get k = h.t.get k) → h.n ≤ h'.n → Rep a h'
  low : ∀ (a : σ) (h : Hp), Rep a h → ∀ k, M k → k < h.n
theorem Yl.new {E : Env} {yv : AV} {M : Nat → Prop} {N : Nat} {σ : Type} {go : σ → Prop} {Rep : σ → Hp → Prop} {f : σ → (Nat → Int) → σ × Bool} (Y : Yl E yv M N go Rep f) {a : σ} {h : Hp} (hrep : Rep a h) (hN : N ≤ h.n) (o : AO) : Rep a (h.new o) := by
  refine Y.keep a h _ hrep (fun k hm => ?_) (Nat.le_succ _)
  have : k < h.n := by
    rcases hm with hm | hm
    · exact Y.low a h hrep k hm
    · omega
  simp only [Hp.new_t]; rw [T.get_put, if_neg (by omega)]
def foldY {σ : Type} (f : σ → (Nat → Int) → σ × Bool) : σ → List (Nat → Int) → σ × Bool
  | a, [] => (a, true)
  | a, x :: l => if (f a x).2 then foldY f (f a x).1 l else ((f a x).1, false)
theorem foldY_append {σ : Type} (f : σ → (Nat → Int) → σ × Bool) : ∀ (l1 l2 : List (Nat → Int)) (a : σ), foldY f a (l1 ++ l2) = if (foldY f a l1).2 then foldY f (foldY f a l1).1 l2 else foldY f a l1
  | [], l2, a => by simp [foldY]
  | x :: l1, l2, a => by
    simp only [List.cons_append, foldY]
    by_cases hb : (f a x).2 = true
    · simp only [hb, if_true]; exact foldY_append f l1 l2 (f a x).1
    · simp [hb]
theorem foldY_go {E : Env} {yv : AV} {M : Nat → Prop} {N : Nat} {σ : Type} {go : σ → Prop} {Rep : σ → Hp → Prop} {f : σ → (Nat → Int) → σ × Bool} (Y : Yl E yv M N go Rep f) : ∀ (l : List (Nat → Int)) (a : σ), go a → (foldY f a l).2 = true → go (foldY f a l).1
  | [], a, hg, _ => hg
  | x :: l, a, hg, hb => by
    simp only [foldY] at hb ⊢
    by_cases hx : (f a x).2 = true
    · simp only [hx, if_true] at hb ⊢; exact foldY_go Y l _ (Y.next a x hg hx) hb
    · simp [hx] at hb
def updN (now : Nat → Int) (i : Nat) (n : Int) : Nat → Int := fun j => if j = i then n else now j
def rngI (a b : Int) : List Int := (List.range (b + 1 - a).toNat).map fun (k : Nat) => a + (k : Int)
theorem rngI_nil {a b : Int} (h : b < a) : rngI a b = [] := by
  have e : (b + 1 - a).toNat = 0 := by omega
  simp [rngI, e]
theorem rngI_cons {a b : Int} (h : a ≤ b) : rngI a b = a :: rngI (a + 1) b := by
  unfold rngI
  have e : (b + 1 - a).toNat = (b + 1 - (a + 1)).toNat + 1 := by omega
  rw [e, List.range_succ_eq_map]
  simp only [List.map_cons, List.map_map]
  congr 1
  · simp
  · apply List.map_congr_left
    intro k _
    simp; omega
/-- All truths, in the order in which they are found. -/
def Sk.srch (s : Sk) (seen : Nat → Int) : Nat → (Nat → Int) → Nat → Int → List (Nat → Int)
  | 0, now, _, left => if left = 0 ∧ s.weighs now = true then [now] else []
  | d + 1, now, i, left => (rngI (seen i) left).flatMap fun n => s.srch seen d (updN now i n) (i + 1) (left - n)

theorem ft132 (xt : Addr → Option Value) : (SE xt).ft.get 132 = some Tryz.f132 := by kernel_rfl
theorem res132 : Tryz.f132.results.toList = [.tmp 10] := by kernel_rfl
/-- Where the search has what it looks at. -/
structure Boxes (s : Sk) (seen : Nat → Int) (yv : AV) (bs by_ bn bv : Nat) (h : Hp) : Prop where
  s_ : h.t.get bs = some (.cells s.cells 25)
  y_ : h.t.get by_ = some (.cells [yv] 203)
  n_ : h.t.get bn = some (.cells [iv (seen 0), iv (seen 1), iv (seen 2)] 95)
  v_ : h.t.get bv = some (.cells [.fn (.func 132) [] [.ptr bs 0, .ptr by_ 0, .ptr bn 0, .ptr bv 0]] 204)
theorem sh3_upd {m now : Nat → Int} {i : Nat} (hi : i < 3) (hm : ∀ j, j ≠ i → m j = now j) (n : Int) : [iv (m 0), iv (m 1), iv (m 2)].take i ++ [iv n] ++ [iv (m 0), iv (m 1), iv (m 2)].drop (i + 1) = [iv (updN now i n 0), iv (updN now i n 1), iv (updN now i n 2)] := by
  match i, hi with
  | 0, _ => simp [updN, hm 1 (by omega), hm 2 (by omega)]
  | 1, _ => simp [updN, hm 0 (by omega), hm 2 (by omega)]
  | 2, _ => simp [updN, hm 0 (by omega), hm 1 (by omega)]

theorem Boxes.frM {s : Sk} {seen : Nat → Int} {yv : AV} {bs by_ bn bv : Nat} {h h' : Hp} {M : Nat → Prop} {n : Nat} (B : Boxes s seen yv bs by_ bn bv h) (f : FrM M n h h') (hb : bs < n ∧ by_ < n ∧ bn < n ∧ bv < n) (hM : ¬ M bs ∧ ¬ M by_ ∧ ¬ M bn ∧ ¬ M bv) : Boxes s seen yv bs by_ bn bv h' :=
  ⟨by rw [f.at_ _ (.inl hb.1) hM.1]; exact B.s_, by rw [f.at_ _ (.inl hb.2.1) hM.2.1]; exact B.y_, by rw [f.at_ _ (.inl hb.2.2.1) hM.2.2.1]; exact B.n_, by rw [f.at_ _ (.inl hb.2.2.2) hM.2.2.2]; exact B.v_⟩
theorem search_ok (xt : Addr → Option Value) (s : Sk) (seen : Nat → Int) (yv : AV) {M : Nat → Prop} {N : Nat} {σ : Type} {go : σ → Prop} {Rep : σ → Hp → Prop} {f : σ → (Nat → Int) → σ × Bool} (Y : Yl (SE xt) yv M N go Rep f) (bs by_ bn bv : Nat)
    (hM : ∀ k, M k → N ≤ k ∧ k ≠ bs ∧ k ≠ by_ ∧ k ≠ bn ∧ k ≠ bv) (hlow : s.Low N) (hy : one yv = true ∧ cellsOf yv = [yv]) (h3 : s.sorts.length ≤ 3) (hseen : ∀ j, 0 ≤ seen j) :
    ∀ (d i : Nat) (now : Nat → Int) (left : Int) (a : σ) (h : Hp) (K : CR → Hp → Prop), i + d = s.sorts.length → 0 ≤ left → left ≤ 1000 → go a → Rep a h → N ≤ h.n → bs < h.n ∧ by_ < h.n ∧ bn < h.n ∧ bv < h.n → Boxes s seen yv bs by_ bn bv h → s.At xt h →
      (∀ h', FrM M h.n h h' → Rep (foldY f a (s.srch seen d now i left)).1 h' → K (.ret (.val (.bool (foldY f a (s.srch seen d now i left)).2))) h') → FnA (SE xt) 132 [sh3 now, iv i, iv left, .ptr bs 0, .ptr by_ 0, .ptr bn 0, .ptr bv 0] h K := by
  intro d
  induction d with
  | zero =>
    intro i now left a h K hid hl0 hl1 hgo hrep hN hb B ha hk
    have hi : i = s.sorts.length := by omega
    have hlenS := fun h' => ha.sorts.len (h' := h') tg22 rfl
    simp only [List.length_map] at hlenS
    obtain ⟨q1, q2, q3, q4⟩ := B
    have n1 : (bs = h.n) = False := by simp; omega
    have n2 : (by_ = h.n) = False := by simp; omega
    have n3 : (bn = h.n) = False := by simp; omega
    have n4 : (bv = h.n) = False := by simp; omega
    refine FnA.walk (sok xt) (ft132 xt) rfl 50 rfl ?_
    refine seq_reg fun K hn hp => ?_
    simp only [sy.down, argsTo, cellPut_some, Nat.reduceEqDiff, reduceIte, Nat.reduceLT, Nat.reduceAdd, Nat.reduceMul, Nat.reduceLeDiff, q1, q2, q3, q4, n1, n2, n3, n4]
    refine hn _ _ ?_
    clear hn hp K
    refine seq_seq ?_
    have he : decide ((i : Int) = (s.sorts.length : Int)) = true := by simp [hi]
    refine seq_reg fun K hn hp => ?_
    simp only [sy.down, argsTo, cellPut_some, Nat.reduceEqDiff, reduceIte, Nat.reduceLT, Nat.reduceAdd, Nat.reduceMul, Nat.reduceLeDiff, q1, q2, q3, q4, n1, n2, n3, n4, hlenS, he]
    refine hn _ _ ?_
    clear hn hp K
    refine seq_cond true (by simp only [sy.down, argsTo, cellPut_some, Nat.reduceEqDiff, reduceIte, Nat.reduceLT, Nat.reduceAdd, Nat.reduceMul, Nat.reduceLeDiff]) (fun _ => ?_) (fun hx => by cases hx)
    refine seq_seq ?_
    have hrep0 : ∀ o, Rep a (h.new o) := fun o => Y.new hrep hN o
    have hfr0 : ∀ o, FrM M h.n h (h.new o) := fun o => (FrM.refl (Nat.le_refl _)).new o
    cases c0 : decide (left = 0)
    · refine seq_reg fun K hn hp => ?_
      simp only [sy.down, argsTo, cellPut_some, Nat.reduceEqDiff, reduceIte, Nat.reduceLT, Nat.reduceAdd, Nat.reduceMul, Nat.reduceLeDiff, c0]
      refine hn _ _ ?_
      clear hn hp K
      refine seq_ret (end_1 res132 ?_)
      have e : s.srch seen 0 now i left = [] := by simp only [Sk.srch]; rw [if_neg (by simp at c0; simp [c0])]
      rw [e] at hk
      have := hk _ (hfr0 (.cells [iv (now 0), iv (now 1), iv (now 2)] 95)) (hrep0 _)
      simpa [T.get_put, foldY] using this
    · have hl : left = 0 := by simpa using c0
      refine seq_reg fun K1 hn hp => ?_
      simp only [sy.down, argsTo, cellPut_some, Nat.reduceEqDiff, reduceIte, Nat.reduceLT, Nat.reduceAdd, Nat.reduceMul, Nat.reduceLeDiff, c0, q1, q2, q3, q4, n1, n2, n3, n4]
      refine callA_func (sok xt) (weighs_c xt _ s (ha.new _) h3 now fun m1 hm1 => ?_)
      simp only [Hp.new_n] at hm1
      cases c1 : s.weighs now
      · simp only [sy.down, argsTo, cellPut_some, Nat.reduceEqDiff, reduceIte, Nat.reduceLT, Nat.reduceAdd, Nat.reduceMul, Nat.reduceLeDiff, c1]
        refine hn _ _ (seq_ret (end_1 res132 ?_))
        have e : s.srch seen 0 now i left = [] := by simp only [Sk.srch]; rw [if_neg (by simp [c1])]
        rw [e] at hk
        have := hk _ ((hfr0 (.cells [iv (now 0), iv (now 1), iv (now 2)] 95)).up (Nat.le_of_lt hm1)) (Y.keep a _ _ (hrep0 _) (fun _ _ => rfl) (Nat.le_of_lt hm1))
        simpa [T.get_put, foldY] using this
      · simp only [sy.down, argsTo, cellPut_some, Nat.reduceEqDiff, reduceIte, Nat.reduceLT, Nat.reduceAdd, Nat.reduceMul, Nat.reduceLeDiff, c1, q1, q2, q3, q4, n1, n2, n3, n4]
        refine Y.call a _ now _ hgo (Y.keep a _ _ (hrep0 _) (fun _ _ => rfl) (Nat.le_of_lt hm1)) fun h' fr' hr' => ?_
        simp only [sy.down, argsTo, cellPut_some, Nat.reduceEqDiff, reduceIte, Nat.reduceLT, Nat.reduceAdd, Nat.reduceMul, Nat.reduceLeDiff]
        refine hn _ _ (seq_ret (end_1 res132 ?_))
        have e : s.srch seen 0 now i left = [now] := by simp only [Sk.srch]; rw [if_pos ⟨hl, c1⟩]
        rw [e] at hk
        have hfin : foldY f a [now] = f a now := by
          simp only [foldY]
          by_cases hb : (f a now).2 = true
          · simp [← hb]
          · simp only [Bool.not_eq_true] at hb
            simp [← hb]
        rw [hfin] at hk
        have := hk h' (((hfr0 _).up (Nat.le_of_lt hm1)).trans fr' (by simp; omega)) hr'
        simpa [T.get_put] using this
  | succ d ih =>
    intro i now left a h K hid hl0 hl1 hgo hrep hN hb B ha hk
    have hi3 : i < 3 := by omega
    have hlenS := fun h' => ha.sorts.len (h' := h') tg22 rfl
    simp only [List.length_map] at hlenS
    have hMb : ¬ M bs ∧ ¬ M by_ ∧ ¬ M bn ∧ ¬ M bv := ⟨fun hm => (hM _ hm).2.1 rfl, fun hm => (hM _ hm).2.2.1 rfl, fun hm => (hM _ hm).2.2.2.1 rfl, fun hm => (hM _ hm).2.2.2.2 rfl⟩
    have hMn : ¬ M h.n := fun hm => by have := Y.low a h hrep _ hm; omega
    have q1 := B.s_
    have q3 := B.n_
    have n1 : (bs = h.n) = False := by simp; omega
    have n3 : (bn = h.n) = False := by simp; omega
    refine FnA.walk (sok xt) (ft132 xt) rfl 50 rfl ?_
    refine seq_reg fun K hn hp => ?_
    simp only [sy.down, argsTo, cellPut_some, Nat.reduceEqDiff, reduceIte, Nat.reduceLT, Nat.reduceAdd, Nat.reduceMul, Nat.reduceLeDiff, q1, q3, n1, n3]
    refine hn _ _ ?_
    clear hn hp K
    refine seq_seq ?_
    have he : decide ((i : Int) = (s.sorts.length : Int)) = false := by simp; omega
    refine seq_reg fun K hn hp => ?_
    simp only [sy.down, argsTo, cellPut_some, Nat.reduceEqDiff, reduceIte, Nat.reduceLT, Nat.reduceAdd, Nat.reduceMul, Nat.reduceLeDiff, q1, q3, n1, n3, hlenS, he]
    refine hn _ _ ?_
    clear hn hp K
    refine seq_cond false (by simp only [sy.down, argsTo, cellPut_some, Nat.reduceEqDiff, reduceIte, Nat.reduceLT, Nat.reduceAdd, Nat.reduceMul, Nat.reduceLeDiff]) (fun hx => by cases hx) (fun _ => ?_)
    refine seq_skip ?_
    refine seq_seq ?_
    have hia := fun b => ia95 b 0 i hi3
    have hsg := sh3_get seen hi3
    refine seq_reg fun K hn hp => ?_
    simp only [sy.down, argsTo, cellPut_some, Nat.reduceEqDiff, reduceIte, Nat.reduceLT, Nat.reduceAdd, Nat.reduceMul, Nat.reduceLeDiff, q1, q3, n1, n3, hia, Nat.mul_one, hsg]
    refine hn _ _ ?_
    clear hn hp K
    refine seq_block fun K0 k1 k2 k3 k4 k5 => ?_
    refine wpc_loop (sok xt) (fun st => ∃ (n : Int) (m : Nat → Int) (a' : σ) (tm : T AV) (hc : Hp), st = ⟨tm, 50, hc, []⟩ ∧ FrM M h.n h hc ∧ h.n < hc.n ∧ hc.t.get h.n = some (.cells [iv (m 0), iv (m 1), iv (m 2)] 95) ∧ (∀ j, j ≠ i → m j = now j) ∧ (go a' ∧ Rep a' hc) ∧ seen i ≤ n ∧
        tm.get 1 = some (iv i) ∧ tm.get 2 = some (iv left) ∧ tm.get 3 = some (.ptr bs 0) ∧ tm.get 4 = some (.ptr by_ 0) ∧ tm.get 5 = some (.ptr bn 0) ∧ tm.get 6 = some (.ptr bv 0) ∧ tm.get 7 = some (.ptr h.n 0) ∧ tm.get 11 = some (iv n) ∧
        foldY f a (s.srch seen (d + 1) now i left) = foldY f a' ((rngI n left).flatMap fun n => s.srch seen d (updN now i n) (i + 1) (left - n)))
      (fun st => (left + 1 - (match st.tm.get 11 with | some (.val (.int _ n)) => n | _ => 0)).toNat) ?_ ?_
    · rintro st ⟨n, m, a', tm, hc, rfl, fr, hcn, qn, hm, ⟨hg', hr⟩, hsn, g1, g2, g3, g4, g5, g6, g7, g11, hfo⟩
      have hs0 := hseen i
      have Bc := B.frM fr hb hMb
      have p1 := Bc.s_
      have p2 := Bc.y_
      have p3 := Bc.n_
      have p4 := Bc.v_
      refine seq_seq ?_
      refine seq_reg fun K hn hp => ?_
      simp only [sy.down, argsTo, cellPut_some, Nat.reduceEqDiff, reduceIte, Nat.reduceLT, Nat.reduceAdd, Nat.reduceMul, Nat.reduceLeDiff, g1, g2, g3, g4, g5, g6, g7, g11]
      refine hn _ _ ?_
      clear hn hp K
      cases hlt : decide (n ≤ left)
      · refine seq_cond false (by simp only [sy.down, argsTo, cellPut_some, Nat.reduceEqDiff, reduceIte, Nat.reduceLT, Nat.reduceAdd, Nat.reduceMul, Nat.reduceLeDiff, g11, g2, hlt]) (fun hx => by cases hx) (fun _ => ?_)
        refine seq_exit (k2 _ ?_)
        refine seq_reg fun K hn hp => ?_
        simp only [sy.down, argsTo, cellPut_some, Nat.reduceEqDiff, reduceIte, Nat.reduceLT, Nat.reduceAdd, Nat.reduceMul, Nat.reduceLeDiff]
        refine hn _ _ ?_
        clear hn hp K
        refine wpc_ret (end_1 res132 ?_)
        have hnl : left < n := by simp at hlt; omega
        rw [rngI_nil hnl] at hfo
        simp only [List.flatMap_nil, foldY] at hfo
        rw [hfo] at hk
        have := hk hc fr hr
        simpa [T.get_put] using this
      · have hnl : n ≤ left := by simpa using hlt
        refine seq_cond true (by simp only [sy.down, argsTo, cellPut_some, Nat.reduceEqDiff, reduceIte, Nat.reduceLT, Nat.reduceAdd, Nat.reduceMul, Nat.reduceLeDiff, g11, g2, hlt]) (fun _ => ?_) (fun hx => by cases hx)
        refine seq_skip ?_
        refine seq_block fun K' k1' k2' k3' k4' k5' => ?_
        have hput : cellPut 1 hc h.n i (iv n) (some (.cells [iv (m 0), iv (m 1), iv (m 2)] 95)) = some (hc.set h.n (.cells [iv (updN now i n 0), iv (updN now i n 1), iv (updN now i n 2)] 95)) := by
          rw [cellPut_some, ← sh3_upd hi3 hm n, if_pos ⟨rfl, by simp; omega, rfl⟩]; rfl
        refine seq_reg fun K1 hn hp => ?_
        simp only [sy.down, argsTo, Nat.reduceEqDiff, reduceIte, Nat.reduceLT, Nat.reduceAdd, Nat.reduceMul, Nat.reduceLeDiff, g1, g2, g3, g4, g5, g6, g7, g11, hia, Nat.mul_one, qn, hput]
        refine hn _ _ ?_
        clear hn hp K1
        refine seq_reg fun K1 hn hp => ?_
        have n1' : (bs = h.n) = False := n1
        have n2' : (by_ = h.n) = False := by simp; omega
        have n3' : (bn = h.n) = False := n3
        have n4' : (bv = h.n) = False := by simp; omega
        have w1 : IntKind.i64.wrap ((i : Int) + 1) = ((i + 1 : Nat) : Int) := by rw [wrap_i64 _ (by omega) (by omega)]; simp
        have w2 : IntKind.i64.wrap (left - n) = left - n := wrap_i64 _ (by omega) (by omega)
        simp only [sy.down, argsTo, cellPut_some, Nat.reduceEqDiff, reduceIte, Nat.reduceLT, Nat.reduceAdd, Nat.reduceMul, Nat.reduceLeDiff, g1, g2, g3, g4, g5, g6, g7, g11, p1, p2, p3, p4, n1', n2', n3', n4', w1, w2]
        refine callA_fn (sok xt) ?_
        simp only [List.nil_append, List.cons_append]
        have frs : FrM M h.n h (hc.set h.n (.cells [iv (updN now i n 0), iv (updN now i n 1), iv (updN now i n 2)] 95)) := fr.set (.inl ⟨Nat.le_refl _, hcn⟩) _
        refine ih (i + 1) (updN now i n) (left - n) a' _ _ (by omega) (by omega) (by omega) hg' (Y.keep a' hc _ hr (fun k hm' => by simp only [Hp.set_t]; rw [T.get_put, if_neg (by rintro rfl; rcases hm' with hm' | hm'; exact hMn hm'; omega)]) (Nat.le_refl _)) (by simp [Hp.set_n]; omega) (by simp only [Hp.set_n]; omega) (B.frM frs hb hMb) (ha.frM frs (fun k hm' => (hM k hm').1) hlow hN) fun h' fr' hr' => ?_
        simp only [sy.down, argsTo, cellPut_some, Nat.reduceEqDiff, reduceIte, Nat.reduceLT, Nat.reduceAdd, Nat.reduceMul, Nat.reduceLeDiff]
        refine hn _ _ ?_
        clear hn hp K1
        simp only [Hp.set_n] at fr'
        have frA : FrM M h.n h h' := frs.trans fr' (Nat.le_of_lt hcn)
        have qn' : h'.t.get h.n = some (.cells [iv (updN now i n 0), iv (updN now i n 1), iv (updN now i n 2)] 95) := by
          rw [fr'.at_ _ (.inl hcn) hMn]; simp [Hp.set_t, T.get_put]
        rw [rngI_cons hnl, List.flatMap_cons, foldY_append] at hfo
        cases hb2 : (foldY f a' (s.srch seen d (updN now i n) (i + 1) (left - n))).2
        · refine wpc_cond true (by simp only [sy.down, argsTo, cellPut_some, Nat.reduceEqDiff, reduceIte, Nat.reduceLT, Nat.reduceAdd, Nat.reduceMul, Nat.reduceLeDiff, hb2]) (fun _ => ?_) (fun hx => by cases hx)
          refine seq_reg fun K hn hp => ?_
          simp only [sy.down, argsTo, cellPut_some, Nat.reduceEqDiff, reduceIte, Nat.reduceLT, Nat.reduceAdd, Nat.reduceMul, Nat.reduceLeDiff]
          refine hn _ _ ?_
          clear hn hp K
          rw [hb2] at hfo
          simp only [Bool.false_eq_true, if_false] at hfo
          refine wpc_ret (k4' _ (k4 _ (end_1 res132 ?_)))
          rw [hfo, hb2] at hk
          have := hk h' frA hr'
          simpa [T.get_put] using this
        · refine wpc_cond false (by simp only [sy.down, argsTo, cellPut_some, Nat.reduceEqDiff, reduceIte, Nat.reduceLT, Nat.reduceAdd, Nat.reduceMul, Nat.reduceLeDiff, hb2]) (fun hx => by cases hx) (fun _ => ?_)
          refine wpc_skip (k1' _ ?_)
          rw [hb2] at hfo
          simp only [if_true] at hfo
          refine reg fun K1 hn hp => ?_
          have w3 : IntKind.i64.wrap (n + 1) = n + 1 := wrap_i64 _ (by omega) (by omega)
          simp only [sy.down, argsTo, cellPut_some, Nat.reduceEqDiff, reduceIte, Nat.reduceLT, Nat.reduceAdd, Nat.reduceMul, Nat.reduceLeDiff, g11, w3]
          refine hn _ _ ?_
          have := fr'.le
          simp only [Hp.set_n] at this
          refine ⟨⟨n + 1, updN now i n, _, _, h', rfl, frA, by omega, qn', fun j hj => by simp [updN, hj], ⟨foldY_go Y _ _ hg' hb2, hr'⟩, by omega, ?_, ?_, ?_, ?_, ?_, ?_, ?_, ?_, hfo⟩, ?_⟩
          · simp [T.get_put, g1]
          · simp [T.get_put, g2]
          · simp [T.get_put, g3]
          · simp [T.get_put, g4]
          · simp [T.get_put, g5]
          · simp [T.get_put, g6]
          · simp [T.get_put, g7]
          · simp [T.get_put]
          · have hm' : (left + 1 - (n + 1)).toNat < (left + 1 - n).toNat := by omega
            simpa [T.get_put, g11] using hm'
    · refine ⟨seen i, now, a, _, _, rfl, (FrM.refl (Nat.le_refl _)).new _, by simp [Hp.new_n], by simp [Hp.new_t, T.get_put], fun _ _ => rfl, ⟨hgo, Y.new hrep hN _⟩, Int.le_refl _, ?_, ?_, ?_, ?_, ?_, ?_, ?_, ?_, rfl⟩
      all_goals simp [T.get_put]
end Go.Proofs.Kn
namespace Go.Proofs.Kn
open Go Go.Ev
set_option maxRecDepth 100000
/-! ### truths -/
theorem ft90 (xt : Addr → Option Value) : (SE xt).ft.get 90 = some Tryz.f90 := by kernel_rfl
theorem res90 : Tryz.f90.results.toList = [.tmp 4] := by kernel_rfl
theorem truths_c (xt : Addr → Option Value) (h : Hp) (s : Sk) (seen : Nat → Int) {K : CR → Hp → Prop}
    (hk : K (.ret (.fn (.func 131) [] [.ptr h.n 0, .ptr (h.n + 1) 0])) ((h.new (.cells s.cells 25)).new (.cells [iv (seen 0), iv (seen 1), iv (seen 2)] 95))) : FnA (SE xt) 90 [s.av, sh3 seen] h K := by
  refine FnA.walk (sok xt) (ft90 xt) rfl 6 rfl ?_
  refine seq_reg fun K hn hp => ?_
  simp only [sy.down, argsTo, cellPut_some, Nat.reduceEqDiff, reduceIte, Nat.reduceLT, Nat.reduceAdd, Nat.reduceMul, Nat.reduceLeDiff]
  refine hn _ _ ?_
  clear hn hp K
  refine seq_reg fun K hn hp => ?_
  simp only [sy.down, argsTo, cellPut_some, Nat.reduceEqDiff, reduceIte, Nat.reduceLT, Nat.reduceAdd, Nat.reduceMul, Nat.reduceLeDiff]
  refine hn _ _ ?_
  clear hn hp K
  refine wpc_ret (end_1 res90 ?_)
  simpa [T.get_put] using hk
theorem ft131 (xt : Addr → Option Value) : (SE xt).ft.get 131 = some Tryz.f131 := by kernel_rfl
theorem res131 : Tryz.f131.results.toList = [] := by kernel_rfl
theorem bd95 : abuildA tb 95 [] = some (.agg [iv 0, iv 0, iv 0]) := by kernel_rfl
theorem end_0 {E : Env} {fn : Func} {K : CR → Hp → Prop} {tm : T AV} {nt : Nat} {h : Hp} (h1 : fn.results.toList = []) (h3 : K (.ret (.tup [])) h) : endK E fn K .normal ⟨tm, nt, h, []⟩ := ⟨h, [], rfl, by rw [h1]; rfl, h3⟩
def zero3 : Nat → Int := fun _ => 0
/-- All truths of a sack, if so many were seen. -/
def Sk.truths (s : Sk) (seen : Nat → Int) : List (Nat → Int) := s.srch seen s.sorts.length zero3 0 s.sh
theorem iter_c (xt : Addr → Option Value) (s : Sk) (seen : Nat → Int) (yv : AV) {M : Nat → Prop} {N : Nat} {σ : Type} {go : σ → Prop} {Rep : σ → Hp → Prop} {f : σ → (Nat → Int) → σ × Bool} (Y : Yl (SE xt) yv M N go Rep f) (bs bn : Nat)
    (hM : ∀ k, M k → N ≤ k ∧ k ≠ bs ∧ k ≠ bn) (hlow : s.Low N) (hy : one yv = true ∧ cellsOf yv = [yv]) (h3 : s.sorts.length ≤ 3) (hseen : ∀ j, 0 ≤ seen j) (hs0 : 0 ≤ s.sh) (hs1 : s.sh ≤ 1000)
    (a : σ) (h : Hp) (K : CR → Hp → Prop) (hgo : go a) (hrep : Rep a h) (hN : N ≤ h.n) (hb : bs < h.n ∧ bn < h.n) (q1 : h.t.get bs = some (.cells s.cells 25)) (q2 : h.t.get bn = some (.cells [iv (seen 0), iv (seen 1), iv (seen 2)] 95)) (ha : s.At xt h)
    (hk : ∀ h', FrM M h.n h h' → Rep (foldY f a (s.truths seen)).1 h' → K (.ret (.tup [])) h') : FnA (SE xt) 131 [yv, .ptr bs 0, .ptr bn 0] h K := by
  have n1 : (bs = h.n) = False := by simp; omega
  have n2 : (bn = h.n) = False := by simp; omega
  have n3 : (bs = h.n + 1) = False := by simp; omega
  have n4 : (bn = h.n + 1) = False := by simp; omega
  have n5 : (h.n = h.n + 1) = False := by simp
  have hlow' := Y.low a h hrep
  refine FnA.walk (sok xt) (ft131 xt) rfl 11 rfl ?_
  refine seq_reg fun K hn hp => ?_
  simp only [sy.down, argsTo, cellPut_some, Nat.reduceEqDiff, reduceIte, Nat.reduceLT, Nat.reduceAdd, Nat.reduceMul, Nat.reduceLeDiff, hy.1, hy.2]
  refine hn _ _ ?_
  clear hn hp K
  refine seq_reg fun K hn hp => ?_
  simp only [sy.down, argsTo, cellPut_some, Nat.reduceEqDiff, reduceIte, Nat.reduceLT, Nat.reduceAdd, Nat.reduceMul, Nat.reduceLeDiff, hy.1, hy.2]
  refine hn _ _ ?_
  clear hn hp K
  refine seq_reg fun K1 hn hp => ?_
  simp only [sy.down, argsTo, cellPut_some, Nat.reduceEqDiff, reduceIte, Nat.reduceLT, Nat.reduceAdd, Nat.reduceMul, Nat.reduceLeDiff, n1, n2, n3, n4, n5]
  refine hn _ _ ?_
  clear hn hp K1
  refine reg fun K1 hn hp => ?_
  simp only [sy.down, argsTo, cellPut_some, Nat.reduceEqDiff, reduceIte, Nat.reduceLT, Nat.reduceAdd, Nat.reduceMul, Nat.reduceLeDiff, n1, n2, n3, n4, n5, q1, q2, bd95]
  refine callA_fn (sok xt) ?_
  simp only [List.nil_append, List.cons_append]
  have fr0 : ∀ o1 o2 o3, FrM M h.n h (((h.new o1).new o2).set (h.n + 1) o3) := fun o1 o2 o3 => (((FrM.refl (Nat.le_refl _)).new _).new _).set (.inl ⟨by omega, by simp [Hp.new_n]⟩) _
  have hrep0 : ∀ o1 o2 o3, Rep a (((h.new o1).new o2).set (h.n + 1) o3) := fun o1 o2 o3 => Y.keep a h _ hrep (fun k hm => by
    have : k < h.n := (by rcases hm with hm | hm; exact hlow' k hm; omega)
    simp only [Hp.set_t, Hp.new_t, Hp.new_n]
    rw [T.get_put, if_neg (by omega), T.get_put, if_neg (by omega), T.get_put, if_neg (by omega)]) (by simp [Hp.set_n, Hp.new_n]; omega)
  refine search_ok xt s seen yv Y bs h.n bn (h.n + 1) (fun k hm => ⟨(hM k hm).1, (hM k hm).2.1, by have := hlow' k hm; omega, (hM k hm).2.2, by have := hlow' k hm; omega⟩) hlow hy h3 hseen s.sorts.length 0 zero3 s.sh a _ _ (by omega) hs0 hs1 hgo (hrep0 _ _ _) (by simp [Hp.set_n, Hp.new_n]; omega) (by simp [Hp.set_n, Hp.new_n]; omega) ?_ (ha.frM (fr0 _ _ _) (fun k hm => (hM k hm).1) hlow hN) fun h' fr' hr' => ?_
  · refine ⟨?_, ?_, ?_, ?_⟩
    · simp only [sy.down, argsTo, cellPut_some, Nat.reduceEqDiff, reduceIte, Nat.reduceLT, Nat.reduceAdd, Nat.reduceMul, Nat.reduceLeDiff, n1, n2, n3, n4, n5, q1, q2]
    · simp only [sy.down, argsTo, cellPut_some, Nat.reduceEqDiff, reduceIte, Nat.reduceLT, Nat.reduceAdd, Nat.reduceMul, Nat.reduceLeDiff, n1, n2, n3, n4, n5, q1, q2]
    · simp only [sy.down, argsTo, cellPut_some, Nat.reduceEqDiff, reduceIte, Nat.reduceLT, Nat.reduceAdd, Nat.reduceMul, Nat.reduceLeDiff, n1, n2, n3, n4, n5, q1, q2]
    · simp only [sy.down, argsTo, cellPut_some, Nat.reduceEqDiff, reduceIte, Nat.reduceLT, Nat.reduceAdd, Nat.reduceMul, Nat.reduceLeDiff, n1, n2, n3, n4, n5, q1, q2]
  · simp only [sy.down, argsTo, cellPut_some, Nat.reduceEqDiff, reduceIte, Nat.reduceLT, Nat.reduceAdd, Nat.reduceMul, Nat.reduceLeDiff]
    refine hn _ _ (end_0 res131 (hk h' ((fr0 _ _ _).trans fr' (by simp [Hp.set_n, Hp.new_n]; omega)) hr'))
end Go.Proofs.Kn
namespace Go.Proofs.Kn
open Go Go.Ev
set_option maxRecDepth 100000
theorem Sk.At.low {s : Sk} {xt : Addr → Option Value} {h : Hp} (a : s.At xt h) : s.Low h.n := by
  have key : ∀ {sz : Nat} {v : AV} {cs : List (List Value)}, RowAt xt h sz v cs → ∀ b off n e, v = .sl b off n e → b < h.n := by
    rintro sz v cs ⟨_, _, h3⟩ b off n e hv
    rcases h3 with ⟨rfl, _⟩ | ⟨_, _, rfl, _⟩ | ⟨b', _, _, _, rfl, ⟨h4, _⟩, _⟩
    · cases hv
    · cases hv
    · cases hv; exact h4
  exact ⟨key a.sorts, key a.seen⟩
theorem Fr.ofM {M : Nat → Prop} {n m : Nat} {h h1 h2 : Hp} (f : Fr n h h1) (g : FrM M m h1 h2) (hn : n ≤ m) (hM : ∀ k, M k → n ≤ k ∧ k < h1.n) : Fr n h h2 := by
  refine ⟨Nat.le_trans hn g.lo, Nat.le_trans f.le g.le, fun k hk => ?_⟩
  have h1 := f.lo; have h2 := g.le; have h3 := g.lo
  rw [g.at_ k (by omega) (fun hm => by have := hM k hm; omega), f.at_ k (by omega)]
theorem foldY_found : ∀ (l : List (Nat → Int)), foldY (fun (_ : Bool) _ => (true, false)) false l = if l = [] then (false, true) else (true, false)
  | [] => rfl
  | x :: l => by simp [foldY]
theorem ft87 (xt : Addr → Option Value) : (SE xt).ft.get 87 = some Tryz.f87 := by kernel_rfl
theorem res87 : Tryz.f87.results.toList = [.cell 4 4] := by kernel_rfl
theorem possible_c (xt : Addr → Option Value) (h : Hp) (s : Sk) (seen : Nat → Int) (ha : s.At xt h) (h3 : s.sorts.length ≤ 3) (hseen : ∀ j, 0 ≤ seen j) (hs0 : 0 ≤ s.sh) (hs1 : s.sh ≤ 1000) {K : CR → Hp → Prop}
    (hk : ∀ n, h.n < n → K (.ret (.val (.bool (!decide (s.truths seen = []))))) (h.up n)) : FnA (SE xt) 87 [s.av, sh3 seen] h K := by
  refine FnA.calm ?_ hk
  clear hk K
  refine FnA.walk (sok xt) (ft87 xt) rfl 9 rfl ?_
  have x1 : (h.n = h.n + 1) = False := by simp
  have x2 : (h.n = h.n + 2) = False := by simp
  have x3 : (h.n + 1 = h.n + 2) = False := by simp
  have x4 : h.n + 1 + 1 = h.n + 2 := rfl
  have x5 : h.n + 2 + 1 = h.n + 3 := rfl
  refine seq_reg fun K hn hp => ?_
  simp only [sy.down, argsTo, cellPut_some, Nat.reduceEqDiff, reduceIte, Nat.reduceLT, Nat.reduceAdd, Nat.reduceMul, Nat.reduceLeDiff, x4]
  refine hn _ _ ?_
  clear hn hp K
  refine seq_seq ?_
  refine seq_reg fun K1 hn hp => ?_
  simp only [sy.down, argsTo, cellPut_some, Nat.reduceEqDiff, reduceIte, Nat.reduceLT, Nat.reduceAdd, Nat.reduceMul, Nat.reduceLeDiff, x1, x2, x3, x4]
  refine callA_func (sok xt) (truths_c xt _ s seen ?_)
  simp only [sy.down, argsTo, cellPut_some, Nat.reduceEqDiff, reduceIte, Nat.reduceLT, Nat.reduceAdd, Nat.reduceMul, Nat.reduceLeDiff, x1, x2, x3, x4, x5]
  refine hn _ _ ?_
  clear hn hp K1
  obtain ⟨H, hH⟩ : ∃ H : Hp, H = (((((h.new (.cells s.cells 25)).new (.cells [iv (seen 0), iv (seen 1), iv (seen 2)] 95)).new (.cells [.val (.bool false)] 4)).new (.cells s.cells 25)).new (.cells [iv (seen 0), iv (seen 1), iv (seen 2)] 95)) := ⟨_, rfl⟩
  rw [← hH]
  have hHn : H.n = h.n + 5 := by rw [hH]; rfl
  have frH : Fr h.n h H := by rw [hH]; exact ((((((Fr.refl (Nat.le_refl _)).new _).new _).new _).new _).new _)
  have r2 : H.t.get (h.n + 2) = some (.cells [.val (.bool false)] 4) := by rw [hH]; simp [Hp.new_t, Hp.new_n, T.get_put]
  have r3 : H.t.get (h.n + 3) = some (.cells s.cells 25) := by rw [hH]; simp [Hp.new_t, Hp.new_n, T.get_put]
  have r4 : H.t.get (h.n + 4) = some (.cells [iv (seen 0), iv (seen 1), iv (seen 2)] 95) := by rw [hH]; simp [Hp.new_t, Hp.new_n, T.get_put]
  have haH := ha.fr frH (Nat.le_refl _)
  clear hH
  refine seq_block fun K0 k1 k2 k3 k4 k5 => ?_
  refine wpc_range (sok xt) (g := 131) (xs := [.yld (H.n + 1), .ptr (h.n + 3) 0, .ptr (h.n + 4) 0]) (by simp only [sy.down, argsTo, cellPut_some, Nat.reduceEqDiff, reduceIte, Nat.reduceLT, Nat.reduceAdd, Nat.reduceMul, Nat.reduceLeDiff]; rfl) fun rc c1 c2 c3 c4 c5 c6 c7 => ?_
  have hl0 : ((H.new .deferred).new (.loop rc)).t.get (H.n + 1) = some (.loop rc) := by simp [Hp.new_t, Hp.new_n, T.get_put]
  have hr0 : ((H.new .deferred).new (.loop rc)).t.get (h.n + 2) = some (.cells [.val (.bool false)] 4) := by
    simp only [Hp.new_t, Hp.new_n]; rw [T.get_put, if_neg (by omega), T.get_put, if_neg (by omega)]; exact r2
  have hd0 : ((H.new .deferred).new (.loop rc)).t.get H.n = some .deferred := by simp [Hp.new_t, Hp.new_n, T.get_put]
  have frL : Fr h.n h ((H.new .deferred).new (.loop rc)) := (frH.new _).new _
  let Rep : Bool → Hp → Prop := fun a hc => H.n + 2 ≤ hc.n ∧ hc.t.get (H.n + 1) = some (.loop (if a then { rc with state := .done, pending := some .ret } else rc)) ∧ hc.t.get (h.n + 2) = some (.cells [.val (.bool a)] 4)
  have Y : Yl (SE xt) (.yld (H.n + 1)) (fun k => k = H.n + 1 ∨ k = h.n + 2) h.n (fun a => a = false) Rep (fun _ _ => (true, false)) := by
    refine ⟨(fun a now _ hx => by cases hx), ?_, ?_, ?_⟩
    · rintro a hc now K rfl ⟨z1, z2, z3⟩ hk
      simp only [Bool.false_eq_true, if_false] at z2
      refine call_round (sok xt) z2 c1 c3 c4 c5 c6 c7 (tm := _) rfl ?_
      refine wpc_skip ⟨rfl, rfl, rc, z2, c1, ?_⟩
      refine wpc_block fun K' _ _ _ k4' _ => ?_
      have y1 : (h.n + 2 = H.n + 1) = False := by simp; omega
      have y2 : (H.n + 1 = h.n + 2) = False := by simp; omega
      refine seq_reg fun K1 hn hp => ?_
      simp only [sy.down, argsTo, cellPut_some, Nat.reduceEqDiff, reduceIte, Nat.reduceLT, Nat.reduceAdd, Nat.reduceMul, Nat.reduceLeDiff, z3, y1, y2]
      refine hn _ _ (wpc_ret (k4' _ (round_ret (rc := { rc with state := .busy }) ?_ ?_)))
      · simp only [sy.down, argsTo, cellPut_some, Nat.reduceEqDiff, reduceIte, Nat.reduceLT, Nat.reduceAdd, Nat.reduceMul, Nat.reduceLeDiff, z3, y1, y2]
      · refine hk _ ?_ ?_
        · exact (((FrM.refl (Nat.le_refl _)).set (.inr (.inl rfl)) _).set (.inr (.inr rfl)) _).set (.inr (.inl rfl)) _
        · refine ⟨by simpa [Hp.set_n] using z1, ?_, ?_⟩
          · simp [Hp.set_t, T.get_put]
          · simp [Hp.set_t, T.get_put, y1]
    · rintro a hc hc' ⟨z1, z2, z3⟩ hkeep hle
      exact ⟨Nat.le_trans z1 hle, by rw [hkeep _ (.inl (.inl rfl))]; exact z2, by rw [hkeep _ (.inl (.inr rfl))]; exact z3⟩
    · rintro a hc ⟨z1, z2, z3⟩ k (rfl | rfl) <;> omega
  have y3 : (h.n + 3 = H.n + 1) = False := by simp; omega
  refine iter_c xt s seen _ Y (h.n + 3) (h.n + 4) (fun k hm => by rcases hm with rfl | rfl <;> omega) ha.low ⟨rfl, rfl⟩ h3 hseen hs0 hs1 false _ _ rfl ⟨by simp [Hp.new_n], by simpa using hl0, hr0⟩ (by simp [Hp.new_n]; omega) (by simp [Hp.new_n]; omega) (by
      simp only [Hp.new_t, Hp.new_n]; rw [T.get_put, if_neg (by omega), T.get_put, if_neg (by omega)]; exact r3) (by
      simp only [Hp.new_t, Hp.new_n]; rw [T.get_put, if_neg (by omega), T.get_put, if_neg (by omega)]; exact r4) (ha.fr frL (Nat.le_refl _)) fun h' fr' hr' => ?_
  rw [foldY_found] at hr'
  have hn' : H.n + 2 ≤ h'.n := fr'.le
  have hd' : h'.t.get H.n = some .deferred := by rw [fr'.at_ _ (.inl (by simp [Hp.new_n]; omega)) (by rintro (hx | hx) <;> omega)]; exact hd0
  have frE : Fr h.n h h' := Fr.ofM frL fr' (by simp [Hp.new_n]; omega) (fun k hm => by rcases hm with rfl | rfl <;> simp [Hp.new_n] <;> omega)
  have y1 : (h.n + 2 = H.n + 1) = False := by simp; omega
  have y2 : (H.n = H.n + 1) = False := by simp
  have y4 : (H.n = h.n + 2) = False := by simp; omega
  have y5 : (h.n + 2 = H.n) = False := by simp; omega
  by_cases ht : s.truths seen = []
  · rw [if_pos ht] at hr'
    obtain ⟨_, z2, z3⟩ := hr'
    simp only [Bool.false_eq_true, if_false] at z2
    refine range_normal (sok xt) z2 c1 c2 (k1 _ ?_)
    refine seq_reg fun K1 hn hp => ?_
    simp only [sy.down, argsTo, cellPut_some, Nat.reduceEqDiff, reduceIte, Nat.reduceLT, Nat.reduceAdd, Nat.reduceMul, Nat.reduceLeDiff, z3, y1, y2]
    refine hn _ _ (wpc_ret (end_cd res87 (d := H.n) (v := .val (.bool false)) ?_ ?_ ⟨by simp [ht], ?_⟩))
    · simp only [sy.down, argsTo, cellPut_some, Nat.reduceEqDiff, reduceIte, Nat.reduceLT, Nat.reduceAdd, Nat.reduceMul, Nat.reduceLeDiff, y2, y4, hd']
    · simp only [sy.down, argsTo, cellPut_some, Nat.reduceEqDiff, reduceIte, Nat.reduceLT, Nat.reduceAdd, Nat.reduceMul, Nat.reduceLeDiff, Hp.del_t, y1, y5]
    · exact ((frE.set (by omega) (by omega) _).set (by omega) (by simp [Hp.set_n]; omega) _).del (by omega) (by simp [Hp.set_n]; omega)
  · rw [if_neg ht] at hr'
    obtain ⟨_, z2, z3⟩ := hr'
    simp only [if_true] at z2
    refine range_ret (sok xt) z2 rfl rfl (k4 _ ?_)
    refine end_cd res87 (d := H.n) (v := .val (.bool true)) ?_ ?_ ⟨by simp [ht], ?_⟩
    · simp only [sy.down, argsTo, cellPut_some, Nat.reduceEqDiff, reduceIte, Nat.reduceLT, Nat.reduceAdd, Nat.reduceMul, Nat.reduceLeDiff, y2, y4, hd']
    · simp only [sy.down, argsTo, cellPut_some, Nat.reduceEqDiff, reduceIte, Nat.reduceLT, Nat.reduceAdd, Nat.reduceMul, Nat.reduceLeDiff, Hp.del_t, y1, y5, z3]
    · exact (frE.set (by omega) (by omega) _).del (by omega) (by simp [Hp.set_n]; omega)
end Go.Proofs.Kn
namespace Go.Proofs.Kn
open Go Go.Ev
set_option maxRecDepth 100000
/-- The ends of numbers, as they are found. -/
def endStep (a : Int × Int) (x : Int) : Int × Int := if a.1 < 0 then (min x x, max x x) else (min a.1 x, max a.2 x)
def endsOf (g : (Nat → Int) → Int) (l : List (Nat → Int)) : Int × Int := l.foldl (fun a n => endStep a (g n)) (-1, 0)
theorem foldY_ends (g : (Nat → Int) → Int) : ∀ (l : List (Nat → Int)) (a : Int × Int), foldY (fun a n => (endStep a (g n), true)) a l = (l.foldl (fun a n => endStep a (g n)) a, true)
  | [], a => rfl
  | x :: l, a => by simp only [foldY, if_true, List.foldl_cons]; exact foldY_ends g l _
theorem ft48 (xt : Addr → Option Value) : (SE xt).ft.get 48 = some Tryz.f48 := by kernel_rfl
theorem res48 : Tryz.f48.results.toList = [.cell 6 36] := by kernel_rfl
theorem bd36a (a : Int) : abuildA tb 36 [(0, iv a)] = some (.agg [iv a, iv 0]) := by kernel_rfl
theorem bd36b (a b : Int) : abuildA tb 36 [(0, iv a), (1, iv b)] = some (.agg [iv a, iv b]) := by kernel_rfl
/-- A function value that tells a number of shells' numbers; what it looks at lies below 'N'. -/
structure Tells (E : Env) (fv : AV) (N : Nat) (h : Hp) (g : (Nat → Int) → Int) : Prop where
  call : ∀ (h' : Hp) (now : Nat → Int) (K : CR → Hp → Prop), N ≤ h'.n → (∀ k, k < N → h'.t.get k = h.t.get k) → (∀ n, h'.n < n → K (.ret (iv (g now))) (h'.up n)) → CallA E fv [sh3 now] h' K
  one_ : one fv = true
  cells_ : cellsOf fv = [fv]
theorem rc_same (rc : ALoop) (h1 : rc.state = .ready) (h2 : rc.pending = none) : ({ rc with state := .ready, pending := none } : ALoop) = rc := by
  cases rc; simp only at h1 h2; subst h1; subst h2; rfl
theorem ends_c (xt : Addr → Option Value) (h : Hp) (s : Sk) (seen : Nat → Int) (fv : AV) (g : (Nat → Int) → Int) (hf : Tells (SE xt) fv h.n h g) (ha : s.At xt h) (h3 : s.sorts.length ≤ 3) (hseen : ∀ j, 0 ≤ seen j) (hs0 : 0 ≤ s.sh) (hs1 : s.sh ≤ 1000) {K : CR → Hp → Prop}
    (hk : ∀ n, h.n < n → K (.ret (.agg [iv (endsOf g (s.truths seen)).1, iv (endsOf g (s.truths seen)).2])) (h.up n)) : FnA (SE xt) 48 [s.av, sh3 seen, fv] h K := by
  refine FnA.calm ?_ hk
  clear hk K
  refine FnA.walk (sok xt) (ft48 xt) rfl 34 rfl ?_
  have e2 : h.n + 1 + 1 = h.n + 2 := rfl
  have e3 : h.n + 2 + 1 = h.n + 3 := rfl
  have e4 : h.n + 3 + 1 = h.n + 4 := rfl
  have e5 : h.n + 4 + 1 = h.n + 5 := rfl
  have x1 : (h.n = h.n + 1) = False := by simp
  have x2 : (h.n = h.n + 2) = False := by simp
  have x3 : (h.n = h.n + 3) = False := by simp
  have x4 : (h.n = h.n + 4) = False := by simp
  have x5 : (h.n + 1 = h.n + 2) = False := by simp
  have x6 : (h.n + 1 = h.n + 3) = False := by simp
  have x7 : (h.n + 1 = h.n + 4) = False := by simp
  refine seq_reg fun K hn hp => ?_
  simp only [sy.down, argsTo, cellPut_some, Nat.reduceEqDiff, reduceIte, Nat.reduceLT, Nat.reduceAdd, Nat.reduceMul, Nat.reduceLeDiff, e2, e3, hf.one_, hf.cells_]
  refine hn _ _ ?_
  clear hn hp K
  refine seq_reg fun K hn hp => ?_
  simp only [sy.down, argsTo, cellPut_some, Nat.reduceEqDiff, reduceIte, Nat.reduceLT, Nat.reduceAdd, Nat.reduceMul, Nat.reduceLeDiff, e2, e3, e4, bd36a]
  refine hn _ _ ?_
  clear hn hp K
  refine seq_seq ?_
  refine seq_reg fun K1 hn hp => ?_
  simp only [sy.down, argsTo, cellPut_some, Nat.reduceEqDiff, reduceIte, Nat.reduceLT, Nat.reduceAdd, Nat.reduceMul, Nat.reduceLeDiff, e2, e3, e4, x1, x2, x3, x4, x5, x6, x7]
  refine callA_func (sok xt) (truths_c xt _ s seen ?_)
  simp only [sy.down, argsTo, cellPut_some, Nat.reduceEqDiff, reduceIte, Nat.reduceLT, Nat.reduceAdd, Nat.reduceMul, Nat.reduceLeDiff, e2, e3, e4, e5]
  refine hn _ _ ?_
  clear hn hp K1
  obtain ⟨H, hH⟩ : ∃ H : Hp, H = ((((((((h.new (.cells s.cells 25)).new (.cells [iv (seen 0), iv (seen 1), iv (seen 2)] 95)).new (.cells [fv] 93)).new (.cells [iv 0, iv 0] 36)).new (.cells [iv 0, iv 0] 36)).set (h.n + 4) (.cells [iv (-1), iv 0] 36)).new (.cells s.cells 25)).new (.cells [iv (seen 0), iv (seen 1), iv (seen 2)] 95)) := ⟨_, rfl⟩
  rw [← hH]
  have hHn : H.n = h.n + 7 := by rw [hH]; rfl
  have frH : Fr h.n h H := by rw [hH]; exact (((((((Fr.refl (Nat.le_refl _)).new _).new _).new _).new _).new _).set (by omega) (by simp [Hp.new_n]) _).new _ |>.new _
  have r2 : H.t.get (h.n + 2) = some (.cells [fv] 93) := by rw [hH]; simp [Hp.new_t, Hp.new_n, Hp.set_t, Hp.set_n, T.get_put]
  have r3 : H.t.get (h.n + 3) = some (.cells [iv 0, iv 0] 36) := by rw [hH]; simp [Hp.new_t, Hp.new_n, Hp.set_t, Hp.set_n, T.get_put]
  have r4 : H.t.get (h.n + 4) = some (.cells [iv (-1), iv 0] 36) := by rw [hH]; simp [Hp.new_t, Hp.new_n, Hp.set_t, Hp.set_n, T.get_put]
  have r5 : H.t.get (h.n + 5) = some (.cells s.cells 25) := by rw [hH]; simp [Hp.new_t, Hp.new_n, Hp.set_t, Hp.set_n, T.get_put]
  have r6 : H.t.get (h.n + 6) = some (.cells [iv (seen 0), iv (seen 1), iv (seen 2)] 95) := by rw [hH]; simp [Hp.new_t, Hp.new_n, Hp.set_t, Hp.set_n, T.get_put]
  clear hH
  refine seq_block fun K0 k1 k2 k3 k4 k5 => ?_
  refine wpc_range (sok xt) (g := 131) (xs := [.yld (H.n + 1), .ptr (h.n + 5) 0, .ptr (h.n + 6) 0]) (by simp only [sy.down, argsTo, cellPut_some, Nat.reduceEqDiff, reduceIte, Nat.reduceLT, Nat.reduceAdd, Nat.reduceMul, Nat.reduceLeDiff]; rfl) fun rc c1 c2 c3 c4 c5 c6 c7 => ?_
  have hget : ∀ k, k < H.n → ((H.new .deferred).new (.loop rc)).t.get k = H.t.get k := fun k hk => by
    simp only [Hp.new_t, Hp.new_n]; rw [T.get_put, if_neg (by omega), T.get_put, if_neg (by omega)]
  have hl0 : ((H.new .deferred).new (.loop rc)).t.get (H.n + 1) = some (.loop rc) := by simp [Hp.new_t, Hp.new_n, T.get_put]
  have hd0 : ((H.new .deferred).new (.loop rc)).t.get H.n = some .deferred := by simp [Hp.new_t, Hp.new_n, T.get_put]
  have frL : Fr h.n h ((H.new .deferred).new (.loop rc)) := (frH.new _).new _
  let Rep : Int × Int → Hp → Prop := fun a hc => H.n + 2 ≤ hc.n ∧ hc.t.get (H.n + 1) = some (.loop rc) ∧ hc.t.get (h.n + 4) = some (.cells [iv a.1, iv a.2] 36) ∧ hc.t.get (h.n + 2) = some (.cells [fv] 93) ∧ ∀ k, k < h.n → hc.t.get k = h.t.get k
  have Y : Yl (SE xt) (.yld (H.n + 1)) (fun k => k = H.n + 1 ∨ k = h.n + 4 ∨ k = h.n + 2) h.n (fun _ => True) Rep (fun a n => (endStep a (g n), true)) := by
    refine ⟨fun a now _ _ => trivial, ?_, ?_, ?_⟩
    · rintro a hc now K _ ⟨z1, z2, z3, z4, z5⟩ hk
      have y1 : (h.n + 4 = H.n + 1) = False := by simp; omega
      have y2 : (H.n + 1 = h.n + 4) = False := by simp; omega
      have y3 : (h.n + 2 = H.n + 1) = False := by simp; omega
      have y4 : (H.n + 1 = hc.n) = False := by simp; omega
      have y5 : (h.n + 4 = hc.n) = False := by simp; omega
      have y6 : (h.n + 2 = hc.n) = False := by simp; omega
      have y7 : (hc.n = H.n + 1) = False := by simp; omega
      have y8 : (h.n + 2 = h.n + 4) = False := by simp
      refine call_round (sok xt) z2 c1 c3 c4 c5 c6 c7 (tm := _) rfl ?_
      refine reg fun K1 hn hp => ?_
      simp only [sy.down, argsTo, cellPut_some, Nat.reduceEqDiff, reduceIte, Nat.reduceLT, Nat.reduceAdd, Nat.reduceMul, Nat.reduceLeDiff]
      refine hn _ _ ⟨rfl, rfl, rc, ?_, c1, ?_⟩
      · simp only [sy.down, argsTo, cellPut_some, Nat.reduceEqDiff, reduceIte, Nat.reduceLT, Nat.reduceAdd, Nat.reduceMul, Nat.reduceLeDiff, y4, z2]
      clear hn hp K1
      refine wpc_block fun K' k1' _ _ _ _ => ?_
      refine seq_reg fun K1 hn hp => ?_
      simp only [sy.down, argsTo, cellPut_some, Nat.reduceEqDiff, reduceIte, Nat.reduceLT, Nat.reduceAdd, Nat.reduceMul, Nat.reduceLeDiff, y1, y2, y3, y4, y5, y6, y7, z2, z3, z4]
      refine hf.call _ now _ (by simp [Hp.set_n, Hp.new_n]; omega) (fun k hk => ?_) fun m1 hm1 => ?_
      · simp only [Hp.set_t, Hp.new_t]
        rw [T.get_put, if_neg (by omega), T.get_put, if_neg (by omega), T.get_put, if_neg (by omega)]
        exact z5 k hk
      simp only [Hp.set_n, Hp.new_n] at hm1
      simp only [sy.down, argsTo, cellPut_some, Nat.reduceEqDiff, reduceIte, Nat.reduceLT, Nat.reduceAdd, Nat.reduceMul, Nat.reduceLeDiff]
      refine hn _ _ ?_
      clear hn hp K1
      refine seq_seq ?_
      refine seq_reg fun K hn hp => ?_
      simp only [sy.down, argsTo, cellPut_some, Nat.reduceEqDiff, reduceIte, Nat.reduceLT, Nat.reduceAdd, Nat.reduceMul, Nat.reduceLeDiff, y1, y2, y3, y4, y5, y6, y7, z2, z3, z4]
      refine hn _ _ ?_
      clear hn hp K
      have hend : ∀ (hx : Hp) (b : Int × Int), FrM (fun k => k = H.n + 1 ∨ k = h.n + 4 ∨ k = h.n + 2) hc.n hc hx → hx.t.get (h.n + 2) = some (.cells [fv] 93) → (∀ k, k < h.n → hx.t.get k = h.t.get k) → endStep a (g now) = b → K (.ret (.val (.bool true))) ((hx.set (h.n + 4) (.cells [iv b.1, iv b.2] 36)).set (H.n + 1) (.loop rc)) := by
        intro hx b fx u1 u2 hb
        have := fx.lo
        refine hk _ ((fx.set (.inr (.inr (.inl rfl))) _).set (.inr (.inl rfl)) _) ?_
        rw [hb]
        refine ⟨by simp [Hp.set_n]; omega, ?_, ?_, ?_, fun k hk => ?_⟩
        · simp [Hp.set_t, T.get_put]
        · simp [Hp.set_t, T.get_put, y1]
        · simp [Hp.set_t, T.get_put, y3, u1]
        · simp only [Hp.set_t]
          rw [T.get_put, if_neg (by omega), T.get_put, if_neg (by omega)]
          exact u2 k hk
      have hB : ∀ (o1 o2 o3 : AO), FrM (fun k => k = H.n + 1 ∨ k = h.n + 4 ∨ k = h.n + 2) hc.n hc ((((hc.new o1).set hc.n o2).set (H.n + 1) o3).up m1) ∧ ((((hc.new o1).set hc.n o2).set (H.n + 1) o3).up m1).t.get (h.n + 2) = some (.cells [fv] 93) ∧ ∀ k, k < h.n → ((((hc.new o1).set hc.n o2).set (H.n + 1) o3).up m1).t.get k = h.t.get k := by
        intro o1 o2 o3
        refine ⟨((((FrM.refl (Nat.le_refl _)).new _).set (.inl ⟨Nat.le_refl _, by simp [Hp.new_n]⟩) _).set (.inr (.inl rfl)) _).up (by simp [Hp.set_n, Hp.new_n]; omega), ?_, fun k hk => ?_⟩
        · simp [Hp.set_t, Hp.new_t, T.get_put, y3, y6, z4]
        · simp only [Hp.set_t, Hp.up_t, Hp.new_t]
          rw [T.get_put, if_neg (by omega), T.get_put, if_neg (by omega), T.get_put, if_neg (by omega)]
          exact z5 k hk
      have hrc : ({ ({ rc with state := .busy } : ALoop) with state := .ready, pending := none } : ALoop) = rc := rc_same rc c1 c2
      cases q : decide (a.1 < 0)
      · refine seq_cond false (by simp only [sy.down, argsTo, cellPut_some, Nat.reduceEqDiff, reduceIte, Nat.reduceLT, Nat.reduceAdd, Nat.reduceMul, Nat.reduceLeDiff, q]) (fun hx => by cases hx) (fun _ => ?_)
        refine seq_skip ?_
        refine reg fun K1 hn hp => ?_
        simp only [sy.down, argsTo, cellPut_some, Nat.reduceEqDiff, reduceIte, Nat.reduceLT, Nat.reduceAdd, Nat.reduceMul, Nat.reduceLeDiff, y1, y2, y3, y4, y5, y6, y7, z2, z3, z4, bd36b]
        refine hn _ _ (k1' _ (round_normal (rc := { rc with state := .busy }) ?_ ?_))
        · simp only [sy.down, argsTo, cellPut_some, Nat.reduceEqDiff, reduceIte, Nat.reduceLT, Nat.reduceAdd, Nat.reduceMul, Nat.reduceLeDiff, y1, y2, y3, y4, y5, y6, y7]
        · rw [hrc]
          have hq : ¬ a.1 < 0 := by simpa using q
          exact hend _ (min a.1 (g now), max a.2 (g now)) (hB _ _ _).1 (hB _ _ _).2.1 (hB _ _ _).2.2 (by simp only [endStep]; rw [if_neg hq])
      · refine seq_cond true (by simp only [sy.down, argsTo, cellPut_some, Nat.reduceEqDiff, reduceIte, Nat.reduceLT, Nat.reduceAdd, Nat.reduceMul, Nat.reduceLeDiff, q]) (fun _ => ?_) (fun hx => by cases hx)
        have hq : a.1 < 0 := by simpa using q
        refine seq_reg fun K1 hn hp => ?_
        simp only [sy.down, argsTo, cellPut_some, Nat.reduceEqDiff, reduceIte, Nat.reduceLT, Nat.reduceAdd, Nat.reduceMul, Nat.reduceLeDiff, y1, y2, y3, y4, y5, y6, y7, z2, z3, z4, bd36b]
        refine hn _ _ ?_
        clear hn hp K1
        refine reg fun K1 hn hp => ?_
        simp only [sy.down, argsTo, cellPut_some, Nat.reduceEqDiff, reduceIte, Nat.reduceLT, Nat.reduceAdd, Nat.reduceMul, Nat.reduceLeDiff, y1, y2, y3, y4, y5, y6, y7, z2, z3, z4, bd36b]
        refine hn _ _ (k1' _ (round_normal (rc := { rc with state := .busy }) ?_ ?_))
        · simp only [sy.down, argsTo, cellPut_some, Nat.reduceEqDiff, reduceIte, Nat.reduceLT, Nat.reduceAdd, Nat.reduceMul, Nat.reduceLeDiff, y1, y2, y3, y4, y5, y6, y7]
        · rw [hrc]
          obtain ⟨b1, b2, b3⟩ := hB (.cells [iv 0, iv 0, iv 0] 95) (.cells [iv (now 0), iv (now 1), iv (now 2)] 95) (.loop { rc with state := .busy })
          refine hend _ (min (g now) (g now), max (g now) (g now)) (b1.set (.inr (.inr (.inl rfl))) _) ?_ (fun k hk => ?_) (by simp only [endStep]; rw [if_pos hq])
          · simp only [Hp.set_t]; rw [T.get_put, if_neg (by omega)]; exact b2
          · simp only [Hp.set_t]; rw [T.get_put, if_neg (by omega)]; exact b3 k hk
    · rintro a hc hc' ⟨z1, z2, z3, z4, z5⟩ hkeep hle
      exact ⟨Nat.le_trans z1 hle, by rw [hkeep _ (.inl (.inl rfl))]; exact z2, by rw [hkeep _ (.inl (.inr (.inl rfl)))]; exact z3, by rw [hkeep _ (.inl (.inr (.inr rfl)))]; exact z4, fun k hk => by rw [hkeep _ (.inr hk)]; exact z5 k hk⟩
    · rintro a hc ⟨z1, z2, z3, z4, z5⟩ k (rfl | rfl | rfl) <;> omega
  refine iter_c xt s seen _ Y (h.n + 5) (h.n + 6) (fun k hm => by rcases hm with rfl | rfl | rfl <;> omega) ha.low ⟨rfl, rfl⟩ h3 hseen hs0 hs1 (-1, 0) _ _ trivial ⟨by simp [Hp.new_n], hl0, by rw [hget _ (by omega)]; exact r4, by rw [hget _ (by omega)]; exact r2, fun k hk => by rw [hget _ (by omega)]; exact frH.at_ k (.inl hk)⟩ (by simp [Hp.new_n]; omega) (by simp [Hp.new_n]; omega) (by rw [hget _ (by omega)]; exact r5) (by rw [hget _ (by omega)]; exact r6) (ha.fr frL (Nat.le_refl _)) fun h' fr' hr' => ?_
  rw [foldY_ends] at hr'
  obtain ⟨z1, z2, z3, z4, z5⟩ := hr'
  have hn' : H.n + 2 ≤ h'.n := fr'.le
  have hMx : ∀ {k}, k < h.n + 7 → k ≠ h.n + 4 → k ≠ h.n + 2 → ¬ (k = H.n + 1 ∨ k = h.n + 4 ∨ k = h.n + 2) := by rintro k a b c (hx | hx | hx) <;> omega
  have hd' : h'.t.get H.n = some .deferred := by rw [fr'.at_ _ (.inl (by simp [Hp.new_n]; omega)) (by rintro (hx | hx | hx) <;> omega)]; exact hd0
  have hr3 : h'.t.get (h.n + 3) = some (.cells [iv 0, iv 0] 36) := by rw [fr'.at_ _ (.inl (by simp [Hp.new_n]; omega)) (hMx (by omega) (by omega) (by omega)), hget _ (by omega)]; exact r3
  have frE : Fr h.n h h' := Fr.ofM frL fr' (by simp [Hp.new_n]; omega) (fun k hm => by rcases hm with rfl | rfl | rfl <;> simp [Hp.new_n] <;> omega)
  have y1 : (h.n + 4 = H.n + 1) = False := by simp; omega
  have y2 : (h.n + 3 = H.n + 1) = False := by simp; omega
  have y3 : (H.n = H.n + 1) = False := by simp
  have y4 : (H.n = h.n + 3) = False := by simp; omega
  have y5 : (h.n + 3 = H.n) = False := by simp; omega
  refine range_normal (sok xt) z2 c1 c2 (k1 _ ?_)
  refine seq_reg fun K1 hn hp => ?_
  simp only [sy.down, argsTo, cellPut_some, Nat.reduceEqDiff, reduceIte, Nat.reduceLT, Nat.reduceAdd, Nat.reduceMul, Nat.reduceLeDiff, z3, hr3, y1, y2, y3]
  refine hn _ _ (wpc_ret (end_cd res48 (d := H.n) (v := .agg [iv (endsOf g (s.truths seen)).1, iv (endsOf g (s.truths seen)).2]) ?_ ?_ ⟨rfl, ?_⟩))
  · simp only [sy.down, argsTo, cellPut_some, Nat.reduceEqDiff, reduceIte, Nat.reduceLT, Nat.reduceAdd, Nat.reduceMul, Nat.reduceLeDiff, y3, y4, hd']
  · simp only [sy.down, argsTo, cellPut_some, Nat.reduceEqDiff, reduceIte, Nat.reduceLT, Nat.reduceAdd, Nat.reduceMul, Nat.reduceLeDiff, Hp.del_t, y2, y5, y3]
    rfl
  · exact ((frE.set (by omega) (by omega) _).set (by omega) (by simp [Hp.set_n]; omega) _).del (by omega) (by simp [Hp.set_n]; omega)
end Go.Proofs.Kn
namespace Go.Proofs.Kn
open Go Go.Ev
set_option maxRecDepth 100000
theorem seenW_in {sh : Int} : ∀ (l : List Int) (a : Int), seenW sh l a = true → ∀ x ∈ l, 0 ≤ x ∧ x ≤ sh
  | [], _, _, x, hx => by simp at hx
  | n :: l, a, h, x, hx => by
    simp only [seenW, Bool.and_eq_true, decide_eq_true_eq] at h
    rcases List.mem_cons.1 hx with rfl | hx
    · exact h.1
    · exact seenW_in l _ h.2.2 x hx
/-- What was seen of each sort. -/
def Sk.seenF (s : Sk) : Nat → Int := fun i => s.seen.getD i 0
theorem Sk.facts {s : Sk} (h : s.ok = true) : s.sorts.length ≤ 3 ∧ s.seen.length ≤ 3 ∧ (∀ j, 0 ≤ s.seenF j) ∧ 0 ≤ s.sh ∧ s.sh ≤ 1000 := by
  simp only [Sk.ok, Bool.and_eq_true, decide_eq_true_eq] at h
  obtain ⟨h1, h2, h3, h4, h5⟩ := h
  refine ⟨by omega, by omega, fun j => ?_, by omega, by omega⟩
  unfold Sk.seenF
  rw [List.getD_eq_getElem?_getD]
  cases hj : s.seen[j]? with
  | none => simp
  | some x => exact (seenW_in _ _ h1 x (List.mem_of_getElem? hj)).1
/-- The error of a sack. -/
def Sk.err (s : Sk) : Int := if s.ok = true then (if s.truths s.seenF = [] then 7 else 0) else 2
theorem ft20 (xt : Addr → Option Value) : (SE xt).ft.get 20 = some Tryz.f20 := by kernel_rfl
theorem res20 : Tryz.f20.results.toList = [.tmp 2] := by kernel_rfl
theorem sack_c (xt : Addr → Option Value) (h : Hp) (s : Sk) (ha : s.At xt h) {K : CR → Hp → Prop} (hk : ∀ n, h.n < n → K (.ret (iv (if s.ok = true then 0 else 2))) (h.up n)) : FnA (SE xt) 20 [s.av] h K := by
  refine FnA.calm ?_ hk
  clear hk K
  refine FnA.walk (sok xt) (ft20 xt) rfl 6 rfl ?_
  refine seq_reg fun K hn hp => ?_
  simp only [sy.down, argsTo, cellPut_some, Nat.reduceEqDiff, reduceIte, Nat.reduceLT, Nat.reduceAdd, Nat.reduceMul, Nat.reduceLeDiff]
  refine hn _ _ ?_
  clear hn hp K
  refine seq_seq ?_
  refine seq_reg fun K1 hn hp => ?_
  simp only [sy.down, argsTo, cellPut_some, Nat.reduceEqDiff, reduceIte, Nat.reduceLT, Nat.reduceAdd, Nat.reduceMul, Nat.reduceLeDiff]
  refine callA_func (sok xt) (isSack_c xt _ s (ha.new _) fun m1 hm1 => ?_)
  simp only [Hp.new_n] at hm1
  have hfr : ∀ o, Fr h.n h ((h.new o).up m1) := fun o => ((Fr.refl (Nat.le_refl _)).new _).up (Nat.le_of_lt hm1)
  simp only [sy.down, argsTo, cellPut_some, Nat.reduceEqDiff, reduceIte, Nat.reduceLT, Nat.reduceAdd, Nat.reduceMul, Nat.reduceLeDiff]
  refine hn _ _ ?_
  clear hn hp K1
  cases q : s.ok
  · refine seq_cond true (by simp only [sy.down, argsTo, cellPut_some, Nat.reduceEqDiff, reduceIte, Nat.reduceLT, Nat.reduceAdd, Nat.reduceMul, Nat.reduceLeDiff, q]) (fun _ => ?_) (fun hx => by cases hx)
    refine seq_seq ?_
    refine seq_reg fun K hn hp => ?_
    simp only [sy.down, argsTo, cellPut_some, Nat.reduceEqDiff, reduceIte, Nat.reduceLT, Nat.reduceAdd, Nat.reduceMul, Nat.reduceLeDiff]
    refine hn _ _ ?_
    clear hn hp K
    refine seq_ret (end_1 res20 ⟨?_, hfr _⟩)
    simp [T.get_put]
  · refine seq_cond false (by simp only [sy.down, argsTo, cellPut_some, Nat.reduceEqDiff, reduceIte, Nat.reduceLT, Nat.reduceAdd, Nat.reduceMul, Nat.reduceLeDiff, q]) (fun hx => by cases hx) (fun _ => ?_)
    refine seq_skip ?_
    refine seq_reg fun K hn hp => ?_
    simp only [sy.down, argsTo, cellPut_some, Nat.reduceEqDiff, reduceIte, Nat.reduceLT, Nat.reduceAdd, Nat.reduceMul, Nat.reduceLeDiff]
    refine hn _ _ ?_
    clear hn hp K
    refine wpc_ret (end_1 res20 ⟨?_, hfr _⟩)
    simp [T.get_put]
theorem ft42 (xt : Addr → Option Value) : (SE xt).ft.get 42 = some Tryz.f42 := by kernel_rfl
theorem res42 : Tryz.f42.results.toList = [.tmp 2] := by kernel_rfl
theorem asked_c (xt : Addr → Option Value) (h : Hp) (s : Sk) (ha : s.At xt h) {K : CR → Hp → Prop} (hk : ∀ n, h.n < n → K (.ret (iv s.err)) (h.up n)) : FnA (SE xt) 42 [s.av] h K := by
  refine FnA.calm ?_ hk
  clear hk K
  refine FnA.walk (sok xt) (ft42 xt) rfl 12 rfl ?_
  refine seq_reg fun K hn hp => ?_
  simp only [sy.down, argsTo, cellPut_some, Nat.reduceEqDiff, reduceIte, Nat.reduceLT, Nat.reduceAdd, Nat.reduceMul, Nat.reduceLeDiff]
  refine hn _ _ ?_
  clear hn hp K
  refine seq_seq ?_
  refine seq_reg fun K1 hn hp => ?_
  simp only [sy.down, argsTo, cellPut_some, Nat.reduceEqDiff, reduceIte, Nat.reduceLT, Nat.reduceAdd, Nat.reduceMul, Nat.reduceLeDiff]
  refine callA_func (sok xt) (isSack_c xt _ s (ha.new _) fun m1 hm1 => ?_)
  simp only [Hp.new_n] at hm1
  have hfr : ∀ m o, h.n + 1 ≤ m → Fr h.n h ((h.new o).up m) := fun m o hm => ((Fr.refl (Nat.le_refl _)).new _).up hm
  simp only [sy.down, argsTo, cellPut_some, Nat.reduceEqDiff, reduceIte, Nat.reduceLT, Nat.reduceAdd, Nat.reduceMul, Nat.reduceLeDiff]
  refine hn _ _ ?_
  clear hn hp K1
  cases q : s.ok
  · refine seq_cond true (by simp only [sy.down, argsTo, cellPut_some, Nat.reduceEqDiff, reduceIte, Nat.reduceLT, Nat.reduceAdd, Nat.reduceMul, Nat.reduceLeDiff, q]) (fun _ => ?_) (fun hx => by cases hx)
    refine seq_seq ?_
    refine seq_reg fun K hn hp => ?_
    simp only [sy.down, argsTo, cellPut_some, Nat.reduceEqDiff, reduceIte, Nat.reduceLT, Nat.reduceAdd, Nat.reduceMul, Nat.reduceLeDiff]
    refine hn _ _ ?_
    clear hn hp K
    refine seq_ret (end_1 res42 ⟨?_, hfr _ _ (by omega)⟩)
    simp [T.get_put, Sk.err, q]
  · obtain ⟨f1, f2, f3, f4, f5⟩ := Sk.facts q
    refine seq_cond false (by simp only [sy.down, argsTo, cellPut_some, Nat.reduceEqDiff, reduceIte, Nat.reduceLT, Nat.reduceAdd, Nat.reduceMul, Nat.reduceLeDiff, q]) (fun hx => by cases hx) (fun _ => ?_)
    refine seq_skip ?_
    refine seq_seq ?_
    refine seq_regD (sok xt) 4 (by kernel_rfl) fun K1 hn hp => ?_
    simp only [sy.down, argsTo, cellPut_some, Nat.reduceEqDiff, reduceIte, Nat.reduceLT, Nat.reduceAdd, Nat.reduceMul, Nat.reduceLeDiff]
    have ha1 := (ha.new (.cells s.cells 25)).up (Nat.le_of_lt hm1)
    refine callA_func (sok xt) (list_c xt _ s.ve s.seen ha1.seen f2 fun m2 hm2 => ?_)
    simp only [Hp.up_n] at hm2
    simp only [sy.down, argsTo, cellPut_some, Nat.reduceEqDiff, reduceIte, Nat.reduceLT, Nat.reduceAdd, Nat.reduceMul, Nat.reduceLeDiff, WOCn_t (h := (h.new (.cells s.cells 25)).up m1) hm2]
    refine callA_func (sok xt) (possible_c xt _ s s.seenF (ha1.up (Nat.le_of_lt hm2)) f1 f3 f4 f5 fun m3 hm3 => ?_)
    simp only [Hp.up_n] at hm3
    simp only [sy.down, argsTo, cellPut_some, Nat.reduceEqDiff, reduceIte, Nat.reduceLT, Nat.reduceAdd, Nat.reduceMul, Nat.reduceLeDiff, Hp.up_up]
    refine hn _ _ ?_
    clear hn hp K1
    by_cases ht : s.truths s.seenF = []
    · refine seq_cond true (by simp only [sy.down, argsTo, cellPut_some, Nat.reduceEqDiff, reduceIte, Nat.reduceLT, Nat.reduceAdd, Nat.reduceMul, Nat.reduceLeDiff, ht]) (fun _ => ?_) (fun hx => by cases hx)
      refine seq_seq ?_
      refine seq_reg fun K hn hp => ?_
      simp only [sy.down, argsTo, cellPut_some, Nat.reduceEqDiff, reduceIte, Nat.reduceLT, Nat.reduceAdd, Nat.reduceMul, Nat.reduceLeDiff]
      refine hn _ _ ?_
      clear hn hp K
      refine seq_ret (end_1 res42 ⟨?_, hfr _ _ (by omega)⟩)
      simp [T.get_put, Sk.err, q, ht]
    · refine seq_cond false (by simp only [sy.down, argsTo, cellPut_some, Nat.reduceEqDiff, reduceIte, Nat.reduceLT, Nat.reduceAdd, Nat.reduceMul, Nat.reduceLeDiff, ht]) (fun hx => by cases hx) (fun _ => ?_)
      refine seq_skip ?_
      refine seq_reg fun K hn hp => ?_
      simp only [sy.down, argsTo, cellPut_some, Nat.reduceEqDiff, reduceIte, Nat.reduceLT, Nat.reduceAdd, Nat.reduceMul, Nat.reduceLeDiff]
      refine hn _ _ ?_
      clear hn hp K
      refine wpc_ret (end_1 res42 ⟨?_, hfr _ _ (by omega)⟩)
      simp [T.get_put, Sk.err, q, ht]
theorem ft49 (xt : Addr → Option Value) : (SE xt).ft.get 49 = some Tryz.f49 := by kernel_rfl
theorem res49 : Tryz.f49.results.toList = [.tmp 3] := by kernel_rfl
theorem total1_tells (xt : Addr → Option Value) (h : Hp) (s : Sk) (ha : s.At xt h) (h3 : s.sorts.length ≤ 3) (b N : Nat) (hb : b < N) (hN : N ≤ h.n) (hlow : s.Low N) (q : h.t.get b = some (.cells s.cells 25)) : Tells (SE xt) (.fn (.func 49) [] [.ptr b 0]) N h s.blanks := by
  refine ⟨fun h' now K hn' hsame hk => ?_, rfl, rfl⟩
  have q' : h'.t.get b = some (.cells s.cells 25) := by rw [hsame b hb]; exact q
  have ha' : s.At xt h' := by
    have key : ∀ {sz : Nat} {v : AV} {cs : List (List Value)}, RowAt xt h sz v cs → (∀ b off n e, v = .sl b off n e → b < N) → RowAt xt h' sz v cs := by
      rintro sz v cs ⟨h1, h2, h3⟩ hv
      refine ⟨h1, h2, ?_⟩
      rcases h3 with h3 | h3 | ⟨b, off, av, e, he, ⟨hlt, hle, hb⟩, hc⟩
      · exact .inl h3
      · exact .inr (.inl h3)
      · have := hv _ _ _ _ he
        exact .inr (.inr ⟨b, off, av, e, he, ⟨by omega, hle, by rw [hsame b this]; exact hb⟩, hc⟩)
    exact ⟨key ha.sorts hlow.1, key ha.seen hlow.2, ha.ls, ha.le⟩
  have n1 : (b = h'.n) = False := by simp; omega
  refine callA_fn (sok xt) ?_
  simp only [List.nil_append, List.cons_append]
  refine FnA.calm ?_ hk
  refine FnA.walk (sok xt) (ft49 xt) rfl 7 rfl ?_
  refine seq_reg fun K hn hp => ?_
  simp only [sy.down, argsTo, cellPut_some, Nat.reduceEqDiff, reduceIte, Nat.reduceLT, Nat.reduceAdd, Nat.reduceMul, Nat.reduceLeDiff]
  refine hn _ _ ?_
  clear hn hp K
  refine seq_reg fun K1 hn hp => ?_
  simp only [sy.down, argsTo, cellPut_some, Nat.reduceEqDiff, reduceIte, Nat.reduceLT, Nat.reduceAdd, Nat.reduceMul, Nat.reduceLeDiff, n1, q']
  refine callA_func (sok xt) (blanks_c xt _ s (ha'.new _) h3 now fun m1 hm1 => ?_)
  simp only [Hp.new_n] at hm1
  simp only [sy.down, argsTo, cellPut_some, Nat.reduceEqDiff, reduceIte, Nat.reduceLT, Nat.reduceAdd, Nat.reduceMul, Nat.reduceLeDiff]
  refine hn _ _ (wpc_ret (end_1 res49 ⟨?_, ((Fr.refl (Nat.le_refl _)).new _).up (Nat.le_of_lt hm1)⟩))
  simp [T.get_put]
theorem ft15 (xt : Addr → Option Value) : (SE xt).ft.get 15 = some Tryz.f15 := by kernel_rfl
theorem res15 : Tryz.f15.results.toList = [.cell 2 36, .tmp 3] := by kernel_rfl
theorem bd36 : abuildA tb 36 [] = some (.agg [iv 0, iv 0]) := by kernel_rfl
/-- The ends of the blanks of a sack. -/
def Sk.total (s : Sk) : Int × Int := if s.err = 0 then endsOf s.blanks (s.truths s.seenF) else (0, 0)
theorem total_c (xt : Addr → Option Value) (h : Hp) (s : Sk) (ha : s.At xt h) {K : CR → Hp → Prop} (hk : ∀ n, h.n < n → K (.ret (.tup [.agg [iv s.total.1, iv s.total.2], iv s.err])) (h.up n)) : FnA (SE xt) 15 [s.av] h K := by
  refine FnA.calm ?_ hk
  clear hk K
  refine FnA.walk (sok xt) (ft15 xt) rfl 17 rfl ?_
  have n1 : (h.n = h.n + 1) = False := by simp
  refine seq_reg fun K hn hp => ?_
  simp only [sy.down, argsTo, cellPut_some, Nat.reduceEqDiff, reduceIte, Nat.reduceLT, Nat.reduceAdd, Nat.reduceMul, Nat.reduceLeDiff]
  refine hn _ _ ?_
  clear hn hp K
  refine seq_seq ?_
  refine seq_reg fun K1 hn hp => ?_
  simp only [sy.down, argsTo, cellPut_some, Nat.reduceEqDiff, reduceIte, Nat.reduceLT, Nat.reduceAdd, Nat.reduceMul, Nat.reduceLeDiff, n1]
  have ha1 := (ha.new (.cells s.cells 25)).new (.cells [iv 0, iv 0] 36)
  refine callA_func (sok xt) (asked_c xt _ s ha1 fun m1 hm1 => ?_)
  simp only [Hp.new_n] at hm1
  simp only [sy.down, argsTo, cellPut_some, Nat.reduceEqDiff, reduceIte, Nat.reduceLT, Nat.reduceAdd, Nat.reduceMul, Nat.reduceLeDiff]
  refine hn _ _ ?_
  clear hn hp K1
  refine seq_seq ?_
  have hfr : ∀ m o1 o2 o3, h.n + 2 ≤ m → Fr h.n h ((((h.new o1).new o2).up m).set (h.n + 1) o3) := fun m o1 o2 o3 hm => ((((Fr.refl (Nat.le_refl _)).new _).new _).up hm).set (by omega) (by simp; omega) _
  by_cases he : s.err = 0
  · have hd : decide (s.err = 0) = true := by simp [he]
    refine seq_reg fun K hn hp => ?_
    simp only [sy.down, argsTo, cellPut_some, Nat.reduceEqDiff, reduceIte, Nat.reduceLT, Nat.reduceAdd, Nat.reduceMul, Nat.reduceLeDiff, hd]
    refine hn _ _ ?_
    clear hn hp K
    refine seq_cond false (by simp only [sy.down, argsTo, cellPut_some, Nat.reduceEqDiff, reduceIte, Nat.reduceLT, Nat.reduceAdd, Nat.reduceMul, Nat.reduceLeDiff]) (fun hx => by cases hx) (fun _ => ?_)
    refine seq_skip ?_
    have hok : s.ok = true := by
      cases hq : s.ok with
      | true => rfl
      | false => simp [Sk.err, hq] at he
    obtain ⟨f1, f2, f3, f4, f5⟩ := Sk.facts hok
    refine seq_regD (sok xt) 5 (by kernel_rfl) fun K1 hn hp => ?_
    simp only [sy.down, argsTo, cellPut_some, Nat.reduceEqDiff, reduceIte, Nat.reduceLT, Nat.reduceAdd, Nat.reduceMul, Nat.reduceLeDiff, n1]
    have ha2 := ha1.up (Nat.le_of_lt hm1)
    refine callA_func (sok xt) (list_c xt _ s.ve s.seen ha2.seen f2 fun m2 hm2 => ?_)
    simp only [Hp.up_n] at hm2
    simp only [sy.down, argsTo, cellPut_some, Nat.reduceEqDiff, reduceIte, Nat.reduceLT, Nat.reduceAdd, Nat.reduceMul, Nat.reduceLeDiff, WOCn_t (h := ((h.new (.cells s.cells 25)).new (.cells [iv 0, iv 0] 36)).up m1) hm2, n1]
    have hlow : s.Low m1 := ⟨fun b off n e hv => by have := ha.low.1 _ _ _ _ hv; omega, fun b off n e hv => by have := ha.low.2 _ _ _ _ hv; omega⟩
    refine callA_func (sok xt) (ends_c xt _ s s.seenF _ s.blanks (total1_tells xt _ s (ha2.up (Nat.le_of_lt hm2)) f1 h.n m2 (by omega) (by simp) ⟨fun b off n e hv => by have := hlow.1 _ _ _ _ hv; omega, fun b off n e hv => by have := hlow.2 _ _ _ _ hv; omega⟩ (by simp only [sy.down, argsTo, cellPut_some, Nat.reduceEqDiff, reduceIte, Nat.reduceLT, Nat.reduceAdd, Nat.reduceMul, Nat.reduceLeDiff, n1])) (ha2.up (Nat.le_of_lt hm2)) f1 f3 f4 f5 fun m3 hm3 => ?_)
    simp only [Hp.up_n] at hm3
    simp only [sy.down, argsTo, cellPut_some, Nat.reduceEqDiff, reduceIte, Nat.reduceLT, Nat.reduceAdd, Nat.reduceMul, Nat.reduceLeDiff, Hp.up_up, n1]
    refine hn _ _ (wpc_ret (end_c1 res15 (v := .agg [iv s.total.1, iv s.total.2]) ?_ ⟨?_, hfr _ _ _ _ (by omega)⟩))
    · simp only [sy.down, argsTo, cellPut_some, Nat.reduceEqDiff, reduceIte, Nat.reduceLT, Nat.reduceAdd, Nat.reduceMul, Nat.reduceLeDiff, Sk.total, he]
    · simp [T.get_put, he]
  · have hd : decide (s.err = 0) = false := by simp [he]
    refine seq_reg fun K hn hp => ?_
    simp only [sy.down, argsTo, cellPut_some, Nat.reduceEqDiff, reduceIte, Nat.reduceLT, Nat.reduceAdd, Nat.reduceMul, Nat.reduceLeDiff, hd]
    refine hn _ _ ?_
    clear hn hp K
    refine seq_cond true (by simp only [sy.down, argsTo, cellPut_some, Nat.reduceEqDiff, reduceIte, Nat.reduceLT, Nat.reduceAdd, Nat.reduceMul, Nat.reduceLeDiff]) (fun _ => ?_) (fun hx => by cases hx)
    refine seq_seq ?_
    refine seq_reg fun K hn hp => ?_
    simp only [sy.down, argsTo, cellPut_some, Nat.reduceEqDiff, reduceIte, Nat.reduceLT, Nat.reduceAdd, Nat.reduceMul, Nat.reduceLeDiff, bd36]
    refine hn _ _ ?_
    clear hn hp K
    refine seq_ret (end_c1 res15 (v := .agg [iv s.total.1, iv s.total.2]) ?_ ⟨?_, hfr _ _ _ _ (by omega)⟩)
    · simp only [sy.down, argsTo, cellPut_some, Nat.reduceEqDiff, reduceIte, Nat.reduceLT, Nat.reduceAdd, Nat.reduceMul, Nat.reduceLeDiff, Sk.total, he]
    · simp [T.get_put]
end Go.Proofs.Kn
namespace Go.Proofs.Kn
open Go Go.Ev
set_option maxRecDepth 100000
theorem ft55 (xt : Addr → Option Value) : (SE xt).ft.get 55 = some Tryz.f55 := by kernel_rfl
theorem res55 : Tryz.f55.results.toList = [.tmp 3] := by kernel_rfl
theorem sorts1_tells (xt : Addr → Option Value) (h : Hp) (i : Nat) (hi : i < 3) (b N : Nat) (hb : b < N) (q : h.t.get b = some (.cells [iv i] 3)) : Tells (SE xt) (.fn (.func 55) [] [.ptr b 0]) N h (fun n => n i) := by
  refine ⟨fun h' now K hn' hsame hk => ?_, rfl, rfl⟩
  have q' : h'.t.get b = some (.cells [iv i] 3) := by rw [hsame b hb]; exact q
  have n1 : (b = h'.n) = False := by simp; omega
  refine callA_fn (sok xt) ?_
  simp only [List.nil_append, List.cons_append]
  refine FnA.calm ?_ hk
  refine FnA.walk (sok xt) (ft55 xt) rfl 7 rfl ?_
  have hia := fun b => ia95 b 0 i hi
  have hsg := sh3_get now hi
  refine seq_reg fun K hn hp => ?_
  simp only [sy.down, argsTo, cellPut_some, Nat.reduceEqDiff, reduceIte, Nat.reduceLT, Nat.reduceAdd, Nat.reduceMul, Nat.reduceLeDiff]
  refine hn _ _ ?_
  clear hn hp K
  refine seq_reg fun K hn hp => ?_
  simp only [sy.down, argsTo, cellPut_some, Nat.reduceEqDiff, reduceIte, Nat.reduceLT, Nat.reduceAdd, Nat.reduceMul, Nat.reduceLeDiff, n1, q', hia, Nat.mul_one, hsg]
  refine hn _ _ ?_
  clear hn hp K
  refine wpc_ret (end_1 res55 ⟨?_, (Fr.refl (Nat.le_refl _)).new _⟩)
  simp [T.get_put]
theorem ft18 (xt : Addr → Option Value) : (SE xt).ft.get 18 = some Tryz.f18 := by kernel_rfl
theorem res18 : Tryz.f18.results.toList = [.tmp 2, .tmp 3] := by kernel_rfl
theorem bs43 (h : Hp) (a b : Int) : aoBuildSlice tb h 43 1 [(0, .agg [iv a, iv b])] = some (.sl h.n 0 1 2, h.new (.cells [iv a, iv b] 36)) := by kernel_rfl
def c2 (x : Int × Int) : List Value := [.int .i64 x.1, .int .i64 x.2]
/-- The ends of the numbers of shells of each sort. -/
def Sk.spans (s : Sk) : List (Int × Int) := if s.err = 0 then (List.range s.sorts.length).map (fun i => endsOf (fun n => n i) (s.truths s.seenF)) else []
def spK (g : Nat → Int × Int) (k : Nat) : List (List Value) := (List.range k).map fun i => c2 (g i)
theorem spK_succ (g : Nat → Int × Int) (k : Nat) : (spK g (k + 1)).flatten.map AV.val = (spK g k).flatten.map AV.val ++ [iv (g k).1, iv (g k).2] := by
  simp [spK, List.range_succ, c2]
/-- What 'Sorts' comes to. -/
def SortsR (xt : Addr → Option Value) (s : Sk) (h : Hp) (r : CR) (h' : Hp) : Prop := ∃ v, r = .ret (.tup [v, iv s.err]) ∧ Fr h.n h h' ∧ RowAt xt h' 2 v (s.spans.map c2)
theorem sorts_c (xt : Addr → Option Value) (h : Hp) (s : Sk) (ha : s.At xt h) : FnA (SE xt) 18 [s.av] h (SortsR xt s h) := by
  refine FnA.walk (sok xt) (ft18 xt) rfl 31 rfl ?_
  refine seq_reg fun K hn hp => ?_
  simp only [sy.down, argsTo, cellPut_some, Nat.reduceEqDiff, reduceIte, Nat.reduceLT, Nat.reduceAdd, Nat.reduceMul, Nat.reduceLeDiff]
  refine hn _ _ ?_
  clear hn hp K
  refine seq_seq ?_
  refine seq_reg fun K1 hn hp => ?_
  simp only [sy.down, argsTo, cellPut_some, Nat.reduceEqDiff, reduceIte, Nat.reduceLT, Nat.reduceAdd, Nat.reduceMul, Nat.reduceLeDiff]
  have ha1 := ha.new (.cells s.cells 25)
  refine callA_func (sok xt) (asked_c xt _ s ha1 fun m1 hm1 => ?_)
  simp only [Hp.new_n] at hm1
  simp only [sy.down, argsTo, cellPut_some, Nat.reduceEqDiff, reduceIte, Nat.reduceLT, Nat.reduceAdd, Nat.reduceMul, Nat.reduceLeDiff]
  refine hn _ _ ?_
  clear hn hp K1
  refine seq_seq ?_
  have hfr : Fr h.n h ((h.new (.cells s.cells 25)).up m1) := ((Fr.refl (Nat.le_refl _)).new _).up (Nat.le_of_lt hm1)
  by_cases he : s.err = 0
  · have hd : decide (s.err = 0) = true := by simp [he]
    refine seq_reg fun K hn hp => ?_
    simp only [sy.down, argsTo, cellPut_some, Nat.reduceEqDiff, reduceIte, Nat.reduceLT, Nat.reduceAdd, Nat.reduceMul, Nat.reduceLeDiff, hd]
    refine hn _ _ ?_
    clear hn hp K
    refine seq_cond false (by simp only [sy.down, argsTo, cellPut_some, Nat.reduceEqDiff, reduceIte, Nat.reduceLT, Nat.reduceAdd, Nat.reduceMul, Nat.reduceLeDiff]) (fun hx => by cases hx) (fun _ => ?_)
    refine seq_skip ?_
    have hok : s.ok = true := by
      cases hq : s.ok with
      | true => rfl
      | false => simp [Sk.err, hq] at he
    obtain ⟨f1, f2, f3, f4, f5⟩ := Sk.facts hok
    have hlenS := fun h' => ha.sorts.len (h' := h') tg22 rfl
    simp only [List.length_map] at hlenS
    refine seq_reg fun K hn hp => ?_
    simp only [sy.down, argsTo, cellPut_some, Nat.reduceEqDiff, reduceIte, Nat.reduceLT, Nat.reduceAdd, Nat.reduceMul, Nat.reduceLeDiff]
    refine hn _ _ ?_
    clear hn hp K
    refine seq_seq ?_
    refine seq_reg fun K hn hp => ?_
    simp only [sy.down, argsTo, cellPut_some, Nat.reduceEqDiff, reduceIte, Nat.reduceLT, Nat.reduceAdd, Nat.reduceMul, Nat.reduceLeDiff, hlenS]
    refine hn _ _ ?_
    clear hn hp K
    refine seq_block fun K k1 k2 k3 k4 k5 => ?_
    refine wpc_loop (sok xt) (fun st => ∃ (k : Nat) (v : AV) (tm : T AV) (hc : Hp), st = ⟨tm, 31, hc, []⟩ ∧ Fr (h.n + 1) (h.new (.cells s.cells 25)) hc ∧ k ≤ s.sorts.length ∧ tm.get 1 = some (.ptr h.n 0) ∧ tm.get 5 = some v ∧ tm.get 15 = some (iv s.sorts.length) ∧ tm.get 16 = some (iv k) ∧
        OwnSl hc (h.n + 1) 2 36 v k ((spK (fun i => endsOf (fun n => n i) (s.truths s.seenF)) k).flatten.map .val))
      (fun st => s.sorts.length - (match st.tm.get 16 with | some (.val (.int _ n)) => n.toNat | _ => 0)) ?_ ?_
    · rintro st ⟨k, v, tm, hc, rfl, fr, hk, g1, g5, g15, g16, ow⟩
      have hlo := fr.lo
      have q0 : hc.t.get h.n = some (.cells s.cells 25) := by rw [fr.at_ _ (by omega)]; simp [Hp.new_t, T.get_put]
      have n0 : (h.n = hc.n) = False := by simp; omega
      refine seq_reg fun K hn hp => ?_
      simp only [sy.down, argsTo, cellPut_some, Nat.reduceEqDiff, reduceIte, Nat.reduceLT, Nat.reduceAdd, Nat.reduceMul, Nat.reduceLeDiff, g1, g5, g15, g16]
      refine hn _ _ ?_
      clear hn hp K
      have ht : (decide ((k : Int) < (s.sorts.length : Int))) = decide (k < s.sorts.length) := by simp
      by_cases hlt : k < s.sorts.length
      · refine seq_cond true (by simp only [sy.down, argsTo, cellPut_some, Nat.reduceEqDiff, reduceIte, Nat.reduceLT, Nat.reduceAdd, Nat.reduceMul, Nat.reduceLeDiff, g15, g16, ht, hlt]) (fun _ => ?_) (fun hx => by cases hx)
        refine seq_skip ?_
        refine seq_block fun K' k1' k2' k3' k4' k5' => ?_
        refine seq_reg fun K hn hp => ?_
        simp only [sy.down, argsTo, cellPut_some, Nat.reduceEqDiff, reduceIte, Nat.reduceLT, Nat.reduceAdd, Nat.reduceMul, Nat.reduceLeDiff, g1, g5, g15, g16]
        refine hn _ _ ?_
        clear hn hp K
        have frC : Fr hc.n hc ((hc.new (.cells [iv 0] 3)).set hc.n (.cells [iv k] 3)) := ((Fr.refl (Nat.le_refl _)).new _).set (Nat.le_refl _) (by simp [Hp.new_n]) _
        have haC : s.At xt ((hc.new (.cells [iv 0] 3)).set hc.n (.cells [iv k] 3)) := (ha1.fr fr (by simp [Hp.new_n])).fr frC (Nat.le_refl _)
        refine seq_regDA (sok xt) 6 (by kernel_rfl) fun K1 hn hp => ?_
        simp only [sy.down, argsTo, cellPut_some, Nat.reduceEqDiff, reduceIte, Nat.reduceLT, Nat.reduceAdd, Nat.reduceMul, Nat.reduceLeDiff, g1, g5, g15, g16, q0, n0]
        refine callA_func (sok xt) (list_c xt _ s.ve s.seen haC.seen f2 fun m2 hm2 => ?_)
        simp only [Hp.set_n, Hp.new_n] at hm2
        simp only [sy.down, argsTo, cellPut_some, Nat.reduceEqDiff, reduceIte, Nat.reduceLT, Nat.reduceAdd, Nat.reduceMul, Nat.reduceLeDiff, WOCn_t (h := (hc.new (.cells [iv 0] 3)).set hc.n (.cells [iv k] 3)) hm2, g1, g5, g15, g16, q0, n0]
        have haD := haC.up (n := m2) (by simp [Hp.set_n, Hp.new_n]; omega)
        refine callA_func (sok xt) (ends_c xt _ s s.seenF _ (fun n => n k) (sorts1_tells xt _ k (by omega) hc.n m2 (by omega) (by simp [Hp.set_t, T.get_put])) haD f1 f3 f4 f5 fun m3 hm3 => ?_)
        simp only [Hp.up_n] at hm3
        simp only [sy.down, argsTo, cellPut_some, Nat.reduceEqDiff, reduceIte, Nat.reduceLT, Nat.reduceAdd, Nat.reduceMul, Nat.reduceLeDiff, WOCn_t (h := ((hc.new (.cells [iv 0] 3)).set hc.n (.cells [iv k] 3)).up m2) hm3, g1, g5, g15, g16, q0, n0]
        simp only [Hp.up_up]
        refine hn _ _ ?_
        clear hn hp K1
        obtain ⟨E2, hE2⟩ : ∃ E2 : Int × Int, E2 = endsOf (fun n => n k) (s.truths s.seenF) := ⟨_, rfl⟩
        rw [← hE2]
        have frD : Fr hc.n hc ((((hc.new (.cells [iv 0] 3)).set hc.n (.cells [iv k] 3)).up m3).new (.cells [iv 0, iv 0] 36) |>.set m3 (.cells [iv E2.1, iv E2.2] 36)) := ((frC.up (by simp [Hp.set_n, Hp.new_n]; omega)).new _).set (by omega) (by simp [Hp.new_n]) _
        refine reg fun K1 hn hp => ?_
        simp only [sy.down, argsTo, cellPut_some, Nat.reduceEqDiff, reduceIte, Nat.reduceLT, Nat.reduceAdd, Nat.reduceMul, Nat.reduceLeDiff, WOp_buildSlice, bs43, g1, g5, g15, g16]
        obtain ⟨hD, hhD⟩ : ∃ hD : Hp, hD = ((((hc.new (.cells [iv 0] 3)).set hc.n (.cells [iv k] 3)).up m3).new (.cells [iv 0, iv 0] 36) |>.set m3 (.cells [iv E2.1, iv E2.2] 36)) := ⟨_, rfl⟩
        rw [← hhD] at frD ⊢
        have hDn : hD.n = m3 + 1 := by rw [hhD]; rfl
        rw [show m3 + 1 = hD.n from hDn.symm]
        have ow2 := (ow.fr frD (Nat.le_refl _)).new (.cells [iv E2.1, iv E2.2] 36)
        obtain ⟨v', h', ha', ow', fr', hn'⟩ := ow2.append (P := Tryz.prog) (xt := xt) (x := .sl hD.n 0 1 2) (m := 1) (cz := [iv E2.1, iv E2.2]) (by simp [Hp.new_n]; omega) tg43 rfl tg36 rfl rfl tg43 rfl (src_own (e := 36) (by simp [Hp.new_t, T.get_put]) rfl rfl) (by omega) rfl (by simp [te36]; omega) (by omega)
        simp only [sy.down, argsTo, cellPut_some, Nat.reduceEqDiff, reduceIte, Nat.reduceLT, Nat.reduceAdd, Nat.reduceMul, Nat.reduceLeDiff, ha']
        refine hn _ _ (k1' _ ?_)
        clear hn hp K1
        refine reg fun K1 hn hp => ?_
        have hw : IntKind.i64.wrap ((k : Int) + 1) = ((k + 1 : Nat) : Int) := by rw [wrap_i64 _ (by omega) (by omega)]; simp
        simp only [sy.down, argsTo, cellPut_some, Nat.reduceEqDiff, reduceIte, Nat.reduceLT, Nat.reduceAdd, Nat.reduceMul, Nat.reduceLeDiff, g16, hw]
        refine hn _ _ ?_
        refine ⟨⟨k + 1, v', _, h', rfl, (fr.trans frD (by omega)).new _ |>.trans fr' (Nat.le_refl _), hlt, ?_, ?_, ?_, ?_, ?_⟩, ?_⟩
        · simp [T.get_put, g1]
        · simp [T.get_put]
        · simp [T.get_put, g15]
        · simp [T.get_put]
        · rw [spK_succ, ← hE2]; exact ow'
        · have hm : s.sorts.length - (k + 1) < s.sorts.length - k := by omega
          simpa [T.get_put, g16] using hm
      · refine seq_cond false (by simp only [sy.down, argsTo, cellPut_some, Nat.reduceEqDiff, reduceIte, Nat.reduceLT, Nat.reduceAdd, Nat.reduceMul, Nat.reduceLeDiff, g15, g16, ht, hlt]) (fun hx => by cases hx) (fun _ => ?_)
        refine seq_exit (k2 _ ?_)
        refine seq_reg fun K hn hp => ?_
        simp only [sy.down, argsTo, cellPut_some, Nat.reduceEqDiff, reduceIte, Nat.reduceLT, Nat.reduceAdd, Nat.reduceMul, Nat.reduceLeDiff, g5]
        refine hn _ _ ?_
        clear hn hp K
        refine wpc_ret (end_2 res18 ⟨v, ?_, ((Fr.refl (Nat.le_refl _)).new _).trans fr (by omega), ?_⟩)
        · simp [T.get_put, he]
        · have hkk : k = s.sorts.length := by omega
          subst hkk
          have e1 : s.spans.map c2 = spK (fun i => endsOf (fun n => n i) (s.truths s.seenF)) s.sorts.length := by simp [Sk.spans, he, spK]
          rw [e1]
          refine OwnSl.row (N := h.n + 1) (e := 36) ?_ (by omega) ?_
          · intro c hc'; simp only [spK, List.mem_map] at hc'; obtain ⟨i, _, rfl⟩ := hc'; rfl
          · have e2 : (spK (fun i => endsOf (fun n => n i) (s.truths s.seenF)) s.sorts.length).length = s.sorts.length := by simp [spK]
            rw [e2]; exact ow
    · refine ⟨0, _, _, _, rfl, (Fr.refl (by simp [Hp.new_n])).up (Nat.le_of_lt hm1), Nat.zero_le _, ?_, ?_, ?_, ?_, OwnSl.nil⟩
      all_goals simp [T.get_put]
  · have hd : decide (s.err = 0) = false := by simp [he]
    refine seq_reg fun K hn hp => ?_
    simp only [sy.down, argsTo, cellPut_some, Nat.reduceEqDiff, reduceIte, Nat.reduceLT, Nat.reduceAdd, Nat.reduceMul, Nat.reduceLeDiff, hd]
    refine hn _ _ ?_
    clear hn hp K
    refine seq_cond true (by simp only [sy.down, argsTo, cellPut_some, Nat.reduceEqDiff, reduceIte, Nat.reduceLT, Nat.reduceAdd, Nat.reduceMul, Nat.reduceLeDiff]) (fun _ => ?_) (fun hx => by cases hx)
    refine seq_seq ?_
    refine seq_reg fun K hn hp => ?_
    simp only [sy.down, argsTo, cellPut_some, Nat.reduceEqDiff, reduceIte, Nat.reduceLT, Nat.reduceAdd, Nat.reduceMul, Nat.reduceLeDiff]
    refine hn _ _ ?_
    clear hn hp K
    refine seq_ret (end_2 res18 ⟨.val (.slice none 0 0), ?_, hfr, ?_⟩)
    · simp [T.get_put]
    · simp only [Sk.spans, he, if_false, List.map_nil]
      exact ⟨by simp, by omega, .inl ⟨rfl, rfl⟩⟩
end Go.Proofs.Kn
namespace Go.Proofs.Kn
open Go Go.Ev
set_option maxRecDepth 100000
/-- A function value that answers of numbers whether they are so; it looks at memory below 'N'. -/
def AsksI (E : Env) (fv : AV) (h : Hp) (p : Int → Bool) : Prop :=
  ∀ (h' : Hp) (x : Int) (K : CR → Hp → Prop), h.n ≤ h'.n → (∀ k, k < h.n → h'.t.get k = h.t.get k) → (∀ n, h'.n < n → K (.ret (.val (.bool (p x)))) (h'.up n)) → CallA E fv [iv x] h' K
theorem ft91 (xt : Addr → Option Value) : (SE xt).ft.get 91 = some Tryz.f91 := by kernel_rfl
theorem res91 : Tryz.f91.results.toList = [.tmp 4] := by kernel_rfl
theorem idx91_c (xt : Addr → Option Value) (h : Hp) (v fv : AV) (l : List Int) (p : Int → Bool) (hv : RowAt xt h 1 v (l.map c1)) (hl : l.length ≤ 9223372036854775807) (hf : AsksI (SE xt) fv h p)
    {K : CR → Hp → Prop} (hk : ∀ n, h.n < n → K (.ret (iv (fidx p l 0))) (h.up n)) : FnA (SE xt) 91 [v, fv] h K := by
  refine FnA.calm ?_ hk
  clear hk K
  refine FnA.walk (sok xt) (ft91 xt) rfl 19 rfl ?_
  have hlen := fun h' => hv.len (h' := h') tg23 rfl
  simp only [List.length_map] at hlen
  refine seq_reg fun K hn hp => ?_
  simp only [sy.down, argsTo, cellPut_some, Nat.reduceEqDiff, reduceIte, Nat.reduceLT, Nat.reduceAdd, Nat.reduceMul, Nat.reduceLeDiff]
  refine hn _ _ ?_
  clear hn hp K
  refine seq_seq ?_
  refine seq_reg fun K hn hp => ?_
  simp only [sy.down, argsTo, cellPut_some, Nat.reduceEqDiff, reduceIte, Nat.reduceLT, Nat.reduceAdd, Nat.reduceMul, Nat.reduceLeDiff, hlen]
  refine hn _ _ ?_
  clear hn hp K
  refine seq_block fun K k1 k2 k3 k4 k5 => ?_
  refine wpc_loop (sok xt) (fun st => ∃ (k n : Nat) (tm : T AV), st = ⟨tm, 19, h.up n, []⟩ ∧ h.n ≤ n ∧ k ≤ l.length ∧ tm.get 0 = some v ∧ tm.get 1 = some fv ∧ tm.get 7 = some (iv l.length) ∧ tm.get 8 = some (iv k) ∧ fidx p l 0 = fidx p (l.drop k) k)
    (fun st => l.length - (match st.tm.get 8 with | some (.val (.int _ n)) => n.toNat | _ => 0)) ?_ ?_
  · rintro st ⟨k, n, tm, rfl, hn1, hk, g0, g1, g7, g8, hfi⟩
    refine seq_reg fun K hn hp => ?_
    simp only [sy.down, argsTo, cellPut_some, Nat.reduceEqDiff, reduceIte, Nat.reduceLT, Nat.reduceAdd, Nat.reduceMul, Nat.reduceLeDiff, g0, g1, g7, g8]
    refine hn _ _ ?_
    clear hn hp K
    have ht : (decide ((k : Int) < (l.length : Int))) = decide (k < l.length) := by simp
    by_cases hlt : k < l.length
    · obtain ⟨c, hc⟩ : ∃ c, l[k]? = some c := ⟨_, List.getElem?_eq_getElem hlt⟩
      have hidx := hv.idx tg23 rfl tg3 rfl (by simpa using hlt) (k := .i64)
      have hld : aload tb xt (h.up n) 3 (elp v (k * 1)) = some (iv c) := (hv.up hn1).load0 tg3 rfl (c := c1 c) (by simp [hc]) rfl
      refine seq_cond true (by simp only [sy.down, argsTo, cellPut_some, Nat.reduceEqDiff, reduceIte, Nat.reduceLT, Nat.reduceAdd, Nat.reduceMul, Nat.reduceLeDiff, g0, g1, g7, g8, ht, hlt]) (fun _ => ?_) (fun hx => by cases hx)
      refine seq_skip ?_
      refine seq_block fun K' k1' k2' k3' k4' k5' => ?_
      refine seq_reg fun K hn hp => ?_
      simp only [sy.down, argsTo, cellPut_some, Nat.reduceEqDiff, reduceIte, Nat.reduceLT, Nat.reduceAdd, Nat.reduceMul, Nat.reduceLeDiff, g0, g1, g7, g8]
      refine hn _ _ ?_
      clear hn hp K
      refine seq_reg fun K hn hp => ?_
      simp only [sy.down, argsTo, cellPut_some, Nat.reduceEqDiff, reduceIte, Nat.reduceLT, Nat.reduceAdd, Nat.reduceMul, Nat.reduceLeDiff, g0, g1, g7, g8, hidx, hld]
      refine hf _ c _ hn1 (fun _ _ => rfl) fun n1 hn1' => ?_
      have hn1' := Nat.le_of_lt hn1'
      simp only [sy.down, argsTo, cellPut_some, Nat.reduceEqDiff, reduceIte, Nat.reduceLT, Nat.reduceAdd, Nat.reduceMul, Nat.reduceLeDiff, g0, g1, g7, g8, Hp.up_up]
      refine hn _ _ ?_
      clear hn hp
      rw [fidx_drop p hc] at hfi
      cases hp : p c with
      | true =>
        refine wpc_cond true (by simp only [sy.down, argsTo, cellPut_some, Nat.reduceEqDiff, reduceIte, Nat.reduceLT, Nat.reduceAdd, Nat.reduceMul, Nat.reduceLeDiff]) (fun _ => ?_) (fun hx => by cases hx)
        refine seq_reg fun K hn hp => ?_
        simp only [sy.down, argsTo, cellPut_some, Nat.reduceEqDiff, reduceIte, Nat.reduceLT, Nat.reduceAdd, Nat.reduceMul, Nat.reduceLeDiff, g8]
        refine hn _ _ ?_
        clear hn hp K
        refine wpc_ret (k4' _ (k4 _ (end_1 res91 ⟨?_, (Fr.refl (Nat.le_refl _)).up (Nat.le_trans hn1 hn1')⟩)))
        simp [T.get_put, g8, hfi, hp]
      | false =>
        refine wpc_cond false (by simp only [sy.down, argsTo, cellPut_some, Nat.reduceEqDiff, reduceIte, Nat.reduceLT, Nat.reduceAdd, Nat.reduceMul, Nat.reduceLeDiff]) (fun hx => by cases hx) (fun _ => ?_)
        refine wpc_skip (k1' _ ?_)
        refine reg fun K hn hp' => ?_
        have hw : IntKind.i64.wrap ((k : Int) + 1) = ((k + 1 : Nat) : Int) := by rw [wrap_i64 _ (by omega) (by omega)]; simp
        simp only [sy.down, argsTo, cellPut_some, Nat.reduceEqDiff, reduceIte, Nat.reduceLT, Nat.reduceAdd, Nat.reduceMul, Nat.reduceLeDiff, g8, hw]
        refine hn _ _ ?_
        refine ⟨⟨k + 1, n1, _, rfl, Nat.le_trans hn1 hn1', hlt, ?_, ?_, ?_, ?_, ?_⟩, ?_⟩
        · simp [T.get_put, g0]
        · simp [T.get_put, g1]
        · simp [T.get_put, g7]
        · simp [T.get_put]
        · rw [hfi, hp]; simp
        · have hm : l.length - (k + 1) < l.length - k := by omega
          simpa [T.get_put, g8] using hm
    · refine seq_cond false (by simp only [sy.down, argsTo, cellPut_some, Nat.reduceEqDiff, reduceIte, Nat.reduceLT, Nat.reduceAdd, Nat.reduceMul, Nat.reduceLeDiff, g0, g1, g7, g8, ht, hlt]) (fun hx => by cases hx) (fun _ => ?_)
      refine seq_exit (k2 _ ?_)
      refine seq_reg fun K hn hp => ?_
      simp only [sy.down, argsTo, cellPut_some, Nat.reduceEqDiff, reduceIte, Nat.reduceLT, Nat.reduceAdd, Nat.reduceMul, Nat.reduceLeDiff]
      refine hn _ _ ?_
      clear hn hp K
      refine wpc_ret (end_1 res91 ⟨?_, (Fr.refl (Nat.le_refl _)).up hn1⟩)
      have : l.drop k = [] := List.drop_eq_nil_of_le (by omega)
      simp [T.get_put, hfi, this, fidx]
  · refine ⟨0, h.n, _, rfl, Nat.le_refl _, Nat.zero_le _, ?_, ?_, ?_, ?_, ?_⟩
    all_goals simp [T.get_put]
theorem ft51 (xt : Addr → Option Value) : (SE xt).ft.get 51 = some Tryz.f51 := by kernel_rfl
theorem res51 : Tryz.f51.results.toList = [.tmp 4] := by kernel_rfl
theorem any51_c (xt : Addr → Option Value) (h : Hp) (v fv : AV) (l : List Int) (p : Int → Bool) (hv : RowAt xt h 1 v (l.map c1)) (hl : l.length ≤ 9223372036854775807) (hf : AsksI (SE xt) fv h p)
    {K : CR → Hp → Prop} (hk : ∀ n, h.n < n → K (.ret (.val (.bool (l.any p)))) (h.up n)) : FnA (SE xt) 51 [v, fv] h K := by
  refine FnA.calm ?_ hk
  refine FnA.walk (sok xt) (ft51 xt) rfl 9 rfl ?_
  refine seq_reg fun K hn hp => ?_
  simp only [sy.down, argsTo, cellPut_some, Nat.reduceEqDiff, reduceIte, Nat.reduceLT, Nat.reduceAdd, Nat.reduceMul, Nat.reduceLeDiff]
  refine hn _ _ ?_
  clear hn hp K
  refine seq_reg fun K hn hp => ?_
  simp only [sy.down, argsTo, cellPut_some, Nat.reduceEqDiff, reduceIte, Nat.reduceLT, Nat.reduceAdd, Nat.reduceMul, Nat.reduceLeDiff]
  refine callA_func (sok xt) (idx91_c xt h v fv l p hv hl hf fun n1 hn1 => ?_)
  simp only [sy.down, argsTo, cellPut_some, Nat.reduceEqDiff, reduceIte, Nat.reduceLT, Nat.reduceAdd, Nat.reduceMul, Nat.reduceLeDiff, fidx_any]
  refine hn _ _ (wpc_ret (end_1 res51 ⟨?_, (Fr.refl (Nat.le_refl _)).up (Nat.le_of_lt hn1)⟩))
  simp [T.get_put]
theorem ft52 (xt : Addr → Option Value) : (SE xt).ft.get 52 = some Tryz.f52 := by kernel_rfl
theorem res52 : Tryz.f52.results.toList = [.tmp 3] := by kernel_rfl
def notIn (sh x : Int) : Bool := !(decide (0 ≤ x) && decide (x ≤ sh))
theorem holds1_asks (xt : Addr → Option Value) (h : Hp) (s : Sk) (b : Nat) (hb : b < h.n) (q : h.t.get b = some (.cells s.cells 25)) : AsksI (SE xt) (.fn (.func 52) [] [.ptr b 0]) h (notIn s.sh) := by
  intro h' x K hn' hsame hk
  have q' : h'.t.get b = some (.cells s.cells 25) := by rw [hsame b hb]; exact q
  refine callA_fn (sok xt) ?_
  simp only [List.nil_append, List.cons_append]
  refine FnA.calm ?_ hk
  refine FnA.walk (sok xt) (ft52 xt) rfl 9 rfl ?_
  refine seq_reg fun K hn hp => ?_
  simp only [sy.down, argsTo, cellPut_some, Nat.reduceEqDiff, reduceIte, Nat.reduceLT, Nat.reduceAdd, Nat.reduceMul, Nat.reduceLeDiff]
  refine hn _ _ ?_
  clear hn hp K
  refine seq_reg fun K1 hn hp => ?_
  simp only [sy.down, argsTo, cellPut_some, Nat.reduceEqDiff, reduceIte, Nat.reduceLT, Nat.reduceAdd, Nat.reduceMul, Nat.reduceLeDiff, q']
  refine callA_func (sok xt) (in_c xt _ _ _ _ fun n1 hn1 => ?_)
  simp only [sy.down, argsTo, cellPut_some, Nat.reduceEqDiff, reduceIte, Nat.reduceLT, Nat.reduceAdd, Nat.reduceMul, Nat.reduceLeDiff]
  refine hn _ _ (wpc_ret (end_1 res52 ⟨?_, (Fr.refl (Nat.le_refl _)).up (Nat.le_of_lt hn1)⟩))
  simp [T.get_put, notIn]
def ltS : List Int → List Int → Bool
  | x :: l, y :: m => decide (x < y) || ltS l m
  | _, _ => false
theorem ltS_drop {l m : List Int} {k : Nat} {x y : Int} (hx : l[k]? = some x) (hy : m[k]? = some y) : ltS (l.drop k) (m.drop k) = (decide (x < y) || ltS (l.drop (k + 1)) (m.drop (k + 1))) := by
  obtain ⟨h1, rfl⟩ := List.getElem?_eq_some_iff.1 hx
  obtain ⟨h2, rfl⟩ := List.getElem?_eq_some_iff.1 hy
  rw [List.drop_eq_getElem_cons h1, List.drop_eq_getElem_cons h2]; rfl
/-- Whether numbers of shells are asked rightly; whether they are a truth. -/
def Sk.asks (s : Sk) (l : List Int) : Bool := s.ok && (decide ((l.length : Int) = s.sorts.length) && !l.any (notIn s.sh))
def Sk.holds (s : Sk) (l : List Int) : Bool := s.asks l && (!ltS l s.seen && (decide (sumW l 0 = s.sh) && s.weighs (fun i => l.getD i 0)))
theorem ft17 (xt : Addr → Option Value) : (SE xt).ft.get 17 = some Tryz.f17 := by kernel_rfl
theorem res17 : Tryz.f17.results.toList = [.tmp 4, .tmp 5] := by kernel_rfl
theorem holds_c (xt : Addr → Option Value) (h : Hp) (s : Sk) (ha : s.At xt h) (v : AV) (l : List Int) (hv : RowAt xt h 1 v (l.map c1)) (hl : l.length ≤ 9223372036854775807) {K : CR → Hp → Prop} (hk : ∀ n, h.n < n → K (.ret (.tup [.val (.bool (s.holds l)), iv (if s.asks l = true then 0 else 2)])) (h.up n)) : FnA (SE xt) 17 [s.av, v] h K := by
  refine FnA.calm ?_ hk
  clear hk K
  refine FnA.walk (sok xt) (ft17 xt) rfl 50 rfl ?_
  have ha1 := ha.new (.cells s.cells 25)
  have hv1 := hv.new (.cells s.cells 25)
  have hlenS := fun h' => ha.sorts.len (h' := h') tg22 rfl
  have hlenL := fun h' => hv.len (h' := h') tg23 rfl
  simp only [List.length_map] at hlenS hlenL
  have hfr : ∀ m, h.n + 1 ≤ m → Fr h.n h ((h.new (.cells s.cells 25)).up m) := fun m hm => ((Fr.refl (Nat.le_refl _)).new _).up hm
  refine seq_reg fun K hn hp => ?_
  simp only [sy.down, argsTo, cellPut_some, Nat.reduceEqDiff, reduceIte, Nat.reduceLT, Nat.reduceAdd, Nat.reduceMul, Nat.reduceLeDiff]
  refine hn _ _ ?_
  clear hn hp K
  refine seq_seq ?_
  refine seq_reg fun K1 hn hp => ?_
  simp only [sy.down, argsTo, cellPut_some, Nat.reduceEqDiff, reduceIte, Nat.reduceLT, Nat.reduceAdd, Nat.reduceMul, Nat.reduceLeDiff]
  refine callA_func (sok xt) (isSack_c xt _ s ha1 fun m1 hm1 => ?_)
  simp only [Hp.new_n] at hm1
  cases q1 : s.ok
  · simp only [sy.down, argsTo, cellPut_some, Nat.reduceEqDiff, reduceIte, Nat.reduceLT, Nat.reduceAdd, Nat.reduceMul, Nat.reduceLeDiff, q1]
    refine hn _ _ ?_
    clear hn hp K1
    refine seq_cond true (by simp only [sy.down, argsTo, cellPut_some, Nat.reduceEqDiff, reduceIte, Nat.reduceLT, Nat.reduceAdd, Nat.reduceMul, Nat.reduceLeDiff]) (fun _ => ?_) (fun hx => by cases hx)
    refine seq_seq ?_
    refine seq_reg fun K hn hp => ?_
    simp only [sy.down, argsTo, cellPut_some, Nat.reduceEqDiff, reduceIte, Nat.reduceLT, Nat.reduceAdd, Nat.reduceMul, Nat.reduceLeDiff]
    refine hn _ _ ?_
    clear hn hp K
    refine seq_ret (end_2 res17 ⟨?_, hfr _ (by omega)⟩)
    simp [T.get_put, Sk.holds, Sk.asks, q1]
  obtain ⟨f1, f2, f3, f4, f5⟩ := Sk.facts q1
  have hse : s.seen.length = s.sorts.length := by
    have := q1
    simp only [Sk.ok, Bool.and_eq_true, decide_eq_true_eq] at this
    omega
  cases q2 : decide ((l.length : Int) = s.sorts.length)
  · simp only [sy.down, argsTo, cellPut_some, Nat.reduceEqDiff, reduceIte, Nat.reduceLT, Nat.reduceAdd, Nat.reduceMul, Nat.reduceLeDiff, q1, q2, hlenS, hlenL]
    refine hn _ _ ?_
    clear hn hp K1
    refine seq_cond true (by simp only [sy.down, argsTo, cellPut_some, Nat.reduceEqDiff, reduceIte, Nat.reduceLT, Nat.reduceAdd, Nat.reduceMul, Nat.reduceLeDiff]) (fun _ => ?_) (fun hx => by cases hx)
    refine seq_seq ?_
    refine seq_reg fun K hn hp => ?_
    simp only [sy.down, argsTo, cellPut_some, Nat.reduceEqDiff, reduceIte, Nat.reduceLT, Nat.reduceAdd, Nat.reduceMul, Nat.reduceLeDiff]
    refine hn _ _ ?_
    clear hn hp K
    refine seq_ret (end_2 res17 ⟨?_, hfr _ (by omega)⟩)
    simp [T.get_put, Sk.holds, Sk.asks, q2]
  have hlS : l.length = s.sorts.length := by simp at q2; omega
  simp only [sy.down, argsTo, cellPut_some, Nat.reduceEqDiff, reduceIte, Nat.reduceLT, Nat.reduceAdd, Nat.reduceMul, Nat.reduceLeDiff, q1, q2, hlenS, hlenL]
  refine callA_func (sok xt) (any51_c xt _ v _ l (notIn s.sh) (hv1.up (Nat.le_of_lt hm1)) hl (holds1_asks xt _ s h.n (by simp; omega) (by simp [Hp.new_t, T.get_put])) fun m2 hm2 => ?_)
  simp only [Hp.up_n] at hm2
  simp only [sy.down, argsTo, cellPut_some, Nat.reduceEqDiff, reduceIte, Nat.reduceLT, Nat.reduceAdd, Nat.reduceMul, Nat.reduceLeDiff, Hp.up_up]
  refine hn _ _ ?_
  clear hn hp K1
  cases q3 : l.any (notIn s.sh)
  rotate_left
  · refine seq_cond true (by simp only [sy.down, argsTo, cellPut_some, Nat.reduceEqDiff, reduceIte, Nat.reduceLT, Nat.reduceAdd, Nat.reduceMul, Nat.reduceLeDiff, q3]) (fun _ => ?_) (fun hx => by cases hx)
    refine seq_seq ?_
    refine seq_reg fun K hn hp => ?_
    simp only [sy.down, argsTo, cellPut_some, Nat.reduceEqDiff, reduceIte, Nat.reduceLT, Nat.reduceAdd, Nat.reduceMul, Nat.reduceLeDiff]
    refine hn _ _ ?_
    clear hn hp K
    refine seq_ret (end_2 res17 ⟨?_, hfr _ (by omega)⟩)
    simp [T.get_put, Sk.holds, Sk.asks, q3]
  refine seq_cond false (by simp only [sy.down, argsTo, cellPut_some, Nat.reduceEqDiff, reduceIte, Nat.reduceLT, Nat.reduceAdd, Nat.reduceMul, Nat.reduceLeDiff, q3]) (fun hx => by cases hx) (fun _ => ?_)
  refine seq_skip ?_
  have hask : s.asks l = true := by simp only [Sk.asks, q1, q2, q3]; rfl
  refine seq_seq ?_
  refine seq_reg fun K hn hp => ?_
  simp only [sy.down, argsTo, cellPut_some, Nat.reduceEqDiff, reduceIte, Nat.reduceLT, Nat.reduceAdd, Nat.reduceMul, Nat.reduceLeDiff, hlenL]
  refine hn _ _ ?_
  clear hn hp K
  refine seq_block fun K k1 k2 k3 k4 k5 => ?_
  refine wpc_loop (sok xt) (fun st => ∃ (k : Nat) (tm : T AV), st = ⟨tm, 50, (h.new (.cells s.cells 25)).up m2, []⟩ ∧ k ≤ l.length ∧ tm.get 1 = some v ∧ tm.get 2 = some (.ptr h.n 0) ∧ tm.get 24 = some v ∧ tm.get 25 = some (iv l.length) ∧ tm.get 26 = some (iv k) ∧ ltS l s.seen = ltS (l.drop k) (s.seen.drop k))
    (fun st => l.length - (match st.tm.get 26 with | some (.val (.int _ n)) => n.toNat | _ => 0)) ?_ ?_
  · rintro st ⟨k, tm, rfl, hk, g1, g2, g24, g25, g26, hfi⟩
    refine seq_reg fun K hn hp => ?_
    simp only [sy.down, argsTo, cellPut_some, Nat.reduceEqDiff, reduceIte, Nat.reduceLT, Nat.reduceAdd, Nat.reduceMul, Nat.reduceLeDiff, g1, g2, g24, g25, g26]
    refine hn _ _ ?_
    clear hn hp K
    have ht : (decide ((k : Int) < (l.length : Int))) = decide (k < l.length) := by simp
    by_cases hlt : k < l.length
    · obtain ⟨x, hx⟩ : ∃ x, l[k]? = some x := ⟨_, List.getElem?_eq_getElem hlt⟩
      obtain ⟨y, hy⟩ : ∃ y, s.seen[k]? = some y := ⟨_, List.getElem?_eq_getElem (by omega)⟩
      have hidx := hv1.idx tg23 rfl tg3 rfl (by simpa using hlt) (k := .i64)
      have hld : aload tb xt ((h.new (.cells s.cells 25)).up m2) 3 (elp v (k * 1)) = some (iv x) := (hv1.up (by simp [Hp.new_n]; omega)).load0 tg3 rfl (c := c1 x) (by simp [hx]) rfl
      have hidx2 := ha1.seen.idx tg23 rfl tg3 rfl (by simp; omega) (k := .i64) (i := k)
      have hld2 : aload tb xt ((h.new (.cells s.cells 25)).up m2) 3 (elp s.ve (k * 1)) = some (iv y) := (ha1.seen.up (by simp [Hp.new_n]; omega)).load0 tg3 rfl (c := c1 y) (by simp [hy]) rfl
      rw [ltS_drop hx hy] at hfi
      refine seq_cond true (by simp only [sy.down, argsTo, cellPut_some, Nat.reduceEqDiff, reduceIte, Nat.reduceLT, Nat.reduceAdd, Nat.reduceMul, Nat.reduceLeDiff, g25, g26, ht, hlt]) (fun _ => ?_) (fun hx => by cases hx)
      refine seq_skip ?_
      refine seq_block fun K' k1' k2' k3' k4' k5' => ?_
      refine seq_reg fun K hn hp => ?_
      simp only [sy.down, argsTo, cellPut_some, Nat.reduceEqDiff, reduceIte, Nat.reduceLT, Nat.reduceAdd, Nat.reduceMul, Nat.reduceLeDiff, g1, g2, g24, g25, g26, hidx, hld]
      refine hn _ _ ?_
      clear hn hp K
      refine seq_reg fun K hn hp => ?_
      simp only [sy.down, argsTo, cellPut_some, Nat.reduceEqDiff, reduceIte, Nat.reduceLT, Nat.reduceAdd, Nat.reduceMul, Nat.reduceLeDiff, g1, g2, g24, g25, g26, hidx2, hld2]
      refine hn _ _ ?_
      clear hn hp K
      cases q4 : decide (x < y)
      · refine wpc_cond false (by simp only [sy.down, argsTo, cellPut_some, Nat.reduceEqDiff, reduceIte, Nat.reduceLT, Nat.reduceAdd, Nat.reduceMul, Nat.reduceLeDiff, q4]) (fun hx => by cases hx) (fun _ => ?_)
        refine wpc_skip (k1' _ ?_)
        refine reg fun K1 hn hp => ?_
        have hw : IntKind.i64.wrap ((k : Int) + 1) = ((k + 1 : Nat) : Int) := by rw [wrap_i64 _ (by omega) (by omega)]; simp
        simp only [sy.down, argsTo, cellPut_some, Nat.reduceEqDiff, reduceIte, Nat.reduceLT, Nat.reduceAdd, Nat.reduceMul, Nat.reduceLeDiff, g26, hw]
        refine hn _ _ ?_
        refine ⟨⟨k + 1, _, rfl, hlt, ?_, ?_, ?_, ?_, ?_, ?_⟩, ?_⟩
        · simp [T.get_put, g1]
        · simp [T.get_put, g2]
        · simp [T.get_put, g24]
        · simp [T.get_put, g25]
        · simp [T.get_put]
        · rw [hfi, q4]; simp
        · have hm : l.length - (k + 1) < l.length - k := by omega
          simpa [T.get_put, g26] using hm
      · refine wpc_cond true (by simp only [sy.down, argsTo, cellPut_some, Nat.reduceEqDiff, reduceIte, Nat.reduceLT, Nat.reduceAdd, Nat.reduceMul, Nat.reduceLeDiff, q4]) (fun _ => ?_) (fun hx => by cases hx)
        refine seq_reg fun K hn hp => ?_
        simp only [sy.down, argsTo, cellPut_some, Nat.reduceEqDiff, reduceIte, Nat.reduceLT, Nat.reduceAdd, Nat.reduceMul, Nat.reduceLeDiff]
        refine hn _ _ ?_
        clear hn hp K
        refine wpc_ret (k4' _ (k4 _ (end_2 res17 ⟨?_, hfr _ (by omega)⟩)))
        simp [T.get_put, Sk.holds, hask, hfi, q4]
    · refine seq_cond false (by simp only [sy.down, argsTo, cellPut_some, Nat.reduceEqDiff, reduceIte, Nat.reduceLT, Nat.reduceAdd, Nat.reduceMul, Nat.reduceLeDiff, g25, g26, ht, hlt]) (fun hx => by cases hx) (fun _ => ?_)
      refine seq_exit (k2 _ ?_)
      have hnil : l.drop k = [] := List.drop_eq_nil_of_le (by omega)
      rw [hnil] at hfi
      have hfi : ltS l s.seen = false := by rw [hfi]; simp [ltS]
      refine seq_regD (sok xt) 13 (by kernel_rfl) fun K1 hn hp => ?_
      simp only [sy.down, argsTo, cellPut_some, Nat.reduceEqDiff, reduceIte, Nat.reduceLT, Nat.reduceAdd, Nat.reduceMul, Nat.reduceLeDiff, g1, g2]
      have hv2 := hv1.up (n := m2) (by simp [Hp.new_n]; omega)
      have ha2 := ha1.up (n := m2) (by simp [Hp.new_n]; omega)
      refine callA_func (sok xt) (sum_c xt _ v l hv2 hl fun m3 hm3 => ?_)
      simp only [Hp.up_n] at hm3
      cases q5 : decide (sumW l 0 = s.sh)
      · simp only [sy.down, argsTo, cellPut_some, Nat.reduceEqDiff, reduceIte, Nat.reduceLT, Nat.reduceAdd, Nat.reduceMul, Nat.reduceLeDiff, WOCn_t (h := (h.new (.cells s.cells 25)).up m2) hm3, g1, g2, q5]
        simp only [Hp.up_up]
        refine hn _ _ (wpc_ret (end_2 res17 ⟨?_, hfr _ (by omega)⟩))
        simp [T.get_put, Sk.holds, hask, hfi, q5]
      simp only [sy.down, argsTo, cellPut_some, Nat.reduceEqDiff, reduceIte, Nat.reduceLT, Nat.reduceAdd, Nat.reduceMul, Nat.reduceLeDiff, WOCn_t (h := (h.new (.cells s.cells 25)).up m2) hm3, g1, g2, q5]
      refine callA_func (sok xt) (list_c xt _ v l (hv2.up (Nat.le_of_lt hm3)) (by omega) fun m4 hm4 => ?_)
      simp only [Hp.up_n] at hm4
      simp only [sy.down, argsTo, cellPut_some, Nat.reduceEqDiff, reduceIte, Nat.reduceLT, Nat.reduceAdd, Nat.reduceMul, Nat.reduceLeDiff, WOCn_t (h := ((h.new (.cells s.cells 25)).up m2).up m3) hm4, g1, g2]
      refine callA_func (sok xt) (weighs_c xt _ s ((ha2.up (Nat.le_of_lt hm3)).up (Nat.le_of_lt hm4)) f1 _ fun m5 hm5 => ?_)
      simp only [Hp.up_n] at hm5
      simp only [sy.down, argsTo, cellPut_some, Nat.reduceEqDiff, reduceIte, Nat.reduceLT, Nat.reduceAdd, Nat.reduceMul, Nat.reduceLeDiff, WOCn_t (h := (((h.new (.cells s.cells 25)).up m2).up m3).up m4) hm5, g1, g2]
      simp only [Hp.up_up]
      refine hn _ _ (wpc_ret (end_2 res17 ⟨?_, hfr _ (by omega)⟩))
      simp [T.get_put, Sk.holds, hask, hfi, q5]
  · refine ⟨0, _, rfl, Nat.zero_le _, ?_, ?_, ?_, ?_, ?_, ?_⟩
    all_goals simp [T.get_put]
end Go.Proofs.Kn
