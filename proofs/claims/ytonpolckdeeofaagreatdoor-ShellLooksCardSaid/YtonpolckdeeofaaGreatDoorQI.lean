/-
  Texts in a row, joined by a program: SyG1, SyG2.
-/
import Derived.Test.YtonpolckdeeofaaGreatDoorQH
set_option linter.all false
namespace Go.Proofs.Kn
open Go Go.Ev
set_option maxRecDepth 100000
/-- A list of numbers, copied. -/
theorem copy_ints (xt : Addr → Option Value) (h : Hp) (v : AV) (l : List Int) (hv : RowAt xt h 1 v (l.map c1)) (hn : l ≠ []) (hl : l.length ≤ 1000) :
    ∃ b h', abuiltin Tryz.prog tb xt .append [23, 23] [.val (.slice none 0 0), v] h = some (.sl b 0 l.length 1, h') ∧ h.n ≤ b ∧ b < h'.n ∧ h'.t.get b = some (.cells (l.map iv) 3) ∧ Fr h.n h h' := by
  have hsrc := hv.src
  obtain ⟨v1, h1, p1, p2, p3, p4⟩ := append_copy (P := Tryz.prog) (xt := xt) (h := h) (x := v) (l := l.map c1) (N := h.n) (Nat.le_refl _) tg23 rfl tg3 rfl rfl tg23 rfl (by rw [c1_flat, List.length_map]; exact hsrc) c1_sz (by simp [te3]; omega) (by simp; omega)
  rw [c1_flat, List.length_map] at p2
  rcases p2 with ⟨h0, _, _⟩ | ⟨b, rfl, q1, q2, q3, _⟩
  · exact absurd (List.eq_nil_of_length_eq_zero h0) hn
  · exact ⟨b, h1, p1, q1, q2, q3, p3⟩
theorem set_cells (l : List Int) (i : Nat) (x : Int) (hi : i < l.length) : (l.map iv).take i ++ [iv x] ++ (l.map iv).drop (i + 1) = (l.set i x).map iv := by
  rw [List.set_eq_take_append_cons_drop, if_pos hi]
  simp [List.map_take, List.map_drop]
theorem put_int (h : Hp) (b i : Nat) (l : List Int) (x : Int) (hi : i < l.length) : cellPut 1 h b i (iv x) (some (.cells (l.map iv) 3)) = some (h.set b (.cells ((l.set i x).map iv) 3)) := by
  have e : (cellsOf (iv x)).length = 1 ∧ i + 1 ≤ (l.map iv).length ∧ (cellsOf (iv x)).all one = true := ⟨rfl, by simp; omega, rfl⟩
  rw [cellPut_some, if_pos e, ← set_cells l i x hi]; rfl
theorem row_of_cells (xt : Addr → Option Value) (h : Hp) (b : Nat) (l : List Int) (hb : b < h.n) (hc : h.t.get b = some (.cells (l.map iv) 3)) : RowAt xt h 1 (.sl b 0 l.length 1) (l.map c1) := by
  refine OwnSl.row (N := 0) (e := 3) c1_sz (by omega) (.inr ⟨b, by simp, Nat.zero_le _, hb, by rw [c1_flat]; exact hc, by rw [c1_flat]; simp⟩)
theorem idx_sl (b n i : Nat) (hi : i < n) : aindexAddr tb 23 (.sl b 0 n 1) (.val (.int .i64 (i : Int))) = some (.ptr b i) := by
  have e1 : aint (.val (.int .i64 (i : Int))) = some (Int.ofNat i) := rfl
  have e2 : Nat.blt i n = true := by rw [Nat.blt_eq]; exact hi
  have e3 : te23.d = .slice 3 := rfl
  have e4 : te3.size = 1 := rfl
  simp [aindexAddr, tg23, e1, e3, tg3, e2, e4]
theorem ft14 (xt : Addr → Option Value) : (SE xt).ft.get 14 = some Tryz.f14 := by kernel_rfl
theorem res14 : Tryz.f14.results.toList = [.cell 4 25] := by kernel_rfl
/-- A sack that was looked at. -/
structure Sk.Lookd (s t : Sk) (xt : Addr → Option Value) (h : Hp) (i : Nat) : Prop where
  at_ : t.At xt h
  like : s.Like t
  seen : t.seen = s.seen.set i (wr (s.seen.getD i 0 + 1))
def LookedR (xt : Addr → Option Value) (s : Sk) (i : Nat) (h : Hp) (r : CR) (h' : Hp) : Prop := ∃ t, r = .ret t.av ∧ Fr h.n h h' ∧ s.Lookd t xt h' i
theorem looked_c (xt : Addr → Option Value) (h : Hp) (s : Sk) (ha : s.At xt h) (i : Nat) (hi : i < s.seen.length) (hl : s.seen.length ≤ 1000) : FnA (SE xt) 14 [s.av, iv i] h (LookedR xt s i h) := by
  refine FnA.walk (sok xt) (ft14 xt) rfl 22 rfl ?_
  have n01 : (h.n = h.n + 1) = False := by simp
  have n02 : (h.n = h.n + 2) = False := by simp
  have n12 : (h.n + 1 = h.n + 2) = False := by simp
  have n10 : (h.n + 1 = h.n) = False := by simp
  have n20 : (h.n + 2 = h.n) = False := by simp
  have n21 : (h.n + 2 = h.n + 1) = False := by simp
  have hov := ha.sorts.one
  have hoe := ha.seen.one
  refine seq_reg fun K hn hp => ?_
  simp only [sy.down, argsTo, cellPut_some, Nat.reduceEqDiff, reduceIte, Nat.reduceLT, Nat.reduceAdd, Nat.reduceMul, Nat.reduceLeDiff]
  refine hn _ _ ?_
  clear hn hp K
  refine seq_reg fun K hn hp => ?_
  simp only [sy.down, argsTo, cellPut_some, Nat.reduceEqDiff, reduceIte, Nat.reduceLT, Nat.reduceAdd, Nat.reduceMul, Nat.reduceLeDiff, n01, n10, n02, n20, n12, n21, hov, hoe]
  refine hn _ _ ?_
  clear hn hp K
  obtain ⟨hz, hhz⟩ : ∃ hz : Hp, hz = ((((h.new (.cells s.cells 25)).new (.cells [iv 0, .val (.slice none 0 0), .val (.slice none 0 0), iv 0, iv 0] 25)).new (.cells [iv 0, .val (.slice none 0 0), .val (.slice none 0 0), iv 0, iv 0] 25)).set (h.n + 2) (.cells s.cells 25)) := ⟨_, rfl⟩
  have hnz : hz.n = h.n + 3 := by rw [hhz]; rfl
  have fz : Fr h.n h hz := by rw [hhz]; exact ((((Fr.refl (Nat.le_refl _)).new _).new _).new _).set (by omega) (by simp [Hp.new_n]) _
  have q0 : hz.t.get h.n = some (.cells s.cells 25) := by rw [hhz]; simp [Hp.set_t, Hp.new_t, Hp.new_n, T.get_put]; intro hq; omega
  have q1 : hz.t.get (h.n + 1) = some (.cells [iv 0, .val (.slice none 0 0), .val (.slice none 0 0), iv 0, iv 0] 25) := by rw [hhz]; simp [Hp.set_t, Hp.new_t, Hp.new_n, T.get_put]
  have q2 : hz.t.get (h.n + 2) = some (.cells s.cells 25) := by rw [hhz]; simp [Hp.set_t, Hp.new_t, Hp.new_n, T.get_put]
  rw [← hhz]
  have haz := ha.fr fz (Nat.le_refl _)
  have hne : s.seen ≠ [] := by rintro hq; rw [hq] at hi; simp at hi
  obtain ⟨b, h1, p1, p2, p3, p4, p5⟩ := copy_ints xt hz s.ve s.seen haz.seen hne hl
  have q01 : h1.t.get h.n = some (.cells s.cells 25) := by rw [p5.at_ _ (by omega)]; exact q0
  have q11 : h1.t.get (h.n + 1) = some (.cells [iv 0, .val (.slice none 0 0), .val (.slice none 0 0), iv 0, iv 0] 25) := by rw [p5.at_ _ (by omega)]; exact q1
  have q21 : h1.t.get (h.n + 2) = some (.cells s.cells 25) := by rw [p5.at_ _ (by omega)]; exact q2
  refine seq_reg fun K hn hp => ?_
  simp only [sy.down, argsTo, cellPut_some, Nat.reduceEqDiff, reduceIte, Nat.reduceLT, Nat.reduceAdd, Nat.reduceMul, Nat.reduceLeDiff, q0, p1, q21, n02, n20, n12, n21]
  refine hn _ _ ?_
  clear hn hp K
  obtain ⟨hy, hhy⟩ : ∃ hy : Hp, hy = h1.set (h.n + 2) (.cells [iv s.sh, s.vs, .sl b 0 s.seen.length 1, iv s.wt, iv s.off] 25) := ⟨_, rfl⟩
  have hny : hy.n = h1.n := by rw [hhy]; rfl
  have fy : Fr h.n h hy := by rw [hhy]; exact (fz.trans p5 (by omega)).set (by omega) (by omega) _
  have r2 : hy.t.get (h.n + 2) = some (.cells [iv s.sh, s.vs, .sl b 0 s.seen.length 1, iv s.wt, iv s.off] 25) := by rw [hhy, Hp.set_t, T.get_put, if_pos rfl]
  have r1 : hy.t.get (h.n + 1) = some (.cells [iv 0, .val (.slice none 0 0), .val (.slice none 0 0), iv 0, iv 0] 25) := by rw [hhy, Hp.set_t, T.get_put, if_neg (by omega)]; exact q11
  have rb : hy.t.get b = some (.cells (s.seen.map iv) 3) := by rw [hhy, Hp.set_t, T.get_put, if_neg (by omega)]; exact p4
  rw [← hhy]
  have hidx := idx_sl b s.seen.length i hi
  have hgt : (s.seen.map iv)[i]? = some (iv (s.seen.getD i 0)) := by
    rw [List.getElem?_map, List.getD_eq_getElem?_getD, List.getElem?_eq_getElem hi]; rfl
  have hput := put_int hy b i s.seen (wr (s.seen.getD i 0 + 1)) hi
  refine seq_regD (sok xt) 10 (by kernel_rfl) fun K hn hp => ?_
  simp only [sy.down, argsTo, Nat.reduceEqDiff, reduceIte, Nat.reduceLT, Nat.reduceAdd, Nat.reduceMul, Nat.reduceLeDiff, r2, hidx, rb, hgt, hput]
  refine hn _ _ ?_
  clear hn hp K
  obtain ⟨hw, hhw⟩ : ∃ hw : Hp, hw = hy.set b (.cells ((s.seen.set i (wr (s.seen.getD i 0 + 1))).map iv) 3) := ⟨_, rfl⟩
  rw [← hhw]
  have hnw : hw.n = h1.n := by rw [hhw, ← hny]; rfl
  have s2 : hw.t.get (h.n + 2) = some (.cells [iv s.sh, s.vs, .sl b 0 s.seen.length 1, iv s.wt, iv s.off] 25) := by rw [hhw, Hp.set_t, T.get_put, if_neg (by omega)]; exact r2
  have s1 : hw.t.get (h.n + 1) = some (.cells [iv 0, .val (.slice none 0 0), .val (.slice none 0 0), iv 0, iv 0] 25) := by rw [hhw, Hp.set_t, T.get_put, if_neg (by omega)]; exact r1
  have sb : hw.t.get b = some (.cells ((s.seen.set i (wr (s.seen.getD i 0 + 1))).map iv) 3) := by rw [hhw, Hp.set_t, T.get_put, if_pos rfl]
  have fw : Fr h.n h hw := by rw [hhw]; exact fy.set (by omega) (by omega) _
  refine seq_reg fun K hn hp => ?_
  simp only [sy.down, argsTo, cellPut_some, Nat.reduceEqDiff, reduceIte, Nat.reduceLT, Nat.reduceAdd, Nat.reduceMul, Nat.reduceLeDiff, s2, s1, hov]
  refine hn _ _ ?_
  clear hn hp K
  have hlen : s.seen.length = (s.seen.set i (wr (s.seen.getD i 0 + 1))).length := by rw [List.length_set]
  refine wpc_ret (end_c res14 (by simp only [sy.down, argsTo, cellPut_some, Nat.reduceEqDiff, reduceIte, Nat.reduceLT, Nat.reduceAdd, Nat.reduceMul, Nat.reduceLeDiff]) ⟨{ s with ve := .sl b 0 s.seen.length 1, seen := s.seen.set i (wr (s.seen.getD i 0 + 1)) }, rfl, fw.set (by omega) (by omega) _, ⟨⟨?_, ?_, ha.ls, ?_⟩, ⟨rfl, rfl, rfl, rfl⟩, rfl⟩⟩)
  · exact ha.sorts.fr (fw.set (by omega) (by omega) _) (Nat.le_refl _)
  · show RowAt xt _ 1 (.sl b 0 s.seen.length 1) _
    rw [hlen]
    exact row_of_cells xt _ b _ (by simp [Hp.set_n]; omega) (by rw [Hp.set_t, T.get_put, if_neg (by omega)]; exact sb)
  · show (s.seen.set i _).length ≤ _
    rw [List.length_set]; exact ha.le
end Go.Proofs.Kn
namespace Go.Proofs.Kn
open Go Go.Ev
set_option maxRecDepth 100000
theorem wnt_d {b : Bool} : wnt b (some default) = false := rfl
theorem ft13 (xt : Addr → Option Value) : (SE xt).ft.get 13 = some Tryz.f13 := by kernel_rfl
theorem res13 : Tryz.f13.results.toList = [.tmp 4] := by kernel_rfl
/-- Whether it is known if there are so many blanks. -/
def Sk.knows (s : Sk) (B : Int) : Bool := decide (s.err = 0) && (decide (B ≤ s.total.1) || decide (s.total.2 < B))
theorem knows_c (xt : Addr → Option Value) (h : Hp) (s : Sk) (ha : s.At xt h) (B : Int) {K : CR → Hp → Prop} (hk : ∀ n, h.n < n → K (.ret (.val (.bool (s.knows B)))) (h.up n)) : FnA (SE xt) 13 [s.av, iv B] h K := by
  refine FnA.calm ?_ hk
  clear hk K
  refine FnA.walk (sok xt) (ft13 xt) rfl 26 rfl ?_
  have ha1 := ha.new (.cells s.cells 25)
  refine seq_reg fun K hn hp => ?_
  simp only [sy.down, argsTo, cellPut_some, Nat.reduceEqDiff, reduceIte, Nat.reduceLT, Nat.reduceAdd, Nat.reduceMul, Nat.reduceLeDiff]
  refine hn _ _ ?_
  clear hn hp K
  refine seq_reg fun K1 hn hp => ?_
  simp only [sy.down, argsTo, cellPut_some, Nat.reduceEqDiff, reduceIte, Nat.reduceLT, Nat.reduceAdd, Nat.reduceMul, Nat.reduceLeDiff]
  refine callA_func (sok xt) (total_c xt _ s ha1 fun m1 hm1 => ?_)
  simp only [Hp.new_n] at hm1
  simp only [sy.down, argsTo, cellPut_some, Nat.reduceEqDiff, reduceIte, Nat.reduceLT, Nat.reduceAdd, Nat.reduceMul, Nat.reduceLeDiff, ex_tup0, ex_tup1]
  refine hn _ _ ?_
  clear hn hp K1
  have hfr : Fr h.n h ((((h.new (.cells s.cells 25)).up m1).new (.cells [iv 0, iv 0] 36)).set m1 (.cells [iv s.total.1, iv s.total.2] 36)) := ((((Fr.refl (Nat.le_refl _)).new _).up (Nat.le_of_lt hm1)).new _).set (by omega) (by simp [Hp.new_n]) _
  cases q1 : decide (s.err = 0)
  · refine seq_reg fun K hn hp => ?_
    simp only [sy.down, argsTo, cellPut_some, Nat.reduceEqDiff, reduceIte, Nat.reduceLT, Nat.reduceAdd, Nat.reduceMul, Nat.reduceLeDiff, q1, wnt_d]
    refine hn _ _ ?_
    clear hn hp K
    refine wpc_ret (end_1 res13 ⟨?_, hfr⟩)
    simp [T.get_put, Sk.knows, q1]
  cases q2 : decide (B ≤ s.total.1)
  · refine seq_reg fun K hn hp => ?_
    simp only [sy.down, argsTo, cellPut_some, Nat.reduceEqDiff, reduceIte, Nat.reduceLT, Nat.reduceAdd, Nat.reduceMul, Nat.reduceLeDiff, q1, q2]
    refine hn _ _ ?_
    clear hn hp K
    refine wpc_ret (end_1 res13 ⟨?_, hfr⟩)
    simp only [Sk.knows, q1, q2, Bool.true_and, Bool.false_or]
    simp [T.get_put]
  · refine seq_reg fun K hn hp => ?_
    simp only [sy.down, argsTo, cellPut_some, Nat.reduceEqDiff, reduceIte, Nat.reduceLT, Nat.reduceAdd, Nat.reduceMul, Nat.reduceLeDiff, q1, q2]
    refine hn _ _ ?_
    clear hn hp K
    refine wpc_ret (end_1 res13 ⟨?_, hfr⟩)
    simp [T.get_put, Sk.knows, q1, q2]
theorem ft5 (xt : Addr → Option Value) : (SE xt).ft.get 5 = some Tryz.f5 := by kernel_rfl
theorem res5 : Tryz.f5.results.toList = [.tmp 6] := by kernel_rfl
def reassoc : Code → Code
  | .seq (.seq _ b) c => .seq b c
  | c => c
theorem known_tail {nt r : Nat} (xt : Addr → Option Value) (f : Func) (hr : f.results.toList = [.tmp r]) {hx : Hp} {tm : T AV} {t : Tmp} {id d : Nat} {rest : Code} {p1 p2 : String} {a1 a2 : Array Edge} {at1 : Array TypeId} (hd : d < nt) (hrn : r < nt) (ht : tm.get t = some (.val (.bool true))) :
    wpc (SE xt) none (.seq (.cond (.tmp t) (.seq (.region id #[⟨some d, .call ⟨.value (.func 8), #[], at1⟩, 4, p1, a1, none⟩, ⟨some r, .assign (.tmp d), 4, p2, a2, none⟩] false) .ret) .skip) rest) ⟨tm, nt, hx, []⟩ (endK (SE xt) f isTrue) := by
  refine seq_cond true (by simp only [sy.down, argsTo, cellPut_some, Nat.reduceEqDiff, reduceIte, Nat.reduceLT, Nat.reduceAdd, Nat.reduceMul, Nat.reduceLeDiff, ht]) (fun _ => ?_) (fun hx => by cases hx)
  refine seq_seq ?_
  refine seq_reg fun K1 hn hp => ?_
  simp only [sy.down, argsTo, cellPut_some, Nat.reduceEqDiff, reduceIte, Nat.reduceLT, Nat.reduceAdd, Nat.reduceMul, Nat.reduceLeDiff, hd, hrn]
  refine callA_func (sok xt) (known_c xt _ fun m2 hm2 => ?_)
  simp only [sy.down, argsTo, cellPut_some, Nat.reduceEqDiff, reduceIte, Nat.reduceLT, Nat.reduceAdd, Nat.reduceMul, Nat.reduceLeDiff, hd, hrn]
  refine hn _ _ ?_
  refine seq_ret (end_1 hr ?_)
  simp [T.get_put, isTrue]
set_option maxHeartbeats 2000000 in
theorem held_true (xt : Addr → Option Value) (h : Hp) (s : Sk) (ha : s.At xt h) (v : AV) (L : List Int) (hv : RowAt xt h 1 v (L.map c1)) (hl : L.length ≤ 9223372036854775807) (x : Int) : FnA (SE xt) 5 [s.av, v, iv x] h isTrue := by
  refine FnA.walk (sok xt) (ft5 xt) rfl 193 rfl ?_
  have ha1 := ha.new (.cells s.cells 25)
  have hv1 := hv.new (.cells s.cells 25)
  have hlenL := fun h' => hv.len (h' := h') tg23 rfl
  have hlenS := fun h' => ha.sorts.len (h' := h') tg22 rfl
  simp only [List.length_map] at hlenL hlenS
  refine seq_reg fun K hn hp => ?_
  simp only [sy.down, argsTo, cellPut_some, Nat.reduceEqDiff, reduceIte, Nat.reduceLT, Nat.reduceAdd, Nat.reduceMul, Nat.reduceLeDiff]
  refine hn _ _ ?_
  clear hn hp K
  refine seq_seq ?_
  refine seq_reg fun K1 hn hp => ?_
  simp only [sy.down, argsTo, cellPut_some, Nat.reduceEqDiff, reduceIte, Nat.reduceLT, Nat.reduceAdd, Nat.reduceMul, Nat.reduceLeDiff]
  refine callA_func (sok xt) (slim_c xt _ s ha1 fun m1 hm1 => ?_)
  simp only [Hp.new_n] at hm1
  cases q1 : s.slim
  · simp only [sy.down, argsTo, cellPut_some, Nat.reduceEqDiff, reduceIte, Nat.reduceLT, Nat.reduceAdd, Nat.reduceMul, Nat.reduceLeDiff, q1, wnt_d]
    exact hn _ _ (known_tail xt _ res5 (by omega) (by omega) (by simp [T.get_put]))
  simp only [sy.down, argsTo, cellPut_some, Nat.reduceEqDiff, reduceIte, Nat.reduceLT, Nat.reduceAdd, Nat.reduceMul, Nat.reduceLeDiff, q1]
  refine callA_func (sok xt) (rsack_c xt _ s (ha1.up (n := m1) (by simp [Hp.new_n]; omega)) fun m2 hm2 => ?_)
  simp only [Hp.up_n] at hm2
  cases q2 : s.rok
  · simp only [sy.down, argsTo, cellPut_some, Nat.reduceEqDiff, reduceIte, Nat.reduceLT, Nat.reduceAdd, Nat.reduceMul, Nat.reduceLeDiff, q2, wnt_d]
    exact hn _ _ (known_tail xt _ res5 (by omega) (by omega) (by simp [T.get_put]))
  simp only [sy.down, argsTo, cellPut_some, Nat.reduceEqDiff, reduceIte, Nat.reduceLT, Nat.reduceAdd, Nat.reduceMul, Nat.reduceLeDiff, q2, Hp.up_up]
  have ha2 := ha1.up (n := m2) (by simp [Hp.new_n]; omega)
  have hv2 := hv1.up (n := m2) (by simp [Hp.new_n]; omega)
  refine callA_func (sok xt) (numbers_c xt _ s ha2 v L hv2 hl fun m3 hm3 => ?_)
  simp only [Hp.up_n] at hm3
  cases q3 : s.numbers L
  · simp only [sy.down, argsTo, cellPut_some, Nat.reduceEqDiff, reduceIte, Nat.reduceLT, Nat.reduceAdd, Nat.reduceMul, Nat.reduceLeDiff, q3, wnt_d]
    exact hn _ _ (known_tail xt _ res5 (by omega) (by omega) (by simp [T.get_put]))
  cases q4 : decide (x < 0)
  rotate_left
  · simp only [sy.down, argsTo, cellPut_some, Nat.reduceEqDiff, reduceIte, Nat.reduceLT, Nat.reduceAdd, Nat.reduceMul, Nat.reduceLeDiff, q3, q4, wnt_d]
    exact hn _ _ (known_tail xt _ res5 (by omega) (by omega) (by simp [T.get_put]))
  cases q5 : decide ((s.sorts.length : Int) ≤ x)
  rotate_left
  · simp only [sy.down, argsTo, cellPut_some, Nat.reduceEqDiff, reduceIte, Nat.reduceLT, Nat.reduceAdd, Nat.reduceMul, Nat.reduceLeDiff, q3, q4, q5, hlenS]
    exact hn _ _ (known_tail xt _ res5 (by omega) (by omega) (by simp [T.get_put]))
  simp only [sy.down, argsTo, cellPut_some, Nat.reduceEqDiff, reduceIte, Nat.reduceLT, Nat.reduceAdd, Nat.reduceMul, Nat.reduceLeDiff, q3, q4, q5, hlenS, Hp.up_up]
  refine hn _ _ ?_
  clear hn hp K1
  refine seq_cond false (by simp only [sy.down, argsTo, cellPut_some, Nat.reduceEqDiff, reduceIte, Nat.reduceLT, Nat.reduceAdd, Nat.reduceMul, Nat.reduceLeDiff]) (fun hx => by cases hx) (fun _ => ?_)
  refine seq_skip ?_
  have q4 := of_decide_eq_false q4
  have q5 := of_decide_eq_false q5
  obtain ⟨i, rfl⟩ : ∃ i : Nat, x = i := ⟨x.toNat, by omega⟩
  have hi : i < s.sorts.length := by omega
  have hok : s.ok = true := by rw [← s.rok_ok]; exact q2
  have g := Sk.good hok
  have gl2 := g.l2
  have gle := g.le
  have hnum : s.asks L = true := by
    simp only [Sk.numbers, Bool.and_eq_true] at q3
    simp only [Sk.asks, hok, q3.1, q3.2, Bool.and_self]
  have hll : L.length = s.sorts.length := by simp only [Sk.numbers, Bool.and_eq_true, decide_eq_true_eq] at q3; omega
  have ha3 := ha1.up (n := m3) (by simp [Hp.new_n]; omega)
  have hv3 := hv1.up (n := m3) (by simp [Hp.new_n]; omega)
  -- Holds
  refine seq_reg fun K1 hn hp => ?_
  simp only [sy.down, argsTo, cellPut_some, Nat.reduceEqDiff, reduceIte, Nat.reduceLT, Nat.reduceAdd, Nat.reduceMul, Nat.reduceLeDiff]
  refine callA_func (sok xt) (holds_c xt _ s ha3 v L hv3 hl fun m4 hm4 => ?_)
  simp only [Hp.up_n] at hm4
  simp only [sy.down, argsTo, cellPut_some, Nat.reduceEqDiff, reduceIte, Nat.reduceLT, Nat.reduceAdd, Nat.reduceMul, Nat.reduceLeDiff, Hp.up_up, ex_tup0, ex_tup1, hnum]
  refine hn _ _ ?_
  clear hn hp K1
  have ha4 := ha1.up (n := m4) (by simp [Hp.new_n]; omega)
  have hv4 := hv1.up (n := m4) (by simp [Hp.new_n]; omega)
  -- Sorts
  refine seq_reg fun K1 hn hp => ?_
  simp only [sy.down, argsTo, cellPut_some, Nat.reduceEqDiff, reduceIte, Nat.reduceLT, Nat.reduceAdd, Nat.reduceMul, Nat.reduceLeDiff]
  refine callA_func (sok xt) ((sorts_c xt _ s ha4).mono ?_)
  rintro r h5 ⟨u, rfl, fr5, row5⟩
  simp only [Hp.up_n] at fr5
  simp only [sy.down, argsTo, cellPut_some, Nat.reduceEqDiff, reduceIte, Nat.reduceLT, Nat.reduceAdd, Nat.reduceMul, Nat.reduceLeDiff, ex_tup0, ex_tup1]
  refine hn _ _ ?_
  clear hn hp K1
  have hlo5 := fr5.lo
  have q0 : h5.t.get h.n = some (.cells s.cells 25) := by rw [fr5.at_ _ (by omega)]; simp [Hp.new_t, T.get_put]
  have ha5 : s.At xt h5 := ha4.fr fr5 (Nat.le_refl _)
  have hv5 := hv4.fr fr5 (Nat.le_refl _)
  -- Total
  refine seq_reg fun K1 hn hp => ?_
  simp only [sy.down, argsTo, cellPut_some, Nat.reduceEqDiff, reduceIte, Nat.reduceLT, Nat.reduceAdd, Nat.reduceMul, Nat.reduceLeDiff, q0]
  refine callA_func (sok xt) (total_c xt _ s ha5 fun m6 hm6 => ?_)
  simp only [sy.down, argsTo, cellPut_some, Nat.reduceEqDiff, reduceIte, Nat.reduceLT, Nat.reduceAdd, Nat.reduceMul, Nat.reduceLeDiff, ex_tup0, ex_tup1]
  refine hn _ _ ?_
  clear hn hp K1
  obtain ⟨h6, hh6⟩ : ∃ h6 : Hp, h6 = ((h5.up m6).new (.cells [iv 0, iv 0] 36)).set m6 (.cells [iv s.total.1, iv s.total.2] 36) := ⟨_, rfl⟩
  rw [← hh6]
  have f6 : Fr h5.n h5 h6 := by rw [hh6]; exact (((Fr.refl (Nat.le_refl _)).up (Nat.le_of_lt hm6)).new _).set (by omega) (by simp [Hp.new_n]) _
  have q10 : h6.t.get m6 = some (.cells [iv s.total.1, iv s.total.2] 36) := by rw [hh6, Hp.set_t, T.get_put, if_pos rfl]
  have n6 : h6.n = m6 + 1 := by rw [hh6]; rfl
  have q06 : h6.t.get h.n = some (.cells s.cells 25) := by rw [f6.at_ _ (by omega)]; exact q0
  have ha6 := ha5.fr f6 (Nat.le_refl _)
  have hv6 := hv5.fr f6 (Nat.le_refl _)
  have row6 := row5.fr f6 (Nat.le_refl _)
  refine gen_st (fun tm => tm.get 1 = some v ∧ tm.get 2 = some (iv i) ∧ tm.get 3 = some (.ptr h.n 0) ∧ tm.get 7 = some (.val (.bool (s.holds L))) ∧ tm.get 8 = some (iv 0) ∧ tm.get 9 = some u ∧ tm.get 10 = some (iv s.err) ∧ tm.get 11 = some (.ptr m6 0) ∧ tm.get 12 = some (iv s.err)) (by simp [T.get_put]) ?_
  rintro tm ⟨g1, g2, g3, g7, g8, g9, g10, g11, g12⟩
  have hlenU := fun h' => row6.len (h' := h') tg43 rfl
  simp only [List.length_map] at hlenU
  refine seq_seq ?_
  by_cases he : s.err = 0
  rotate_left
  · have he7 : s.err = 7 := by
      simp only [Sk.err, hok, if_true] at he ⊢
      split at he
      · rename_i hq; rw [if_pos hq]
      · exact absurd rfl he
    have hnt : s.truths s.seenF = [] := by
      simp only [Sk.err, hok, if_true] at he7
      split at he7
      · assumption
      · cases he7
    have hfalse : s.holds L = false := by
      cases hq : s.holds L with
      | false => rfl
      | true => have := (Sk.holds_truth hok q3).1 hq; rw [hnt] at this; cases this
    rw [he7] at g10 g12
    rw [hfalse] at g7
    refine seq_reg fun K hn hp => ?_
    simp only [sy.down, argsTo, cellPut_some, Nat.reduceEqDiff, reduceIte, Nat.reduceLT, Nat.reduceAdd, Nat.reduceMul, Nat.reduceLeDiff, g7, g8, g10, g12, d00, d77, d70]
    refine hn _ _ ?_
    clear hn hp K
    refine seq_cond false (by simp only [sy.down, argsTo, cellPut_some, Nat.reduceEqDiff, reduceIte, Nat.reduceLT, Nat.reduceAdd, Nat.reduceMul, Nat.reduceLeDiff]) (fun hx => by cases hx) (fun _ => ?_)
    refine seq_skip ?_
    refine seq_seq ?_
    refine seq_reg fun K hn hp => ?_
    simp only [sy.down, argsTo, cellPut_some, Nat.reduceEqDiff, reduceIte, Nat.reduceLT, Nat.reduceAdd, Nat.reduceMul, Nat.reduceLeDiff, g10, d70]
    refine hn _ _ ?_
    clear hn hp K
    exact known_tail xt _ res5 (by omega) (by omega) (by simp [T.get_put])
  have hee : decide (s.err = s.err) = true := by simp
  rw [he] at g10 g12
  refine seq_reg fun K hn hp => ?_
  simp only [sy.down, argsTo, cellPut_some, Nat.reduceEqDiff, reduceIte, Nat.reduceLT, Nat.reduceAdd, Nat.reduceMul, Nat.reduceLeDiff, g7, g8, g10, g12, d00, wnt_d]
  refine hn _ _ ?_
  clear hn hp K
  refine seq_cond false (by simp only [sy.down, argsTo, cellPut_some, Nat.reduceEqDiff, reduceIte, Nat.reduceLT, Nat.reduceAdd, Nat.reduceMul, Nat.reduceLeDiff]) (fun hx => by cases hx) (fun _ => ?_)
  refine seq_skip ?_
  refine seq_seq ?_
  refine seq_reg fun K hn hp => ?_
  simp only [sy.down, argsTo, cellPut_some, Nat.reduceEqDiff, reduceIte, Nat.reduceLT, Nat.reduceAdd, Nat.reduceMul, Nat.reduceLeDiff, g10, d00]
  refine hn _ _ ?_
  clear hn hp K
  refine seq_cond false (by simp only [sy.down, argsTo, cellPut_some, Nat.reduceEqDiff, reduceIte, Nat.reduceLT, Nat.reduceAdd, Nat.reduceMul, Nat.reduceLeDiff]) (fun hx => by cases hx) (fun _ => ?_)
  refine seq_skip ?_
  -- the bounds
  obtain ⟨p, hp, hends⟩ := Sk.spans_ends he hi
  have htot := Sk.total_ends he
  have hsl := Sk.spans_len he
  obtain ⟨b1, b2, b3, b4⟩ : 0 ≤ s.total.1 ∧ s.total.2 ≤ 200 ∧ 0 ≤ p.1 ∧ p.2 ≤ s.sh := by
    obtain ⟨⟨n1, t1, e1⟩, ⟨n2, t2, e2⟩, _⟩ := htot
    obtain ⟨⟨n3, t3, e3⟩, ⟨n4, t4, e4⟩, _⟩ := hends
    have r1 := Sk.blanks_range g t1
    have r2 := Sk.blanks_range g t2
    have r3 := Sk.truth_bounds g t3 i
    have r4 := Sk.truth_bounds g t4 i
    have := g.sh2
    simp only at e3 e4
    refine ⟨by omega, by omega, by omega, by omega⟩
  have p0 : 0 ≤ p.2 := by
    obtain ⟨_, ⟨n4, t4, e4⟩, _⟩ := hends
    have r4 := Sk.truth_bounds g t4 i
    simp only at e4
    omega
  have c1' : decide (s.total.1 < 0) = false := decide_eq_false (by omega)
  have c2' : decide ((200 : Int) < s.total.2) = false := decide_eq_false (by omega)
  have c3' : decide (p.1 < 0) = false := decide_eq_false (by omega)
  have c4' : decide (s.sh < p.2) = false := decide_eq_false (by omega)
  have c5' : decide ((s.spans.length : Int) = (s.sorts.length : Int)) = true := decide_eq_true (by rw [hsl])
  have hidx : ∀ hq : Hp, aindexAddr tb 43 u (iv i) = some (elp u (i * 2)) := fun _ => row6.idx tg43 rfl tg36 rfl (by simp; omega) (k := .i64)
  have hidx := hidx h
  have hne : s.spans.map c2 ≠ [] := by intro hq; rw [List.map_eq_nil_iff] at hq; rw [hq] at hp; simp at hp
  have hfa1 := row6.fa hne tg36 (te := te36) rfl (f := 0) rfl (i * 2)
  have hfa2 := row6.fa hne tg36 (te := te36) rfl (f := 1) rfl (i * 2)
  simp only [Nat.add_zero] at hfa1
  have hp1 : ∀ {hq : Hp}, Fr h6.n h6 hq → aload tb xt hq 3 (elp u (i * 2)) = some (iv p.1) := fun {hq} f => (row6.fr f (Nat.le_refl _)).load0 tg3 rfl (c := c2 p) (by simp [hp]) rfl
  have hp2 : ∀ {hq : Hp}, Fr h6.n h6 hq → aload tb xt hq 3 (elp u (i * 2 + 1)) = some (iv p.2) := fun {hq} f => (row6.fr f (Nat.le_refl _)).load tg3 rfl (j := 1) (c := c2 p) (by simp [hp]) rfl
  have l1 := hp1 (Fr.refl (Nat.le_refl h6.n))
  have l2 := hp2 (Fr.refl (Nat.le_refl h6.n))
  refine seq_seq ?_
  refine seq_regD (sok xt) 34 (by kernel_rfl) fun K1 hn hp => ?_
  simp only [sy.down, argsTo, cellPut_some, Nat.reduceEqDiff, reduceIte, Nat.reduceLT, Nat.reduceAdd, Nat.reduceMul, Nat.reduceLeDiff, g2, g3, g9, g11, hlenU, q06, hlenS, c5', q10, c1', c2', hidx, hfa1, hfa2, l1, l2, c3', c4']
  refine hn _ _ ?_
  clear hn hp K1
  refine seq_cond false (by simp only [sy.down, argsTo, cellPut_some, Nat.reduceEqDiff, reduceIte, Nat.reduceLT, Nat.reduceAdd, Nat.reduceMul, Nat.reduceLeDiff]) (fun hx => by cases hx) (fun _ => ?_)
  refine seq_skip ?_
  -- the sack in which as many were seen as there are at most
  have hov := ha.sorts.one
  have hoe := ha.seen.one
  refine seq_reg fun K hn hp => ?_
  simp only [sy.down, argsTo, cellPut_some, Nat.reduceEqDiff, reduceIte, Nat.reduceLT, Nat.reduceAdd, Nat.reduceMul, Nat.reduceLeDiff, g3, q06, hov, hoe]
  refine hn _ _ ?_
  clear hn hp K
  obtain ⟨h7, hh7⟩ : ∃ h7 : Hp, h7 = (h6.new (.cells [iv 0, .val (.slice none 0 0), .val (.slice none 0 0), iv 0, iv 0] 25)).set h6.n (.cells s.cells 25) := ⟨_, rfl⟩
  rw [← hh7]
  have f7 : Fr h6.n h6 h7 := by rw [hh7]; exact ((Fr.refl (Nat.le_refl _)).new _).set (Nat.le_refl _) (by simp [Hp.new_n]) _
  have n7 : h7.n = h6.n + 1 := by rw [hh7]; rfl
  have q07 : h7.t.get h.n = some (.cells s.cells 25) := by rw [f7.at_ _ (by omega)]; exact q06
  have q17 : h7.t.get h6.n = some (.cells s.cells 25) := by rw [hh7, Hp.set_t, T.get_put, if_pos rfl]
  have ha7 := ha6.fr f7 (Nat.le_refl _)
  have hsne : s.seen ≠ [] := by rintro hq; rw [hq] at gle; simp at gle; omega
  obtain ⟨b, h8, p1, p2, p3, p4, p5⟩ := copy_ints xt h7 s.ve s.seen ha7.seen hsne (by omega)
  have q18 : h8.t.get h6.n = some (.cells s.cells 25) := by rw [p5.at_ _ (by omega)]; exact q17
  refine seq_reg fun K hn hp => ?_
  simp only [sy.down, argsTo, cellPut_some, Nat.reduceEqDiff, reduceIte, Nat.reduceLT, Nat.reduceAdd, Nat.reduceMul, Nat.reduceLeDiff, g3, q07, p1, q18]
  refine hn _ _ ?_
  clear hn hp K
  obtain ⟨h9, hh9⟩ : ∃ h9 : Hp, h9 = h8.set h6.n (.cells [iv s.sh, s.vs, .sl b 0 s.seen.length 1, iv s.wt, iv s.off] 25) := ⟨_, rfl⟩
  rw [← hh9]
  have f9 : Fr h6.n h6 h9 := by rw [hh9]; exact (f7.trans p5 (by omega)).set (Nat.le_refl _) (by omega) _
  have n9 : h9.n = h8.n := by rw [hh9]; rfl
  have q19 : h9.t.get h6.n = some (.cells [iv s.sh, s.vs, .sl b 0 s.seen.length 1, iv s.wt, iv s.off] 25) := by rw [hh9, Hp.set_t, T.get_put, if_pos rfl]
  have qb9 : h9.t.get b = some (.cells (s.seen.map iv) 3) := by rw [hh9, Hp.set_t, T.get_put, if_neg (by omega)]; exact p4
  have hidx2 := idx_sl b s.seen.length i (by omega)
  have hput := put_int h9 b i s.seen p.2 (by omega)
  have l3 := hp2 f9
  refine seq_regD (sok xt) 9 (by kernel_rfl) fun K1 hn hp => ?_
  simp only [sy.down, argsTo, Nat.reduceEqDiff, reduceIte, Nat.reduceLT, Nat.reduceAdd, Nat.reduceMul, Nat.reduceLeDiff, g2, g9, q19, hidx, hfa2, l3, hidx2, qb9, hput]
  refine hn _ _ ?_
  clear hn hp K1
  obtain ⟨ha', hha⟩ : ∃ ha' : Hp, ha' = h9.set b (.cells ((s.seen.set i p.2).map iv) 3) := ⟨_, rfl⟩
  rw [← hha]
  have fa' : Fr h6.n h6 ha' := by rw [hha]; exact f9.set (by omega) (by omega) _
  have na : ha'.n = h8.n := by rw [hha, ← n9]; rfl
  have q1a : ha'.t.get h6.n = some (.cells [iv s.sh, s.vs, .sl b 0 s.seen.length 1, iv s.wt, iv s.off] 25) := by rw [hha, Hp.set_t, T.get_put, if_neg (by omega)]; exact q19
  have qba : ha'.t.get b = some (.cells ((s.seen.set i p.2).map iv) 3) := by rw [hha, Hp.set_t, T.get_put, if_pos rfl]
  have hxs : (s.seen.set i p.2).length = s.seen.length := by rw [List.length_set]
  have hX : ({ s with ve := .sl b 0 s.seen.length 1, seen := s.seen.set i p.2 } : Sk).At xt ha' := by
    refine ⟨ha6.sorts.fr fa' (Nat.le_refl _), ?_, ha.ls, by show (s.seen.set i p.2).length ≤ _; omega⟩
    have := row_of_cells xt ha' b (s.seen.set i p.2) (by omega) qba
    rw [hxs] at this
    exact this
  obtain ⟨X, hXe⟩ : ∃ X : Sk, X = { s with ve := .sl b 0 s.seen.length 1, seen := s.seen.set i p.2 } := ⟨_, rfl⟩
  rw [← hXe] at hX
  have hXc : ([iv s.sh, s.vs, .sl b 0 s.seen.length 1, iv s.wt, iv s.off] : List AV) = X.cells := by rw [hXe]
  rw [hXc] at q1a
  have hXseen : X.seen = s.seen.set i p.2 := by rw [hXe]
  have hXlike : s.Like X := by rw [hXe]; exact ⟨rfl, rfl, rfl, rfl⟩
  have hXl : X.seen.length = s.seen.length := by rw [hXseen]; exact hxs
  have hXerr : X.err = 0 := hXlike.most he hi hp hXseen
  refine seq_reg fun K1 hn hp => ?_
  simp only [sy.down, argsTo, cellPut_some, Nat.reduceEqDiff, reduceIte, Nat.reduceLT, Nat.reduceAdd, Nat.reduceMul, Nat.reduceLeDiff, g2, q1a]
  refine callA_func (sok xt) ((looked_c xt _ X hX i (by omega) (by omega)).mono ?_)
  rintro r hb ⟨Y, rfl, frb, hY⟩
  have hYov := hY.at_.sorts.one
  have hYoe := hY.at_.seen.one
  simp only [sy.down, argsTo, cellPut_some, Nat.reduceEqDiff, reduceIte, Nat.reduceLT, Nat.reduceAdd, Nat.reduceMul, Nat.reduceLeDiff, hYov, hYoe]
  refine hn _ _ ?_
  clear hn hp K1
  have hlob := frb.lo
  obtain ⟨hc, hhc⟩ : ∃ hc : Hp, hc = (hb.new (.cells [iv 0, .val (.slice none 0 0), .val (.slice none 0 0), iv 0, iv 0] 25)).set hb.n (.cells Y.cells 25) := ⟨_, rfl⟩
  rw [← hhc]
  have fc : Fr hb.n hb hc := by rw [hhc]; exact ((Fr.refl (Nat.le_refl _)).new _).set (Nat.le_refl _) (by simp [Hp.new_n]) _
  have nc : hc.n = hb.n + 1 := by rw [hhc]; rfl
  have fc2 : Fr ha'.n ha' hc := frb.trans fc (by omega)
  have fc3 : Fr h6.n h6 hc := fa'.trans fc2 (by omega)
  have qYc : hc.t.get hb.n = some (.cells Y.cells 25) := by rw [hhc, Hp.set_t, T.get_put, if_pos rfl]
  have qXc : hc.t.get h6.n = some (.cells X.cells 25) := by rw [fc2.at_ _ (by omega)]; exact q1a
  have hXc' := hX.fr fc2 (Nat.le_refl _)
  have hYc := hY.at_.fr fc (Nat.le_refl _)
  have hYerr : Y.err ≠ 0 := by
    have hl2 : s.Like Y := ⟨hY.like.sh.trans hXlike.sh, hY.like.wt.trans hXlike.wt, hY.like.off.trans hXlike.off, hY.like.sorts.trans hXlike.sorts⟩
    refine hl2.over he hi hp ?_
    have := g.sh2
    rw [hY.seen, hXseen, set_getD _ _ _ _ (by omega), if_pos rfl, wr_id (by omega) (by omega), List.set_set]
  refine seq_reg fun K1 hn hp => ?_
  simp only [sy.down, argsTo, cellPut_some, Nat.reduceEqDiff, reduceIte, Nat.reduceLT, Nat.reduceAdd, Nat.reduceMul, Nat.reduceLeDiff, qXc]
  refine callA_func (sok xt) (total_c xt _ X hXc' fun m8 hm8 => ?_)
  simp only [sy.down, argsTo, cellPut_some, Nat.reduceEqDiff, reduceIte, Nat.reduceLT, Nat.reduceAdd, Nat.reduceMul, Nat.reduceLeDiff, ex_tup0, ex_tup1]
  refine hn _ _ ?_
  clear hn hp K1
  obtain ⟨hd, hhd⟩ : ∃ hd : Hp, hd = ((hc.up m8).new (.cells [iv 0, iv 0] 36)).set m8 (.cells [iv X.total.1, iv X.total.2] 36) := ⟨_, rfl⟩
  rw [← hhd]
  have fd : Fr hc.n hc hd := by rw [hhd]; exact (((Fr.refl (Nat.le_refl _)).up (Nat.le_of_lt hm8)).new _).set (by omega) (by simp [Hp.new_n]) _
  have qYd : hd.t.get hb.n = some (.cells Y.cells 25) := by rw [fd.at_ _ (by omega)]; exact qYc
  have hYd := hYc.fr fd (Nat.le_refl _)
  refine seq_reg fun K1 hn hp => ?_
  simp only [sy.down, argsTo, cellPut_some, Nat.reduceEqDiff, reduceIte, Nat.reduceLT, Nat.reduceAdd, Nat.reduceMul, Nat.reduceLeDiff, qYd]
  refine callA_func (sok xt) (total_c xt _ Y hYd fun m9 hm9 => ?_)
  simp only [sy.down, argsTo, cellPut_some, Nat.reduceEqDiff, reduceIte, Nat.reduceLT, Nat.reduceAdd, Nat.reduceMul, Nat.reduceLeDiff, ex_tup0, ex_tup1]
  refine hn _ _ ?_
  clear hn hp K1
  obtain ⟨hE, hhE⟩ : ∃ hE : Hp, hE = ((hd.up m9).new (.cells [iv 0, iv 0] 36)).set m9 (.cells [iv Y.total.1, iv Y.total.2] 36) := ⟨_, rfl⟩
  rw [← hhE]
  have fE : Fr hd.n hd hE := by rw [hhE]; exact (((Fr.refl (Nat.le_refl _)).up (Nat.le_of_lt hm9)).new _).set (by omega) (by simp [Hp.new_n]) _
  have fE2 : Fr h6.n h6 hE := (fc3.trans fd (by omega)).trans fE (by have := fd.le; omega)
  have hYe : decide (Y.err = 0) = false := decide_eq_false hYerr
  refine seq_seq ?_
  refine seq_reg fun K hn hp => ?_
  simp only [sy.down, argsTo, cellPut_some, Nat.reduceEqDiff, reduceIte, Nat.reduceLT, Nat.reduceAdd, Nat.reduceMul, Nat.reduceLeDiff, hXerr, d00, hYe]
  refine hn _ _ ?_
  clear hn hp K
  refine seq_cond false (by simp only [sy.down, argsTo, cellPut_some, Nat.reduceEqDiff, reduceIte, Nat.reduceLT, Nat.reduceAdd, Nat.reduceMul, Nat.reduceLeDiff]) (fun hx => by cases hx) (fun _ => ?_)
  refine seq_skip ?_
  refine seq_seq ?_
  have q0E : hE.t.get h.n = some (.cells s.cells 25) := by rw [fE2.at_ _ (by omega)]; exact q06
  have q10E : hE.t.get m6 = some (.cells [iv s.total.1, iv s.total.2] 36) := by rw [fE2.at_ _ (by omega)]; exact q10
  cases hh : s.holds L
  · rw [hh] at g7
    refine seq_reg fun K hn hp => ?_
    simp only [sy.down, argsTo, cellPut_some, Nat.reduceEqDiff, reduceIte, Nat.reduceLT, Nat.reduceAdd, Nat.reduceMul, Nat.reduceLeDiff, g7]
    refine hn _ _ ?_
    clear hn hp K
    exact known_tail xt _ res5 (by omega) (by omega) (by simp [T.get_put])
  rw [hh] at g7
  refine seq_reg fun K hn hp => ?_
  simp only [sy.down, argsTo, cellPut_some, Nat.reduceEqDiff, reduceIte, Nat.reduceLT, Nat.reduceAdd, Nat.reduceMul, Nat.reduceLeDiff, g7]
  refine hn _ _ ?_
  clear hn hp K
  refine seq_cond false (by simp only [sy.down, argsTo, cellPut_some, Nat.reduceEqDiff, reduceIte, Nat.reduceLT, Nat.reduceAdd, Nat.reduceMul, Nat.reduceLeDiff]) (fun hx => by cases hx) (fun _ => ?_)
  refine seq_skip ?_
  have haE := ha6.fr fE2 (Nat.le_refl _)
  have hvE := hv6.fr fE2 (Nat.le_refl _)
  refine seq_reg fun K1 hn hp => ?_
  simp only [sy.down, argsTo, cellPut_some, Nat.reduceEqDiff, reduceIte, Nat.reduceLT, Nat.reduceAdd, Nat.reduceMul, Nat.reduceLeDiff, g1, g3, q0E]
  refine callA_func (sok xt) (rblanks_c xt _ s haE v L hvE hll fun mF hmF => ?_)
  simp only [sy.down, argsTo, cellPut_some, Nat.reduceEqDiff, reduceIte, Nat.reduceLT, Nat.reduceAdd, Nat.reduceMul, Nat.reduceLeDiff]
  refine hn _ _ ?_
  clear hn hp K1
  have htr := (Sk.holds_truth hok q3).1 hh
  have e1 := hends.2.2 _ htr
  have e2 := htot.2.2 _ htr
  simp only at e1
  have hLi : L[i]? = some (L.getD i 0) := by rw [List.getD_eq_getElem?_getD, List.getElem?_eq_getElem (by omega)]; rfl
  have fF : Fr h6.n h6 (hE.up mF) := fE2.up (Nat.le_of_lt hmF)
  have l4 := hp1 fF
  have l5 := hp2 fF
  have hvF := hvE.up (Nat.le_of_lt hmF)
  have hidx3 := hvF.idx tg23 rfl tg3 rfl (by simp; omega) (k := .i64) (i := i)
  have hld3 : aload tb xt (hE.up mF) 3 (elp v (i * 1)) = some (iv (L.getD i 0)) := hvF.load0 tg3 rfl (c := c1 (L.getD i 0)) (by simp only [List.getElem?_map, hLi]; rfl) rfl
  have w1 : decide (p.1 ≤ L.getD i 0) = true := decide_eq_true e1.1
  have w2 : decide (L.getD i 0 ≤ p.2) = true := decide_eq_true e1.2
  have w3 : decide (s.total.1 ≤ s.blanks fun i => L.getD i 0) = true := decide_eq_true e2.1
  have w4 : decide ((s.blanks fun i => L.getD i 0) ≤ s.total.2) = true := decide_eq_true e2.2
  refine seq_regD (sok xt) 38 (by kernel_rfl) fun K1 hn hp => ?_
  simp only [sy.down, argsTo, cellPut_some, Nat.reduceEqDiff, reduceIte, Nat.reduceLT, Nat.reduceAdd, Nat.reduceMul, Nat.reduceLeDiff, g1, g2, g9, g11, hidx, hfa1, hfa2, l4, l5, hidx3, hld3, w1, w2, q10E, w3, w4]
  refine callA_func (sok xt) (known_c xt _ fun m2 hm2 => ?_)
  simp only [Hp.up_n] at hm2
  simp only [sy.down, argsTo, cellPut_some, Nat.reduceEqDiff, reduceIte, Nat.reduceLT, Nat.reduceAdd, Nat.reduceMul, Nat.reduceLeDiff, WOCn_t (h := hE.up mF) hm2]
  refine hn _ _ ?_
  refine wpc_ret (end_1 res5 ?_)
  simp [T.get_put, isTrue]
end Go.Proofs.Kn
