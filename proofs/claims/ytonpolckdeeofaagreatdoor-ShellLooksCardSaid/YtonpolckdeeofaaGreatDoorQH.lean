/-
  Texts in a row, joined by a program: SyR8, SyW1, SyRead, SyT0.
-/
import Derived.WideShapes
import Derived.Test.YtonpolckdeeofaaGreatDoorQF
import Derived.Test.YtonpolckdeeofaaGreatDoorQGK
import Derived.Test.YtonpolckdeeofaaGreatDoorQB
import Derived.Test.YtonpolckdeeofaaGreatDoorQC
set_option linter.all false
namespace Go.Proofs.Kn
open Go Go.Ev
set_option maxRecDepth 100000
theorem ft8s (xt : Addr → Option Value) : (SE xt).ft.get 8 = some Tryz.f8 := by kernel_rfl
theorem known_c (xt : Addr → Option Value) (h : Hp) {K : CR → Hp → Prop} (hk : ∀ n, h.n < n → K (.ret (.val (.bool true))) (h.up n)) : FnA (SE xt) 8 [] h K := by
  refine FnA.calm (v := .ret (.val (.bool true))) ⟨_, h, ⟨Nat.le_refl _, ⟨_, ft8s xt, rfl⟩, fun lim _ c w args' g hxt ha => ?_⟩, rfl, Fr.refl (Nat.le_refl _)⟩ hk
  have : args' = [] := by simpa [RL] using ha
  subst this
  refine (callsIn_wide.2 (known_ok w)).mono fun e w' ⟨h1, h2⟩ => ⟨c, Stp.below g h2, _, h1, by simp only [R]⟩
theorem ft10 (xt : Addr → Option Value) : (SE xt).ft.get 10 = some Tryz.f10 := by kernel_rfl
theorem res10 : Tryz.f10.results.toList = [.tmp 4] := by kernel_rfl
/-- The error of a sack of which something is asked. -/
def Sk.sacked (s : Sk) (is_ : Bool) : Int := if s.rok = true then (if is_ = true then (if s.rtruths = [] then 7 else 0) else 2) else 2
theorem sacked_c (xt : Addr → Option Value) (h : Hp) (s : Sk) (ha : s.At xt h) (is_ : Bool) {K : CR → Hp → Prop} (hk : ∀ n, h.n < n → K (.ret (iv (s.sacked is_))) (h.up n)) : FnA (SE xt) 10 [s.av, .val (.bool is_)] h K := by
  refine FnA.calm ?_ hk
  clear hk K
  refine FnA.walk (sok xt) (ft10 xt) rfl 16 rfl ?_
  have ha1 := ha.new (.cells s.cells 25)
  have hfr : ∀ n, h.n + 1 ≤ n → Fr h.n h ((h.new (.cells s.cells 25)).up n) := fun n hn => ((Fr.refl (Nat.le_refl _)).new _).up hn
  refine seq_reg fun K hn hp => ?_
  simp only [sy.down, argsTo, cellPut_some, Nat.reduceEqDiff, reduceIte, Nat.reduceLT, Nat.reduceAdd, Nat.reduceMul, Nat.reduceLeDiff]
  refine hn _ _ ?_
  clear hn hp K
  refine seq_seq ?_
  refine seq_reg fun K1 hn hp => ?_
  simp only [sy.down, argsTo, cellPut_some, Nat.reduceEqDiff, reduceIte, Nat.reduceLT, Nat.reduceAdd, Nat.reduceMul, Nat.reduceLeDiff]
  refine callA_func (sok xt) (rsack_c xt _ s ha1 fun m1 hm1 => ?_)
  simp only [Hp.new_n] at hm1
  cases q1 : s.rok
  · simp only [sy.down, argsTo, cellPut_some, Nat.reduceEqDiff, reduceIte, Nat.reduceLT, Nat.reduceAdd, Nat.reduceMul, Nat.reduceLeDiff, q1]
    refine hn _ _ ?_
    clear hn hp K1
    refine seq_cond true (by simp only [sy.down, argsTo, cellPut_some, Nat.reduceEqDiff, reduceIte, Nat.reduceLT, Nat.reduceAdd, Nat.reduceMul, Nat.reduceLeDiff]) (fun _ => ?_) (fun hx => by cases hx)
    refine seq_seq ?_
    refine seq_reg fun K hn hp => ?_
    simp only [sy.down, argsTo, cellPut_some, Nat.reduceEqDiff, reduceIte, Nat.reduceLT, Nat.reduceAdd, Nat.reduceMul, Nat.reduceLeDiff]
    refine hn _ _ ?_
    clear hn hp K
    refine seq_ret (end_1 res10 ⟨?_, hfr _ (by omega)⟩)
    simp [T.get_put, Sk.sacked, q1]
  simp only [sy.down, argsTo, cellPut_some, Nat.reduceEqDiff, reduceIte, Nat.reduceLT, Nat.reduceAdd, Nat.reduceMul, Nat.reduceLeDiff, q1]
  refine hn _ _ ?_
  clear hn hp K1
  cases is_
  · refine seq_cond true (by simp only [sy.down, argsTo, cellPut_some, Nat.reduceEqDiff, reduceIte, Nat.reduceLT, Nat.reduceAdd, Nat.reduceMul, Nat.reduceLeDiff]) (fun _ => ?_) (fun hx => by cases hx)
    refine seq_seq ?_
    refine seq_reg fun K hn hp => ?_
    simp only [sy.down, argsTo, cellPut_some, Nat.reduceEqDiff, reduceIte, Nat.reduceLT, Nat.reduceAdd, Nat.reduceMul, Nat.reduceLeDiff]
    refine hn _ _ ?_
    clear hn hp K
    refine seq_ret (end_1 res10 ⟨?_, hfr _ (by omega)⟩)
    simp [T.get_put, Sk.sacked, q1]
  refine seq_cond false (by simp only [sy.down, argsTo, cellPut_some, Nat.reduceEqDiff, reduceIte, Nat.reduceLT, Nat.reduceAdd, Nat.reduceMul, Nat.reduceLeDiff]) (fun hx => by cases hx) (fun _ => ?_)
  refine seq_skip ?_
  refine seq_seq ?_
  refine seq_reg fun K1 hn hp => ?_
  simp only [sy.down, argsTo, cellPut_some, Nat.reduceEqDiff, reduceIte, Nat.reduceLT, Nat.reduceAdd, Nat.reduceMul, Nat.reduceLeDiff]
  refine callA_func (sok xt) ((rtruths_c xt _ s (ha1.up (n := m1) (by simp [Hp.new_n]; omega)) q1).mono ?_)
  rintro r h2 ⟨v, rfl, fr2, rows⟩
  simp only [Hp.up_n] at fr2
  have hlen := fun h' => rows.len (h' := h') tg97 rfl
  simp only [cc, List.length_map] at hlen
  simp only [sy.down, argsTo, cellPut_some, Nat.reduceEqDiff, reduceIte, Nat.reduceLT, Nat.reduceAdd, Nat.reduceMul, Nat.reduceLeDiff, hlen]
  refine hn _ _ ?_
  clear hn hp K1
  have hf2 : Fr h.n h h2 := (hfr m1 (by omega)).trans fr2 (by omega)
  cases hr : s.rtruths with
  | nil =>
    refine seq_cond true (by simp only [sy.down, argsTo, cellPut_some, Nat.reduceEqDiff, reduceIte, Nat.reduceLT, Nat.reduceAdd, Nat.reduceMul, Nat.reduceLeDiff]; simp) (fun _ => ?_) (fun hx => by cases hx)
    refine seq_seq ?_
    refine seq_reg fun K hn hp => ?_
    simp only [sy.down, argsTo, cellPut_some, Nat.reduceEqDiff, reduceIte, Nat.reduceLT, Nat.reduceAdd, Nat.reduceMul, Nat.reduceLeDiff]
    refine hn _ _ ?_
    clear hn hp K
    refine seq_ret (end_1 res10 ⟨?_, hf2⟩)
    simp [T.get_put, Sk.sacked, q1, hr]
  | cons l ll =>
    refine seq_cond false (by simp only [sy.down, argsTo, cellPut_some, Nat.reduceEqDiff, reduceIte, Nat.reduceLT, Nat.reduceAdd, Nat.reduceMul, Nat.reduceLeDiff]; simp; omega) (fun hx => by cases hx) (fun _ => ?_)
    refine seq_skip ?_
    refine seq_reg fun K hn hp => ?_
    simp only [sy.down, argsTo, cellPut_some, Nat.reduceEqDiff, reduceIte, Nat.reduceLT, Nat.reduceAdd, Nat.reduceMul, Nat.reduceLeDiff]
    refine hn _ _ ?_
    clear hn hp K
    refine wpc_ret (end_1 res10 ⟨?_, hf2⟩)
    simp [T.get_put, Sk.sacked, q1, hr]
end Go.Proofs.Kn
namespace Go.Proofs.Kn
open Go Go.Ev
set_option maxRecDepth 100000
theorem gen_st {E : Env} {r : Option Nat} {c : Code} {tm : T AV} {nt : Nat} {h : Hp} {mks : List Nat} {Q : Ex → St → Prop} (I : T AV → Prop) (hi : I tm) (hw : ∀ tm, I tm → wpc E r c ⟨tm, nt, h, mks⟩ Q) : wpc E r c ⟨tm, nt, h, mks⟩ Q := hw tm hi
theorem bcase (b : Bool) : b = true ∨ b = false := by cases b <;> simp
theorem ex_tup0 (a b : AV) : aextract (.tup [a, b]) 0 = some a := rfl
theorem ex_tup1 (a b : AV) : aextract (.tup [a, b]) 1 = some b := rfl
theorem d22 : decide ((2 : Int) = 2) = true := rfl
theorem d00 : decide ((0 : Int) = 0) = true := rfl
theorem d77 : decide ((7 : Int) = 7) = true := rfl
theorem d20 : decide ((2 : Int) = 0) = false := rfl
theorem d02 : decide ((0 : Int) = 2) = false := rfl
theorem d70 : decide ((7 : Int) = 0) = false := rfl
theorem d07 : decide ((0 : Int) = 7) = false := rfl
theorem d27 : decide ((2 : Int) = 7) = false := rfl
theorem n00 : decide (((0 : Nat) : Int) = 0) = true := rfl
def isTrue (r : CR) (_ : Hp) : Prop := r = .ret (.val (.bool true))
theorem ft6 (xt : Addr → Option Value) : (SE xt).ft.get 6 = some Tryz.f6 := by kernel_rfl
theorem res6 : Tryz.f6.results.toList = [.tmp 4] := by kernel_rfl
def tl : Code → Code
  | .seq _ b => b
  | c => c
def bdOf (f : Func) : Code := f.body.getD .skip
noncomputable def tail6 : Code := tl (tl (tl (tl (tl (tl (tl (tl (tl (bdOf Tryz.f6)))))))))
theorem sacks_true (xt : Addr → Option Value) (h : Hp) (s : Sk) (ha : s.At xt h) (v : AV) (L : List Int) (hv : RowAt xt h 1 v (L.map c1)) (hl : L.length ≤ 9223372036854775807) : FnA (SE xt) 6 [s.av, v] h isTrue := by
  refine FnA.walk (sok xt) (ft6 xt) rfl 136 rfl ?_
  have ha1 := ha.new (.cells s.cells 25)
  have hv1 := hv.new (.cells s.cells 25)
  have hlenL := fun h' => hv.len (h' := h') tg23 rfl
  simp only [List.length_map] at hlenL
  refine seq_reg fun K hn hp => ?_
  simp only [sy.down, argsTo, cellPut_some, Nat.reduceEqDiff, reduceIte, Nat.reduceLT, Nat.reduceAdd, Nat.reduceMul, Nat.reduceLeDiff]
  refine hn _ _ ?_
  clear hn hp K
  refine seq_seq ?_
  refine seq_reg fun K1 hn hp => ?_
  simp only [sy.down, argsTo, cellPut_some, Nat.reduceEqDiff, reduceIte, Nat.reduceLT, Nat.reduceAdd, Nat.reduceMul, Nat.reduceLeDiff]
  refine callA_func (sok xt) (slim_c xt _ s ha1 fun m1 hm1 => ?_)
  simp only [Hp.new_n] at hm1
  cases q1 : s.slim
  · simp only [sy.down, argsTo, cellPut_some, Nat.reduceEqDiff, reduceIte, Nat.reduceLT, Nat.reduceAdd, Nat.reduceMul, Nat.reduceLeDiff, q1]
    refine hn _ _ ?_
    clear hn hp K1
    refine seq_cond true (by simp only [sy.down, argsTo, cellPut_some, Nat.reduceEqDiff, reduceIte, Nat.reduceLT, Nat.reduceAdd, Nat.reduceMul, Nat.reduceLeDiff]) (fun _ => ?_) (fun hx => by cases hx)
    refine seq_seq ?_
    refine seq_reg fun K1 hn hp => ?_
    simp only [sy.down, argsTo, cellPut_some, Nat.reduceEqDiff, reduceIte, Nat.reduceLT, Nat.reduceAdd, Nat.reduceMul, Nat.reduceLeDiff]
    refine callA_func (sok xt) (known_c xt _ fun m2 hm2 => ?_)
    simp only [sy.down, argsTo, cellPut_some, Nat.reduceEqDiff, reduceIte, Nat.reduceLT, Nat.reduceAdd, Nat.reduceMul, Nat.reduceLeDiff]
    refine hn _ _ ?_
    refine seq_ret (end_1 res6 ?_)
    simp [T.get_put, isTrue]
  simp only [sy.down, argsTo, cellPut_some, Nat.reduceEqDiff, reduceIte, Nat.reduceLT, Nat.reduceAdd, Nat.reduceMul, Nat.reduceLeDiff, q1, hlenL]
  refine hn _ _ ?_
  clear hn hp K1
  rcases bcase (decide ((5 : Int) < L.length)) with q2 | q2
  · refine seq_cond true (by simp only [sy.down, argsTo, cellPut_some, Nat.reduceEqDiff, reduceIte, Nat.reduceLT, Nat.reduceAdd, Nat.reduceMul, Nat.reduceLeDiff, q2]) (fun _ => ?_) (fun hx => by cases hx)
    refine seq_seq ?_
    refine seq_reg fun K1 hn hp => ?_
    simp only [sy.down, argsTo, cellPut_some, Nat.reduceEqDiff, reduceIte, Nat.reduceLT, Nat.reduceAdd, Nat.reduceMul, Nat.reduceLeDiff]
    refine callA_func (sok xt) (known_c xt _ fun m2 hm2 => ?_)
    simp only [sy.down, argsTo, cellPut_some, Nat.reduceEqDiff, reduceIte, Nat.reduceLT, Nat.reduceAdd, Nat.reduceMul, Nat.reduceLeDiff]
    refine hn _ _ ?_
    refine seq_ret (end_1 res6 ?_)
    simp [T.get_put, isTrue]
  refine seq_cond false (by simp only [sy.down, argsTo, cellPut_some, Nat.reduceEqDiff, reduceIte, Nat.reduceLT, Nat.reduceAdd, Nat.reduceMul, Nat.reduceLeDiff, q2]) (fun hx => by cases hx) (fun _ => ?_)
  refine seq_skip ?_
  have ha2 := ha1.up (n := m1) (by simp [Hp.new_n]; omega)
  have hv2 := hv1.up (n := m1) (by simp [Hp.new_n]; omega)
  -- Sack
  refine seq_reg fun K1 hn hp => ?_
  simp only [sy.down, argsTo, cellPut_some, Nat.reduceEqDiff, reduceIte, Nat.reduceLT, Nat.reduceAdd, Nat.reduceMul, Nat.reduceLeDiff]
  refine callA_func (sok xt) (sack_c xt _ s ha2 fun m2 hm2 => ?_)
  simp only [Hp.up_n] at hm2
  simp only [sy.down, argsTo, cellPut_some, Nat.reduceEqDiff, reduceIte, Nat.reduceLT, Nat.reduceAdd, Nat.reduceMul, Nat.reduceLeDiff, Hp.up_up]
  refine hn _ _ ?_
  clear hn hp K1
  have ha3 := ha1.up (n := m2) (by simp [Hp.new_n]; omega)
  have hv3 := hv1.up (n := m2) (by simp [Hp.new_n]; omega)
  -- Holds
  refine seq_reg fun K1 hn hp => ?_
  simp only [sy.down, argsTo, cellPut_some, Nat.reduceEqDiff, reduceIte, Nat.reduceLT, Nat.reduceAdd, Nat.reduceMul, Nat.reduceLeDiff]
  refine callA_func (sok xt) (holds_c xt _ s ha3 v L hv3 hl fun m3 hm3 => ?_)
  simp only [Hp.up_n] at hm3
  simp only [sy.down, argsTo, cellPut_some, Nat.reduceEqDiff, reduceIte, Nat.reduceLT, Nat.reduceAdd, Nat.reduceMul, Nat.reduceLeDiff, Hp.up_up, ex_tup0, ex_tup1]
  refine hn _ _ ?_
  clear hn hp K1
  have ha4 := ha1.up (n := m3) (by simp [Hp.new_n]; omega)
  have hv4 := hv1.up (n := m3) (by simp [Hp.new_n]; omega)
  -- Sorts
  refine seq_reg fun K1 hn hp => ?_
  simp only [sy.down, argsTo, cellPut_some, Nat.reduceEqDiff, reduceIte, Nat.reduceLT, Nat.reduceAdd, Nat.reduceMul, Nat.reduceLeDiff]
  refine callA_func (sok xt) ((sorts_c xt _ s ha4).mono ?_)
  rintro r h5 ⟨u, rfl, fr5, row5⟩
  simp only [Hp.up_n] at fr5
  simp only [sy.down, argsTo, cellPut_some, Nat.reduceEqDiff, reduceIte, Nat.reduceLT, Nat.reduceAdd, Nat.reduceMul, Nat.reduceLeDiff, ex_tup0, ex_tup1]
  refine hn _ _ ?_
  clear hn hp K1
  have hlo5 := fr5.lo
  have q0 : h5.t.get h.n = some (.cells s.cells 25) := by rw [fr5.at_ _ (by omega)]; simp [Hp.new_t, T.get_put]
  have ha5 : s.At xt h5 := ha4.fr fr5 (Nat.le_refl _)
  have hv5 := hv4.fr fr5 (Nat.le_refl _)
  -- Total
  refine seq_reg fun K1 hn hp => ?_
  simp only [sy.down, argsTo, cellPut_some, Nat.reduceEqDiff, reduceIte, Nat.reduceLT, Nat.reduceAdd, Nat.reduceMul, Nat.reduceLeDiff, q0]
  refine callA_func (sok xt) (total_c xt _ s ha5 fun m6 hm6 => ?_)
  simp only [sy.down, argsTo, cellPut_some, Nat.reduceEqDiff, reduceIte, Nat.reduceLT, Nat.reduceAdd, Nat.reduceMul, Nat.reduceLeDiff, ex_tup0, ex_tup1]
  refine hn _ _ ?_
  clear hn hp K1
  obtain ⟨h6, hh6⟩ : ∃ h6 : Hp, h6 = ((h5.up m6).new (.cells [iv 0, iv 0] 36)).set m6 (.cells [iv s.total.1, iv s.total.2] 36) := ⟨_, rfl⟩
  rw [← hh6]
  have f6 : Fr h5.n h5 h6 := by rw [hh6]; exact (((Fr.refl (Nat.le_refl _)).up (Nat.le_of_lt hm6)).new _).set (by omega) (by simp [Hp.new_n]) _
  have q10 : h6.t.get m6 = some (.cells [iv s.total.1, iv s.total.2] 36) := by rw [hh6, Hp.set_t, T.get_put, if_pos rfl]
  have n6 : h6.n = m6 + 1 := by rw [hh6]; rfl
  have q06 : h6.t.get h.n = some (.cells s.cells 25) := by rw [f6.at_ _ (by omega)]; exact q0
  have ha6 := ha5.fr f6 (Nat.le_refl _)
  have hv6 := hv5.fr f6 (Nat.le_refl _)
  have row6 := row5.fr f6 (Nat.le_refl _)
  refine gen_st (fun tm => tm.get 1 = some v ∧ tm.get 2 = some (.ptr h.n 0) ∧ tm.get 5 = some (iv (if s.ok = true then 0 else 2)) ∧ tm.get 6 = some (.val (.bool (s.holds L))) ∧ tm.get 7 = some (iv (if s.asks L = true then 0 else 2)) ∧ tm.get 8 = some u ∧ tm.get 9 = some (iv s.err) ∧ tm.get 10 = some (.ptr m6 0) ∧ tm.get 11 = some (iv s.err)) (by simp [T.get_put]) ?_
  rintro tm ⟨g1, g2, g5, g6, g7, g8, g9, g10, g11⟩
  have hlenU := fun h' => row6.len (h' := h') tg43 rfl
  simp only [List.length_map] at hlenU
  have hro := s.rok_ok
  refine seq_seq ?_
  refine seq_reg fun K1 hn hp => ?_
  simp only [sy.down, argsTo, cellPut_some, Nat.reduceEqDiff, reduceIte, Nat.reduceLT, Nat.reduceAdd, Nat.reduceMul, Nat.reduceLeDiff, g2, q06]
  refine callA_func (sok xt) (rsack_c xt _ s ha6 fun m7 hm7 => ?_)
  cases hrok : s.rok
  · have hok : s.ok = false := by rw [← hro]; exact hrok
    have e1 : s.err = 2 := by simp [Sk.err, hok]
    have e2 : s.asks L = false := by simp [Sk.asks, hok]
    have e3 : s.holds L = false := by simp [Sk.holds, e2]
    have e4 : s.total = (0, 0) := by simp [Sk.total, e1]
    have e5 : s.spans = [] := by simp [Sk.spans, e1]
    simp only [e1, e2, e3, e4, e5, hok, Bool.false_eq_true, if_false, List.length_nil] at g5 g6 g7 g9 g11 q10 hlenU
    simp only [sy.down, argsTo, cellPut_some, Nat.reduceEqDiff, reduceIte, Nat.reduceLT, Nat.reduceAdd, Nat.reduceMul, Nat.reduceLeDiff]
    refine hn _ _ ?_
    clear hn hp K1
    refine seq_cond true (by simp only [sy.down, argsTo, cellPut_some, Nat.reduceEqDiff, reduceIte, Nat.reduceLT, Nat.reduceAdd, Nat.reduceMul, Nat.reduceLeDiff]) (fun _ => ?_) (fun hx => by cases hx)
    refine seq_seq ?_
    refine seq_reg fun K1 hn hp => ?_
    simp only [sy.down, argsTo, cellPut_some, Nat.reduceEqDiff, reduceIte, Nat.reduceLT, Nat.reduceAdd, Nat.reduceMul, Nat.reduceLeDiff, g5, g6, g7, g8, g9, g10, g11, q10, d22, hlenU, n00, d00, bd36, eql36]
    refine callA_func (sok xt) (known_c xt _ fun m8 hm8 => ?_)
    simp only [sy.down, argsTo, cellPut_some, Nat.reduceEqDiff, reduceIte, Nat.reduceLT, Nat.reduceAdd, Nat.reduceMul, Nat.reduceLeDiff]
    refine hn _ _ ?_
    refine seq_ret (end_1 res6 ?_)
    simp [T.get_put, isTrue]
  have hok : s.ok = true := by rw [← hro]; exact hrok
  have g := Sk.good hok
  simp only [hok, if_true] at g5
  simp only [sy.down, argsTo, cellPut_some, Nat.reduceEqDiff, reduceIte, Nat.reduceLT, Nat.reduceAdd, Nat.reduceMul, Nat.reduceLeDiff]
  refine hn _ _ ?_
  clear hn hp K1
  refine seq_cond false (by simp only [sy.down, argsTo, cellPut_some, Nat.reduceEqDiff, reduceIte, Nat.reduceLT, Nat.reduceAdd, Nat.reduceMul, Nat.reduceLeDiff]) (fun hx => by cases hx) (fun _ => ?_)
  refine seq_skip ?_
  refine seq_seq ?_
  refine seq_reg fun K hn hp => ?_
  simp only [sy.down, argsTo, cellPut_some, Nat.reduceEqDiff, reduceIte, Nat.reduceLT, Nat.reduceAdd, Nat.reduceMul, Nat.reduceLeDiff, g5, d00]
  refine hn _ _ ?_
  clear hn hp K
  refine seq_cond false (by simp only [sy.down, argsTo, cellPut_some, Nat.reduceEqDiff, reduceIte, Nat.reduceLT, Nat.reduceAdd, Nat.reduceMul, Nat.reduceLeDiff]) (fun hx => by cases hx) (fun _ => ?_)
  refine seq_skip ?_
  have ha7 := ha6.up (Nat.le_of_lt hm7)
  have hv7 := hv6.up (Nat.le_of_lt hm7)
  refine seq_seq ?_
  refine seq_reg fun K1 hn hp => ?_
  simp only [sy.down, argsTo, cellPut_some, Nat.reduceEqDiff, reduceIte, Nat.reduceLT, Nat.reduceAdd, Nat.reduceMul, Nat.reduceLeDiff, g1, g2, q06]
  refine callA_func (sok xt) (numbers_c xt _ s ha7 v L hv7 hl fun m8 hm8 => ?_)
  simp only [Hp.up_n] at hm8
  simp only [sy.down, argsTo, cellPut_some, Nat.reduceEqDiff, reduceIte, Nat.reduceLT, Nat.reduceAdd, Nat.reduceMul, Nat.reduceLeDiff, Hp.up_up]
  refine hn _ _ ?_
  clear hn hp K1
  have ha8 := ha6.up (n := m8) (by omega)
  have hv8 := hv6.up (n := m8) (by omega)
  have hnum : s.asks L = s.numbers L := by simp only [Sk.asks, Sk.numbers, hok, Bool.true_and]; rw [Bool.and_comm]
  -- what stands behind both ways
  have tail : ∀ (m9 : Nat) (tm : T AV), m8 ≤ m9 → tm.get 1 = some v → tm.get 2 = some (.ptr h.n 0) → tm.get 8 = some u → tm.get 9 = some (iv s.err) → tm.get 10 = some (.ptr m6 0) → tm.get 11 = some (iv s.err) → wpc (SE xt) none tail6 ⟨tm, 136, h6.up m9, []⟩ (endK (SE xt) Tryz.f6 isTrue) := by
    intro m9 tm hm9 g1 g2 g8 g9 g10 g11
    have ha9 := ha6.up (n := m9) (by omega)
    have hv9 := hv6.up (n := m9) (by omega)
    have row9 := row6.up (n := m9) (by omega)
    refine seq_seq ?_
    refine seq_reg fun K1 hn hp => ?_
    simp only [sy.down, argsTo, cellPut_some, Nat.reduceEqDiff, reduceIte, Nat.reduceLT, Nat.reduceAdd, Nat.reduceMul, Nat.reduceLeDiff, g2, q06]
    refine callA_func (sok xt) (sacked_c xt _ s ha9 true fun m10 hm10 => ?_)
    simp only [Hp.up_n] at hm10
    have ha10 := ha6.up (n := m10) (by omega)
    have row10 := row6.up (n := m10) (by omega)
    have hes : s.err = s.sacked true := by rw [Sk.err_same]; simp [Sk.rerr, Sk.sacked]
    by_cases hr : s.rtruths = []
    · have e0 : s.sacked true = 7 := by simp [Sk.sacked, hrok, hr]
      rw [hes, e0] at g9 g11
      rw [e0] at hes
      have e4 : s.total = (0, 0) := by simp [Sk.total, hes]
      have e5 : s.spans = [] := by simp [Sk.spans, hes]
      simp only [e4, e5, List.length_nil] at q10 hlenU
      simp only [sy.down, argsTo, cellPut_some, Nat.reduceEqDiff, reduceIte, Nat.reduceLT, Nat.reduceAdd, Nat.reduceMul, Nat.reduceLeDiff, e0, d70, Hp.up_up]
      refine hn _ _ ?_
      clear hn hp K1
      refine seq_cond true (by simp only [sy.down, argsTo, cellPut_some, Nat.reduceEqDiff, reduceIte, Nat.reduceLT, Nat.reduceAdd, Nat.reduceMul, Nat.reduceLeDiff]) (fun _ => ?_) (fun hx => by cases hx)
      refine seq_seq ?_
      refine seq_reg fun K1 hn hp => ?_
      simp only [sy.down, argsTo, cellPut_some, Nat.reduceEqDiff, reduceIte, Nat.reduceLT, Nat.reduceAdd, Nat.reduceMul, Nat.reduceLeDiff, g8, g9, g10, g11, q10, d77, hlenU, n00, d00, bd36, eql36]
      refine callA_func (sok xt) (known_c xt _ fun m8 hm8 => ?_)
      simp only [sy.down, argsTo, cellPut_some, Nat.reduceEqDiff, reduceIte, Nat.reduceLT, Nat.reduceAdd, Nat.reduceMul, Nat.reduceLeDiff]
      refine hn _ _ ?_
      refine seq_ret (end_1 res6 ?_)
      simp [T.get_put, isTrue]
    · have e0 : s.sacked true = 0 := by simp [Sk.sacked, hrok, hr]
      rw [hes, e0] at g9 g11
      rw [e0] at hes
      simp only [sy.down, argsTo, cellPut_some, Nat.reduceEqDiff, reduceIte, Nat.reduceLT, Nat.reduceAdd, Nat.reduceMul, Nat.reduceLeDiff, e0, d00, Hp.up_up]
      refine hn _ _ ?_
      clear hn hp K1
      refine seq_cond false (by simp only [sy.down, argsTo, cellPut_some, Nat.reduceEqDiff, reduceIte, Nat.reduceLT, Nat.reduceAdd, Nat.reduceMul, Nat.reduceLeDiff]) (fun hx => by cases hx) (fun _ => ?_)
      refine seq_skip ?_
      refine seq_regDM (sok xt) 5 10 (by kernel_rfl) rfl fun K1 hn hp => ?_
      simp only [sy.down, argsTo, cellPut_some, Nat.reduceEqDiff, reduceIte, Nat.reduceLT, Nat.reduceAdd, Nat.reduceMul, Nat.reduceLeDiff, g2, g8, g9, q06, d00, midZ_some]
      refine callA_func (sok xt) ((rsorts_c xt _ s ha10 hrok hr).bumped.mono ?_)
      rintro r _ ⟨h11, ⟨v11, rfl, fr11, row11⟩, rfl⟩
      simp only [Hp.up_n] at fr11
      have hlt : (h6.up m10).n < (h11.up (h11.n + 1)).n := by have := fr11.lo; simp; omega
      have hlo11 := fr11.lo
      have fr12 : Fr m10 (h6.up m10) (h11.up (h11.n + 1)) := fr11.up (Nat.le_succ _)
      have q0x : h11.t.get h.n = some (.cells s.cells 25) := by rw [fr11.at_ _ (by omega)]; exact q06
      have q10x : h11.t.get m6 = some (.cells [iv s.total.1, iv s.total.2] 36) := by rw [fr11.at_ _ (by omega)]; exact q10
      simp only [sy.down, argsTo, cellPut_some, Nat.reduceEqDiff, reduceIte, Nat.reduceLT, Nat.reduceAdd, Nat.reduceMul, Nat.reduceLeDiff, midK_some hlt, g8]
      have hle : s.spans.length ≤ 9223372036854775807 := by rw [Sk.spans_len hes]; have := g.l2; omega
      refine callA_func (sok xt) (spans_c xt _ u v11 s.spans s.rspans (row10.fr fr12 (Nat.le_refl _)) (row11.up (Nat.le_succ _)) hle fun m12 hm12 => ?_)
      have esp : (s.spans == s.rspans) = true := by rw [Sk.spans_same hes]; simp [Sk.rspans]
      simp only [Hp.up_n] at hm12
      simp only [sy.down, argsTo, cellPut_some, Nat.reduceEqDiff, reduceIte, Nat.reduceLT, Nat.reduceAdd, Nat.reduceMul, Nat.reduceLeDiff, WOCn_t (h := h11.up (h11.n + 1)) hm12, esp, g11, d00, g10, g2, q0x, q10x]
      refine callA_func (sok xt) (rtotal_c xt _ s (((ha10.fr fr12 (Nat.le_refl _))).up (n := m12) (by simp; omega)) hrok hr fun m13 hm13 => ?_)
      simp only [Hp.up_n] at hm13
      have eto : s.total = rends (fun l => s.blanks (fnOf l)) s.rtruths := Sk.total_same hes
      rw [← eto]
      simp only [sy.down, argsTo, cellPut_some, Nat.reduceEqDiff, reduceIte, Nat.reduceLT, Nat.reduceAdd, Nat.reduceMul, Nat.reduceLeDiff, WOCn_t (h := (h11.up (h11.n + 1)).up m12) hm13, eql36, decide_true]
      refine callA_func (sok xt) (known_c xt _ fun m14 hm14 => ?_)
      simp only [sy.down, argsTo, cellPut_some, Nat.reduceEqDiff, reduceIte, Nat.reduceLT, Nat.reduceAdd, Nat.reduceMul, Nat.reduceLeDiff]
      refine hn _ _ ?_
      refine wpc_ret (end_1 res6 ?_)
      simp [T.get_put, isTrue]
  cases hn8 : s.numbers L
  · rw [hnum, hn8] at g7
    have e3 : s.holds L = false := by simp [Sk.holds, hnum, hn8]
    simp only [e3, Bool.false_eq_true, if_false] at g6 g7
    refine seq_cond true (by simp only [sy.down, argsTo, cellPut_some, Nat.reduceEqDiff, reduceIte, Nat.reduceLT, Nat.reduceAdd, Nat.reduceMul, Nat.reduceLeDiff, hn8]) (fun _ => ?_) (fun hx => by cases hx)
    refine seq_seq ?_
    refine seq_reg fun K hn hp => ?_
    simp only [sy.down, argsTo, cellPut_some, Nat.reduceEqDiff, reduceIte, Nat.reduceLT, Nat.reduceAdd, Nat.reduceMul, Nat.reduceLeDiff, g6, g7, d22]
    refine hn _ _ ?_
    clear hn hp K
    refine seq_cond false (by simp only [sy.down, argsTo, cellPut_some, Nat.reduceEqDiff, reduceIte, Nat.reduceLT, Nat.reduceAdd, Nat.reduceMul, Nat.reduceLeDiff]) (fun hx => by cases hx) (fun _ => ?_)
    refine seq_skip ?_
    exact tail m8 _ (Nat.le_refl _) (by simp [T.get_put, g1]) (by simp [T.get_put, g2]) (by simp [T.get_put, g8]) (by simp [T.get_put, g9]) (by simp [T.get_put, g10]) (by simp [T.get_put, g11])
  · rw [hnum, hn8] at g7
    simp only [if_true] at g7
    have hn9 := hn8
    simp only [Sk.numbers, Bool.and_eq_true, decide_eq_true_eq] at hn9
    have hll : L.length = s.sorts.length := by omega
    have e3 : s.holds L = s.rholds L := by simp only [Sk.holds, hnum, hn8, Bool.true_and, Sk.rholds]
    rw [e3] at g6
    refine seq_cond false (by simp only [sy.down, argsTo, cellPut_some, Nat.reduceEqDiff, reduceIte, Nat.reduceLT, Nat.reduceAdd, Nat.reduceMul, Nat.reduceLeDiff, hn8]) (fun hx => by cases hx) (fun _ => ?_)
    refine seq_seq ?_
    refine seq_reg fun K1 hn hp => ?_
    simp only [sy.down, argsTo, cellPut_some, Nat.reduceEqDiff, reduceIte, Nat.reduceLT, Nat.reduceAdd, Nat.reduceMul, Nat.reduceLeDiff, g1, g2, g6, g7, d00, q06]
    refine callA_func (sok xt) (rholds_c xt _ s ha8 v L hv8 hll (by rw [hll, g.le]) fun m9 hm9 => ?_)
    simp only [Hp.up_n] at hm9
    simp only [sy.down, argsTo, cellPut_some, Nat.reduceEqDiff, reduceIte, Nat.reduceLT, Nat.reduceAdd, Nat.reduceMul, Nat.reduceLeDiff, Hp.up_up, neq4, beq_self_eq_true]
    refine hn _ _ ?_
    clear hn hp K1
    refine seq_cond false (by simp only [sy.down, argsTo, cellPut_some, Nat.reduceEqDiff, reduceIte, Nat.reduceLT, Nat.reduceAdd, Nat.reduceMul, Nat.reduceLeDiff]) (fun hx => by cases hx) (fun _ => ?_)
    refine seq_skip ?_
    exact tail m9 _ (by omega) (by simp [T.get_put, g1]) (by simp [T.get_put, g2]) (by simp [T.get_put, g8]) (by simp [T.get_put, g9]) (by simp [T.get_put, g10]) (by simp [T.get_put, g11])
end Go.Proofs.Kn
/-
  Arguments, read: slices of plain things, structs; a law, run from an empty table of names.
-/
noncomputable section
namespace Go.Ev
open Go Go.RowKit
section
variable {H : Type} {enc : TypeId × Value → H} {P : Program} {w : World} {base : Nat} {sp : Nat → Bool} {held : Bool}
theorem cells?_at {a : Addr} {n : Nat} {cs : List Value} (h : w.cells? base a n = some cs) : cs.length = n ∧ ∀ (j : Nat) (u : Value), cs[j]? = some u → w.cell? (a.add j) = some u := by
  unfold World.cells? at h
  split at h
  · have hl := mapM_some_length h
    simp only [List.length_range] at hl
    refine ⟨hl, fun j u hu => ?_⟩
    have hj := (List.getElem?_eq_some_iff.1 hu).1
    have hjn : j < n := by omega
    have := mapM_some_get h j j (by rw [List.getElem?_range hjn])
    rw [hu] at this
    exact this
  · cases h
theorem read_slice {α : Type} [Inhabited α] (f : α → List Value) {sz : Nat} {t e : TypeId} {fuel : Nat} {cs : List Value} {x : DataW H × List MemPlace} (ht : P.underlying t = some (.slice e)) (hc : P.cellsOf e = sz) (h0 : 0 < sz) (h : DataW.trod enc P w base sp held fuel t cs = some x)
    (hf : ∀ a, (f a).length = sz) (hdec : ∀ (n : Nat) (c : List Value) (y : DataW H × List MemPlace), DataW.trod enc P w base sp held n e c = some y → ∃ a, c = f a) (h' : Hp) :
    ∃ (v : Value) (l : List α), cs = [v] ∧ l.length ≤ 9223372036854775807 ∧ RowAt w.cell? h' sz (.val v) (l.map f) := by
  rcases DataW.trod_slice ht h with ⟨rfl, _⟩ | ⟨a, len, cap, elems, rest, n, _, rfl, _, _, hlc, hcm, hel, hat, _⟩
  · exact ⟨_, [], rfl, by simp, by simp, h0, .inl ⟨rfl, rfl⟩⟩
  have hx : ∀ i, i < len → ∃ b : α, w.cells? base (a.add (i * sz)) sz = some (f b) := fun i hi => by
    have := hat i hi
    rw [List.getElem?_eq_getElem (by omega)] at this
    obtain ⟨c, h1, h2⟩ := Option.bind_eq_some_iff.1 this
    obtain ⟨b, rfl⟩ := hdec _ _ _ h2
    rw [hc] at h1
    exact ⟨b, h1⟩
  let g : Nat → α := fun i => if hi : i < len then Classical.choose (hx i hi) else default
  have hg : ∀ i, i < len → w.cells? base (a.add (i * sz)) sz = some (f (g i)) := fun i hi => by
    simp only [g, dif_pos hi]
    exact Classical.choose_spec (hx i hi)
  have hm : maxLen = 9223372036854775807 := rfl
  refine ⟨_, (List.range len).map g, rfl, by simp; omega, fun c hc' => ?_, h0, .inr (.inl ⟨a, cap, by simp, fun i c hi j u hu => ?_⟩)⟩
  · simp only [List.map_map, List.mem_map, Function.comp] at hc'
    obtain ⟨i, _, rfl⟩ := hc'
    exact hf _
  · simp only [List.getElem?_map, List.getElem?_range, Option.map_eq_some_iff] at hi
    obtain ⟨b, ⟨k, hk, rfl⟩, rfl⟩ := hi
    have hkl : i < len ∧ k = i := by
      by_cases hil : i < len
      · rw [List.getElem?_range hil] at hk; exact ⟨hil, by simpa using hk.symm⟩
      · rw [List.getElem?_eq_none (by simp; omega)] at hk; cases hk
    obtain ⟨hil, rfl⟩ := hkl
    have := (cells?_at (hg k hil)).2 j u hu
    rw [add_add] at this
    exact this
/-- A struct's field, read. -/
theorem read_field {t ty off : Nat} {fs : Array Field} {fuel : Nat} {cs : List Value} {x : DataW H × List MemPlace} (ht : P.underlying t = some (.struct fs)) (h : DataW.trod enc P w base sp held fuel t cs = some x) (i : Nat) (hf : (fs[i]?).map (fun f => (f.type, f.offset)) = some (ty, off)) :
    ∃ n y, DataW.trod enc P w base sp held n ty ((cs.drop off).take (P.cellsOf ty)) = some y := by
  obtain ⟨xs, n, _, _, _, hlen, hat⟩ := DataW.trod_struct ht h
  cases hfi : fs[i]? with
  | none => rw [hfi] at hf; cases hf
  | some f =>
    rw [hfi] at hf
    simp only [Option.map_some, Option.some.injEq, Prod.mk.injEq] at hf
    obtain ⟨rfl, rfl⟩ := hf
    have hi : i < xs.length := by rw [hlen]; exact (Array.getElem?_eq_some_iff.1 hfi).1
    exact ⟨n, xs[i], by rw [hat i f hfi]; exact List.getElem?_eq_getElem hi⟩
theorem struct_len {t : Nat} {fs : Array Field} {fuel : Nat} {cs : List Value} {x : DataW H × List MemPlace} (ht : P.underlying t = some (.struct fs)) (h : DataW.trod enc P w base sp held fuel t cs = some x) : cs.length = P.cellsOf t := by
  obtain ⟨_, _, _, _, h1, _⟩ := DataW.trod_struct ht h; exact h1
end
def extCtx (w : World) : Ctx := ⟨fun _ => False, fun _ => 0, fun _ => 0, w.cell?⟩
theorem extCtx_good (lim : Nat) (w : World) : Good lim (extCtx w) { t := .e, n := 0 } w :=
  ⟨fun _ _ _ h => h, fun _ _ h => by simp at h, fun _ _ _ _ h => by simp at h, fun _ _ h => ⟨h, fun _ _ h => by simp at h⟩⟩
end Go.Ev
namespace Go.Proofs.Kn
open Go Go.Ev Go.RowKit
/-- A law, run. -/
theorem law_run {f : FuncId} {xs : List AV} {args' : List Value} {w : World} (hc : FnA (SE w.cell?) f xs { t := .e, n := 0 } isTrue) (ha : RL (extCtx w) xs args') :
    Calls Tryz.prog f args'.toArray w fun e w' => e = .returned (.bool true) ∧ Below w.heap.size w w' := by
  obtain ⟨res, h', ⟨n1, _, s1⟩, rfl⟩ := hc
  refine callsIn_wide.1 ((s1 h'.n (Nat.le_refl _) (extCtx w) w args' (extCtx_good _ w) (fun _ _ h => h) ha).mono ?_)
  rintro e w' ⟨c', hst, y, rfl, hy⟩
  refine ⟨?_, ⟨hst.os, hst.tape, hst.output, hst.size, fun k hk => hst.fr k hk (fun _ _ h => by simp at h)⟩⟩
  simp only [R] at hy
  rw [hy]
end Go.Proofs.Kn
end
/-
  The sack that comes in, as it is read.
-/
noncomputable section
namespace Go.Proofs.Kn
open Go Go.Ev Go.RowKit Go.ChangeShapes Go.WideShapes Go.ChangeAt
set_option maxRecDepth 100000
noncomputable def fieldsOf (t : TypeId) : Array Field := match Tryz.prog.underlying t with
  | some (.struct fs) => fs
  | _ => #[]
theorem und3 : Tryz.prog.underlying 3 = some (.int .i64) := by kernel_rfl
theorem und4 : Tryz.prog.underlying 4 = some .bool := by kernel_rfl
theorem und23 : Tryz.prog.underlying 23 = some (.slice 3) := by kernel_rfl
theorem und22 : Tryz.prog.underlying 22 = some (.slice 101) := by kernel_rfl
theorem und25 : Tryz.prog.underlying 25 = some (.struct (fieldsOf 25)) := by kernel_rfl
theorem und101 : Tryz.prog.underlying 101 = some (.struct (fieldsOf 101)) := by kernel_rfl
theorem und36 : Tryz.prog.underlying 36 = some (.struct (fieldsOf 36)) := by kernel_rfl
theorem co3 : Tryz.prog.cellsOf 3 = 1 := by kernel_rfl
theorem co22 : Tryz.prog.cellsOf 22 = 1 := by kernel_rfl
theorem co23 : Tryz.prog.cellsOf 23 = 1 := by kernel_rfl
theorem co25 : Tryz.prog.cellsOf 25 = 5 := by kernel_rfl
theorem co36 : Tryz.prog.cellsOf 36 = 2 := by kernel_rfl
theorem co101 : Tryz.prog.cellsOf 101 = 3 := by kernel_rfl
theorem f25_0 : ((fieldsOf 25)[0]?).map (fun f => (f.type, f.offset)) = some (3, 0) := by kernel_rfl
theorem f25_1 : ((fieldsOf 25)[1]?).map (fun f => (f.type, f.offset)) = some (22, 1) := by kernel_rfl
theorem f25_2 : ((fieldsOf 25)[2]?).map (fun f => (f.type, f.offset)) = some (23, 2) := by kernel_rfl
theorem f25_3 : ((fieldsOf 25)[3]?).map (fun f => (f.type, f.offset)) = some (3, 3) := by kernel_rfl
theorem f25_4 : ((fieldsOf 25)[4]?).map (fun f => (f.type, f.offset)) = some (3, 4) := by kernel_rfl
theorem f101_0 : ((fieldsOf 101)[0]?).map (fun f => (f.type, f.offset)) = some (3, 0) := by kernel_rfl
theorem f101_1 : ((fieldsOf 101)[1]?).map (fun f => (f.type, f.offset)) = some (36, 1) := by kernel_rfl
theorem f36_0 : ((fieldsOf 36)[0]?).map (fun f => (f.type, f.offset)) = some (3, 0) := by kernel_rfl
theorem f36_1 : ((fieldsOf 36)[1]?).map (fun f => (f.type, f.offset)) = some (3, 1) := by kernel_rfl
section
variable {H : Type} {enc : TypeId × Value → H} {w : World} {base : Nat} {sp : Nat → Bool} {held : Bool}
theorem dec_int {n : Nat} {c : List Value} {y : DataW H × List MemPlace} (h : DataW.trod enc Tryz.prog w base sp held n 3 c = some y) : ∃ a : Int, c = c1 a := by
  obtain ⟨k, e1, _⟩ := DataW.trod_int und3 h
  exact ⟨k, e1⟩
theorem dec_span {n : Nat} {c : List Value} {y : DataW H × List MemPlace} (h : DataW.trod enc Tryz.prog w base sp held n 36 c = some y) : ∃ a b : Int, c = [.int .i64 a, .int .i64 b] := by
  have hl := struct_len und36 h
  rw [co36] at hl
  obtain ⟨_, _, h0⟩ := read_field und36 h 0 f36_0
  obtain ⟨_, _, h1⟩ := read_field und36 h 1 f36_1
  obtain ⟨a, e0⟩ := dec_int h0
  obtain ⟨b, e1⟩ := dec_int h1
  rw [co3] at e0 e1
  match c, hl with
  | [x, y], _ =>
    simp [c1] at e0 e1
    exact ⟨a, b, by simp [e0, e1]⟩
theorem dec_sort {n : Nat} {c : List Value} {y : DataW H × List MemPlace} (h : DataW.trod enc Tryz.prog w base sp held n 101 c = some y) : ∃ a : Int × Int × Int, c = c3 a := by
  have hl := struct_len und101 h
  rw [co101] at hl
  obtain ⟨_, _, h0⟩ := read_field und101 h 0 f101_0
  obtain ⟨_, _, h1⟩ := read_field und101 h 1 f101_1
  obtain ⟨a, e0⟩ := dec_int h0
  obtain ⟨b, d, e1⟩ := dec_span h1
  rw [co3] at e0
  rw [co36] at e1
  match c, hl with
  | [x, y, z], _ =>
    simp [c1] at e0 e1
    exact ⟨(a, b, d), by simp [c3, e0, e1]⟩
theorem read_ints {t : Value} {d : DataW H} {ps : List MemPlace} {r : Reach} {b0 : Nat} (hval : Value.okWide Tryz.prog w r b0 23 t) (hd : DataW.Trod enc Tryz.prog w base sp held 23 t d ps) (h' : Hp) :
    ∃ l : List Int, l.length ≤ 9223372036854775807 ∧ RowAt w.cell? h' 1 (.val t) (l.map c1) := by
  obtain ⟨a, len, cap, rfl⟩ := okWide_slice und23 hval
  obtain ⟨fuel, hf⟩ := hd
  obtain ⟨v, l, e, hl, hr⟩ := read_slice c1 und23 co3 (by omega) hf (fun _ => rfl) (fun _ _ _ h => dec_int h) h'
  simp [Value.cells] at e
  subst e
  exact ⟨l, hl, hr⟩
theorem read_sack {t : Value} {d : DataW H} {ps : List MemPlace} {r : Reach} {b0 : Nat} (hval : Value.okWide Tryz.prog w r b0 25 t) (hd : DataW.Trod enc Tryz.prog w base sp held 25 t d ps) (h' : Hp) :
    ∃ s : Sk, s.At w.cell? h' ∧ ∀ c, R c s.av t := by
  obtain ⟨cs, rfl⟩ : ∃ cs, t = .agg cs := by
    unfold Value.okWide at hval
    rw [und25] at hval
    obtain ⟨cs, rfl, _⟩ := hval
    exact ⟨cs, rfl⟩
  obtain ⟨fuel, hf⟩ := hd
  change DataW.trod enc Tryz.prog w base sp held fuel 25 cs.toList = _ at hf
  have hl := struct_len und25 hf
  rw [co25] at hl
  obtain ⟨_, _, h0⟩ := read_field und25 hf 0 f25_0
  obtain ⟨_, _, h1⟩ := read_field und25 hf 1 f25_1
  obtain ⟨_, _, h2⟩ := read_field und25 hf 2 f25_2
  obtain ⟨_, _, h3⟩ := read_field und25 hf 3 f25_3
  obtain ⟨_, _, h4⟩ := read_field und25 hf 4 f25_4
  obtain ⟨a, e0⟩ := dec_int h0
  obtain ⟨v1, l1, e1, hl1, hr1⟩ := read_slice c3 und22 co101 (by omega) h1 (fun _ => rfl) (fun _ _ _ h => dec_sort h) h'
  obtain ⟨v2, l2, e2, hl2, hr2⟩ := read_slice c1 und23 co3 (by omega) h2 (fun _ => rfl) (fun _ _ _ h => dec_int h) h'
  obtain ⟨b, e3⟩ := dec_int h3
  obtain ⟨c, e4⟩ := dec_int h4
  rw [co3] at e0 e3 e4
  rw [co22] at e1
  rw [co23] at e2
  refine ⟨{ sh := a, vs := .val v1, ve := .val v2, wt := b, off := c, sorts := l1, seen := l2 }, ⟨hr1, hr2, hl1, hl2⟩, fun cx => ?_⟩
  have hcs : cs.toList = [.int .i64 a, v1, v2, .int .i64 b, .int .i64 c] := by
    match hq : cs.toList, hl with
    | [x0, x1, x2, x3, x4], _ =>
      rw [hq] at e0 e1 e2 e3 e4
      simp [c1] at e0 e1 e2 e3 e4
      simp [e0, e1, e2, e3, e4]
  have : cs = [.int .i64 a, v1, v2, .int .i64 b, .int .i64 c].toArray := by apply Array.ext'; simpa using hcs
  subst this
  simp only [Sk.av, Sk.cells, R]
  exact ⟨_, rfl, by simp [RL, R]⟩
end
theorem kids : Kids Tryz.prog (· < Tryz.prog.types.size) := kids_rows (by kernel_rfl) (by kernel_rfl)
theorem full : ∀ t e, t < Tryz.prog.types.size → Tryz.prog.underlying t = some (.slice e) → 0 < Tryz.prog.cellsOf e := slices_full_of _ (by kernel_rfl)
theorem ownK : ownKnob Tryz.prog.godebug = none := by kernel_rfl
end Go.Proofs.Kn
end
