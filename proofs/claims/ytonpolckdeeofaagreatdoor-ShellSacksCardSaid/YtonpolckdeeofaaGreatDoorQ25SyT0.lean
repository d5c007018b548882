/-
  The sack that comes in, as it is read.
-/
import Derived.Test.YtonpolckdeeofaaGreatDoorQ24
noncomputable section
namespace Go.Proofs.Kn
open Go Go.Ev Go.RowKit Go.ChangeShapes Go.WideShapes Go.ChangeAt
set_option maxRecDepth 100000
noncomputable def fieldsOf (t : TypeId) : Array Field := match Tryz.prog.underlying t with
  | some (.struct fs) => fs
  | _ => #[]
theorem und3 : Tryz.prog.underlying 3 = some (.int .i64) := by kernel_rfl
theorem und4 : Tryz.prog.underlying 4 = some .bool := by kernel_rfl
theorem und23 : Tryz.prog.underlying 23 = some (.slice 3) := by kernel_rfl
theorem und22 : Tryz.prog.underlying 22 = some (.slice 101) := by kernel_rfl
theorem und25 : Tryz.prog.underlying 25 = some (.struct (fieldsOf 25)) := by kernel_rfl
theorem und101 : Tryz.prog.underlying 101 = some (.struct (fieldsOf 101)) := by kernel_rfl
theorem und36 : Tryz.prog.underlying 36 = some (.struct (fieldsOf 36)) := by kernel_rfl
theorem co3 : Tryz.prog.cellsOf 3 = 1 := by kernel_rfl
theorem co22 : Tryz.prog.cellsOf 22 = 1 := by kernel_rfl
theorem co23 : Tryz.prog.cellsOf 23 = 1 := by kernel_rfl
theorem co25 : Tryz.prog.cellsOf 25 = 5 := by kernel_rfl
theorem co36 : Tryz.prog.cellsOf 36 = 2 := by kernel_rfl
theorem co101 : Tryz.prog.cellsOf 101 = 3 := by kernel_rfl
theorem f25_0 : ((fieldsOf 25)[0]?).map (fun f => (f.type, f.offset)) = some (3, 0) := by kernel_rfl
theorem f25_1 : ((fieldsOf 25)[1]?).map (fun f => (f.type, f.offset)) = some (22, 1) := by kernel_rfl
theorem f25_2 : ((fieldsOf 25)[2]?).map (fun f => (f.type, f.offset)) = some (23, 2) := by kernel_rfl
theorem f25_3 : ((fieldsOf 25)[3]?).map (fun f => (f.type, f.offset)) = some (3, 3) := by kernel_rfl
theorem f25_4 : ((fieldsOf 25)[4]?).map (fun f => (f.type, f.offset)) = some (3, 4) := by kernel_rfl
theorem f101_0 : ((fieldsOf 101)[0]?).map (fun f => (f.type, f.offset)) = some (3, 0) := by kernel_rfl
theorem f101_1 : ((fieldsOf 101)[1]?).map (fun f => (f.type, f.offset)) = some (36, 1) := by kernel_rfl
theorem f36_0 : ((fieldsOf 36)[0]?).map (fun f => (f.type, f.offset)) = some (3, 0) := by kernel_rfl
theorem f36_1 : ((fieldsOf 36)[1]?).map (fun f => (f.type, f.offset)) = some (3, 1) := by kernel_rfl
section
variable {H : Type} {enc : TypeId × Value → H} {w : World} {base : Nat} {sp : Nat → Bool} {held : Bool}
theorem dec_int {n : Nat} {c : List Value} {y : DataW H × List MemPlace} (h : DataW.trod enc Tryz.prog w base sp held n 3 c = some y) : ∃ a : Int, c = c1 a := by
  obtain ⟨k, e1, _⟩ := DataW.trod_int und3 h
  exact ⟨k, e1⟩
theorem dec_span {n : Nat} {c : List Value} {y : DataW H × List MemPlace} (h : DataW.trod enc Tryz.prog w base sp held n 36 c = some y) : ∃ a b : Int, c = [.int .i64 a, .int .i64 b] := by
  have hl := struct_len und36 h
  rw [co36] at hl
  obtain ⟨_, _, h0⟩ := read_field und36 h 0 f36_0
  obtain ⟨_, _, h1⟩ := read_field und36 h 1 f36_1
  obtain ⟨a, e0⟩ := dec_int h0
  obtain ⟨b, e1⟩ := dec_int h1
  rw [co3] at e0 e1
  match c, hl with
  | [x, y], _ =>
    simp [c1] at e0 e1
    exact ⟨a, b, by simp [e0, e1]⟩
theorem dec_sort {n : Nat} {c : List Value} {y : DataW H × List MemPlace} (h : DataW.trod enc Tryz.prog w base sp held n 101 c = some y) : ∃ a : Int × Int × Int, c = c3 a := by
  have hl := struct_len und101 h
  rw [co101] at hl
  obtain ⟨_, _, h0⟩ := read_field und101 h 0 f101_0
  obtain ⟨_, _, h1⟩ := read_field und101 h 1 f101_1
  obtain ⟨a, e0⟩ := dec_int h0
  obtain ⟨b, d, e1⟩ := dec_span h1
  rw [co3] at e0
  rw [co36] at e1
  match c, hl with
  | [x, y, z], _ =>
    simp [c1] at e0 e1
    exact ⟨(a, b, d), by simp [c3, e0, e1]⟩
theorem read_ints {t : Value} {d : DataW H} {ps : List MemPlace} {r : Reach} {b0 : Nat} (hval : Value.okWide Tryz.prog w r b0 23 t) (hd : DataW.Trod enc Tryz.prog w base sp held 23 t d ps) (h' : Hp) :
    ∃ l : List Int, l.length ≤ 9223372036854775807 ∧ RowAt w.cell? h' 1 (.val t) (l.map c1) := by
  obtain ⟨a, len, cap, rfl⟩ := okWide_slice und23 hval
  obtain ⟨fuel, hf⟩ := hd
  obtain ⟨v, l, e, hl, hr⟩ := read_slice c1 und23 co3 (by omega) hf (fun _ => rfl) (fun _ _ _ h => dec_int h) h'
  simp [Value.cells] at e
  subst e
  exact ⟨l, hl, hr⟩
theorem read_sack {t : Value} {d : DataW H} {ps : List MemPlace} {r : Reach} {b0 : Nat} (hval : Value.okWide Tryz.prog w r b0 25 t) (hd : DataW.Trod enc Tryz.prog w base sp held 25 t d ps) (h' : Hp) :
    ∃ s : Sk, s.At w.cell? h' ∧ ∀ c, R c s.av t := by
  obtain ⟨cs, rfl⟩ : ∃ cs, t = .agg cs := by
    unfold Value.okWide at hval
    rw [und25] at hval
    obtain ⟨cs, rfl, _⟩ := hval
    exact ⟨cs, rfl⟩
  obtain ⟨fuel, hf⟩ := hd
  change DataW.trod enc Tryz.prog w base sp held fuel 25 cs.toList = _ at hf
  have hl := struct_len und25 hf
  rw [co25] at hl
  obtain ⟨_, _, h0⟩ := read_field und25 hf 0 f25_0
  obtain ⟨_, _, h1⟩ := read_field und25 hf 1 f25_1
  obtain ⟨_, _, h2⟩ := read_field und25 hf 2 f25_2
  obtain ⟨_, _, h3⟩ := read_field und25 hf 3 f25_3
  obtain ⟨_, _, h4⟩ := read_field und25 hf 4 f25_4
  obtain ⟨a, e0⟩ := dec_int h0
  obtain ⟨v1, l1, e1, hl1, hr1⟩ := read_slice c3 und22 co101 (by omega) h1 (fun _ => rfl) (fun _ _ _ h => dec_sort h) h'
  obtain ⟨v2, l2, e2, hl2, hr2⟩ := read_slice c1 und23 co3 (by omega) h2 (fun _ => rfl) (fun _ _ _ h => dec_int h) h'
  obtain ⟨b, e3⟩ := dec_int h3
  obtain ⟨c, e4⟩ := dec_int h4
  rw [co3] at e0 e3 e4
  rw [co22] at e1
  rw [co23] at e2
  refine ⟨{ sh := a, vs := .val v1, ve := .val v2, wt := b, off := c, sorts := l1, seen := l2 }, ⟨hr1, hr2, hl1, hl2⟩, fun cx => ?_⟩
  have hcs : cs.toList = [.int .i64 a, v1, v2, .int .i64 b, .int .i64 c] := by
    match hq : cs.toList, hl with
    | [x0, x1, x2, x3, x4], _ =>
      rw [hq] at e0 e1 e2 e3 e4
      simp [c1] at e0 e1 e2 e3 e4
      simp [e0, e1, e2, e3, e4]
  have : cs = [.int .i64 a, v1, v2, .int .i64 b, .int .i64 c].toArray := by apply Array.ext'; simpa using hcs
  subst this
  simp only [Sk.av, Sk.cells, R]
  exact ⟨_, rfl, by simp [RL, R]⟩
end
theorem kids : Kids Tryz.prog (· < Tryz.prog.types.size) := kids_rows (by kernel_rfl) (by kernel_rfl)
theorem full : ∀ t e, t < Tryz.prog.types.size → Tryz.prog.underlying t = some (.slice e) → 0 < Tryz.prog.cellsOf e := slices_full_of _ (by kernel_rfl)
theorem ownK : ownKnob Tryz.prog.godebug = none := by kernel_rfl
end Go.Proofs.Kn
end
