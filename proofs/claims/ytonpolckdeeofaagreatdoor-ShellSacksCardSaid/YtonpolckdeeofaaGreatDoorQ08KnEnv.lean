/-
  What the evaluator is handed for this program, and that it is rightly handed.
-/
import Derived.Test.YtonpolckdeeofaaGreatDoorQ01
import Derived.Test.YtonpolckdeeofaaGreatDoorQ03KnTab
import Derived.Test.YtonpolckdeeofaaGreatDoorQ07
noncomputable section
namespace Go.Proofs.Kn
open Go Go.Ev

theorem mkDfr_is {P : Program} {f : Nat} {fn fng : Func} {D : Dfr} (h : mkDfr fn fng = some D) (hf : P.funcs[f]? = some fn) (hg : P.funcs[D.g]? = some fng) (n1 : (fn.name == "runtime.NumGoroutine") = false) (n2 : (fng.name == "runtime.NumGoroutine") = false) : IsDfr P f D := by
  have toE : ∀ {α : Type} {xs : Array α} {l : List α}, xs.toList = l → xs = l.toArray := fun h => by apply Array.ext'; simpa using h
  unfold mkDfr at h
  split at h
  · rename_i a id ops c idr opr rest hb hgb
    split at h
    · rename_i o1 o2 orr hops hopr
      split at h
      · rename_i g first caps d q e1 e2 e3 e4 e5 e6
        split at h
        · rename_i d' qr rd f1 f2 f3 f4 f5 f6 f7
          split at h
          · rename_i r1 r2 r3 r4
            replace h := cond_some h
            obtain ⟨hdd, h⟩ := h
            cases h
            have := Nat.eq_of_beq_eq_true hdd; subst this
            obtain ⟨qc, qa, qt⟩ := q
            obtain ⟨rc, ra, rt⟩ := qr
            simp only at f2 f3 f4 r1 r2 r3
            subst f2; subst r1
            rw [toE f1] at e1
            rw [toE f3, toE f4] at e4
            rw [toE r2, toE r3] at f5
            refine ⟨hf, ?_, n1, ⟨e1, e2, e3⟩, ⟨e4, e5, e6⟩, hg, ?_, n2, ⟨f5, f6, f7⟩, ?_⟩
            · show fn.body = _
              rw [hb, toE hops]
            · show fng.body = _
              rw [hgb, toE hopr]
            · exact toE r4
          · cases h
        · cases h
      · cases h
    · cases h
  · cases h
noncomputable def dfrOf (o : Option Dfr) : Dfr :=
  match o with
  | some D => D
  | none => { a := .skip, id := 0, o1 := ⟨none, .move (.tmp 0), 0, "", #[], none⟩, o2 := ⟨none, .move (.tmp 0), 0, "", #[], none⟩, g := 0, d := 0, caps := #[], c := .skip, idr := 0, orr := ⟨none, .move (.tmp 0), 0, "", #[], none⟩, rd := 0, rest := .skip, fn := Tryz.f78, fng := Tryz.f78 }
noncomputable def D78 : Dfr := dfrOf (mkDfr Tryz.f78 Tryz.f121)
theorem d78_is : IsDfr Tryz.prog 78 D78 := mkDfr_is (fn := Tryz.f78) (fng := Tryz.f121) (by kernel_rfl) Tryz.func78 Tryz.func121 (by kernel_rfl) (by kernel_rfl)
theorem isCount : IsExt Tryz.prog 196 Extern.BytealgCount.count := ⟨Tryz.f196, Tryz.func196, by kernel_rfl, by kernel_rfl, by kernel_rfl, by kernel_rfl⟩
theorem isIndex : IsExt Tryz.prog 208 Extern.BytealgIndexByte.indexByte := ⟨Tryz.f208, Tryz.func208, by kernel_rfl, by kernel_rfl, by kernel_rfl, by kernel_rfl⟩
theorem isJoin : IsJoin Tryz.prog 167 := ⟨⟨Tryz.f167, Tryz.func167, by kernel_rfl, by kernel_rfl⟩, fun bk o c xs sep w h1 h2 h3 h4 h5 => Tryz.strings_Join bk o c xs sep w h1 h2 h3 h4 h5⟩

section
variable (xt : Addr → Option Value)
noncomputable def E0 : Env := { P := Tryz.prog, tb := tb, xt := xt, ft := ft, nat := fun _ _ _ _ => none, drw := fun _ _ _ _ _ => none }
noncomputable def ED : Env := { P := Tryz.prog, tb := tb, xt := xt, ft := ft, nat := fun _ _ _ _ => none, drw := evDrawP Tryz.prog tb xt }
noncomputable def natF (call : CallF) (f : Nat) (args : List AV) (h : Hp) : Option (CR × Hp) :=
  bif Nat.beq f 78 then evDfr (ED xt) (codeWith (ED xt) 100000 call 300) (ev (ED xt) 100 60).code D78 args h
  else bif Nat.beq f 167 then (match args with
    | [a, b] => (match b with
      | .val (.string sep) => evJoin h a sep
      | _ => none)
    | _ => none)
  else bif Nat.beq f 196 then (match args with
    | [a, b] => (match a, b with
      | .val (.string s), .val (.int .u8 n) => some (.ret (.val (.int .i64 (Lib.countByte s.data.toList n.toNat.toUInt8))), h)
      | _, _ => none)
    | _ => none)
  else bif Nat.beq f 208 then (match args with
    | [a, b] => (match a, b with
      | .val (.string s), .val (.int .u8 n) => some (.ret (.val (.int .i64 (Lib.indexByte s.data.toList n.toNat.toUInt8))), h)
      | _, _ => none)
    | _ => none)
  else none
noncomputable def nat0 (call : CallF) : CallF := fun fv args h =>
  match fv with
  | .val (.func (.func f) first captured) => (match first.toList, captured.toList with
    | [], [] => natF xt call f args h
    | _, _ => none)
  | _ => none
noncomputable def E : Env := { P := Tryz.prog, tb := tb, xt := xt, ft := ft, nat := nat0 xt, drw := evDrawP Tryz.prog tb xt }
end

theorem ftok (xt : Addr → Option Value) : FtOk (E xt) := fun f fn h => T.All.of ft_all f fn h
theorem ftok0 (xt : Addr → Option Value) : FtOk (E0 xt) := fun f fn h => T.All.of ft_all f fn h
theorem soundD0 (xt : Addr → Option Value) : SoundD (ED xt) := fun call hs nt ops tm h x tm' h' he => evDrawP_ok tb_ok mixed hs he
theorem code0_ok (xt : Addr → Option Value) : SoundC (ED xt) (ev (ED xt) 100 60).code := (ev_ok (E := ED xt) (ftok0 xt) tb_ok (fun _ _ _ _ _ _ _ h => by cases h) (soundD0 xt) 100 60).1

theorem natF_ok (xt : Addr → Option Value) {call : CallF} (hs : Sound Tryz.prog xt call) {f : Nat} {args : List AV} {h h' : Hp} {res : CR} (he : natF xt call f args h = some (res, h')) :
    h.n ≤ h'.n ∧ ∀ lim, h'.n ≤ lim → SCall Tryz.prog xt lim (.val (.func (.func f) #[] #[])) args h res h' := by
  unfold natF at he
  cases h1 : Nat.beq f 78 with
  | true =>
    rw [h1] at he
    have := Nat.eq_of_beq_eq_true h1; subst this
    simp only [cond_true] at he
    obtain ⟨n1, s1⟩ := dfr_ok (E := ED xt) tb_ok (codeWith_ok (E := ED xt) (ftok0 xt) tb_ok (soundD0 xt) hs 300) (code0_ok xt) d78_is he
    refine ⟨n1, fun lim hl c w fv' args' g hxt hf ha => ?_⟩
    simp only [R] at hf
    subst hf
    refine ⟨_, rfl, .inl ⟨78, args'.toArray, ?_, s1 lim hl c w args' g hxt ha⟩⟩
    show (callFunc 78 ((#[] ++ args'.toArray) ++ #[])).run Tryz.prog w = _
    have hbd : D78.fn.body.isNone = false := by rw [d78_is.fb]; rfl
    simp only [callFunc, Sem.run_bind, run_program, Result.andThen_ok, d78_is.f, d78_is.fnm, hbd, Bool.false_eq_true, if_false, Sem.run_pure]
    simp
  | false =>
    rw [h1] at he
    simp only [cond_false] at he
    cases h2 : Nat.beq f 167 with
    | true =>
      rw [h2] at he
      have := Nat.eq_of_beq_eq_true h2; subst this
      simp only [cond_true] at he
      split at he
      · split at he
        · obtain ⟨rfl, _⟩ := join_ok (xt := xt) isJoin he 0
          exact ⟨Nat.le_refl _, fun lim hl => (join_ok isJoin he lim).2⟩
        · cases he
      · cases he
    | false =>
      rw [h2] at he
      simp only [cond_false] at he
      cases h3 : Nat.beq f 196 with
      | true =>
        rw [h3] at he
        have := Nat.eq_of_beq_eq_true h3; subst this
        simp only [cond_true] at he
        split at he
        · split at he
          · rename_i s n
            cases he
            exact ⟨Nat.le_refl _, fun lim hl => ext_ok (vs := [.string s, .int .u8 n]) isCount (fun w => Lib.run_countString s n w) lim h⟩
          · cases he
        · cases he
      | false =>
        rw [h3] at he
        simp only [cond_false] at he
        cases h4 : Nat.beq f 208 with
        | true =>
          rw [h4] at he
          have := Nat.eq_of_beq_eq_true h4; subst this
          simp only [cond_true] at he
          split at he
          · split at he
            · rename_i s n
              cases he
              exact ⟨Nat.le_refl _, fun lim hl => ext_ok (vs := [.string s, .int .u8 n]) isIndex (fun w => Lib.run_indexByteString s n w) lim h⟩
            · cases he
          · cases he
        | false =>
          rw [h4] at he
          cases he

theorem soundN (xt : Addr → Option Value) : SoundN (E xt) := by
  intro call hs fv args h res h' he
  change nat0 xt call fv args h = some (res, h') at he
  unfold nat0 at he
  split at he
  · rename_i f first captured
    split at he
    · rename_i h1 h2
      have e1 : first = #[] := by apply Array.ext'; exact h1
      have e2 : captured = #[] := by apply Array.ext'; exact h2
      subst e1; subst e2
      exact natF_ok xt hs he
    · cases he
  · cases he

theorem soundD (xt : Addr → Option Value) : SoundD (E xt) := fun call hs nt ops tm h x tm' h' he => evDrawP_ok tb_ok mixed hs he

theorem ev_sound (xt : Addr → Option Value) (m n : Nat) : SoundC (E xt) (ev (E xt) m n).code ∧ Sound Tryz.prog xt (ev (E xt) m n).call := ev_ok (E := E xt) (ftok xt) tb_ok (soundN xt) (soundD xt) m n
end Go.Proofs.Kn
end
