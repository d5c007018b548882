/-
  The environment of this program for values that are not known.
-/
import Derived.Test.YtonpolckdeeofaaGreatDoorQ02
import Derived.Test.YtonpolckdeeofaaGreatDoorQ03KnTab
namespace Go.Proofs.Kn
open Go Go.Ev
noncomputable def SE (xt : Addr → Option Value) : Env := { P := Tryz.prog, tb := tb, xt := xt, ft := ft, nat := fun _ _ _ _ => none, drw := fun _ _ _ _ _ => none }
theorem SE_P (xt : Addr → Option Value) : (SE xt).P = Tryz.prog := rfl
theorem SE_tb (xt : Addr → Option Value) : (SE xt).tb = tb := rfl
theorem SE_xt (xt : Addr → Option Value) : (SE xt).xt = xt := rfl
theorem sok (xt : Addr → Option Value) : SyOk (SE xt) := ⟨fun f fn h => T.All.of ft_all f fn h, tb_ok, mixed⟩
end Go.Proofs.Kn
