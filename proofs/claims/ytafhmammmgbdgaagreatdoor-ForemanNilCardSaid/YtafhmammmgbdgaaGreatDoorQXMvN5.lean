/- Parts of the proof, joined by a program. -/
import Derived.Test.YtafhmammmgbdgaaGreatDoorQN
import Derived.Test.YtafhmammmgbdgaaGreatDoorQT
import Derived.Test.YtafhmammmgbdgaaGreatDoorQK
import Derived.Test.YtafhmammmgbdgaaGreatDoorQKk
set_option linter.all false
namespace Go.Proofs.Kn
open Go Go.Ev
set_option maxRecDepth 100000
theorem ft6s (xt : Addr → Option Value) : (SE xt).ft.get 6 = some Tryz.f6 := by kernel_rfl
theorem known_c (xt : Addr → Option Value) (hx : Lx xt) (h : Hp) {K : CR → Hp → Prop} (hk : ∀ n, h.n < n → K (.ret (.val (.bool true))) (h.up n)) : FnA (SE xt) 6 [] h K := by
  refine FnA.calm (v := .ret (.val (.bool true))) ⟨_, h, ⟨Nat.le_refl _, ⟨_, ft6s xt, rfl⟩, fun lim _ c w args' g hxt ha => ?_⟩, rfl, Fr.refl (Nat.le_refl _)⟩ hk
  have : args' = [] := by simpa [Go.Ev.RL] using ha
  subst this
  refine (callsIn_wide.2 (known_ok w fun a v e => (g.ext a v (hxt a v (hx.p a v e))).1)).mono fun e w' ⟨h1, h2⟩ => ⟨c, Stp.below g h2, _, h1, by simp only [R]⟩
theorem nil_true (xt : Addr → Option Value) (hx : Lx xt) (h : Hp) (k1 : Int) (s1 : Value) (l1 : List Int) (a1 : KnAt xt h k1 s1 l1) (k2 : Int) (s2 : Value) (l2 : List Int) (a2 : KnAt xt h k2 s2 l2) : FnA (SE xt) 3 [knV k1 s1, knV k2 s2] h isTrue := by
  obtain ⟨p1, n1, c1, rfl⟩ := a1.slice
  obtain ⟨p2, n2, c2, rfl⟩ := a2.slice
  exact nil_w xt (fun h _ hk => known_c xt hx h hk) h k1 p1 n1 c1 k2 p2 n2 c2
end Go.Proofs.Kn
