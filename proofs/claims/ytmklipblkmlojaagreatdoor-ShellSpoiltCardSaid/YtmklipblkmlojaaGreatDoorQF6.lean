/- Parts of the proof, joined by a program. -/
import Derived.Test.YtmklipblkmlojaaGreatDoorQF5
import Derived.Test.YtmklipblkmlojaaGreatDoorQF4
set_option linter.all false
namespace Go.Proofs.Kn
open Go Go.Ev
set_option maxRecDepth 100000
set_option maxHeartbeats 4000000
theorem ft7s (xt:Addr->Option Value):(SE xt).ft.get 7=some Tryz.f7:=by kernel_rfl
theorem qBU (xt:Addr->Option Value) (h:Hp) {K:CR->Hp->Prop} (hk: ∀n,h.n<n->K (.ret (.val (.bool true))) (h.up n)):FnA (SE xt) 7 [] h K:=by
 refine FnA.calm (v:= .ret (.val (.bool true))) ⟨_,h,⟨Nat.le_refl _,⟨_,ft7s xt,rfl⟩,fun lim _ c w args' g hxt ha=> ?_⟩,rfl,Fr.refl (Nat.le_refl _)⟩ hk;have:args'=[]:=by simpa [Go.Ev.RL] using ha
 subst this;refine (callsIn_wide.2 (known_ok w)).mono fun e w' ⟨h1,h2⟩=>⟨c,Stp.below g h2,_,h1,by simp only [R]⟩
def uQ (r:CR) (_:Hp):Prop:=r= .ret (.val (.bool true))
theorem ey00:decide ((0:Int)=0)=true:=by decide
theorem ey44:decide ((4:Int)=4)=true:=by decide
end Go.Proofs.Kn
namespace Go.Proofs.Kn
open Go Go.Ev
set_option maxRecDepth 100000
set_option maxHeartbeats 4000000
def zM:Mp:=⟨jU,jU,jU,jU,[],0,0,[],[],[]⟩
theorem zM_at (xt:Addr->Option Value) (h:Hp):zM.At xt h:=
 ⟨.inl ⟨[],⟨by simp,Nat.one_pos,.inl ⟨rfl,rfl⟩⟩,rfl,fun i l hl=>by simp [zM] at hl⟩,⟨by simp [zM],by omega,.inl ⟨rfl,rfl⟩⟩,⟨by simp [zM],by omega,.inl ⟨rfl,rfl⟩⟩,⟨by simp [zM],by omega,.inl ⟨rfl,rfl⟩⟩,by simp [zM],by simp [zM],by simp [zM],by simp [zM],by simp [zM]⟩
end Go.Proofs.Kn
