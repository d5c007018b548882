/- MvU1, MvN9: texts in a row, joined by a program. -/
import Derived.Test.YtnmfblokfponlaaGreatDoorQY1
import Derived.Test.YtnmfblokfponlaaGreatDoorQN1
import Derived.Test.YtnmfblokfponlaaGreatDoorQN2
set_option linter.all false
noncomputable section
namespace Go.Proofs.Kn
open Go Go.Ev Go.RowKit Go.ChangeShapes Go.WideShapes Go.ChangeAt
set_option maxRecDepth 100000
section
variable {H:Type} {enc:TypeId×Value->H} {w:World} {base:Nat} {sp:Nat->Bool} {held:Bool}
theorem read_cuts {t:Value} {d:DataW H} {ps:List MemPlace} {r:Reach} {b0:Nat} (hval:Value.okWide Tryz.prog w r b0 33 t) (hd:DataW.Trod enc Tryz.prog w base sp held 33 t d ps) (h':Hp):
  ∃l:List (Int×Int×Int),Cuts w.cell? h' (.val t) l:=by
 obtain ⟨l,h1,h2⟩:=read_cut hval hd h';refine ⟨l,h1,h2,?_⟩;obtain ⟨a,len,cap,rfl⟩:=okWide_slice und33 hval;obtain ⟨fuel,hf⟩:=hd;rcases DataW.trod_slice und33 hf with ⟨e,_⟩|⟨a',len',cap',elems,rest,n,_,e,_,_,hlc,hcm,_⟩
 ·simp [Value.cells] at e;obtain ⟨rfl,rfl,rfl⟩:=e;intro ad n c e;cases e;exact Nat.le_refl _
 ·simp [Value.cells] at e;obtain ⟨rfl,rfl,rfl⟩:=e;intro ad n c e;cases e;exact hlc
end
end Go.Proofs.Kn
end
namespace Go.Proofs.Kn
open Go Go.Ev
set_option maxRecDepth 100000
set_option maxHeartbeats 4000000
end Go.Proofs.Kn
