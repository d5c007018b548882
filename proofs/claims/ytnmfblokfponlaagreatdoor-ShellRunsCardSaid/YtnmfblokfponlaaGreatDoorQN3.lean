/- MvU1, MvN9: texts in a row, joined by a program. -/
import Derived.Test.YtnmfblokfponlaaGreatDoorQY1
import Derived.Test.YtnmfblokfponlaaGreatDoorQN1
import Derived.Test.YtnmfblokfponlaaGreatDoorQN2
set_option linter.all false
noncomputable section
namespace Go.Proofs.Kn
open Go Go.Ev Go.RowKit Go.ChangeShapes Go.WideShapes Go.ChangeAt
set_option maxRecDepth 100000
section
variable {H:Type} {enc:TypeId×Value→H} {w:World} {base:Nat} {sp:Nat→Bool} {held:Bool}
theorem read_cuts {t:Value} {d:DataW H} {ps:List MemPlace} {r:Reach} {b0:Nat} (hval:Value.okWide Tryz.prog w r b0 33 t) (hd:DataW.Trod enc Tryz.prog w base sp held 33 t d ps) (h':Hp):
  ∃l:List (Int×Int×Int),Cuts w.cell? h' (.val t) l:=by
 obtain ⟨l,h1,h2⟩:=read_cut hval hd h';refine ⟨l,h1,h2,?_⟩;obtain ⟨a,len,cap,rfl⟩:=okWide_slice und33 hval;obtain ⟨fuel,hf⟩:=hd;rcases DataW.trod_slice und33 hf with ⟨e,_⟩|⟨a',len',cap',elems,rest,n,_,e,_,_,hlc,hcm,_⟩
 ·simp [Value.cells] at e;obtain ⟨rfl,rfl,rfl⟩:=e;intro ad n c e;cases e;exact Nat.le_refl _
 ·simp [Value.cells] at e;obtain ⟨rfl,rfl,rfl⟩:=e;intro ad n c e;cases e;exact hlc
end
end Go.Proofs.Kn
end
namespace Go.Proofs.Kn
open Go Go.Ev
set_option maxRecDepth 100000
set_option maxHeartbeats 4000000
theorem worth_congr {w:Wk} {gv gv':Int×Int×Int→Int} {ls:List (Int×Int×Int)} (h: ∀s∈ls,gv s=gv' s):w.worth gv ls=w.worth gv' ls:=by
 have:w.vals gv ls=w.vals gv' ls:=List.map_congr_left fun s hs=>by rw [h s hs]
 rw [Wk.worth,Wk.worth,this]
theorem give_end {w:Wk} {v:AV} {b:Bool} {G:Th.Grid} {s:Int×Int×Int} (hb:w.Blk s):w.give (⟨v,endL b G w.m.cells.length w.m.W⟩:Gr).t s=w.give (fun r c=>endOf b (G r c)) s:=by
 obtain ⟨r0,c0,q,n,th,wo,rfl,ht,hrn,hcn⟩:=hb;rw [Wk.give_q ht,Wk.give_q ht];have:blkMin (⟨v,endL b G w.m.cells.length w.m.W⟩:Gr).t r0 c0 n n=blkMin (fun r c=>endOf b (G r c)) r0 c0 n n:=blkMin_congr n fun i hi j hj=>endL_t v b G (by omega) (by omega);rw [this]
end Go.Proofs.Kn
