/- Parts. -/
import Derived.Test.YtimofdcffkfglaaGreatDoorTie
import Derived.Test.YtimofdcffkfglaaGreatDoorCards
import Derived.Lay
import Derived.LaidOnce
import Derived.SevenTiedAt
import Derived.Test.YtimofdcffkfglaaGreatDoorQN
import Derived.Test.YtimofdcffkfglaaGreatDoorQE
set_option linter.all false
noncomputable section
namespace Go.Proofs.Kn
open Go Go.Ev Go.RowKit Go.ChangeShapes Go.WideShapes Go.ChangeAt
open YtimofdcffkfglaaGreatDoor
set_option maxRecDepth 100000
theorem qAw:Tryz.f14.params.toList=[30,91,33]:=by kernel_rfl
theorem rt14:Tryz.f14.resultTypes= #[4]:=by kernel_rfl
theorem inT14: ∀t∈[30,91,33],t<Tryz.prog.types.size:=by
 have h:([30,91,33].all fun t=>decide (t<Tryz.prog.types.size))=true:=by kernel_rfl
 intro t ht;simpa using List.all_eq_true.1 h t ht
theorem lifted14 (os:Os) (started:os.Started) (H:Type) (enc:TypeId×Value->H):
  ReturnsInHanded {} Tryz.checked os 14 .any (fun w args=>(Rows.shellDualSpec.pre enc Tryz.prog Tryz.f14 [] false w args/\laidMetH Tryz.prog Rows.shellDualRow.laid w)/\sizedMet enc Tryz.prog Tryz.f14 (OpenSpec.ofChange Rows.shellDualSpec) false w args)
   (Rows.shellDualSpec.post enc Tryz.prog Tryz.f14 false true false false):=by
 refine returnsInHanded_of_change_and (C:=Tryz.checked) (X:=fun w _=>laidMetH Tryz.prog Rows.shellDualRow.laid w) (fun _ _ _ hh h=>h.of_heap hh) ownK started (by kernel_rfl) Tryz.func14
  (ChangeSpec.witness_shaped (enc:=enc) (C:=Tryz.checked) (os:=os) (X:=fun w _=>laidMetH Tryz.prog Rows.shellDualRow.laid w) false (World.laidAll Tryz.prog os Rows.shellDualRow.laid) #[.agg #[.slice none 0 0,.int .i64 0,.int .i64 0,.slice none 0 0,.slice none 0 0,.slice none 0 0,.slice none 0 0,.int .i64 0],.agg #[.slice none 0 0,.slice none 0 0],.slice none 0 0] 8 (World.laidAll_os _ _ _)
   (World.shaped_of_ZipB (by kernel_rfl) (by kernel_rfl)) (by kernel_rfl) (by kernel_rfl) (by kernel_rfl)
   (by rw [MakeChecks.laidMetH_plain _ _ _ (by kernel_rfl)];exact laidMet_laidAll _ (by kernel_rfl) (by kernel_rfl))) ?_
 intro W base args ds gs before hval0 hW _ _ hL _;have hval: ∀(j:Nat) t v,Tryz.f14.params[j]? =some t->args[j]? =some v->Value.okWide Tryz.prog W .any base t v:=hval0;have hW':=hW;obtain ⟨p,q,hA0,hV,rfl,_,_⟩:=hW;have hA:DataW.TrodAll enc Tryz.prog W 0 (fun _=>true) true Tryz.f14.params.toList args.toList ds p:=hA0;rw [qAw] at hA;have hp: ∀j t,[30,91,33][j]? =some t->Tryz.f14.params[j]? =some t:=fun j t h=>by rw [<-Array.getElem?_toList,qAw];exact h
 obtain ⟨v0,v1,v2,d0,d1,d2,p0,p1,p2,rfl,rfl,rfl,h0,h1,h2⟩:=trodAll_three hA;obtain ⟨rfl,rfl⟩:=trodVars_none hV;obtain ⟨x0,y0,r0⟩:=read_work (hval 0 30 v0 (hp 0 30 rfl) rfl) h0 {t:= .e,n:=0};obtain ⟨x1,y1,r1⟩:=qGq (hval 1 91 v1 (hp 1 91 rfl) rfl) h1 {t:= .e,n:=0};obtain ⟨x2,y2⟩:=read_cuts (hval 2 33 v2 (hp 2 33 rfl) rfl) h2 {t:= .e,n:=0};refine (law_run (args':=[v0,v1,v2]) (dual_law W.cell? {t:= .e,n:=0} x0 y0 x1 y1 (.val v2) x2 y2) (by simp only [RL];exact ⟨v0,[v1,v2],rfl,r0 _,v1,[v2],rfl,r1 _,v2,[],rfl,by simp only [R],rfl⟩)).mono fun e W' ⟨he,hB⟩=> ?_;subst he;exact ⟨_,rfl,law_post (by rfl) kids full (by rw [qAw];exact inT14) hB hW' (by simp [Rows.shellDualSpec]) rt14 und4⟩
end Go.Proofs.Kn
end
