/- Parts. -/
import Derived.Test.YthimlgffanlomaaGreatDoorTie
import Derived.Test.YthimlgffanlomaaGreatDoorCards
import Derived.Lay
import Derived.LaidOnce
import Derived.SevenTiedAt
import Derived.Test.YthimlgffanlomaaGreatDoorQD1x
set_option linter.all false
noncomputable section
namespace Go.Proofs.Kn
open Go Go.Ev Go.RowKit Go.ChangeShapes Go.WideShapes Go.ChangeAt
open YthimlgffanlomaaGreatDoor
set_option maxRecDepth 100000
theorem qB6:Tryz.f3.params.toList=[30,34]:=by kernel_rfl
theorem rt3:Tryz.f3.resultTypes= #[4]:=by kernel_rfl
theorem inT3: ∀t∈[30,34],t<Tryz.prog.types.size:=by
 have h:([30,34].all fun t=>decide (t<Tryz.prog.types.size))=true:=by kernel_rfl
 intro t ht;simpa using List.all_eq_true.1 h t ht
theorem lifted3 (os:Os) (started:os.Started) (H:Type) (enc:TypeId×Value->H):
  ReturnsInHanded {} Tryz.checked os 3 .any (fun w args=>(Rows.shellProofsSpec.pre enc Tryz.prog Tryz.f3 [] false w args/\laidMetH Tryz.prog Rows.shellProofsRow.laid w)/\sizedMet enc Tryz.prog Tryz.f3 (OpenSpec.ofChange Rows.shellProofsSpec) false w args)
   (Rows.shellProofsSpec.post enc Tryz.prog Tryz.f3 false true false false):=by
 refine returnsInHanded_of_change_and (C:=Tryz.checked) (X:=fun w _=>laidMetH Tryz.prog Rows.shellProofsRow.laid w) (fun _ _ _ hh h=>h.of_heap hh) ownK started (by kernel_rfl) Tryz.func3
  (ChangeSpec.witness_shaped (enc:=enc) (C:=Tryz.checked) (os:=os) (X:=fun w _=>laidMetH Tryz.prog Rows.shellProofsRow.laid w) false (World.laidAll Tryz.prog os Rows.shellProofsRow.laid) #[.agg #[.slice none 0 0,.int .i64 0,.int .i64 0,.slice none 0 0,.slice none 0 0,.slice none 0 0,.slice none 0 0,.int .i64 0],.agg #[.slice none 0 0,.slice none 0 0]] 8 (World.laidAll_os _ _ _)
   (World.shaped_of_ZipB (by kernel_rfl) (by kernel_rfl)) (by kernel_rfl) (by kernel_rfl) (by kernel_rfl)
   (by rw [MakeChecks.laidMetH_plain _ _ _ (by kernel_rfl)];exact laidMet_laidAll _ (by kernel_rfl) (by kernel_rfl))) ?_
 intro W base args ds gs before hval0 hW _ _ hL _;have hval: ∀(j:Nat) t v,Tryz.f3.params[j]? =some t->args[j]? =some v->Value.okWide Tryz.prog W .any base t v:=hval0;have hW':=hW;obtain ⟨p,q,hA0,hV,rfl,_,_⟩:=hW;have hA:DataW.TrodAll enc Tryz.prog W 0 (fun _=>true) true Tryz.f3.params.toList args.toList ds p:=hA0;rw [qB6] at hA;have hp: ∀j t,[30,34][j]? =some t->Tryz.f3.params[j]? =some t:=fun j t h=>by rw [<-Array.getElem?_toList,qB6];exact h
 obtain ⟨v0,v1,d0,d1,p0,p1,rfl,rfl,rfl,h0,h1⟩:=trodAll_two hA;obtain ⟨rfl,rfl⟩:=trodVars_none hV;obtain ⟨x0,y0,r0⟩:=read_work (hval 0 30 v0 (hp 0 30 rfl) rfl) h0 {t:= .e,n:=0};obtain ⟨x1,y1,r1⟩:=qGo (hval 1 34 v1 (hp 1 34 rfl) rfl) h1 {t:= .e,n:=0};refine (law_run (args':=[v0,v1]) (qGq W.cell? {t:= .e,n:=0} x0 y0 x1 y1) (by simp only [RL];exact ⟨v0,[v1],rfl,r0 _,v1,[],rfl,r1 _,rfl⟩)).mono fun e W' ⟨he,hB⟩=> ?_;subst he;exact ⟨_,rfl,law_post (by rfl) kids full (by rw [qB6];exact inT3) hB hW' (by simp [Rows.shellProofsSpec]) rt3 und4⟩
end Go.Proofs.Kn
end
