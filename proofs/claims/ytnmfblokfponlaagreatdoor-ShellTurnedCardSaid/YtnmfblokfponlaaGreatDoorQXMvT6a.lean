/- MvT6a: texts in a row, joined by a program. -/
import Derived.Test.YtnmfblokfponlaaGreatDoorTie
import Derived.Test.YtnmfblokfponlaaGreatDoorCards
import Derived.Lay
import Derived.LaidOnce
import Derived.SevenTiedAt
import Derived.Test.YtnmfblokfponlaaGreatDoorQN3
import Derived.Test.YtnmfblokfponlaaGreatDoorQZ2
set_option linter.all false
noncomputable section
namespace Go.Proofs.Kn
open Go Go.Ev Go.RowKit Go.ChangeShapes Go.WideShapes Go.ChangeAt
open YtnmfblokfponlaaGreatDoor
set_option maxRecDepth 100000
theorem qAZ:Tryz.f6.params.toList=[30]:=by kernel_rfl
theorem rt6:Tryz.f6.resultTypes= #[4]:=by kernel_rfl
theorem inT6: ∀t∈[30],t<Tryz.prog.types.size:=by
 have h:([30].all fun t=>decide (t<Tryz.prog.types.size))=true:=by kernel_rfl
 intro t ht;simpa using List.all_eq_true.1 h t ht
theorem lifted6 (os:Os) (started:os.Started) (H:Type) (enc:TypeId×Value->H):
  ReturnsInHanded {} Tryz.checked os 6 .any (fun w args=>(Rows.shellTurnedSpec.pre enc Tryz.prog Tryz.f6 [] false w args/\laidMetH Tryz.prog Rows.shellTurnedRow.laid w)/\sizedMet enc Tryz.prog Tryz.f6 (OpenSpec.ofChange Rows.shellTurnedSpec) false w args)
   (Rows.shellTurnedSpec.post enc Tryz.prog Tryz.f6 false true false false):=by
 refine returnsInHanded_of_change_and (C:=Tryz.checked) (X:=fun w _=>laidMetH Tryz.prog Rows.shellTurnedRow.laid w) (fun _ _ _ hh h=>h.of_heap hh) ownK started (by kernel_rfl) Tryz.func6
  (ChangeSpec.witness_shaped (enc:=enc) (C:=Tryz.checked) (os:=os) (X:=fun w _=>laidMetH Tryz.prog Rows.shellTurnedRow.laid w) false (World.laidAll Tryz.prog os Rows.shellTurnedRow.laid) #[.agg #[.slice none 0 0,.int .i64 0,.int .i64 0,.slice none 0 0,.slice none 0 0,.slice none 0 0,.slice none 0 0,.int .i64 0]] 8 (World.laidAll_os _ _ _)
   (World.shaped_of_ZipB (by kernel_rfl) (by kernel_rfl)) (by kernel_rfl) (by kernel_rfl) (by kernel_rfl)
   (by rw [MakeChecks.laidMetH_plain _ _ _ (by kernel_rfl)];exact laidMet_laidAll _ (by kernel_rfl) (by kernel_rfl))) ?_
 intro W base args ds gs before hval0 hW _ _ hL _;have hval: ∀(j:Nat) t v,Tryz.f6.params[j]? =some t->args[j]? =some v->Value.okWide Tryz.prog W .any base t v:=hval0;have hW':=hW;obtain ⟨p,q,hA0,hV,rfl,_,_⟩:=hW;have hA:DataW.TrodAll enc Tryz.prog W 0 (fun _=>true) true Tryz.f6.params.toList args.toList ds p:=hA0;rw [qAZ] at hA;have hp: ∀j t,[30][j]? =some t->Tryz.f6.params[j]? =some t:=fun j t h=>by rw [<-Array.getElem?_toList,qAZ];exact h
 obtain ⟨v0,d0,rfl,rfl,h0⟩:=trodAll_one hA;obtain ⟨rfl,rfl⟩:=trodVars_none hV;obtain ⟨x0,y0,r0⟩:=read_work (hval 0 30 v0 (hp 0 30 rfl) rfl) h0 {t:= .e,n:=0};refine (law_run (args':=[v0]) (qDx W.cell? {t:= .e,n:=0} x0 y0) (by simp only [RL];exact ⟨v0,[],rfl,r0 _,rfl⟩)).mono fun e W' ⟨he,hB⟩=> ?_;subst he;exact ⟨_,rfl,law_post (by rfl) kids full (by rw [qAZ];exact inT6) hB hW' (by simp [Rows.shellTurnedSpec]) rt6 und4⟩
end Go.Proofs.Kn
end
