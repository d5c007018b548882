/- MvT10a: texts in a row, joined by a program. -/
import Derived.Test.YtnmfblokfponlaaGreatDoorTie
import Derived.Test.YtnmfblokfponlaaGreatDoorCards
import Derived.Lay
import Derived.LaidOnce
import Derived.SevenTiedAt
import Derived.Test.YtnmfblokfponlaaGreatDoorQN2
import Derived.Test.YtnmfblokfponlaaGreatDoorQW6
set_option linter.all false
noncomputable section
namespace Go.Proofs.Kn
open Go Go.Ev Go.RowKit Go.ChangeShapes Go.WideShapes Go.ChangeAt
open YtnmfblokfponlaaGreatDoor
set_option maxRecDepth 100000
theorem gG:Tryz.f10.params.toList=[30,33,25]:=by kernel_rfl
theorem rt10:Tryz.f10.resultTypes= #[4]:=by kernel_rfl
theorem inT10: ∀t∈[30,33,25],t<Tryz.prog.types.size:=by
 have h:([30,33,25].all fun t=>decide (t<Tryz.prog.types.size))=true:=by kernel_rfl
 intro t ht;simpa using List.all_eq_true.1 h t ht
theorem lifted10 (os:Os) (started:os.Started) (H:Type) (enc:TypeId×Value->H):
  ReturnsInHanded {} Tryz.checked os 10 .any (fun w args=>(Rows.shellSoundSpec.pre enc Tryz.prog Tryz.f10 [] false w args/\laidMetH Tryz.prog Rows.shellSoundRow.laid w)/\sizedMet enc Tryz.prog Tryz.f10 (OpenSpec.ofChange Rows.shellSoundSpec) false w args)
   (Rows.shellSoundSpec.post enc Tryz.prog Tryz.f10 false true false false):=by
 refine returnsInHanded_of_change_and (C:=Tryz.checked) (X:=fun w _=>laidMetH Tryz.prog Rows.shellSoundRow.laid w) (fun _ _ _ hh h=>h.of_heap hh) ownK started (by kernel_rfl) Tryz.func10
  (ChangeSpec.witness_shaped (enc:=enc) (C:=Tryz.checked) (os:=os) (X:=fun w _=>laidMetH Tryz.prog Rows.shellSoundRow.laid w) false (World.laidAll Tryz.prog os Rows.shellSoundRow.laid) #[.agg #[.slice none 0 0,.int .i64 0,.int .i64 0,.slice none 0 0,.slice none 0 0,.slice none 0 0,.slice none 0 0,.int .i64 0],.slice none 0 0,.slice none 0 0] 8 (World.laidAll_os _ _ _)
   (World.shaped_of_ZipB (by kernel_rfl) (by kernel_rfl)) (by kernel_rfl) (by kernel_rfl) (by kernel_rfl)
   (by rw [MakeChecks.laidMetH_plain _ _ _ (by kernel_rfl)];exact laidMet_laidAll _ (by kernel_rfl) (by kernel_rfl))) ?_
 intro W base args ds gs before hval0 hW _ _ hL _;have hval: ∀(j:Nat) t v,Tryz.f10.params[j]? =some t->args[j]? =some v->Value.okWide Tryz.prog W .any base t v:=hval0;have hW':=hW;obtain ⟨p,q,hA0,hV,rfl,_,_⟩:=hW;have hA:DataW.TrodAll enc Tryz.prog W 0 (fun _=>true) true Tryz.f10.params.toList args.toList ds p:=hA0;rw [gG] at hA;have hp: ∀j t,[30,33,25][j]? =some t->Tryz.f10.params[j]? =some t:=fun j t h=>by rw [<-Array.getElem?_toList,gG];exact h
 obtain ⟨v0,v1,v2,d0,d1,d2,p0,p1,p2,rfl,rfl,rfl,h0,h1,h2⟩:=trodAll_three hA;obtain ⟨rfl,rfl⟩:=trodVars_none hV;obtain ⟨x0,y0,r0⟩:=read_work (hval 0 30 v0 (hp 0 30 rfl) rfl) h0 {t:= .e,n:=0};obtain ⟨x1,y1⟩:=read_cuts (hval 1 33 v1 (hp 1 33 rfl) rfl) h1 {t:= .e,n:=0};obtain ⟨x2,y2,z2⟩:=qDy (hval 2 25 v2 (hp 2 25 rfl) rfl) h2 {t:= .e,n:=0};refine (law_run (args':=[v0,v1,v2]) (qEr W.cell? {t:= .e,n:=0} x0 y0 (.val v1) x1 y1 (.val v2) x2 ⟨y2,z2⟩) (by simp only [RL];exact ⟨v0,[v1,v2],rfl,r0 _,v1,[v2],rfl,by simp only [R],v2,[],rfl,by simp only [R],rfl⟩)).mono fun e W' ⟨he,hB⟩=> ?_;subst he;exact ⟨_,rfl,law_post (by rfl) kids full (by rw [gG];exact inT10) hB hW' (by simp [Rows.shellSoundSpec]) rt10 und4⟩
end Go.Proofs.Kn
end
