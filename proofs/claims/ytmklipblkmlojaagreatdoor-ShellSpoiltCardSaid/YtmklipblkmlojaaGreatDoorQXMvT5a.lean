/- Parts of the proof, joined by a program. -/
import Derived.Test.YtmklipblkmlojaaGreatDoorTie
import Derived.Test.YtmklipblkmlojaaGreatDoorCards
import Derived.Lay
import Derived.LaidOnce
import Derived.SevenTiedAt
import Derived.Test.YtmklipblkmlojaaGreatDoorQT
import Derived.Test.YtmklipblkmlojaaGreatDoorQF7
set_option linter.all false
noncomputable section
namespace Go.Proofs.Kn
open Go Go.Ev Go.RowKit Go.ChangeShapes Go.WideShapes Go.ChangeAt
open YtmklipblkmlojaaGreatDoor
set_option maxRecDepth 100000
theorem qAa:Tryz.f5.params.toList=[27,3,3]:=by kernel_rfl
theorem rt5:Tryz.f5.resultTypes= #[4]:=by kernel_rfl
theorem inT5: ∀t∈[27,3,3],t<Tryz.prog.types.size:=by
 have h:([27,3,3].all fun t=>decide (t<Tryz.prog.types.size))=true:=by kernel_rfl
 intro t ht;simpa using List.all_eq_true.1 h t ht
theorem lifted5 (os:Os) (started:os.Started) (H:Type) (enc:TypeId×Value->H):
  ReturnsInHanded {} Tryz.checked os 5 .any (fun w args=>(Rows.shellSpoiltSpec.pre enc Tryz.prog Tryz.f5 [] false w args/\laidMetH Tryz.prog Rows.shellSpoiltRow.laid w)/\sizedMet enc Tryz.prog Tryz.f5 (OpenSpec.ofChange Rows.shellSpoiltSpec) false w args)
   (Rows.shellSpoiltSpec.post enc Tryz.prog Tryz.f5 false true false false):=by
 refine xL (C:=Tryz.checked) (X:=fun w _=>laidMetH Tryz.prog Rows.shellSpoiltRow.laid w) (fun _ _ _ hh h=>h.of_heap hh) ownK started (by kernel_rfl) Tryz.func5
  (ChangeSpec.witness_shaped (enc:=enc) (C:=Tryz.checked) (os:=os) (X:=fun w _=>laidMetH Tryz.prog Rows.shellSpoiltRow.laid w) false (World.laidAll Tryz.prog os Rows.shellSpoiltRow.laid) #[.agg #[.slice none 0 0,.int .i64 0,.int .i64 0,.slice none 0 0,.slice none 0 0,.slice none 0 0],.int .i64 0,.int .i64 0] 8 (World.laidAll_os _ _ _)
   (World.shaped_of_ZipB (by kernel_rfl) (by kernel_rfl)) (by kernel_rfl) (by kernel_rfl) (by kernel_rfl)
   (by rw [MakeChecks.laidMetH_plain _ _ _ (by kernel_rfl)];exact laidMet_laidAll _ (by kernel_rfl) (by kernel_rfl))) ?_
 intro W base args ds gs before hval0 hW hL hsh;have hL':laidMet Tryz.prog Rows.shellSpoiltRow.laid W:=by rw [<-MakeChecks.laidMetH_plain _ _ _ (by kernel_rfl)];exact hL
 have hx:Lx W.cell? :=lx_of hL' (.tail _ (.tail _ (.head _))) hsh;have hval: ∀(j:Nat) t v,Tryz.f5.params[j]? =some t->args[j]? =some v->Value.okWide Tryz.prog W .any base t v:=hval0;have hW':=hW;obtain ⟨p,q,hA0,hV,rfl,_,_⟩:=hW;have hA:DataW.TrodAll enc Tryz.prog W 0 (fun _=>true) true Tryz.f5.params.toList args.toList ds p:=hA0;rw [qAa] at hA;have hp: ∀j t,[27,3,3][j]? =some t->Tryz.f5.params[j]? =some t:=fun j t h=>by rw [<-Array.getElem?_toList,qAa];exact h
 obtain ⟨v0,v1,v2,d0,d1,d2,p0,p1,p2,rfl,rfl,rfl,h0,h1,h2⟩:=trodAll_three hA;obtain ⟨rfl,rfl⟩:=trodVars_none hV;obtain ⟨x0,y0,r0⟩:=read_map (hval 0 27 v0 (hp 0 27 rfl) rfl) h0 {t:= .e,n:=0};obtain ⟨x1,rfl⟩:=qCE (hval 1 3 v1 (hp 1 3 rfl) rfl);obtain ⟨x2,rfl⟩:=qCE (hval 2 3 v2 (hp 2 3 rfl) rfl);refine (law_run (args':=[v0,(.int .i64 x1),(.int .i64 x2)]) (qCw W.cell? hx {t:= .e,n:=0} x0 y0 x1 x2) (by simp only [Go.Ev.RL];exact ⟨v0,[(.int .i64 x1),(.int .i64 x2)],rfl,r0 _,(.int .i64 x1),[(.int .i64 x2)],rfl,by simp only [R],(.int .i64 x2),[],rfl,by simp only [R],rfl⟩)).mono fun e W' ⟨he,hB⟩=> ?_;subst he;exact ⟨_,rfl,law_post (by rfl) kids full (by rw [qAa];exact inT5) hB hW' (by simp [Rows.shellSpoiltSpec]) rt5 und4⟩
end Go.Proofs.Kn
end
