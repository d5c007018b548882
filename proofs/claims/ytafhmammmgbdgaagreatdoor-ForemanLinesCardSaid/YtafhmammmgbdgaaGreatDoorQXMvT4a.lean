/- Parts of the proof, joined by a program. -/
import Derived.Test.YtafhmammmgbdgaaGreatDoorTie
import Derived.Test.YtafhmammmgbdgaaGreatDoorCards
import Derived.Lay
import Derived.LaidOnce
import Derived.SevenTiedAt
import Derived.Test.YtafhmammmgbdgaaGreatDoorQT
import Derived.Test.YtafhmammmgbdgaaGreatDoorQQ3
set_option linter.all false
noncomputable section
namespace Go.Proofs.Kn
open Go Go.Ev Go.RowKit Go.ChangeShapes Go.WideShapes Go.ChangeAt
open YtafhmammmgbdgaaGreatDoor
set_option maxRecDepth 100000
theorem params4:Tryz.f4.params.toList=[25]:=by kernel_rfl
theorem rt4:Tryz.f4.resultTypes= #[4]:=by kernel_rfl
theorem inT4: ∀t∈[25],t<Tryz.prog.types.size:=by
 have h:([25].all fun t=>decide (t<Tryz.prog.types.size))=true:=by kernel_rfl
 intro t ht;simpa using List.all_eq_true.1 h t ht
theorem lifted4 (os:Os) (started:os.Started) (H:Type) (enc:TypeId×Value→H):
  ReturnsInHanded {} Tryz.checked os 4 .any (fun w args=>(Rows.foremanLinesSpec.pre enc Tryz.prog Tryz.f4 [] false w args∧laidMetH Tryz.prog Rows.foremanLinesRow.laid w)∧sizedMet enc Tryz.prog Tryz.f4 (OpenSpec.ofChange Rows.foremanLinesSpec) false w args)
   (Rows.foremanLinesSpec.post enc Tryz.prog Tryz.f4 false true false false):=by
 refine returnsInHanded_of_both (C:=Tryz.checked) (X:=fun w _=>laidMetH Tryz.prog Rows.foremanLinesRow.laid w) (fun _ _ _ hh h=>h.of_heap hh) ownK started (by kernel_rfl) Tryz.func4
  (ChangeSpec.witness_shaped (enc:=enc) (C:=Tryz.checked) (os:=os) (X:=fun w _=>laidMetH Tryz.prog Rows.foremanLinesRow.laid w) false (World.laidAll Tryz.prog os Rows.foremanLinesRow.laid) #[.agg #[.int .i64 0,.slice none 0 0]] 8 (World.laidAll_os _ _ _)
   (World.shaped_of_ZipB (by kernel_rfl) (by kernel_rfl)) (by kernel_rfl) (by kernel_rfl) (by kernel_rfl)
   (by rw [MakeChecks.laidMetH_plain _ _ _ (by kernel_rfl)];exact laidMet_laidAll _ (by kernel_rfl) (by kernel_rfl))) ?_
 intro W base args ds gs before hval0 hW hL hsh;have hL':laidMet Tryz.prog Rows.foremanLinesRow.laid W:=by rw [←MakeChecks.laidMetH_plain _ _ _ (by kernel_rfl)];exact hL
 have hx:Lx W.cell? :=lx_of hL' (.tail _ (.tail _ (.head _))) hsh;have hval: ∀(j:Nat) t v,Tryz.f4.params[j]? =some t→args[j]? =some v→Value.okWide Tryz.prog W .any base t v:=hval0;have hW':=hW;obtain ⟨p,q,hA0,hV,rfl,_,_⟩:=hW;have hA:DataW.TrodAll enc Tryz.prog W 0 (fun _=>true) true Tryz.f4.params.toList args.toList ds p:=hA0;rw [params4] at hA;have hp: ∀j t,[25][j]? =some t→Tryz.f4.params[j]? =some t:=fun j t h=>by rw [←Array.getElem?_toList,params4];exact h
 obtain ⟨v0,d0,rfl,rfl,h0⟩:=trodAll_one hA;obtain ⟨rfl,rfl⟩:=trodVars_none hV;obtain ⟨k0,s0,l0,y0,r0⟩:=read_ent (hval 0 25 v0 (hp 0 25 rfl) rfl) h0 {t:= .e,n:=0};refine (law_run (args':=[v0]) (lines_true W.cell? hx {t:= .e,n:=0} k0 s0 l0 y0) (by simp only [Go.Ev.RL];exact ⟨v0,[],rfl,r0 _,rfl⟩)).mono fun e W' ⟨he,hB⟩=> ?_;subst he;exact ⟨_,rfl,law_post (by rfl) kids full (by rw [params4];exact inT4) hB hW' (by simp [Rows.foremanLinesSpec]) rt4 und4⟩
end Go.Proofs.Kn
end
