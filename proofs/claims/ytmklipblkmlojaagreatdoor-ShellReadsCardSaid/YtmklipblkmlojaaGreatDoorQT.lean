/- Parts of the proof, joined by a program. -/
import Derived.Handed
import Derived.SizedLaws
import Derived.Lib.LaidU8
import Derived.Shelf.Vars
import Derived.Test.YtmklipblkmlojaaGreatDoorQF6
import Derived.Test.YtmklipblkmlojaaGreatDoorQB
set_option linter.all false
noncomputable section
namespace Go.Ev
open Go Go.RowKit
section
variable {H:Type} {enc:TypeId×Value->H} {P:Program} {w:World} {base:Nat} {sp:Nat->Bool} {held:Bool}
end
def extCtx (w:World):Ctx:=⟨fun _=>False,fun _=>0,fun _=>0,w.cell?⟩
theorem qDB (lim:Nat) (w:World):Good lim (extCtx w) {t:= .e,n:=0} w:=
 ⟨fun _ _ _ h=>h,fun _ _ h=>by simp at h,fun _ _ _ _ h=>by simp at h,fun _ _ h=>⟨h,fun _ _ h=>by simp at h⟩⟩
end Go.Ev
namespace Go.Proofs.Kn
open Go Go.Ev Go.RowKit
theorem law_run {f:FuncId} {xs:List AV} {args':List Value} {w:World} (hc:FnA (SE w.cell?) f xs {t:= .e,n:=0} qBl) (ha:Go.Ev.RL (extCtx w) xs args'):
  Calls Tryz.prog f args'.toArray w fun e w'=>e= .returned (.bool true)/\Below w.heap.size w w':=by
 obtain ⟨res,h',⟨n1,_,s1⟩,rfl⟩:=hc;refine callsIn_wide.1 ((s1 h'.n (Nat.le_refl _) (extCtx w) w args' (qDB _ w) (fun _ _ h=>h) ha).mono ?_);rintro e w' ⟨c',hst,y,rfl,hy⟩;refine ⟨?_,⟨hst.os,hst.tape,hst.output,hst.size,fun k hk=>hst.fr k hk (fun _ _ h=>by simp at h)⟩⟩;simp only [R] at hy;rw [hy]
end Go.Proofs.Kn
end
noncomputable section
namespace Go.Ev
open Go Go.RowKit
section
variable {H:Type} {enc:TypeId×Value->H} {P:Program} {w:World} {base:Nat} {sp:Nat->Bool} {held:Bool}
end
end Go.Ev
namespace Go.Proofs.Kn
open Go Go.Ev Go.RowKit Go.ChangeShapes Go.WideShapes Go.ChangeAt
set_option maxRecDepth 100000
theorem und3:Tryz.prog.underlying 3=some (.int .i64):=by kernel_rfl
theorem und4:Tryz.prog.underlying 4=some .bool:=by kernel_rfl
section
variable {H:Type} {enc:TypeId×Value->H} {w:World} {base:Nat} {sp:Nat->Bool} {held:Bool}
end
theorem kids:Kids Tryz.prog (· <Tryz.prog.types.size):=kids_rows (by kernel_rfl) (by kernel_rfl)
theorem full: ∀t e,t<Tryz.prog.types.size->Tryz.prog.underlying t=some (.slice e)->0<Tryz.prog.cellsOf e:=slices_full_of _ (by kernel_rfl)
theorem ownK:ownKnob Tryz.prog.godebug=none:=by kernel_rfl
end Go.Proofs.Kn
end
noncomputable section
namespace Go
open Go.RowKit
theorem uN {H:Type} {enc:TypeId×Value->H} {a:Assume} {C:Checked} {os:Os} {f:FuncId} {fn:Func} {s:ChangeSpec} {conds:List PathCond} {x3 fresh handsOn again:Bool} {X:World->Array Value->Prop}
  (hX: ∀(w w':World) (args:Array Value),w.heap=w'.heap->X w args->X w' args)
  (own:ownKnob C.prog.godebug=none) (started:os.Started) (noInit:C.prog.inits.idxOf? f=none) (hfn:C.prog.funcs[f]? =some fn)
  (witness: ∃(w:World) (tape:Tape) (i:Input),w.os=os/\(w.forCall tape i).Shaped C.prog/\i.vars=[]/\Input.okWide C.prog (w.forCall tape i) .any w.heap.size f i/\
   ((s.pre enc C.prog fn conds x3 (w.forCall tape i).memory i.args/\X (w.forCall tape i).memory i.args)/\sizedMet enc C.prog fn (OpenSpec.ofChange s) x3 (w.forCall tape i).memory i.args)/\a.holds C.prog (lone (Frame.enter C.prog f i.args .normal) [] (w.forCall tape i)))
  (contract: ∀(W:World) (base:Nat) (args:Array Value) (ds gs:List (DataW H)) (before:List MemPlace),
   (∀(j:Nat) t v,fn.params[j]? =some t->args[j]? =some v->Value.okWide C.prog W .any base t v)->
   DataW.Whole enc C.prog fn.params.toList s.vars x3 W args.toList ds gs before->
   X W args->W.ShapedOpen C.prog->
   Calls C.prog f args W fun e W'=> ∃v,e= .returned v/\s.post enc C.prog fn x3 fresh handsOn again W args v W'):
  ReturnsInHanded a C os f .any (fun w args=>(s.pre enc C.prog fn conds x3 w args/\X w args)/\sizedMet enc C.prog fn (OpenSpec.ofChange s) x3 w args) (s.post enc C.prog fn x3 fresh handsOn again):=by
 refine returnsInHanded_of_calls own started noInit witness ?_;intro w tape i _ hsh _ hok hpre hholds;obtain ⟨_,_,_,fn',hfn',_,_,_,_,hval⟩:=hok;have e:fn'=fn:=Option.some.inj (hfn'.symm.trans hfn);subst e;obtain ⟨⟨⟨ds,gs,before,hw,hc⟩,hx⟩,hz⟩:=hpre;have hw':=DataW.Whole.of_heap (w':=w.forCall tape i) (by rfl) hw;refine (contract (w.forCall tape i) w.heap.size i.args ds gs before hval hw' (hX _ _ _ (by rfl) hx) hsh).mono fun e W' ⟨v,he,hp⟩=> ?_;subst he;exact ChangeSpec.post_blind hp
end Go
namespace Go.Proofs.Kn
open Go Go.Ev Go.RowKit Go.ChangeShapes Go.WideShapes Go.ChangeAt
set_option maxRecDepth 100000
def pow10s:List Int:=[1,10,100,1000,10000,100000,1000000,10000000,100000000,1000000000,10000000000,100000000000,1000000000000,10000000000000,100000000000000,1000000000000000,10000000000000000,100000000000000000,1000000000000000000,10000000000000000000]
theorem xtI_is {a:Addr} {v:Value} (h:xtI a=some v): ∃i,i<20/\a=⟨1,i,none⟩/\v= .int .u64 ((10 ^ i:Nat):Int):=by
 obtain ⟨b,i,sp⟩:=a;unfold xtI at h;simp only at h;split at h
 ·rename_i i' h1 h2;cases hb:Nat.blt i 20 with
  |false=>rw [hb] at h;cases h
  |true=>rw [hb] at h;cases h;exact ⟨i,by rwa [Nat.blt_eq] at hb,rfl,rfl⟩
 ·cases h
theorem und268:Tryz.prog.underlying 268=some (.array 20 230):=by kernel_rfl
theorem undU:Tryz.prog.underlying 230=some (.int .u64):=by kernel_rfl
theorem pow10s_at: ∀i,i<20->pow10s.getD i 0=((10 ^ i:Nat):Int):=by decide
theorem lx_of {W:World} {l:List (String×DataW Unit)} (hL:laidMet Tryz.prog l W) (hm:("internal/strconv.uint64pow10",Lib.tabData .u64 pow10s)∈l) (hsh:W.ShapedOpen Tryz.prog):Lx W.cell? :=by
 refine ⟨?_,fun a v h=> ?_⟩
 ·exact Go.Proofs.cell_of_shapedOpen_int (zero:= #[.int .i64 0]) (t:=3) hsh (of_decide_eq_true (by kernel_rfl)) (by kernel_rfl) rfl (by kernel_rfl) (by kernel_rfl) und3
 ·obtain ⟨i,hi,rfl,rfl⟩:=xtI_is h;obtain ⟨g',t',cs,fuel,p,hg',ht',hvar,hd⟩:=Lib.laidMet.reads hL hm;have hg:Tryz.prog.globalNamed "internal/strconv.uint64pow10" =some 1:=by kernel_rfl
  have hty:(Tryz.prog.globals[1]?).map (·.type)=some 268:=by kernel_rfl
  obtain rfl:=Option.some.inj (hg.symm.trans hg');obtain rfl:=Option.some.inj (hty.symm.trans ht');have hcs:=Lib.cells_of_tab und268 undU (by kernel_rfl) (by kernel_rfl) hd;have ht:Lib.TabIs Tryz.prog W "internal/strconv.uint64pow10" .u64 pow10s:=by
   unfold Lib.TabIs;rw [hvar,<-hcs]
  have:=ht.cell hg i (show i<pow10s.length from hi);rw [this,pow10s_at i hi]
theorem read_str {H:Type} {enc:TypeId×Value->H} {w:World} {base:Nat} {sp:Nat->Bool} {held:Bool} {t:Value} {d:DataW H} {ps:List MemPlace} {r:Reach} {b0:Nat} (hval:Value.okWide Tryz.prog w r b0 9 t) (hd:DataW.Trod enc Tryz.prog w base sp held 9 t d ps): ∃s:List UInt8,t= .string (bs s)/\s.length<=9223372036854775807:=by
 have hu:Tryz.prog.underlying 9=some .string:=by kernel_rfl
 obtain ⟨s,rfl⟩:=okWide_string hu hval;obtain ⟨fuel,hf⟩:=hd;obtain ⟨s',h,hx,hs⟩:=DataW.trod_string hu hf;have h:[Value.string s]=[Value.string s']:=h;cases h;refine ⟨s.data.toList,by rw [qCX],?_⟩;have:maxLen=9223372036854775807:=rfl;have e:s.data.toList.length=s.size:=Array.length_toList;omega
end Go.Proofs.Kn
end
