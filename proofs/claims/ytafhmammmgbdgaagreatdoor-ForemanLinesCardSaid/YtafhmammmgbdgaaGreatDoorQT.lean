/- Parts of the proof, joined by a program. -/
import Derived.WideShapes
import Derived.Handed
import Derived.SizedLaws
import Derived.Lib.LaidU8
import Derived.Shelf.Vars
import Derived.Test.YtafhmammmgbdgaaGreatDoorQN
import Derived.Test.YtafhmammmgbdgaaGreatDoorQB
import Derived.Test.YtafhmammmgbdgaaGreatDoorQK
set_option linter.all false
noncomputable section
namespace Go.Ev
open Go Go.RowKit
section
variable {H:Type} {enc:TypeId×Value→H} {P:Program} {w:World} {base:Nat} {sp:Nat→Bool} {held:Bool}
theorem cells?_at {a:Addr} {n:Nat} {cs:List Value} (h:w.cells? base a n=some cs):cs.length=n∧ ∀(j:Nat) (u:Value),cs[j]? =some u→w.cell? (a.add j)=some u:=by
 unfold World.cells? at h;split at h
 ·have hl:=mapM_some_length h;simp only [List.length_range] at hl;refine ⟨hl,fun j u hu=> ?_⟩;have hj:=(List.getElem?_eq_some_iff.1 hu).1;have hjn:j<n:=by omega
  have:=mapM_some_get h j j (by rw [List.getElem?_range hjn]);rw [hu] at this;exact this
 ·cases h
theorem read_slice {α:Type} [Inhabited α] (f:α→List Value) {sz:Nat} {t e:TypeId} {fuel:Nat} {cs:List Value} {x:DataW H×List MemPlace} (ht:P.underlying t=some (.slice e)) (hc:P.cellsOf e=sz) (h0:0<sz) (h:DataW.trod enc P w base sp held fuel t cs=some x)
  (hf: ∀a,(f a).length=sz) (hdec: ∀(n:Nat) (c:List Value) (y:DataW H×List MemPlace),DataW.trod enc P w base sp held n e c=some y→ ∃a,c=f a) (h':Hp):
  ∃(v:Value) (l:List α),cs=[v]∧l.length≤9223372036854775807∧RowAt w.cell? h' sz (.val v) (l.map f):=by
 rcases DataW.trod_slice ht h with ⟨rfl,_⟩|⟨a,len,cap,elems,rest,n,_,rfl,_,_,hlc,hcm,hel,hat,_⟩
 ·exact ⟨_,[],rfl,by simp,by simp,h0,.inl ⟨rfl,rfl⟩⟩
 have hx: ∀i,i<len→ ∃b:α,w.cells? base (a.add (i*sz)) sz=some (f b):=fun i hi=>by
  have:=hat i hi;rw [List.getElem?_eq_getElem (by omega)] at this;obtain ⟨c,h1,h2⟩:=Option.bind_eq_some_iff.1 this;obtain ⟨b,rfl⟩:=hdec _ _ _ h2;rw [hc] at h1;exact ⟨b,h1⟩
 let g:Nat→α:=fun i=>if hi:i<len then Classical.choose (hx i hi) else default
 have hg: ∀i,i<len→w.cells? base (a.add (i*sz)) sz=some (f (g i)):=fun i hi=>by
  simp only [g,dif_pos hi];exact Classical.choose_spec (hx i hi)
 have hm:maxLen=9223372036854775807:=rfl;refine ⟨_,(List.range len).map g,rfl,by simp;omega,fun c hc'=> ?_,h0,.inr (.inl ⟨a,cap,by simp,fun i c hi j u hu=> ?_⟩)⟩
 ·simp only [List.map_map,List.mem_map,Function.comp] at hc';obtain ⟨i,_,rfl⟩:=hc';exact hf _
 ·simp only [List.getElem?_map,List.getElem?_range,Option.map_eq_some_iff] at hi;obtain ⟨b,⟨k,hk,rfl⟩,rfl⟩:=hi;have hkl:i<len∧k=i:=by
   by_cases hil:i<len
   ·rw [List.getElem?_range hil] at hk;exact ⟨hil,by simpa using hk.symm⟩
   ·rw [List.getElem?_eq_none (by simp;omega)] at hk;cases hk
  obtain ⟨hil,rfl⟩:=hkl;have:=(cells?_at (hg k hil)).2 j u hu;rw [add_add] at this;exact this
theorem read_field {t ty off:Nat} {fs:Array Field} {fuel:Nat} {cs:List Value} {x:DataW H×List MemPlace} (ht:P.underlying t=some (.struct fs)) (h:DataW.trod enc P w base sp held fuel t cs=some x) (i:Nat) (hf:(fs[i]?).map (fun f=>(f.type,f.offset))=some (ty,off)):
  ∃n y,DataW.trod enc P w base sp held n ty ((cs.drop off).take (P.cellsOf ty))=some y:=by
 obtain ⟨xs,n,_,_,_,hlen,hat⟩:=DataW.trod_struct ht h;cases hfi:fs[i]? with
 |none=>rw [hfi] at hf;cases hf
 |some f=>
  rw [hfi] at hf;simp only [Option.map_some,Option.some.injEq,Prod.mk.injEq] at hf;obtain ⟨rfl,rfl⟩:=hf;have hi:i<xs.length:=by rw [hlen];exact (Array.getElem?_eq_some_iff.1 hfi).1
  exact ⟨n,xs[i],by rw [hat i f hfi];exact List.getElem?_eq_getElem hi⟩
theorem struct_len {t:Nat} {fs:Array Field} {fuel:Nat} {cs:List Value} {x:DataW H×List MemPlace} (ht:P.underlying t=some (.struct fs)) (h:DataW.trod enc P w base sp held fuel t cs=some x):cs.length=P.cellsOf t:=by
 obtain ⟨_,_,_,_,h1,_⟩:=DataW.trod_struct ht h;exact h1
end
def extCtx (w:World):Ctx:=⟨fun _=>False,fun _=>0,fun _=>0,w.cell?⟩
theorem extCtx_good (lim:Nat) (w:World):Good lim (extCtx w) {t:= .e,n:=0} w:=
 ⟨fun _ _ _ h=>h,fun _ _ h=>by simp at h,fun _ _ _ _ h=>by simp at h,fun _ _ h=>⟨h,fun _ _ h=>by simp at h⟩⟩
end Go.Ev
namespace Go.Proofs.Kn
open Go Go.Ev Go.RowKit
theorem law_run {f:FuncId} {xs:List AV} {args':List Value} {w:World} (hc:FnA (SE w.cell?) f xs {t:= .e,n:=0} isTrue) (ha:Go.Ev.RL (extCtx w) xs args'):
  Calls Tryz.prog f args'.toArray w fun e w'=>e= .returned (.bool true)∧Below w.heap.size w w':=by
 obtain ⟨res,h',⟨n1,_,s1⟩,rfl⟩:=hc;refine callsIn_wide.1 ((s1 h'.n (Nat.le_refl _) (extCtx w) w args' (extCtx_good _ w) (fun _ _ h=>h) ha).mono ?_);rintro e w' ⟨c',hst,y,rfl,hy⟩;refine ⟨?_,⟨hst.os,hst.tape,hst.output,hst.size,fun k hk=>hst.fr k hk (fun _ _ h=>by simp at h)⟩⟩;simp only [R] at hy;rw [hy]
end Go.Proofs.Kn
end
noncomputable section
namespace Go.Proofs.Kn
open Go Go.Ev Go.RowKit Go.ChangeShapes Go.WideShapes Go.ChangeAt
set_option maxRecDepth 100000
noncomputable def fieldsOf (t:TypeId):Array Field:=match Tryz.prog.underlying t with
 |some (.struct fs)=>fs
 |_=> #[]
theorem und3:Tryz.prog.underlying 3=some (.int .i64):=by kernel_rfl
theorem und4:Tryz.prog.underlying 4=some .bool:=by kernel_rfl
theorem und22:Tryz.prog.underlying 22=some (.int .i64):=by kernel_rfl
theorem und23:Tryz.prog.underlying 23=some (.slice 3):=by kernel_rfl
theorem und25:Tryz.prog.underlying 25=some (.struct (fieldsOf 25)):=by kernel_rfl
theorem co3:Tryz.prog.cellsOf 3=1:=by kernel_rfl
theorem co22:Tryz.prog.cellsOf 22=1:=by kernel_rfl
theorem co23:Tryz.prog.cellsOf 23=1:=by kernel_rfl
theorem co25:Tryz.prog.cellsOf 25=2:=by kernel_rfl
theorem f25_0:((fieldsOf 25)[0]?).map (fun f=>(f.type,f.offset))=some (22,0):=by kernel_rfl
theorem f25_1:((fieldsOf 25)[1]?).map (fun f=>(f.type,f.offset))=some (23,1):=by kernel_rfl
section
variable {H:Type} {enc:TypeId×Value→H} {w:World} {base:Nat} {sp:Nat→Bool} {held:Bool}
theorem dec_int {n:Nat} {c:List Value} {y:DataW H×List MemPlace} (h:DataW.trod enc Tryz.prog w base sp held n 3 c=some y): ∃a:Int,c=[.int .i64 a]:=by
 obtain ⟨k,e1,_⟩:=DataW.trod_int und3 h;exact ⟨k,e1⟩
theorem dec_k22 {n:Nat} {c:List Value} {y:DataW H×List MemPlace} (h:DataW.trod enc Tryz.prog w base sp held n 22 c=some y): ∃a:Int,c=[.int .i64 a]:=by
 obtain ⟨k,e1,_⟩:=DataW.trod_int und22 h;exact ⟨k,e1⟩
structure KnAt (xt:Addr→Option Value) (h:Hp) (k:Int) (s:Value) (l:List Int):Prop where
 row:RowAt xt h 1 (.val s) (l.map fun x=>[.int .i64 x])
 len:l.length≤9223372036854775807
def knV (k:Int) (s:Value):AV:= .agg [.val (.int .i64 k),.val s]
theorem KnAt.slice {xt:Addr→Option Value} {h:Hp} {k:Int} {s:Value} {l:List Int} (a:KnAt xt h k s l): ∃p n c,s= .slice p n c:=by
 rcases a.row.2.2 with ⟨e,_⟩|⟨p,c,e,_⟩|⟨b,o,av,e,q,_⟩
 ·cases e;exact ⟨_,_,_,rfl⟩
 ·cases e;exact ⟨_,_,_,rfl⟩
 ·cases q
theorem read_ent {t:Value} {d:DataW H} {ps:List MemPlace} {r:Reach} {b0:Nat} (hval:Value.okWide Tryz.prog w r b0 25 t) (hd:DataW.Trod enc Tryz.prog w base sp held 25 t d ps) (h':Hp):
  ∃(k:Int) (s:Value) (l:List Int),KnAt w.cell? h' k s l∧ ∀c,R c (knV k s) t:=by
 obtain ⟨cs,rfl⟩: ∃cs,t= .agg cs:=by
  unfold Value.okWide at hval;rw [und25] at hval;obtain ⟨cs,rfl,_⟩:=hval;exact ⟨cs,rfl⟩
 obtain ⟨fuel,hf⟩:=hd;change DataW.trod enc Tryz.prog w base sp held fuel 25 cs.toList=_ at hf;have hl:=struct_len und25 hf;rw [co25] at hl;obtain ⟨_,_,h0⟩:=read_field und25 hf 0 f25_0;obtain ⟨_,_,h1⟩:=read_field und25 hf 1 f25_1;obtain ⟨k,e0⟩:=dec_k22 h0;obtain ⟨s,l,e1,q1,q2⟩:=read_slice (fun a:Int=>[.int .i64 a]) und23 co3 (by omega) h1 (fun _=>rfl) (fun _ _ _ h=>dec_int h) h';rw [co22] at e0;rw [co23] at e1;refine ⟨k,s,l,⟨q2,q1⟩,fun cx=> ?_⟩;have:cs=[.int .i64 k,s].toArray:=by
  apply Array.ext'
  generalize cs.toList=c at*
  match c,hl with
  |[x,y],_=>simp at e0 e1;simp [e0,e1]
 subst this;simp only [knV,R];exact ⟨_,rfl,by simp [Go.Ev.RL,R]⟩
end
theorem kids:Kids Tryz.prog (· <Tryz.prog.types.size):=kids_rows (by kernel_rfl) (by kernel_rfl)
theorem full: ∀t e,t<Tryz.prog.types.size→Tryz.prog.underlying t=some (.slice e)→0<Tryz.prog.cellsOf e:=slices_full_of _ (by kernel_rfl)
theorem ownK:ownKnob Tryz.prog.godebug=none:=by kernel_rfl
end Go.Proofs.Kn
end
noncomputable section
namespace Go
open Go.RowKit
theorem returnsInHanded_of_both {H:Type} {enc:TypeId×Value→H} {a:Assume} {C:Checked} {os:Os} {f:FuncId} {fn:Func} {s:ChangeSpec} {conds:List PathCond} {apart fresh handsOn again:Bool} {X:World→Array Value→Prop}
  (hX: ∀(w w':World) (args:Array Value),w.heap=w'.heap→X w args→X w' args)
  (own:ownKnob C.prog.godebug=none) (started:os.Started) (noInit:C.prog.inits.idxOf? f=none) (hfn:C.prog.funcs[f]? =some fn)
  (witness: ∃(w:World) (tape:Tape) (i:Input),w.os=os∧(w.forCall tape i).Shaped C.prog∧i.vars=[]∧Input.okWide C.prog (w.forCall tape i) .any w.heap.size f i∧
   ((s.pre enc C.prog fn conds apart (w.forCall tape i).memory i.args∧X (w.forCall tape i).memory i.args)∧sizedMet enc C.prog fn (OpenSpec.ofChange s) apart (w.forCall tape i).memory i.args)∧a.holds C.prog (lone (Frame.enter C.prog f i.args .normal) [] (w.forCall tape i)))
  (contract: ∀(W:World) (base:Nat) (args:Array Value) (ds gs:List (DataW H)) (before:List MemPlace),
   (∀(j:Nat) t v,fn.params[j]? =some t→args[j]? =some v→Value.okWide C.prog W .any base t v)→
   DataW.Whole enc C.prog fn.params.toList s.vars apart W args.toList ds gs before→
   X W args→W.ShapedOpen C.prog→
   Calls C.prog f args W fun e W'=> ∃v,e= .returned v∧s.post enc C.prog fn apart fresh handsOn again W args v W'):
  ReturnsInHanded a C os f .any (fun w args=>(s.pre enc C.prog fn conds apart w args∧X w args)∧sizedMet enc C.prog fn (OpenSpec.ofChange s) apart w args) (s.post enc C.prog fn apart fresh handsOn again):=by
 refine returnsInHanded_of_calls own started noInit witness ?_;intro w tape i _ hsh _ hok hpre hholds;obtain ⟨_,_,_,fn',hfn',_,_,_,_,hval⟩:=hok;have e:fn'=fn:=Option.some.inj (hfn'.symm.trans hfn);subst e;obtain ⟨⟨⟨ds,gs,before,hw,hc⟩,hx⟩,hz⟩:=hpre;have hw':=DataW.Whole.of_heap (w':=w.forCall tape i) (by rfl) hw;refine (contract (w.forCall tape i) w.heap.size i.args ds gs before hval hw' (hX _ _ _ (by rfl) hx) hsh).mono fun e W' ⟨v,he,hp⟩=> ?_;subst he;exact ChangeSpec.post_blind hp
end Go
namespace Go.Proofs.Kn
open Go Go.Ev Go.RowKit Go.ChangeShapes Go.WideShapes Go.ChangeAt
set_option maxRecDepth 100000
def pow10s:List Int:=[1,10,100,1000,10000,100000,1000000,10000000,100000000,1000000000,10000000000,100000000000,1000000000000,10000000000000,100000000000000,1000000000000000,10000000000000000,100000000000000000,1000000000000000000,10000000000000000000]
theorem x0_is {a:Addr} {v:Value} (h:x0 a=some v): ∃i,i<20∧a=⟨1,i,none⟩∧v= .int .u64 ((10 ^ i:Nat):Int):=by
 obtain ⟨b,i,sp⟩:=a;unfold x0 at h;simp only at h;split at h
 ·rename_i i' h1 h2;cases hb:Nat.blt i 20 with
  |false=>rw [hb] at h;cases h
  |true=>rw [hb] at h;cases h;exact ⟨i,by rwa [Nat.blt_eq] at hb,rfl,rfl⟩
 ·cases h
theorem undG:Tryz.prog.underlying 431=some (.array 20 341):=by kernel_rfl
theorem undU:Tryz.prog.underlying 341=some (.int .u64):=by kernel_rfl
theorem pow10s_at: ∀i,i<20→pow10s.getD i 0=((10 ^ i:Nat):Int):=by decide
theorem lx_of {W:World} {l:List (String×DataW Unit)} (hL:laidMet Tryz.prog l W) (hm:("internal/strconv.uint64pow10",Lib.tabData .u64 pow10s)∈l) (hsh:W.ShapedOpen Tryz.prog):Lx W.cell? :=by
 refine ⟨?_,fun a v h=> ?_⟩
 ·exact Go.Proofs.cell_of_shapedOpen_int (zero:= #[.int .i64 0]) (t:=3) hsh (of_decide_eq_true (by kernel_rfl)) (by kernel_rfl) rfl (by kernel_rfl) (by kernel_rfl) und3
 ·obtain ⟨i,hi,rfl,rfl⟩:=x0_is h;obtain ⟨g',t',cs,fuel,p,hg',ht',hvar,hd⟩:=Lib.laidMet.reads hL hm;have hg:Tryz.prog.globalNamed "internal/strconv.uint64pow10" =some 1:=by kernel_rfl
  have hty:(Tryz.prog.globals[1]?).map (·.type)=some 431:=by kernel_rfl
  obtain rfl:=Option.some.inj (hg.symm.trans hg');obtain rfl:=Option.some.inj (hty.symm.trans ht');have hcs:=Lib.cells_of_tab undG undU (by kernel_rfl) (by kernel_rfl) hd;have ht:Lib.TabIs Tryz.prog W "internal/strconv.uint64pow10" .u64 pow10s:=by
   unfold Lib.TabIs;rw [hvar,←hcs]
  have:=ht.cell hg i (show i<pow10s.length from hi);rw [this,pow10s_at i hi]
theorem read_str {H:Type} {enc:TypeId×Value→H} {w:World} {base:Nat} {sp:Nat→Bool} {held:Bool} {t:Value} {d:DataW H} {ps:List MemPlace} {r:Reach} {b0:Nat} (hval:Value.okWide Tryz.prog w r b0 9 t) (hd:DataW.Trod enc Tryz.prog w base sp held 9 t d ps): ∃s:List UInt8,t= .string (bs s)∧s.length≤9223372036854775807:=by
 have hu:Tryz.prog.underlying 9=some .string:=by kernel_rfl
 obtain ⟨s,rfl⟩:=okWide_string hu hval;obtain ⟨fuel,hf⟩:=hd;obtain ⟨s',h,hx,hs⟩:=DataW.trod_string hu hf;have h:[Value.string s]=[Value.string s']:=h;cases h;refine ⟨s.data.toList,by rw [bs_self],?_⟩;have:maxLen=9223372036854775807:=rfl;have e:s.data.toList.length=s.size:=Array.length_toList;omega
end Go.Proofs.Kn
end
