/- Parts of the proof, joined by a program. -/
import Derived.Handed
import Derived.SizedLaws
import Derived.Lib.LaidU8
import Derived.Shelf.Vars
import Derived.Test.YtmklipblkmlojaaGreatDoorQF6
import Derived.Test.YtmklipblkmlojaaGreatDoorQB
set_option linter.all false
open List renaming getElem?_range → xZZ, getElem?_eq_getElem → xZY, getElem?_map → xZW, mem_map → xZV, map_map → xZT, getElem?_eq_none → xZS
open Option renaming map_eq_some_iff → xZX, bind_eq_some_iff → xZU
noncomputable section
namespace Go.Ev
open Go Go.RowKit
section
variable {H:Type} {enc:TypeId×Value->H} {P:Program} {w:World} {base:Nat} {sp:Nat->Bool} {held:Bool}
theorem cells?_at {a:Addr} {n:Nat} {cs:List Value} (h:w.cells? base a n=some cs):cs.length=n/\ ∀(j:Nat) (u:Value),cs[j]? =some u->w.cell? (a.add j)=some u:=by
 unfold World.cells? at h;split at h
 ·have hl:=mapM_some_length h;simp only [List.length_range] at hl;refine ⟨hl,fun j u hu=> ?_⟩;have hj:=(List.getElem?_eq_some_iff.1 hu).1;have hjn:j<n:=by omega
  have:=mapM_some_get h j j (by rw [xZZ hjn]);rw [hu] at this;exact this
 ·cases h
theorem xU {α:Type} [Inhabited α] (f:α->List Value) {sz:Nat} {t e:TypeId} {fuel:Nat} {cs:List Value} {x:DataW H×List MemPlace} (ht:P.underlying t=some (.slice e)) (hc:P.cellsOf e=sz) (h0:0<sz) (h:DataW.trod enc P w base sp held fuel t cs=some x)
  (hf: ∀a,(f a).length=sz) (hdec: ∀(n:Nat) (c:List Value) (y:DataW H×List MemPlace),DataW.trod enc P w base sp held n e c=some y-> ∃a,c=f a) (h':Hp):
  ∃(v:Value) (l:List α),cs=[v]/\l.length<=9223372036854775807/\RowAt w.cell? h' sz (.val v) (l.map f):=by
 rcases DataW.trod_slice ht h with ⟨rfl,_⟩|⟨a,len,cap,elems,rest,n,_,rfl,_,_,hlc,hcm,hel,hat,_⟩
 ·exact ⟨_,[],rfl,by simp,by simp,h0,.inl ⟨rfl,rfl⟩⟩
 have hx: ∀i,i<len-> ∃b:α,w.cells? base (a.add (i*sz)) sz=some (f b):=fun i hi=>by
  have:=hat i hi;rw [xZY (by omega)] at this;obtain ⟨c,h1,h2⟩:=xZU.1 this;obtain ⟨b,rfl⟩:=hdec _ _ _ h2;rw [hc] at h1;exact ⟨b,h1⟩
 let g:Nat->α:=fun i=>if hi:i<len then Classical.choose (hx i hi) else default
 have hg: ∀i,i<len->w.cells? base (a.add (i*sz)) sz=some (f (g i)):=fun i hi=>by
  simp only [g,dif_pos hi];exact Classical.choose_spec (hx i hi)
 have hm:maxLen=9223372036854775807:=rfl;refine ⟨_,(List.range len).map g,rfl,by simp;omega,fun c hc'=> ?_,h0,.inr (.inl ⟨a,cap,by simp,fun i c hi j u hu=> ?_⟩)⟩
 ·simp only [xZT,xZV,Function.comp] at hc';obtain ⟨i,_,rfl⟩:=hc';exact hf _
 ·simp only [xZW,xZZ,xZX] at hi;obtain ⟨b,⟨k,hk,rfl⟩,rfl⟩:=hi;have hkl:i<len/\k=i:=by
   by_cases hil:i<len
   ·rw [xZZ hil] at hk;exact ⟨hil,by simpa using hk.symm⟩
   ·rw [xZS (by simp;omega)] at hk;cases hk
  obtain ⟨hil,rfl⟩:=hkl;have:=(cells?_at (hg k hil)).2 j u hu;rw [qCm] at this;exact this
theorem jT {t ty off:Nat} {fs:Array Field} {fuel:Nat} {cs:List Value} {x:DataW H×List MemPlace} (ht:P.underlying t=some (.struct fs)) (h:DataW.trod enc P w base sp held fuel t cs=some x) (i:Nat) (hf:(fs[i]?).map (fun f=>(f.type,f.offset))=some (ty,off)):
  ∃n y,DataW.trod enc P w base sp held n ty ((cs.drop off).take (P.cellsOf ty))=some y:=by
 obtain ⟨xs,n,_,_,_,hlen,hat⟩:=DataW.trod_struct ht h;cases hfi:fs[i]? with
 |none=>rw [hfi] at hf;cases hf
 |some f=>
  rw [hfi] at hf;simp only [Option.map_some,Option.some.injEq,Prod.mk.injEq] at hf;obtain ⟨rfl,rfl⟩:=hf;have hi:i<xs.length:=by rw [hlen];exact (Array.getElem?_eq_some_iff.1 hfi).1
  exact ⟨n,xs[i],by rw [hat i f hfi];exact xZY hi⟩
theorem xS {t:Nat} {fs:Array Field} {fuel:Nat} {cs:List Value} {x:DataW H×List MemPlace} (ht:P.underlying t=some (.struct fs)) (h:DataW.trod enc P w base sp held fuel t cs=some x):cs.length=P.cellsOf t:=by
 obtain ⟨_,_,_,_,h1,_⟩:=DataW.trod_struct ht h;exact h1
end
def extCtx (w:World):Ctx:=⟨fun _=>False,fun _=>0,fun _=>0,w.cell?⟩
theorem qCR (lim:Nat) (w:World):Good lim (extCtx w) {t:= .e,n:=0} w:=
 ⟨fun _ _ _ h=>h,fun _ _ h=>by simp at h,fun _ _ _ _ h=>by simp at h,fun _ _ h=>⟨h,fun _ _ h=>by simp at h⟩⟩
end Go.Ev
namespace Go.Proofs.Kn
open Go Go.Ev Go.RowKit
theorem law_run {f:FuncId} {xs:List AV} {args':List Value} {w:World} (hc:FnA (SE w.cell?) f xs {t:= .e,n:=0} uQ) (ha:Go.Ev.RL (extCtx w) xs args'):
  Calls Tryz.prog f args'.toArray w fun e w'=>e= .returned (.bool true)/\Below w.heap.size w w':=by
 obtain ⟨res,h',⟨n1,_,s1⟩,rfl⟩:=hc;refine callsIn_wide.1 ((s1 h'.n (Nat.le_refl _) (extCtx w) w args' (qCR _ w) (fun _ _ h=>h) ha).mono ?_);rintro e w' ⟨c',hst,y,rfl,hy⟩;refine ⟨?_,⟨hst.os,hst.tape,hst.output,hst.size,fun k hk=>hst.fr k hk (fun _ _ h=>by simp at h)⟩⟩;simp only [R] at hy;rw [hy]
end Go.Proofs.Kn
end
noncomputable section
namespace Go.Ev
open Go Go.RowKit
section
variable {H:Type} {enc:TypeId×Value->H} {P:Program} {w:World} {base:Nat} {sp:Nat->Bool} {held:Bool}
theorem qCD {α:Type} [Inhabited α] (f:α->List Value) (Q:α->Prop) {sz:Nat} {t e:TypeId} {fuel:Nat} {cs:List Value} {x:DataW H×List MemPlace} (ht:P.underlying t=some (.slice e)) (hc:P.cellsOf e=sz) (h0:0<sz) (h:DataW.trod enc P w base sp held fuel t cs=some x)
  (hf: ∀a,(f a).length=sz) (hdec: ∀(n:Nat) (c:List Value) (y:DataW H×List MemPlace),DataW.trod enc P w base sp held n e c=some y-> ∃a,c=f a/\Q a) (h':Hp):
  ∃(v:Value) (l:List α),cs=[v]/\l.length<=9223372036854775807/\RowAt w.cell? h' sz (.val v) (l.map f)/\ ∀a∈l,Q a:=by
 rcases DataW.trod_slice ht h with ⟨rfl,_⟩|⟨a,len,cap,elems,rest,n,_,rfl,_,_,hlc,hcm,hel,hat,_⟩
 ·exact ⟨_,[],rfl,by simp,⟨by simp,h0,.inl ⟨rfl,rfl⟩⟩,by simp⟩
 have hx: ∀i,i<len-> ∃b:α,w.cells? base (a.add (i*sz)) sz=some (f b)/\Q b:=fun i hi=>by
  have:=hat i hi;rw [xZY (by omega)] at this;obtain ⟨c,h1,h2⟩:=xZU.1 this;obtain ⟨b,rfl,hq⟩:=hdec _ _ _ h2;rw [hc] at h1;exact ⟨b,h1,hq⟩
 let g:Nat->α:=fun i=>if hi:i<len then Classical.choose (hx i hi) else default
 have hg: ∀i,i<len->w.cells? base (a.add (i*sz)) sz=some (f (g i))/\Q (g i):=fun i hi=>by
  simp only [g,dif_pos hi];exact Classical.choose_spec (hx i hi)
 have hm:maxLen=9223372036854775807:=rfl;refine ⟨_,(List.range len).map g,rfl,by simp;omega,⟨fun c hc'=> ?_,h0,.inr (.inl ⟨a,cap,by simp,fun i c hi j u hu=> ?_⟩)⟩,fun b hb=> ?_⟩
 ·simp only [xZT,xZV,Function.comp] at hc';obtain ⟨i,_,rfl⟩:=hc';exact hf _
 ·simp only [xZW,xZZ,xZX] at hi;obtain ⟨b,⟨k,hk,rfl⟩,rfl⟩:=hi;have hkl:i<len/\k=i:=by
   by_cases hil:i<len
   ·rw [xZZ hil] at hk;exact ⟨hil,by simpa using hk.symm⟩
   ·rw [xZS (by simp;omega)] at hk;cases hk
  obtain ⟨hil,rfl⟩:=hkl;have:=(cells?_at (hg k hil).1).2 j u hu;rw [qCm] at this;exact this
 ·simp only [xZV,List.mem_range] at hb;obtain ⟨i,hi,rfl⟩:=hb;exact (hg i hi).2
theorem read_grid {t e ee:TypeId} {fuel:Nat} {cs:List Value} {x:DataW H×List MemPlace} (ht:P.underlying t=some (.slice e)) (hc:P.cellsOf e=1) (he:P.underlying e=some (.slice ee)) (hce:P.cellsOf ee=1) (h:DataW.trod enc P w base sp held fuel t cs=some x)
  (hdec: ∀(n:Nat) (c:List Value) (y:DataW H×List MemPlace),DataW.trod enc P w base sp held n ee c=some y-> ∃a:Int,c=[.int .i64 a]) (h':Hp):
  ∃(v:Value) (ll:List (List Int)),cs=[v]/\ll.length<=9223372036854775807/\(∀l∈ll,l.length<=9223372036854775807)/\GridAt w.cell? h' 1 (.val v) (ll.map fun l=>l.map fun a=>[.int .i64 a]):=by
 obtain ⟨v,l,e1,e2,e3,e4⟩:=qCD (α:=Value×List Int) (fun a=>[a.1]) (fun a=>a.2.length<=9223372036854775807/\RowAt w.cell? h' 1 (.val a.1) (a.2.map fun x=>[.int .i64 x])) ht hc (by omega) h (fun _=>rfl) (fun n c y hy=>by
  obtain ⟨v,l,q1,q2,q3⟩:=xU (fun a:Int=>[.int .i64 a]) he hce (by omega) hy (fun _=>rfl) hdec h';exact ⟨(v,l),q1,q2,q3⟩) h'
 refine ⟨v,l.map Prod.snd,e1,by simpa using e2,fun k hk=> ?_,.inl ⟨l.map Prod.fst,?_,by simp,fun i k hk=> ?_⟩⟩
 ·obtain ⟨a,ha,rfl⟩:=xZV.1 hk;exact (e4 a ha).1
 ·rw [xZT];exact e3
 ·simp only [xZW,xZX] at hk;obtain ⟨_,⟨a,ha,rfl⟩,rfl⟩:=hk;refine ⟨a.1,by simp [ha],(e4 a (List.mem_of_getElem? ha)).2⟩
end
end Go.Ev
namespace Go.Proofs.Kn
open Go Go.Ev Go.RowKit Go.ChangeShapes Go.WideShapes Go.ChangeAt
set_option maxRecDepth 100000
noncomputable def jZ (t:TypeId):Array Field:=match Tryz.prog.underlying t with
 |some (.struct fs)=>fs
 |_=> #[]
theorem und3:Tryz.prog.underlying 3=some (.int .i64):=by kernel_rfl
theorem und4:Tryz.prog.underlying 4=some .bool:=by kernel_rfl
theorem und136:Tryz.prog.underlying 85=some (.int .i64):=by kernel_rfl
theorem und22:Tryz.prog.underlying 22=some (.slice 42):=by kernel_rfl
theorem und58:Tryz.prog.underlying 42=some (.slice 85):=by kernel_rfl
theorem und23:Tryz.prog.underlying 23=some (.slice 87):=by kernel_rfl
theorem und24:Tryz.prog.underlying 24=some (.slice 90):=by kernel_rfl
theorem und25:Tryz.prog.underlying 25=some (.slice 92):=by kernel_rfl
theorem bN:Tryz.prog.underlying 27=some (.struct (jZ 27)):=by kernel_rfl
theorem und48:Tryz.prog.underlying 87=some (.struct (jZ 87)):=by kernel_rfl
theorem und50:Tryz.prog.underlying 90=some (.struct (jZ 90)):=by kernel_rfl
theorem und141:Tryz.prog.underlying 92=some (.struct (jZ 92)):=by kernel_rfl
theorem co3:Tryz.prog.cellsOf 3=1:=by kernel_rfl
theorem co4:Tryz.prog.cellsOf 4=1:=by kernel_rfl
theorem co136:Tryz.prog.cellsOf 85=1:=by kernel_rfl
theorem co22:Tryz.prog.cellsOf 22=1:=by kernel_rfl
theorem co58:Tryz.prog.cellsOf 42=1:=by kernel_rfl
theorem co23:Tryz.prog.cellsOf 23=1:=by kernel_rfl
theorem co24:Tryz.prog.cellsOf 24=1:=by kernel_rfl
theorem co25:Tryz.prog.cellsOf 25=1:=by kernel_rfl
theorem co27:Tryz.prog.cellsOf 27=6:=by kernel_rfl
theorem co48:Tryz.prog.cellsOf 87=4:=by kernel_rfl
theorem co50:Tryz.prog.cellsOf 90=3:=by kernel_rfl
theorem co141:Tryz.prog.cellsOf 92=2:=by kernel_rfl
theorem f27_0:((jZ 27)[0]?).map (fun f=>(f.type,f.offset))=some (22,0):=by kernel_rfl
theorem f27_1:((jZ 27)[1]?).map (fun f=>(f.type,f.offset))=some (3,1):=by kernel_rfl
theorem f27_2:((jZ 27)[2]?).map (fun f=>(f.type,f.offset))=some (3,2):=by kernel_rfl
theorem f27_3:((jZ 27)[3]?).map (fun f=>(f.type,f.offset))=some (23,3):=by kernel_rfl
theorem f27_4:((jZ 27)[4]?).map (fun f=>(f.type,f.offset))=some (24,4):=by kernel_rfl
theorem f27_5:((jZ 27)[5]?).map (fun f=>(f.type,f.offset))=some (25,5):=by kernel_rfl
theorem f48_0:((jZ 87)[0]?).map (fun f=>(f.type,f.offset))=some (3,0):=by kernel_rfl
theorem f48_1:((jZ 87)[1]?).map (fun f=>(f.type,f.offset))=some (3,1):=by kernel_rfl
theorem f48_2:((jZ 87)[2]?).map (fun f=>(f.type,f.offset))=some (3,2):=by kernel_rfl
theorem f48_3:((jZ 87)[3]?).map (fun f=>(f.type,f.offset))=some (3,3):=by kernel_rfl
theorem f50_0:((jZ 90)[0]?).map (fun f=>(f.type,f.offset))=some (3,0):=by kernel_rfl
theorem f50_1:((jZ 90)[1]?).map (fun f=>(f.type,f.offset))=some (3,1):=by kernel_rfl
theorem f50_2:((jZ 90)[2]?).map (fun f=>(f.type,f.offset))=some (4,2):=by kernel_rfl
theorem f141_0:((jZ 92)[0]?).map (fun f=>(f.type,f.offset))=some (3,0):=by kernel_rfl
theorem f141_1:((jZ 92)[1]?).map (fun f=>(f.type,f.offset))=some (3,1):=by kernel_rfl
section
variable {H:Type} {enc:TypeId×Value->H} {w:World} {base:Nat} {sp:Nat->Bool} {held:Bool}
theorem kV {n:Nat} {c:List Value} {y:DataW H×List MemPlace} (h:DataW.trod enc Tryz.prog w base sp held n 3 c=some y): ∃a:Int,c=[.int .i64 a]:=by
 obtain ⟨k,e1,_⟩:=DataW.trod_int und3 h;exact ⟨k,e1⟩
theorem dec_cell {n:Nat} {c:List Value} {y:DataW H×List MemPlace} (h:DataW.trod enc Tryz.prog w base sp held n 85 c=some y): ∃a:Int,c=[.int .i64 a]:=by
 obtain ⟨k,e1,_⟩:=DataW.trod_int und136 h;exact ⟨k,e1⟩
theorem dec_bool {n:Nat} {c:List Value} {y:DataW H×List MemPlace} (h:DataW.trod enc Tryz.prog w base sp held n 4 c=some y): ∃a:Bool,c=[.bool a]:=by
 obtain ⟨k,e1,_⟩:=DataW.trod_bool und4 h;exact ⟨k,e1⟩
theorem dec_gauge {n:Nat} {c:List Value} {y:DataW H×List MemPlace} (h:DataW.trod enc Tryz.prog w base sp held n 87 c=some y): ∃a:Int×Int×Int×Int,c=g4 a:=by
 have hl:=xS und48 h;rw [co48] at hl;obtain ⟨_,_,h0⟩:=jT und48 h 0 f48_0;obtain ⟨_,_,h1⟩:=jT und48 h 1 f48_1;obtain ⟨_,_,h2⟩:=jT und48 h 2 f48_2;obtain ⟨_,_,h3⟩:=jT und48 h 3 f48_3;obtain ⟨a,e0⟩:=kV h0;obtain ⟨b,e1⟩:=kV h1;obtain ⟨d,e2⟩:=kV h2;obtain ⟨e,e3⟩:=kV h3;rw [co3] at e0 e1 e2 e3
 match c,hl with
 |[x,y,z,u],_=>
  simp at e0 e1 e2 e3;exact ⟨(a,b,d,e),by simp [g4,e0,e1,e2,e3]⟩
theorem dec_crack {n:Nat} {c:List Value} {y:DataW H×List MemPlace} (h:DataW.trod enc Tryz.prog w base sp held n 90 c=some y): ∃a:Int×Int×Bool,c=k3 a:=by
 have hl:=xS und50 h;rw [co50] at hl;obtain ⟨_,_,h0⟩:=jT und50 h 0 f50_0;obtain ⟨_,_,h1⟩:=jT und50 h 1 f50_1;obtain ⟨_,_,h2⟩:=jT und50 h 2 f50_2;obtain ⟨a,e0⟩:=kV h0;obtain ⟨b,e1⟩:=kV h1;obtain ⟨d,e2⟩:=dec_bool h2;rw [co3] at e0 e1;rw [co4] at e2
 match c,hl with
 |[x,y,z],_=>
  simp at e0 e1 e2;exact ⟨(a,b,d),by simp [k3,e0,e1,e2]⟩
theorem dec_place {n:Nat} {c:List Value} {y:DataW H×List MemPlace} (h:DataW.trod enc Tryz.prog w base sp held n 92 c=some y): ∃a:Int×Int,c=p2 a:=by
 have hl:=xS und141 h;rw [co141] at hl;obtain ⟨_,_,h0⟩:=jT und141 h 0 f141_0;obtain ⟨_,_,h1⟩:=jT und141 h 1 f141_1;obtain ⟨a,e0⟩:=kV h0;obtain ⟨b,e1⟩:=kV h1;rw [co3] at e0 e1
 match c,hl with
 |[x,y],_=>
  simp at e0 e1;exact ⟨(a,b),by simp [p2,e0,e1]⟩
theorem read_mapc {fuel:Nat} {cs:List Value} {x:DataW H×List MemPlace} (hf:DataW.trod enc Tryz.prog w base sp held fuel 27 cs=some x) (h':Hp): ∃(m:Mp) (v1 v2 v3 v4:Value),m.At w.cell? h'/\m.vc= .val v1/\m.vg= .val v2/\m.vk= .val v3/\m.vp= .val v4/\cs=[v1,.int .i64 m.T,.int .i64 m.H,v2,v3,v4]:=by
 have hl:=xS bN hf;rw [co27] at hl;obtain ⟨_,_,h0⟩:=jT bN hf 0 f27_0;obtain ⟨_,_,h1⟩:=jT bN hf 1 f27_1;obtain ⟨_,_,h2⟩:=jT bN hf 2 f27_2;obtain ⟨_,_,h3⟩:=jT bN hf 3 f27_3;obtain ⟨_,_,h4⟩:=jT bN hf 4 f27_4;obtain ⟨_,_,h5⟩:=jT bN hf 5 f27_5;obtain ⟨v1,ll,e0,hl0,hr0,hg0⟩:=read_grid und22 co58 und58 co136 h0 (fun _ _ _ h=>dec_cell h) h';obtain ⟨a,e1⟩:=kV h1;obtain ⟨b,e2⟩:=kV h2;obtain ⟨v2,l2,e3,hl2,hr2⟩:=xU g4 und23 co48 (by omega) h3 (fun _=>rfl) (fun _ _ _ h=>dec_gauge h) h';obtain ⟨v3,l3,e4,hl3,hr3⟩:=xU k3 und24 co50 (by omega) h4 (fun _=>rfl) (fun _ _ _ h=>dec_crack h) h';obtain ⟨v4,l4,e5,hl4,hr4⟩:=xU p2 und25 co141 (by omega) h5 (fun _=>rfl) (fun _ _ _ h=>dec_place h) h';rw [co22] at e0;rw [co3] at e1 e2;rw [co23] at e3;rw [co24] at e4;rw [co25] at e5;refine ⟨{vc:= .val v1,vg:= .val v2,vk:= .val v3,vp:= .val v4,cells:=ll,T:=a,H:=b,gs:=l2,ks:=l3,ps:=l4},v1,v2,v3,v4,⟨hg0,hr2,hr3,hr4,hl0,hr0,hl2,hl3,hl4⟩,rfl,rfl,rfl,rfl,?_⟩
 match hq:cs,hl with
 |[x0,x1,x2,x3,x4,x5],_=>
  simp at e0 e1 e2 e3 e4 e5;simp [e0,e1,e2,e3,e4,e5]
theorem read_map {t:Value} {d:DataW H} {ps:List MemPlace} {r:Reach} {b0:Nat} (hval:Value.okWide Tryz.prog w r b0 27 t) (hd:DataW.Trod enc Tryz.prog w base sp held 27 t d ps) (h':Hp):
  ∃m:Mp,m.At w.cell? h'/\ ∀c,R c m.av t:=by
 obtain ⟨cs,rfl⟩: ∃cs,t= .agg cs:=by
  unfold Value.okWide at hval;rw [bN] at hval;obtain ⟨cs,rfl,_⟩:=hval;exact ⟨cs,rfl⟩
 obtain ⟨fuel,hf⟩:=hd;change DataW.trod enc Tryz.prog w base sp held fuel 27 cs.toList=_ at hf;obtain ⟨m,v1,v2,v3,v4,ha,e1,e2,e3,e4,hcs⟩:=read_mapc hf h';refine ⟨m,ha,fun cx=> ?_⟩;have:cs=[v1,.int .i64 m.T,.int .i64 m.H,v2,v3,v4].toArray:=by apply Array.ext';simpa using hcs
 subst this;simp only [R];exact ⟨_,rfl,by simp [Mp.cs,Go.Ev.RL,R,e1,e2,e3,e4]⟩
end
theorem kids:Kids Tryz.prog (· <Tryz.prog.types.size):=kids_rows (by kernel_rfl) (by kernel_rfl)
theorem full: ∀t e,t<Tryz.prog.types.size->Tryz.prog.underlying t=some (.slice e)->0<Tryz.prog.cellsOf e:=slices_full_of _ (by kernel_rfl)
theorem ownK:ownKnob Tryz.prog.godebug=none:=by kernel_rfl
end Go.Proofs.Kn
end
noncomputable section
namespace Go
open Go.RowKit
theorem xL {H:Type} {enc:TypeId×Value->H} {a:Assume} {C:Checked} {os:Os} {f:FuncId} {fn:Func} {s:ChangeSpec} {conds:List PathCond} {yV fresh handsOn again:Bool} {X:World->Array Value->Prop}
  (hX: ∀(w w':World) (args:Array Value),w.heap=w'.heap->X w args->X w' args)
  (own:ownKnob C.prog.godebug=none) (started:os.Started) (noInit:C.prog.inits.idxOf? f=none) (hfn:C.prog.funcs[f]? =some fn)
  (witness: ∃(w:World) (tape:Tape) (i:Input),w.os=os/\(w.forCall tape i).Shaped C.prog/\i.vars=[]/\Input.okWide C.prog (w.forCall tape i) .any w.heap.size f i/\
   ((s.pre enc C.prog fn conds yV (w.forCall tape i).memory i.args/\X (w.forCall tape i).memory i.args)/\sizedMet enc C.prog fn (OpenSpec.ofChange s) yV (w.forCall tape i).memory i.args)/\a.holds C.prog (lone (Frame.enter C.prog f i.args .normal) [] (w.forCall tape i)))
  (contract: ∀(W:World) (base:Nat) (args:Array Value) (ds gs:List (DataW H)) (before:List MemPlace),
   (∀(j:Nat) t v,fn.params[j]? =some t->args[j]? =some v->Value.okWide C.prog W .any base t v)->
   DataW.Whole enc C.prog fn.params.toList s.vars yV W args.toList ds gs before->
   X W args->W.ShapedOpen C.prog->
   Calls C.prog f args W fun e W'=> ∃v,e= .returned v/\s.post enc C.prog fn yV fresh handsOn again W args v W'):
  ReturnsInHanded a C os f .any (fun w args=>(s.pre enc C.prog fn conds yV w args/\X w args)/\sizedMet enc C.prog fn (OpenSpec.ofChange s) yV w args) (s.post enc C.prog fn yV fresh handsOn again):=by
 refine returnsInHanded_of_calls own started noInit witness ?_;intro w tape i _ hsh _ hok hpre hholds;obtain ⟨_,_,_,fn',hfn',_,_,_,_,hval⟩:=hok;have e:fn'=fn:=Option.some.inj (hfn'.symm.trans hfn);subst e;obtain ⟨⟨⟨ds,gs,before,hw,hc⟩,hx⟩,hz⟩:=hpre;have hw':=DataW.Whole.of_heap (w':=w.forCall tape i) (by rfl) hw;refine (contract (w.forCall tape i) w.heap.size i.args ds gs before hval hw' (hX _ _ _ (by rfl) hx) hsh).mono fun e W' ⟨v,he,hp⟩=> ?_;subst he;exact ChangeSpec.post_blind hp
end Go
namespace Go.Proofs.Kn
open Go Go.Ev Go.RowKit Go.ChangeShapes Go.WideShapes Go.ChangeAt
set_option maxRecDepth 100000
def pow10s:List Int:=[1,10,100,1000,10000,100000,1000000,10000000,100000000,1000000000,10000000000,100000000000,1000000000000,10000000000000,100000000000000,1000000000000000,10000000000000000,100000000000000000,1000000000000000000,10000000000000000000]
theorem xtI_is {a:Addr} {v:Value} (h:xtI a=some v): ∃i,i<20/\a=⟨1,i,none⟩/\v= .int .u64 ((10 ^ i:Nat):Int):=by
 obtain ⟨b,i,sp⟩:=a;unfold xtI at h;simp only at h;split at h
 ·rename_i i' h1 h2;cases hb:Nat.blt i 20 with
  |false=>rw [hb] at h;cases h
  |true=>rw [hb] at h;cases h;exact ⟨i,by rwa [Nat.blt_eq] at hb,rfl,rfl⟩
 ·cases h
theorem und268:Tryz.prog.underlying 268=some (.array 20 230):=by kernel_rfl
theorem undU:Tryz.prog.underlying 230=some (.int .u64):=by kernel_rfl
theorem pow10s_at: ∀i,i<20->pow10s.getD i 0=((10 ^ i:Nat):Int):=by decide
theorem lx_of {W:World} {l:List (String×DataW Unit)} (hL:laidMet Tryz.prog l W) (hm:("internal/strconv.uint64pow10",Lib.tabData .u64 pow10s)∈l) (hsh:W.ShapedOpen Tryz.prog):Lx W.cell? :=by
 refine ⟨?_,fun a v h=> ?_⟩
 ·exact Go.Proofs.cell_of_shapedOpen_int (zero:= #[.int .i64 0]) (t:=3) hsh (of_decide_eq_true (by kernel_rfl)) (by kernel_rfl) rfl (by kernel_rfl) (by kernel_rfl) und3
 ·obtain ⟨i,hi,rfl,rfl⟩:=xtI_is h;obtain ⟨g',t',cs,fuel,p,hg',ht',hvar,hd⟩:=Lib.laidMet.reads hL hm;have hg:Tryz.prog.globalNamed "internal/strconv.uint64pow10" =some 1:=by kernel_rfl
  have hty:(Tryz.prog.globals[1]?).map (·.type)=some 268:=by kernel_rfl
  obtain rfl:=Option.some.inj (hg.symm.trans hg');obtain rfl:=Option.some.inj (hty.symm.trans ht');have hcs:=Lib.cells_of_tab und268 undU (by kernel_rfl) (by kernel_rfl) hd;have ht:Lib.TabIs Tryz.prog W "internal/strconv.uint64pow10" .u64 pow10s:=by
   unfold Lib.TabIs;rw [hvar,<-hcs]
  have:=ht.cell hg i (show i<pow10s.length from hi);rw [this,pow10s_at i hi]
theorem qCE {w:World} {r:Reach} {b0:Nat} {t:Value} (hval:Value.okWide Tryz.prog w r b0 3 t): ∃n:Int,t= .int .i64 n:=okWide_int und3 hval
end Go.Proofs.Kn
end
