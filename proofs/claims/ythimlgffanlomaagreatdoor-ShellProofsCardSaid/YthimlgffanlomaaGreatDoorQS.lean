/- Parts. -/
import Derived.WideShapes
import Derived.Test.YthimlgffanlomaaGreatDoorQR
import Derived.Test.YthimlgffanlomaaGreatDoorQXKnKnown
import Derived.Test.YthimlgffanlomaaGreatDoorQB
set_option linter.all false
open List renaming getElem?_eq_getElem → xZZ, getElem?_range → xZX, getElem?_map → xZW, mem_map → xZV, map_map → xZT, getElem?_eq_none → xZS
open Option renaming map_eq_some_iff → xZY, bind_eq_some_iff → xZU
open Nat renaming le_refl → xZR
namespace Go.Proofs.Kn
open Go Go.Ev
set_option maxRecDepth 100000
set_option maxHeartbeats 4000000
theorem ft16s (xt:Xt):(SE xt).ft.get 6=some Tryz.f6:=by kernel_rfl
theorem qCa (xt:Xt) (h:Hp) {K:KP} (hk: ∀n,h.n<n->K (.ret (.val (.bool true))) (h.up n)):FnA (SE xt) 6 [] h K:=by
 refine FnA.calm (v:= .ret (.val (.bool true))) ⟨_,h,⟨xZR _,⟨_,ft16s xt,rfl⟩,fun lim _ c w args' g hxt ha=> ?_⟩,rfl,Fr.refl (xZR _)⟩ hk;have:args'=[]:=by simpa [RL] using ha
 subst this;refine (callsIn_wide.2 (known_ok w)).mono fun e w' ⟨h1,h2⟩=>⟨c,Stp.below g h2,_,h1,by simp only [R]⟩
theorem d22:decide ((2:Int)=2)=true:=by decide
def qAj (r:CR) (_:Hp):Prop:=r= .ret (.val (.bool true))
end Go.Proofs.Kn
noncomputable section
namespace Go.Ev
open Go Go.RowKit
section
variable {H:Type} {enc:TypeId×Value->H} {P:Program} {w:World} {base:Nat} {sp:Nat->Bool} {held:Bool}
theorem cells?_at {a:Addr} {n:Nat} {cs:List Value} (h:w.cells? base a n=some cs):cs.length=n/\ ∀(j:Nat) (u:Value),cs[j]? =some u->w.cell? (a.add j)=some u:=by
 unfold World.cells? at h;split at h
 ·have hl:=mapM_some_length h;simp only [List.length_range] at hl;refine ⟨hl,fun j u hu=> ?_⟩;have hj:=(List.getElem?_eq_some_iff.1 hu).1;have hjn:j<n:=by omega
  have:=mapM_some_get h j j (by rw [xZX hjn]);rw [hu] at this;exact this
 ·cases h
theorem yT {α:Type} [Inhabited α] (f:α->List Value) {sz:Nat} {t e:TypeId} {fuel:Nat} {cs:List Value} {x:DataW H×List MemPlace} (ht:P.underlying t=some (.slice e)) (hc:P.cellsOf e=sz) (h0:0<sz) (h:DataW.trod enc P w base sp held fuel t cs=some x)
  (hf: ∀a,(f a).length=sz) (hdec: ∀(n:Nat) (c:List Value) (y:DataW H×List MemPlace),DataW.trod enc P w base sp held n e c=some y-> ∃a,c=f a) (h':Hp):
  ∃(v:Value) (l:List α),cs=[v]/\l.length<=9223372036854775807/\RowAt w.cell? h' sz (.val v) (l.map f):=by
 rcases DataW.trod_slice ht h with ⟨rfl,_⟩|⟨a,len,cap,elems,rest,n,_,rfl,_,_,hlc,hcm,hel,hat,_⟩
 ·exact ⟨_,[],rfl,by simp,by simp,h0,.inl ⟨rfl,rfl⟩⟩
 have hx: ∀i,i<len-> ∃b:α,w.cells? base (a.add (i*sz)) sz=some (f b):=fun i hi=>by
  have:=hat i hi;rw [xZZ (by omega)] at this;obtain ⟨c,h1,h2⟩:=xZU.1 this;obtain ⟨b,rfl⟩:=hdec _ _ _ h2;rw [hc] at h1;exact ⟨b,h1⟩
 let g:Nat->α:=fun i=>if hi:i<len then Classical.choose (hx i hi) else default
 have hg: ∀i,i<len->w.cells? base (a.add (i*sz)) sz=some (f (g i)):=fun i hi=>by
  simp only [g,dif_pos hi];exact Classical.choose_spec (hx i hi)
 have hm:maxLen=9223372036854775807:=rfl;refine ⟨_,(List.range len).map g,rfl,by simp;omega,fun c hc'=> ?_,h0,.inr (.inl ⟨a,cap,by simp,fun i c hi j u hu=> ?_⟩)⟩
 ·simp only [xZT,xZV,Function.comp] at hc';obtain ⟨i,_,rfl⟩:=hc';exact hf _
 ·simp only [xZW,xZY] at hi;obtain ⟨b,⟨k,hk,rfl⟩,rfl⟩:=hi;have hkl:i<len/\k=i:=by
   by_cases hil:i<len
   ·rw [xZX hil] at hk;exact ⟨hil,by simpa using hk.symm⟩
   ·rw [xZS (by simp;omega)] at hk;cases hk
  obtain ⟨hil,rfl⟩:=hkl;have:=(cells?_at (hg k hil)).2 j u hu;rw [qCm] at this;exact this
theorem jA {t ty off:Nat} {fs:Array Field} {fuel:Nat} {cs:List Value} {x:DataW H×List MemPlace} (ht:P.underlying t=some (.struct fs)) (h:DataW.trod enc P w base sp held fuel t cs=some x) (i:Nat) (hf:(fs[i]?).map (fun f=>(f.type,f.offset))=some (ty,off)):
  ∃n y,DataW.trod enc P w base sp held n ty ((cs.drop off).take (P.cellsOf ty))=some y:=by
 obtain ⟨xs,n,_,_,_,hlen,hat⟩:=DataW.trod_struct ht h;cases hfi:fs[i]? with
 |none=>rw [hfi] at hf;cases hf
 |some f=>
  rw [hfi] at hf;simp only [Option.map_some,Option.some.injEq,Prod.mk.injEq] at hf;obtain ⟨rfl,rfl⟩:=hf;have hi:i<xs.length:=by rw [hlen];exact (Array.getElem?_eq_some_iff.1 hfi).1
  exact ⟨n,xs[i],by rw [hat i f hfi];exact xZZ hi⟩
theorem vY {t:Nat} {fs:Array Field} {fuel:Nat} {cs:List Value} {x:DataW H×List MemPlace} (ht:P.underlying t=some (.struct fs)) (h:DataW.trod enc P w base sp held fuel t cs=some x):cs.length=P.cellsOf t:=by
 obtain ⟨_,_,_,_,h1,_⟩:=DataW.trod_struct ht h;exact h1
end
def extCtx (w:World):Ctx:=⟨fun _=>False,fun _=>0,fun _=>0,w.cell?⟩
theorem qFM (lim:Nat) (w:World):Good lim (extCtx w) {t:= .e,n:=0} w:=
 ⟨fun _ _ _ h=>h,fun _ _ h=>by simp at h,fun _ _ _ _ h=>by simp at h,fun _ _ h=>⟨h,fun _ _ h=>by simp at h⟩⟩
end Go.Ev
namespace Go.Proofs.Kn
open Go Go.Ev Go.RowKit
theorem law_run {f:FuncId} {xs:List AV} {args':List Value} {w:World} (hc:FnA (SE w.cell?) f xs {t:= .e,n:=0} qAj) (ha:RL (extCtx w) xs args'):
  Calls Tryz.prog f args'.toArray w fun e w'=>e= .returned (.bool true)/\Below w.heap.size w w':=by
 obtain ⟨res,h',⟨n1,_,s1⟩,rfl⟩:=hc;refine callsIn_wide.1 ((s1 h'.n (xZR _) (extCtx w) w args' (qFM _ w) (fun _ _ h=>h) ha).mono ?_);rintro e w' ⟨c',hst,y,rfl,hy⟩;refine ⟨?_,⟨hst.os,hst.tape,hst.output,hst.size,fun k hk=>hst.fr k hk (fun _ _ h=>by simp at h)⟩⟩;simp only [R] at hy;rw [hy]
end Go.Proofs.Kn
end
noncomputable section
namespace Go.Ev
open Go Go.RowKit
section
variable {H:Type} {enc:TypeId×Value->H} {P:Program} {w:World} {base:Nat} {sp:Nat->Bool} {held:Bool}
theorem qBM {α:Type} [Inhabited α] (f:α->List Value) (Q:α->Prop) {sz:Nat} {t e:TypeId} {fuel:Nat} {cs:List Value} {x:DataW H×List MemPlace} (ht:P.underlying t=some (.slice e)) (hc:P.cellsOf e=sz) (h0:0<sz) (h:DataW.trod enc P w base sp held fuel t cs=some x)
  (hf: ∀a,(f a).length=sz) (hdec: ∀(n:Nat) (c:List Value) (y:DataW H×List MemPlace),DataW.trod enc P w base sp held n e c=some y-> ∃a,c=f a/\Q a) (h':Hp):
  ∃(v:Value) (l:List α),cs=[v]/\l.length<=9223372036854775807/\RowAt w.cell? h' sz (.val v) (l.map f)/\ ∀a∈l,Q a:=by
 rcases DataW.trod_slice ht h with ⟨rfl,_⟩|⟨a,len,cap,elems,rest,n,_,rfl,_,_,hlc,hcm,hel,hat,_⟩
 ·exact ⟨_,[],rfl,by simp,⟨by simp,h0,.inl ⟨rfl,rfl⟩⟩,by simp⟩
 have hx: ∀i,i<len-> ∃b:α,w.cells? base (a.add (i*sz)) sz=some (f b)/\Q b:=fun i hi=>by
  have:=hat i hi;rw [xZZ (by omega)] at this;obtain ⟨c,h1,h2⟩:=xZU.1 this;obtain ⟨b,rfl,hq⟩:=hdec _ _ _ h2;rw [hc] at h1;exact ⟨b,h1,hq⟩
 let g:Nat->α:=fun i=>if hi:i<len then Classical.choose (hx i hi) else default
 have hg: ∀i,i<len->w.cells? base (a.add (i*sz)) sz=some (f (g i))/\Q (g i):=fun i hi=>by
  simp only [g,dif_pos hi];exact Classical.choose_spec (hx i hi)
 have hm:maxLen=9223372036854775807:=rfl;refine ⟨_,(List.range len).map g,rfl,by simp;omega,⟨fun c hc'=> ?_,h0,.inr (.inl ⟨a,cap,by simp,fun i c hi j u hu=> ?_⟩)⟩,fun b hb=> ?_⟩
 ·simp only [xZT,xZV,Function.comp] at hc';obtain ⟨i,_,rfl⟩:=hc';exact hf _
 ·simp only [xZW,xZY] at hi;obtain ⟨b,⟨k,hk,rfl⟩,rfl⟩:=hi;have hkl:i<len/\k=i:=by
   by_cases hil:i<len
   ·rw [xZX hil] at hk;exact ⟨hil,by simpa using hk.symm⟩
   ·rw [xZS (by simp;omega)] at hk;cases hk
  obtain ⟨hil,rfl⟩:=hkl;have:=(cells?_at (hg k hil).1).2 j u hu;rw [qCm] at this;exact this
 ·simp only [xZV,List.mem_range] at hb;obtain ⟨i,hi,rfl⟩:=hb;exact (hg i hi).2
theorem read_grid {t e ee:TypeId} {fuel:Nat} {cs:List Value} {x:DataW H×List MemPlace} (ht:P.underlying t=some (.slice e)) (hc:P.cellsOf e=1) (he:P.underlying e=some (.slice ee)) (hce:P.cellsOf ee=1) (h:DataW.trod enc P w base sp held fuel t cs=some x)
  (hdec: ∀(n:Nat) (c:List Value) (y:DataW H×List MemPlace),DataW.trod enc P w base sp held n ee c=some y-> ∃a:Int,c=[.int .i64 a]) (h':Hp):
  ∃(v:Value) (ll:List (List Int)),cs=[v]/\ll.length<=9223372036854775807/\(∀l∈ll,l.length<=9223372036854775807)/\GridAt w.cell? h' 1 (.val v) (ll.map fun l=>l.map fun a=>[.int .i64 a]):=by
 obtain ⟨v,l,e1,e2,e3,e4⟩:=qBM (α:=Value×List Int) (fun a=>[a.1]) (fun a=>a.2.length<=9223372036854775807/\RowAt w.cell? h' 1 (.val a.1) (a.2.map fun x=>[.int .i64 x])) ht hc (by omega) h (fun _=>rfl) (fun n c y hy=>by
  obtain ⟨v,l,q1,q2,q3⟩:=yT (fun a:Int=>[.int .i64 a]) he hce (by omega) hy (fun _=>rfl) hdec h';exact ⟨(v,l),q1,q2,q3⟩) h'
 refine ⟨v,l.map Prod.snd,e1,by simpa using e2,fun k hk=> ?_,.inl ⟨l.map Prod.fst,?_,by simp,fun i k hk=> ?_⟩⟩
 ·obtain ⟨a,ha,rfl⟩:=xZV.1 hk;exact (e4 a ha).1
 ·rw [xZT];exact e3
 ·simp only [xZW,xZY] at hk;obtain ⟨_,⟨a,ha,rfl⟩,rfl⟩:=hk;refine ⟨a.1,by simp [ha],(e4 a (List.mem_of_getElem? ha)).2⟩
end
end Go.Ev
namespace Go.Proofs.Kn
open Go Go.Ev Go.RowKit Go.ChangeShapes Go.WideShapes Go.ChangeAt
set_option maxRecDepth 100000
noncomputable def q8 (t:TypeId):Array Field:=match Tryz.prog.underlying t with
 |some (.struct fs)=>fs
 |_=> #[]
theorem und3:Tryz.prog.underlying 3=some (.int .i64):=by kernel_rfl
theorem und4:Tryz.prog.underlying 4=some .bool:=by kernel_rfl
theorem und136:Tryz.prog.underlying 155=some (.int .i64):=by kernel_rfl
theorem und22:Tryz.prog.underlying 22=some (.slice 114):=by kernel_rfl
theorem und58:Tryz.prog.underlying 114=some (.slice 155):=by kernel_rfl
theorem und75:Tryz.prog.underlying 31=some (.slice 3):=by kernel_rfl
theorem und23:Tryz.prog.underlying 23=some (.slice 117):=by kernel_rfl
theorem und24:Tryz.prog.underlying 24=some (.slice 120):=by kernel_rfl
theorem und25:Tryz.prog.underlying 25=some (.slice 122):=by kernel_rfl
theorem qCn:Tryz.prog.underlying 27=some (.struct (q8 27)):=by kernel_rfl
theorem und48:Tryz.prog.underlying 117=some (.struct (q8 117)):=by kernel_rfl
theorem und50:Tryz.prog.underlying 120=some (.struct (q8 120)):=by kernel_rfl
theorem und141:Tryz.prog.underlying 122=some (.struct (q8 122)):=by kernel_rfl
theorem co3:Tryz.prog.cellsOf 3=1:=by kernel_rfl
theorem co4:Tryz.prog.cellsOf 4=1:=by kernel_rfl
theorem co136:Tryz.prog.cellsOf 155=1:=by kernel_rfl
theorem co22:Tryz.prog.cellsOf 22=1:=by kernel_rfl
theorem co58:Tryz.prog.cellsOf 114=1:=by kernel_rfl
theorem co75:Tryz.prog.cellsOf 31=1:=by kernel_rfl
theorem co23:Tryz.prog.cellsOf 23=1:=by kernel_rfl
theorem co24:Tryz.prog.cellsOf 24=1:=by kernel_rfl
theorem co25:Tryz.prog.cellsOf 25=1:=by kernel_rfl
theorem co27:Tryz.prog.cellsOf 27=6:=by kernel_rfl
theorem co48:Tryz.prog.cellsOf 117=4:=by kernel_rfl
theorem co50:Tryz.prog.cellsOf 120=3:=by kernel_rfl
theorem co141:Tryz.prog.cellsOf 122=2:=by kernel_rfl
theorem f27_0:((q8 27)[0]?).map (fun f=>(f.type,f.offset))=some (22,0):=by kernel_rfl
theorem f27_1:((q8 27)[1]?).map (fun f=>(f.type,f.offset))=some (3,1):=by kernel_rfl
theorem f27_2:((q8 27)[2]?).map (fun f=>(f.type,f.offset))=some (3,2):=by kernel_rfl
theorem f27_3:((q8 27)[3]?).map (fun f=>(f.type,f.offset))=some (23,3):=by kernel_rfl
theorem f27_4:((q8 27)[4]?).map (fun f=>(f.type,f.offset))=some (24,4):=by kernel_rfl
theorem f27_5:((q8 27)[5]?).map (fun f=>(f.type,f.offset))=some (25,5):=by kernel_rfl
theorem f48_0:((q8 117)[0]?).map (fun f=>(f.type,f.offset))=some (3,0):=by kernel_rfl
theorem f48_1:((q8 117)[1]?).map (fun f=>(f.type,f.offset))=some (3,1):=by kernel_rfl
theorem f48_2:((q8 117)[2]?).map (fun f=>(f.type,f.offset))=some (3,2):=by kernel_rfl
theorem f48_3:((q8 117)[3]?).map (fun f=>(f.type,f.offset))=some (3,3):=by kernel_rfl
theorem f50_0:((q8 120)[0]?).map (fun f=>(f.type,f.offset))=some (3,0):=by kernel_rfl
theorem f50_1:((q8 120)[1]?).map (fun f=>(f.type,f.offset))=some (3,1):=by kernel_rfl
theorem f50_2:((q8 120)[2]?).map (fun f=>(f.type,f.offset))=some (4,2):=by kernel_rfl
theorem f141_0:((q8 122)[0]?).map (fun f=>(f.type,f.offset))=some (3,0):=by kernel_rfl
theorem f141_1:((q8 122)[1]?).map (fun f=>(f.type,f.offset))=some (3,1):=by kernel_rfl
section
variable {H:Type} {enc:TypeId×Value->H} {w:World} {base:Nat} {sp:Nat->Bool} {held:Bool}
theorem zV {n:Nat} {c:List Value} {y:DataW H×List MemPlace} (h:DataW.trod enc Tryz.prog w base sp held n 3 c=some y): ∃a:Int,c=[.int .i64 a]:=by
 obtain ⟨k,e1,_⟩:=DataW.trod_int und3 h;exact ⟨k,e1⟩
theorem dec_cell {n:Nat} {c:List Value} {y:DataW H×List MemPlace} (h:DataW.trod enc Tryz.prog w base sp held n 155 c=some y): ∃a:Int,c=[.int .i64 a]:=by
 obtain ⟨k,e1,_⟩:=DataW.trod_int und136 h;exact ⟨k,e1⟩
theorem dec_bool {n:Nat} {c:List Value} {y:DataW H×List MemPlace} (h:DataW.trod enc Tryz.prog w base sp held n 4 c=some y): ∃a:Bool,c=[.bool a]:=by
 obtain ⟨k,e1,_⟩:=DataW.trod_bool und4 h;exact ⟨k,e1⟩
theorem dec_gauge {n:Nat} {c:List Value} {y:DataW H×List MemPlace} (h:DataW.trod enc Tryz.prog w base sp held n 117 c=some y): ∃a:Int×Int×Int×Int,c=g4 a:=by
 have hl:=vY und48 h;rw [co48] at hl;obtain ⟨_,_,h0⟩:=jA und48 h 0 f48_0;obtain ⟨_,_,h1⟩:=jA und48 h 1 f48_1;obtain ⟨_,_,h2⟩:=jA und48 h 2 f48_2;obtain ⟨_,_,h3⟩:=jA und48 h 3 f48_3;obtain ⟨a,e0⟩:=zV h0;obtain ⟨b,e1⟩:=zV h1;obtain ⟨d,e2⟩:=zV h2;obtain ⟨e,e3⟩:=zV h3;rw [co3] at e0 e1 e2 e3
 match c,hl with
 |[x,y,z,u],_=>
  simp at e0 e1 e2 e3;exact ⟨(a,b,d,e),by simp [g4,e0,e1,e2,e3]⟩
theorem dec_crack {n:Nat} {c:List Value} {y:DataW H×List MemPlace} (h:DataW.trod enc Tryz.prog w base sp held n 120 c=some y): ∃a:Int×Int×Bool,c=k3 a:=by
 have hl:=vY und50 h;rw [co50] at hl;obtain ⟨_,_,h0⟩:=jA und50 h 0 f50_0;obtain ⟨_,_,h1⟩:=jA und50 h 1 f50_1;obtain ⟨_,_,h2⟩:=jA und50 h 2 f50_2;obtain ⟨a,e0⟩:=zV h0;obtain ⟨b,e1⟩:=zV h1;obtain ⟨d,e2⟩:=dec_bool h2;rw [co3] at e0 e1;rw [co4] at e2
 match c,hl with
 |[x,y,z],_=>
  simp at e0 e1 e2;exact ⟨(a,b,d),by simp [k3,e0,e1,e2]⟩
theorem dec_place {n:Nat} {c:List Value} {y:DataW H×List MemPlace} (h:DataW.trod enc Tryz.prog w base sp held n 122 c=some y): ∃a:Int×Int,c=p2 a:=by
 have hl:=vY und141 h;rw [co141] at hl;obtain ⟨_,_,h0⟩:=jA und141 h 0 f141_0;obtain ⟨_,_,h1⟩:=jA und141 h 1 f141_1;obtain ⟨a,e0⟩:=zV h0;obtain ⟨b,e1⟩:=zV h1;rw [co3] at e0 e1
 match c,hl with
 |[x,y],_=>
  simp at e0 e1;exact ⟨(a,b),by simp [p2,e0,e1]⟩
theorem read_mapc {fuel:Nat} {cs:List Value} {x:DataW H×List MemPlace} (hf:DataW.trod enc Tryz.prog w base sp held fuel 27 cs=some x) (h':Hp): ∃(m:Mp) (v1 v2 v3 v4:Value),m.At w.cell? h'/\m.vc= .val v1/\m.vg= .val v2/\m.vk= .val v3/\m.vp= .val v4/\cs=[v1,.int .i64 m.T,.int .i64 m.H,v2,v3,v4]:=by
 have hl:=vY qCn hf;rw [co27] at hl;obtain ⟨_,_,h0⟩:=jA qCn hf 0 f27_0;obtain ⟨_,_,h1⟩:=jA qCn hf 1 f27_1;obtain ⟨_,_,h2⟩:=jA qCn hf 2 f27_2;obtain ⟨_,_,h3⟩:=jA qCn hf 3 f27_3;obtain ⟨_,_,h4⟩:=jA qCn hf 4 f27_4;obtain ⟨_,_,h5⟩:=jA qCn hf 5 f27_5;obtain ⟨v1,ll,e0,hl0,hr0,hg0⟩:=read_grid und22 co58 und58 co136 h0 (fun _ _ _ h=>dec_cell h) h';obtain ⟨a,e1⟩:=zV h1;obtain ⟨b,e2⟩:=zV h2;obtain ⟨v2,l2,e3,hl2,hr2⟩:=yT g4 und23 co48 (by omega) h3 (fun _=>rfl) (fun _ _ _ h=>dec_gauge h) h';obtain ⟨v3,l3,e4,hl3,hr3⟩:=yT k3 und24 co50 (by omega) h4 (fun _=>rfl) (fun _ _ _ h=>dec_crack h) h';obtain ⟨v4,l4,e5,hl4,hr4⟩:=yT p2 und25 co141 (by omega) h5 (fun _=>rfl) (fun _ _ _ h=>dec_place h) h';rw [co22] at e0;rw [co3] at e1 e2;rw [co23] at e3;rw [co24] at e4;rw [co25] at e5;refine ⟨{vc:= .val v1,vg:= .val v2,vk:= .val v3,vp:= .val v4,cells:=ll,T:=a,H:=b,gs:=l2,ks:=l3,ps:=l4},v1,v2,v3,v4,⟨hg0,hr2,hr3,hr4,hl0,hr0,hl2,hl3,hl4⟩,rfl,rfl,rfl,rfl,?_⟩
 match hq:cs,hl with
 |[x0,x1,x2,x3,x4,x5],_=>
  simp at e0 e1 e2 e3 e4 e5;simp [e0,e1,e2,e3,e4,e5]
end
theorem kids:Kids Tryz.prog (· <Tryz.prog.types.size):=kids_rows (by kernel_rfl) (by kernel_rfl)
theorem full: ∀t e,t<Tryz.prog.types.size->Tryz.prog.underlying t=some (.slice e)->0<Tryz.prog.cellsOf e:=slices_full_of _ (by kernel_rfl)
theorem ownK:ownKnob Tryz.prog.godebug=none:=by kernel_rfl
end Go.Proofs.Kn
end
