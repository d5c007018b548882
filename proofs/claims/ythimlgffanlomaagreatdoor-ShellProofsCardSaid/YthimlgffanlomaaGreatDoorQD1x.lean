/- Parts. -/
import Derived.Test.YthimlgffanlomaaGreatDoorQN2
import Derived.Test.YthimlgffanlomaaGreatDoorQC4x
set_option linter.all false
open Nat renaming le_refl → xZZ
open List renaming getElem?_map → xZY
noncomputable section
namespace Go.Proofs.Kn
open Go Go.Ev Go.RowKit Go.ChangeShapes Go.WideShapes Go.ChangeAt
set_option maxRecDepth 100000
theorem und91:Tryz.prog.underlying 32=some (.slice 52):=by kernel_rfl
theorem und93:Tryz.prog.underlying 34=some (.struct (q8 34)):=by kernel_rfl
theorem qEf:Tryz.prog.underlying 52=some (.struct (q8 52)):=by kernel_rfl
theorem co91:Tryz.prog.cellsOf 32=1:=by kernel_rfl
theorem co93:Tryz.prog.cellsOf 34=2:=by kernel_rfl
theorem co118:Tryz.prog.cellsOf 52=3:=by kernel_rfl
theorem f93_0:((q8 34)[0]?).map (fun f=>(f.type,f.offset))=some (31,0):=by kernel_rfl
theorem f93_1:((q8 34)[1]?).map (fun f=>(f.type,f.offset))=some (32,1):=by kernel_rfl
theorem f118_0:((q8 52)[0]?).map (fun f=>(f.type,f.offset))=some (3,0):=by kernel_rfl
theorem f118_1:((q8 52)[1]?).map (fun f=>(f.type,f.offset))=some (3,1):=by kernel_rfl
theorem f118_2:((q8 52)[2]?).map (fun f=>(f.type,f.offset))=some (31,2):=by kernel_rfl
structure Pf where
 vr:AV
 vb:AV
 rl:List Int
 bl:List (Int×Int×List Int)
def Pf.av (p:Pf):AV:= .agg [p.vr,p.vb]
structure Pf.At (p:Pf) (xt:Xt) (h:Hp):Prop where
 r:Nums xt h p.vr p.rl
 c:xH p.vr
 b:BAt xt h p.vb p.bl
theorem qGq (xt:Xt) (h:Hp) (w:Wk) (ha:w.At xt h) (p:Pf) (hp:p.At xt h):FnA (SE xt) 3 [w.av,p.av] h qAj:=qFn xt h w ha p.vr p.vb p.rl p.bl hp.r hp.c hp.b
def bc3 (a:Int×Int×Value×List Int):List Value:=[.int .i64 a.1,.int .i64 a.2.1,a.2.2.1]
section
variable {H:Type} {enc:TypeId×Value->H} {w:World} {base:Nat} {sp:Nat->Bool} {held:Bool}
theorem slice_cap {t e:TypeId} {fuel:Nat} {cs:List Value} {x:DataW H×List MemPlace} {v:Value} (ht:Tryz.prog.underlying t=some (.slice e)) (h:DataW.trod enc Tryz.prog w base sp held fuel t cs=some x) (hv:cs=[v]):xH (.val v):=by
 rcases DataW.trod_slice ht h with ⟨e1,_⟩|⟨a',len',cap',elems,rest,n,_,e1,_,_,hlc,hcm,_⟩
 ·rw [e1] at hv;cases hv;intro ad n c e;cases e;exact xZZ _
 ·rw [e1] at hv;cases hv;intro ad n c e;cases e;exact hlc
theorem qDQ {fuel:Nat} {cs:List Value} {x:DataW H×List MemPlace} (h:DataW.trod enc Tryz.prog w base sp held fuel 31 cs=some x) (h':Hp): ∃(v:Value) (l:List Int),cs=[v]/\Nums w.cell? h' (.val v) l/\xH (.val v):=by
 obtain ⟨v,l,e1,e2,e3⟩:=yT Kn.c1 und75 co3 (by omega) h (fun _=>rfl) (fun _ _ _ hy=>zV hy) h';exact ⟨v,l,e1,⟨e3,e2⟩,slice_cap und75 h e1⟩
theorem dec_band {n:Nat} {c:List Value} {y:DataW H×List MemPlace} (h:DataW.trod enc Tryz.prog w base sp held n 52 c=some y) (h':Hp): ∃a:Int×Int×Value×List Int,c=bc3 a/\Nums w.cell? h' (.val a.2.2.1) a.2.2.2/\xH (.val a.2.2.1):=by
 have hl:=vY qEf h;rw [co118] at hl;obtain ⟨_,_,h0⟩:=jA qEf h 0 f118_0;obtain ⟨_,_,h1⟩:=jA qEf h 1 f118_1;obtain ⟨_,_,h2⟩:=jA qEf h 2 f118_2;obtain ⟨a,e0⟩:=zV h0;obtain ⟨b,e1⟩:=zV h1;obtain ⟨v,l,e2,e3,e4⟩:=qDQ h2 h';rw [co3] at e0 e1;rw [co75] at e2
 match c,hl with
 |[x,y,z],_=>
  simp at e0 e1 e2;exact ⟨(a,b,v,l),by simp [bc3,e0,e1,e2],e3,e4⟩
theorem qGp {fuel:Nat} {cs:List Value} {x:DataW H×List MemPlace} (h:DataW.trod enc Tryz.prog w base sp held fuel 32 cs=some x) (h':Hp): ∃(v:Value) (bl:List (Int×Int×List Int)),cs=[v]/\BAt w.cell? h' (.val v) bl:=by
 obtain ⟨v,l,e1,e2,e3,e4⟩:=qBM bc3 (fun a=>Nums w.cell? h' (.val a.2.2.1) a.2.2.2/\xH (.val a.2.2.1)) und91 co118 (by omega) h (fun _=>rfl) (fun _ _ _ hy=>dec_band hy h') h';refine ⟨v,l.map fun a=>(a.1,a.2.1,a.2.2.2),e1,⟨fun h''=> ?_,by simpa using e2,e3.one,e3.cells,fun i b hb=> ?_⟩⟩
 ·have:=e3.len (h':=h'') pY rfl;simpa using this
 ·rw [xZY] at hb;obtain ⟨a,ha,rfl⟩:=Option.map_eq_some_iff.1 hb;have hi:=(List.getElem?_eq_some_iff.1 ha).1;have hc:(l.map bc3)[i]? =some (bc3 a):=by rw [xZY,ha];rfl
  have hne:l.map bc3≠[]:=by intro e;rw [e] at hc;simp at hc
  obtain ⟨q1,q2⟩:=e4 a (List.mem_of_getElem? ha);exact ⟨_,_,_,_,.val a.2.2.1,⟨e3.idx pY rfl xP rfl (i:=i) (by simpa using hi) (k:= .i64),e3.fa hne xP rfl (f:=0) (o:=0) (s:=0) (ft:=3) rfl (i*3),e3.fa hne xP rfl (f:=1) (o:=1) (s:=0) (ft:=3) rfl (i*3),e3.fa hne xP rfl (f:=2) (o:=2) (s:=0) (ft:=31) rfl (i*3)⟩,fun h'' f=>⟨⟨(e3.fr f (xZZ _)).loadA xP rfl rfl hc,(e3.fr f (xZZ _)).load tg3 rfl (i:=i) (j:=0) hc rfl,(e3.fr f (xZZ _)).load tg3 rfl (i:=i) (j:=1) hc rfl,(e3.fr f (xZZ _)).load vX rfl (i:=i) (j:=2) hc rfl⟩,q1.fr f (xZZ _),q2⟩⟩
theorem qGo {t:Value} {d:DataW H} {ps:List MemPlace} {r:Reach} {b0:Nat} (hval:Value.okWide Tryz.prog w r b0 34 t) (hd:DataW.Trod enc Tryz.prog w base sp held 34 t d ps) (h':Hp):
  ∃p:Pf,p.At w.cell? h'/\ ∀c,R c p.av t:=by
 obtain ⟨cs,rfl⟩: ∃cs,t= .agg cs:=by
  unfold Value.okWide at hval;rw [und93] at hval;obtain ⟨cs,rfl,_⟩:=hval;exact ⟨cs,rfl⟩
 obtain ⟨fuel,hf⟩:=hd;change DataW.trod enc Tryz.prog w base sp held fuel 34 cs.toList=_ at hf;have hl:=vY und93 hf;rw [co93] at hl;obtain ⟨_,_,h0⟩:=jA und93 hf 0 f93_0;obtain ⟨_,_,h1⟩:=jA und93 hf 1 f93_1;obtain ⟨v,l,e1,e2,e3⟩:=qDQ h0 h';obtain ⟨u,bl,e4,e5⟩:=qGp h1 h';rw [co75] at e1;rw [co91] at e4;refine ⟨⟨.val v,.val u,l,bl⟩,⟨e2,e3,e5⟩,fun cx=> ?_⟩;have:cs=[v,u].toArray:=by
  apply Array.ext'
  match hq:cs.toList,hl with
  |[x0,x1],_=>
   rw [hq] at e1 e4;simp at e1 e4;simp [e1,e4]
 subst this;simp only [R,Pf.av];exact ⟨_,rfl,by simp [RL,R]⟩
end
end Go.Proofs.Kn
end
