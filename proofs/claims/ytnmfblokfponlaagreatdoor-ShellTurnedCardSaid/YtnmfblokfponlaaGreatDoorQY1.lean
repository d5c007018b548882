/- MvM2, MvU0: texts in a row, joined by a program. -/
import Derived.Test.YtnmfblokfponlaaGreatDoorQX1
import Derived.Test.YtnmfblokfponlaaGreatDoorQS
import Derived.Test.YtnmfblokfponlaaGreatDoorQR
set_option linter.all false
namespace Go.Proofs.Kn
open Go Go.Ev
set_option maxRecDepth 100000
set_option maxHeartbeats 4000000
end Go.Proofs.Kn
noncomputable section
namespace Go.Proofs.Kn
open Go Go.Ev Go.RowKit Go.ChangeShapes Go.WideShapes Go.ChangeAt
set_option maxRecDepth 100000
theorem und30:Tryz.prog.underlying 30=some (.struct (qY 30)):=by kernel_rfl
theorem und28:Tryz.prog.underlying 28=some (.slice 90):=by kernel_rfl
theorem und90:Tryz.prog.underlying 90=some (.struct (qY 90)):=by kernel_rfl
theorem co30:Tryz.prog.cellsOf 30=8:=by kernel_rfl
theorem co28:Tryz.prog.cellsOf 28=1:=by kernel_rfl
theorem co90:Tryz.prog.cellsOf 90=3:=by kernel_rfl
theorem f30_0:((qY 30)[0]?).map (fun f=>(f.type,f.offset))=some (27,0):=by kernel_rfl
theorem f30_1:((qY 30)[1]?).map (fun f=>(f.type,f.offset))=some (28,6):=by kernel_rfl
theorem f30_2:((qY 30)[2]?).map (fun f=>(f.type,f.offset))=some (3,7):=by kernel_rfl
theorem f90_0:((qY 90)[0]?).map (fun f=>(f.type,f.offset))=some (3,0):=by kernel_rfl
theorem f90_1:((qY 90)[1]?).map (fun f=>(f.type,f.offset))=some (3,1):=by kernel_rfl
theorem f90_2:((qY 90)[2]?).map (fun f=>(f.type,f.offset))=some (3,2):=by kernel_rfl
section
variable {H:Type} {enc:TypeId×Value->H} {w:World} {base:Nat} {sp:Nat->Bool} {held:Bool}
theorem dec_three {t:TypeId} (hu:Tryz.prog.underlying t=some (.struct (qY t))) (hc:Tryz.prog.cellsOf t=3) (g0:((qY t)[0]?).map (fun f=>(f.type,f.offset))=some (3,0)) (g1:((qY t)[1]?).map (fun f=>(f.type,f.offset))=some (3,1)) (g2:((qY t)[2]?).map (fun f=>(f.type,f.offset))=some (3,2))
  {n:Nat} {c:List Value} {y:DataW H×List MemPlace} (h:DataW.trod enc Tryz.prog w base sp held n t c=some y): ∃a:Int×Int×Int,c=Kn.t3 a:=by
 have hl:=kO hu h;rw [hc] at hl;obtain ⟨_,_,h0⟩:=jB hu h 0 g0;obtain ⟨_,_,h1⟩:=jB hu h 1 g1;obtain ⟨_,_,h2⟩:=jB hu h 2 g2;obtain ⟨a,e0⟩:=vG h0;obtain ⟨b,e1⟩:=vG h1;obtain ⟨d,e2⟩:=vG h2;rw [co3] at e0 e1 e2
 match c,hl with
 |[x,y,z],_=>
  simp at e0 e1 e2;exact ⟨(a,b,d),by simp [Kn.t3,e0,e1,e2]⟩
theorem read_work {t:Value} {d:DataW H} {ps:List MemPlace} {r:Reach} {b0:Nat} (hval:Value.okWide Tryz.prog w r b0 30 t) (hd:DataW.Trod enc Tryz.prog w base sp held 30 t d ps) (h':Hp):
  ∃k:Wk,k.At w.cell? h'/\ ∀c,R c k.av t:=by
 obtain ⟨cs,rfl⟩: ∃cs,t= .agg cs:=by
  unfold Value.okWide at hval;rw [und30] at hval;obtain ⟨cs,rfl,_⟩:=hval;exact ⟨cs,rfl⟩
 obtain ⟨fuel,hf⟩:=hd;change DataW.trod enc Tryz.prog w base sp held fuel 30 cs.toList=_ at hf;have hl:=kO und30 hf;rw [co30] at hl;obtain ⟨_,_,h0⟩:=jB und30 hf 0 f30_0;obtain ⟨_,_,h1⟩:=jB und30 hf 1 f30_1;obtain ⟨_,_,h2⟩:=jB und30 hf 2 f30_2;obtain ⟨m,v1,v2,v3,v4,ha,e1,e2,e3,e4,hcs⟩:=read_mapc h0 h';obtain ⟨v5,l5,e5,hl5,hr5⟩:=yV Kn.t3 und28 co90 (by omega) h1 (fun _=>rfl) (fun _ _ _ h=>dec_three und90 co90 f90_0 f90_1 f90_2 h) h';obtain ⟨b,e6⟩:=vG h2;rw [co27] at hcs;rw [co28] at e5;rw [co3] at e6;refine ⟨⟨m,.val v5,l5,b⟩,⟨ha,hr5,hl5⟩,fun cx=> ?_⟩;have:cs=[v1,.int .i64 m.T,.int .i64 m.H,v2,v3,v4,v5,.int .i64 b].toArray:=by
  apply Array.ext'
  match hq:cs.toList,hl with
  |[x0,x1,x2,x3,x4,x5,x6,x7],_=>
   rw [hq] at hcs e5 e6;simp at hcs e5 e6;simp [hcs,e5,e6]
 subst this;simp only [R];exact ⟨_,rfl,by simp [RL,R,e1,e2,e3,e4]⟩
end
end Go.Proofs.Kn
end
