/- Parts. -/
import Derived.Test.YthimlgffanlomaaGreatDoorQW
set_option linter.all false
open Bool renaming and_eq_true → xZZ, or_eq_false_iff → xZY, not_eq_false' → xZX, false_eq_true → xZW, not_eq_true' → xZU, not_eq_true → xZT
open List renaming any_eq_false → xZV
namespace Go.Proofs.Kn
open Go Go.Ev
set_option maxRecDepth 100000
set_option maxHeartbeats 4000000
theorem Mp.ok_rect {m:Mp} (h:m.ok=true):m.Rect:=fun l hl=>by
 simp only [Mp.ok,xZZ] at h;have:=List.all_eq_true.1 h.2.1 l hl;simp only [Mp.rowOk,xZZ] at this;have q1:(l.length:Int)=(m.cells.headD []).length:=by simpa [Mp.C] using this.1
 omega
theorem kQ {x a b:Int}:inB x a b=true↔a<=x/\x<=b:=by simp [inB]
def Wk.tb (w:Wk) (q:Nat):Int×Int×Int:=w.ts.getD q (0,0,0)
def Wk.isT (w:Wk) (s:Int×Int×Int):Bool:=inB s.2.2 0 ((w.ts.length:Int) - 1)
structure Wk.Is (w:Wk):Prop where
 m:w.m.Is w.m.cells.length w.m.W
 rc:w.m.Rect
 t0:1<=w.ts.length
 t4:w.ts.length<=4
 k0:0<=w.kerf
 k5:w.kerf<=5
 ts: ∀t∈w.ts,(1<=t.1/\t.1<=3)/\(1<=t.2.1/\t.2.1<=60)/\1<=t.2.2/\t.2.2<=100
theorem Wk.ok_is {w:Wk} (h:w.ok=true):w.Is:=by
 simp only [Wk.ok,xZZ,xZU,xZV] at h;obtain ⟨h1,h2,h3,h4⟩:=h;rw [kQ] at h2 h3;refine ⟨Mp.ok_is h1,Mp.ok_rect h1,by omega,by omega,h3.1,h3.2,fun t ht=> ?_⟩;have:=h4 t ht;simp only [uP,xZT,xZY,xZX,kQ] at this;exact this
structure Tub (w:Wk) (q n:Nat) (th wo:Int):Prop where
 at_:w.ts[q]? =some ((n:Int),th,wo)
 tb:w.tb q=((n:Int),th,wo)
 n1:1<=n
 n3:n<=3
 h1:1<=th
 h60:th<=60
 w1:1<=wo
 w100:wo<=100
theorem Wk.Is.tub {w:Wk} (h:w.Is) {q:Nat} (hq:q<w.ts.length): ∃n th wo,Tub w q n th wo:=by
 have e:=List.getElem?_eq_getElem hq;obtain ⟨⟨a1,a2⟩,⟨a3,a4⟩,a5,a6⟩:=h.ts _ (List.getElem_mem hq);obtain ⟨⟨n,th,wo⟩,hx⟩: ∃t,w.ts[q]=t:=⟨_,rfl⟩;rw [hx] at e a1 a2 a3 a4 a5 a6;simp only at a1 a2 a3 a4 a5 a6;obtain ⟨k,rfl⟩: ∃k:Nat,n=k:=⟨n.toNat,by omega⟩;refine ⟨k,th,wo,e,?_,by omega,by omega,a3,a4,a5,a6⟩;simp only [Wk.tb,List.getD_eq_getElem?_getD,e,Option.getD_some]
theorem Wk.Is.tub' {w:Wk} (h:w.Is) {s:Int×Int×Int} (hs:w.isT s=true): ∃q n th wo,s.2.2=(q:Nat)/\Tub w q n th wo:=by
 rw [Wk.isT,kQ] at hs;obtain ⟨n,th,wo,ht⟩:=h.tub (q:=s.2.2.toNat) (by omega);exact ⟨_,n,th,wo,by omega,ht⟩
def Wk.pcan (w:Wk) (s:Int×Int×Int):Bool:=w.m.pcan w.m.cells.length w.m.W (w.tb s.2.2.toNat).1.toNat s.1 s.2.1
def Wk.give (w:Wk) (t:Nat->Nat->Int) (s:Int×Int×Int):Int:=(zC t s.1.toNat s.2.1.toNat (w.tb s.2.2.toNat).1.toNat (w.tb s.2.2.toNat).1.toNat+w.kerf).tdiv ((w.tb s.2.2.toNat).2.1+w.kerf)
theorem Wk.pcan_in {w:Wk} {q n:Nat} {th wo:Int} (ht:Tub w q n th wo) {a b:Int} (h:w.pcan (a,b,(q:Int))=true): ∃r0 c0:Nat,a=r0/\b=c0/\r0+n<=w.m.cells.length/\c0+n<=w.m.W:=by
 simp only [Wk.pcan,Int.toNat_natCast,ht.tb,Mp.pcan,xZZ] at h;obtain ⟨h1,h2,_⟩:=h;rw [kQ] at h1 h2;exact ⟨a.toNat,b.toNat,by omega,by omega,by omega,by omega⟩
theorem Wk.pcan_q {w:Wk} {q n:Nat} {th wo:Int} (ht:Tub w q n th wo) (a b:Int):w.pcan (a,b,(q:Int))=w.m.pcan w.m.cells.length w.m.W n a b:=by simp [Wk.pcan,ht.tb]
theorem Wk.give_q {w:Wk} {q n:Nat} {th wo:Int} (ht:Tub w q n th wo) (t:Nat->Nat->Int) (r0 c0:Nat):w.give t ((r0:Int),(c0:Int),(q:Int))=(zC t r0 c0 n n+w.kerf).tdiv (th+w.kerf):=by simp [Wk.give,ht.tb]
theorem is_rc {m:Mp} (hr:m.Rect) (r c:Int):m.is r c 2=decide (m.rc r c=2):=by
 rw [Mp.rc_in hr,Mp.is];cases m.inside r c<;>simp
theorem crkIn_iff {r0 c0 n:Nat} {k:Int×Int×Bool}:qAe r0 c0 n k=true↔(((r0:Int)<=k.1/\k.1<=r0+(n - 1))/\(c0:Int)<=k.2.1/\k.2.1<=c0+(n - 1))/\((r0:Int)<=bZ k/\bZ k<=r0+(n - 1))/\(c0:Int)<=b8 k/\b8 k<=c0+(n - 1):=by
 simp only [qAe,hasB,xZZ,kQ]
theorem crk_iff {m:Mp} {r c:Int} {b:Bool}:m.crk r c b=true↔(r,c,b)∈m.ks:=by
 simp only [Mp.crk,List.any_eq_true,xZZ,decide_eq_true_eq];constructor
 ·rintro ⟨⟨x,y,z⟩,h1,rfl,rfl,rfl⟩;exact h1
 ·intro h;exact ⟨_,h,rfl,rfl,rfl⟩
theorem qBh {m:Mp} (hr:m.Rect) (R C n:Nat) (a b:Int) (hR:R<=100) (hC:C<=100):m.rcan R C n a b=m.pcan R C n a b:=by
 rw [Bool.eq_iff_iff];simp only [Mp.rcan,Mp.pcan,xZZ,yY,Mp.rcBad,xZU,xZY,Bool.and_eq_false_iff,decide_eq_false_iff_not,is_rc hr,xZV,crkIn_iff,xZX,decide_eq_true_eq];rw [kQ,kQ];have hc: ∀r c b,m.crk r c b=false↔(r,c,b) ∉ m.ks:=fun r c b=>by
  rw [<-crk_iff,xZT]
 simp only [hc];constructor
 ·rintro ⟨h1,h2,h3⟩;refine ⟨h1,h2,fun i hi j hj=>(h3 i hi j hj).1,?_⟩;rintro ⟨x,y,z⟩ hk ⟨⟨⟨p1,p2⟩,p3,p4⟩,⟨p5,p6⟩,p7,p8⟩;simp only at p1 p2 p3 p4;obtain ⟨i,rfl⟩: ∃i:Nat,x=((a.toNat+i:Nat):Int):=⟨(x - a.toNat).toNat,by omega⟩;obtain ⟨j,rfl⟩: ∃j:Nat,y=((b.toNat+j:Nat):Int):=⟨(y - b.toNat).toNat,by omega⟩;obtain ⟨_,q2,q3⟩:=h3 i (by omega) j (by omega);cases z with
  |true=>
   simp only [bZ,b8,if_true] at p5 p6 p7 p8;rw [qF _ (by omega) (by omega)] at p5 p6;rcases q3 with q3|q3
   ·omega
   ·exact q3 hk
  |false=>
   simp only [bZ,b8,xZW,if_false] at p5 p6 p7 p8;rw [qF _ (by omega) (by omega)] at p7 p8;rcases q2 with q2|q2
   ·omega
   ·exact q2 hk
 ·rintro ⟨h1,h2,h3,h4⟩;refine ⟨h1,h2,fun i hi j hj=>⟨h3 i hi j hj,?_,?_⟩⟩
  ·by_cases q:(((b.toNat+j:Nat):Int))+1<((b.toNat+n:Nat):Int)
   ·refine .inr fun hk=>h4 _ hk ?_;simp only [bZ,b8,xZW,if_false];rw [qF _ (by omega) (by omega)];omega
   ·exact .inl q
  ·by_cases q:(((a.toNat+i:Nat):Int))+1<((a.toNat+n:Nat):Int)
   ·refine .inr fun hk=>h4 _ hk ?_;simp only [bZ,b8,if_true];rw [qF _ (by omega) (by omega)];omega
   ·exact .inl q
theorem qAw {t t':Nat->Int} {c:Nat}: ∀(n:Nat) (a:Int),(∀j,j<n->t (c+j)=t' (c+j))->vZ t c n a=vZ t' c n a
 |0,_,_=>rfl
 |n+1,a,h=>by simp only [vZ];rw [qAw n a fun j hj=>h j (by omega),h n (by omega)]
theorem qA4 {t t':Nat->Nat->Int} {r c n:Nat}: ∀k:Nat,(∀i,i<k-> ∀j,j<n->t (r+i) (c+j)=t' (r+i) (c+j))->zC t r c n k=zC t' r c n k
 |0,_=>rfl
 |k+1,h=>by
  simp only [zC];rw [qA4 k fun i hi j hj=>h i (by omega) j hj,qAw n _ fun j hj=>h k (by omega) j hj]
theorem qEI (xt:Xt) (h:Hp) (N M R C:Nat) (v:AV) (F:Nat->Nat->Int×Int) (hs:SG h N M v R C F) (hM:M<=h.n) (hR:R<=100) (hC:C<=100) (b:Bool):
  FnA (SE xt) 50 [v,.val (.bool b)] h (fun res h'=> ∃w,res= .ret w/\Fr h.n h h'/\h.n<h'.n/\(⟨w,yJ b F R C⟩:Gr).At xt h'):=by
 refine FnA.inc (FnA.mono (ends_c xt h N M R C v F hs hM hR hC b) fun res ka hres=> ?_);obtain ⟨w,rfl,f,l⟩:=hres;have:=f.le;exact ⟨w,rfl,f.up (Nat.le_succ _),by rw [Hp.up_n];omega,ends_at (l.up (Nat.le_succ _)) hR hC⟩
end Go.Proofs.Kn
noncomputable section
namespace Go.Proofs.Kn
open Go Go.Ev Go.RowKit Go.ChangeShapes Go.WideShapes Go.ChangeAt
set_option maxRecDepth 100000
theorem und30:Tryz.prog.underlying 30=some (.struct (q8 30)):=by kernel_rfl
theorem und28:Tryz.prog.underlying 28=some (.slice 111):=by kernel_rfl
theorem und90:Tryz.prog.underlying 111=some (.struct (q8 111)):=by kernel_rfl
theorem co30:Tryz.prog.cellsOf 30=8:=by kernel_rfl
theorem co28:Tryz.prog.cellsOf 28=1:=by kernel_rfl
theorem co90:Tryz.prog.cellsOf 111=3:=by kernel_rfl
theorem f30_0:((q8 30)[0]?).map (fun f=>(f.type,f.offset))=some (27,0):=by kernel_rfl
theorem f30_1:((q8 30)[1]?).map (fun f=>(f.type,f.offset))=some (28,6):=by kernel_rfl
theorem f30_2:((q8 30)[2]?).map (fun f=>(f.type,f.offset))=some (3,7):=by kernel_rfl
theorem f90_0:((q8 111)[0]?).map (fun f=>(f.type,f.offset))=some (3,0):=by kernel_rfl
theorem f90_1:((q8 111)[1]?).map (fun f=>(f.type,f.offset))=some (3,1):=by kernel_rfl
theorem f90_2:((q8 111)[2]?).map (fun f=>(f.type,f.offset))=some (3,2):=by kernel_rfl
section
variable {H:Type} {enc:TypeId×Value->H} {w:World} {base:Nat} {sp:Nat->Bool} {held:Bool}
theorem dec_three {t:TypeId} (hu:Tryz.prog.underlying t=some (.struct (q8 t))) (hc:Tryz.prog.cellsOf t=3) (g0:((q8 t)[0]?).map (fun f=>(f.type,f.offset))=some (3,0)) (g1:((q8 t)[1]?).map (fun f=>(f.type,f.offset))=some (3,1)) (g2:((q8 t)[2]?).map (fun f=>(f.type,f.offset))=some (3,2))
  {n:Nat} {c:List Value} {y:DataW H×List MemPlace} (h:DataW.trod enc Tryz.prog w base sp held n t c=some y): ∃a:Int×Int×Int,c=Kn.t3 a:=by
 have hl:=vY hu h;rw [hc] at hl;obtain ⟨_,_,h0⟩:=jA hu h 0 g0;obtain ⟨_,_,h1⟩:=jA hu h 1 g1;obtain ⟨_,_,h2⟩:=jA hu h 2 g2;obtain ⟨a,e0⟩:=zV h0;obtain ⟨b,e1⟩:=zV h1;obtain ⟨d,e2⟩:=zV h2;rw [co3] at e0 e1 e2
 match c,hl with
 |[x,y,z],_=>
  simp at e0 e1 e2;exact ⟨(a,b,d),by simp [Kn.t3,e0,e1,e2]⟩
theorem read_work {t:Value} {d:DataW H} {ps:List MemPlace} {r:Reach} {b0:Nat} (hval:Value.okWide Tryz.prog w r b0 30 t) (hd:DataW.Trod enc Tryz.prog w base sp held 30 t d ps) (h':Hp):
  ∃k:Wk,k.At w.cell? h'/\ ∀c,R c k.av t:=by
 obtain ⟨cs,rfl⟩: ∃cs,t= .agg cs:=by
  unfold Value.okWide at hval;rw [und30] at hval;obtain ⟨cs,rfl,_⟩:=hval;exact ⟨cs,rfl⟩
 obtain ⟨fuel,hf⟩:=hd;change DataW.trod enc Tryz.prog w base sp held fuel 30 cs.toList=_ at hf;have hl:=vY und30 hf;rw [co30] at hl;obtain ⟨_,_,h0⟩:=jA und30 hf 0 f30_0;obtain ⟨_,_,h1⟩:=jA und30 hf 1 f30_1;obtain ⟨_,_,h2⟩:=jA und30 hf 2 f30_2;obtain ⟨m,v1,v2,v3,v4,ha,e1,e2,e3,e4,hcs⟩:=read_mapc h0 h';obtain ⟨v5,l5,e5,hl5,hr5⟩:=yT Kn.t3 und28 co90 (by omega) h1 (fun _=>rfl) (fun _ _ _ h=>dec_three und90 co90 f90_0 f90_1 f90_2 h) h';obtain ⟨b,e6⟩:=zV h2;rw [co27] at hcs;rw [co28] at e5;rw [co3] at e6;refine ⟨⟨m,.val v5,l5,b⟩,⟨ha,hr5,hl5⟩,fun cx=> ?_⟩;have:cs=[v1,.int .i64 m.T,.int .i64 m.H,v2,v3,v4,v5,.int .i64 b].toArray:=by
  apply Array.ext'
  match hq:cs.toList,hl with
  |[x0,x1,x2,x3,x4,x5,x6,x7],_=>
   rw [hq] at hcs e5 e6;simp at hcs e5 e6;simp [hcs,e5,e6]
 subst this;simp only [R];exact ⟨_,rfl,by simp [RL,R,e1,e2,e3,e4]⟩
end
end Go.Proofs.Kn
end
