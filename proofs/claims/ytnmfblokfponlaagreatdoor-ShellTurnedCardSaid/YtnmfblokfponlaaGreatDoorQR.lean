/- MvH8, SyEq, MvH9, MvI1: texts in a row, joined by a program. -/
import Derived.Test.YtnmfblokfponlaaGreatDoorQP
import Derived.Test.YtnmfblokfponlaaGreatDoorQD
set_option linter.all false
open Nat renaming reduceEqDiff → rE, reduceLeDiff → rD, reduceAdd → rA, reduceMul → rM, reduceLT → rL
open Go.Ev.T renaming get_put → xZZ
open Option renaming bind_some → xZY
open List renaming mem_map_of_mem → xZX
namespace Go.Proofs.Kn
open Go Go.Ev
set_option maxRecDepth 100000
set_option maxHeartbeats 4000000
def ivs (l:List Int):List AV:=l.map fun x=>iv x
theorem ivs_row (l:List Int):ivs l=((l.map Kn.c1).flatten).map .val:=by
 induction l with
 |nil=>rfl
 |cons x l ih=>simp only [ivs,List.map_cons] at ih ⊢;rw [ih];rfl
theorem own_row {xt:Addr->Option Value} {h:Hp} {N:Nat} {v:AV} {l:List Int} (o:OwnSl h N 1 3 v l.length (ivs l)):RowAt xt h 1 v (l.map Kn.c1):=by
 rw [ivs_row] at o;exact OwnSl.row (N:=N) (e:=3) (fun c hc=>by obtain ⟨x,_,rfl⟩:=List.mem_map.1 hc;rfl) (by omega) (by rw [List.length_map];exact o)
end Go.Proofs.Kn
noncomputable section
namespace Go.Ev
theorem zS {P:Program} {α β:Type}: ∀(s:Sem α) (f:α->Sem β),qO P (s>>=f)=(qO P s).bind (fun a=>qO P (f a))
 | .pure a,f=>rfl
 | .program k,f=>by show qO P ((k P)>>=f)=_;rw [zS (k P) f];rfl
 | .mark m k,f=>by show qO P (k>>=f)=_;rw [zS k f];rfl
 | .load _ _ _,_=>rfl
 | .store _ _ _ _,_=>rfl
 | .new _ _,_=>rfl
 | .shape _ _,_=>rfl
 | .freeze _ _ _,_=>rfl
 | .frozen _ _,_=>rfl
 | .getObj _ _,_=>rfl
 | .setObj _ _ _,_=>rfl
 | .choose _ _,_=>rfl
 | .sys _ _,_=>rfl
 | .halt _,_=>rfl
theorem j6 {P:Program} {α:Type} (a:α):qO P (pure a:Sem α)=some a:=rfl
theorem xE {P:Program} {α:Type} (c:Prop) [Decidable c] (a b:Sem α):qO P (if c then a else b)=if c then qO P a else qO P b:=by split<;>rfl
theorem uU {P:Program}:qO P program=some P:=rfl
end Go.Ev
namespace Go.Proofs.Kn
open Go Go.Ev
theorem eqi43 (d:Nat) (a b c e:Int):qO Tryz.prog (Op.equalIn (d+1+1) 43 (.agg #[.int .i64 a,.int .i64 b]) (.agg #[.int .i64 c,.int .i64 e]))=some (decide (a=c) && decide (b=e)):=by
 have h1:qO Tryz.prog (underlying 43)=some (TypeDesc.struct #[{name:= "Low",type:=3,offset:=0,embedded:=false,tag:= "",pkgPath:= "",byteOffset:=0},{name:= "High",type:=3,offset:=1,embedded:=false,tag:= "",pkgPath:= "",byteOffset:=8}]):=by kernel_rfl
 have h2:Tryz.prog.stoodInHeld 43=false:=by kernel_rfl
 have h3: ∀d a b,qO Tryz.prog (Op.equalIn (d+1) 3 (.int .i64 a) (.int .i64 b))=some (a==b):=fun d a b=>by
  have:qO Tryz.prog (underlying 3)=some (.int .i64):=by kernel_rfl
  rw [Op.equalIn];simp only [zS,this,xZY,if_true,j6]
 have p1: ∀a b,qO Tryz.prog (part 3 #[.int .i64 a,.int .i64 b] 0)=some (.int .i64 a):=fun a b=>by kernel_rfl
 have p2: ∀a b,qO Tryz.prog (part 3 #[.int .i64 a,.int .i64 b] 1)=some (.int .i64 b):=fun a b=>by kernel_rfl
 rw [Op.equalIn];simp only [zS,h1,xZY,uU,h2,Bool.false_eq_true,if_false];rw [<-Array.forIn_toList];simp only [List.forIn_cons,List.forIn_nil,zS,xE,p1,h3,xZY,j6];by_cases q1:a=c
 ·by_cases q2:b=e
  ·simp [q1,q2,j6,zS,p2,h3,xE]
  ·simp [q1,q2,j6,zS,p2,h3,xE]
 ·simp [q1,j6]
theorem guard36 (op:BinOp) (ox oy:Operand) (x y:Array Value):qO Tryz.prog (eqGuard op 43 ox oy (.agg x) (.agg y))=some ():=by
 have h1:Tryz.prog.eqGuardType Tryz.prog.depth 43=false:=by kernel_rfl
 cases op<;>simp [eqGuard,zS,j6,uU,xE,h1]
theorem neq43 (ox oy:Operand) (a b c e:Int):uR Tryz.prog tb .neq 43 ox oy (.agg [.val (.int .i64 a),.val (.int .i64 b)]) (.agg [.val (.int .i64 c),.val (.int .i64 e)])=some (.val (.bool (!(decide (a=c) && decide (b=e))))):=by
 have h:=eqi43 9998 a b c e;have hq:qO Tryz.prog (Op.equal 43 (.agg #[.int .i64 a,.int .i64 b]) (.agg #[.int .i64 c,.int .i64 e]))=some (decide (a=c) && decide (b=e)):=h;simp only [uR,toVal,toVals,zS,guard36,xZY,binOp,hq,j6]
end Go.Proofs.Kn
end
namespace Go.Proofs.Kn
open Go Go.Ev
set_option maxRecDepth 100000
set_option maxHeartbeats 4000000
theorem ft28 (xt:Addr->Option Value):(SE xt).ft.get 28=some Tryz.f28:=by kernel_rfl
theorem res28:Tryz.f28.results.toList=[.tmp 4]:=by kernel_rfl
def sameR (f g:Nat->Int×Int) (C:Nat):Bool:=(List.range C).all fun c=>decide (f c=g c)
theorem sspans_c (xt:Addr->Option Value) (h:Hp) (b1 b2 C:Nat) (f g:Nat->Int×Int) (q1:h.t.get b1=some (.cells (jW f C) 43)) (q2:h.t.get b2=some (.cells (jW g C) 43)) (hC:C<=9223372036854775807) {K:CR->Hp->Prop} (hk: ∀n,h.n<n->K (.ret (.val (.bool (sameR f g C)))) (h.up n)):FnA (SE xt) 28 [.sl b1 0 C 2,.sl b2 0 C 2] h K:=by
 refine FnA.calm ?_ hk;clear hk K;refine FnA.walk (sok xt) (ft28 xt) rfl 26 rfl ?_;have l1:=fun h'=>sgl55 (C:=C) b1 h';have l2:=fun h'=>sgl55 (C:=C) b2 h';refine qA fun K hn hp=> ?_;simp only [sw.1,rL];apply hn;refine qE ?_;refine qA fun K hn hp=> ?_;simp only [sy.1,rE,reduceIte,rL,syw.1,l1,l2];apply hn;refine qC false (by simp only [sy.1,rE,reduceIte]) (fun hx=>by cases hx) (fun _=> ?_);refine qI ?_;refine qE ?_;refine qA fun K hn hp=> ?_;simp only [sy.1,rL];apply hn;refine qG fun KA A1 A2 A3 A4 A5=> ?_;refine qV (sok xt) (fun st=> ∃(c:Nat) (tm:T AV),st=⟨tm,26,h,[]⟩/\c<=C/\tm.get 0=some (.sl b1 0 C 2)/\tm.get 1=some (.sl b2 0 C 2)/\tm.get 5=some (iv c)/\ ∀i,i<c->decide (f i=g i)=true) (fun st=>C - (match st.tm.get 5 with|some (.val (.int _ n))=>n.toNat|_=>0)) ?_ ?_
 ·rintro st ⟨c,tm,rfl,hkA,g0,g1,g5,hall⟩;have muA:=g5;refine qE ?_;refine qA fun K hn hp=> ?_;simp only [sy.1,rE,reduceIte,rL,syw.1,l1,jU,g0,g5];apply hn;by_cases hc:c<C
  ·refine qC true (by simp only [sy.1,rE,reduceIte,hc]) (fun _=> ?_) (fun hx=>by cases hx);have x1:=sl55 (C:=C) (b:=b1) hc;have x2:=sl55 (C:=C) (b:=b2) hc;have x3:=bR (f:=f) hc;have x4:=bR (f:=g) hc;refine qI ?_;refine qG fun KB B1 B2 B3 B4 B5=> ?_;refine zZ (sok xt) 9 (by kernel_rfl) fun K hn hp=> ?_;simp only [sy.1,rE,reduceIte,rL,q1,q2,g0,g1,g5,x1,x2,x3,x4,neq43];apply hn;have he:(decide ((f c).1=(g c).1) && decide ((f c).2=(g c).2))=decide (f c=g c):=by
    rw [Bool.eq_iff_iff];simp only [Bool.and_eq_true,decide_eq_true_eq,Prod.ext_iff]
   cases q:decide (f c=g c)
   ·refine qH true (by simp only [sy.1,rE,reduceIte,he,q]) (fun _=> ?_) (fun hx=>by cases hx);refine qA fun K hn hp=> ?_;simp only [sy.1,rL];apply hn;refine qD (B4 _ (A4 _ (qN res28 ⟨?_,Fr.refl (Nat.le_refl _)⟩)));have:sameR f g C=false:=qBu hc q;simp [xZZ,this]
   ·refine qH false (by simp only [sy.1,rE,reduceIte,he,q]) (fun hx=>by cases hx) (fun _=> ?_);refine qX (B1 _ ?_);refine reg fun K hn hp=> ?_;simp only [sy.1,rE,reduceIte,rL,g5,qQ hc hC];apply hn;refine ⟨⟨c+1,_,rfl,by omega,(by simp [xZZ,g0]),(by simp [xZZ,g1]),(by simp [xZZ]),fun i hi=> ?_⟩,by simpa [xZZ,muA] using (by omega:C - (c+1)<C - c)⟩;by_cases e:i=c
    ·rw [e];exact q
    ·exact hall i (by omega)
  ·refine qC false (by simp only [sy.1,rE,reduceIte,hc]) (fun hx=>by cases hx) (fun _=> ?_);refine qT (A2 _ ?_);refine qA fun K hn hp=> ?_;simp only [sy.1,rL];apply hn;refine qD (qN res28 ⟨?_,Fr.refl (Nat.le_refl _)⟩);have:sameR f g C=true:=wY fun i hi=>hall i (by omega);simp [xZZ,this]
 ·exact ⟨0,_,rfl,(by omega),(by simp [xZZ]),(by simp [xZZ]),(by simp [xZZ]),fun i hi=>absurd hi (Nat.not_lt_zero _)⟩
theorem _root_.Go.Ev.FnA.inc {E:Env} {f:FuncId} {args:List AV} {h:Hp} {K:CR->Hp->Prop} (hc:FnA E f args h (fun r h'=>K r (h'.up (h'.n+1)))):FnA E f args h K:=by
 obtain ⟨r,h',h1,h2⟩:=hc;exact ⟨r,_,h1.bump (Nat.le_succ _),h2⟩
def Mp.rthick (m:Mp):Th.Grid:=Th.thickR m.T m.J (m.W - 1) m.F0 (m.gs.map gg) m.cells.length (m.W+1)
end Go.Proofs.Kn
namespace Go.Proofs.Kn
open Go Go.Ev
structure Mp.Truth (m:Mp) (R C:Nat) (t:Nat->Nat->Int):Prop where
 cell: ∀r,r<R-> ∀c,c<C->(m.cell r c=1->t r c=0)/\(¬m.cell r c=1->0<=t r c/\t r c<=60)
 row: ∀r,r<R->Th.True1 m.T (m.J r) (t r) (C - 1)
 gs: ∀x∈m.gs,x.2.2.1 - x.2.2.2<=t x.1.toNat x.2.1.toNat/\t x.1.toNat x.2.1.toNat<=x.2.2.1+x.2.2.2
def Gr.t (g:Gr):Nat->Nat->Int:=fun r c=>(g.ll.getD r []).getD c 0
theorem x8 {p:Nat->Bool} {n:Nat}:(List.range n).all p=true↔ ∀k,k<n->p k=true:=by
 rw [List.all_eq_true];exact ⟨fun h k hk=>h k (List.mem_range.2 hk),fun h k hk=>h k (List.mem_range.1 hk)⟩
theorem Mp.Truth.congr {m:Mp} {R C:Nat} {t t':Nat->Nat->Int} (hm:m.Is R C) (h:m.Truth R C t) (he: ∀r,r<R-> ∀c,c<C->t' r c=t r c):m.Truth R C t':=by
 have hC0:=hm.c0;refine ⟨fun r hr c hc=>by rw [he r hr c hc];exact h.cell r hr c hc,fun r hr c hc hj=> ?_,fun x hx=> ?_⟩
 ·rw [he r hr c (by omega),he r hr (c+1) (by omega)];exact h.row r hr c hc hj
 ·obtain ⟨⟨_,q1⟩,⟨_,q2⟩,_⟩:=hm.gs x hx;rw [hm.hR] at q1;rw [he _ q1 _ (by have:=hm.hC _ q1;omega)];exact h.gs x hx
theorem F0_ok (m:Mp):Th.Ok m.F0:=fun r c=>by simp only [Mp.F0];split<;>simp
theorem qBR {m:Mp} (hm:m.Is m.cells.length m.W) {G:Th.Grid} (h:m.bnd=some G):m.rthick=G/\Th.Ok G/\Th.SubG G m.F0/\m.Truth m.cells.length m.W (fun r c=>(G r c).1)/\m.Truth m.cells.length m.W (fun r c=>(G r c).2):=by
 have hC0:=hm.c0;obtain ⟨h1,h2,h3,_,h5,h6⟩:=Th.bound_ok m.T m.J (m.W - 1) hm.T.1 (F0_ok m) h (m:=m.W+1) (by omega);have hcell: ∀r c,(m.cell r c=1->(G r c).1=0/\(G r c).2=0)/\(¬m.cell r c=1->0<=(G r c).1/\(G r c).2<=60):=fun r c=>by
  have q1:=h2 r c;have q2:=h3 r c;refine ⟨fun q=> ?_,fun q=> ?_⟩
  ·simp only [Mp.F0,q,if_true] at q1;omega
  ·simp only [Mp.F0,q,if_false] at q1;omega
 refine ⟨h1,h3,h2,⟨fun r _ c _=> ?_,h5.row,fun x hx=>h5.gs (gg x) (xZX hx)⟩,⟨fun r _ c _=> ?_,h6.row,fun x hx=>h6.gs (gg x) (xZX hx)⟩⟩
 ·have:=h3 r c;exact ⟨fun q=>((hcell r c).1 q).1,fun q=>by have:=(hcell r c).2 q;omega⟩
 ·have:=h3 r c;exact ⟨fun q=>((hcell r c).1 q).2,fun q=>by have:=(hcell r c).2 q;omega⟩
theorem wU {m:Mp} (hm:m.Is m.cells.length m.W) {t:Nat->Nat->Int} (h:m.Truth m.cells.length m.W t): ∃G,m.bnd=some G/\ ∀r,r<m.cells.length-> ∀c,c<m.W->(G r c).1<=t r c/\t r c<=(G r c).2:=by
 have hC0:=hm.c0
 let t':Nat->Nat->Int:=fun r c=>if r<m.cells.length/\c<m.W then t r c else (m.F0 r c).1
 have h':m.Truth m.cells.length m.W t':=h.congr hm fun r hr c hc=>by simp only [t'];rw [if_pos ⟨hr,hc⟩]
 have hin:Th.InG t' m.F0:=fun r c=>by
  by_cases q:r<m.cells.length/\c<m.W
  ·have:=h'.cell r q.1 c q.2;by_cases q1:m.cell r c=1
   ·have:=this.1 q1;simp only [Mp.F0,q1,if_true];omega
   ·have:=this.2 q1;simp only [Mp.F0,q1,if_false];omega
  ·simp only [t'];rw [if_neg q];have:=F0_ok m r c;exact ⟨Int.le_refl _,this⟩
 obtain ⟨G,hG,hi⟩:=Th.bound_in m.T m.J (m.W - 1) (gs:=m.gs.map gg) (R:=m.cells.length) ⟨h'.row,fun g hg=>by
  obtain ⟨x,hx,rfl⟩:=List.mem_map.1 hg;exact h'.gs x hx⟩ hin
 refine ⟨G,hG,fun r hr c hc=> ?_⟩;have:=hi r c;simp only [t'] at this
 rwa [if_pos ⟨hr,hc⟩] at this
end Go.Proofs.Kn
