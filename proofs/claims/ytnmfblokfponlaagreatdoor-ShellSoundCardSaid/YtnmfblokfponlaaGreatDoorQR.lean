/- MvH8, SyEq, MvH9, MvI1: texts in a row, joined by a program. -/
import Derived.Test.YtnmfblokfponlaaGreatDoorQP
import Derived.Test.YtnmfblokfponlaaGreatDoorQD
set_option linter.all false
open List renaming mem_map_of_mem → xZZ
namespace Go.Proofs.Kn
open Go Go.Ev
set_option maxRecDepth 100000
set_option maxHeartbeats 4000000
theorem bs75 (h:Hp) (n:Int):j8 tb h 75 1 [(0,iv n)]=some (.sl h.n 0 1 1,h.new (.cells [iv n] 3)):=by kernel_rfl
def ivs (l:List Int):List AV:=l.map fun x=>iv x
theorem ivs_row (l:List Int):ivs l=((l.map Kn.c1).flatten).map .val:=by
 induction l with
 |nil=>rfl
 |cons x l ih=>simp only [ivs,List.map_cons] at ih ⊢;rw [ih];rfl
theorem own_row {xt:Addr->Option Value} {h:Hp} {N:Nat} {v:AV} {l:List Int} (o:OwnSl h N 1 3 v l.length (ivs l)):RowAt xt h 1 v (l.map Kn.c1):=by
 rw [ivs_row] at o;exact OwnSl.row (N:=N) (e:=3) (fun c hc=>by obtain ⟨x,_,rfl⟩:=List.mem_map.1 hc;rfl) (by omega) (by rw [List.length_map];exact o)
end Go.Proofs.Kn
noncomputable section
namespace Go.Ev
theorem jQ {P:Program} {α β:Type}: ∀(s:Sem α) (f:α->Sem β),qM P (s>>=f)=(qM P s).bind (fun a=>qM P (f a))
 | .pure a,f=>rfl
 | .program k,f=>by show qM P ((k P)>>=f)=_;rw [jQ (k P) f];rfl
 | .mark m k,f=>by show qM P (k>>=f)=_;rw [jQ k f];rfl
 | .load _ _ _,_=>rfl
 | .store _ _ _ _,_=>rfl
 | .new _ _,_=>rfl
 | .shape _ _,_=>rfl
 | .freeze _ _ _,_=>rfl
 | .frozen _ _,_=>rfl
 | .getObj _ _,_=>rfl
 | .setObj _ _ _,_=>rfl
 | .choose _ _,_=>rfl
 | .sys _ _,_=>rfl
 | .halt _,_=>rfl
theorem jH {P:Program} {α:Type} (a:α):qM P (pure a:Sem α)=some a:=rfl
theorem zH {P:Program} {α:Type} (c:Prop) [Decidable c] (a b:Sem α):qM P (if c then a else b)=if c then qM P a else qM P b:=by split<;>rfl
theorem vP {P:Program}:qM P program=some P:=rfl
end Go.Ev
namespace Go.Proofs.Kn
open Go Go.Ev
theorem eqib (d:Nat) (t:TypeId) (ht:qM Tryz.prog (underlying t)=some .bool) (a b:Bool):qM Tryz.prog (Op.equalIn (d+1) t (.bool a) (.bool b))=some (a==b):=by
 rw [Op.equalIn];simp only [jQ,ht,Option.bind_some,jH]
end Go.Proofs.Kn
end
namespace Go.Proofs.Kn
open Go Go.Ev
set_option maxRecDepth 100000
set_option maxHeartbeats 4000000
theorem _root_.Go.Ev.FnA.inc {E:Env} {f:FuncId} {args:List AV} {h:Hp} {K:CR->Hp->Prop} (hc:FnA E f args h (fun r h'=>K r (h'.up (h'.n+1)))):FnA E f args h K:=by
 obtain ⟨r,h',h1,h2⟩:=hc;exact ⟨r,_,h1.bump (Nat.le_succ _),h2⟩
def Mp.rthick (m:Mp):Th.Grid:=Th.thickR m.T m.J (m.W - 1) m.F0 (m.gs.map gg) m.cells.length (m.W+1)
end Go.Proofs.Kn
namespace Go.Proofs.Kn
open Go Go.Ev
structure Mp.Truth (m:Mp) (R C:Nat) (t:Nat->Nat->Int):Prop where
 cell: ∀r,r<R-> ∀c,c<C->(m.cell r c=1->t r c=0)/\(¬m.cell r c=1->0<=t r c/\t r c<=60)
 row: ∀r,r<R->Th.True1 m.T (m.J r) (t r) (C - 1)
 gs: ∀x∈m.gs,x.2.2.1 - x.2.2.2<=t x.1.toNat x.2.1.toNat/\t x.1.toNat x.2.1.toNat<=x.2.2.1+x.2.2.2
def Gr.t (g:Gr):Nat->Nat->Int:=fun r c=>(g.ll.getD r []).getD c 0
theorem yJ {p:Nat->Bool} {n:Nat}:(List.range n).all p=true↔ ∀k,k<n->p k=true:=by
 rw [List.all_eq_true];exact ⟨fun h k hk=>h k (List.mem_range.2 hk),fun h k hk=>h k (List.mem_range.1 hk)⟩
theorem Mp.Truth.congr {m:Mp} {R C:Nat} {t t':Nat->Nat->Int} (hm:m.Is R C) (h:m.Truth R C t) (he: ∀r,r<R-> ∀c,c<C->t' r c=t r c):m.Truth R C t':=by
 have hC0:=hm.c0;refine ⟨fun r hr c hc=>by rw [he r hr c hc];exact h.cell r hr c hc,fun r hr c hc hj=> ?_,fun x hx=> ?_⟩
 ·rw [he r hr c (by omega),he r hr (c+1) (by omega)];exact h.row r hr c hc hj
 ·obtain ⟨⟨_,q1⟩,⟨_,q2⟩,_⟩:=hm.gs x hx;rw [hm.hR] at q1;rw [he _ q1 _ (by have:=hm.hC _ q1;omega)];exact h.gs x hx
theorem F0_ok (m:Mp):Th.Ok m.F0:=fun r c=>by simp only [Mp.F0];split<;>simp
theorem qD4 {m:Mp} (hm:m.Is m.cells.length m.W) {G:Th.Grid} (h:m.bnd=some G):m.rthick=G/\Th.Ok G/\Th.SubG G m.F0/\m.Truth m.cells.length m.W (fun r c=>(G r c).1)/\m.Truth m.cells.length m.W (fun r c=>(G r c).2):=by
 have hC0:=hm.c0;obtain ⟨h1,h2,h3,_,h5,h6⟩:=Th.bound_ok m.T m.J (m.W - 1) hm.T.1 (F0_ok m) h (m:=m.W+1) (by omega);have hcell: ∀r c,(m.cell r c=1->(G r c).1=0/\(G r c).2=0)/\(¬m.cell r c=1->0<=(G r c).1/\(G r c).2<=60):=fun r c=>by
  have q1:=h2 r c;have q2:=h3 r c;refine ⟨fun q=> ?_,fun q=> ?_⟩
  ·simp only [Mp.F0,q,if_true] at q1;omega
  ·simp only [Mp.F0,q,if_false] at q1;omega
 refine ⟨h1,h3,h2,⟨fun r _ c _=> ?_,h5.row,fun x hx=>h5.gs (gg x) (xZZ hx)⟩,⟨fun r _ c _=> ?_,h6.row,fun x hx=>h6.gs (gg x) (xZZ hx)⟩⟩
 ·have:=h3 r c;exact ⟨fun q=>((hcell r c).1 q).1,fun q=>by have:=(hcell r c).2 q;omega⟩
 ·have:=h3 r c;exact ⟨fun q=>((hcell r c).1 q).2,fun q=>by have:=(hcell r c).2 q;omega⟩
end Go.Proofs.Kn
