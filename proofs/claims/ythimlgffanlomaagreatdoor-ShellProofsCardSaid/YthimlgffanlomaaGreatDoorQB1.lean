/- Parts. -/
import Derived.Test.YthimlgffanlomaaGreatDoorQY9
set_option linter.all false
open List renaming getD_eq_getElem?_getD → xZZ, mem_singleton → xZY, mem_map → xZX, getElem?_eq_none_iff → xZV, mem_cons_of_mem → xZU, range_succ → xZT, mem_filter → xZS, getElem?_eq_getElem → xZR, foldl_cons → xZP, mem_cons_self → xZN, mem_cons → xZM, getElem?_range → xZG, getElem?_map → xZE, foldl_append → xZD, take_length → xZC, cons_append → xZB
open Nat renaming le_refl → xZW, zero_le → xZQ, le_add_right → xZJ, strongRecOn → xZI, sub_self → xZH
open Int renaming le_refl → xZO, toNat_natCast → xZL, le_trans → xZK
open Option renaming getD_some → xZF
open Bool renaming and_eq_true → xZA
namespace Go.Proofs.Kn
open Go Go.Ev
inductive Pth (D:List Nat) (b:Nat->Nat->Int):Nat->Nat->Int->Prop
 |nil {f n:Nat}:f<=n->Pth D b f n 0
 |cons {f g wd n:Nat} {v:Int}:f<=g->wd∈D->Pth D b (g+wd) n v->Pth D b f n (b g wd+v)
def IsMax (P:Int->Prop) (x:Int):Prop:=P x/\ ∀v,P v->v<=x
theorem IsMax.eq {P:Int->Prop} {x y:Int} (h:IsMax P x) (k:IsMax P y):x=y:=Int.le_antisymm (k.2 _ h.1) (h.2 _ k.1)
section
variable {D:List Nat} {b:Nat->Nat->Int} {f n:Nat} {v:Int}
theorem Pth.le (h:Pth D b f n v):f<=n:=by
 induction h with
 |nil h=>exact h
 |cons h1 _ _ ih=>omega
theorem Pth.front {f':Nat} (h:Pth D b f n v) (hf:f'<=f):Pth D b f' n v:=by
 cases h with
 |nil h=>exact .nil (by omega)
 |cons h1 h2 h3=>exact .cons (by omega) h2 h3
theorem Pth.back {n':Nat} (h:Pth D b f n v) (hn:n<=n'):Pth D b f n' v:=by
 induction h with
 |nil h=>exact .nil (by omega)
 |cons h1 h2 _ ih=>exact .cons h1 h2 (ih hn)
theorem Pth.snoc {g wd:Nat} (h:Pth D b f g v) (hw:wd∈D) {n':Nat} (hn:g+wd<=n'):Pth D b f n' (v+b g wd):=by
 induction h with
 |nil h=>
  have:=Pth.cons (b:=b) h hw (.nil hn)
  rwa [Int.add_comm] at this
 |cons h1 h2 _ ih=>
  have:=Pth.cons (b:=b) h1 h2 (ih hn)
  rwa [<-Int.add_assoc] at this
theorem Pth.last (h:Pth D b f n v):v=0\/ ∃g wd u,wd∈D/\Pth D b f g u/\g+wd<=n/\v=u+b g wd:=by
 induction h with
 |nil _=>exact .inl rfl
 | @cons f g wd n v h1 h2 h3 ih=>
  rcases ih with e|⟨g',wd',u,i1,i2,i3,i4⟩
  ·exact .inr ⟨g,wd,0,h2,.nil h1,h3.le,by rw [e];omega⟩
  ·exact .inr ⟨g',wd',b g wd+u,i1,.cons h1 h2 i2,i3,by omega⟩
theorem IsMax.top {x M:Int} (hx:IsMax (Pth D b (f+1) n) x) (y:Nat->Int) (hD: ∀wd∈D,1<=wd) (hy: ∀wd∈D,f+wd<=n->IsMax (Pth D b (f+wd) n) (y wd)) (h1:x<=M) (h2: ∀wd∈D,f+wd<=n->b f wd+y wd<=M) (h3:M=x\/ ∃wd∈D,f+wd<=n/\M=b f wd+y wd):IsMax (Pth D b f n) M:=by
 refine ⟨?_,fun v hv=> ?_⟩
 ·rcases h3 with rfl|⟨wd,i1,i2,rfl⟩
  ·exact hx.1.front (by omega)
  ·exact .cons (xZW _) i1 (hy wd i1 i2).1
 ·cases hv with
  |nil h=>exact xZK (hx.2 0 (.nil hx.1.le)) h1
  | @cons _ g wd _ v k1 k2 k3=>
   by_cases e:g=f
   ·subst e;have:=(hy wd k2 k3.le).2 _ k3;have:=h2 wd k2 k3.le;omega
   ·exact xZK (hx.2 _ (.cons (by omega) k2 k3)) h1
theorem IsMax.bot {x M:Int} (hx:IsMax (Pth D b 0 n) x) (y:Nat->Int) (hD: ∀wd∈D,1<=wd) (hy: ∀wd∈D,wd<=n+1->IsMax (Pth D b 0 (n+1 - wd)) (y wd)) (h1:x<=M) (h2: ∀wd∈D,wd<=n+1->y wd+b (n+1 - wd) wd<=M) (h3:M=x\/ ∃wd∈D,wd<=n+1/\M=y wd+b (n+1 - wd) wd):IsMax (Pth D b 0 (n+1)) M:=by
 refine ⟨?_,fun v hv=> ?_⟩
 ·rcases h3 with rfl|⟨wd,i1,i2,rfl⟩
  ·exact hx.1.back (by omega)
  ·exact (hy wd i1 i2).1.snoc i1 (by omega)
 ·rcases hv.last with rfl|⟨g,wd,u,k1,k2,k3,rfl⟩
  ·exact xZK (hx.2 0 (.nil hx.1.le)) h1
  ·by_cases e:g+wd<=n
   ·exact xZK (hx.2 _ (k2.snoc k1 e)) h1
   ·obtain rfl:g=n+1 - wd:=by omega
    have:=(hy wd k1 (by omega)).2 _ k2;have:=h2 wd k1 (by omega);omega
theorem IsMax.zero:IsMax (Pth D b 0 0) 0\/ ∃wd∈D,wd=0:=by
 by_cases e: ∃wd∈D,wd=0
 ·exact .inr e
 ·refine .inl ⟨.nil (xZW _),fun v hv=> ?_⟩;cases hv with
  |nil _=>exact xZO _
  | @cons _ g wd _ v k1 k2 k3=>
   have:=k3.le;exact absurd ⟨wd,k2,by omega⟩ e
theorem IsMax.end_ (hD: ∀wd∈D,1<=wd):IsMax (Pth D b n n) 0:=by
 refine ⟨.nil (xZW _),fun v hv=> ?_⟩;cases hv with
 |nil _=>exact xZO _
 | @cons _ g wd _ v k1 k2 k3=>
  have:=k3.le;have:=hD wd k2;omega
end
theorem Pth.cut {D:List Nat} {b:Nat->Nat->Int} {k R:Nat} (hk:k<=R) {x:Int} (h:IsMax (Pth D (fun g wd=>if g+wd<=k then b g wd else 0) 0 R) x):IsMax (Pth D b 0 k) x:=by
 have a1: ∀{f n v},Pth D (fun g wd=>if g+wd<=k then b g wd else 0) f n v->(f<=k->Pth D b f k v)/\(k<f->v=0):=by
  intro f n v hv;induction hv with
  |nil h=>exact ⟨fun q=> .nil q,fun _=>rfl⟩
  | @cons f g wd n v h1 h2 h3 ih=>
   by_cases e:g+wd<=k
   ·refine ⟨fun q=> ?_,fun q=>by omega⟩;simp only [if_pos e];exact .cons h1 h2 (ih.1 e)
   ·have hv:=ih.2 (by omega);refine ⟨fun q=> ?_,fun q=> ?_⟩
    ·simp only [if_neg e,hv];exact .nil q
    ·simp only [if_neg e,hv];rfl
 have a2: ∀{f n v},Pth D b f n v->n<=k->Pth D (fun g wd=>if g+wd<=k then b g wd else 0) f n v:=by
  intro f n v hv;induction hv with
  |nil h=>exact fun _=> .nil h
  | @cons f g wd n v h1 h2 h3 ih=>
   intro hn;have:=Pth.cons (b:=fun g wd=>if g+wd<=k then b g wd else 0) h1 h2 (ih hn);have e:g+wd<=k:=Nat.le_trans h3.le hn;simp only [if_pos e] at this;exact this
 exact ⟨(a1 h.1).1 (xZQ _),fun v hv=>h.2 v ((a2 hv (xZW _)).back hk)⟩
def best0 (l:List Int):Int:=l.foldl max 0
theorem xW: ∀(l:List Int) (a:Int),a<=l.foldl max a/\ ∀x∈l,x<=l.foldl max a
 |[],a=>⟨xZO _,fun x hx=>by cases hx⟩
 |y::l,a=>by
  obtain ⟨h1,h2⟩:=xW l (max a y);rw [xZP];refine ⟨by omega,fun x hx=> ?_⟩;rcases xZM.1 hx with rfl|hx
  ·omega
  ·exact h2 x hx
theorem wA: ∀(l:List Int) (a:Int),l.foldl max a=a\/l.foldl max a∈l
 |[],a=> .inl rfl
 |y::l,a=>by
  rw [xZP];rcases wA l (max a y) with h|h
  ·rw [h];by_cases e:a<=y
   ·rw [Int.max_eq_right e];exact .inr xZN
   ·rw [Int.max_eq_left (by omega)];exact .inl rfl
  ·exact .inr (xZU _ h)
def Wk.bv (w:Wk) (G:Th.Grid) (row wd col:Nat):Int:=best0 ((w.selTo wd row col w.ts.length).map (w.lv G))
theorem Wk.bv_pos (w:Wk) (G:Th.Grid) (row wd col:Nat):0<=w.bv G row wd col:=(xW _ _).1
theorem Wk.bv_ge (w:Wk) (G:Th.Grid) {row wd col:Nat} {s:Int×Int×Int} (hs:s∈w.selTo wd row col w.ts.length):w.lv G s<=w.bv G row wd col:=(xW _ _).2 _ (xZX.2 ⟨s,hs,rfl⟩)
theorem Wk.bv_mem (w:Wk) (G:Th.Grid) (row wd col:Nat):w.bv G row wd col=0\/ ∃s∈w.selTo wd row col w.ts.length,w.bv G row wd col=w.lv G s:=by
 rcases wA ((w.selTo wd row col w.ts.length).map (w.lv G)) 0 with h|h
 ·exact .inl h
 ·obtain ⟨s,hs,e⟩:=xZX.1 h;exact .inr ⟨s,hs,e.symm⟩
theorem qEB {a b:Cg} (h:Ge a b):b.2<=a.2:=by
 rcases Ge.iff.1 h with h|rfl
 ·rcases bR.1 h with h|h
  ·exact Int.le_of_lt h
  ·exact Int.le_of_eq h.1.symm
 ·exact xZO _
theorem sel_in {w:Wk} (his:w.Is) {wd row col:Nat} {s:Int×Int×Int} (hs:s∈w.selTo wd row col w.ts.length):row+wd<=w.m.cells.length/\col+wd<=w.m.W:=by
 obtain ⟨j,hj,rfl,h⟩:=Wk.selTo_mem hs;exact ⟨(his.selBlk hj h).2.1,(his.selBlk hj h).2.2.1⟩
theorem Wk.Is.band_max {w:Wk} (his:w.Is) (G:Th.Grid) (row:Nat) {wd:Nat} (hwd:1<=wd): ∀m,m<=w.m.W->IsMax (Pth [wd] (fun c _=>w.bv G row wd c) (w.m.W - m) w.m.W) (w.bandP G row wd m).2:=by
 intro m;induction m using xZI with
 |ind m ih=>
 intro hm;have hD: ∀x∈[wd],1<=x:=fun x hx=>by rw [xZY.1 hx];exact hwd
 cases m with
 |zero=>
  rw [Wk.bandP_zero,Nat.sub_zero];exact IsMax.end_ hD
 |succ m=>
  have i1:=ih m (by omega) (by omega);rw [show w.m.W - m=w.m.W - (m+1)+1 by omega] at i1;have i2:=ih (m - (wd - 1)) (by omega) (by omega);rw [Wk.bandP_succ];obtain ⟨g1,g2⟩:=bstC_ge (c0:=w.bandP G row wd m) (l:=w.cnd G row wd m w.ts.length);have g1':=qEB g1;have hsel: ∀s∈w.selTo wd row (w.m.W - (m+1)) w.ts.length,w.lv G s+(w.bandP G row wd (m - (wd - 1))).2<=(vM (w.bandP G row wd m) (w.cnd G row wd m w.ts.length)).2:=fun s hs=>qEB (g2 (s::(w.bandP G row wd (m - (wd - 1))).1,w.lv G s+(w.bandP G row wd (m - (wd - 1))).2) (xZU _ (xZX.2 ⟨s,hs,rfl⟩)));have hmem:=qA0 (c0:=w.bandP G row wd m) (l:=w.cnd G row wd m w.ts.length);generalize hM:vM (w.bandP G row wd m) (w.cnd G row wd m w.ts.length)=M at*
  have hy:w.m.W - (m+1)+wd<=w.m.W->w.m.W - (m - (wd - 1))=w.m.W - (m+1)+wd:=fun h=>by omega
  have hyx:w.m.W - (m+1)+wd<=w.m.W->(w.bandP G row wd (m - (wd - 1))).2<=(w.bandP G row wd m).2:=fun h=>by
   rw [hy h] at i2;exact i1.2 _ (i2.1.front (by omega))
  refine IsMax.top i1 (fun _=>(w.bandP G row wd (m - (wd - 1))).2) hD (fun x hx h=> ?_) g1' (fun x hx h=> ?_) ?_
  ·rw [xZY.1 hx] at h ⊢;rw [<-hy h];exact i2
  ·rw [xZY.1 hx] at h;rcases w.bv_mem G row wd (w.m.W - (m+1)) with e|⟨s,hs,e⟩
   ·rw [e];have:=hyx h;omega
   ·rw [e];exact hsel s hs
  ·have main: ∀s∈w.selTo wd row (w.m.W - (m+1)) w.ts.length,M.2=w.lv G s+(w.bandP G row wd (m - (wd - 1))).2->M.2=(w.bandP G row wd m).2\/ ∃x∈[wd],w.m.W - (m+1)+x<=w.m.W/\M.2=w.bv G row wd (w.m.W - (m+1))+(w.bandP G row wd (m - (wd - 1))).2:=fun s hs e=>by
    have h2:=(sel_in his hs).2;refine .inr ⟨wd,xZY.2 rfl,h2,?_⟩;have b1:=w.bv_ge G hs;rcases w.bv_mem G row wd (w.m.W - (m+1)) with e'|⟨s',hs',e'⟩
    ·have:=hyx h2;omega
    ·have:=hsel s' hs';omega
   rcases hmem with e|e
   ·exact .inl (by rw [e])
   ·rcases xZM.1 e with e|e
    ·exact .inl (by rw [e])
    ·obtain ⟨s,hs,e⟩:=xZX.1 e;exact main s hs (by rw [<-e])
def Wk.wn (w:Wk):List Nat:=w.ws.map Int.toNat
theorem Wk.Is.wn_bd {w:Wk} (his:w.Is) {x:Nat} (hx:x∈w.wn):1<=x/\x<=3:=by
 obtain ⟨y,hy,rfl⟩:=xZX.1 hx;have:=Wk.ws_mem his hy;omega
theorem Wk.Is.pack_max {w:Wk} (his:w.Is) (G:Th.Grid): ∀m,m<=w.m.cells.length->IsMax (Pth w.wn (fun f wd=>(w.bandP G f wd w.m.W).2) (w.m.cells.length - m) w.m.cells.length) (w.packP G m).2:=by
 intro m;induction m using xZI with
 |ind m ih=>
 intro hm;have hD: ∀x∈w.wn,1<=x:=fun x hx=>(his.wn_bd hx).1;cases m with
 |zero=>
  rw [Wk.packP_zero,Nat.sub_zero];exact IsMax.end_ hD
 |succ m=>
  have i1:=ih m (by omega) (by omega);rw [show w.m.cells.length - m=w.m.cells.length - (m+1)+1 by omega] at i1;have i2: ∀x,1<=x->w.m.cells.length - (m+1)+x<=w.m.cells.length->IsMax (Pth w.wn (fun f wd=>(w.bandP G f wd w.m.W).2) (w.m.cells.length - (m+1)+x) w.m.cells.length) (w.packP G (m - (x - 1))).2:=fun x h1 h2=>by
   have:=ih (m - (x - 1)) (by omega) (by omega)
   rwa [show w.m.cells.length - (m - (x - 1))=w.m.cells.length - (m+1)+x by omega] at this
  rw [Wk.packP_succ];obtain ⟨g1,g2⟩:=bstC_ge (c0:=w.packP G m) (l:=w.pcnd G m w.ws.length);have hmem:=qA0 (c0:=w.packP G m) (l:=w.pcnd G m w.ws.length);generalize vM (w.packP G m) (w.pcnd G m w.ws.length)=M at*
  refine IsMax.top i1 (fun x=>(w.packP G (m - (x - 1))).2) hD (fun x hx h=>i2 x (hD x hx) h) (qEB g1) (fun x hx h=> ?_) ?_
  ·obtain ⟨y,hy,rfl⟩:=xZX.1 hx;have hy1:=Wk.ws_mem his hy;refine qEB (g2 (w.pone G m y) (xZU _ (xZX.2 ⟨y,xZS.2 ⟨by rw [xZC];exact hy,decide_eq_true (by omega)⟩,rfl⟩)))
  ·rcases hmem with e|e
   ·exact .inl (by rw [e])
   ·rcases xZM.1 e with e|e
    ·exact .inl (by rw [e])
    ·obtain ⟨y,hy,e⟩:=xZX.1 e;obtain ⟨hy1,hy2⟩:=xZS.1 hy;rw [xZC] at hy1;have hy3:=Wk.ws_mem his hy1;have hy2:=of_decide_eq_true hy2;exact .inr ⟨y.toNat,xZX.2 ⟨y,hy1,rfl⟩,by omega,by rw [<-e];rfl⟩
def ck (rr cc r c:Nat) (k:Int):Int:=if k=2/\(rr<=r\/cc<=c) then 3 else k
def Mp.cutR (m:Mp) (rr cc r:Nat):List Int:=(List.range m.W).map fun c=>ck rr cc r c (m.cell r c)
def Mp.cutC (m:Mp) (rr cc:Nat):List (List Int):=(List.range m.cells.length).map (m.cutR rr cc)
abbrev Wk.cutW (w:Wk) (v:AV) (rr cc:Nat):Wk:={w with m:={w.m with vc:=v,cells:=w.m.cutC rr cc}}
theorem v8 (m:Mp) (rr cc:Nat):(m.cutC rr cc).length=m.cells.length:=by simp [Mp.cutC]
theorem wS (m:Mp) (rr cc r:Nat):(m.cutR rr cc r).length=m.W:=by simp [Mp.cutR]
theorem cutC_at (m:Mp) (rr cc:Nat) {r:Nat} (h:r<m.cells.length):(m.cutC rr cc)[r]? =some (m.cutR rr cc r):=by
 rw [Mp.cutC,xZE,xZG h];rfl
theorem bI (m:Mp) (rr cc:Nat) {r:Nat} (h:r<m.cells.length):(m.cutC rr cc).getD r []=m.cutR rr cc r:=by
 rw [xZZ,cutC_at m rr cc h];rfl
theorem cutC_none (m:Mp) (rr cc:Nat) {r:Nat} (h: ¬r<m.cells.length):(m.cutC rr cc).getD r []=[]:=by
 rw [xZZ,xZV.2 (by rw [v8];omega)];rfl
section
variable {w:Wk} (his:w.Is) (v:AV) (rr cc:Nat)
include his
theorem yO:(w.cutW v rr cc).m.W=w.m.W:=by
 have h0:=his.m.r0;have e:(m:Mp)->(m.cells.headD [])=m.cells.getD 0 []:=fun m=>by cases m.cells<;>rfl
 rw [Mp.W,e];show ((w.m.cutC rr cc).getD 0 []).length=_;rw [bI _ _ _ h0,wS]
theorem bH (r c:Nat):(w.cutW v rr cc).m.cell r c=ck rr cc r c (w.m.cell r c):=by
 show ((w.m.cutC rr cc).getD r []).getD c 0=_;by_cases hr:r<w.m.cells.length
 ·rw [bI _ _ _ hr,Mp.cutR,xZZ,xZE];by_cases hc:c<w.m.W
  ·rw [xZG hc];rfl
  ·rw [xZV.2 (by rw [List.length_range];omega)];have:w.m.cell r c=0:=by
    rw [Mp.cell,xZZ,xZV.2 (by have:=his.m.hC r hr;omega)];rfl
   rw [this];rfl
 ·rw [cutC_none _ _ _ hr];have:w.m.cell r c=0:=by
   rw [Mp.cell,xZZ (l:=w.m.cells),xZV.2 (by omega)];rfl
  rw [this];rfl
theorem ck_one (r c:Nat) (k:Int):ck rr cc r c k=1↔k=1:=by
 rw [ck];split
 ·omega
 ·exact Iff.rfl
theorem qAW:(w.cutW v rr cc).m.bnd=w.m.bnd:=by
 have hd: ∀r c,decide ((w.cutW v rr cc).m.cell r c=1)=decide (w.m.cell r c=1):=fun r c=>by
  rw [bH his];exact decide_eq_decide.2 (ck_one his rr cc r c _)
 have eJ:(w.cutW v rr cc).m.J=w.m.J:=by
  funext r c
  rw [Mp.J,Mp.J,hd,hd]
 have eF:(w.cutW v rr cc).m.F0=w.m.F0:=by
  funext r c
  rw [Mp.F0,Mp.F0,bH his];simp only [ck_one his rr cc]
 rw [Mp.bnd,Mp.bnd,eJ,eF,yO his];show Th.boundP w.m.T w.m.J (w.m.W - 1) w.m.F0 (w.m.gs.map gg) (w.m.cutC rr cc).length=_;rw [v8]
theorem cutW_rect:(w.cutW v rr cc).m.Rect:=by
 intro l hl;obtain ⟨r,hr,rfl⟩:=xZX.1 (show l∈(List.range w.m.cells.length).map (w.m.cutR rr cc) from hl);rw [wS];exact (yO his v rr cc).symm
theorem pM:(w.cutW v rr cc).Is:=by
 have hW:=yO his v rr cc;have hl:(w.cutW v rr cc).m.cells.length=w.m.cells.length:=v8 _ _ _;have hm:=his.m;refine ⟨⟨rfl,fun r hr=> ?_,?_,?_,?_,?_,fun x hx=> ?_,hm.T⟩,cutW_rect his v rr cc,his.t0,his.t4,his.k0,his.k5,his.ts⟩
 ·rw [hl] at hr;rw [hW];show ((w.m.cutC rr cc).getD r []).length=_;rw [bI _ _ _ hr,wS]
 ·rw [hl];exact hm.r0
 ·rw [hW];exact hm.c0
 ·rw [hl];exact hm.r6
 ·rw [hW];exact hm.c8
 ·obtain ⟨a1,a2,a3,a4⟩:=hm.gs x hx;refine ⟨⟨a1.1,by rw [hl];exact a1.2⟩,⟨a2.1,?_⟩,a3,a4⟩;show x.2.1.toNat<((w.m.cutC rr cc).getD x.1.toNat []).length;rw [bI _ _ _ a1.2,wS,<-hm.hC _ a1.2];exact a2.2
omit his in
theorem qCb {w:Wk} (his:w.Is) {r c:Nat} (hr:r<w.m.cells.length) (hc:c<w.m.W) (k:Int):w.m.is (r:Int) (c:Int) k=decide (w.m.cell r c=k):=by
 have e1:w.m.inside (r:Int) (c:Int)=true:=by
  rw [Mp.inside_iff];have hR:w.m.R=w.m.cells.length:=rfl;have hC:w.m.C=(w.m.W:Int):=rfl;rw [hR,hC];omega
 rw [Mp.is,e1,Bool.true_and];have hl:=his.m.hC r hr;have:w.m.kind (r:Int) (c:Int)=w.m.cell r c:=by
  have hx:w.m.cells[r]? =some w.m.cells[r]:=xZR hr;rw [xZZ,hx,xZF] at hl;have hy:w.m.cells[r][c]? =some (w.m.cells[r][c]'(by omega)):=xZR (by omega);simp only [Mp.kind,Mp.cell,xZL,xZZ,hx,hy,xZF]
 rw [this]
theorem cutW_pcan {row col k:Nat} (hk:k<w.ts.length) {wd:Nat}:(w.cutW v rr cc).sel wd (Wk.blkK row col k)=(w.sel wd (Wk.blkK row col k) && (decide (row+wd<=rr) && decide (col+wd<=cc))):=by
 have his':=pM his v rr cc;obtain ⟨n,th,wo,ht⟩:=his.tub hk;have ht':Tub (w.cutW v rr cc) k n th wo:=by
  obtain ⟨n',th',wo',ht'⟩:=his'.tub (q:=k) hk;have e1:=ht.at_;have e2:=ht'.at_;rw [e2] at e1;simp only [Option.some.injEq,Prod.mk.injEq] at e1;obtain ⟨e3,rfl,rfl⟩:=e1;obtain rfl:n'=n:=by omega
  exact ht'
 have n1:=ht.n1;simp only [Wk.sel,Wk.blkK,xZL,ht.tb,ht'.tb,Wk.pcan_q ht,Wk.pcan_q ht'];have hW:=yO his v rr cc;have hl:(w.cutW v rr cc).m.cells.length=w.m.cells.length:=v8 _ _ _;rw [hW,hl];rw [Bool.eq_iff_iff];simp only [Mp.pcan,xZA,decide_eq_true_eq,kQ,yY,xZL];constructor
 ·rintro ⟨e,h1,h2,h3,h4⟩;obtain rfl:n=wd:=by omega
  have key: ∀i,i<n-> ∀j,j<n->w.m.cell (row+i) (col+j)=2/\ ¬(rr<=row+i\/cc<=col+j):=fun i hi j hj=>by
   have:=h3 i hi j hj;rw [qCb his' (by rw [hl];omega) (by rw [hW];omega),bH his,decide_eq_true_eq,ck] at this;split at this
   ·omega
   ·rename_i q;exact ⟨this,fun q'=>q ⟨this,q'⟩⟩
  refine ⟨⟨e,h1,h2,fun i hi j hj=> ?_,h4⟩,?_,?_⟩
  ·rw [qCb his (by omega) (by omega)];exact decide_eq_true (key i hi j hj).1
  ·have:=(key (n - 1) (by omega) 0 (by omega)).2;omega
  ·have:=(key 0 (by omega) (n - 1) (by omega)).2;omega
 ·rintro ⟨⟨e,h1,h2,h3,h4⟩,h5,h6⟩;obtain rfl:n=wd:=by omega
  refine ⟨e,h1,h2,fun i hi j hj=> ?_,h4⟩;have:=h3 i hi j hj;rw [qCb his (by omega) (by omega),decide_eq_true_eq] at this;rw [qCb his' (by rw [hl];omega) (by rw [hW];omega),bH his,decide_eq_true_eq,ck,this,if_neg (by omega)]
theorem pI (wd row col:Nat):(w.cutW v rr cc).selTo wd row col w.ts.length=if row+wd<=rr/\col+wd<=cc then w.selTo wd row col w.ts.length else []:=by
 have e: ∀s∈(List.range w.ts.length).map (Wk.blkK row col),(w.cutW v rr cc).sel wd s=(w.sel wd s && (decide (row+wd<=rr) && decide (col+wd<=cc))):=fun s hs=>by
  obtain ⟨k,hk,rfl⟩:=xZX.1 hs;exact cutW_pcan his v rr cc (List.mem_range.1 hk)
 rw [Wk.selTo,List.filter_congr e];split
 ·rename_i q;rw [decide_eq_true q.1,decide_eq_true q.2];simp only [Bool.and_self,Bool.and_true];rfl
 ·rename_i q;rw [List.filter_eq_nil_iff];intro s _;simp only [xZA,decide_eq_true_eq];rintro ⟨_,h⟩;exact q h
theorem cutW_bv (G:Th.Grid) (row wd col:Nat):(w.cutW v rr cc).bv G row wd col=if row+wd<=rr/\col+wd<=cc then w.bv G row wd col else 0:=by
 rw [Wk.bv];show best0 (((w.cutW v rr cc).selTo wd row col w.ts.length).map (w.lv G))=_;rw [pI his];split
 ·rfl
 ·rfl
end
def Wk.En (w:Wk) (G:Th.Grid) (row wd n:Nat):Int:=((w.cutW w.m.vc w.m.cells.length n).bandP G row wd w.m.W).2
def Wk.Un (w:Wk) (G:Th.Grid) (k:Nat):Int:=((w.cutW w.m.vc k w.m.W).packP G w.m.cells.length).2
theorem Wk.Is.En_max {w:Wk} (his:w.Is) (G:Th.Grid) {row wd n:Nat} (hwd:1<=wd) (hr:row+wd<=w.m.cells.length) (hn:n<=w.m.W):IsMax (Pth [wd] (fun c _=>w.bv G row wd c) 0 n) (w.En G row wd n):=by
 have h:=(pM his w.m.vc w.m.cells.length n).band_max G row hwd w.m.W (by rw [yO his];exact xZW _);rw [yO his,xZH] at h;refine Pth.cut hn ?_;have e:(fun c (_:Nat)=>(w.cutW w.m.vc w.m.cells.length n).bv G row wd c)=fun c _=>if c+wd<=n then w.bv G row wd c else 0:=by
  funext c _
  rw [cutW_bv his];by_cases q:c+wd<=n
  ·rw [if_pos ⟨hr,q⟩,if_pos q]
  ·rw [if_neg (fun a=>q a.2),if_neg q]
 rw [e] at h;have e2: ∀{f n' v},Pth [wd] (fun c (_:Nat)=>if c+wd<=n then w.bv G row wd c else 0) f n' v↔Pth [wd] (fun c x=>if c+x<=n then w.bv G row wd c else 0) f n' v:=by
  intro f n' v;constructor
  ·intro hv;induction hv with
   |nil h=>exact .nil h
   | @cons f g x n' v h1 h2 _ ih=>
    have:=Pth.cons (b:=fun c x=>if c+x<=n then w.bv G row wd c else 0) h1 h2 ih;rw [xZY.1 h2] at this;exact this
  ·intro hv;induction hv with
   |nil h=>exact .nil h
   | @cons f g x n' v h1 h2 _ ih=>
    have:=Pth.cons (b:=fun c (_:Nat)=>if c+wd<=n then w.bv G row wd c else 0) h1 h2 ih;simp only [xZY.1 h2];exact this
 exact ⟨e2.1 h.1,fun v hv=>h.2 v (e2.2 hv)⟩
theorem cutW_band {w:Wk} (his:w.Is) (v:AV) (G:Th.Grid) {k row wd:Nat}: ∀m,((w.cutW v k w.m.W).bandP G row wd m)=if row+wd<=k then w.bandP G row wd m else ([],0):=by
 intro m;induction m using xZI with
 |ind m ih=>
 cases m with
 |zero=>rw [Wk.bandP_zero,Wk.bandP_zero];simp
 |succ m=>
  have i1:=ih m (by omega);have i2:=ih (m - (wd - 1)) (by omega);have hs:(w.cutW v k w.m.W).selTo wd row (w.m.W - (m+1)) w.ts.length=if row+wd<=k then w.selTo wd row (w.m.W - (m+1)) w.ts.length else []:=by
   rw [pI his];by_cases q:row+wd<=k
   ·by_cases q2:w.m.W - (m+1)+wd<=w.m.W
    ·rw [if_pos ⟨q,q2⟩,if_pos q]
    ·rw [if_neg (fun a=>q2 a.2),if_pos q,eq_comm,List.eq_nil_iff_forall_not_mem];intro s hs;exact q2 (sel_in his hs).2
   ·rw [if_neg (fun a=>q a.1),if_neg q]
  rw [Wk.bandP_succ,Wk.bandP_succ,Wk.cnd,Wk.cnd,i1,i2,yO his];show vM _ (_::((w.cutW v k w.m.W).selTo wd row (w.m.W - (m+1)) w.ts.length).map _)=_;rw [hs];by_cases q:row+wd<=k
  ·simp only [if_pos q];rfl
  ·simp only [if_neg q,List.map_nil];simp [vM]
theorem Wk.Is.Un_max {w:Wk} (his:w.Is) (G:Th.Grid) {k:Nat} (hk:k<=w.m.cells.length):IsMax (Pth w.wn (fun f wd=>(w.bandP G f wd w.m.W).2) 0 k) (w.Un G k):=by
 have hl:(w.cutW w.m.vc k w.m.W).m.cells.length=w.m.cells.length:=v8 _ _ _;have h:=(pM his w.m.vc k w.m.W).pack_max G w.m.cells.length (by rw [hl];exact xZW _);rw [hl,xZH] at h;refine Pth.cut hk ?_;have e:(fun f wd=>((w.cutW w.m.vc k w.m.W).bandP G f wd (w.cutW w.m.vc k w.m.W).m.W).2)=fun f wd=>if f+wd<=k then (w.bandP G f wd w.m.W).2 else 0:=by
  funext f wd
  rw [yO his,cutW_band his];split<;>rfl
 rw [e] at h;exact h
theorem Wk.Is.En_all {w:Wk} (his:w.Is) (G:Th.Grid) {row wd:Nat} (hwd:1<=wd) (hr:row+wd<=w.m.cells.length):w.En G row wd w.m.W=(w.bandP G row wd w.m.W).2:=by
 have h:=his.band_max G row hwd w.m.W (xZW _);rw [xZH] at h;exact (his.En_max G hwd hr (xZW _)).eq h
theorem Wk.Is.En_zero {w:Wk} (his:w.Is) (G:Th.Grid) {row wd:Nat} (hwd:1<=wd) (hr:row+wd<=w.m.cells.length):w.En G row wd 0=0:=
 (his.En_max G hwd hr (xZQ _)).eq (IsMax.end_ fun x hx=>by rw [xZY.1 hx];exact hwd)
theorem Wk.Is.En_succ {w:Wk} (his:w.Is) (G:Th.Grid) {row wd n:Nat} (hwd:1<=wd) (hr:row+wd<=w.m.cells.length) (hn:n+1<=w.m.W):w.En G row wd (n+1)=if n+1<wd then w.En G row wd n else ((w.selTo wd row (n+1 - wd) w.ts.length).map fun s=>w.En G row wd (n+1 - wd)+w.lv G s).foldl max (w.En G row wd n):=by
 have hD: ∀x∈[wd],1<=x:=fun x hx=>by rw [xZY.1 hx];exact hwd
 have hx:=his.En_max G hwd hr (show n<=w.m.W by omega);have hy: ∀x∈[wd],x<=n+1->IsMax (Pth [wd] (fun c _=>w.bv G row wd c) 0 (n+1 - x)) (w.En G row wd (n+1 - wd)):=fun x hx h=>by
  rw [xZY.1 hx];exact his.En_max G hwd hr (by omega)
 refine (his.En_max G hwd hr hn).eq ?_;split
 ·rename_i q;exact IsMax.bot hx (fun _=>w.En G row wd (n+1 - wd)) hD hy (xZO _) (fun x hx h=>by rw [xZY.1 hx] at h;omega) (.inl rfl)
 ·rename_i q;obtain ⟨g1,g2⟩:=xW ((w.selTo wd row (n+1 - wd) w.ts.length).map fun s=>w.En G row wd (n+1 - wd)+w.lv G s) (w.En G row wd n);have gm:=wA ((w.selTo wd row (n+1 - wd) w.ts.length).map fun s=>w.En G row wd (n+1 - wd)+w.lv G s) (w.En G row wd n);have hle:w.En G row wd (n+1 - wd)<=w.En G row wd n:=hx.2 _ ((his.En_max G hwd hr (show n+1 - wd<=w.m.W by omega)).1.back (by omega));have hsel: ∀s∈w.selTo wd row (n+1 - wd) w.ts.length,w.En G row wd (n+1 - wd)+w.lv G s<=_:=fun s hs=>g2 _ (xZX.2 ⟨s,hs,rfl⟩);generalize ((w.selTo wd row (n+1 - wd) w.ts.length).map fun s=>w.En G row wd (n+1 - wd)+w.lv G s).foldl max (w.En G row wd n)=M at*
  refine IsMax.bot hx (fun _=>w.En G row wd (n+1 - wd)) hD hy g1 (fun x hx h=> ?_) ?_
  ·rw [xZY.1 hx];rcases w.bv_mem G row wd (n+1 - wd) with e|⟨s,hs,e⟩
   ·rw [e];omega
   ·rw [e];exact hsel s hs
  ·rcases gm with e|e
   ·exact .inl e
   ·obtain ⟨s,hs,e⟩:=xZX.1 e;refine .inr ⟨wd,xZY.2 rfl,by omega,?_⟩;have b1:=w.bv_ge G hs;rcases w.bv_mem G row wd (n+1 - wd) with e'|⟨s',hs',e'⟩
    ·have b2:0<=w.bv G row wd (n+1 - wd):=w.bv_pos G row wd _;by_cases z:w.lv G s=0
     ·omega
     ·have:=hsel s hs;by_cases z2:w.lv G s<0
      ·omega
      ·omega
    ·have:=hsel s' hs';omega
def Wk.bb (w:Wk) (G:Th.Grid) (f wd:Nat):Int:=(w.bandP G f wd w.m.W).2
theorem Wk.Is.Un_zero {w:Wk} (his:w.Is) (G:Th.Grid):w.Un G 0=0:=
 (his.Un_max G (xZQ _)).eq (IsMax.end_ fun _ hx=>(his.wn_bd hx).1)
theorem Wk.Is.Un_le {w:Wk} (his:w.Is) (G:Th.Grid) {a b:Nat} (h:a<=b) (hb:b<=w.m.cells.length):w.Un G a<=w.Un G b:=(his.Un_max G hb).2 _ ((his.Un_max G (Nat.le_trans h hb)).1.back h)
theorem Wk.Is.Un_band {w:Wk} (his:w.Is) (G:Th.Grid) {f wd:Nat} (hw:wd∈w.wn) (h:f+wd<=w.m.cells.length):w.Un G f+w.bb G f wd<=w.Un G (f+wd):=(his.Un_max G h).2 _ ((his.Un_max G (show f<=w.m.cells.length by omega)).1.snoc hw (xZW _))
theorem Wk.Is.Un_succ {w:Wk} (his:w.Is) (G:Th.Grid) {k:Nat} (hk:k+1<=w.m.cells.length):w.Un G (k+1)=w.Un G k\/ ∃f wd,wd∈w.wn/\f+wd=k+1/\w.Un G (k+1)=w.Un G f+w.bb G f wd:=by
 have h:=his.Un_max G hk;rcases h.1.last with e|⟨g,wd,u,k1,k2,k3,e⟩
 ·left
  have h0:=his.Un_le G (xZQ k) (by omega);rw [his.Un_zero G] at h0;have:=his.Un_le G (xZJ k 1) hk;omega
 ·by_cases q:g+wd<=k
  ·left
   have:=(his.Un_max G (show k<=w.m.cells.length by omega)).2 _ (k2.snoc k1 q);have:=his.Un_le G (xZJ k 1) hk;omega
  ·have hw:=his.wn_bd k1;have q1:g+wd=k+1:=by omega
   refine .inr ⟨g,wd,k1,q1,?_⟩;have a1:=(his.Un_max G (show g<=w.m.cells.length by omega)).2 _ k2;have a2:=his.Un_band G k1 (show g+wd<=w.m.cells.length by omega);rw [q1] at a2;have:w.bb G g wd=(w.bandP G g wd w.m.W).2:=rfl;omega
def wF (b:Nat->Nat->Int) (u:List Int) (x:Nat×Nat):List Int:=
 (u.set x.1 (max (u.getD x.1 0) (u.getD (x.1 - 1) 0))).set (x.1+x.2) (max ((u.set x.1 (max (u.getD x.1 0) (u.getD (x.1 - 1) 0))).getD (x.1+x.2) 0) ((u.set x.1 (max (u.getD x.1 0) (u.getD (x.1 - 1) 0))).getD x.1 0+b x.1 x.2))
def qAM (u:List Int) (r:Nat):List Int:=u.set (r+1) (max (u.getD (r+1) 0) (u.getD r 0))
def Wk.rowB (w:Wk) (f:Nat):List (Nat×Nat):=(w.wn.filter fun x=>decide (f+x<=w.m.cells.length)).map fun x=>(f,x)
def Wk.bnds (w:Wk) (k:Nat):List (Nat×Nat):=(List.range k).flatMap w.rowB
theorem kE (u:List Int) {b:Nat} (hb:b<u.length) (x:Int) (j:Nat):(u.set b x).getD j 0=if j=b then x else u.getD j 0:=by
 rw [xZZ,xZZ,List.getElem?_set];by_cases e:b=j
 ·subst e;rw [if_pos rfl,if_pos hb,if_pos rfl];rfl
 ·rw [if_neg e,if_neg (fun q=>e q.symm)]
theorem qDI {b:Nat->Nat->Int} {u:List Int} {f wd:Nat} (h:f+wd<u.length) (hw:1<=wd) (j:Nat):(wF b u (f,wd)).getD j 0=if j=f+wd then max (u.getD (f+wd) 0) (max (u.getD f 0) (u.getD (f - 1) 0)+b f wd) else if j=f then max (u.getD f 0) (u.getD (f - 1) 0) else u.getD j 0:=by
 simp only [wF];generalize max (u.getD f 0) (u.getD (f - 1) 0)=m
 rw [kE (u.set f m) (by rw [List.length_set];omega) _ j,kE u (by omega) m (f+wd),kE u (by omega) m f,kE u (by omega) m j,if_pos rfl,if_neg (show¬f+wd=f by omega)]
theorem qDH (b:Nat->Nat->Int) (u:List Int) (x:Nat×Nat):(wF b u x).length=u.length:=by simp [wF]
structure BI (w:Wk) (G:Th.Grid) (P:Nat->Nat->Prop) (f:Nat) (u:List Int):Prop where
 len:u.length=w.m.cells.length+1
 up: ∀k,k<=w.m.cells.length->0<=u.getD k 0/\u.getD k 0<=w.Un G k
 lo: ∀f' wd,P f' wd->wd∈w.wn->f'+wd<=w.m.cells.length->w.Un G f'+w.bb G f' wd<=u.getD (f'+wd) 0
 fin: ∀k,k<f->(∃wd∈w.wn,k+wd<=w.m.cells.length)->u.getD k 0=w.Un G k
theorem BI.step {w:Wk} (his:w.Is) {G:Th.Grid} {P:Nat->Nat->Prop} {f:Nat} {u:List Int} (h:BI w G P f u) (hP: ∀f' wd,f'<f->P f' wd) {wd:Nat} (hw:wd∈w.wn) (hf:f+wd<=w.m.cells.length):BI w G (fun a b=>P a b\/(a=f/\b=wd)) f (wF (w.bb G) u (f,wd))/\(wF (w.bb G) u (f,wd)).getD f 0=w.Un G f:=by
 have hwd:=his.wn_bd hw;have hg: ∀j,_:=qDI (b:=w.bb G) (u:=u) (f:=f) (wd:=wd) (by rw [h.len];omega) hwd.1;have uf:max (u.getD f 0) (u.getD (f - 1) 0)=w.Un G f:=by
  have u1:=h.up f (by omega);have u2:=h.up (f - 1) (by omega);have u3:=his.Un_le G (Nat.sub_le f 1) (show f<=w.m.cells.length by omega);cases f with
  |zero=>
   have:=his.Un_zero G;simp only [Nat.zero_sub] at*;omega
  |succ k=>
   have e1:=h.fin k (by omega) ⟨wd,hw,by omega⟩;simp only [Nat.add_sub_cancel] at*;rcases his.Un_succ G (show k+1<=w.m.cells.length by omega) with e|⟨g,x,x1,x2,e⟩
   ·omega
   ·have hx:=his.wn_bd x1;have:=h.lo g x (hP g x (by omega)) x1 (by omega);rw [x2] at this;omega
 rw [uf] at hg;have hbd:=his.Un_band G hw hf;refine ⟨⟨by rw [qDH];exact h.len,fun k hk=> ?_,fun f' x hp hx hfx=> ?_,fun k hk hkx=> ?_⟩,?_⟩
 ·rw [hg];have a:=h.up k hk;have af:=h.up f (by omega);have h0:0<=w.Un G f:=by omega
  split
  ·rename_i q;subst q;omega
  ·split
   ·rename_i q;subst q;omega
   ·exact a
 ·rw [hg];rcases hp with hp|⟨rfl,rfl⟩
  ·have a:=h.lo f' x hp hx hfx;split
   ·rename_i q;rw [q] at a;omega
   ·split
    ·rename_i q;have:=his.Un_band G hx hfx;rw [q] at this;exact this
    ·exact a
  ·rw [if_pos rfl];omega
 ·rw [hg,if_neg (by omega),if_neg (by omega)];exact h.fin k hk hkx
 ·rw [hg,if_neg (by omega),if_pos rfl]
theorem BI.row {w:Wk} (his:w.Is) {G:Th.Grid} {f:Nat}: ∀(l:List Nat) {P:Nat->Nat->Prop} {u:List Int},BI w G P f u->(∀f' wd,f'<f->P f' wd)->(∀x∈l,x∈w.wn/\f+x<=w.m.cells.length)->BI w G (fun a b=>P a b\/(a=f/\b∈l)) f ((l.map fun x=>(f,x)).foldl (wF (w.bb G)) u)/\(l≠[]->((l.map fun x=>(f,x)).foldl (wF (w.bb G)) u).getD f 0=w.Un G f)
 |[],P,u,h,_,_=>⟨⟨h.len,h.up,fun f' wd hp=>h.lo f' wd (by rcases hp with hp|⟨_,hp⟩;exact hp;cases hp),h.fin⟩,fun q=>absurd rfl q⟩
 |x::l,P,u,h,hP,hl=>by
  obtain ⟨i1,i2⟩:=h.step his hP (hl x xZN).1 (hl x xZN).2;obtain ⟨j1,j2⟩:=BI.row his l i1 (fun f' wd hf=> .inl (hP f' wd hf)) (fun y hy=>hl y (xZU _ hy));rw [List.map_cons,xZP];refine ⟨⟨j1.len,j1.up,fun f' wd hp=>j1.lo f' wd ?_,j1.fin⟩,fun _=> ?_⟩
  ·rcases hp with hp|⟨rfl,hp⟩
   ·exact .inl (.inl hp)
   ·rcases xZM.1 hp with rfl|hp
    ·exact .inl (.inr ⟨rfl,rfl⟩)
    ·exact .inr ⟨rfl,hp⟩
  ·by_cases e:l=[]
   ·subst e;exact i2
   ·exact j2 e
theorem BI.rows {w:Wk} (his:w.Is) {G:Th.Grid}: ∀k,k<=w.m.cells.length->BI w G (fun a _=>a<k) k ((w.bnds k).foldl (wF (w.bb G)) (List.replicate (w.m.cells.length+1) 0))
 |0,_=>⟨by simp [Wk.bnds],fun k hk=>by
   have:=his.Un_le G (xZQ k) hk;rw [his.Un_zero G] at this;simp [Wk.bnds,xZZ,show k<w.m.cells.length+1 by omega,this],fun _ _ h=>absurd h (by omega),fun _ h=>absurd h (by omega)⟩
 |k+1,hk=>by
  have ih:=BI.rows (G:=G) his k (by omega);rw [Wk.bnds,xZT,List.flatMap_append,xZD];simp only [List.flatMap_cons,List.flatMap_nil,List.append_nil];obtain ⟨i1,i2⟩:=ih.row his (w.wn.filter fun x=>decide (k+x<=w.m.cells.length)) (fun f' wd h=>h) (fun x hx=>by
   obtain ⟨h1,h2⟩:=xZS.1 hx;exact ⟨h1,of_decide_eq_true h2⟩)
  rw [Wk.rowB];refine ⟨i1.len,i1.up,fun f' wd hp hw hf=>i1.lo f' wd ?_ hw hf,fun j hj hx=> ?_⟩
  ·by_cases e:f'=k
   ·subst e;exact .inr ⟨rfl,xZS.2 ⟨hw,decide_eq_true hf⟩⟩
   ·exact .inl (by omega)
  ·by_cases e:j=k
   ·subst e;obtain ⟨wd,h1,h2⟩:=hx;refine i2 fun q=> ?_;have:wd∈w.wn.filter fun x=>decide (j+x<=w.m.cells.length):=xZS.2 ⟨h1,decide_eq_true h2⟩;rw [q] at this;cases this
   ·exact i1.fin j (by omega) hx
def Wk.uAll (w:Wk) (G:Th.Grid):List Int:=(w.bnds w.m.cells.length).foldl (wF (w.bb G)) (List.replicate (w.m.cells.length+1) 0)
theorem qCW {w:Wk} (his:w.Is) (G:Th.Grid): ∀r,r<=w.m.cells.length->((List.range r).foldl qAM (w.uAll G)).length=w.m.cells.length+1/\(∀k,k<=r->((List.range r).foldl qAM (w.uAll G)).getD k 0=w.Un G k)/\ ∀k,r<k->((List.range r).foldl qAM (w.uAll G)).getD k 0=(w.uAll G).getD k 0
 |0,_=>by
  have h:=BI.rows (G:=G) his w.m.cells.length (xZW _);refine ⟨h.len,fun k hk=> ?_,fun k _=>rfl⟩;obtain rfl:k=0:=by omega
  have:=h.up 0 (xZQ _);rw [his.Un_zero G] at this ⊢;show (w.uAll G).getD 0 0=0;rw [Wk.uAll];omega
 |r+1,hr=>by
  obtain ⟨i1,i2,i3⟩:=qCW his G r (by omega);have h:=BI.rows (G:=G) his w.m.cells.length (xZW _);rw [xZT,xZD];simp only [xZP,List.foldl_nil];refine ⟨by rw [qAM,List.length_set];exact i1,fun k hk=> ?_,fun k hk=> ?_⟩
  ·rw [qAM,kE _ (by omega)];by_cases e:k=r+1
   ·subst e;rw [if_pos rfl,i3 _ (by omega),i2 _ (xZW _)];have u1:=h.up (r+1) hr;have u2:=his.Un_le G (xZJ r 1) hr;rw [Wk.uAll];rcases his.Un_succ G hr with e|⟨g,x,x1,x2,e⟩
    ·omega
    ·have hx:=his.wn_bd x1;have:=h.lo g x (by omega) x1 (by omega);rw [x2] at this;omega
   ·rw [if_neg e];exact i2 k (by omega)
  ·rw [qAM,kE _ (by omega),if_neg (by omega)];exact i3 k (by omega)
theorem uFin {w:Wk} (his:w.Is) (G:Th.Grid):(List.range w.m.cells.length).foldl qAM (w.uAll G)=(List.range (w.m.cells.length+1)).map (w.Un G):=by
 obtain ⟨h1,h2,_⟩:=qCW his G w.m.cells.length (xZW _);refine List.ext_getElem (by simpa using h1) fun i a b=> ?_;have:=h2 i (by omega);rw [xZZ,xZR a] at this;simpa using this
def dif:Int->List Int->List Int
 |_,[]=>[]
 |p,x::l=>(x - p)::dif x l
def dfl (F:Nat->Int) (n:Nat):List Int:=(List.range n).map fun c=>F (c+1) - F c
theorem qAU (F:Nat->Int) (n:Nat):dfl F (n+1)=dfl F n++[F (n+1) - F n]:=by simp [dfl,xZT]
theorem qC5: ∀(l:List Int) (p x:Int),dif p (l++[x])=dif p l++[x - (l.getLast?.getD p)]
 |[],p,x=>rfl
 |y::l,p,x=>by
  rw [xZB,dif,dif,qC5 l y x,xZB];cases l with
  |nil=>rfl
  |cons z l=>simp [List.getLast?_cons]
theorem dif_F (F:Nat->Int): ∀n,dif (F 0) ((List.range n).map fun c=>F (c+1))=dfl F n
 |0=>rfl
 |n+1=>by
  rw [xZT,List.map_append,List.map_cons,List.map_nil,qC5,dif_F F n,qAU];cases n with
  |zero=>rfl
  |succ n=>simp [xZT]
theorem dfl_sum (F:Nat->Int): ∀n,(dfl F n).sum=F n - F 0
 |0=>by simp [dfl]
 |n+1=>by rw [qAU,List.sum_append,dfl_sum F n];simp;omega
def Wk.prows (w:Wk) (G:Th.Grid):List Int:=dfl (w.Un G) w.m.cells.length
def Wk.pbnds (w:Wk) (G:Th.Grid):List (Int×Int×List Int):=(w.bnds w.m.cells.length).map fun x=>((x.1:Int),(x.2:Int),dfl (w.En G x.1 x.2) w.m.W)
end Go.Proofs.Kn
