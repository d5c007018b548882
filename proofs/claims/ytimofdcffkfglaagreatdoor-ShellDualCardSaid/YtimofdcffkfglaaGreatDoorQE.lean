/- Parts. -/
import Derived.Test.YtimofdcffkfglaaGreatDoorQS
import Derived.Test.YtimofdcffkfglaaGreatDoorQM
import Derived.Test.YtimofdcffkfglaaGreatDoorQN
set_option linter.all false
open Go.Proofs.Th renaming Grid → tG
open Nat renaming reduceEqDiff → rE, reduceLeDiff → rD, reduceAdd → rA, reduceMul → rM, reduceLT → rL
open Go.Ev.T renaming get_put → xZZ
open Nat renaming le_refl → xZY, zero_le → xYT, sub_self → xYR, le_trans → xYE, ble_eq → xYC, sub_zero → xXU, le_add_right → xXS, strongRecOn → xXQ, add_mul → xXH
open List renaming getElem?_eq_getElem → xZX, getD_eq_getElem?_getD → xZW, getElem?_eq_some_iff → xZV, getElem?_map → xZU, mem_range → xZS, mem_singleton → xZR, mem_map → xZQ, all_eq_true → xZN, length_map → xZM, length_set → xZK, getElem?_range → xZJ, mem_of_getElem? → xZH, mem_filter → xZG, length_append → xZE, range_succ → xZC, all_eq_false → xZB, mem_cons_of_mem → xZA, take_succ → xYZ, getElem?_eq_none_iff → xYY, length_take → xYX, take_of_length_le → xYV, foldl_append → xYU, mem_cons_self → xYS, drop_eq_getElem_cons → xYQ, getElem?_set → xYP, append_assoc → xYO, mem_cons → xYM, getElem_mem → xYK, getElem?_eq_none → xYH, foldl_cons → xYG, set_eq_take_append_cons_drop → xXY, map_cons → xXX, take_length → xXT, append_nil → xXR, getElem?_replicate → xXP, getElem?_cons_zero → xXO, set_set → xXN, map_nil → xXM, length_filter_le → xXL, mem_of_mem_take → xXK, mem_of_mem_drop → xXJ, flatMap_append → xXI, flatMap_cons → xXG, ext_getElem? → xXF, mem_flatMap → xXE, length_drop → xXD, cons_append → xXC
open Go.Ev.Hp renaming set_t → xZT, up_n → xZP, up_up → xZL, set_n → xYI
open Bool renaming and_eq_true → xZO, true_and → xYL, and_eq_false_iff → xYF, and_self → xXW
open Go.Ev.Fr renaming refl → xZI
open And renaming intro → xZF
open Go.Ev.FnA renaming walk → xZD, mono → xYW, calm → xYB
open Option renaming getD_some → xYN, map_some → xYJ, toList_some → xYA
open Int renaming le_trans → xYD, le_refl → xXZ, toNat_natCast → xXV
namespace Go.Proofs.Kn
open Go Go.Ev
set_option maxRecDepth 100000
set_option maxHeartbeats 4000000
inductive Pth (D:List Nat) (b:Nat->Nat->Int):Nat->Nat->Int->Prop
 |nil {f n:Nat}:f<=n->Pth D b f n 0
 |cons {f g wd n:Nat} {v:Int}:f<=g->wd∈D->Pth D b (g+wd) n v->Pth D b f n (b g wd+v)
def IsMax (P:Int->Prop) (x:Int):Prop:=P x/\ ∀v,P v->v<=x
theorem IsMax.eq {P:Int->Prop} {x y:Int} (h:IsMax P x) (k:IsMax P y):x=y:=Int.le_antisymm (k.2 _ h.1) (h.2 _ k.1)
section
variable {D:List Nat} {b:Nat->Nat->Int} {f n:Nat} {v:Int}
theorem Pth.le (h:Pth D b f n v):f<=n:=by
 induction h with
 |nil h=>exact h
 |cons h1 _ _ ih=>omega
theorem Pth.front {f':Nat} (h:Pth D b f n v) (hf:f'<=f):Pth D b f' n v:=by
 cases h with
 |nil h=>exact .nil (by omega)
 |cons h1 h2 h3=>exact .cons (by omega) h2 h3
theorem Pth.back {n':Nat} (h:Pth D b f n v) (hn:n<=n'):Pth D b f n' v:=by
 induction h with
 |nil h=>exact .nil (by omega)
 |cons h1 h2 _ ih=>exact .cons h1 h2 (ih hn)
theorem Pth.snoc {g wd:Nat} (h:Pth D b f g v) (hw:wd∈D) {n':Nat} (hn:g+wd<=n'):Pth D b f n' (v+b g wd):=by
 induction h with
 |nil h=>
  have:=Pth.cons (b:=b) h hw (.nil hn)
  rwa [Int.add_comm] at this
 |cons h1 h2 _ ih=>
  have:=Pth.cons (b:=b) h1 h2 (ih hn)
  rwa [<-Int.add_assoc] at this
theorem Pth.last (h:Pth D b f n v):v=0\/ ∃g wd u,wd∈D/\Pth D b f g u/\g+wd<=n/\v=u+b g wd:=by
 induction h with
 |nil _=>exact .inl rfl
 | @cons f g wd n v h1 h2 h3 ih=>
  rcases ih with e|⟨g',wd',u,i1,i2,i3,i4⟩
  ·exact .inr ⟨g,wd,0,h2,.nil h1,h3.le,by rw [e];omega⟩
  ·exact .inr ⟨g',wd',b g wd+u,i1,.cons h1 h2 i2,i3,by omega⟩
theorem IsMax.top {x M:Int} (hx:IsMax (Pth D b (f+1) n) x) (y:Nat->Int) (hD: ∀wd∈D,1<=wd) (hy: ∀wd∈D,f+wd<=n->IsMax (Pth D b (f+wd) n) (y wd)) (h1:x<=M) (h2: ∀wd∈D,f+wd<=n->b f wd+y wd<=M) (h3:M=x\/ ∃wd∈D,f+wd<=n/\M=b f wd+y wd):IsMax (Pth D b f n) M:=by
 refine ⟨?_,fun v hv=> ?_⟩
 ·rcases h3 with rfl|⟨wd,i1,i2,rfl⟩
  ·exact hx.1.front (by omega)
  ·exact .cons (xZY _) i1 (hy wd i1 i2).1
 ·cases hv with
  |nil h=>exact xYD (hx.2 0 (.nil hx.1.le)) h1
  | @cons _ g wd _ v k1 k2 k3=>
   by_cases e:g=f
   ·subst e;have:=(hy wd k2 k3.le).2 _ k3;have:=h2 wd k2 k3.le;omega
   ·exact xYD (hx.2 _ (.cons (by omega) k2 k3)) h1
theorem IsMax.bot {x M:Int} (hx:IsMax (Pth D b 0 n) x) (y:Nat->Int) (hD: ∀wd∈D,1<=wd) (hy: ∀wd∈D,wd<=n+1->IsMax (Pth D b 0 (n+1 - wd)) (y wd)) (h1:x<=M) (h2: ∀wd∈D,wd<=n+1->y wd+b (n+1 - wd) wd<=M) (h3:M=x\/ ∃wd∈D,wd<=n+1/\M=y wd+b (n+1 - wd) wd):IsMax (Pth D b 0 (n+1)) M:=by
 refine ⟨?_,fun v hv=> ?_⟩
 ·rcases h3 with rfl|⟨wd,i1,i2,rfl⟩
  ·exact hx.1.back (by omega)
  ·exact (hy wd i1 i2).1.snoc i1 (by omega)
 ·rcases hv.last with rfl|⟨g,wd,u,k1,k2,k3,rfl⟩
  ·exact xYD (hx.2 0 (.nil hx.1.le)) h1
  ·by_cases e:g+wd<=n
   ·exact xYD (hx.2 _ (k2.snoc k1 e)) h1
   ·obtain rfl:g=n+1 - wd:=by omega
    have:=(hy wd k1 (by omega)).2 _ k2;have:=h2 wd k1 (by omega);omega
theorem IsMax.zero:IsMax (Pth D b 0 0) 0\/ ∃wd∈D,wd=0:=by
 by_cases e: ∃wd∈D,wd=0
 ·exact .inr e
 ·refine .inl ⟨.nil (xZY _),fun v hv=> ?_⟩;cases hv with
  |nil _=>exact xXZ _
  | @cons _ g wd _ v k1 k2 k3=>
   have:=k3.le;exact absurd ⟨wd,k2,by omega⟩ e
theorem IsMax.end_ (hD: ∀wd∈D,1<=wd):IsMax (Pth D b n n) 0:=by
 refine ⟨.nil (xZY _),fun v hv=> ?_⟩;cases hv with
 |nil _=>exact xXZ _
 | @cons _ g wd _ v k1 k2 k3=>
  have:=k3.le;have:=hD wd k2;omega
end
theorem Pth.cut {D:List Nat} {b:Nat->Nat->Int} {k R:Nat} (hk:k<=R) {x:Int} (h:IsMax (Pth D (fun g wd=>if g+wd<=k then b g wd else 0) 0 R) x):IsMax (Pth D b 0 k) x:=by
 have a1: ∀{f n v},Pth D (fun g wd=>if g+wd<=k then b g wd else 0) f n v->(f<=k->Pth D b f k v)/\(k<f->v=0):=by
  intro f n v hv;induction hv with
  |nil h=>exact ⟨fun q=> .nil q,fun _=>rfl⟩
  | @cons f g wd n v h1 h2 h3 ih=>
   by_cases e:g+wd<=k
   ·refine ⟨fun q=> ?_,fun q=>by omega⟩;simp only [if_pos e];exact .cons h1 h2 (ih.1 e)
   ·have hv:=ih.2 (by omega);refine ⟨fun q=> ?_,fun q=> ?_⟩
    ·simp only [if_neg e,hv];exact .nil q
    ·simp only [if_neg e,hv];rfl
 have a2: ∀{f n v},Pth D b f n v->n<=k->Pth D (fun g wd=>if g+wd<=k then b g wd else 0) f n v:=by
  intro f n v hv;induction hv with
  |nil h=>exact fun _=> .nil h
  | @cons f g wd n v h1 h2 h3 ih=>
   intro hn;have:=Pth.cons (b:=fun g wd=>if g+wd<=k then b g wd else 0) h1 h2 (ih hn);have e:g+wd<=k:=xYE h3.le hn;simp only [if_pos e] at this;exact this
 exact ⟨(a1 h.1).1 (xYT _),fun v hv=>h.2 v ((a2 hv (xZY _)).back hk)⟩
def best0 (l:List Int):Int:=l.foldl max 0
theorem xL: ∀(l:List Int) (a:Int),a<=l.foldl max a/\ ∀x∈l,x<=l.foldl max a
 |[],a=>⟨xXZ _,fun x hx=>by cases hx⟩
 |y::l,a=>by
  obtain ⟨h1,h2⟩:=xL l (max a y);rw [xYG];refine ⟨by omega,fun x hx=> ?_⟩;rcases xYM.1 hx with rfl|hx
  ·omega
  ·exact h2 x hx
theorem uP: ∀(l:List Int) (a:Int),l.foldl max a=a\/l.foldl max a∈l
 |[],a=> .inl rfl
 |y::l,a=>by
  rw [xYG];rcases uP l (max a y) with h|h
  ·rw [h];by_cases e:a<=y
   ·rw [Int.max_eq_right e];exact .inr xYS
   ·rw [Int.max_eq_left (by omega)];exact .inl rfl
  ·exact .inr (xZA _ h)
def Wk.bv (w:Wk) (G:tG) (row wd col:Nat):Int:=best0 ((w.selTo wd row col w.ts.length).map (w.lv G))
theorem Wk.bv_pos (w:Wk) (G:tG) (row wd col:Nat):0<=w.bv G row wd col:=(xL _ _).1
theorem Wk.bv_ge (w:Wk) (G:tG) {row wd col:Nat} {s:Int×Int×Int} (hs:s∈w.selTo wd row col w.ts.length):w.lv G s<=w.bv G row wd col:=(xL _ _).2 _ (xZQ.2 ⟨s,hs,rfl⟩)
theorem Wk.bv_mem (w:Wk) (G:tG) (row wd col:Nat):w.bv G row wd col=0\/ ∃s∈w.selTo wd row col w.ts.length,w.bv G row wd col=w.lv G s:=by
 rcases uP ((w.selTo wd row col w.ts.length).map (w.lv G)) 0 with h|h
 ·exact .inl h
 ·obtain ⟨s,hs,e⟩:=xZQ.1 h;exact .inr ⟨s,hs,e.symm⟩
theorem qCN {a b:Cg} (h:Ge a b):b.2<=a.2:=by
 rcases Ge.iff.1 h with h|rfl
 ·rcases pD.1 h with h|h
  ·exact Int.le_of_lt h
  ·exact Int.le_of_eq h.1.symm
 ·exact xXZ _
theorem sel_in {w:Wk} (his:w.Is) {wd row col:Nat} {s:Int×Int×Int} (hs:s∈w.selTo wd row col w.ts.length):row+wd<=w.m.cells.length/\col+wd<=w.m.W:=by
 obtain ⟨j,hj,rfl,h⟩:=Wk.selTo_mem hs;exact ⟨(his.selBlk hj h).2.1,(his.selBlk hj h).2.2.1⟩
theorem Wk.Is.band_max {w:Wk} (his:w.Is) (G:tG) (row:Nat) {wd:Nat} (hwd:1<=wd): ∀m,m<=w.m.W->IsMax (Pth [wd] (fun c _=>w.bv G row wd c) (w.m.W - m) w.m.W) (w.bandP G row wd m).2:=by
 intro m;induction m using xXQ with
 |ind m ih=>
 intro hm;have hD: ∀x∈[wd],1<=x:=fun x hx=>by rw [xZR.1 hx];exact hwd
 cases m with
 |zero=>
  rw [Wk.bandP_zero,xXU];exact IsMax.end_ hD
 |succ m=>
  have i1:=ih m (by omega) (by omega);rw [show w.m.W - m=w.m.W - (m+1)+1 by omega] at i1;have i2:=ih (m - (wd - 1)) (by omega) (by omega);rw [Wk.bandP_succ];obtain ⟨g1,g2⟩:=bD (c0:=w.bandP G row wd m) (l:=w.cnd G row wd m w.ts.length);have g1':=qCN g1;have hsel: ∀s∈w.selTo wd row (w.m.W - (m+1)) w.ts.length,w.lv G s+(w.bandP G row wd (m - (wd - 1))).2<=(gD (w.bandP G row wd m) (w.cnd G row wd m w.ts.length)).2:=fun s hs=>qCN (g2 (s::(w.bandP G row wd (m - (wd - 1))).1,w.lv G s+(w.bandP G row wd (m - (wd - 1))).2) (xZA _ (xZQ.2 ⟨s,hs,rfl⟩)));have hmem:=qAX (c0:=w.bandP G row wd m) (l:=w.cnd G row wd m w.ts.length);generalize hM:gD (w.bandP G row wd m) (w.cnd G row wd m w.ts.length)=M at*
  have hy:w.m.W - (m+1)+wd<=w.m.W->w.m.W - (m - (wd - 1))=w.m.W - (m+1)+wd:=fun h=>by omega
  have hyx:w.m.W - (m+1)+wd<=w.m.W->(w.bandP G row wd (m - (wd - 1))).2<=(w.bandP G row wd m).2:=fun h=>by
   rw [hy h] at i2;exact i1.2 _ (i2.1.front (by omega))
  refine IsMax.top i1 (fun _=>(w.bandP G row wd (m - (wd - 1))).2) hD (fun x hx h=> ?_) g1' (fun x hx h=> ?_) ?_
  ·rw [xZR.1 hx] at h ⊢;rw [<-hy h];exact i2
  ·rw [xZR.1 hx] at h;rcases w.bv_mem G row wd (w.m.W - (m+1)) with e|⟨s,hs,e⟩
   ·rw [e];have:=hyx h;omega
   ·rw [e];exact hsel s hs
  ·have main: ∀s∈w.selTo wd row (w.m.W - (m+1)) w.ts.length,M.2=w.lv G s+(w.bandP G row wd (m - (wd - 1))).2->M.2=(w.bandP G row wd m).2\/ ∃x∈[wd],w.m.W - (m+1)+x<=w.m.W/\M.2=w.bv G row wd (w.m.W - (m+1))+(w.bandP G row wd (m - (wd - 1))).2:=fun s hs e=>by
    have h2:=(sel_in his hs).2;refine .inr ⟨wd,xZR.2 rfl,h2,?_⟩;have b1:=w.bv_ge G hs;rcases w.bv_mem G row wd (w.m.W - (m+1)) with e'|⟨s',hs',e'⟩
    ·have:=hyx h2;omega
    ·have:=hsel s' hs';omega
   rcases hmem with e|e
   ·exact .inl (by rw [e])
   ·rcases xYM.1 e with e|e
    ·exact .inl (by rw [e])
    ·obtain ⟨s,hs,e⟩:=xZQ.1 e;exact main s hs (by rw [<-e])
def Wk.wn (w:Wk):List Nat:=w.ws.map Int.toNat
theorem Wk.Is.wn_bd {w:Wk} (his:w.Is) {x:Nat} (hx:x∈w.wn):1<=x/\x<=3:=by
 obtain ⟨y,hy,rfl⟩:=xZQ.1 hx;have:=Wk.ws_mem his hy;omega
theorem Wk.Is.pack_max {w:Wk} (his:w.Is) (G:tG): ∀m,m<=w.m.cells.length->IsMax (Pth w.wn (fun f wd=>(w.bandP G f wd w.m.W).2) (w.m.cells.length - m) w.m.cells.length) (w.packP G m).2:=by
 intro m;induction m using xXQ with
 |ind m ih=>
 intro hm;have hD: ∀x∈w.wn,1<=x:=fun x hx=>(his.wn_bd hx).1;cases m with
 |zero=>
  rw [Wk.packP_zero,xXU];exact IsMax.end_ hD
 |succ m=>
  have i1:=ih m (by omega) (by omega);rw [show w.m.cells.length - m=w.m.cells.length - (m+1)+1 by omega] at i1;have i2: ∀x,1<=x->w.m.cells.length - (m+1)+x<=w.m.cells.length->IsMax (Pth w.wn (fun f wd=>(w.bandP G f wd w.m.W).2) (w.m.cells.length - (m+1)+x) w.m.cells.length) (w.packP G (m - (x - 1))).2:=fun x h1 h2=>by
   have:=ih (m - (x - 1)) (by omega) (by omega)
   rwa [show w.m.cells.length - (m - (x - 1))=w.m.cells.length - (m+1)+x by omega] at this
  rw [Wk.packP_succ];obtain ⟨g1,g2⟩:=bD (c0:=w.packP G m) (l:=w.pcnd G m w.ws.length);have hmem:=qAX (c0:=w.packP G m) (l:=w.pcnd G m w.ws.length);generalize gD (w.packP G m) (w.pcnd G m w.ws.length)=M at*
  refine IsMax.top i1 (fun x=>(w.packP G (m - (x - 1))).2) hD (fun x hx h=>i2 x (hD x hx) h) (qCN g1) (fun x hx h=> ?_) ?_
  ·obtain ⟨y,hy,rfl⟩:=xZQ.1 hx;have hy1:=Wk.ws_mem his hy;refine qCN (g2 (w.pone G m y) (xZA _ (xZQ.2 ⟨y,xZG.2 ⟨by rw [xXT];exact hy,decide_eq_true (by omega)⟩,rfl⟩)))
  ·rcases hmem with e|e
   ·exact .inl (by rw [e])
   ·rcases xYM.1 e with e|e
    ·exact .inl (by rw [e])
    ·obtain ⟨y,hy,e⟩:=xZQ.1 e;obtain ⟨hy1,hy2⟩:=xZG.1 hy;rw [xXT] at hy1;have hy3:=Wk.ws_mem his hy1;have hy2:=of_decide_eq_true hy2;exact .inr ⟨y.toNat,xZQ.2 ⟨y,hy1,rfl⟩,by omega,by rw [<-e];rfl⟩
def ck (rr cc r c:Nat) (k:Int):Int:=if k=2/\(rr<=r\/cc<=c) then 3 else k
def Mp.cutR (m:Mp) (rr cc r:Nat):List Int:=(List.range m.W).map fun c=>ck rr cc r c (m.cell r c)
def Mp.cutC (m:Mp) (rr cc:Nat):List (List Int):=(List.range m.cells.length).map (m.cutR rr cc)
abbrev Wk.cutW (w:Wk) (v:AV) (rr cc:Nat):Wk:={w with m:={w.m with vc:=v,cells:=w.m.cutC rr cc}}
theorem gB (m:Mp) (rr cc:Nat):(m.cutC rr cc).length=m.cells.length:=by simp [Mp.cutC]
theorem qAT (m:Mp) (rr cc r:Nat):(m.cutR rr cc r).length=m.W:=by simp [Mp.cutR]
theorem cutC_at (m:Mp) (rr cc:Nat) {r:Nat} (h:r<m.cells.length):(m.cutC rr cc)[r]? =some (m.cutR rr cc r):=by
 rw [Mp.cutC,xZU,xZJ h];rfl
theorem gX (m:Mp) (rr cc:Nat) {r:Nat} (h:r<m.cells.length):(m.cutC rr cc).getD r []=m.cutR rr cc r:=by
 rw [xZW,cutC_at m rr cc h];rfl
theorem cutC_none (m:Mp) (rr cc:Nat) {r:Nat} (h: ¬r<m.cells.length):(m.cutC rr cc).getD r []=[]:=by
 rw [xZW,xYY.2 (by rw [gB];omega)];rfl
section
variable {w:Wk} (his:w.Is) (v:AV) (rr cc:Nat)
include his
theorem gA:(w.cutW v rr cc).m.W=w.m.W:=by
 have h0:=his.m.r0;have e:(m:Mp)->(m.cells.headD [])=m.cells.getD 0 []:=fun m=>by cases m.cells<;>rfl
 rw [Mp.W,e];show ((w.m.cutC rr cc).getD 0 []).length=_;rw [gX _ _ _ h0,qAT]
theorem gW (r c:Nat):(w.cutW v rr cc).m.cell r c=ck rr cc r c (w.m.cell r c):=by
 show ((w.m.cutC rr cc).getD r []).getD c 0=_;by_cases hr:r<w.m.cells.length
 ·rw [gX _ _ _ hr,Mp.cutR,xZW,xZU];by_cases hc:c<w.m.W
  ·rw [xZJ hc];rfl
  ·rw [xYY.2 (by rw [List.length_range];omega)];have:w.m.cell r c=0:=by
    rw [Mp.cell,xZW,xYY.2 (by have:=his.m.hC r hr;omega)];rfl
   rw [this];rfl
 ·rw [cutC_none _ _ _ hr];have:w.m.cell r c=0:=by
   rw [Mp.cell,xZW (l:=w.m.cells),xYY.2 (by omega)];rfl
  rw [this];rfl
theorem ck_one (r c:Nat) (k:Int):ck rr cc r c k=1↔k=1:=by
 rw [ck];split
 ·omega
 ·exact Iff.rfl
theorem qFW:(w.cutW v rr cc).m.bnd=w.m.bnd:=by
 have hd: ∀r c,decide ((w.cutW v rr cc).m.cell r c=1)=decide (w.m.cell r c=1):=fun r c=>by
  rw [gW his];exact decide_eq_decide.2 (ck_one his rr cc r c _)
 have eJ:(w.cutW v rr cc).m.J=w.m.J:=by
  funext r c
  rw [Mp.J,Mp.J,hd,hd]
 have eF:(w.cutW v rr cc).m.F0=w.m.F0:=by
  funext r c
  rw [Mp.F0,Mp.F0,gW his];simp only [ck_one his rr cc]
 rw [Mp.bnd,Mp.bnd,eJ,eF,gA his];show Th.boundP w.m.T w.m.J (w.m.W - 1) w.m.F0 (w.m.gs.map gg) (w.m.cutC rr cc).length=_;rw [gB]
theorem cutW_rect:(w.cutW v rr cc).m.Rect:=by
 intro l hl;obtain ⟨r,hr,rfl⟩:=xZQ.1 (show l∈(List.range w.m.cells.length).map (w.m.cutR rr cc) from hl);rw [qAT];exact (gA his v rr cc).symm
theorem qAS:(w.cutW v rr cc).Is:=by
 have hW:=gA his v rr cc;have hl:(w.cutW v rr cc).m.cells.length=w.m.cells.length:=gB _ _ _;have hm:=his.m;refine ⟨⟨rfl,fun r hr=> ?_,?_,?_,?_,?_,fun x hx=> ?_,hm.T⟩,cutW_rect his v rr cc,his.t0,his.t4,his.k0,his.k5,his.ts⟩
 ·rw [hl] at hr;rw [hW];show ((w.m.cutC rr cc).getD r []).length=_;rw [gX _ _ _ hr,qAT]
 ·rw [hl];exact hm.r0
 ·rw [hW];exact hm.c0
 ·rw [hl];exact hm.r6
 ·rw [hW];exact hm.c8
 ·obtain ⟨a1,a2,a3,a4⟩:=hm.gs x hx;refine ⟨⟨a1.1,by rw [hl];exact a1.2⟩,⟨a2.1,?_⟩,a3,a4⟩;show x.2.1.toNat<((w.m.cutC rr cc).getD x.1.toNat []).length;rw [gX _ _ _ a1.2,qAT,<-hm.hC _ a1.2];exact a2.2
omit his in
theorem qB4 {w:Wk} (his:w.Is) {r c:Nat} (hr:r<w.m.cells.length) (hc:c<w.m.W) (k:Int):w.m.is (r:Int) (c:Int) k=decide (w.m.cell r c=k):=by
 have e1:w.m.inside (r:Int) (c:Int)=true:=by
  rw [Mp.inside_iff];have hR:w.m.R=w.m.cells.length:=rfl;have hC:w.m.C=(w.m.W:Int):=rfl;rw [hR,hC];omega
 rw [Mp.is,e1,xYL];have hl:=his.m.hC r hr;have:w.m.kind (r:Int) (c:Int)=w.m.cell r c:=by
  have hx:w.m.cells[r]? =some w.m.cells[r]:=xZX hr;rw [xZW,hx,xYN] at hl;have hy:w.m.cells[r][c]? =some (w.m.cells[r][c]'(by omega)):=xZX (by omega);simp only [Mp.kind,Mp.cell,xXV,xZW,hx,hy,xYN]
 rw [this]
theorem cutW_pcan {row col k:Nat} (hk:k<w.ts.length) {wd:Nat}:(w.cutW v rr cc).sel wd (Wk.blkK row col k)=(w.sel wd (Wk.blkK row col k) && (decide (row+wd<=rr) && decide (col+wd<=cc))):=by
 have his':=qAS his v rr cc;obtain ⟨n,th,wo,ht⟩:=his.tub hk;have ht':Tub (w.cutW v rr cc) k n th wo:=by
  obtain ⟨n',th',wo',ht'⟩:=his'.tub (q:=k) hk;have e1:=ht.at_;have e2:=ht'.at_;rw [e2] at e1;simp only [Option.some.injEq,Prod.mk.injEq] at e1;obtain ⟨e3,rfl,rfl⟩:=e1;obtain rfl:n'=n:=by omega
  exact ht'
 have n1:=ht.n1;simp only [Wk.sel,Wk.blkK,xXV,ht.tb,ht'.tb,Wk.pcan_q ht,Wk.pcan_q ht'];have hW:=gA his v rr cc;have hl:(w.cutW v rr cc).m.cells.length=w.m.cells.length:=gB _ _ _;rw [hW,hl];rw [Bool.eq_iff_iff];simp only [Mp.pcan,xZO,decide_eq_true_eq,vR,yQ,xXV];constructor
 ·rintro ⟨e,h1,h2,h3,h4⟩;obtain rfl:n=wd:=by omega
  have key: ∀i,i<n-> ∀j,j<n->w.m.cell (row+i) (col+j)=2/\ ¬(rr<=row+i\/cc<=col+j):=fun i hi j hj=>by
   have:=h3 i hi j hj;rw [qB4 his' (by rw [hl];omega) (by rw [hW];omega),gW his,decide_eq_true_eq,ck] at this;split at this
   ·omega
   ·rename_i q;exact ⟨this,fun q'=>q ⟨this,q'⟩⟩
  refine ⟨⟨e,h1,h2,fun i hi j hj=> ?_,h4⟩,?_,?_⟩
  ·rw [qB4 his (by omega) (by omega)];exact decide_eq_true (key i hi j hj).1
  ·have:=(key (n - 1) (by omega) 0 (by omega)).2;omega
  ·have:=(key 0 (by omega) (n - 1) (by omega)).2;omega
 ·rintro ⟨⟨e,h1,h2,h3,h4⟩,h5,h6⟩;obtain rfl:n=wd:=by omega
  refine ⟨e,h1,h2,fun i hi j hj=> ?_,h4⟩;have:=h3 i hi j hj;rw [qB4 his (by omega) (by omega),decide_eq_true_eq] at this;rw [qB4 his' (by rw [hl];omega) (by rw [hW];omega),gW his,decide_eq_true_eq,ck,this,if_neg (by omega)]
theorem qC2 (wd row col:Nat):(w.cutW v rr cc).selTo wd row col w.ts.length=if row+wd<=rr/\col+wd<=cc then w.selTo wd row col w.ts.length else []:=by
 have e: ∀s∈(List.range w.ts.length).map (Wk.blkK row col),(w.cutW v rr cc).sel wd s=(w.sel wd s && (decide (row+wd<=rr) && decide (col+wd<=cc))):=fun s hs=>by
  obtain ⟨k,hk,rfl⟩:=xZQ.1 hs;exact cutW_pcan his v rr cc (xZS.1 hk)
 rw [Wk.selTo,List.filter_congr e];split
 ·rename_i q;rw [decide_eq_true q.1,decide_eq_true q.2];simp only [xXW,Bool.and_true];rfl
 ·rename_i q;rw [List.filter_eq_nil_iff];intro s _;simp only [xZO,decide_eq_true_eq];rintro ⟨_,h⟩;exact q h
theorem cutW_bv (G:tG) (row wd col:Nat):(w.cutW v rr cc).bv G row wd col=if row+wd<=rr/\col+wd<=cc then w.bv G row wd col else 0:=by
 rw [Wk.bv];show best0 (((w.cutW v rr cc).selTo wd row col w.ts.length).map (w.lv G))=_;rw [qC2 his];split
 ·rfl
 ·rfl
end
def Wk.En (w:Wk) (G:tG) (row wd n:Nat):Int:=((w.cutW w.m.vc w.m.cells.length n).bandP G row wd w.m.W).2
def Wk.Un (w:Wk) (G:tG) (k:Nat):Int:=((w.cutW w.m.vc k w.m.W).packP G w.m.cells.length).2
theorem Wk.Is.En_max {w:Wk} (his:w.Is) (G:tG) {row wd n:Nat} (hwd:1<=wd) (hr:row+wd<=w.m.cells.length) (hn:n<=w.m.W):IsMax (Pth [wd] (fun c _=>w.bv G row wd c) 0 n) (w.En G row wd n):=by
 have h:=(qAS his w.m.vc w.m.cells.length n).band_max G row hwd w.m.W (by rw [gA his];exact xZY _);rw [gA his,xYR] at h;refine Pth.cut hn ?_;have e:(fun c (_:Nat)=>(w.cutW w.m.vc w.m.cells.length n).bv G row wd c)=fun c _=>if c+wd<=n then w.bv G row wd c else 0:=by
  funext c _
  rw [cutW_bv his];by_cases q:c+wd<=n
  ·rw [if_pos ⟨hr,q⟩,if_pos q]
  ·rw [if_neg (fun a=>q a.2),if_neg q]
 rw [e] at h;have e2: ∀{f n' v},Pth [wd] (fun c (_:Nat)=>if c+wd<=n then w.bv G row wd c else 0) f n' v↔Pth [wd] (fun c x=>if c+x<=n then w.bv G row wd c else 0) f n' v:=by
  intro f n' v;constructor
  ·intro hv;induction hv with
   |nil h=>exact .nil h
   | @cons f g x n' v h1 h2 _ ih=>
    have:=Pth.cons (b:=fun c x=>if c+x<=n then w.bv G row wd c else 0) h1 h2 ih;rw [xZR.1 h2] at this;exact this
  ·intro hv;induction hv with
   |nil h=>exact .nil h
   | @cons f g x n' v h1 h2 _ ih=>
    have:=Pth.cons (b:=fun c (_:Nat)=>if c+wd<=n then w.bv G row wd c else 0) h1 h2 ih;simp only [xZR.1 h2];exact this
 exact ⟨e2.1 h.1,fun v hv=>h.2 v (e2.2 hv)⟩
theorem cutW_band {w:Wk} (his:w.Is) (v:AV) (G:tG) {k row wd:Nat}: ∀m,((w.cutW v k w.m.W).bandP G row wd m)=if row+wd<=k then w.bandP G row wd m else ([],0):=by
 intro m;induction m using xXQ with
 |ind m ih=>
 cases m with
 |zero=>rw [Wk.bandP_zero,Wk.bandP_zero];simp
 |succ m=>
  have i1:=ih m (by omega);have i2:=ih (m - (wd - 1)) (by omega);have hs:(w.cutW v k w.m.W).selTo wd row (w.m.W - (m+1)) w.ts.length=if row+wd<=k then w.selTo wd row (w.m.W - (m+1)) w.ts.length else []:=by
   rw [qC2 his];by_cases q:row+wd<=k
   ·by_cases q2:w.m.W - (m+1)+wd<=w.m.W
    ·rw [if_pos ⟨q,q2⟩,if_pos q]
    ·rw [if_neg (fun a=>q2 a.2),if_pos q,eq_comm,List.eq_nil_iff_forall_not_mem];intro s hs;exact q2 (sel_in his hs).2
   ·rw [if_neg (fun a=>q a.1),if_neg q]
  rw [Wk.bandP_succ,Wk.bandP_succ,Wk.cnd,Wk.cnd,i1,i2,gA his];show gD _ (_::((w.cutW v k w.m.W).selTo wd row (w.m.W - (m+1)) w.ts.length).map _)=_;rw [hs];by_cases q:row+wd<=k
  ·simp only [if_pos q];rfl
  ·simp only [if_neg q,xXM];simp [gD]
theorem Wk.Is.Un_max {w:Wk} (his:w.Is) (G:tG) {k:Nat} (hk:k<=w.m.cells.length):IsMax (Pth w.wn (fun f wd=>(w.bandP G f wd w.m.W).2) 0 k) (w.Un G k):=by
 have hl:(w.cutW w.m.vc k w.m.W).m.cells.length=w.m.cells.length:=gB _ _ _;have h:=(qAS his w.m.vc k w.m.W).pack_max G w.m.cells.length (by rw [hl];exact xZY _);rw [hl,xYR] at h;refine Pth.cut hk ?_;have e:(fun f wd=>((w.cutW w.m.vc k w.m.W).bandP G f wd (w.cutW w.m.vc k w.m.W).m.W).2)=fun f wd=>if f+wd<=k then (w.bandP G f wd w.m.W).2 else 0:=by
  funext f wd
  rw [gA his,cutW_band his];split<;>rfl
 rw [e] at h;exact h
theorem Wk.Is.Un_all {w:Wk} (his:w.Is) (G:tG):w.Un G w.m.cells.length=(w.packP G w.m.cells.length).2:=by
 have h:=his.pack_max G w.m.cells.length (xZY _);rw [xYR] at h;exact (his.Un_max G (xZY _)).eq h
theorem Wk.Is.En_all {w:Wk} (his:w.Is) (G:tG) {row wd:Nat} (hwd:1<=wd) (hr:row+wd<=w.m.cells.length):w.En G row wd w.m.W=(w.bandP G row wd w.m.W).2:=by
 have h:=his.band_max G row hwd w.m.W (xZY _);rw [xYR] at h;exact (his.En_max G hwd hr (xZY _)).eq h
theorem Wk.Is.En_zero {w:Wk} (his:w.Is) (G:tG) {row wd:Nat} (hwd:1<=wd) (hr:row+wd<=w.m.cells.length):w.En G row wd 0=0:=
 (his.En_max G hwd hr (xYT _)).eq (IsMax.end_ fun x hx=>by rw [xZR.1 hx];exact hwd)
theorem Wk.Is.En_succ {w:Wk} (his:w.Is) (G:tG) {row wd n:Nat} (hwd:1<=wd) (hr:row+wd<=w.m.cells.length) (hn:n+1<=w.m.W):w.En G row wd (n+1)=if n+1<wd then w.En G row wd n else ((w.selTo wd row (n+1 - wd) w.ts.length).map fun s=>w.En G row wd (n+1 - wd)+w.lv G s).foldl max (w.En G row wd n):=by
 have hD: ∀x∈[wd],1<=x:=fun x hx=>by rw [xZR.1 hx];exact hwd
 have hx:=his.En_max G hwd hr (show n<=w.m.W by omega);have hy: ∀x∈[wd],x<=n+1->IsMax (Pth [wd] (fun c _=>w.bv G row wd c) 0 (n+1 - x)) (w.En G row wd (n+1 - wd)):=fun x hx h=>by
  rw [xZR.1 hx];exact his.En_max G hwd hr (by omega)
 refine (his.En_max G hwd hr hn).eq ?_;split
 ·rename_i q;exact IsMax.bot hx (fun _=>w.En G row wd (n+1 - wd)) hD hy (xXZ _) (fun x hx h=>by rw [xZR.1 hx] at h;omega) (.inl rfl)
 ·rename_i q;obtain ⟨g1,g2⟩:=xL ((w.selTo wd row (n+1 - wd) w.ts.length).map fun s=>w.En G row wd (n+1 - wd)+w.lv G s) (w.En G row wd n);have gm:=uP ((w.selTo wd row (n+1 - wd) w.ts.length).map fun s=>w.En G row wd (n+1 - wd)+w.lv G s) (w.En G row wd n);have hle:w.En G row wd (n+1 - wd)<=w.En G row wd n:=hx.2 _ ((his.En_max G hwd hr (show n+1 - wd<=w.m.W by omega)).1.back (by omega));have hsel: ∀s∈w.selTo wd row (n+1 - wd) w.ts.length,w.En G row wd (n+1 - wd)+w.lv G s<=_:=fun s hs=>g2 _ (xZQ.2 ⟨s,hs,rfl⟩);generalize ((w.selTo wd row (n+1 - wd) w.ts.length).map fun s=>w.En G row wd (n+1 - wd)+w.lv G s).foldl max (w.En G row wd n)=M at*
  refine IsMax.bot hx (fun _=>w.En G row wd (n+1 - wd)) hD hy g1 (fun x hx h=> ?_) ?_
  ·rw [xZR.1 hx];rcases w.bv_mem G row wd (n+1 - wd) with e|⟨s,hs,e⟩
   ·rw [e];omega
   ·rw [e];exact hsel s hs
  ·rcases gm with e|e
   ·exact .inl e
   ·obtain ⟨s,hs,e⟩:=xZQ.1 e;refine .inr ⟨wd,xZR.2 rfl,by omega,?_⟩;have b1:=w.bv_ge G hs;rcases w.bv_mem G row wd (n+1 - wd) with e'|⟨s',hs',e'⟩
    ·have b2:0<=w.bv G row wd (n+1 - wd):=w.bv_pos G row wd _;by_cases z:w.lv G s=0
     ·omega
     ·have:=hsel s hs;by_cases z2:w.lv G s<0
      ·omega
      ·omega
    ·have:=hsel s' hs';omega
def Wk.bb (w:Wk) (G:tG) (f wd:Nat):Int:=(w.bandP G f wd w.m.W).2
theorem Wk.Is.Un_zero {w:Wk} (his:w.Is) (G:tG):w.Un G 0=0:=
 (his.Un_max G (xYT _)).eq (IsMax.end_ fun _ hx=>(his.wn_bd hx).1)
theorem Wk.Is.Un_le {w:Wk} (his:w.Is) (G:tG) {a b:Nat} (h:a<=b) (hb:b<=w.m.cells.length):w.Un G a<=w.Un G b:=(his.Un_max G hb).2 _ ((his.Un_max G (xYE h hb)).1.back h)
theorem Wk.Is.Un_band {w:Wk} (his:w.Is) (G:tG) {f wd:Nat} (hw:wd∈w.wn) (h:f+wd<=w.m.cells.length):w.Un G f+w.bb G f wd<=w.Un G (f+wd):=(his.Un_max G h).2 _ ((his.Un_max G (show f<=w.m.cells.length by omega)).1.snoc hw (xZY _))
theorem Wk.Is.Un_succ {w:Wk} (his:w.Is) (G:tG) {k:Nat} (hk:k+1<=w.m.cells.length):w.Un G (k+1)=w.Un G k\/ ∃f wd,wd∈w.wn/\f+wd=k+1/\w.Un G (k+1)=w.Un G f+w.bb G f wd:=by
 have h:=his.Un_max G hk;rcases h.1.last with e|⟨g,wd,u,k1,k2,k3,e⟩
 ·left
  have h0:=his.Un_le G (xYT k) (by omega);rw [his.Un_zero G] at h0;have:=his.Un_le G (xXS k 1) hk;omega
 ·by_cases q:g+wd<=k
  ·left
   have:=(his.Un_max G (show k<=w.m.cells.length by omega)).2 _ (k2.snoc k1 q);have:=his.Un_le G (xXS k 1) hk;omega
  ·have hw:=his.wn_bd k1;have q1:g+wd=k+1:=by omega
   refine .inr ⟨g,wd,k1,q1,?_⟩;have a1:=(his.Un_max G (show g<=w.m.cells.length by omega)).2 _ k2;have a2:=his.Un_band G k1 (show g+wd<=w.m.cells.length by omega);rw [q1] at a2;have:w.bb G g wd=(w.bandP G g wd w.m.W).2:=rfl;omega
def uY (b:Nat->Nat->Int) (u:List Int) (x:Nat×Nat):List Int:=
 (u.set x.1 (max (u.getD x.1 0) (u.getD (x.1 - 1) 0))).set (x.1+x.2) (max ((u.set x.1 (max (u.getD x.1 0) (u.getD (x.1 - 1) 0))).getD (x.1+x.2) 0) ((u.set x.1 (max (u.getD x.1 0) (u.getD (x.1 - 1) 0))).getD x.1 0+b x.1 x.2))
def qAI (u:List Int) (r:Nat):List Int:=u.set (r+1) (max (u.getD (r+1) 0) (u.getD r 0))
def Wk.rowB (w:Wk) (f:Nat):List (Nat×Nat):=(w.wn.filter fun x=>decide (f+x<=w.m.cells.length)).map fun x=>(f,x)
def Wk.bnds (w:Wk) (k:Nat):List (Nat×Nat):=(List.range k).flatMap w.rowB
theorem vW (u:List Int) {b:Nat} (hb:b<u.length) (x:Int) (j:Nat):(u.set b x).getD j 0=if j=b then x else u.getD j 0:=by
 rw [xZW,xZW,xYP];by_cases e:b=j
 ·subst e;rw [if_pos rfl,if_pos hb,if_pos rfl];rfl
 ·rw [if_neg e,if_neg (fun q=>e q.symm)]
theorem qDK {b:Nat->Nat->Int} {u:List Int} {f wd:Nat} (h:f+wd<u.length) (hw:1<=wd) (j:Nat):(uY b u (f,wd)).getD j 0=if j=f+wd then max (u.getD (f+wd) 0) (max (u.getD f 0) (u.getD (f - 1) 0)+b f wd) else if j=f then max (u.getD f 0) (u.getD (f - 1) 0) else u.getD j 0:=by
 simp only [uY];generalize max (u.getD f 0) (u.getD (f - 1) 0)=m
 rw [vW (u.set f m) (by rw [xZK];omega) _ j,vW u (by omega) m (f+wd),vW u (by omega) m f,vW u (by omega) m j,if_pos rfl,if_neg (show¬f+wd=f by omega)]
theorem qDJ (b:Nat->Nat->Int) (u:List Int) (x:Nat×Nat):(uY b u x).length=u.length:=by simp [uY]
structure BI (w:Wk) (G:tG) (P:Nat->Nat->Prop) (f:Nat) (u:List Int):Prop where
 len:u.length=w.m.cells.length+1
 up: ∀k,k<=w.m.cells.length->0<=u.getD k 0/\u.getD k 0<=w.Un G k
 lo: ∀f' wd,P f' wd->wd∈w.wn->f'+wd<=w.m.cells.length->w.Un G f'+w.bb G f' wd<=u.getD (f'+wd) 0
 fin: ∀k,k<f->(∃wd∈w.wn,k+wd<=w.m.cells.length)->u.getD k 0=w.Un G k
theorem BI.step {w:Wk} (his:w.Is) {G:tG} {P:Nat->Nat->Prop} {f:Nat} {u:List Int} (h:BI w G P f u) (hP: ∀f' wd,f'<f->P f' wd) {wd:Nat} (hw:wd∈w.wn) (hf:f+wd<=w.m.cells.length):BI w G (fun a b=>P a b\/(a=f/\b=wd)) f (uY (w.bb G) u (f,wd))/\(uY (w.bb G) u (f,wd)).getD f 0=w.Un G f:=by
 have hwd:=his.wn_bd hw;have hg: ∀j,_:=qDK (b:=w.bb G) (u:=u) (f:=f) (wd:=wd) (by rw [h.len];omega) hwd.1;have uf:max (u.getD f 0) (u.getD (f - 1) 0)=w.Un G f:=by
  have u1:=h.up f (by omega);have u2:=h.up (f - 1) (by omega);have u3:=his.Un_le G (Nat.sub_le f 1) (show f<=w.m.cells.length by omega);cases f with
  |zero=>
   have:=his.Un_zero G;simp only [Nat.zero_sub] at*;omega
  |succ k=>
   have e1:=h.fin k (by omega) ⟨wd,hw,by omega⟩;simp only [Nat.add_sub_cancel] at*;rcases his.Un_succ G (show k+1<=w.m.cells.length by omega) with e|⟨g,x,x1,x2,e⟩
   ·omega
   ·have hx:=his.wn_bd x1;have:=h.lo g x (hP g x (by omega)) x1 (by omega);rw [x2] at this;omega
 rw [uf] at hg;have hbd:=his.Un_band G hw hf;refine ⟨⟨by rw [qDJ];exact h.len,fun k hk=> ?_,fun f' x hp hx hfx=> ?_,fun k hk hkx=> ?_⟩,?_⟩
 ·rw [hg];have a:=h.up k hk;have af:=h.up f (by omega);have h0:0<=w.Un G f:=by omega
  split
  ·rename_i q;subst q;omega
  ·split
   ·rename_i q;subst q;omega
   ·exact a
 ·rw [hg];rcases hp with hp|⟨rfl,rfl⟩
  ·have a:=h.lo f' x hp hx hfx;split
   ·rename_i q;rw [q] at a;omega
   ·split
    ·rename_i q;have:=his.Un_band G hx hfx;rw [q] at this;exact this
    ·exact a
  ·rw [if_pos rfl];omega
 ·rw [hg,if_neg (by omega),if_neg (by omega)];exact h.fin k hk hkx
 ·rw [hg,if_neg (by omega),if_pos rfl]
theorem BI.row {w:Wk} (his:w.Is) {G:tG} {f:Nat}: ∀(l:List Nat) {P:Nat->Nat->Prop} {u:List Int},BI w G P f u->(∀f' wd,f'<f->P f' wd)->(∀x∈l,x∈w.wn/\f+x<=w.m.cells.length)->BI w G (fun a b=>P a b\/(a=f/\b∈l)) f ((l.map fun x=>(f,x)).foldl (uY (w.bb G)) u)/\(l≠[]->((l.map fun x=>(f,x)).foldl (uY (w.bb G)) u).getD f 0=w.Un G f)
 |[],P,u,h,_,_=>⟨⟨h.len,h.up,fun f' wd hp=>h.lo f' wd (by rcases hp with hp|⟨_,hp⟩;exact hp;cases hp),h.fin⟩,fun q=>absurd rfl q⟩
 |x::l,P,u,h,hP,hl=>by
  obtain ⟨i1,i2⟩:=h.step his hP (hl x xYS).1 (hl x xYS).2;obtain ⟨j1,j2⟩:=BI.row his l i1 (fun f' wd hf=> .inl (hP f' wd hf)) (fun y hy=>hl y (xZA _ hy));rw [xXX,xYG];refine ⟨⟨j1.len,j1.up,fun f' wd hp=>j1.lo f' wd ?_,j1.fin⟩,fun _=> ?_⟩
  ·rcases hp with hp|⟨rfl,hp⟩
   ·exact .inl (.inl hp)
   ·rcases xYM.1 hp with rfl|hp
    ·exact .inl (.inr ⟨rfl,rfl⟩)
    ·exact .inr ⟨rfl,hp⟩
  ·by_cases e:l=[]
   ·subst e;exact i2
   ·exact j2 e
theorem BI.rows {w:Wk} (his:w.Is) {G:tG}: ∀k,k<=w.m.cells.length->BI w G (fun a _=>a<k) k ((w.bnds k).foldl (uY (w.bb G)) (List.replicate (w.m.cells.length+1) 0))
 |0,_=>⟨by simp [Wk.bnds],fun k hk=>by
   have:=his.Un_le G (xYT k) hk;rw [his.Un_zero G] at this;simp [Wk.bnds,xZW,show k<w.m.cells.length+1 by omega,this],fun _ _ h=>absurd h (by omega),fun _ h=>absurd h (by omega)⟩
 |k+1,hk=>by
  have ih:=BI.rows (G:=G) his k (by omega);rw [Wk.bnds,xZC,xXI,xYU];simp only [xXG,List.flatMap_nil,xXR];obtain ⟨i1,i2⟩:=ih.row his (w.wn.filter fun x=>decide (k+x<=w.m.cells.length)) (fun f' wd h=>h) (fun x hx=>by
   obtain ⟨h1,h2⟩:=xZG.1 hx;exact ⟨h1,of_decide_eq_true h2⟩)
  rw [Wk.rowB];refine ⟨i1.len,i1.up,fun f' wd hp hw hf=>i1.lo f' wd ?_ hw hf,fun j hj hx=> ?_⟩
  ·by_cases e:f'=k
   ·subst e;exact .inr ⟨rfl,xZG.2 ⟨hw,decide_eq_true hf⟩⟩
   ·exact .inl (by omega)
  ·by_cases e:j=k
   ·subst e;obtain ⟨wd,h1,h2⟩:=hx;refine i2 fun q=> ?_;have:wd∈w.wn.filter fun x=>decide (j+x<=w.m.cells.length):=xZG.2 ⟨h1,decide_eq_true h2⟩;rw [q] at this;cases this
   ·exact i1.fin j (by omega) hx
def Wk.uAll (w:Wk) (G:tG):List Int:=(w.bnds w.m.cells.length).foldl (uY (w.bb G)) (List.replicate (w.m.cells.length+1) 0)
theorem qCU {w:Wk} (his:w.Is) (G:tG): ∀r,r<=w.m.cells.length->((List.range r).foldl qAI (w.uAll G)).length=w.m.cells.length+1/\(∀k,k<=r->((List.range r).foldl qAI (w.uAll G)).getD k 0=w.Un G k)/\ ∀k,r<k->((List.range r).foldl qAI (w.uAll G)).getD k 0=(w.uAll G).getD k 0
 |0,_=>by
  have h:=BI.rows (G:=G) his w.m.cells.length (xZY _);refine ⟨h.len,fun k hk=> ?_,fun k _=>rfl⟩;obtain rfl:k=0:=by omega
  have:=h.up 0 (xYT _);rw [his.Un_zero G] at this ⊢;show (w.uAll G).getD 0 0=0;rw [Wk.uAll];omega
 |r+1,hr=>by
  obtain ⟨i1,i2,i3⟩:=qCU his G r (by omega);have h:=BI.rows (G:=G) his w.m.cells.length (xZY _);rw [xZC,xYU];simp only [xYG,List.foldl_nil];refine ⟨by rw [qAI,xZK];exact i1,fun k hk=> ?_,fun k hk=> ?_⟩
  ·rw [qAI,vW _ (by omega)];by_cases e:k=r+1
   ·subst e;rw [if_pos rfl,i3 _ (by omega),i2 _ (xZY _)];have u1:=h.up (r+1) hr;have u2:=his.Un_le G (xXS r 1) hr;rw [Wk.uAll];rcases his.Un_succ G hr with e|⟨g,x,x1,x2,e⟩
    ·omega
    ·have hx:=his.wn_bd x1;have:=h.lo g x (by omega) x1 (by omega);rw [x2] at this;omega
   ·rw [if_neg e];exact i2 k (by omega)
  ·rw [qAI,vW _ (by omega),if_neg (by omega)];exact i3 k (by omega)
theorem uFin {w:Wk} (his:w.Is) (G:tG):(List.range w.m.cells.length).foldl qAI (w.uAll G)=(List.range (w.m.cells.length+1)).map (w.Un G):=by
 obtain ⟨h1,h2,_⟩:=qCU his G w.m.cells.length (xZY _);refine List.ext_getElem (by simpa using h1) fun i a b=> ?_;have:=h2 i (by omega);rw [xZW,xZX a] at this;simpa using this
def dif:Int->List Int->List Int
 |_,[]=>[]
 |p,x::l=>(x - p)::dif x l
def dfl (F:Nat->Int) (n:Nat):List Int:=(List.range n).map fun c=>F (c+1) - F c
theorem qFT (F:Nat->Int) (n:Nat):dfl F (n+1)=dfl F n++[F (n+1) - F n]:=by simp [dfl,xZC]
theorem qC1: ∀(l:List Int) (p x:Int),dif p (l++[x])=dif p l++[x - (l.getLast?.getD p)]
 |[],p,x=>rfl
 |y::l,p,x=>by
  rw [xXC,dif,dif,qC1 l y x,xXC];cases l with
  |nil=>rfl
  |cons z l=>simp [List.getLast?_cons]
theorem dif_F (F:Nat->Int): ∀n,dif (F 0) ((List.range n).map fun c=>F (c+1))=dfl F n
 |0=>rfl
 |n+1=>by
  rw [xZC,List.map_append,xXX,xXM,qC1,dif_F F n,qFT];cases n with
  |zero=>rfl
  |succ n=>simp [xZC]
theorem qCd (F:Nat->Int): ∀n,(dfl F n).sum=F n - F 0
 |0=>by simp [dfl]
 |n+1=>by rw [qFT,List.sum_append,qCd F n];simp;omega
def Wk.prows (w:Wk) (G:tG):List Int:=dfl (w.Un G) w.m.cells.length
def Wk.pbnds (w:Wk) (G:tG):List (Int×Int×List Int):=(w.bnds w.m.cells.length).map fun x=>((x.1:Int),(x.2:Int),dfl (w.En G x.1 x.2) w.m.W)
theorem pN:tb.get 89=some te89:=by kernel_rfl
theorem xH:tb.get 117=some te117:=by kernel_rfl
theorem tg93:tb.get 91=some te91:=by kernel_rfl
theorem tg161:tb.get 162=some te162:=by kernel_rfl
theorem ld91 (xt:Xt) (h:Hp) (b off:Nat):qN tb xt h 89 (.ptr b off)=jZ (h.t.get b) off:=kN pN rfl
theorem st91 (h:Hp) (b off:Nat) (v:AV):jH tb h 89 (.ptr b off) v=qX 1 h b off v (h.t.get b):=zG pN rfl
theorem ld161 (xt:Xt) (h:Hp) (b off:Nat):qN tb xt h 162 (.ptr b off)=jZ (h.t.get b) off:=kN tg161 rfl
theorem st161 (h:Hp) (b off:Nat) (v:AV):jH tb h 162 (.ptr b off) v=qX 1 h b off v (h.t.get b):=zG tg161 rfl
theorem ld118 (xt:Xt) (h:Hp) (b off:Nat):qN tb xt h 117 (.ptr b off)=zI 3 (h.t.get b) off:=yN xH rfl rfl
theorem st118 (h:Hp) (b off:Nat) (v:AV):jH tb h 117 (.ptr b off) v=qX 3 h b off v (h.t.get b):=zG xH rfl
theorem fa118_0 (b off:Nat):qI tb 117 (.ptr b off) 0=some (.ptr b (off+0)):=j6 xH rfl rfl
theorem fa118_1 (b off:Nat):qI tb 117 (.ptr b off) 1=some (.ptr b (off+1)):=j6 xH rfl rfl
theorem fa118_2 (b off:Nat):qI tb 117 (.ptr b off) 2=some (.ptr b (off+2)):=j6 xH rfl rfl
theorem ld93 (xt:Xt) (h:Hp) (b off:Nat):qN tb xt h 91 (.ptr b off)=zI 2 (h.t.get b) off:=yN tg93 rfl rfl
theorem st93 (h:Hp) (b off:Nat) (v:AV):jH tb h 91 (.ptr b off) v=qX 2 h b off v (h.t.get b):=zG tg93 rfl
theorem fa93_0 (b off:Nat):qI tb 91 (.ptr b off) 0=some (.ptr b (off+0)):=j6 tg93 rfl rfl
theorem fa93_1 (b off:Nat):qI tb 91 (.ptr b off) 1=some (.ptr b (off+1)):=j6 tg93 rfl rfl
theorem al93 (h:Hp):jP tb h 91=some (.ptr h.n 0,h.new (.cells [jV,jV] 91)):=vU tg93 rfl
theorem al118 (h:Hp):jP tb h 117=some (.ptr h.n 0,h.new (.cells [iv 0,iv 0,jV] 117)):=vU xH rfl
theorem al161 (h:Hp):jP tb h 162=some (.ptr h.n 0,h.new (.cells [.val .nilFunc] 162)):=vU tg161 rfl
noncomputable def syb:=PLift.up (xZF ld91 (xZF st91 (xZF ld161 (xZF st161 (xZF ld118 (xZF st118 (xZF fa118_0 (xZF fa118_1 (xZF fa118_2 (xZF ld93 (xZF st93 (xZF fa93_0 (xZF fa93_1 (xZF al93 (xZF al118 al161)))))))))))))))
structure Nums (xt:Xt) (h:Hp) (v:AV) (l:List Int):Prop where
 row:RowAt xt h 1 v (l.map Kn.c1)
 lt:l.length<=9223372036854775807
section
variable {xt:Xt} {h h':Hp} {v:AV} {l:List Int}
theorem Nums.fr (a:Nums xt h v l) {n:Nat} (f:Fr n h h') (hn:h.n<=n):Nums xt h' v l:=⟨a.row.fr f hn,a.lt⟩
theorem Nums.up (a:Nums xt h v l) {n:Nat} (hn:h.n<=n):Nums xt (h.up n) v l:=⟨a.row.up hn,a.lt⟩
theorem Nums.len (a:Nums xt h v l) (h':Hp):zA tb h' 75 v=some l.length:=by
 have:=a.row.len (h':=h') yG rfl;simpa using this
theorem Nums.one (a:Nums xt h v l):Go.Ev.one v=true:=a.row.one
theorem Nums.cells (a:Nums xt h v l):cellsOf v=[v]:=a.row.cells
theorem Nums.nil:Nums xt h jV []:=⟨⟨(by intro c hc;cases hc),by omega,.inl ⟨rfl,rfl⟩⟩,by simp⟩
theorem Nums.own {N:Nat} (o:OwnSl h N 1 3 v l.length (ivs l)) (hl:l.length<=9223372036854775807):Nums xt h v l:=by
 rw [qEz] at o;exact ⟨OwnSl.row (fun c hc=>by obtain ⟨x,_,rfl⟩:=xZQ.1 hc;rfl) (by omega) (by rw [xZM];exact o),hl⟩
end
theorem _root_.Go.Ev.RowAt.sub {xt:Xt} {h:Hp} {sz:Nat} {v:AV} {cs:List (List Value)} {tb:T TE} {t e:TypeId} {te ee:TE} (r:RowAt xt h sz v cs) (hc:yE v) (ht:tb.get t=some te) (hd:te.d= .slice e) (he:tb.get e=some ee) (hs:ee.size=sz) {a k:Nat} (ha:a<=k) (hk:k<=cs.length):
  ∃v',(∀h':Hp,j0 tb h' t v (some (iv (a:Int))) (some (iv (k:Int)))=some v')/\RowAt xt h sz v' ((cs.take k).drop a)/\yE v':=by
 obtain ⟨h1,h2,h3⟩:=r;have b0:Nat.ble a k=true:=by rw [xYC];omega
 have e2: ∀d (m:Nat),vN d (some (iv (m:Int)))=some m:=fun d m=>rfl;have hl:((cs.take k).drop a).length=k - a:=by rw [xXD,xYX];omega
 have hmem: ∀c∈(cs.take k).drop a,c.length=sz:=fun c hc=>h1 c (xXK (xXJ hc));have hget: ∀i c,((cs.take k).drop a)[i]? =some c->cs[a+i]? =some c:=fun i c hi=>by
  rw [List.getElem?_drop,List.getElem?_take] at hi;split at hi
  ·exact hi
  ·cases hi
 rcases h3 with ⟨rfl,rfl⟩|⟨ad,cap,rfl,hx⟩|⟨b,off,av,e',rfl,⟨q1,q2,q3⟩,hx⟩
 ·simp at hk;subst hk;obtain rfl:a=0:=by omega
  have e3: ∀d,vN d (some (iv 0))=some 0:=fun d=>rfl;exact ⟨.val (.slice none 0 0),fun h'=>by simp [j0,ht,hd,he,e3,b0],⟨by simp,h2,.inl ⟨rfl,by simp⟩⟩,fun _ _ _ e=>by cases e;exact xZY _⟩
 ·have hcap:=hc _ _ _ rfl;have b1:Nat.ble k cap=true:=by rw [xYC];omega
  refine ⟨.val (.slice (some (if cap=a then ad else ad.add (a*sz))) (k - a) (cap - a)),fun h'=> ?_,⟨hmem,h2,.inr (.inl ⟨_,cap - a,by rw [hl],fun i c hi j u hu=> ?_⟩)⟩,fun _ _ _ e=>by cases e;omega⟩
  ·by_cases q:cap=a
   ·have b3:Nat.ble k a=true:=by rw [xYC];omega
    simp [j0,ht,hd,he,e2,b0,b3,q]
   ·simp [j0,ht,hd,he,e2,b0,b1,q,hs]
  ·have hi':=(xZV.1 hi).1;have:=hx (a+i) c (hget i c hi) j u hu;rw [if_neg (by omega),qA2];rw [xXH,Nat.add_assoc] at this;exact this
 ·have b1:Nat.ble k cs.length=true:=by rw [xYC];omega
  refine ⟨.sl b (off+a*sz) (k - a) sz,fun h'=>by simp [j0,ht,hd,he,e2,b0,b1,hs],⟨hmem,h2,.inr (.inr ⟨b,off+a*sz,av,e',by rw [hl],⟨q1,?_,q3⟩,fun i c hi j u hu=> ?_⟩)⟩,fun _ _ _ e=>by cases e⟩
  ·rw [hl];have:(k - a)*sz+a*sz<=cs.length*sz:=by rw [<-xXH];exact Nat.mul_le_mul_right _ (by omega)
   omega
  ·have:=hx (a+i) c (hget i c hi) j u hu;rw [xXH] at this;rw [show off+a*sz+(i*sz+j)=off+(a*sz+i*sz+j) by omega];exact this
theorem Nums.sub {xt:Xt} {h:Hp} {v:AV} {l:List Int} (r:Nums xt h v l) (hc:yE v) {a n:Nat} (hk:a+n<=l.length): ∃v',(∀h':Hp,j0 tb h' 75 v (some (iv (a:Int))) (some (iv ((a+n:Nat):Int)))=some v')/\Nums xt h v' ((l.drop a).take n):=by
 obtain ⟨v',h1,h2,_⟩:=r.row.sub hc yG rfl tg3 rfl (a:=a) (k:=a+n) (by omega) (by rw [xZM];exact hk);have e:((l.map Kn.c1).take (a+n)).drop a=((l.drop a).take n).map Kn.c1:=by
  rw [<-List.map_take,<-List.map_drop,List.drop_take,show a+n - a=n by omega]
 rw [e] at h2;exact ⟨v',h1,h2,by rw [xYX,xXD];have:=r.lt;omega⟩
def seg (l:List Int) (a n:Nat):Int:=((l.drop a).take n).sum
theorem seg_all (l:List Int):seg l 0 l.length=l.sum:=by simp [seg]
def okW (l:List Int):Bool:=l.all fun x=>inB x 0 1000000
theorem okW_no {l:List Int} {k:Nat} (hk:k<l.length) (h:inB (l.getD k 0) 0 1000000=false):okW l=false:=by
 rw [okW,xZB];refine ⟨_,xYK hk,?_⟩;rw [xZW,xZX hk] at h;simpa using h
theorem ft125 (xt:Xt):(SE xt).ft.get 125=some Tryz.f125:=by kernel_rfl
theorem res125:Tryz.f125.results.toList=[.tmp 2]:=by kernel_rfl
theorem qCn (xt:Xt) (h:Hp) (v:AV) (l:List Int) (hl:Nums xt h v l) {K:KP} (hk: ∀k,h.n<k->K (.ret (.val (.bool (okW l)))) (h.up k)):FnA (SE xt) 125 [v] h K:=by
 refine xYB ?_ hk;clear hk K;refine xZD (sok xt) (ft125 xt) rfl 16 rfl ?_;have hlen:=hl.len;have hlt:=hl.lt;apply qA;intro K hn hp;simp only [sw.1,rL];apply hn;apply qB;intro K hn hp;simp only [sy.1,rL];apply hn;apply qD;intro KA A1 A2 A3 A4 A5;refine qM (sok xt) (fun st=> ∃(k:Nat) (m:Nat) (tm:T AV),st=⟨tm,16,h.up m,[]⟩/\k<=l.length/\tm.get 0=some (v)/\tm.get 3=some (iv k)/\h.n<=m/\okW (l.take k)=true) (fun st=>l.length - (match st.tm.get 3 with|some (.val (.int _ n))=>n.toNat|_=>0)) ?_ ?_
 ·rintro st ⟨k,m,tm,rfl,hkA,g0,g3,hm,hall⟩;have muA:=g3;apply qB;intro K hn hp;simp only [sy.1,rE,reduceIte,rL,syw.1,hlen,qV,g0,g3];apply hn;by_cases hk:k<l.length
  ·refine jC (by simp only [sy.1,rE,reduceIte,hk]) ?_;obtain ⟨i1,i2⟩:=hl.row.m75 (k:=k) hk;apply qD;intro KB B1 B2 B3 B4 B5;apply qA;intro K hn hp;simp only [sy.1,rE,reduceIte,rL,syw.1,g0,g3,i1,i2];refine cAS (kZ xt (h.up m) (l.getD k 0) 0 1000000 fun m1 hm1=> ?_);simp only [xZP] at hm1;have e1:(decide ((0:Int)<=l.getD k 0) && decide (l.getD k 0<=1000000))=inB (l.getD k 0) 0 1000000:=rfl;rw [e1];cases q:inB (l.getD k 0) 0 1000000
   ·simp only [sy.1,rE,reduceIte,rL,xZL];apply hn;refine wcT (by simp only [sy.1,rE,reduceIte]) ?_;apply qA;intro K hn hp;simp only [sy.1,rL];apply hn;refine qC (B4 _ (A4 _ (qH res125 ⟨?_,(xZI (xZY _)).up (by omega)⟩)));simp [xZZ,okW_no hk q]
   ·simp only [sy.1,rE,reduceIte,rL,xZL];apply hn;refine wcF (by simp only [sy.1,rE,reduceIte]) ?_;refine qR (B1 _ ?_);refine reg fun K hn hp=> ?_;simp only [sy.1,rE,reduceIte,rL,g3,qF hk hlt];apply hn;refine ⟨⟨k+1,m1,_,rfl,by omega,(by simp [xZZ,g0]),(by simp [xZZ]),by omega,?_⟩,by simpa [xZZ,muA] using (by omega:l.length - (k+1)<l.length - k)⟩;rw [xYZ,xZX hk];rw [xZW,xZX hk] at q;simp only [okW,List.all_append,xZO] at hall ⊢;exact ⟨hall,by simpa using q⟩
  ·refine jD (by simp only [sy.1,rE,reduceIte,hk]) ?_;refine qL (A2 _ ?_);obtain rfl:k=l.length:=by omega
   rw [xYV (xZY _)] at hall;apply qA;intro K hn hp;simp only [sy.1,rL];apply hn;refine qC (qH res125 ⟨?_,(xZI (xZY _)).up hm⟩);simp [xZZ,hall]
 ·exact ⟨0,h.n,_,rfl,(by omega),(by simp [xZZ]),(by simp [xZZ]),xZY _,rfl⟩
theorem ft116 (xt:Xt):(SE xt).ft.get 116=some Tryz.f116:=by kernel_rfl
theorem res116:Tryz.f116.results.toList=[.tmp 2]:=by kernel_rfl
theorem notw_c (xt:Xt) (h:Hp) (x:Int) {K:KP} (hk: ∀k,h.n<k->K (.ret (.val (.bool (!inB x 0 1000000)))) (h.up k)):FnA (SE xt) 116 [iv x] h K:=by
 refine xYB ?_ hk;clear hk K;refine xZD (sok xt) (ft116 xt) rfl 6 rfl ?_;apply qA;intro K hn hp;simp only [sw.1,rL];apply hn;apply qA;intro K hn hp;simp only [sy.1,rE,reduceIte,rL];refine cAS (wU xt h x 0 1000000 fun m1 hm1=> ?_);have e1:(decide ((0:Int)<=x) && decide (x<=1000000))=inB x 0 1000000:=rfl;rw [e1];simp only [sy.1,rE,reduceIte,rL];refine hn _ _ (qC (qH res116 ⟨?_,(xZI (xZY _)).up (by omega)⟩));simp [xZZ]
theorem ft170 (xt:Xt):(SE xt).ft.get 170=some Tryz.f170:=by kernel_rfl
theorem res170:Tryz.f170.results.toList=[.tmp 4]:=by kernel_rfl
theorem idx170_c (xt:Xt) (h:Hp) (v:AV) (l:List Int) (hl:Nums xt h v l):FnA (SE xt) 170 [v,.val (.func (.func 116) #[] #[])] h (fun res h'=>(∃k:Int,res= .ret (iv k)/\decide (0<=k)= !okW l)/\Fr h.n h h'):=by
 refine xZD (sok xt) (ft170 xt) rfl 19 rfl ?_;have hlen:=hl.len;have hlt:=hl.lt;apply qA;intro K hn hp;simp only [sw.1,rL];apply hn;apply qB;intro K hn hp;simp only [sy.1,rE,reduceIte,rL,syw.1,hlen];apply hn;apply qD;intro KA A1 A2 A3 A4 A5;refine qM (sok xt) (fun st=> ∃(k:Nat) (m:Nat) (tm:T AV),st=⟨tm,19,h.up m,[]⟩/\k<=l.length/\tm.get 0=some (v)/\tm.get 1=some (.val (.func (.func 116) #[] #[]))/\tm.get 7=some (iv l.length)/\tm.get 8=some (iv k)/\h.n<=m/\okW (l.take k)=true) (fun st=>l.length - (match st.tm.get 8 with|some (.val (.int _ n))=>n.toNat|_=>0)) ?_ ?_
 ·rintro st ⟨k,m,tm,rfl,hkA,g0,g1,g7,g8,hm,hall⟩;have muA:=g8;apply qA;intro K hn hp;simp only [sy.1,rL,qV,g7,g8];apply hn;by_cases hk:k<l.length
  ·refine jC (by simp only [sy.1,reduceIte,hk]) ?_;obtain ⟨i1,i2⟩:=hl.row.m75 (k:=k) hk;apply qD;intro KB B1 B2 B3 B4 B5;apply qA;intro K hn hp;simp only [sy.1,rE,reduceIte,rL,g8];apply hn;apply qA;intro K hn hp;simp only [sy.1,rE,reduceIte,rL,syw.1,g0,g1,i1,i2];refine cAS (notw_c xt (h.up m) (l.getD k 0) fun m1 hm1=> ?_);simp only [xZP] at hm1;cases q:inB (l.getD k 0) 0 1000000
   ·simp only [sy.1,rL,xZL];apply hn;refine wcT (by simp only [sy.1,rE,reduceIte]) ?_;apply qA;intro K hn hp;simp only [sy.1,rE,reduceIte,rL];apply hn;refine qC (B4 _ (A4 _ (qH res170 ⟨⟨(k:Int),?_,?_⟩,(xZI (xZY _)).up (by omega)⟩)))
    ·simp [xZZ]
    ·rw [okW_no hk q,decide_eq_true (by omega)];rfl
   ·simp only [sy.1,rL,xZL];apply hn;refine wcF (by simp only [sy.1,rE,reduceIte]) ?_;refine qR (B1 _ ?_);refine reg fun K hn hp=> ?_;simp only [sy.1,rE,reduceIte,rL,g8,qF hk hlt];apply hn;refine ⟨⟨k+1,m1,_,rfl,by omega,(by simp [xZZ,g0]),(by simp [xZZ,g1]),(by simp [xZZ,g7]),(by simp [xZZ]),by omega,?_⟩,by simpa [xZZ,muA] using (by omega:l.length - (k+1)<l.length - k)⟩;rw [xYZ,xZX hk];rw [xZW,xZX hk] at q;simp only [okW,List.all_append,xZO] at hall ⊢;exact ⟨hall,by simpa using q⟩
  ·refine jD (by simp only [sy.1,reduceIte,hk]) ?_;refine qL (A2 _ ?_);obtain rfl:k=l.length:=by omega
   rw [xYV (xZY _)] at hall;apply qA;intro K hn hp;simp only [sy.1,rL];apply hn;refine qC (qH res170 ⟨⟨-1,?_,?_⟩,(xZI (xZY _)).up hm⟩)
   ·simp [xZZ]
   ·rw [hall];rfl
 ·exact ⟨0,h.n,_,rfl,(by omega),(by simp [xZZ]),(by simp [xZZ]),(by simp [xZZ]),(by simp [xZZ]),xZY _,rfl⟩
theorem ft118 (xt:Xt):(SE xt).ft.get 118=some Tryz.f118:=by kernel_rfl
theorem res118:Tryz.f118.results.toList=[.tmp 4]:=by kernel_rfl
theorem badw_c (xt:Xt) (h:Hp) (v:AV) (l:List Int) (hl:Nums xt h v l) {K:KP} (hk: ∀k,h.n<k->K (.ret (.val (.bool (!okW l)))) (h.up k)):FnA (SE xt) 118 [v,.val (.func (.func 116) #[] #[])] h K:=by
 refine xYB ?_ hk;clear hk K;refine xZD (sok xt) (ft118 xt) rfl 9 rfl ?_;apply qA;intro K hn hp;simp only [sw.1,rL];apply hn;apply qA;intro K hn hp;simp only [sy.1,rE,reduceIte,rL];refine cAS (xYW (idx170_c xt h v l hl) fun res h2 hres=> ?_);obtain ⟨⟨k,rfl,hk⟩,f2⟩:=hres;simp only [sy.1,rE,reduceIte,rL,hk];refine hn _ _ (qC (qH res118 ⟨?_,f2⟩));simp [xZZ]
theorem ft115 (xt:Xt):(SE xt).ft.get 115=some Tryz.f115:=by kernel_rfl
theorem res115:Tryz.f115.results.toList=[.tmp 2]:=by kernel_rfl
theorem steps_c (xt:Xt) (h:Hp) (v:AV) (l:List Int) (hl:Nums xt h v l) (hl8:l.length<=100) (hb: ∀x∈l,0<=x/\x<=1000000):
  FnA (SE xt) 115 [v] h (fun res h'=> ∃z,res= .ret z/\OwnSl h' h.n 1 3 z l.length (ivs (dif 0 l))/\Fr h.n h h'):=by
 refine xZD (sok xt) (ft115 xt) rfl 22 rfl ?_;have hlen:=hl.len;have hlt:=hl.lt;apply qA;intro K hn hp;simp only [sw.1,rL];apply hn;apply qA;intro K hn hp;simp only [sy.1,rL];apply hn;apply qA;intro K hn hp;simp only [sy.1,rL];apply hn;apply qB;intro K hn hp;simp only [sy.1,rE,reduceIte,rL,syw.1,hlen];apply hn;apply qD;intro KA A1 A2 A3 A4 A5;refine qM (sok xt) (fun st=> ∃(k:Nat) (hg:Hp) (z:AV) (p:Int) (tm:T AV),st=⟨tm,22,hg,[]⟩/\k<=l.length/\tm.get 3=some (z)/\tm.get 4=some (iv p)/\tm.get 7=some (v)/\tm.get 8=some (iv l.length)/\tm.get 9=some (iv k)/\Fr h.n h hg/\OwnSl hg h.n 1 3 z k (ivs (dif 0 (l.take k)))/\p=(l.take k).getLast?.getD 0) (fun st=>l.length - (match st.tm.get 9 with|some (.val (.int _ n))=>n.toNat|_=>0)) ?_ ?_
 ·rintro st ⟨k,hg,z,p,tm,rfl,hkA,g3,g4,g7,g8,g9,fg,og,hp0⟩;have muA:=g9;apply qA;intro K hn hp;simp only [sy.1,rL,qV,g8,g9];apply hn;by_cases hk:k<l.length
  ·refine jC (by simp only [sy.1,reduceIte,hk]) ?_;obtain ⟨i1,i2⟩:=(hl.fr fg (xZY _)).row.m75 (k:=k) hk;apply qD;intro KB B1 B2 B3 B4 B5;have hx:l.getD k 0∈l:=by
    rw [xZW,xZX hk];exact xYK hk
   have bx:=hb _ hx;have bp:0<=p/\p<=1000000:=by
    rw [hp0];cases e:(l.take k).getLast? with
    |none=>simp
    |some y=>exact hb y (List.take_subset _ _ (List.mem_of_getLast? e))
   have w1:IntKind.i64.wrap (l.getD k 0 - p)=l.getD k 0 - p:=qG _ (by omega) (by omega);obtain ⟨hB,hhB,nB,sB,kB,fB⟩:=vQ hg (.cells [iv (l.getD k 0 - p)] 3);obtain ⟨z',hC,r1,r2,r3,r4⟩:=OwnSl.append (P:=Tryz.prog) (xt:=xt) (m:=1) (by_:=8) (x:= .sl hg.n 0 1 1) (og.fr fB (xZY _)) (by have:=fg.lo;omega) yG rfl tg3 rfl rfl yG rfl (wO (e:=3) sB rfl rfl) (by omega) rfl (by omega) (by omega);apply qA;intro K hn hp;simp only [sy.1,rE,reduceIte,rL,g7,g9,i1,i2];apply hn;apply qA;intro K hn hp;simp only [sy.1,rE,reduceIte,rL,g3,g4,w1,jF,bs75,<-hhB,r1];apply hn;clear hhB;refine reg fun K hn hp=> ?_;simp only [sy.1,rE,reduceIte,rL];apply hn;refine B1 _ ?_;refine reg fun K hn hp=> ?_;simp only [sy.1,rE,reduceIte,rL,g9,qF hk hlt];apply hn;refine ⟨⟨k+1,hC,z',l.getD k 0,_,rfl,by omega,(by simp [xZZ]),(by simp [xZZ]),(by simp [xZZ,g7]),(by simp [xZZ,g8]),(by simp [xZZ]),(fg.trans fB (by have:=fg.lo;omega)).trans r3 (xZY _),?_,?_⟩,by simpa [xZZ,muA] using (by omega:l.length - (k+1)<l.length - k)⟩
   ·have e:ivs (dif 0 (l.take (k+1)))=ivs (dif 0 (l.take k))++[iv (l.getD k 0 - p)]:=by
     rw [xYZ,xZX hk,xYA,qC1,<-hp0,xZW,xZX hk];simp [ivs]
    rw [e];exact r2
   ·rw [xYZ,xZX hk,xZW,xZX hk,xYA,List.getLast?_concat]
  ·refine jD (by simp only [sy.1,reduceIte,hk]) ?_;refine qL (A2 _ ?_);obtain rfl:k=l.length:=by omega
   rw [xYV (xZY _)] at og;apply qA;intro K hn hp;simp only [sy.1,rE,reduceIte,rL,g3];apply hn;refine qC (qH res115 ⟨z,?_,og,fg⟩);simp [xZZ]
 ·exact ⟨0,h,jV,0,_,rfl,(by omega),(by simp [xZZ]),(by simp [xZZ]),(by simp [xZZ]),(by simp [xZZ]),(by simp [xZZ]),xZI (xZY _),.inl ⟨rfl,rfl,rfl⟩,rfl⟩
theorem OwnSl.cap {h:Hp} {N sz n:Nat} {e:TypeId} {v:AV} {cs:List AV} (o:OwnSl h N sz e v n cs):yE v:=by
 rcases o with ⟨_,_,rfl⟩|⟨b,rfl,_⟩
 ·intro _ _ _ e;cases e;exact xZY _
 ·intro _ _ _ e;cases e
structure BAt (xt:Xt) (h:Hp) (v:AV) (bl:List (Int×Int×List Int)):Prop where
 len: ∀h':Hp,zA tb h' 89 v=some bl.length
 lt:bl.length<=9223372036854775807
 one:Go.Ev.one v=true
 cells:cellsOf v=[v]
 at_: ∀(i:Nat) (b:Int×Int×List Int),bl[i]? =some b-> ∃p p0 p1 p2 x,(qK tb 89 v (iv (i:Int))=some p/\qI tb 117 p 0=some p0/\qI tb 117 p 1=some p1/\qI tb 117 p 2=some p2)/\ ∀h':Hp,Fr h.n h h'->(qN tb xt h' 117 p=some (.agg [iv b.1,iv b.2.1,x])/\qN tb xt h' 3 p0=some (iv b.1)/\qN tb xt h' 3 p1=some (iv b.2.1)/\qN tb xt h' 75 p2=some x)/\Nums xt h' x b.2.2/\yE x
theorem BAt.fr {xt:Xt} {h h':Hp} {v:AV} {bl:List (Int×Int×List Int)} (a:BAt xt h v bl) {n:Nat} (f:Fr n h h') (hn:h.n<=n):BAt xt h' v bl:=
 ⟨a.len,a.lt,a.one,a.cells,fun i b hb=>by
  obtain ⟨p,p0,p1,p2,x,h1,h2⟩:=a.at_ i b hb;exact ⟨p,p0,p1,p2,x,h1,fun h'' f''=>h2 h'' (((f.lower hn).trans f'' f.le))⟩⟩
theorem BAt.up {xt:Xt} {h:Hp} {v:AV} {bl:List (Int×Int×List Int)} (a:BAt xt h v bl) {n:Nat} (hn:h.n<=n):BAt xt (h.up n) v bl:=a.fr ((xZI (xZY _)).up hn) (xZY _)
def flB (es:List (Int×Int×AV)):List AV:=es.flatMap fun e=>[iv e.1,iv e.2.1,e.2.2]
theorem flB_len (es:List (Int×Int×AV)):(flB es).length=es.length*3:=by
 induction es with
 |nil=>rfl
 |cons e es ih=>simp only [flB,xXG,xZE,List.length_cons,List.length_nil] at ih ⊢;omega
theorem qCT: ∀{es:List (Int×Int×AV)} {i:Nat} {e:Int×Int×AV},es[i]? =some e->(flB es)[i*3]? =some (iv e.1)/\(flB es)[i*3+1]? =some (iv e.2.1)/\(flB es)[i*3+2]? =some e.2.2
 |[],i,e,h=>by simp at h
 |x::es,0,e,h=>by
  simp only [xXO,Option.some.injEq] at h;subst h;exact ⟨rfl,rfl,rfl⟩
 |x::es,i+1,e,h=>by
  have:=qCT (es:=es) (i:=i) (e:=e) (by simpa using h);have e1:(i+1)*3=i*3+3:=by omega
  rw [e1];exact this
theorem flB_app (a b:List (Int×Int×AV)):flB (a++b)=flB a++flB b:=by simp [flB]
theorem flB_set {es:List (Int×Int×AV)} {i:Nat} {e:Int×Int×AV} (he:es[i]? =some e) (x:AV):(flB es).set (i*3+2) x=flB (es.set i (e.1,e.2.1,x)):=by
 induction es generalizing i with
 |nil=>simp at he
 |cons y es ih=>
  cases i with
  |zero=>
   simp only [xXO,Option.some.injEq] at he;subst he;rfl
  |succ i=>
   have:=ih (i:=i) (by simpa using he);rw [show (i+1)*3+2=(i*3+2)+3 by omega,List.set_cons_succ];show iv y.1::iv y.2.1::y.2.2::(flB es).set (i*3+2) x=iv y.1::iv y.2.1::y.2.2::flB (es.set i (e.1,e.2.1,x));rw [this]
abbrev uD (h:Hp) (N:Nat) (v:AV) (es:List (Int×Int×AV)):Prop:=OwnSl h N 3 117 v es.length (flB es)
theorem OwnSl.elt {h:Hp} {N:Nat} {v:AV} {es:List (Int×Int×AV)} (o:uD h N v es) {i:Nat} {e:Int×Int×AV} (he:es[i]? =some e) (xt:Xt):
  ∃b,(v= .sl b 0 es.length 3/\N<=b/\b<h.n/\h.t.get b=some (.cells (flB es) 117))/\qK tb 89 v (iv (i:Int))=some (.ptr b (i*3))/\ ∀h':Hp,h'.t.get b=h.t.get b->qN tb xt h' 117 (.ptr b (i*3))=some (.agg [iv e.1,iv e.2.1,e.2.2])/\qN tb xt h' 3 (.ptr b (i*3))=some (iv e.1)/\qN tb xt h' 3 (.ptr b (i*3+1))=some (iv e.2.1)/\qN tb xt h' 75 (.ptr b (i*3+2))=some e.2.2:=by
 have hi:=(xZV.1 he).1;obtain ⟨b,h1,h2,h3,h4,h5⟩:=OwnSl.idx o pN rfl xH rfl hi (k:= .i64);obtain ⟨q1,q2,q3⟩:=qCT he;rcases o with ⟨e0,_⟩|⟨b',e1,_⟩
 ·omega
 have hb:b'=b:=by
  subst e1;obtain ⟨te,ht⟩: ∃te,tb.get 89=some te:=⟨_,pN⟩;have e1:qA1 (iv (i:Int))=some (Int.ofNat i):=rfl;have e2:Nat.blt i es.length=true:=by rw [Nat.blt_eq];exact hi
  have s3:te117.size=3:=rfl;have:qK tb 89 (.sl b' 0 es.length 3) (iv (i:Int))=some (.ptr b' (i*3)):=by simp [qK,pN,e1,xH,e2,s3,show te89.d= .slice 117 from rfl]
  rw [this] at h1;simp only [Option.some.injEq,AV.ptr.injEq] at h1;exact h1.1
 subst hb;refine ⟨b',⟨e1,h2,h3,h4⟩,h1,fun h' hh=> ?_⟩;have a1:=(xZV.1 q1);have a2:=(xZV.1 q2);have a3:=(xZV.1 q3);refine ⟨?_,?_,?_,?_⟩
 ·rw [ld118,hh,h4,qAV];have e1:(flB es).drop (i*3)=iv e.1::iv e.2.1::e.2.2::(flB es).drop (i*3+1+1+1):=by
   rw [xYQ a1.1,a1.2,xYQ a2.1,a2.2,xYQ a3.1,a3.2]
  rw [if_pos (by omega),e1];rfl
 ·rw [ld3,hh,h4];exact q1
 ·rw [ld3,hh,h4];exact q2
 ·rw [ld75,hh,h4];exact q3
theorem OwnSl.bat {xt:Xt} {h:Hp} {N:Nat} {v:AV} {es:List (Int×Int×AV)} (o:uD h N v es) {bl:List (Int×Int×List Int)} (hl:bl.length=es.length) (hlt:es.length<=1000000) (hw: ∀(i:Nat) (e:Int×Int×AV) (b:Int×Int×List Int),es[i]? =some e->bl[i]? =some b->e.1=b.1/\e.2.1=b.2.1/\Nums xt h e.2.2 b.2.2/\yE e.2.2):BAt xt h v bl:=by
 refine ⟨fun h'=> ?_,by omega,OwnSl.one o,OwnSl.cells o,fun i b hb=> ?_⟩
 ·rw [hl];exact OwnSl.len o pN rfl
 ·have hi:=(xZV.1 hb).1;obtain ⟨e,he⟩: ∃e,es[i]? =some e:=⟨_,xZX (by omega)⟩;obtain ⟨e1,e2,e3,e4⟩:=hw i e b he hb;obtain ⟨b',⟨_,_,hb',_⟩,j1,j2⟩:=OwnSl.elt o he xt;refine ⟨_,_,_,_,e.2.2,⟨j1,fa118_0 _ _,fa118_1 _ _,fa118_2 _ _⟩,fun h' f=> ?_⟩;obtain ⟨l1,l2,l3,l4⟩:=j2 h' (f.at_ b' (.inl hb'));rw [<-e1,<-e2];exact ⟨⟨l1,l2,l3,l4⟩,e3.fr f (xZY _),e4⟩
theorem bs91 (h:Hp) (a b:Int):jN tb h 89 1 [(0,.agg [iv a,iv b,jV])]=some (.sl h.n 0 1 3,h.new (.cells [iv a,iv b,jV] 117)):=bs_of (sz:=3) (zs:=[.int .i64 0,.int .i64 0,.slice none 0 0]) pN rfl xH rfl rfl (by omega) (by omega) rfl
theorem bd118 (a b:Int):zE tb 117 [(0,iv a),(1,iv b)]=some (.agg [iv a,iv b,jV]):=by kernel_rfl
def fr0 (l:List (Nat×Nat)):List (Int×Int×AV):=l.map fun x=>((x.1:Int),(x.2:Int),jV)
theorem fr0_app (a b:List (Nat×Nat)):fr0 (a++b)=fr0 a++fr0 b:=by simp [fr0]
def Wk.rowTo (w:Wk) (f j:Nat):List (Nat×Nat):=((w.wn.take j).filter fun x=>decide (f+x<=w.m.cells.length)).map fun x=>(f,x)
theorem wQ {w:Wk} {f j x:Nat} (hx:w.wn[j]? =some x):w.rowTo f (j+1)=w.rowTo f j++if f+x<=w.m.cells.length then [(f,x)] else []:=by
 rw [Wk.rowTo,xYZ,hx];simp only [Wk.rowTo,xYA,List.filter_append,List.map_append];by_cases e:f+x<=w.m.cells.length
 ·simp [e]
 ·simp [e]
theorem qBt (w:Wk) (f:Nat):w.bnds (f+1)=w.bnds f++w.rowTo f w.wn.length:=by
 rw [Wk.bnds,xZC,xXI];simp [Wk.bnds,Wk.rowB,Wk.rowTo]
theorem xZ {w:Wk} (his:w.Is) (f:Nat):(w.bnds f).length<=f*3:=by
 induction f with
 |zero=>simp [Wk.bnds]
 |succ f ih=>
  rw [qBt,xZE];have h1:(w.rowTo f w.wn.length).length<=w.wn.length:=by
   rw [Wk.rowTo,xZM];exact xYE (xXL _ _) (by rw [xYX];omega)
  have h2:w.wn.length<=3:=by rw [Wk.wn,xZM];exact Wk.ws_len his
  omega
theorem qDM {w:Wk} (his:w.Is) (f j:Nat):(w.rowTo f j).length<=3:=by
 have h2:w.wn.length<=3:=by rw [Wk.wn,xZM];exact Wk.ws_len his
 rw [Wk.rowTo,xZM];exact xYE (xXL _ _) (by rw [xYX];omega)
theorem wn_at {w:Wk} (his:w.Is) {j:Nat} (hj:j<w.ws.length): ∃x:Nat,w.wn[j]? =some x/\w.ws.getD j 0=(x:Int)/\1<=x/\x<=3:=by
 have hm:=Wk.ws_mem his (xYK hj);refine ⟨(w.ws[j]).toNat,?_,?_,by omega,by omega⟩
 ·rw [Wk.wn,xZU,xZX hj];rfl
 ·rw [xZW,xZX hj];simp only [xYN];omega
theorem OwnSl.appB {xt:Xt} {h hB:Hp} {N:Nat} {v:AV} {L:List (Nat×Nat)} (o:uD h N v (fr0 L)) (hN:N<=h.n) {f x:Nat} (fB:Fr h.n h hB) (nB:hB.n=h.n+1) (sB:hB.t.get h.n=some (.cells [iv (f:Int),iv (x:Int),jV] 117)) (hl:L.length<=1000):
  ∃v' h',qS Tryz.prog tb xt .append [89,89] [v,.sl h.n 0 1 3] hB=some (v',h')/\uD h' N v' (fr0 (L++[(f,x)]))/\Fr N h h':=by
 have hfl:(fr0 L).length=L.length:=by simp [fr0]
 obtain ⟨v',h',r1,r2,r3,r4⟩:=OwnSl.append (P:=Tryz.prog) (xt:=xt) (m:=1) (by_:=40) (x:= .sl h.n 0 1 3) (OwnSl.fr o fB (xZY _)) (by omega) pN rfl xH rfl rfl pN rfl (wO (e:=117) sB rfl rfl) (by omega) rfl (by omega) (by omega);refine ⟨v',h',r1,?_,(fB.lower hN).trans r3 (xZY _)⟩;rw [fr0_app];show OwnSl h' N 3 117 v' _ (flB _);rw [flB_app,xZE];exact r2
theorem ft123 (xt:Xt):(SE xt).ft.get 123=some Tryz.f123:=by kernel_rfl
theorem res123:Tryz.f123.results.toList=[.tmp 2]:=by kernel_rfl
theorem rframe_c (xt:Xt) (h:Hp) (w:Wk) (ha:w.At xt h) (his:w.Is):
  FnA (SE xt) 123 [w.av] h (fun res h'=> ∃z,res= .ret z/\uD h' h.n z (fr0 (w.bnds w.m.cells.length))/\Fr h.n h h'/\h.n<h'.n):=by
 refine xZD (sok xt) (ft123 xt) rfl 42 rfl ?_;obtain ⟨o1,o2,o3,o4,o5⟩:=ha.ones;have r6:=his.m.r6;have hw3:=Wk.ws_len his;have hwl:w.wn.length=w.ws.length:=by simp [Wk.wn]
 apply qA;intro K hn hp;simp only [sw.1,reduceIte,rL];apply hn;obtain ⟨h1,hh1,nh1,sh1,_,fbh1⟩:=nwE h (.cells w.cs 30);rw [<-hh1];have fh1:=fbh1;have ha1:=ha.fr fh1 (xZY _);apply qA;intro K hn hp;simp only [sy.1,rL];apply hn;apply qA;intro K hn hp;simp only [sy.1,rE,reduceIte,rL,rA,sh1];refine cAS (xYW (rwidths_c xt h1 w ha1 his) fun res h2 hres=> ?_);obtain ⟨f2,zw,rfl,rw2,_⟩:=hres;simp only [sy.1,rE,reduceIte,rL];apply hn;have hw2:Nums xt h2 zw w.ws:=⟨rw2,by omega⟩;have f2h:=fh1.trans f2 (by omega);have s2:=(f2.at_ h.n (.inl (by omega))).trans sh1;have lo2:=f2.lo;refine zY (fun tm=>tm.get 1=some (.ptr h.n 0)/\tm.get 3=some jV/\tm.get 4=some zw) ⟨by simp [xZZ],by simp [xZZ],by simp [xZZ]⟩ fun tm ht=> ?_;obtain ⟨g1,g3,g4⟩:=ht;apply qB;intro K hn hp;simp only [sy.1,rL];apply hn;apply qD;intro KA A1 A2 A3 A4 A5;refine qM (sok xt) (fun st=> ∃(f:Nat) (hg:Hp) (z:AV) (tm:T AV),st=⟨tm,42,hg,[]⟩/\f<=w.m.cells.length/\tm.get 1=some (.ptr h.n 0)/\tm.get 3=some (z)/\tm.get 4=some (zw)/\tm.get 5=some (iv f)/\Fr h2.n h2 hg/\uD hg h2.n z (fr0 (w.bnds f))) (fun st=>w.m.cells.length - (match st.tm.get 5 with|some (.val (.int _ n))=>n.toNat|_=>0)) ?_ ?_
 ·rintro st ⟨f,hg,z,tm,rfl,hkA,g1,g3,g4,g5,fg,og⟩;have muA:=g5;have ug:=(fg.at_ h.n (.inl (by omega))).trans s2;have hag:=ha.fr (f2h.trans fg (by omega)) (xZY _);have lg:=fg.lo;apply qB;intro K hn hp;simp only [sy.1,rE,reduceIte,rL,rA,rD,g1,g5,ug];refine cAS (pO xt hg w.m hag.m fun m3 hm3=> ?_);simp only [sy.1,rE,reduceIte,rL,qV];apply hn;by_cases hf:f<w.m.cells.length
  ·refine jC (by simp only [sy.1,rE,reduceIte,hf]) ?_;apply qD;intro KB B1 B2 B3 B4 B5;apply qA;intro K hn hp;simp only [sy.1,rL];apply hn;have ogu:uD (hg.up m3) h2.n z (fr0 (w.bnds f)):=OwnSl.up og (by omega);apply qZ;intro KD D1 D2 D3 D4 D5;refine qM (sok xt) (fun st=> ∃(j:Nat) (hJ:Hp) (z:AV) (tm:T AV),st=⟨tm,42,hJ,[]⟩/\j<=w.ws.length/\tm.get 1=some (.ptr h.n 0)/\tm.get 3=some (z)/\tm.get 4=some (zw)/\tm.get 5=some (iv f)/\tm.get 6=some (iv j)/\Fr h2.n h2 hJ/\uD hJ h2.n z (fr0 (w.bnds f++w.rowTo f j))) (fun st=>w.ws.length - (match st.tm.get 6 with|some (.val (.int _ n))=>n.toNat|_=>0)) ?_ ?_
   ·rintro st ⟨j,hJ,z,tm,rfl,hkD,g1,g3,g4,g5,g6,fj,oj⟩;have muD:=g6;have uj:=(fj.at_ h.n (.inl (by omega))).trans s2;have haj:=ha.fr (f2h.trans fj (by omega)) (xZY _);have hwj:=hw2.fr fj (xZY _);have lenw:=hwj.len;have lj:=fj.lo;apply qB;intro K hn hp;simp only [sy.1,rE,reduceIte,rL,syw.1,qV,g4,g6,lenw];apply hn;by_cases hj:j<w.ws.length
    ·refine jC (by simp only [sy.1,rE,reduceIte,hj]) ?_;obtain ⟨x,x1,x2,x3,x4⟩:=wn_at his hj;obtain ⟨i1,i2⟩:=hwj.row.m75 hj;rw [x2] at i2;have wx:IntKind.i64.wrap ((f:Int)+(x:Int))=(f:Int)+x:=qG _ (by omega) (by omega);have dx:decide ((f:Int)+(x:Int)<=(w.m.cells.length:Int))=decide (f+x<=w.m.cells.length):=decide_eq_decide.2 (by omega);have hbl:=xZ his f;have hrl:=qDM his f j;apply qD;intro KE E1 E2 E3 E4 E5;refine jL (sok xt) 0 0 9 [(4,1)] (by kernel_rfl) fun K hn hp=> ?_;simp only [sy.1,rE,reduceIte,rL,rA,rD,syw.1,g1,g4,g5,g6,uj,i1,i2,wx];refine cAS (pO xt hJ w.m haj.m fun m5 hm5=> ?_);simp only [sy.1,rE,reduceIte,rL,rA,syw.1,i2,dx,hm5];apply hn;by_cases hx:f+x<=w.m.cells.length
     ·refine wcT (by simp only [sy.1,rE,reduceIte,decide_eq_true hx]) ?_;have oju:uD (hJ.up m5) h2.n z (fr0 (w.bnds f++w.rowTo f j)):=OwnSl.up oj (by omega);obtain ⟨hB,hhB,nB,sB,kB,fB⟩:=vQ (hJ.up m5) (.cells [iv (f:Int),iv (x:Int),jV] 117);obtain ⟨z',hC,r1,r2,r3⟩:=OwnSl.appB (xt:=xt) oju (by simp only [xZP];omega) fB nB sB (by rw [xZE];omega);simp only [xZP] at r1;refine reg fun K hn hp=> ?_;simp only [sy.1,rE,reduceIte,rL,syw.1,g3,g4,g5,g6,i1,i2,bd118,jF,bs91,<-hhB,r1];refine hn _ _ (E1 _ ?_);clear hhB;refine reg fun K hn hp=> ?_;simp only [sy.1,rE,reduceIte,rL,g6,qF hj (show w.ws.length<=9223372036854775807 by omega)];apply hn;refine ⟨⟨j+1,hC,z',_,rfl,by omega,(by simp [xZZ,g1]),(by simp [xZZ]),(by simp [xZZ,g4]),(by simp [xZZ,g5]),(by simp [xZZ]),(fj.up (by omega)).trans r3 (xZY _),by rw [wQ x1,if_pos hx,<-xYO];exact r2⟩,by simpa [xZZ,muD] using (by omega:w.ws.length - (j+1)<w.ws.length - j)⟩
     ·refine wcF (by simp only [sy.1,rE,reduceIte,decide_eq_false hx]) ?_;refine qR (E1 _ ?_);refine reg fun K hn hp=> ?_;simp only [sy.1,rE,reduceIte,rL,g6,qF hj (show w.ws.length<=9223372036854775807 by omega)];apply hn;refine ⟨⟨j+1,hJ.up m5,z,_,rfl,by omega,(by simp [xZZ,g1]),(by simp [xZZ,g3]),(by simp [xZZ,g4]),(by simp [xZZ,g5]),(by simp [xZZ]),fj.up (by omega),by rw [wQ x1,if_neg hx,xXR];exact OwnSl.up oj (by omega)⟩,by simpa [xZZ,muD] using (by omega:w.ws.length - (j+1)<w.ws.length - j)⟩
    ·refine jD (by simp only [sy.1,rE,reduceIte,hj]) ?_;refine qL (D2 _ (B1 _ ?_));obtain rfl:j=w.ws.length:=by omega
     rw [<-hwl,<-qBt] at oj;refine reg fun K hn hp=> ?_;simp only [sy.1,rE,reduceIte,rL,g5,qF hf (show w.m.cells.length<=9223372036854775807 by omega)];apply hn;refine ⟨⟨f+1,hJ,z,_,rfl,by omega,(by simp [xZZ,g1]),(by simp [xZZ,g3]),(by simp [xZZ,g4]),(by simp [xZZ]),fj,oj⟩,by simpa [xZZ,muA] using (by omega:w.m.cells.length - (f+1)<w.m.cells.length - f)⟩
   ·exact ⟨0,hg.up m3,z,_,rfl,(by omega),(by simp [xZZ,g1]),(by simp [xZZ,g3]),(by simp [xZZ,g4]),(by simp [xZZ,g5]),(by simp [xZZ]),fg.up (by omega),by simpa [Wk.rowTo] using ogu⟩
  ·refine jD (by simp only [sy.1,rE,reduceIte,hf]) ?_;refine qL (A2 _ ?_);obtain rfl:f=w.m.cells.length:=by omega
   apply qA;intro K hn hp;simp only [sy.1,rE,reduceIte,rL,g3];apply hn;refine qC (qH res123 ⟨z,?_,?_,f2h.trans (fg.up (by omega)) (by omega),by simp only [xZP];omega⟩)
   ·simp [xZZ]
   ·have:uD (hg.up m3) h2.n z (fr0 (w.bnds w.m.cells.length)):=OwnSl.up og (by omega);rcases this with q|⟨b,q1,q2,q3⟩
    ·exact .inl q
    ·exact .inr ⟨b,q1,by omega,q3⟩
 ·exact ⟨0,h2,jV,_,rfl,(by omega),(by simp [xZZ,g1]),(by simp [xZZ,g3]),(by simp [xZZ,g4]),(by simp [xZZ]),xZI (xZY _),.inl ⟨by simp [Wk.bnds,fr0],by simp [Wk.bnds,fr0,flB],rfl⟩⟩
theorem OwnSl.appB2 {xt:Xt} {h hB:Hp} {N:Nat} {v:AV} {L:List (Nat×Nat)} (o:uD h N v (fr0 L)) (hN:N<=h.n) {f x:Nat} (fB:Fr h.n h hB) (nB:hB.n=h.n+1) (sB:hB.t.get h.n=some (.cells [iv (f:Int),iv (x:Int),jV] 117)) (hl:L.length<=1000):
  ∃v' h',qS Tryz.prog tb xt .append [89,89] [v,.sl h.n 0 1 3] hB=some (v',h')/\uD h' N v' (fr0 (L++[(f,x)]))/\Fr N h h'/\(∀b off n s,v'= .sl b off n s->h.n<b)/\ ∀k,k<h.n->(∀off n s,v≠ .sl k off n s)->h'.t.get k=h.t.get k:=by
 have hfl:(fr0 L).length=L.length:=by simp [fr0]
 obtain ⟨h',r1,r2,r3,r4,r5⟩:=OwnSl.append2 (P:=Tryz.prog) (xt:=xt) (m:=1) (by_:=40) (x:= .sl h.n 0 1 3) (OwnSl.fr o fB (xZY _)) (by omega) pN rfl xH rfl rfl pN rfl (wO (e:=117) sB rfl rfl) (by omega) rfl (by omega) (by omega);refine ⟨_,h',r1,?_,(fB.lower hN).trans r3 (xZY _),fun b off n s e=> ?_,fun k hk hv=>(r5 k (by omega) hv).trans (fB.at_ k (.inl hk))⟩
 ·rw [fr0_app];show OwnSl h' N 3 117 _ _ (flB _);rw [flB_app,xZE];exact r2
 ·have:=(AV.sl.inj e).1;omega
theorem RowAt.sl_lt {xt:Xt} {h:Hp} {sz:Nat} {v:AV} {cs:List (List Value)} (r:RowAt xt h sz v cs) {b off n s:Nat} (e:v= .sl b off n s):b<h.n:=by
 obtain ⟨_,_,h3⟩:=r;rcases h3 with ⟨h3,_⟩|⟨_,_,h3,_⟩|⟨b',off',av,e',h3,⟨hlt,_,_⟩,_⟩
 ·rw [e] at h3;cases h3
 ·rw [e] at h3;cases h3
 ·rw [e] at h3;have:=(AV.sl.inj h3).1;omega
theorem ft112 (xt:Xt):(SE xt).ft.get 112=some Tryz.f112:=by kernel_rfl
theorem res112:Tryz.f112.results.toList=[.tmp 2]:=by kernel_rfl
theorem bands_c (xt:Xt) (h:Hp) (w:Wk) (ha:w.At xt h) (his:w.Is) (bv:AV) (onev:Go.Ev.one bv=true):
  FnA (SE xt) 112 [.agg (w.bc bv)] h (fun res h'=> ∃z,res= .ret z/\uD h' h.n z (fr0 (w.bnds w.m.cells.length))/\Fr h.n h h'/\h.n<h'.n):=by
 refine xZD (sok xt) (ft112 xt) rfl 34 rfl ?_;obtain ⟨o1,o2,o3,o4,o5⟩:=ha.ones;have r6:=his.m.r6;have hw3:=Wk.ws_len his;have hwl:w.wn.length=w.ws.length:=by simp [Wk.wn]
 apply qA;intro K hn hp;simp only [sw.1,reduceIte,rL];apply hn;obtain ⟨h1,hh1,nh1,sh1,_,fbh1⟩:=nwE h (.cells (w.bc bv) 120);rw [<-hh1];have fh1:=fbh1;have ha1:=ha.fr fh1 (xZY _);apply qA;intro K hn hp;simp only [sy.1,rL];apply hn;apply qB;intro K hn hp;simp only [sy.1,rE,reduceIte,rL,rA,sh1];refine cAS (pC xt h1 w ha1 bv onev fun m1 hm1=> ?_);simp only [sy.1,rL];apply hn;refine zY (fun tm=>tm.get 1=some (.ptr h.n 0)/\tm.get 3=some jV/\tm.get 8=some (iv w.m.cells.length)/\tm.get 9=some (iv 0)) ⟨by simp [xZZ],by simp [xZZ],by simp [xZZ],by simp [xZZ]⟩ fun tm ht=> ?_;obtain ⟨g1,g3,g8,g9⟩:=ht;apply qD;intro KA A1 A2 A3 A4 A5;refine qM (sok xt) (fun st=> ∃(f:Nat) (hg:Hp) (z:AV) (tm:T AV),st=⟨tm,34,hg,[]⟩/\f<=w.m.cells.length/\tm.get 1=some (.ptr h.n 0)/\tm.get 3=some (z)/\tm.get 8=some (iv w.m.cells.length)/\tm.get 9=some (iv f)/\Fr h1.n h1 hg/\uD hg h1.n z (fr0 (w.bnds f))) (fun st=>w.m.cells.length - (match st.tm.get 9 with|some (.val (.int _ n))=>n.toNat|_=>0)) ?_ ?_
 ·rintro st ⟨f,hg,z,tm,rfl,hkA,g1,g3,g8,g9,fg,og⟩;have muA:=g9;have ug:=(fg.at_ h.n (.inl (by omega))).trans sh1;have hag:=ha.fr (fh1.trans fg (by omega)) (xZY _);have lg:=fg.lo;apply qA;intro K hn hp;simp only [sy.1,rL,qV,g8,g9];apply hn;by_cases hf:f<w.m.cells.length
  ·refine jC (by simp only [sy.1,reduceIte,hf]) ?_;apply qD;intro KB B1 B2 B3 B4 B5;apply qA;intro K hn hp;simp only [sy.1,rE,reduceIte,rL,g9];apply hn;apply qA;intro K hn hp;simp only [sy.1,rE,reduceIte,rL,rA,g1,ug];refine cAS (xYW (qFe xt hg w hag his bv onev) fun res h2 hres=> ?_);obtain ⟨f2,zw,rfl,rw2,lwz⟩:=hres;have hw2:Nums xt h2 zw w.ws:=⟨rw2,by omega⟩;have lenw2:=hw2.len;simp only [sy.1,rE,reduceIte,rL,syw.1,lenw2];apply hn;have ap2:wN z zw:=fun b off n s e off' n' s' e'=>by
    have a1:=lwz b off n s e;rcases og with ⟨_,_,q⟩|⟨b',q,_,q2,_⟩
    ·rw [q] at e';cases e'
    ·rw [q] at e';have:=(AV.sl.inj e').1;omega
   have og2:uD h2 h1.n z (fr0 (w.bnds f)):=OwnSl.fr og f2 (xZY _);apply qZ;intro KD D1 D2 D3 D4 D5;refine qM (sok xt) (fun st=> ∃(j:Nat) (hJ:Hp) (z:AV) (tm:T AV),st=⟨tm,34,hJ,[]⟩/\j<=w.ws.length/\tm.get 1=some (.ptr h.n 0)/\tm.get 3=some (z)/\tm.get 4=some (iv f)/\tm.get 8=some (iv w.m.cells.length)/\tm.get 9=some (iv f)/\tm.get 13=some (zw)/\tm.get 14=some (iv w.ws.length)/\tm.get 15=some (iv j)/\Fr h1.n h1 hJ/\uD hJ h1.n z (fr0 (w.bnds f++w.rowTo f j))/\Nums xt hJ zw w.ws/\wN z zw) (fun st=>w.ws.length - (match st.tm.get 15 with|some (.val (.int _ n))=>n.toNat|_=>0)) ?_ ?_
   ·rintro st ⟨j,hJ,z,tm,rfl,hkD,g1,g3,g4,g8,g9,g13,g14,g15,fj,oj,hwj,ap⟩;have muD:=g15;have uj:=(fj.at_ h.n (.inl (by omega))).trans sh1;have haj:=ha.fr (fh1.trans fj (by omega)) (xZY _);have lj:=fj.lo;apply qA;intro K hn hp;simp only [sy.1,rL,qV,g14,g15];apply hn;by_cases hj:j<w.ws.length
    ·refine jC (by simp only [sy.1,reduceIte,hj]) ?_;obtain ⟨x,x1,x2,x3,x4⟩:=wn_at his hj;obtain ⟨i1,i2⟩:=hwj.row.m75 hj;rw [x2] at i2;have wx:IntKind.i64.wrap ((f:Int)+(x:Int))=(f:Int)+x:=qG _ (by omega) (by omega);have dx:decide ((f:Int)+(x:Int)<=(w.m.cells.length:Int))=decide (f+x<=w.m.cells.length):=decide_eq_decide.2 (by omega);have hbl:=xZ his f;have hrl:=qDM his f j;apply qD;intro KE E1 E2 E3 E4 E5;apply qA;intro K hn hp;simp only [sy.1,rE,reduceIte,rL,g13,g15,i1,i2];apply hn;apply qA;intro K hn hp;simp only [sy.1,rE,reduceIte,rL,rA,g1,g4,uj,wx];refine cAS (pC xt hJ w haj bv onev fun m5 hm5=> ?_);simp only [sy.1,rE,reduceIte,rL,dx];apply hn;by_cases hx:f+x<=w.m.cells.length
     ·refine wcT (by simp only [sy.1,rE,reduceIte,decide_eq_true hx]) ?_;have oju:uD (hJ.up m5) h1.n z (fr0 (w.bnds f++w.rowTo f j)):=OwnSl.up oj (by omega);obtain ⟨hB,hhB,nB,sB,kB,fB⟩:=vQ (hJ.up m5) (.cells [iv (f:Int),iv (x:Int),jV] 117);obtain ⟨z',hC,r1,r2,r3,r4,r5⟩:=OwnSl.appB2 (xt:=xt) oju (by simp only [xZP];omega) fB nB sB (by rw [xZE];omega);simp only [xZP] at r1;refine reg fun K hn hp=> ?_;simp only [sy.1,rE,reduceIte,rL,g3,g4,bd118,jF,bs91,<-hhB,r1];refine hn _ _ (E1 _ ?_);clear hhB;have lC':=r3.le;simp only [xZP] at lC' r4 r5;have hwC:Nums xt hC zw w.ws:=⟨hwj.row.keepB (by omega) (fun b off n s e hb=>(r5 b (by omega) (fun off' n' s'=>ap b off n s e off' n' s'))),hwj.lt⟩;refine reg fun K hn hp=> ?_;simp only [sy.1,rE,reduceIte,rL,g15,qF hj (show w.ws.length<=9223372036854775807 by omega)];apply hn;refine ⟨⟨j+1,hC,z',_,rfl,by omega,(by simp [xZZ,g1]),(by simp [xZZ]),(by simp [xZZ,g4]),(by simp [xZZ,g8]),(by simp [xZZ,g9]),(by simp [xZZ,g13]),(by simp [xZZ,g14]),(by simp [xZZ]),(fj.up (by omega)).trans r3 (xZY _),by rw [wQ x1,if_pos hx,<-xYO];exact r2,hwC,fun b off n s e off' n' s' e'=>by have:=r4 b off' n' s' e';have:=RowAt.sl_lt hwj.row e;omega⟩,by simpa [xZZ,muD] using (by omega:w.ws.length - (j+1)<w.ws.length - j)⟩
     ·refine wcF (by simp only [sy.1,rE,reduceIte,decide_eq_false hx]) ?_;refine qR (E1 _ ?_);refine reg fun K hn hp=> ?_;simp only [sy.1,rE,reduceIte,rL,g15,qF hj (show w.ws.length<=9223372036854775807 by omega)];apply hn;refine ⟨⟨j+1,hJ.up m5,z,_,rfl,by omega,(by simp [xZZ,g1]),(by simp [xZZ,g3]),(by simp [xZZ,g4]),(by simp [xZZ,g8]),(by simp [xZZ,g9]),(by simp [xZZ,g13]),(by simp [xZZ,g14]),(by simp [xZZ]),fj.up (by omega),by rw [wQ x1,if_neg hx,xXR];exact OwnSl.up oj (by omega),hwj.up (by omega),ap⟩,by simpa [xZZ,muD] using (by omega:w.ws.length - (j+1)<w.ws.length - j)⟩
    ·refine jD (by simp only [sy.1,reduceIte,hj]) ?_;refine qL (D2 _ (B1 _ ?_));obtain rfl:j=w.ws.length:=by omega
     rw [<-hwl,<-qBt] at oj;refine reg fun K hn hp=> ?_;simp only [sy.1,rE,reduceIte,rL,g9,qF hf (show w.m.cells.length<=9223372036854775807 by omega)];apply hn;refine ⟨⟨f+1,hJ,z,_,rfl,by omega,(by simp [xZZ,g1]),(by simp [xZZ,g3]),(by simp [xZZ,g8]),(by simp [xZZ]),fj,oj⟩,by simpa [xZZ,muA] using (by omega:w.m.cells.length - (f+1)<w.m.cells.length - f)⟩
   ·exact ⟨0,h2,z,_,rfl,(by omega),(by simp [xZZ,g1]),(by simp [xZZ,g3]),(by simp [xZZ]),(by simp [xZZ,g8]),(by simp [xZZ,g9]),(by simp [xZZ]),(by simp [xZZ]),(by simp [xZZ]),fg.trans f2 (by omega),by simpa [Wk.rowTo] using og2,hw2,ap2⟩
  ·refine jD (by simp only [sy.1,reduceIte,hf]) ?_;refine qL (A2 _ ?_);obtain rfl:f=w.m.cells.length:=by omega
   apply qA;intro K hn hp;simp only [sy.1,rE,reduceIte,rL,g3];apply hn;refine qC (qH res112 ⟨z,?_,?_,fh1.trans fg (by omega),by omega⟩)
   ·simp [xZZ]
   ·rcases og with q|⟨b,q1,q2,q3⟩
    ·exact .inl q
    ·exact .inr ⟨b,q1,by omega,q3⟩
 ·exact ⟨0,h1.up m1,jV,_,rfl,(by omega),(by simp [g1]),(by simp [g3]),(by simp [g8]),(by simp [g9]),(xZI (xZY _)).up (by omega),.inl ⟨by simp [Wk.bnds,fr0],by simp [Wk.bnds,fr0,flB],rfl⟩⟩
theorem own_row58 {xt:Xt} {h:Hp} {N:Nat} {v:AV} {l:List Int} (o:OwnSl h N 1 137 v l.length (ivs l)):RowAt xt h 1 v (l.map Kn.c1):=by
 rw [qEz] at o;exact OwnSl.row (N:=N) (e:=137) (fun c hc=>by obtain ⟨x,_,rfl⟩:=xZQ.1 hc;rfl) (by omega) (by rw [xZM];exact o)
theorem OwnSl.keepB {h h':Hp} {N sz:Nat} {e:TypeId} {v:AV} {n:Nat} {cs:List AV} (o:OwnSl h N sz e v n cs) (hn:h.n<=h'.n) (hk: ∀b off n s,v= .sl b off n s->b<h.n->h'.t.get b=h.t.get b):OwnSl h' N sz e v n cs:=by
 rcases o with o|⟨b,rfl,h2,h3,h4,h5⟩
 ·exact .inl o
 ·exact .inr ⟨b,rfl,h2,by omega,by rw [hk b _ _ _ rfl h3];exact h4,h5⟩
theorem OwnSl.blk {h:Hp} {N sz:Nat} {e:TypeId} {v:AV} {n:Nat} {cs:List AV} (o:OwnSl h N sz e v n cs) {b off n' s:Nat} (hv:v= .sl b off n' s):N<=b/\b<h.n:=by
 rcases o with ⟨_,_,rfl⟩|⟨b',rfl,h2,h3,_⟩
 ·cases hv
 ·have:=(AV.sl.inj hv).1;omega
def ORows (h:Hp) (N:Nat) (v:AV) (ll:List (List Int)):Prop:=
 ∃avs:List AV,OwnSl h N 1 58 v ll.length avs/\ ∀(i:Nat) (l:List Int),ll[i]? =some l-> ∃a,avs[i]? =some a/\OwnSl h N 1 137 a l.length (ivs l)/\wN v a
theorem ORows.nil {h:Hp} {N:Nat}:ORows h N jV []:=⟨[],.inl ⟨rfl,rfl,rfl⟩,fun i l hl=>by simp at hl⟩
theorem ORows.keep {h h':Hp} {N:Nat} {v:AV} {ll:List (List Int)} (r:ORows h N v ll) (hn:h.n<=h'.n) (hk: ∀k,N<=k->k<h.n->h'.t.get k=h.t.get k):ORows h' N v ll:=by
 obtain ⟨avs,h1,h2⟩:=r;refine ⟨avs,h1.keep hn hk,fun i l hl=> ?_⟩;obtain ⟨a,a1,a2,a3⟩:=h2 i l hl;exact ⟨a,a1,a2.keep hn hk,a3⟩
theorem ORows.fr {h h':Hp} {N M:Nat} {v:AV} {ll:List (List Int)} (r:ORows h N v ll) (f:Fr M h h') (hM:h.n<=M):ORows h' N v ll:=r.keep f.le fun k _ hk=>f.at_ k (.inl (by omega))
theorem ORows.one {h:Hp} {N:Nat} {v:AV} {ll:List (List Int)} (r:ORows h N v ll):Go.Ev.one v=true:=by obtain ⟨_,h1,_⟩:=r;exact h1.one
theorem ORows.cells {h:Hp} {N:Nat} {v:AV} {ll:List (List Int)} (r:ORows h N v ll):cellsOf v=[v]:=by obtain ⟨_,h1,_⟩:=r;exact h1.cells
theorem ORows.lt {h:Hp} {N:Nat} {v:AV} {ll:List (List Int)} (r:ORows h N v ll) {b off n s:Nat} (hv:v= .sl b off n s):N<=b/\b<h.n:=by obtain ⟨_,h1,_⟩:=r;exact OwnSl.blk h1 hv
theorem ORows.grid {xt:Xt} {h:Hp} {N:Nat} {v:AV} {ll:List (List Int)} (r:ORows h N v ll):GridAt xt h 1 v (ll.map fun l=>l.map Kn.c1):=by
 obtain ⟨avs,h1,h2⟩:=r;refine LRows.grid (N:=N) (e:=58) ⟨avs,by rw [xZM];exact h1,fun i l hl=> ?_⟩;rw [xZU] at hl;cases q:ll[i]? with
 |none=>rw [q] at hl;simp at hl
 |some l'=>
  rw [q] at hl;simp only [xYJ,Option.some.injEq] at hl;subst hl;obtain ⟨a,a1,a2,a3⟩:=h2 i l' q;exact ⟨a,a1,own_row58 a2,a3⟩
theorem Wk.Is.En_bd {w:Wk} (his:w.Is) {G:tG} (hb:w.m.bnd=some G) (row wd n:Nat):0<=w.En G row wd n/\w.En G row wd n<=60000:=by
 have h:=(qAS his w.m.vc w.m.cells.length n).bandP_bd (G:=G) ((qFW his _ _ _).trans hb) row wd w.m.W;have c8:=his.m.c8;rw [Wk.En];omega
theorem Wk.Is.Un_bd {w:Wk} (his:w.Is) {G:tG} (hb:w.m.bnd=some G) (k:Nat):0<=w.Un G k/\w.Un G k<=400000:=by
 have h:=(qAS his w.m.vc k w.m.W).packP_bd (G:=G) ((qFW his _ _ _).trans hb) w.m.cells.length;have r6:=his.m.r6;rw [Wk.Un];omega
theorem uK (F:Nat->Int) (n:Nat):(dfl F n).length=n:=by simp [dfl]
theorem bd93 (z:AV) (hz:cellsOf z=[z]):zE tb 91 [(1,z)]=some (.agg [jV,z]):=by
 have:zE tb 91 [(1,z)]=(yH (fun i=>([(0,1),(1,1)]:List (Nat×Nat))[i]?) [(1,z)] [jV,jV]).map .agg:=by kernel_rfl
 rw [this];simp [yH,hz];rfl
structure PB (w:Wk) (G:tG) (h:Hp) (N1 k:Nat) (es:List (Int×Int×AV)):Prop where
 len:es.length=(w.bnds w.m.cells.length).length
 at_: ∀(i:Nat) (e:Int×Int×AV) (x:Nat×Nat),es[i]? =some e->(w.bnds w.m.cells.length)[i]? =some x->e.1=x.1/\e.2.1=x.2/\(i<k->OwnSl h N1 1 3 e.2.2 w.m.W (ivs (dfl (w.En G x.1 x.2) w.m.W)))/\(k<=i->e.2.2=jV)
theorem PB.keep {w:Wk} {G:tG} {h h':Hp} {N1 k:Nat} {es:List (Int×Int×AV)} (p:PB w G h N1 k es) (hn:h.n<=h'.n) (hk: ∀b,N1<=b->b<h.n->h'.t.get b=h.t.get b):PB w G h' N1 k es:=
 ⟨p.len,fun i e x he hx=>by
  obtain ⟨a1,a2,a3,a4⟩:=p.at_ i e x he hx;exact ⟨a1,a2,fun q=>(a3 q).keep hn hk,a4⟩⟩
theorem PB.zero {w:Wk} {G:tG} {h:Hp} {N1:Nat}:PB w G h N1 0 (fr0 (w.bnds w.m.cells.length)):=
 ⟨by simp [fr0],fun i e x he hx=>by
  rw [fr0,xZU,hx] at he;cases he;exact ⟨rfl,rfl,fun q=>by omega,fun _=>rfl⟩⟩
theorem PB.done {w:Wk} {G:tG} {h:Hp} {N1 k:Nat} {es:List (Int×Int×AV)} (p:PB w G h N1 k es) {e:Int×Int×AV} {x:Nat×Nat} (he:es[k]? =some e) (hx:(w.bnds w.m.cells.length)[k]? =some x) {z:AV} (hz:OwnSl h N1 1 3 z w.m.W (ivs (dfl (w.En G x.1 x.2) w.m.W))):PB w G h N1 (k+1) (es.set k (e.1,e.2.1,z)):=by
 have hk:=(xZV.1 he).1;refine ⟨by rw [xZK];exact p.len,fun i e' x' he' hx'=> ?_⟩;rw [xYP] at he';by_cases q:k=i
 ·subst q;rw [if_pos rfl,if_pos hk] at he';cases he';rw [hx] at hx';cases hx';obtain ⟨a1,a2,_,_⟩:=p.at_ k e x he hx;exact ⟨a1,a2,fun _=>hz,fun q=>by omega⟩
 ·rw [if_neg q] at he';obtain ⟨a1,a2,a3,a4⟩:=p.at_ i e' x' he' hx';exact ⟨a1,a2,fun q=>a3 (by omega),fun q=>a4 (by omega)⟩
theorem PB.bat {xt:Xt} {w:Wk} {G:tG} {h:Hp} {N N1:Nat} {es:List (Int×Int×AV)} {v:AV} (his:w.Is) (p:PB w G h N1 (w.bnds w.m.cells.length).length es) (o:uD h N v es):BAt xt h v (w.pbnds G):=by
 have r6:=his.m.r6;have c8:=his.m.c8;have hl:=xZ his w.m.cells.length;refine OwnSl.bat o (by rw [Wk.pbnds,xZM];exact p.len.symm) (by rw [p.len];omega) fun i e b he hb=> ?_;rw [Wk.pbnds,xZU] at hb;cases q:(w.bnds w.m.cells.length)[i]? with
 |none=>rw [q] at hb;simp at hb
 |some x=>
  rw [q] at hb;simp only [xYJ,Option.some.injEq] at hb;subst hb;obtain ⟨a1,a2,a3,_⟩:=p.at_ i e x he q;have a5:=a3 (xZV.1 q).1;refine ⟨a1,a2,Nums.own (N:=N1) ?_ (by rw [uK];omega),OwnSl.cap a5⟩;rw [uK];exact a5
theorem List.set_getElem?_self' {α:Type} {l:List α} {i:Nat} {x:α} (h:l[i]? =some x):l.set i x=l:=by
 obtain ⟨h1,h2⟩:=xZV.1 h;rw [<-h2];exact List.set_getElem_self h1
theorem end_1m {E:Env} {fn:Func} {K:KP} {tm:T AV} {nt:Nat} {h h':Hp} {mks:List Nat} {a:Tmp} (h1:fn.results.toList=[.tmp a]) (hd:vD mks h=some h') (h3:K (.ret ((tm.get a).getD default)) h'):xX E fn K .ret ⟨tm,nt,h,mks⟩:=by
 refine ⟨h',_,hd,by rw [h1];rfl,?_⟩;have e1:(match tm.get a with|some a=>a|none=>default)=(tm.get a).getD default:=by cases tm.get a<;>rfl
 show K (.ret (match tm.get a with|some a=>a|none=>default)) h';rw [e1];exact h3
theorem qFq: ∀n:Nat,jU [AV.val (.int .i64 0)] n=ivs (List.replicate n 0)
 |0=>rfl
 |n+1=>by rw [jU,qFq n];rfl
theorem al75z (h:Hp):jP tb h 75=some (.ptr h.n 0,h.new (.cells [jV] 75)):=vU yG rfl
theorem mk75n (h:Hp) (n:Nat) (hn:n<=1000000):kQ tb h 75 (iv n) (iv n)=some (.sl h.n 0 n 1,h.new (.cells (ivs (List.replicate n 0)) 3)):=by
 have e1:anat (iv (n:Int))=some n:=rfl;have d75:te75.d= .slice 3:=rfl;have s3:te3.size=1:=rfl;have y3:te3.bytes=8:=rfl;have z3:te3.zero=[.int .i64 0]:=rfl;have b1:Nat.ble (8*n) 281474976710656=true:=by rw [xYC];omega
 have b2:Nat.ble n 9223372036854775807=true:=by rw [xYC];omega
 have b3:Nat.blt 0 1=true:=rfl;simp only [kQ,yG,d75,tg3,e1,s3,y3,z3,Nat.beq_refl,b1,b2,b3,xXW,cond_true,xXX,xXM,qFq]
theorem qAC (l:List Int) {j:Nat} (hj:j<l.length) (x:Int):(ivs l).take j++[iv x]++(ivs l).drop (j+1)=ivs (l.set j x):=by
 rw [xYO,<-qEy,xXY,if_pos (by rw [zV];exact hj)];rfl
structure Mks (N:Nat) (h:Hp) (mks:List Nat):Prop where
 nd:mks.Nodup
 mrk: ∀d∈mks,N<=d/\d<h.n/\h.t.get d=some .deferred
theorem Mks.nil {N:Nat} {h:Hp}:Mks N h []:=⟨List.nodup_nil,fun d hd=>by cases hd⟩
theorem Mks.keep {N:Nat} {h h':Hp} {mks:List Nat} (m:Mks N h mks) (hn:h.n<=h'.n) (hk: ∀k,N<=k->k<h.n->h'.t.get k=h.t.get k):Mks N h' mks:=
 ⟨m.nd,fun d hd=>by
  obtain ⟨a1,a2,a3⟩:=m.mrk d hd;exact ⟨a1,by omega,(hk d a1 a2).trans a3⟩⟩
theorem Mks.add {N:Nat} {h:Hp} {mks:List Nat} (m:Mks N h mks) {d:Nat} (h1:N<=d) (h2:d<h.n) (h3:h.t.get d=some .deferred) (h4:d ∉ mks):Mks N h (d::mks):=
 ⟨List.nodup_cons.2 ⟨h4,m.nd⟩,fun x hx=>by
  rcases xYM.1 hx with rfl|hx
  ·exact ⟨h1,h2,h3⟩
  ·exact m.mrk x hx⟩
theorem Mks.del {N:Nat} {h0 h:Hp} {mks:List Nat} (m:Mks N h mks) (f:Fr N h0 h): ∃h',vD mks h=some h'/\Fr N h0 h':=qD2 mks h m.mrk m.nd f
def Wk.eL (w:Wk) (G:tG) (row wd c:Nat):List Int:=(List.range w.m.W).map fun i=>if i<c then w.En G row wd (i+1) else 0
theorem wZ (w:Wk) (G:tG) (row wd c:Nat):(w.eL G row wd c).length=w.m.W:=by simp [Wk.eL]
theorem eL_get (w:Wk) (G:tG) (row wd c:Nat) {i:Nat} (hi:i<w.m.W):(w.eL G row wd c).getD i 0=if i<c then w.En G row wd (i+1) else 0:=by
 rw [Wk.eL,xZW,xZU,xZJ hi];rfl
theorem eL_set (w:Wk) (G:tG) (row wd:Nat) {c:Nat} (hc:c<w.m.W):(w.eL G row wd c).set c (w.En G row wd (c+1))=w.eL G row wd (c+1):=by
 refine xXF fun i=> ?_;rw [xYP];by_cases hi:i<w.m.W
 ·rw [Wk.eL,Wk.eL,xZU,xZU,xZJ hi];by_cases e:c=i
  ·subst e;simp [hc]
  ·simp only [if_neg e,xYJ];by_cases q:i<c
   ·rw [if_pos q,if_pos (by omega)]
   ·rw [if_neg q,if_neg (by omega)]
 ·rw [if_neg (by omega),xYH (by rw [wZ];omega),xYH (by rw [wZ];omega)]
theorem eL_zero (w:Wk) (G:tG) (row wd:Nat):w.eL G row wd 0=List.replicate w.m.W 0:=by
 refine xXF fun i=> ?_;rw [Wk.eL,xZU,xXP];by_cases hi:i<w.m.W
 ·rw [xZJ hi,if_pos hi];simp
 ·rw [if_neg hi,xYH (by simp;omega)];rfl
def Wk.vk (w:Wk) (G:tG) (row wd start:Nat) (pv a:Int) (k:Nat):Int:=((w.selTo wd row start k).map fun s=>pv+w.lv G s).foldl max a
theorem qEe (w:Wk) (G:tG) (row wd start:Nat) (pv a:Int) (k:Nat):w.vk G row wd start pv a (k+1)=if w.sel wd (Wk.blkK row start k)=true then max (w.vk G row wd start pv a k) (pv+w.lv G (Wk.blkK row start k)) else w.vk G row wd start pv a k:=by
 rw [Wk.vk,Wk.selTo_succ];cases e:w.sel wd (Wk.blkK row start k)
 ·simp [Wk.vk]
 ·simp [Wk.vk,xYU]
theorem vk_bd {w:Wk} (his:w.Is) {G:tG} (hb:w.m.bnd=some G) (row wd start:Nat) {pv a:Int} (hp:0<=pv/\pv<=100000) (ha:0<=a/\a<=200000): ∀k,k<=w.ts.length->0<=w.vk G row wd start pv a k/\w.vk G row wd start pv a k<=200000
 |0,_=>by simp [Wk.vk,Wk.selTo];omega
 |k+1,hk=>by
  have ih:=vk_bd his hb row wd start hp ha k (by omega);rw [qEe];split
  ·rename_i q;have:=his.lv_bd hb (his.selBlk (by omega) q).1;omega
  ·exact ih
structure EInv (h hB:Hp) (E:Nat) (hg:Hp) (mks:List Nat) (L:List Int):Prop where
 fr:Fr h.n h hg
 le:hB.n<=hg.n
 low: ∀k,k<hB.n->k≠E->hg.t.get k=hB.t.get k
 cs:hg.t.get E=some (.cells (ivs L) 3)
 mks:Mks hB.n hg mks
theorem EInv.fr' {h hB hg h':Hp} {E:Nat} {mks:List Nat} {L:List Int} (s:EInv h hB E hg mks L) (hE:E<hB.n) (hn:h.n<=hB.n) (f:Fr hg.n hg h'):EInv h hB E h' mks L:=by
 have:=s.le;exact ⟨s.fr.trans f (by omega),by have:=f.le;omega,fun k h1 h2=>(f.at_ k (.inl (by omega))).trans (s.low k h1 h2),(f.at_ E (.inl (by omega))).trans s.cs,s.mks.keep f.le fun k _ hk=>f.at_ k (.inl hk)⟩
theorem EInv.put {h hB hg:Hp} {E:Nat} {mks:List Nat} {L:List Int} (s:EInv h hB E hg mks L) (hE:E<hB.n) (hh:h.n<=E) (L':List Int):EInv h hB E (hg.set E (.cells (ivs L') 3)) mks L':=by
 have:=s.le;have e: ∀x,x≠E->(hg.set E (.cells (ivs L') 3)).t.get x=hg.t.get x:=fun x hx=>by rw [xZT,xZZ,if_neg hx]
 exact ⟨s.fr.set (by omega) (by omega) _,s.le,fun k h1 h2=>(e k h2).trans (s.low k h1 h2),by rw [xZT,xZZ,if_pos rfl],s.mks.keep (xZY _) fun k h1 _=>e k (by omega)⟩
theorem ft114 (xt:Xt):(SE xt).ft.get 114=some Tryz.f114:=by kernel_rfl
theorem res114:Tryz.f114.results.toList=[.tmp 6]:=by kernel_rfl
theorem ending_c (xt:Xt) (h:Hp) (w:Wk) (his:w.Is) (N M:Nat) (v:AV) (G:tG) (hbd:w.Bd xt h N M v G) (hbn:w.m.bnd=some G) (row wd:Nat) (hwd1:1<=wd) (hwd3:wd<=3) (hrw:row+wd<=w.m.cells.length):
  FnA (SE xt) 114 [.agg (w.bc v),iv (row:Int),iv (wd:Int)] h (fun res h'=> ∃E,res= .ret (.sl E 0 w.m.W 1)/\h'.t.get E=some (.cells (ivs ((List.range w.m.W).map fun c=>w.En G row wd (c+1))) 3)/\h.n<=E/\E<h'.n/\Fr h.n h h'):=by
 refine xZD (sok xt) (ft114 xt) rfl 64 rfl ?_;obtain ⟨o1,o2,o3,o4,o5⟩:=hbd.at_.ones;have onev:=hbd.sg.one;have c8:=his.m.c8;have r6:=his.m.r6;apply qA;intro K hn hp;simp only [sw.1,rE,reduceIte,rL,rA];apply hn;obtain ⟨h1,hh1,nh1,sh1,_,fbh1⟩:=nwE h (.cells (w.bc v) 120);rw [<-hh1];have fh1:=fbh1;have bd1:=hbd.fr fh1 (xZY _);apply qA;intro K hn hp;simp only [sy.1,rE,reduceIte,rL,rA,sh1];refine cAS (qCe xt h1 w bd1.at_ his v onev fun E hE1=> ?_);obtain ⟨h2,hh2,n2,s2,k2,f2⟩:=vQ (h1.up E) (.cells (ivs (List.replicate w.m.W 0)) 3);obtain ⟨hB,hhB,nB,sB,kB,fB⟩:=nsE h2 (.cells [jV] 75) (.cells [.sl E 0 w.m.W 1] 75);have mk:=mk75n (h1.up E) w.m.W (by omega);simp only [xZP] at mk n2 s2 k2 f2;simp only [sw.1,rE,reduceIte,rL,uQ,mk,<-hh2,al75z];rw [<-hhB];apply hn;clear hh2 hhB mk;have fB1:Fr h1.n h1 hB:=(((xZI (xZY _)).up (m:=E) (by omega)).trans f2 (by omega)).trans fB (by omega);have fBh:Fr h.n h hB:=fh1.trans fB1 (by omega);have n2':h2.n=E+1:=by omega
 rw [n2'] at nB sB kB ⊢;have uB:=(fB1.at_ h.n (.inl (by omega))).trans sh1;have eB:=(kB E (by omega)).trans s2;rw [<-eL_zero w G row wd] at eB;have S0:EInv h hB E hB [] (w.eL G row wd 0):=⟨fBh,xZY _,fun _ _ _=>rfl,eB,Mks.nil⟩;have hEB:E<hB.n:=by omega
 have hhE:h.n<E:=by omega
 clear hE1;refine zY (fun tm=>tm.get 1=some (iv (row:Int))/\tm.get 2=some (iv (wd:Int))/\tm.get 3=some (.ptr h.n 0)/\tm.get 7=some (.ptr (E+1) 0)) ⟨by simp [xZZ],by simp [xZZ],by simp [xZZ],by simp [xZZ]⟩ fun tm ht=> ?_;obtain ⟨g1,g2,g3,g7⟩:=ht;have lenE: ∀h':Hp,zA tb h' 75 (.sl E 0 w.m.W 1)=some w.m.W:=fun h'=>by rw [zA,yG];rfl
 have d0: ∀i:Nat,decide ((0:Int)<(i:Int))=decide (0<i):=fun i=>decide_eq_decide.2 (by omega);apply qB;intro K hn hp;simp only [sy.1,reduceIte,rL,syw.1,g7,lenE,sB];apply hn;refine qAq fun KZ hKZ _=> ?_;apply qZ;intro KA A1 A2 A3 A4 A5;refine qM (sok xt) (fun st=> ∃(c:Nat) (hg:Hp) (mks:List Nat) (tm:T AV),st=⟨tm,64,hg,mks⟩/\c<=w.m.W/\tm.get 1=some (iv (row:Int))/\tm.get 2=some (iv (wd:Int))/\tm.get 3=some (.ptr h.n 0)/\tm.get 7=some (.ptr (E+1) 0)/\tm.get 17=some (iv w.m.W)/\tm.get 18=some (iv c)/\EInv h hB E hg mks (w.eL G row wd c)) (fun st=>w.m.W - (match st.tm.get 18 with|some (.val (.int _ n))=>n.toNat|_=>0)) ?_ ?_
 ·rintro st ⟨c,hg,mks,tm,rfl,hkA,g1,g2,g3,g7,g17,g18,si⟩;have muA:=g18;have ug:=(si.low h.n (by omega) (by omega)).trans uB;have pg:=(si.low (E+1) (by omega) (by omega)).trans sB;have lg:=si.le;apply qA;intro K hn hp;simp only [sy.1,rL,qV,g17,g18];apply hn;by_cases hc:c<w.m.W
  ·refine jC (by simp only [sy.1,reduceIte,hc]) ?_;apply qD;intro KB B1 B2 B3 B4 B5;apply qA;intro K hn hp;simp only [sw.1,rE,reduceIte,rL,g18];obtain ⟨h8,hh8,n8,s8,k8,f8⟩:=nsE hg (.cells [iv 0] 3) (.cells [iv (c:Int)] 3);rw [<-hh8];apply hn;clear hh8;have si8:=si.fr' hEB (by omega) f8;have p8:=(f8.at_ (E+1) (.inl (by omega))).trans pg;have e8:=si8.cs;apply qB;intro K hn hp;simp only [sy.1,rE,reduceIte,rL,d0,s8];apply hn;have next: ∀(e:Ex) (tm:T AV) (hx:Hp) (mks':List Nat),(e= .normal\/e= .exit 1)->EInv h hB E hx mks' (w.eL G row wd (c+1))->tm.get 1=some (iv (row:Int))->tm.get 2=some (iv (wd:Int))->tm.get 3=some (.ptr h.n 0)->tm.get 7=some (.ptr (E+1) 0)->tm.get 17=some (iv w.m.W)->tm.get 18=some (iv c)->KB e ⟨tm,64,hx,mks'⟩:=by
    clear g1 g2 g3 g7 g17 g18;intro e tm hx mks' he s' g1 g2 g3 g7 g17 g18;rcases he with rfl|rfl
    ·refine B1 _ ?_;refine reg fun K hn hp=> ?_;simp only [sy.1,reduceIte,rL,g18,qF hc (show w.m.W<=9223372036854775807 by omega)];apply hn;refine ⟨⟨c+1,hx,mks',_,rfl,by omega,(by simp [xZZ,g1]),(by simp [xZZ,g2]),(by simp [xZZ,g3]),(by simp [xZZ,g7]),(by simp [xZZ,g17]),(by simp [xZZ]),s'⟩,by simpa [xZZ,muA] using (by omega:w.m.W - (c+1)<w.m.W - c)⟩
    ·refine B2 _ ?_;refine reg fun K hn hp=> ?_;simp only [sy.1,reduceIte,rL,g18,qF hc (show w.m.W<=9223372036854775807 by omega)];apply hn;refine ⟨⟨c+1,hx,mks',_,rfl,by omega,(by simp [xZZ,g1]),(by simp [xZZ,g2]),(by simp [xZZ,g3]),(by simp [xZZ,g7]),(by simp [xZZ,g17]),(by simp [xZZ]),s'⟩,by simpa [xZZ,muA] using (by omega:w.m.W - (c+1)<w.m.W - c)⟩
   have bdE:=his.En_bd hbn row wd;obtain ⟨L1,hL1⟩: ∃L1,L1=(w.eL G row wd c).set c (w.En G row wd c):=⟨_,rfl⟩;have l1L:L1.length=w.m.W:=by rw [hL1,xZK,wZ]
   have g1L: ∀i,i<w.m.W->L1.getD i 0=if i=c then w.En G row wd c else if i<c then w.En G row wd (i+1) else 0:=fun i hi=>by
    rw [hL1,vW _ (by rw [wZ];exact hc)];split
    ·rfl
    ·exact eL_get w G row wd c hi
   refine qAq fun KK hKK hX=> ?_;have rest: ∀(tm:T AV) (hx:Hp),EInv h hB E hx mks L1->hx.n=h8.n->hx.t.get hg.n=some (.cells [iv (c:Int)] 3)->tm.get 1=some (iv (row:Int))->tm.get 2=some (iv (wd:Int))->tm.get 3=some (.ptr h.n 0)->tm.get 7=some (.ptr (E+1) 0)->tm.get 8=some (.ptr hg.n 0)->tm.get 17=some (iv w.m.W)->tm.get 18=some (iv c)->KK .normal ⟨tm,64,hx,mks⟩:=by
    clear g1 g2 g3 g7 g17 g18;intro tm hx sx nx cx g1 g2 g3 g7 g8 g17 g18;refine hKK _ ?_;clear hX hKK KK;have ux:=(sx.low h.n (by omega) (by omega)).trans uB;have px:=(sx.low (E+1) (by omega) (by omega)).trans sB;have ex:=sx.cs;have w1:IntKind.i64.wrap ((c:Int) - (wd:Int))=(c:Int) - wd:=qG _ (by omega) (by omega);have w2:IntKind.i64.wrap ((c:Int) - (wd:Int)+1)=(c:Int) - wd+1:=qG _ (by omega) (by omega);apply qA;intro K hn hp;simp only [sy.1,rE,reduceIte,rL,g2,cx,g8,w1,w2];apply hn;refine jK ?_;by_cases hs:c+1<wd
    ·have dneg:decide ((c:Int) - (wd:Int)+1<0)=true:=decide_eq_true (by omega);apply qA;intro K hn hp;simp only [sy.1,rE,reduceIte,rL,dneg];apply hn;refine qW (by simp only [sy.1,rE,reduceIte]) ?_;have e1:L1=w.eL G row wd (c+1):=by
      rw [hL1,<-eL_set w G row wd hc,his.En_succ G hwd1 hrw (by omega),if_pos hs]
     rw [e1] at sx;refine qL (next _ _ hx mks (.inr rfl) sx ?_ ?_ ?_ ?_ ?_ ?_);all_goals simp [xZZ,g1,g2,g3,g7,g17,g18]
    obtain ⟨st,hst⟩: ∃st:Nat,st=c+1 - wd:=⟨_,rfl⟩;have est:(c:Int) - (wd:Int)+1=(st:Int):=by omega
    rw [est];have dneg:decide ((st:Int)<0)=false:=decide_eq_false (by omega);apply qA;intro K hn hp;simp only [sy.1,rE,reduceIte,rL,dneg];apply hn;refine jB (by simp only [sy.1,rE,reduceIte]) ?_;apply qA;intro K hn hp;simp only [sw.1,rE,reduceIte,rL];obtain ⟨hy,hhy,ny,sy8,ky,fy⟩:=nsE hx (.cells [iv 0] 3) (.cells [iv 0] 3);rw [<-hhy];apply hn;clear hhy;have siy:=sx.fr' hEB (by omega) fy;have py:=(fy.at_ (E+1) (.inl (by omega))).trans px;have ey:=siy.cs;apply qB;intro K hn hp;simp only [sy.1,rE,reduceIte,rL,d0];apply hn;refine qAq fun KK hKK hX=> ?_;have rest2: ∀(tm:T AV) (hz:Hp),Fr hx.n hx hz->hz.n=hx.n+1->hz.t.get hx.n=some (.cells [iv (w.En G row wd st)] 3)->tm.get 1=some (iv (row:Int))->tm.get 2=some (iv (wd:Int))->tm.get 3=some (.ptr h.n 0)->tm.get 7=some (.ptr (E+1) 0)->tm.get 8=some (.ptr hg.n 0)->tm.get 9=some (iv (st:Int))->tm.get 10=some (.ptr hx.n 0)->tm.get 17=some (iv w.m.W)->tm.get 18=some (iv c)->KK .normal ⟨tm,64,hz,mks⟩:=by
     clear g1 g2 g3 g7 g8 g17 g18;intro tm hz fz nz cz g1 g2 g3 g7 g8 g9 g10 g17 g18;refine hKK _ ?_;clear hX hKK KK;have siz:=sx.fr' hEB (by omega) fz;have uz:=(fz.at_ h.n (.inl (by omega))).trans ux;obtain ⟨hw,hhw⟩: ∃hw:Hp,hw=(((hz.new (.cells (w.bc v) 120)).new (.cells [iv (row:Int)] 3)).new (.cells [iv (wd:Int)] 3)).new (.cells [iv (st:Int)] 3):=⟨_,rfl⟩;have nw:hw.n=hz.n+4:=by rw [hhw];rfl
     have b0:hw.t.get hz.n=some (.cells (w.bc v) 120):=by rw [hhw];simp only [Hp.new_t,Hp.new_n];rw [xZZ,if_neg (by omega),xZZ,if_neg (by omega),xZZ,if_neg (by omega),xZZ,if_pos rfl]
     have b1:hw.t.get (hz.n+1)=some (.cells [iv (row:Int)] 3):=by rw [hhw];simp only [Hp.new_t,Hp.new_n];rw [xZZ,if_neg (by omega),xZZ,if_neg (by omega),xZZ,if_pos rfl]
     have b2:hw.t.get (hz.n+2)=some (.cells [iv (wd:Int)] 3):=by rw [hhw];simp only [Hp.new_t,Hp.new_n];rw [xZZ,if_neg (by omega),xZZ,if_pos rfl]
     have b3:hw.t.get (hz.n+3)=some (.cells [iv (st:Int)] 3):=by rw [hhw];simp only [Hp.new_t,Hp.new_n];rw [xZZ,if_pos rfl]
     have fw:Fr hz.n hz hw:=by rw [hhw];exact ((((xZI (xZY _)).new _).new _).new _).new _
     have bdz:w.Bd xt hz N M v G:=hbd.fr siz.fr (xZY _);apply qA;intro K hn hp;simp only [sy.1,rE,reduceIte,rL,rA,g1,g2,g3,uz,g9];refine cAS (qC5 xt hz w bdz.at_ v onev (row:Int) (wd:Int) (st:Int) ?_);rw [<-hhw];simp only [sy.1,rL];apply hn;clear hhw;have siw:=siz.fr' hEB (by omega) fw;have lhw:=siw.le;have pw:=(siw.low (E+1) (by omega) (by omega)).trans sB;have cw:=(fw.at_ hg.n (.inl (by omega))).trans ((fz.at_ hg.n (.inl (by omega))).trans cx);have vw:=(fw.at_ hx.n (.inl (by omega))).trans cz;refine zY (fun tm=>tm.get 1=some (iv (row:Int))/\tm.get 2=some (iv (wd:Int))/\tm.get 3=some (.ptr h.n 0)/\tm.get 7=some (.ptr (E+1) 0)/\tm.get 8=some (.ptr hg.n 0)/\tm.get 10=some (.ptr hx.n 0)/\tm.get 17=some (iv w.m.W)/\tm.get 18=some (iv c)/\tm.get 48=some (.fn (.func 210) [] [.ptr hz.n 0,.ptr (hz.n+1) 0,.ptr (hz.n+3) 0,.ptr (hz.n+2) 0])) ⟨by simp [xZZ,g1],by simp [xZZ,g2],by simp [xZZ,g3],by simp [xZZ,g7],by simp [xZZ,g8],by simp [xZZ,g10],by simp [xZZ,g17],by simp [xZZ,g18],by simp [xZZ]⟩ fun tm ht9=> ?_;clear g1 g2 g3 g7 g8 g9 g10 g17 g18;obtain ⟨g1,g2,g3,g7,g8,g10,g17,g18,g48⟩:=ht9
     let V:Nat->Int:=fun k=>w.vk G row wd st (w.En G row wd st) (w.En G row wd c) k
     have bdV: ∀k,k<=w.ts.length->0<=V k/\V k<=200000:=vk_bd his hbn row wd st (by have:=bdE st;omega) (by have:=bdE c;omega)
     let I:ALoop->Nat->Hp->Prop:=fun rc k h'=>FrM (fun b=>b=E\/b=hw.n+1) (hw.n+2) (LH hw rc) h'/\h'.t.get (hw.n+1)=some (.loop rc)/\h'.t.get E=some (.cells (ivs (L1.set c (V k))) 3)
     have nHL: ∀rc,(LH hw rc).n=hw.n+2:=fun rc=>rfl;have key: ∀rc k h',I rc k h'->hw.n+2<=h'.n/\Fr h.n h h'/\ ∀b,b<hw.n->b≠E->h'.t.get b=hw.t.get b:=by
      rintro rc k h' ⟨z1,z2,z3⟩;have nn:=nHL rc;have:=z1.le;refine ⟨by omega,z1.toFr (siw.fr.trans (gJ hw rc) (by omega)) (by omega) (fun b hb=>by omega),fun b q1 q2=> ?_⟩;rw [z1.get (by omega) (by omega)];exact vV hw rc q1
     have hL0:L1.set c (V 0)=L1:=by
      have:V 0=w.En G row wd c:=by simp [V,Wk.vk,Wk.selTo]
      rw [this,hL1,xXN]
     apply qZ;intro KD D1 D2 D3 D4 D5;refine kL (sok xt) (g:=210) (xs:=[.yld (hw.n+1),.ptr hz.n 0,.ptr (hz.n+1) 0,.ptr (hz.n+3) 0,.ptr (hz.n+2) 0]) (S:=fun _ _ _=>False) (Z:=fun rc h'=>I rc w.ts.length h') (by simp only [sy.1,g48];rfl) (fun rc c1 c2 c3 c4 c5 c6 c7=> ?_) ?_ (fun _ _ _ hf=>hf.elim)
     ·refine qBu xt (LH hw rc) w his N M v G hbn (hw.n+1) hz.n (hz.n+1) (hz.n+3) (hz.n+2) row st wd (I rc) _ ?_ ?_ ?_ ?_ ?_ ?_
      ·exact ⟨FrM.refl (xZY _),LH_l hw rc,by rw [hL0,vV hw rc (by omega)];exact siw.cs⟩
      ·intro k h' hI;obtain ⟨q1,q2,q3⟩:=key rc k h' hI;exact ⟨hbd.fr q2 (xZY _),(q3 _ (by omega) (by omega)).trans b0,(q3 _ (by omega) (by omega)).trans b1,(q3 _ (by omega) (by omega)).trans b3,(q3 _ (by omega) (by omega)).trans b2⟩
      ·intro k h' hI;obtain ⟨q1,q2,q3⟩:=key rc k h' hI;omega
      ·rintro k h' h'' hI f;obtain ⟨q1,q2,q3⟩:=key rc k h' hI;obtain ⟨z1,z2,z3⟩:=hI;exact ⟨z1.fr f (by omega),(f.at_ _ (.inl (by omega))).trans z2,(f.at_ _ (.inl (by omega))).trans z3⟩
      ·rintro k h' hk hs ⟨z1,z2,z3⟩;refine ⟨z1,z2,?_⟩;have e1:V (k+1)=V k:=by
        show w.vk G row wd st _ _ (k+1)=w.vk G row wd st _ _ k;rw [qEe,if_neg (by rw [show w.sel wd (Wk.blkK row st k)=false from hs];decide)]
       rw [e1];exact z3
      ·intro k hk hs;refine yW (sok xt) (S:=fun _ _=>False) c1 c2 c3 c4 c5 c6 c7 (fun h' hA=>hA.2.1) (fun h' hA=>⟨_,rfl,?_⟩);have kI:=key rc k h' hA;obtain ⟨z1,z2,z3⟩:=hA;obtain ⟨q1,q2,q3⟩:=kI;refine reg fun K hn hp=> ?_;simp only [sy.1,rE,reduceIte,rL];apply hn;refine ⟨rfl,rfl,rfl,?_⟩;dsimp only;obtain ⟨h7,hh7⟩: ∃h7:Hp,h7=h'.set (hw.n+1) (.loop rc.busy):=⟨_,rfl⟩;rw [<-hh7];have z5:FrM (fun b=>b=E\/b=hw.n+1) (hw.n+2) (LH hw rc) h7:=by rw [hh7];exact z1.set (.inr (.inr rfl)) _
       have z6:h7.t.get (hw.n+1)=some (.loop rc.busy):=by rw [hh7,xZT,xZZ,if_pos rfl]
       have k7: ∀b,b≠hw.n+1->h7.t.get b=h'.t.get b:=fun b hb=>by rw [hh7,xZT,xZZ,if_neg hb]
       clear hh7;have y3:=(k7 E (by omega)).trans z3;have yp:=(k7 (E+1) (by omega)).trans ((q3 (E+1) (by omega) (by omega)).trans pw);have yc:=(k7 hg.n (by omega)).trans ((q3 hg.n (by omega) (by omega)).trans cw);have yv:=(k7 hx.n (by omega)).trans ((q3 hx.n (by omega) (by omega)).trans vw);have hlv:0<=w.lv G ((row:Int),(st:Int),(k:Int))/\w.lv G ((row:Int),(st:Int),(k:Int))<=6500:=his.lv_bd hbn (his.selBlk hk hs).1;have bE:=bdE st;have wl:IntKind.i64.wrap (w.En G row wd st+w.lv G ((row:Int),(st:Int),(k:Int)))=w.En G row wd st+w.lv G ((row:Int),(st:Int),(k:Int)):=qG _ (by omega) (by omega);have x3:=qAd (b:=E) (n:=w.m.W) (j:=c) hc;have x2:=zW (l:=L1.set c (V k)) (j:=c) (by rw [xZK];omega);rw [vW _ (by omega),if_pos rfl] at x2;have hlb:c+1<=(ivs (L1.set c (V k))).length:=by rw [zV,xZK,l1L];exact hc
       have hput:=qAC (L1.set c (V k)) (j:=c) (by rw [xZK,l1L];exact hc) (max (V k) (w.En G row wd st+w.lv G ((row:Int),(st:Int),(k:Int))));have eV:V (k+1)=max (V k) (w.En G row wd st+w.lv G ((row:Int),(st:Int),(k:Int))):=by
        show w.vk G row wd st _ _ (k+1)=_;rw [qEe,if_pos (show w.sel wd (Wk.blkK row st k)=true from hs)]
       refine qZ fun K' k1' k2' k3' k4' k5'=> ?_;refine regD (sok xt) 11 (by kernel_rfl) fun K hn hp=> ?_;simp only [sw.1,rE,reduceIte,rL,g7,g8,g10,y3,yp,yc,yv,wl,x3,x2,hlb];rw [hput,xXN,<-eV];refine hn _ _ (k1' _ ⟨rfl,?_,.inl ⟨rfl,?_,?_,?_⟩⟩)
       ·rw [xZT,xZZ,if_neg (by omega)];exact z6
       ·exact (z5.set (.inr (.inl rfl)) _).set (.inr (.inr rfl)) _
       ·rw [xZT,xZZ,if_pos rfl]
       ·rw [xZT,xZZ,if_neg (by omega),xZT,xZZ,if_pos rfl]
     ·rintro rc h' c1 c2 hI;obtain ⟨q1,q2,q3⟩:=key rc _ h' hI;obtain ⟨z1,z2,z3⟩:=hI;refine ⟨z2,D1 _ (next .normal _ _ _ (.inl rfl) ?_ g1 g2 g3 g7 g17 g18)⟩;obtain ⟨h8',hh8⟩: ∃h8':Hp,h8'=h'.set (hw.n+1) (.loop {rc with state:= .exhausted}):=⟨_,rfl⟩;rw [<-hh8];have n8':h8'.n=h'.n:=by rw [hh8];rfl
      have k8': ∀b,b≠hw.n+1->h8'.t.get b=h'.t.get b:=fun b hb=>by rw [hh8,xZT,xZZ,if_neg hb]
      have f8':Fr h.n h h8':=by rw [hh8];exact q2.set (by omega) (by omega) _
      clear hh8;have e1:L1.set c (V w.ts.length)=w.eL G row wd (c+1):=by
       rw [hL1,xXN,<-eL_set w G row wd hc,his.En_succ G hwd1 hrw (by omega),if_neg hs,<-hst];rfl
      have hd:h8'.t.get hw.n=some .deferred:=(k8' _ (by omega)).trans ((z1.get (by have:=nHL rc;omega) (by omega)).trans (LH_d hw rc));refine ⟨f8',by omega,fun b h1 h2=>(k8' b (by omega)).trans ((q3 b (by omega) h2).trans (siw.low b h1 h2)),(k8' E (by omega)).trans (by rw [<-e1];exact z3),?_⟩;refine Mks.add (siw.mks.keep (by omega) fun b h1 h2=>(k8' b (by omega)).trans (q3 b h2 (by omega))) (by omega) (by omega) hd fun hm=> ?_;have:=(siw.mks.mrk _ hm).2.1;omega
    by_cases h0:0<st
    ·refine wcT (by simp only [sy.1,rE,reduceIte,decide_eq_true h0]) ?_;have ws:IntKind.i64.wrap ((st:Int) - 1)=((st - 1:Nat):Int):=by rw [qG _ (by omega) (by omega)];omega
     have x1:=qAd (b:=E) (n:=w.m.W) (j:=st - 1) (by omega);have x2:=zW (l:=L1) (j:=st - 1) (by omega);rw [g1L _ (by omega),if_neg (by omega),if_pos (by omega),show st - 1+1=st by omega] at x2;refine reg fun K hn hp=> ?_;simp only [sw.1,rE,reduceIte,rL,g7,py,ey,sy8,ws,x1,x2];obtain ⟨hz,hhz⟩: ∃hz:Hp,hz=hy.set hx.n (.cells [iv (w.En G row wd st)] 3):=⟨_,rfl⟩;have nz:hz.n=hy.n:=by rw [hhz];rfl
     have sz8:hz.t.get hx.n=some (.cells [iv (w.En G row wd st)] 3):=by rw [hhz,xZT,xZZ,if_pos rfl]
     have fz:Fr hx.n hx hz:=by rw [hhz];exact fy.set (xZY _) (by omega) _
     apply hn;rw [<-hhz];refine rest2 _ hz fz (by omega) sz8 ?_ ?_ ?_ ?_ ?_ ?_ ?_ ?_ ?_;all_goals simp [xZZ,g1,g2,g3,g7,g8,g17,g18]
    ·refine wcF (by simp only [sy.1,rE,reduceIte,decide_eq_false h0]) ?_;have e0:st=0:=by omega
     refine qR (rest2 _ hy fy ny ?_ ?_ ?_ ?_ ?_ ?_ ?_ ?_ ?_ ?_)
     ·rw [e0,his.En_zero G hwd1 hrw];exact sy8
     all_goals simp [xZZ,g1,g2,g3,g7,g8,g17,g18]
   by_cases h0:0<c
   ·refine wcT (by simp only [sy.1,rE,reduceIte,decide_eq_true h0]) ?_;have ws:IntKind.i64.wrap ((c:Int) - 1)=((c - 1:Nat):Int):=by rw [qG _ (by omega) (by omega)];omega
    have x1:=qAd (b:=E) (n:=w.m.W) (j:=c - 1) (by omega);have x3:=qAd (b:=E) (n:=w.m.W) (j:=c) hc;have x2:=zW (l:=w.eL G row wd c) (j:=c - 1) (by rw [wZ];omega);rw [eL_get _ _ _ _ _ (by omega),if_pos (by omega),show c - 1+1=c by omega] at x2;have hlb:c+1<=(ivs (w.eL G row wd c)).length:=by rw [zV,wZ];exact hc
    have hput:=qAC (w.eL G row wd c) (j:=c) (by rw [wZ];exact hc) (w.En G row wd c);refine regD (sok xt) 8 (by kernel_rfl) fun K hn hp=> ?_;simp only [sw.1,rE,reduceIte,rL,g7,p8,s8,e8,ws,x1,x2,x3,hlb];rw [hput,<-hL1];refine hn _ _ (rest _ _ (si8.put hEB (by omega) L1) rfl ?_ ?_ ?_ ?_ ?_ ?_ ?_ ?_)
    ·rw [xZT,xZZ,if_neg (by omega)];exact s8
    all_goals simp [xZZ,g1,g2,g3,g7,g17,g18]
   ·refine wcF (by simp only [sy.1,rE,reduceIte,decide_eq_false h0]) ?_;have c0:c=0:=by omega
    have e1:L1=w.eL G row wd c:=by
     rw [hL1,c0,his.En_zero G hwd1 hrw];refine List.set_getElem?_self' ?_;have:=eL_get w G row wd 0 (i:=0) (by omega);rw [xZW,xZX (by rw [wZ];omega)] at this;rw [xZX (by rw [wZ];omega)];simpa using this
    refine qR (rest _ h8 (by rw [e1];exact si8) rfl s8 ?_ ?_ ?_ ?_ ?_ ?_ ?_);all_goals simp [xZZ,g1,g2,g3,g7,g17,g18]
  ·refine jD (by simp only [sy.1,reduceIte,hc]) ?_;refine qL (A2 _ (hKZ _ ?_));obtain rfl:c=w.m.W:=by omega
   obtain ⟨h9,d1,d2⟩:=si.mks.del (N:=hB.n) (xZI (h:=hg) si.le);apply qA;intro K hn hp;simp only [sy.1,rE,reduceIte,rL,g7,pg];apply hn;refine qC (end_1m res114 d1 ⟨E,?_,?_,by omega,?_,si.fr.trans d2 (by omega)⟩)
   ·simp [xZZ]
   ·rw [d2.at_ E (.inl hEB),si.cs]
    congr 3
    refine List.map_congr_left fun i hi=> ?_;rw [if_pos (xZS.1 hi)]
   ·have:=d2.lo;omega
 ·exact ⟨0,hB,[],_,rfl,(by omega),(by simp [xZZ,g1]),(by simp [xZZ,g2]),(by simp [xZZ,g3]),(by simp [xZZ,g7]),(by simp [xZZ]),(by simp [xZZ]),S0⟩
theorem end_c2 {E:Env} {fn:Func} {K:KP} {tm:T AV} {nt:Nat} {h:Hp} {t u u':Tmp} {ty:TypeId} {v:AV} (h1:fn.results.toList=[.cell t ty,.tmp u,.tmp u']) (h2:qN E.tb E.xt h ty ((tm.get t).getD default)=some v) (h3:K (.ret (.tup [v,(tm.get u).getD default,(tm.get u').getD default])) h):xX E fn K .ret ⟨tm,nt,h,[]⟩:=by
 refine end_ret rfl (vs:=[v,(tm.get u).getD default,(tm.get u').getD default]) ?_ h3;rw [h1];have e0:(match tm.get t with|some a=>a|none=>default)=(tm.get t).getD default:=by cases tm.get t<;>rfl
 have e1:(match tm.get u with|some a=>a|none=>default)=(tm.get u).getD default:=by cases tm.get u<;>rfl
 have e2:(match tm.get u' with|some a=>a|none=>default)=(tm.get u').getD default:=by cases tm.get u'<;>rfl
 show (match qN E.tb E.xt h ty (match tm.get t with|some a=>a|none=>default) with|none=>none|some v=>match (some [match tm.get u with|some a=>a|none=>default,match tm.get u' with|some a=>a|none=>default]:Option (List AV)) with|none=>none|some l=>some (v::l))=_;rw [e0,h2,e1,e2]
theorem qDH (F:Nat->Int) (n:Nat): ∀k,k<=n->vG (dfl F n) k=F k - F 0
 |0,_=>by simp [vG]
 |k+1,hk=>by
  rw [vG,qDH F n k (by omega)];have:(dfl F n).getD k 0=F (k+1) - F k:=by
   rw [dfl,xZW,xZU,xZJ (by omega)];rfl
  rw [this];omega
theorem sl_from {n:Nat} {b:Nat} {h:Hp} {v':AV} (h1:j0 tb h 75 (.sl b 0 (n+1) 1) (some (iv ((1:Nat):Int))) (some (iv ((1+n:Nat):Int)))=some v'):j0 tb h 75 (.sl b 0 (n+1) 1) (some (iv 1)) none=some v':=by
 rw [<-h1];have d75:te75.d= .slice 3:=rfl;have e1:vN (n+1) none=some (n+1):=rfl;have e2:vN (n+1) (some (iv ((1+n:Nat):Int)))=some (n+1):=by rw [Nat.add_comm];rfl
 simp only [j0,yG,d75,tg3,e1,e2];rfl
def Wk.uTo (w:Wk) (G:tG) (k:Nat):List Int:=((w.bnds w.m.cells.length).take k).foldl (uY (w.bb G)) (List.replicate (w.m.cells.length+1) 0)
theorem qCi {w:Wk} (G:tG) {k:Nat} {x:Nat×Nat} (hx:(w.bnds w.m.cells.length)[k]? =some x):w.uTo G (k+1)=uY (w.bb G) (w.uTo G k) x:=by
 rw [Wk.uTo,xYZ,hx,xYU];rfl
theorem uTo_all (w:Wk) (G:tG):w.uTo G (w.bnds w.m.cells.length).length=w.uAll G:=by
 rw [Wk.uTo,xXT];rfl
theorem gE {w:Wk} (his:w.Is) {k f wd:Nat} (h:(f,wd)∈w.bnds k):f+wd<=w.m.cells.length/\1<=wd/\wd<=3/\wd∈w.wn/\f<k:=by
 obtain ⟨f',hf,hm⟩:=xXE.1 h;obtain ⟨y,hy,e⟩:=xZQ.1 (show (f,wd)∈(w.wn.filter fun x=>decide (f'+x<=w.m.cells.length)).map fun x=>(f',x) from hm);obtain ⟨hy1,hy2⟩:=xZG.1 hy;have:=his.wn_bd hy1;have:=of_decide_eq_true hy2;simp only [Prod.mk.injEq] at e;obtain ⟨rfl,rfl⟩:=e;exact ⟨by omega,by omega,by omega,hy1,xZS.1 hf⟩
theorem qBZ (w:Wk) (G:tG): ∀k,(w.uTo G k).length=w.m.cells.length+1
 |0=>by simp [Wk.uTo]
 |k+1=>by
  cases hx:(w.bnds w.m.cells.length)[k]? with
  |none=>
   have:w.uTo G (k+1)=w.uTo G k:=by
    rw [Wk.uTo,xYZ,hx];simp [Wk.uTo]
   rw [this];exact qBZ w G k
  |some x=>rw [qCi G hx,qDJ];exact qBZ w G k
theorem bb_bd {w:Wk} (his:w.Is) {G:tG} (hb:w.m.bnd=some G) (f wd:Nat):0<=w.bb G f wd/\w.bb G f wd<=60000:=by
 have h:=his.bandP_bd hb f wd w.m.W;have:=his.m.c8;rw [Wk.bb];omega
theorem uTo_bd {w:Wk} (his:w.Is) {G:tG} (hb:w.m.bnd=some G): ∀k,k<=(w.bnds w.m.cells.length).length-> ∀j,0<=(w.uTo G k).getD j 0/\(w.uTo G k).getD j 0<=60000*k
 |0,_,j=>by
  simp only [Wk.uTo,List.take_zero,List.foldl_nil,xZW,xXP];split<;>simp
 |k+1,hk,j=>by
  obtain ⟨⟨f,wd⟩,hx⟩: ∃x,(w.bnds w.m.cells.length)[k]? =some x:=⟨_,xZX (by omega)⟩;obtain ⟨h1,h2,h3,_,_⟩:=gE his (xZH hx);have ih:=uTo_bd his hb k (by omega);rw [qCi G hx,qDK (by rw [qBZ];omega) h2];have b0:=bb_bd his hb f wd;have i1:=ih (f+wd);have i2:=ih f;have i3:=ih (f - 1);have i4:=ih j;split
  ·omega
  ·split<;>omega
theorem fin_bd {w:Wk} (his:w.Is) {G:tG} (hb:w.m.bnd=some G): ∀r,r<=w.m.cells.length->((List.range r).foldl qAI (w.uAll G)).length=w.m.cells.length+1:=fun r hr=>(qCU his G r hr).1
def PfR (xt:Xt) (h:Hp) (w:Wk) (res:CR) (h':Hp):Prop:=Fr h.n h h'/\ ∃zr zb rl bl,res= .ret (.tup [.agg [zr,zb],iv (if w.asked []=0 then rl.sum else 0),iv (w.asked [])])/\Nums xt h' zr rl/\BAt xt h' zb bl/\(w.asked []≠0->rl=[]/\bl=[])/\(∀G,w.asked []=0->w.m.bnd=some G->rl=w.prows G/\bl=w.pbnds G)/\yE zr
theorem cap_nil:yE jV:=fun ad n c e=>by cases e;exact xZY _
theorem BAt.nil (xt:Xt) (h:Hp):BAt xt h jV []:=⟨fun h'=>by rw [zA,pN];rfl,by simp,rfl,rfl,fun i b hb=>by simp at hb⟩
theorem ft54 (xt:Xt):(SE xt).ft.get 54=some Tryz.f54:=by kernel_rfl
theorem res54:Tryz.f54.results.toList=[.cell 2 91,.tmp 3,.tmp 4]:=by kernel_rfl
theorem bd93z:zE tb 91 []=some (.agg [jV,jV]):=by kernel_rfl
theorem proof_c (xt:Xt) (h:Hp) (w:Wk) (ha:w.At xt h):FnA (SE xt) 54 [w.av] h (PfR xt h w):=by
 refine xZD (sok xt) (ft54 xt) rfl 142 rfl ?_;obtain ⟨o1,o2,o3,o4,o5⟩:=ha.ones;apply qA;intro K hn hp;simp only [sw.1,reduceIte,rL,syb.down];obtain ⟨h1,hh1,n1,s1,k1,f1⟩:=vQ h (.cells w.cs 30);obtain ⟨h2,hh2,n2,s2,k2,f2⟩:=yJ f1 n1 (.cells [jV,jV] 91);simp only [<-hh1,<-hh2];apply hn;clear hh1 hh2;simp only [rA] at n2;have u2:=(k2 h.n (by omega)).trans s1;have ha2:=ha.fr f2 (xZY _);apply qB;intro K hn hp;simp only [sy.1,rE,reduceIte,rL,rA,u2];refine cAS (qAD xt _ w ha2 fun m1 hm1=> ?_);cases e1:w.ok
 ·simp only [sy.1,rE,reduceIte,rL];apply hn;refine qW (by simp only [sy.1,rE,reduceIte]) ?_;apply qB;intro K hn hp;simp only [sw.1,rE,reduceIte,rL,rA,syb.down,s2,bd93z];apply hn;have ea:w.asked []=2:=by simp [Wk.asked,e1]
  have fx:Fr h.n h ((h2.up m1).set (h.n+1) (.cells [jV,jV] 91)):=(f2.up (Nat.le_of_lt hm1)).set (by omega) (by simp only [xZP];omega) _;refine qQ (end_c2 (v:= .agg [jV,jV]) res54 ?_ ⟨fx,jV,jV,[],[],?_,Nums.nil,BAt.nil _ _,fun _=>⟨rfl,rfl⟩,(fun G q=>by rw [ea] at q;cases q),cap_nil⟩)
  ·simp only [sy.1,rE,reduceIte,rA,syb.down,s2]
  ·simp [xZZ,ea]
 have his:=Wk.ok_is e1;have c8:=his.m.c8;have r6:=his.m.r6;simp only [sy.1,rE,reduceIte,rL];apply hn;refine jB (by simp only [sy.1,rE,reduceIte]) ?_;apply qA;intro K hn hp;simp only [sy.1,rE,reduceIte,rL,rA,u2];have ha3u:=ha2.up (n:=m1) (by omega);refine cAS (xYW (qAY xt (h2.up m1) w ha3u _ _ his.m) fun res h4 hres=> ?_);obtain ⟨f4,hres⟩:=hres;have low4: ∀k,k<m1->h4.t.get k=h2.t.get k:=fun k hk=>f4.at_ k (.inl hk);have v1:=(low4 h.n (by omega)).trans u2;have v3:=(low4 (h.n+1) (by omega)).trans s2;have n4:m1<=h4.n:=f4.lo;have f4h:Fr h.n h h4:=(f2.up (m:=m1) (by omega)).trans f4 (by simp only [xZP];omega);change match w.m.bnd with|some G=>_|none=>_ at hres
 have easked:w.asked []=match w.m.bnd with|none=>7|some _=>0:=by
  simp only [Wk.asked,e1,Wk.cut_nil,xXW,if_true];rw [qDL his.m];cases w.m.bnd<;>rfl
 cases hb:w.m.bnd with
 |none=>
  rw [hb] at hres easked;subst hres;simp only [sw.1,rE,reduceIte,rL,rA,sv.1];obtain ⟨h5,hh5,n5,s5,k5,f5⟩:=nsE h4 (.cells xR 120) (.cells xR 120);rw [<-hh5];apply hn;clear hh5;have x3:=(k5 (h.n+1) (by omega)).trans v3;apply qB;intro K hn hp;simp only [sy.1,rE,reduceIte,rL];apply hn;refine qW (by simp only [sy.1,rE,reduceIte,d70]) ?_;apply qB;intro K hn hp;simp only [sw.1,rE,reduceIte,rL,rA,syb.down,x3,bd93z];apply hn;have fx:Fr h.n h (h5.set (h.n+1) (.cells [jV,jV] 91)):=(f4h.trans f5 (by omega)).set (by omega) (by omega) _;refine qQ (end_c2 (v:= .agg [jV,jV]) res54 ?_ ⟨fx,jV,jV,[],[],?_,Nums.nil,BAt.nil _ _,fun _=>⟨rfl,rfl⟩,(fun G q=>by rw [easked] at q;cases q),cap_nil⟩)
  ·simp only [sy.1,rE,reduceIte,rA,syb.down,x3]
  ·simp [xZZ,easked]
 |some G=>
  rw [hb] at hres easked;obtain ⟨v,M,rfl,sg,m1',m2'⟩:=hres;have onev:=sg.one;simp only [sw.1,rE,reduceIte,rL,rA,sv.1,o1,o2,o3,o4,o5,onev];obtain ⟨h5,hh5,n5,s5,k5,f5⟩:=nsE h4 (.cells xR 120) (.cells (w.bc v) 120);rw [<-hh5];apply hn;clear hh5;have f5h:=f4h.trans f5 (by omega);have x3:=(k5 (h.n+1) (by omega)).trans v3;have ha5:=ha.fr f5h (xZY _);have sg5:SG h5 (h2.up m1).n M v _ _ G:=sg.keep fun k _ hk=>k5 k (by omega);have hM5:M<=h5.n:=by omega
  obtain ⟨p5,hp5⟩: ∃p,p=h4.n:=⟨_,rfl⟩;rw [<-hp5] at n5 s5 ⊢;apply qB;intro K hn hp;simp only [sy.1,rE,reduceIte,rL];apply hn;refine jB (by simp only [sy.1,rE,reduceIte]) ?_;apply qA;intro K hn hp;simp only [sy.1,rE,reduceIte,rL,rA,s5];refine cAS (xYW (bands_c xt h5 w ha5 his v onev) fun res h6 hres=> ?_);obtain ⟨zb,rfl,ob6,f6,lt6⟩:=hres;have onb:=OwnSl.one ob6;have clb:=OwnSl.cells ob6;obtain ⟨h7,hh7,n7,s7,k7,f7⟩:=nsE h6 (.cells [jV,jV] 91) (.cells [jV,zb] 91);simp only [sw.1,rE,reduceIte,rL,rA,syb.down,bd93 _ clb,onb,<-hh7];apply hn;clear hh7;obtain ⟨p7,hp7⟩: ∃p,p=h6.n:=⟨_,rfl⟩;rw [<-hp7] at n7 s7 ⊢;have f57:Fr h5.n h5 h7:=f6.trans f7 (by omega);have y5:=(f57.at_ p5 (.inl (by omega))).trans s5;have ha7:=ha5.fr f57 (xZY _);have ob7:uD h7 h5.n zb (fr0 (w.bnds w.m.cells.length)):=OwnSl.fr ob6 f7 (xZY _);have lb: ∀{b off n s:Nat},zb= .sl b off n s->h5.n<=b/\b<p7:=fun e=>by have:=OwnSl.blk ob6 e;omega
  have wR:IntKind.i64.wrap ((w.m.cells.length:Int)+1)=((w.m.cells.length+1:Nat):Int):=by rw [qG _ (by omega) (by omega)];omega
  apply qA;intro K hn hp;simp only [sy.1,rE,reduceIte,rL,rA,y5];refine cAS (pC xt h7 w ha7 v onev fun U hU=> ?_);obtain ⟨hB,hhB,nB,sB,kB,fB⟩:=vQ (h7.up U) (.cells (ivs (List.replicate (w.m.cells.length+1) 0)) 3);have mk:=mk75n (h7.up U) (w.m.cells.length+1) (by omega);simp only [xZP] at mk nB sB kB fB;simp only [sy.1,rE,reduceIte,rL,wR,uQ,mk,<-hhB];apply hn;clear hhB mk;have f7B:Fr h7.n h7 hB:=((xZI (xZY _)).up (m:=U) (by omega)).trans fB (by omega);have f5B:=f57.trans f7B (by omega);have pB:=(f7B.at_ p7 (.inl (by omega))).trans s7;have obB:uD hB h5.n zb (fr0 (w.bnds w.m.cells.length)):=OwnSl.fr ob7 f7B (xZY _);have hU7:p7<U:=by omega
  have lB5:h5.n<=hB.n:=by omega
  clear hU;have hnb:=xZ his w.m.cells.length;have lenb: ∀(h':Hp),zA tb h' 89 zb=some (w.bnds w.m.cells.length).length:=fun h'=>by
   have:=OwnSl.len ob7 pN rfl (h':=h');simpa [fr0] using this
  refine zY (fun tm=>tm.get 1=some (.ptr h.n 0)/\tm.get 2=some (.ptr (h.n+1) 0)/\tm.get 5=some (.ptr p5 0)/\tm.get 7=some (.ptr p7 0)/\tm.get 8=some (.sl U 0 (w.m.cells.length+1) 1)) ⟨by simp [xZZ],by simp [xZZ],by simp [xZZ],by simp [xZZ],by simp [xZZ]⟩ fun tm ht=> ?_;obtain ⟨g1,g2,g5,g7,g8⟩:=ht;apply qB;intro K hn hp;simp only [sy.1,rE,reduceIte,rL,syw.1,syb.down,g7,lenb,pB];apply hn;apply qD;intro KA A1 A2 A3 A4 A5;refine qM (sok xt) (fun st=> ∃(k:Nat) (hg:Hp) (es:List (Int×Int×AV)) (tm:T AV),st=⟨tm,142,hg,[]⟩/\k<=(w.bnds w.m.cells.length).length/\tm.get 1=some (.ptr h.n 0)/\tm.get 2=some (.ptr (h.n+1) 0)/\tm.get 5=some (.ptr p5 0)/\tm.get 7=some (.ptr p7 0)/\tm.get 8=some (.sl U 0 (w.m.cells.length+1) 1)/\tm.get 36=some (iv (w.bnds w.m.cells.length).length)/\tm.get 37=some (iv k)/\Fr h5.n h5 hg/\hB.n<=hg.n/\(∀x,x<hB.n->x≠U->(∀off n s,zb≠ .sl x off n s)->hg.t.get x=hB.t.get x)/\hg.t.get U=some (.cells (ivs (w.uTo G k)) 3)/\uD hg h5.n zb es/\PB w G hg hB.n k es) (fun st=>(w.bnds w.m.cells.length).length - (match st.tm.get 37 with|some (.val (.int _ n))=>n.toNat|_=>0)) ?_ ?_
  ·rintro st ⟨k,hg,es,tm,rfl,hkA,g1,g2,g5,g7,g8,g36,g37,fg,lg,kg,ug,og,pb⟩;have muA:=g37;have hnu: ∀{b off n s:Nat},zb= .sl b off n s->b≠U:=fun e q=>by have:=(lb e).2;omega
   have p7g:=(kg p7 (by omega) (by omega) (fun off n s e=>by have:=(lb e).2;omega)).trans pB;have p5g:=(fg.at_ p5 (.inl (by omega))).trans s5;have sgg:SG hg (h2.up m1).n M v _ _ G:=sg5.fr fg hM5;have hlu:=qBZ w G k;apply qA;intro K hn hp;simp only [sy.1,rL,qV,g36,g37];apply hn;by_cases hk:k<(w.bnds w.m.cells.length).length
   ·refine jC (by simp only [sy.1,reduceIte,hk]) ?_;apply qD;intro KB B1 B2 B3 B4 B5;obtain ⟨⟨f,wd⟩,hx⟩: ∃x,(w.bnds w.m.cells.length)[k]? =some x:=⟨_,xZX hk⟩;obtain ⟨hf,hw1,hw3,hwn,hfk⟩:=gE his (xZH hx);obtain ⟨e,he⟩: ∃e,es[k]? =some e:=⟨_,xZX (by rw [pb.len];exact hk)⟩;obtain ⟨a1,a2,_,a4⟩:=pb.at_ k e (f,wd) he hx;simp only at a1 a2;obtain ⟨b,⟨eb,_,_,e4⟩,j1,j2⟩:=OwnSl.elt og he xt;obtain ⟨hb1,hb2⟩:=lb eb;obtain ⟨q1,q2,q3⟩:=qCT he;rw [a1] at q1;rw [a2] at q2;have bdg:w.Bd xt hg (h2.up m1).n M v G:=⟨ha5.fr fg (xZY _),sgg,by have:=fg.le;omega⟩;apply qA;intro K hn hp;simp only [sy.1,rE,reduceIte,rL,g37];apply hn;apply qA;intro K hn hp;simp only [sy.1,rE,reduceIte,rL,syb.down,g7,p7g,j1];apply hn;refine jL (sok xt) 0 0 9 [] (by kernel_rfl) fun K hn hp=> ?_;simp only [sy.1,rE,reduceIte,rL,rA,syw.1,syb.down,g5,p5g,e4,q1,q2];refine cAS (xYW (ending_c xt hg w his _ M v G bdg hb f wd hw1 hw3 hf) fun res hE hres=> ?_);obtain ⟨E,rfl,eE,E1,E2,fE⟩:=hres;simp only [sy.1,rE,reduceIte,rL];apply hn;obtain ⟨lE,hlE⟩: ∃lE,lE=(List.range w.m.W).map fun c=>w.En G f wd (c+1):=⟨_,rfl⟩;rw [<-hlE] at eE;have llE:lE.length=w.m.W:=by rw [hlE];simp
    have ownE:OwnSl hE hg.n 1 3 (.sl E 0 w.m.W 1) w.m.W (ivs lE):= .inr ⟨E,rfl,E1,E2,eE,by rw [zV,llE];omega⟩;have nE:Nums xt hE (.sl E 0 w.m.W 1) lE:=Nums.own (N:=hg.n) (by rw [llE];exact ownE) (by omega);have bE:=(fE.at_ b (.inl (by omega))).trans e4;have bdE:=his.En_bd hb f wd;refine zY (fun tm=>tm.get 1=some (.ptr h.n 0)/\tm.get 2=some (.ptr (h.n+1) 0)/\tm.get 5=some (.ptr p5 0)/\tm.get 7=some (.ptr p7 0)/\tm.get 8=some (.sl U 0 (w.m.cells.length+1) 1)/\tm.get 10=some (.ptr b (k*3))/\tm.get 11=some (.sl E 0 w.m.W 1)/\tm.get 36=some (iv (w.bnds w.m.cells.length).length)/\tm.get 37=some (iv k)) ⟨by simp [xZZ,g1],by simp [xZZ,g2],by simp [xZZ,g5],by simp [xZZ,g7],by simp [xZZ,g8],by simp [xZZ],by simp [xZZ],by simp [xZZ,g36],by simp [xZZ,g37]⟩ fun tm ht9=> ?_;clear g1 g2 g5 g7 g8 g36 g37;obtain ⟨g1,g2,g5,g7,g8,g10,g11,g36,g37⟩:=ht9;apply qA;intro K hn hp;simp only [sy.1,rE,reduceIte,rL,g10,g11];refine cAS (xYW (steps_c xt hE (.sl E 0 w.m.W 1) lE nE (by omega) (fun x hx=>by
     rw [hlE] at hx;obtain ⟨c,_,rfl⟩:=xZQ.1 hx;have:=bdE (c+1);omega)) fun res hS hres=> ?_)
    obtain ⟨z,rfl,oz,fS⟩:=hres;have e0:w.En G f wd 0=0:=his.En_zero G hw1 hf;have edif:dif 0 lE=dfl (w.En G f wd) w.m.W:=by
     have:=dif_F (w.En G f wd) w.m.W;rw [e0] at this;rw [hlE];exact this
    rw [edif,llE] at oz;have oz1:=oz.one;have oz2:=oz.cells;have bS:=(fS.at_ b (.inl (by have:=fE.le;omega))).trans bE;have hlb:k*3+2+1<=(flB es).length:=by rw [flB_len,pb.len];omega
    simp only [sw.1,rE,reduceIte,rL,syw.1,syb.down,bS,hlb,oz1,oz2];have hput:(flB es).take (k*3+2)++[z]++(flB es).drop (k*3+3)=flB (es.set k (e.1,e.2.1,z)):=by
     have e2:=flB_set he z;rw [xXY,if_pos (by omega)] at e2;rw [xYO,List.singleton_append,e2]
    obtain ⟨es',hes⟩: ∃es',es'=es.set k (e.1,e.2.1,z):=⟨_,rfl⟩;rw [hput,<-hes];apply hn;obtain ⟨hT,hhT⟩: ∃hT:Hp,hT=hS.set b (.cells (flB es') 117):=⟨_,rfl⟩;rw [<-hhT];have nT:hT.n=hS.n:=by rw [hhT];rfl
    have bT:hT.t.get b=some (.cells (flB es') 117):=by rw [hhT,xZT,xZZ,if_pos rfl]
    have kT: ∀x,x≠b->hT.t.get x=hS.t.get x:=fun x hx=>by rw [hhT,xZT,xZZ,if_neg hx]
    have lE0:=fE.le;have lS0:=fS.le;have fgS:Fr hg.n hg hS:=fE.trans fS (by omega);have fT5:Fr h5.n h5 hT:=by rw [hhT];exact (fg.trans fgS (by omega)).set hb1 (by omega) _
    have kgT: ∀x,x<hg.n->x≠b->hT.t.get x=hg.t.get x:=fun x h1 h2=>(kT x h2).trans (fgS.at_ x (.inl h1));clear hhT;have hke:=(xZV.1 he).1;have he':es'[k]? =some (e.1,e.2.1,z):=by rw [hes,xYP,if_pos rfl,if_pos hke]
    obtain ⟨q1',q2',_⟩:=qCT he';simp only [a1,a2] at q1' q2';have uT:=(kgT U (by omega) (fun q=>hnu eb q.symm)).trans ug;have eT:=(kT E (by omega)).trans ((fS.at_ E (.inl E2)).trans eE);have wfw:IntKind.i64.wrap ((f:Int)+(wd:Int))=((f+wd:Nat):Int):=by rw [qG _ (by omega) (by omega)];omega
    have wf1:IntKind.i64.wrap ((f:Int) - 1)=(f:Int) - 1:=qG _ (by omega) (by omega);have mf1:max (0:Int) ((f:Int) - 1)=((f - 1:Nat):Int):=by omega
    refine zM (sok xt) 9 (by kernel_rfl) fun K hn hp=> ?_;simp only [sy.1,rE,reduceIte,rL,syw.1,syb.down,g10,bT,q1',q2',wfw];apply hn;have ubd:=uTo_bd his hb k (by omega);obtain ⟨m,hm⟩: ∃m,m=max ((w.uTo G k).getD f 0) ((w.uTo G k).getD (f - 1) 0):=⟨_,rfl⟩;have x1:=qAd (b:=U) (n:=w.m.cells.length+1) (j:=f) (by omega);have x2:=qAd (b:=U) (n:=w.m.cells.length+1) (j:=f - 1) (by omega);have x3:=zW (l:=w.uTo G k) (j:=f) (by omega);have x4:=zW (l:=w.uTo G k) (j:=f - 1) (by omega);have hlf:f+1<=(ivs (w.uTo G k)).length:=by rw [zV];omega
    have hput1:=qAC (w.uTo G k) (j:=f) (by omega) m;refine zM (sok xt) 23 (by kernel_rfl) fun K hn hp=> ?_;simp only [sw.1,rE,reduceIte,rL,syw.1,syb.down,g8,g10,bT,q1',uT,wf1,mf1,x1,x2,x3,x4,hlf,<-hm];rw [hput1];obtain ⟨u1,hu1⟩: ∃u1,u1=(w.uTo G k).set f m:=⟨_,rfl⟩;rw [<-hu1];apply hn;obtain ⟨hV,hhV⟩: ∃hV:Hp,hV=hT.set U (.cells (ivs u1) 3):=⟨_,rfl⟩;rw [<-hhV];have nV:hV.n=hT.n:=by rw [hhV];rfl
    have uV:hV.t.get U=some (.cells (ivs u1) 3):=by rw [hhV,xZT,xZZ,if_pos rfl]
    have kV: ∀x,x≠U->hV.t.get x=hT.t.get x:=fun x hx=>by rw [hhV,xZT,xZZ,if_neg hx]
    have fV5:Fr h5.n h5 hV:=by rw [hhV];exact fT5.set (by omega) (by omega) _
    clear hhV;have bV:=(kV b (hnu eb)).trans bT;have eV:=(kV E (by omega)).trans eT;have l1u:u1.length=w.m.cells.length+1:=by rw [hu1,xZK];exact hlu
    have y1:u1.getD f 0=m:=by rw [hu1,vW _ (by omega),if_pos rfl]
    have eW:w.En G f wd w.m.W=w.bb G f wd:=his.En_all G hw1 hf;have W1:=his.m.c0;have bb0:=bb_bd his hb f wd;have z1:=ubd f;have z2:=ubd (f - 1);have x5:=qAd (b:=U) (n:=w.m.cells.length+1) (j:=f+wd) (by omega);have x6:=zW (l:=u1) (j:=f+wd) (by omega);have x7:=zW (l:=u1) (j:=f) (by omega);rw [y1] at x7;have wW:IntKind.i64.wrap ((w.m.W:Int) - 1)=((w.m.W - 1:Nat):Int):=by rw [qG _ (by omega) (by omega)];omega
    have x8:=qAd (b:=E) (n:=w.m.W) (j:=w.m.W - 1) (by omega);have x9:=zW (l:=lE) (j:=w.m.W - 1) (by omega);have e9:lE.getD (w.m.W - 1) 0=w.bb G f wd:=by
     rw [hlE,xZW,xZU,xZJ (by omega),<-eW];simp only [xYJ,xYN];rw [show w.m.W - 1+1=w.m.W by omega]
    rw [e9] at x9;have wmb:IntKind.i64.wrap (m+w.bb G f wd)=m+w.bb G f wd:=qG _ (by omega) (by omega);have lenE: ∀h':Hp,zA tb h' 75 (.sl E 0 w.m.W 1)=some w.m.W:=fun h'=>by rw [zA,yG];rfl
    have hlw:f+wd+1<=(ivs u1).length:=by rw [zV];omega
    have hput2:=qAC u1 (j:=f+wd) (by omega) (max (u1.getD (f+wd) 0) (m+w.bb G f wd));have eStep:w.uTo G (k+1)=u1.set (f+wd) (max (u1.getD (f+wd) 0) (m+w.bb G f wd)):=by
     rw [qCi G hx,uY,<-hm,<-hu1,y1]
    rw [<-eStep] at hput2;refine zY (fun tm=>tm.get 1=some (.ptr h.n 0)/\tm.get 2=some (.ptr (h.n+1) 0)/\tm.get 5=some (.ptr p5 0)/\tm.get 7=some (.ptr p7 0)/\tm.get 8=some (.sl U 0 (w.m.cells.length+1) 1)/\tm.get 10=some (.ptr b (k*3))/\tm.get 11=some (.sl E 0 w.m.W 1)/\tm.get 12=some (iv ((f+wd:Nat):Int))/\tm.get 36=some (iv (w.bnds w.m.cells.length).length)/\tm.get 37=some (iv k)) ⟨by simp [xZZ,g1],by simp [xZZ,g2],by simp [xZZ,g5],by simp [xZZ,g7],by simp [xZZ,g8],by simp [xZZ,g10],by simp [xZZ,g11],by simp [xZZ],by simp [xZZ,g36],by simp [xZZ,g37]⟩ fun tm ht9=> ?_;clear g1 g2 g5 g7 g8 g10 g11 g36 g37;obtain ⟨g1,g2,g5,g7,g8,g10,g11,g12,g36,g37⟩:=ht9;refine regD (sok xt) 22 (by kernel_rfl) fun K hn hp=> ?_;simp only [sw.1,rE,reduceIte,rL,syw.1,syb.down,g8,g10,g11,uV,bV,eV,g12,q1',x1,x5,x6,x7,x8,x9,wW,wmb,lenE,hlw];rw [hput2];refine hn _ _ (B1 _ ?_);obtain ⟨hW,hhW⟩: ∃hW:Hp,hW=hV.set U (.cells (ivs (w.uTo G (k+1))) 3):=⟨_,rfl⟩;rw [<-hhW];have nW:hW.n=hV.n:=by rw [hhW];rfl
    have uW:hW.t.get U=some (.cells (ivs (w.uTo G (k+1))) 3):=by rw [hhW,xZT,xZZ,if_pos rfl]
    have kW: ∀x,x≠U->hW.t.get x=hV.t.get x:=fun x hx=>by rw [hhW,xZT,xZZ,if_neg hx]
    have fW5:Fr h5.n h5 hW:=by rw [hhW];exact fV5.set (by omega) (by omega) _
    clear hhW;refine reg fun K hn hp=> ?_;simp only [sy.1,rE,reduceIte,rL,g37,qF hk (show (w.bnds w.m.cells.length).length<=9223372036854775807 by omega)];apply hn;refine ⟨⟨k+1,hW,es',_,rfl,by omega,(by simp [xZZ,g1]),(by simp [xZZ,g2]),(by simp [xZZ,g5]),(by simp [xZZ,g7]),(by simp [xZZ,g8]),(by simp [xZZ,g36]),(by simp [xZZ]),fW5,by omega,fun x h1 h2 h3=> ?_,uW,.inr ⟨b,by rw [eb,hes,xZK],hb1,by omega,(kW b (hnu eb)).trans bV,flB_len _⟩,?_⟩,by simpa [xZZ,muA] using (by omega:(w.bnds w.m.cells.length).length - (k+1)<(w.bnds w.m.cells.length).length - k)⟩
    ·have hxb:x≠b:=fun q=>h3 _ _ _ (by rw [q];exact eb);exact (kW x h2).trans ((kV x h2).trans ((kgT x (by omega) hxb).trans (kg x h1 h2 h3)))
    ·rw [hes];refine PB.done (pb.keep (h':=hW) (by omega) fun x h1 h2=>(kW x (by omega)).trans ((kV x (by omega)).trans (kgT x h2 (by omega)))) he hx ?_;rcases oz with q|⟨b',q1,q2,q3,q4,q5⟩
     ·exact .inl q
     ·exact .inr ⟨b',q1,by omega,by omega,(kW b' (by omega)).trans ((kV b' (by omega)).trans ((kT b' (by omega)).trans q4)),q5⟩
   ·refine jD (by simp only [sy.1,reduceIte,hk]) ?_;refine qL (A2 _ ?_);obtain rfl:k=(w.bnds w.m.cells.length).length:=by omega
    clear hk;rw [uTo_all] at ug hlu;refine zY (fun tm=>tm.get 1=some (.ptr h.n 0)/\tm.get 2=some (.ptr (h.n+1) 0)/\tm.get 5=some (.ptr p5 0)/\tm.get 7=some (.ptr p7 0)/\tm.get 8=some (.sl U 0 (w.m.cells.length+1) 1)) ⟨by simp [xZZ,g1],by simp [xZZ,g2],by simp [xZZ,g5],by simp [xZZ,g7],by simp [xZZ,g8]⟩ fun tm ht9=> ?_;clear g1 g2 g5 g7 g8 g36 g37;obtain ⟨g1,g2,g5,g7,g8⟩:=ht9;apply qB;intro K hn hp;simp only [sy.1,reduceIte,rL,rA,g5,p5g];refine cAS (pC xt hg w (ha5.fr fg (xZY _)) v onev fun m3 hm3=> ?_);simp only [sy.1,rL];apply hn;apply qD;intro KD D1 D2 D3 D4 D5;refine qM (sok xt) (fun st=> ∃(r:Nat) (hJ:Hp) (tm:T AV),st=⟨tm,142,hJ,[]⟩/\r<=w.m.cells.length/\tm.get 1=some (.ptr h.n 0)/\tm.get 2=some (.ptr (h.n+1) 0)/\tm.get 5=some (.ptr p5 0)/\tm.get 7=some (.ptr p7 0)/\tm.get 8=some (.sl U 0 (w.m.cells.length+1) 1)/\tm.get 115=some (iv w.m.cells.length)/\tm.get 116=some (iv r)/\Fr h5.n h5 hJ/\hg.n<=hJ.n/\(∀x,x<hg.n->x≠U->hJ.t.get x=hg.t.get x)/\hJ.t.get U=some (.cells (ivs ((List.range r).foldl qAI (w.uAll G))) 3)) (fun st=>w.m.cells.length - (match st.tm.get 116 with|some (.val (.int _ n))=>n.toNat|_=>0)) ?_ ?_
    ·rintro st ⟨r,hJ,tm,rfl,hkD,g1,g2,g5,g7,g8,g115,g116,fJ,lJ,kJ,uJ⟩;have muD:=g116;have hlr:r<=w.m.cells.length->((List.range r).foldl qAI (w.uAll G)).length=w.m.cells.length+1:=fun q=>fin_bd his hb r q;apply qA;intro K hn hp;simp only [sy.1,rL,qV,g115,g116];apply hn;by_cases hr:r<w.m.cells.length
     ·refine jC (by simp only [sy.1,reduceIte,hr]) ?_;apply qD;intro KB B1 B2 B3 B4 B5;obtain ⟨ur,hur⟩: ∃ur,ur=(List.range r).foldl qAI (w.uAll G):=⟨_,rfl⟩;rw [<-hur] at uJ hlr;have lur:=hlr (by omega);have wr:IntKind.i64.wrap ((r:Int)+1)=((r+1:Nat):Int):=qF hr (by omega);have x1:=qAd (b:=U) (n:=w.m.cells.length+1) (j:=r) (by omega);have x2:=qAd (b:=U) (n:=w.m.cells.length+1) (j:=r+1) (by omega);have x3:=zW (l:=ur) (j:=r) (by omega);have x4:=zW (l:=ur) (j:=r+1) (by omega);have hlw:r+1+1<=(ivs ur).length:=by rw [zV];omega
      have hput:=qAC ur (j:=r+1) (by omega) (max (ur.getD (r+1) 0) (ur.getD r 0));have eF:(List.range (r+1)).foldl qAI (w.uAll G)=ur.set (r+1) (max (ur.getD (r+1) 0) (ur.getD r 0)):=by
       rw [xZC,xYU,<-hur];rfl
      rw [<-eF] at hput;apply qA;intro K hn hp;simp only [sy.1,rE,reduceIte,rL,g116];apply hn;refine regD (sok xt) 14 (by kernel_rfl) fun K hn hp=> ?_;simp only [sw.1,rE,reduceIte,rL,g8,uJ,wr,x1,x2,x3,x4,hlw];rw [hput];refine hn _ _ (B1 _ ?_);obtain ⟨hW,hhW⟩: ∃hW:Hp,hW=hJ.set U (.cells (ivs ((List.range (r+1)).foldl qAI (w.uAll G))) 3):=⟨_,rfl⟩;rw [<-hhW];have nW:hW.n=hJ.n:=by rw [hhW];rfl
      have uW:hW.t.get U=some (.cells (ivs ((List.range (r+1)).foldl qAI (w.uAll G))) 3):=by rw [hhW,xZT,xZZ,if_pos rfl]
      have kW: ∀x,x≠U->hW.t.get x=hJ.t.get x:=fun x hx=>by rw [hhW,xZT,xZZ,if_neg hx]
      have fW5:Fr h5.n h5 hW:=by rw [hhW];exact fJ.set (by omega) (by omega) _
      clear hhW;refine reg fun K hn hp=> ?_;simp only [sy.1,rE,reduceIte,rL,g116,qF hr (show w.m.cells.length<=9223372036854775807 by omega)];apply hn;refine ⟨⟨r+1,hW,_,rfl,by omega,(by simp [xZZ,g1]),(by simp [xZZ,g2]),(by simp [xZZ,g5]),(by simp [xZZ,g7]),(by simp [xZZ,g8]),(by simp [xZZ,g115]),(by simp [xZZ]),fW5,by omega,fun x h1 h2=>(kW x h2).trans (kJ x h1 h2),uW⟩,by simpa [xZZ,muD] using (by omega:w.m.cells.length - (r+1)<w.m.cells.length - r)⟩
     ·refine jD (by simp only [sy.1,reduceIte,hr]) ?_;refine qL (D2 _ ?_);obtain rfl:r=w.m.cells.length:=by omega
      rw [uFin his G] at uJ;obtain ⟨LU,hLU⟩: ∃LU,LU=(List.range (w.m.cells.length+1)).map (w.Un G):=⟨_,rfl⟩;rw [<-hLU] at uJ;have lLU:LU.length=w.m.cells.length+1:=by rw [hLU];simp
      have oU:OwnSl hJ 0 1 3 (.sl U 0 (w.m.cells.length+1) 1) (w.m.cells.length+1) (ivs LU):= .inr ⟨U,rfl,xYT _,by omega,uJ,by rw [zV,lLU];omega⟩;have nU:Nums xt hJ (.sl U 0 (w.m.cells.length+1) 1) LU:=Nums.own (N:=0) (by rw [lLU];exact oU) (by omega);obtain ⟨vs,sl1,sl2⟩:=nU.sub (OwnSl.cap oU) (a:=1) (n:=w.m.cells.length) (by omega);have sl1':=sl_from (sl1 hJ);have el:(LU.drop 1).take w.m.cells.length=(List.range w.m.cells.length).map fun c=>w.Un G (c+1):=by
       rw [hLU,List.range_succ_eq_map,xXX,List.map_map,List.drop_one,List.tail_cons,xYV (by simp)];rfl
      rw [el] at sl2;have u0:w.Un G 0=0:=his.Un_zero G;have bdU:=his.Un_bd hb;have pJ:=(kJ p7 (by omega) (by omega)).trans p7g;have tJ:=(fJ.at_ (h.n+1) (.inl (by omega))).trans x3;apply qA;intro K hn hp;simp only [sy.1,rE,reduceIte,rL,g8,kS,Option.map_none,sl1'];refine cAS (xYW (steps_c xt hJ vs _ sl2 (by simp;omega) (fun x hx=>by
       obtain ⟨c,_,rfl⟩:=xZQ.1 hx;have:=bdU (c+1);omega)) fun res hS hres=> ?_)
      obtain ⟨z,rfl,oz,fS⟩:=hres;have edif:dif 0 ((List.range w.m.cells.length).map fun c=>w.Un G (c+1))=w.prows G:=by
       have:=dif_F (w.Un G) w.m.cells.length;rw [u0] at this;exact this
      rw [edif] at oz;have lpr:(w.prows G).length=w.m.cells.length:=uK _ _;have oz1:=oz.one;have oz2:=oz.cells;have pS:=(fS.at_ p7 (.inl (by omega))).trans pJ;have tS:=(fS.at_ (h.n+1) (.inl (by omega))).trans tJ;simp only [sw.1,rE,reduceIte,rL,rA,rD,syb.down,g7,pS,oz1,oz2];apply hn;obtain ⟨hW,hhW⟩: ∃hW:Hp,hW=hS.set p7 (.cells [z,zb] 91):=⟨_,rfl⟩;have nW:hW.n=hS.n:=by rw [hhW];rfl
      have pW:hW.t.get p7=some (.cells [z,zb] 91):=by rw [hhW,xZT,xZZ,if_pos rfl]
      have kW: ∀x,x≠p7->hW.t.get x=hS.t.get x:=fun x hx=>by rw [hhW,xZT,xZZ,if_neg hx]
      have lS0:=fS.le;have fW5:Fr h5.n h5 hW:=by rw [hhW];exact (fJ.trans fS (by omega)).set (by omega) (by omega) _
      rw [<-hhW];clear hhW;have tW:=(kW (h.n+1) (by omega)).trans tS;have ozW:OwnSl hW hJ.n 1 3 z w.m.cells.length (ivs (w.prows G)):=by
       have o2:OwnSl hS hJ.n 1 3 z w.m.cells.length (ivs (w.prows G)):=by
        have e:((List.range w.m.cells.length).map fun c=>w.Un G (c+1)).length=w.m.cells.length:=by simp
        rw [e] at oz;exact oz
       exact o2.keep (by omega) fun x h1 h2=>kW x (by omega)
      have nz:Nums xt hW z (w.prows G):=Nums.own (N:=hJ.n) (by rw [lpr];exact ozW) (by omega);have sb:=fun j=>qDH (w.Un G) w.m.cells.length j;refine jL (sok xt) 0 0 4 [(0,1)] (by kernel_rfl) fun K hn hp=> ?_;simp only [sy.1,rE,reduceIte,rL,rA,syw.1,syb.down,g7,pW];refine cAS (qDG xt hW z (w.prows G) nz.row nz.lt (fun j hj=>by
       rw [lpr] at hj;have e:=sb j hj;have b1:=bdU j;rw [Wk.prows,e];omega) fun m9 hm9=> ?_)
      rw [xN];simp only [sw.1,rE,reduceIte,rL,rA,syw.1,syb.down,g2,g7,pW,tW,oz1,onb,hm9];obtain ⟨hX,hhX⟩: ∃hX:Hp,hX=(hW.up m9).set (h.n+1) (.cells [z,zb] 91):=⟨_,rfl⟩;have nX:hX.n=m9:=by rw [hhX];rfl
      have tX:hX.t.get (h.n+1)=some (.cells [z,zb] 91):=by rw [hhX,xZT,xZZ,if_pos rfl]
      have kX: ∀x,x≠h.n+1->hX.t.get x=hW.t.get x:=fun x hx=>by rw [hhX,xZT,xZZ,if_neg hx];rfl
      have fXh:Fr h.n h hX:=by rw [hhX];exact ((f5h.trans fW5 (by omega)).up (by omega)).set (by omega) (by simp only [xZP];omega) _
      rw [<-hhX];apply hn;clear hhX;refine qC (end_c2 (v:= .agg [z,zb]) res54 ?_ ⟨fXh,z,zb,w.prows G,w.pbnds G,?_,?_,?_,fun q=>absurd easked q,fun G' _ q=> ?_,OwnSl.cap ozW⟩)
      ·simp only [sy.1,rE,reduceIte,rA,syb.down,g2,tX]
      ·simp [xZZ,easked]
      ·exact Nums.own (N:=hJ.n) (by rw [lpr];exact ozW.keep (by omega) fun x h1 h2=>kX x (by omega)) (by omega)
      ·have kall: ∀x,x<hg.n->x≠U->x≠p7->x≠h.n+1->hX.t.get x=hg.t.get x:=fun x q1 q2 q3 q4=>(kX x q4).trans ((kW x q3).trans ((fS.at_ x (.inl (by omega))).trans (kJ x q1 q2)));have ogX:uD hX h5.n zb es:=by
        rcases og with q|⟨b,q1,q2,q3,q4,q5⟩
        ·exact .inl q
        ·have:=lb q1;exact .inr ⟨b,q1,q2,by omega,(kall b q3 (by omega) (by omega) (by omega)).trans q4,q5⟩
       exact PB.bat his (pb.keep (h':=hX) (by omega) fun x h1 h2=>kall x h2 (by omega) (by omega) (by omega)) ogX
      ·obtain rfl:G=G':=by rw [hb] at q;exact Option.some.inj q
       exact ⟨rfl,rfl⟩
    ·exact ⟨0,hg.up m3,_,rfl,(by omega),(by simp [xZZ,g1]),(by simp [xZZ,g2]),(by simp [xZZ,g5]),(by simp [xZZ,g7]),(by simp [xZZ,g8]),(by simp [xZZ]),(by simp [xZZ]),fg.up (by omega),by simp only [xZP];omega,fun _ _ _=>rfl,ug⟩
  ·exact ⟨0,hB,fr0 (w.bnds w.m.cells.length),_,rfl,(by omega),(by simp [xZZ,g1]),(by simp [xZZ,g2]),(by simp [xZZ,g5]),(by simp [xZZ,g7]),(by simp [xZZ,g8]),(by simp [xZZ]),(by simp [xZZ]),f5B,xZY _,fun _ _ _ _=>rfl,sB,obB,PB.zero⟩
def Wk.oneF (w:Wk) (b:Int×Int×List Int) (x:Nat×Nat):Bool:=decide (b.1=(x.1:Int)) && (decide (b.2.1=(x.2:Int)) && (decide ((b.2.2.length:Int)=(w.m.W:Int)) && okW b.2.2))
def Wk.allF (w:Wk) (bl:List (Int×Int×List Int)) (xs:List (Nat×Nat)):Bool:=decide (bl.length=xs.length) && (List.range xs.length).all fun i=>match bl[i]?,xs[i]? with|some b,some x=>w.oneF b x|_,_=>true
theorem allF_no {w:Wk} {bl:List (Int×Int×List Int)} {xs:List (Nat×Nat)} {i:Nat} {b:Int×Int×List Int} {x:Nat×Nat} (hb:bl[i]? =some b) (hx:xs[i]? =some x) (h:w.oneF b x=false):w.allF bl xs=false:=by
 rw [Wk.allF,xYF,xZB];refine .inr ⟨i,xZS.2 (xZV.1 hx).1,?_⟩;simp only [hb,hx,h];decide
theorem qDc {w:Wk} {bl:List (Int×Int×List Int)} {xs:List (Nat×Nat)} (hl:bl.length=xs.length) (h: ∀i b x,i<xs.length->bl[i]? =some b->xs[i]? =some x->w.oneF b x=true):w.allF bl xs=true:=by
 rw [Wk.allF,decide_eq_true hl,xYL,xZN];intro i hi;have hi:=xZS.1 hi;obtain ⟨b,hb⟩: ∃b,bl[i]? =some b:=⟨_,xZX (by omega)⟩;obtain ⟨x,hx⟩: ∃x,xs[i]? =some x:=⟨_,xZX hi⟩;simp only [hb,hx];exact h i b x hi hb hx
theorem allF_at {w:Wk} {bl:List (Int×Int×List Int)} {xs:List (Nat×Nat)} (h:w.allF bl xs=true) {i:Nat} {x:Nat×Nat} (hx:xs[i]? =some x):bl.length=xs.length/\ ∃b,bl[i]? =some b/\w.oneF b x=true:=by
 rw [Wk.allF,xZO,decide_eq_true_eq,xZN] at h;have hi:=(xZV.1 hx).1;obtain ⟨b,hb⟩: ∃b,bl[i]? =some b:=⟨_,xZX (by omega)⟩;have:=h.2 i (xZS.2 hi);simp only [hb,hx] at this;exact ⟨h.1,b,hb,this⟩
theorem ft120 (xt:Xt):(SE xt).ft.get 120=some Tryz.f120:=by kernel_rfl
theorem qEl:Tryz.f120.results.toList=[.tmp 6]:=by kernel_rfl
theorem oneF_c (xt:Xt) (h:Hp) (w:Wk) (ha:w.At xt h) (his:w.Is) (v:AV) (onev:Go.Ev.one v=true) (b:Int×Int×List Int) (xw:AV) (hb:Nums xt h xw b.2.2) (x:Nat×Nat) (p7 p6:Nat) (l7:p7<h.n) (l6:p6<h.n) (s7:h.t.get p7=some (.cells (w.bc v) 120)) (s6:h.t.get p6=some (.cells [.val (.func (.func 116) #[] #[])] 162))
  {K:KP} (hk: ∀k,h.n<k->K (.ret (.val (.bool (w.oneF b x)))) (h.up k)):FnA (SE xt) 120 [.agg [iv b.1,iv b.2.1,xw],.agg [iv (x.1:Int),iv (x.2:Int),jV],.ptr p7 0,.ptr p6 0] h K:=by
 refine xYB ?_ hk;clear hk K;refine xZD (sok xt) (ft120 xt) rfl 34 rfl ?_;have lenx:=hb.len;obtain ⟨o1,o2,o3,o4,o5⟩:=ha.ones;apply qA;intro K hn hp;simp only [sw.1,rE,reduceIte,rL,rA];obtain ⟨h1,hh1,n1,s1,k1,f1⟩:=vQ h (.cells [iv b.1,iv b.2.1,xw] 117);obtain ⟨h2,hh2,n2,s2,k2,f2⟩:=yJ f1 n1 (.cells [iv (x.1:Int),iv (x.2:Int),jV] 117);simp only [<-hh1,<-hh2];apply hn;clear hh1 hh2;simp only [rA] at n2;have u1:=(k2 h.n (by omega)).trans s1;have u7:=(f2.at_ p7 (.inl l7)).trans s7;have u6:=(f2.at_ p6 (.inl l6)).trans s6;have ha2:=ha.fr f2 (xZY _);have hb2:=hb.fr f2 (xZY _);by_cases d1:b.1=(x.1:Int)
 rotate_left
 ·refine jL (sok xt) 0 0 24 [(14,1),(15,1)] (by kernel_rfl) fun K hn hp=> ?_;simp only [sy.1,rE,reduceIte,rL,rA,syw.1,syb.down,u1,s2,decide_eq_false d1];refine hn _ _ (qC (qH qEl ⟨?_,f2⟩));simp [xZZ,Wk.oneF,d1]
 by_cases d2:b.2.1=(x.2:Int)
 rotate_left
 ·refine jL (sok xt) 0 0 24 [(14,1),(15,1)] (by kernel_rfl) fun K hn hp=> ?_;simp only [sy.1,rE,reduceIte,rL,rA,syw.1,syb.down,u1,s2,decide_eq_true d1,decide_eq_false d2];refine hn _ _ (qC (qH qEl ⟨?_,f2⟩));simp [xZZ,Wk.oneF,d2]
 refine jL (sok xt) 0 0 24 [(14,1),(15,1)] (by kernel_rfl) fun K hn hp=> ?_;simp only [sy.1,rE,reduceIte,rL,rA,syw.1,syb.down,lenx,u1,s2,u7,decide_eq_true d1,decide_eq_true d2];refine cAS (qCe xt h2 w ha2 his v onev fun m3 hm3=> ?_);by_cases d3:(b.2.2.length:Int)=(w.m.W:Int)
 rotate_left
 ·simp only [sy.1,rE,reduceIte,rL,rA,syw.1,lenx,u1,decide_eq_false d3,hm3];refine hn _ _ (qC (qH qEl ⟨?_,f2.up (by omega)⟩));simp [xZZ,Wk.oneF,d3]
 simp only [sy.1,rE,reduceIte,rL,rA,syw.1,syb.down,lenx,u1,u6,decide_eq_true d3,hm3];refine cAS (badw_c xt (h2.up m3) xw b.2.2 (hb2.up (by omega)) fun m4 hm4=> ?_);simp only [xZP] at hm4;simp only [sy.1,rE,reduceIte,rL,xZL,Bool.not_not];refine hn _ _ (qC (qH qEl ⟨?_,f2.up (by omega)⟩));simp [xZZ,Wk.oneF,d1,d2,d3]
theorem ft119 (xt:Xt):(SE xt).ft.get 119=some Tryz.f119:=by kernel_rfl
theorem res119:Tryz.f119.results.toList=[.tmp 6]:=by kernel_rfl
theorem allF_c (xt:Xt) (h:Hp) (w:Wk) (ha:w.At xt h) (his:w.Is) (v:AV) (onev:Go.Ev.one v=true) (vb:AV) (bl:List (Int×Int×List Int)) (hb:BAt xt h vb bl) (zb:AV) (N:Nat) (ob:uD h N zb (fr0 (w.bnds w.m.cells.length))) (p7 p6:Nat) (l7:p7<h.n) (l6:p6<h.n) (s7:h.t.get p7=some (.cells (w.bc v) 120)) (s6:h.t.get p6=some (.cells [.val (.func (.func 116) #[] #[])] 162))
  {K:KP} (hk: ∀k,h.n<k->K (.ret (.val (.bool (w.allF bl (w.bnds w.m.cells.length))))) (h.up k)):FnA (SE xt) 119 [vb,zb,.fn (.func 120) [] [.ptr p7 0,.ptr p6 0]] h K:=by
 refine xYB ?_ hk;clear hk K;refine xZD (sok xt) (ft119 xt) rfl 32 rfl ?_;have lenb:=hb.len;have hlt:=hb.lt;obtain ⟨xs,hxs⟩: ∃xs,xs=w.bnds w.m.cells.length:=⟨_,rfl⟩;rw [<-hxs] at ob ⊢;have lenz: ∀h':Hp,zA tb h' 89 zb=some xs.length:=fun h'=>by
  have:=OwnSl.len ob pN rfl (h':=h');simpa [fr0] using this
 have hd:decide ((bl.length:Int)=(xs.length:Int))=decide (bl.length=xs.length):=decide_eq_decide.2 (by omega);apply qA;intro K hn hp;simp only [sw.1,rL,rA];apply hn;refine jK ?_;by_cases e:bl.length=xs.length
 case neg=>
  apply qA;intro K hn hp;simp only [sy.1,rE,reduceIte,rL,syw.1,lenb,lenz,hd,decide_eq_false e];apply hn;refine qW (by simp only [sy.1,rE,reduceIte]) ?_;apply qB;intro K hn hp;simp only [sy.1,rL];apply hn;refine qQ (qH res119 ⟨?_,xZI (xZY _)⟩);simp [xZZ,Wk.allF,e]
 apply qA;intro K hn hp;simp only [sy.1,rE,reduceIte,rL,syw.1,lenb,lenz,hd,decide_eq_true e];apply hn;refine jB (by simp only [sy.1,rE,reduceIte]) ?_;apply qB;intro K hn hp;simp only [sy.1,rE,reduceIte,rL,syw.1,lenb];apply hn;apply qD;intro KA A1 A2 A3 A4 A5;refine qM (sok xt) (fun st=> ∃(k:Nat) (hg:Hp) (tm:T AV),st=⟨tm,32,hg,[]⟩/\k<=bl.length/\tm.get 0=some (vb)/\tm.get 1=some (zb)/\tm.get 2=some (.fn (.func 120) [] [.ptr p7 0,.ptr p6 0])/\tm.get 15=some (vb)/\tm.get 16=some (iv bl.length)/\tm.get 17=some (iv k)/\Fr h.n h hg/\ ∀i b x,i<k->bl[i]? =some b->xs[i]? =some x->w.oneF b x=true) (fun st=>bl.length - (match st.tm.get 17 with|some (.val (.int _ n))=>n.toNat|_=>0)) ?_ ?_
 ·rintro st ⟨k,hg,tm,rfl,hkA,g0,g1,g2,g15,g16,g17,fg,hall⟩;have muA:=g17;apply qA;intro K hn hp;simp only [sy.1,rL,qV,g16,g17];apply hn;have lg:=fg.lo;by_cases hk:k<bl.length
  ·refine jC (by simp only [sy.1,reduceIte,hk]) ?_;obtain ⟨b,hbk⟩: ∃b,bl[k]? =some b:=⟨_,xZX hk⟩;obtain ⟨x,hx⟩: ∃x,xs[k]? =some x:=⟨_,xZX (by omega)⟩;obtain ⟨p,p0,p1,p2,xw,⟨i1,_,_,_⟩,hld⟩:=hb.at_ k b hbk;obtain ⟨⟨l1,_,_,_⟩,hnx,_⟩:=hld hg fg;have hfx:(fr0 xs)[k]? =some ((x.1:Int),(x.2:Int),jV):=by rw [fr0,xZU,hx];rfl
   obtain ⟨bb,⟨_,_,hbb,_⟩,j1,j2⟩:=OwnSl.elt ob hfx xt;have onx:=hnx.one;apply qD;intro KB B1 B2 B3 B4 B5;apply qA;intro K hn hp;simp only [sw.1,rE,reduceIte,rL,rA,syb.down,g15,g17,i1,l1,onx];obtain ⟨h3,hh3,n3,s3,k3,f3⟩:=nsE hg (.cells [iv 0,iv 0,jV] 117) (.cells [iv b.1,iv b.2.1,xw] 117);rw [<-hh3];apply hn;clear hh3;have m1:zI 3 (h3.t.get bb) (k*3)=some (.agg [iv (x.1:Int),iv (x.2:Int),jV]):=by
    rw [<-ld118 xt h3 bb (k*3)];exact (j2 h3 ((f3.at_ bb (.inl (by omega))).trans (fg.at_ bb (.inl hbb)))).1
   apply qA;intro K hn hp;simp only [sw.1,rE,reduceIte,rL,rA,syb.down,g1,j1,m1];obtain ⟨h4,hh4,n4,s4,k4,f4⟩:=nsE h3 (.cells [iv 0,iv 0,jV] 117) (.cells [iv (x.1:Int),iv (x.2:Int),jV] 117);rw [<-hh4];apply hn;clear hh4;have s3':=(k4 hg.n (by omega)).trans s3;have fgh4:Fr hg.n hg h4:=f3.trans f4 (by omega);have fh4:Fr h.n h h4:=fg.trans fgh4 (by omega);rw [n3] at s4 n4;apply qA;intro K hn hp;simp only [sy.1,rE,reduceIte,rL,rA,syb.down,g2,s3',s4,n3];refine vE (sok xt) (oneF_c xt h4 w (ha.fr fh4 (xZY _)) his v onev b xw (hnx.fr fgh4 (xZY _)) x p7 p6 (by omega) (by omega) ((fh4.at_ p7 (.inl l7)).trans s7) ((fh4.at_ p6 (.inl l6)).trans s6) fun m5 hm5=> ?_);cases q:w.oneF b x
   ·simp only [sy.1,rE,reduceIte,rL];apply hn;refine wcT (by simp only [sy.1,rE,reduceIte]) ?_;apply qA;intro K hn hp;simp only [sy.1,rL];apply hn;refine qC (B4 _ (A4 _ (qH res119 ⟨?_,fh4.up (by omega)⟩)));simp [xZZ,allF_no hbk hx q]
   ·simp only [sy.1,rE,reduceIte,rL];apply hn;refine wcF (by simp only [sy.1,rE,reduceIte]) ?_;refine qR (B1 _ ?_);refine reg fun K hn hp=> ?_;simp only [sy.1,rE,reduceIte,rL,g17,qF hk hlt];apply hn;refine ⟨⟨k+1,h4.up m5,_,rfl,by omega,(by simp [xZZ,g0]),(by simp [xZZ,g1]),(by simp [xZZ,g2]),(by simp [xZZ,g15]),(by simp [xZZ,g16]),(by simp [xZZ]),fh4.up (by omega),fun i b' x' hi hb' hx'=> ?_⟩,by simpa [xZZ,muA] using (by omega:bl.length - (k+1)<bl.length - k)⟩;by_cases ei:i=k
    ·subst ei;rw [hbk] at hb';cases hb';rw [hx] at hx';cases hx';exact q
    ·exact hall i b' x' (by omega) hb' hx'
  ·refine jD (by simp only [sy.1,reduceIte,hk]) ?_;refine qL (A2 _ ?_);obtain rfl:k=bl.length:=by omega
   apply qA;intro K hn hp;simp only [sy.1,rL];apply hn;refine qC (qH res119 ⟨?_,fg⟩);simp [xZZ,qDc e fun i b x hi=>hall i b x (by omega)]
 ·exact ⟨0,h,_,rfl,(by omega),(by simp [xZZ]),(by simp [xZZ]),(by simp [xZZ]),(by simp [xZZ]),(by simp [xZZ]),(by simp [xZZ]),xZI (xZY _),fun i b x hi=>absurd hi (by omega)⟩
def Wk.isP (w:Wk) (rl:List Int) (bl:List (Int×Int×List Int)):Bool:=decide ((rl.length:Int)=(w.m.cells.length:Int)) && (okW rl && w.allF bl (w.bnds w.m.cells.length))
theorem ft59 (xt:Xt):(SE xt).ft.get 59=some Tryz.f59:=by kernel_rfl
theorem res59:Tryz.f59.results.toList=[.tmp 4]:=by kernel_rfl
theorem risP_c (xt:Xt) (h:Hp) (w:Wk) (ha:w.At xt h) (his:w.Is) (vr vb:AV) (rl:List Int) (bl:List (Int×Int×List Int)) (hr:Nums xt h vr rl) (hb:BAt xt h vb bl) {K:KP} (hk: ∀k,h.n<k->K (.ret (.val (.bool (w.isP rl bl)))) (h.up k)):FnA (SE xt) 59 [w.av,.agg [vr,vb]] h K:=by
 refine xYB ?_ hk;clear hk K;refine xZD (sok xt) (ft59 xt) rfl 75 rfl ?_;obtain ⟨o1,o2,o3,o4,o5⟩:=ha.ones;have n1':=hr.len;have n3':=hb.len;apply qA;intro K hn hp;simp only [sw.1,rE,reduceIte,rL];obtain ⟨h1,hh1,n1,s1,k1,f1⟩:=vQ h (.cells w.cs 30);obtain ⟨h2,hh2,n2,s2,k2,f2⟩:=yJ f1 n1 (.cells [vr,vb] 91);simp only [<-hh1,<-hh2];apply hn;clear hh1 hh2;simp only [rA] at n2;have u2:=(k2 h.n (by omega)).trans s1;have ha2:=ha.fr f2 (xZY _);apply qA;intro K hn hp;simp only [sy.1,rE,reduceIte,rL,rA,u2];refine cAS (xYW (rframe_c xt h2 w ha2 his) fun res h3 hres=> ?_);obtain ⟨zb,rfl,ob,f3,lt3⟩:=hres;simp only [sy.1,rE,reduceIte,rL];apply hn;obtain ⟨xs,hxs⟩: ∃xs,xs=w.bnds w.m.cells.length:=⟨_,rfl⟩;have eisP:w.isP rl bl=(decide ((rl.length:Int)=(w.m.cells.length:Int)) && (okW rl && w.allF bl xs)):=by rw [hxs];rfl
 rw [eisP];have hxl:xs.length<=1000:=by
  have:=xZ his w.m.cells.length;have:=his.m.r6;rw [hxs];omega
 rw [<-hxs] at ob;have lenz: ∀h':Hp,zA tb h' 89 zb=some xs.length:=fun h'=>by
  have:=OwnSl.len ob pN rfl (h':=h');simpa [fr0] using this
 have f3h:=f2.trans f3 (by omega);have u3:=(f3.at_ h.n (.inl (by omega))).trans u2;have v3:=(f3.at_ (h.n+1) (.inl (by omega))).trans s2;have ha3:=ha.fr f3h (xZY _);have hr3:=hr.fr f3h (xZY _);have hb3:=hb.fr f3h (xZY _);have hd:decide ((bl.length:Int)=(xs.length:Int))=decide (bl.length=xs.length):=decide_eq_decide.2 (by omega);clear hxs eisP;refine zY (fun tm=>tm.get 2=some (.ptr h.n 0)/\tm.get 3=some (.ptr (h.n+1) 0)/\tm.get 5=some zb) ⟨by simp [xZZ],by simp [xZZ],by simp [xZZ]⟩ fun tm ht=> ?_;obtain ⟨g2,g3,g5⟩:=ht;refine jK ?_;refine jL (sok xt) 0 0 19 [(1,1),(2,1)] (by kernel_rfl) fun K hn hp=> ?_;simp only [sy.1,rE,reduceIte,rL,rA,rD,syw.1,syb.down,n1',u3,v3,g2,g3];refine cAS (pO xt h3 w.m ha3.m fun m4 hm4=> ?_);by_cases d1:(rl.length:Int)=(w.m.cells.length:Int)
 rotate_left
 ·simp only [sy.1,rE,reduceIte,rL,rA,syw.1,n1',v3,decide_eq_false d1,hm4];apply hn;refine qW (by simp only [sy.1,rE,reduceIte]) ?_;apply qB;intro K hn hp;simp only [sy.1,rL];apply hn;refine qQ (qH res59 ⟨?_,f3h.up (by omega)⟩);simp [xZZ,d1]
 simp only [sy.1,rE,reduceIte,rL,rA,syw.1,syb.down,v3,g3,decide_eq_true d1,hm4];refine cAS (qCn xt (h3.up m4) vr rl (hr3.up (by omega)) fun m5 hm5=> ?_);simp only [xZP] at hm5;cases d2:okW rl
 ·simp only [sy.1,rE,reduceIte,rL,rA,syw.1,n1',v3,hm5,xZL];apply hn;refine qW (by simp only [sy.1,rE,reduceIte]) ?_;apply qB;intro K hn hp;simp only [sy.1,rL];apply hn;refine qQ (qH res59 ⟨?_,f3h.up (by omega)⟩);simp [xZZ,d1,d2]
 by_cases d3:bl.length=xs.length
 rotate_left
 ·simp only [sy.1,rE,reduceIte,rL,rA,syw.1,syb.down,n1',n3',v3,lenz,hd,g3,g5,decide_eq_false d3,hm5,xZL];apply hn;refine qW (by simp only [sy.1,rE,reduceIte]) ?_;apply qB;intro K hn hp;simp only [sy.1,rL];apply hn;refine qQ (qH res59 ⟨?_,f3h.up (by omega)⟩);simp [xZZ,d1,Wk.allF,d3]
 simp only [sy.1,rE,reduceIte,rL,rA,syw.1,syb.down,n1',n3',v3,lenz,hd,g3,g5,decide_eq_true d3,hm5,xZL];apply hn;refine jB (by simp only [sy.1,rE,reduceIte]) ?_;apply qB;intro K hn hp;simp only [sy.1,rL];apply hn;apply qD;intro KA A1 A2 A3 A4 A5;refine qM (sok xt) (fun st=> ∃(k:Nat) (hg:Hp) (tm:T AV),st=⟨tm,75,hg,[]⟩/\k<=xs.length/\tm.get 2=some (.ptr h.n 0)/\tm.get 3=some (.ptr (h.n+1) 0)/\tm.get 5=some (zb)/\tm.get 6=some (iv k)/\Fr h3.n h3 hg/\ ∀i b x,i<k->bl[i]? =some b->xs[i]? =some x->w.oneF b x=true) (fun st=>xs.length - (match st.tm.get 6 with|some (.val (.int _ n))=>n.toNat|_=>0)) ?_ ?_
 ·rintro st ⟨k,hg,tm,rfl,hkA,g2,g3,g5,g6,fg,hall⟩;have muA:=g6;have lg:=fg.lo;have fgh:=f3h.trans fg (by omega);have ug:=(fg.at_ h.n (.inl (by omega))).trans u3;have vg:=(fg.at_ (h.n+1) (.inl (by omega))).trans v3;apply qB;intro K hn hp;simp only [sy.1,rE,reduceIte,rL,syw.1,qV,lenz,g5,g6];apply hn;by_cases hk:k<xs.length
  ·refine jC (by simp only [sy.1,rE,reduceIte,hk]) ?_;obtain ⟨b,hbk⟩: ∃b,bl[k]? =some b:=⟨_,xZX (by omega)⟩;obtain ⟨x,hx⟩: ∃x,xs[k]? =some x:=⟨_,xZX hk⟩;obtain ⟨p,p0,q1,q2,xw,⟨i1,_,_,_⟩,hld⟩:=hb3.at_ k b hbk;obtain ⟨⟨l1,_,_,_⟩,hnx,_⟩:=hld hg fg;have hfx:(fr0 xs)[k]? =some ((x.1:Int),(x.2:Int),jV):=by rw [fr0,xZU,hx];rfl
   obtain ⟨bb,⟨_,_,hbb,hbc⟩,j1,j2⟩:=OwnSl.elt ob hfx xt;obtain ⟨c1,c2,_⟩:=qCT hfx;have onx:=hnx.one;have lenx:=hnx.len;apply qD;intro KB B1 B2 B3 B4 B5;apply qA;intro K hn hp;simp only [sw.1,rE,reduceIte,rL,rA,syb.down,g3,g6,vg,i1,l1,onx];obtain ⟨h5,hh5,n5,s5,k5,f5⟩:=nsE hg (.cells [iv 0,iv 0,jV] 117) (.cells [iv b.1,iv b.2.1,xw] 117);rw [<-hh5];apply hn;clear hh5;have bb5:=(f5.at_ bb (.inl (by omega))).trans ((fg.at_ bb (.inl hbb)).trans hbc);have u5:=(f5.at_ h.n (.inl (by omega))).trans ug;have f5h:=fgh.trans f5 (by omega);have hnx5:=hnx.fr f5 (xZY _);have ha5:=ha.fr f5h (xZY _);have stop: ∀(tm:T AV) (m':Nat),h5.n<=m'->w.oneF b x=false->tm.get 4=some (.val (.bool false))->xX (SE xt) Tryz.f59 (fun r h'=>r= .ret (.val (.bool (decide ((rl.length:Int)=(w.m.cells.length:Int)) && (okW rl && w.allF bl xs))))/\Fr h.n h h') .ret ⟨tm,75,h5.up m',[]⟩:=fun tm m' hm' hne g4=>by
    refine qH res59 ⟨?_,f5h.up hm'⟩;simp [g4,allF_no hbk hx hne]
   by_cases e1:b.1=(x.1:Int)
   rotate_left
   ·refine jL (sok xt) 0 0 25 [(20,1),(21,1)] (by kernel_rfl) fun K hn hp=> ?_;simp only [sy.1,rE,reduceIte,rL,rA,syw.1,syb.down,g5,g6,s5,bb5,j1,c1,decide_eq_false e1];apply hn;refine wcT (by simp only [sy.1,rE,reduceIte]) ?_;apply qA;intro K hn hp;simp only [sy.1,rL];apply hn;exact qC (B4 _ (A4 _ (stop _ h5.n (xZY _) (by simp [Wk.oneF,e1]) (by simp [xZZ]))))
   by_cases e2:b.2.1=(x.2:Int)
   rotate_left
   ·refine jL (sok xt) 0 0 25 [(20,1),(21,1)] (by kernel_rfl) fun K hn hp=> ?_;simp only [sy.1,rE,reduceIte,rL,rA,syw.1,syb.down,g5,g6,s5,bb5,j1,c1,c2,decide_eq_true e1,decide_eq_false e2];apply hn;refine wcT (by simp only [sy.1,rE,reduceIte]) ?_;apply qA;intro K hn hp;simp only [sy.1,rL];apply hn;exact qC (B4 _ (A4 _ (stop _ h5.n (xZY _) (by simp [Wk.oneF,e2]) (by simp [xZZ]))))
   refine jL (sok xt) 0 0 25 [(20,1),(21,1)] (by kernel_rfl) fun K hn hp=> ?_;simp only [sy.1,rE,reduceIte,rL,rA,rD,syw.1,syb.down,g2,g5,g6,s5,bb5,u5,j1,c1,c2,lenx,decide_eq_true e1,decide_eq_true e2];refine cAS (qBs xt h5 w.m ha5.m fun m6 hm6=> ?_);by_cases e3:(b.2.2.length:Int)=(w.m.W:Int)
   rotate_left
   ·simp only [sy.1,rE,reduceIte,rL,rA,syw.1,s5,lenx,decide_eq_false e3,hm6];apply hn;refine wcT (by simp only [sy.1,rE,reduceIte]) ?_;apply qA;intro K hn hp;simp only [sy.1,rL];apply hn;exact qC (B4 _ (A4 _ (stop _ m6 (by omega) (by simp [Wk.oneF,e3]) (by simp [xZZ]))))
   simp only [sy.1,rE,reduceIte,rL,rA,syw.1,syb.down,s5,lenx,decide_eq_true e3,hm6];refine cAS (qCn xt (h5.up m6) xw b.2.2 (hnx5.up (by omega)) fun m7 hm7=> ?_);simp only [xZP] at hm7;cases e4:okW b.2.2
   ·simp only [sy.1,rE,reduceIte,rL,xZL];apply hn;refine wcT (by simp only [sy.1,rE,reduceIte]) ?_;apply qA;intro K hn hp;simp only [sy.1,rL];apply hn;exact qC (B4 _ (A4 _ (stop _ m7 (by omega) (by simp [Wk.oneF,e4]) (by simp [xZZ]))))
   simp only [sy.1,rE,reduceIte,rL,xZL];apply hn;refine wcF (by simp only [sy.1,rE,reduceIte]) ?_;refine qR (B1 _ ?_);refine reg fun K hn hp=> ?_;simp only [sy.1,rE,reduceIte,rL,g6,qF hk (show xs.length<=9223372036854775807 by omega)];apply hn;refine ⟨⟨k+1,h5.up m7,_,rfl,by omega,(by simp [xZZ,g2]),(by simp [xZZ,g3]),(by simp [xZZ,g5]),(by simp [xZZ]),(fg.trans f5 (by omega)).up (by omega),fun i b' x' hi hb' hx'=> ?_⟩,by simpa [xZZ,muA] using (by omega:xs.length - (k+1)<xs.length - k)⟩;by_cases ei:i=k
   ·subst ei;rw [hbk] at hb';cases hb';rw [hx] at hx';cases hx';rw [Wk.oneF,decide_eq_true e1,decide_eq_true e2,decide_eq_true e3,e4];rfl
   ·exact hall i b' x' (by omega) hb' hx'
  ·refine jD (by simp only [sy.1,rE,reduceIte,hk]) ?_;refine qL (A2 _ ?_);obtain rfl:k=xs.length:=by omega
   apply qA;intro K hn hp;simp only [sy.1,rL];apply hn;refine qC (qH res59 ⟨?_,fgh⟩);simp [xZZ,d1,d2,qDc d3 hall]
 ·exact ⟨0,h3.up m5,_,rfl,(by omega),(by simp [xZZ,g2]),(by simp [xZZ,g3]),(by simp [xZZ,g5]),(by simp [xZZ]),(xZI (xZY _)).up (by omega),fun i b x hi=>absurd hi (by omega)⟩
theorem end_cm {E:Env} {fn:Func} {K:KP} {tm:T AV} {nt:Nat} {h h':Hp} {mks:List Nat} {t:Tmp} {ty:TypeId} {v:AV} (h1:fn.results.toList=[.cell t ty]) (hd:vD mks h=some h') (h2:qN E.tb E.xt h' ty ((tm.get t).getD default)=some v) (h3:K (.ret v) h'):xX E fn K .ret ⟨tm,nt,h,mks⟩:=by
 refine ⟨h',[v],hd,?_,h3⟩;have e1:(match tm.get t with|some a=>a|none=>default)=(tm.get t).getD default:=by cases tm.get t<;>rfl
 rw [h1];show (match qN E.tb E.xt h' ty (match tm.get t with|some a=>a|none=>default) with|none=>none|some v=>match vI E tm h' [] with|none=>none|some l=>some (v::l))=_;rw [e1,h2];rfl
theorem isEf_sl {t:TypeId} {x:Operand} {lo hi m:Option Operand}:zS (.slice t x lo hi m)=false:=rfl
theorem isRd_sl {t:TypeId} {x:Operand} {lo hi m:Option Operand}:zQ (.slice t x lo hi m)=true:=rfl
theorem isCall_sl {t:TypeId} {x:Operand} {lo hi m:Option Operand}:jG (.slice t x lo hi m)=false:=rfl
def Wk.prv1 (w:Wk) (G:tG) (rl l:List Int) (x:Nat×Nat):Bool:=decide (l.sum<=seg rl x.1 x.2) && (List.range w.m.W).all fun c=>(List.range w.ts.length).all fun k=> !w.sel x.2 (Wk.blkK x.1 c k) || decide (w.lv G (Wk.blkK x.1 c k)<=seg l c x.2)
def Wk.prvs (w:Wk) (G:tG) (rl:List Int) (bl:List (Int×Int×List Int)) (xs:List (Nat×Nat)):Bool:=(List.range xs.length).all fun i=>match bl[i]?,xs[i]? with|some b,some x=>w.prv1 G rl b.2.2 x|_,_=>true
section
variable {w:Wk} {G:tG} {rl l:List Int} {bl:List (Int×Int×List Int)} {xs:List (Nat×Nat)} {i:Nat} {b:Int×Int×List Int} {x:Nat×Nat}
theorem prvs_no (hb:bl[i]? =some b) (hx:xs[i]? =some x) (h:w.prv1 G rl b.2.2 x=false):w.prvs G rl bl xs=false:=by
 rw [Wk.prvs,xZB];refine ⟨i,xZS.2 (xZV.1 hx).1,?_⟩;simp only [hb,hx,h];decide
theorem qFr (h: ∀i b x,i<xs.length->bl[i]? =some b->xs[i]? =some x->w.prv1 G rl b.2.2 x=true):w.prvs G rl bl xs=true:=by
 rw [Wk.prvs,xZN];intro i hi;have hi:=xZS.1 hi;obtain ⟨x,hx⟩: ∃x,xs[i]? =some x:=⟨_,xZX hi⟩;cases hb:bl[i]? with
 |none=>rfl
 |some b=>
  simp only [hx];exact h i b x hi hb hx
theorem prv1_sum (h:seg rl x.1 x.2<l.sum):w.prv1 G rl l x=false:=by
 rw [Wk.prv1,decide_eq_false (by omega)];rfl
theorem prv1_no {c k:Nat} (hc:c<w.m.W) (hk:k<w.ts.length) (hs:w.sel x.2 (Wk.blkK x.1 c k)=true) (h:seg l c x.2<w.lv G (Wk.blkK x.1 c k)):w.prv1 G rl l x=false:=by
 rw [Wk.prv1,xYF,xZB];refine .inr ⟨c,xZS.2 hc,?_⟩;rw [Bool.not_eq_true,xZB];refine ⟨k,xZS.2 hk,?_⟩;rw [hs,decide_eq_false (by omega)];decide
theorem qFs (h: ¬seg rl x.1 x.2<l.sum) (h2: ∀c k,c<w.m.W->k<w.ts.length->w.sel x.2 (Wk.blkK x.1 c k)=true-> ¬seg l c x.2<w.lv G (Wk.blkK x.1 c k)):w.prv1 G rl l x=true:=by
 rw [Wk.prv1,decide_eq_true (by omega),xYL,xZN];intro c hc;rw [xZN];intro k hk;cases q:w.sel x.2 (Wk.blkK x.1 c k)
 ·rfl
 ·have:=h2 c k (xZS.1 hc) (xZS.1 hk) q;rw [decide_eq_true (by omega)];rfl
end
theorem okW_mem {l:List Int} (h:okW l=true) {y:Int} (hy:y∈l):0<=y/\y<=1000000:=by
 have:=xZN.1 h y hy;exact vR.1 this
theorem qEr {l:List Int} (h:okW l=true) (a n:Nat):okW ((l.drop a).take n)=true:=by
 rw [okW,xZN];intro y hy;exact xZN.1 h y (xXJ (xXK hy))
theorem qCD {l:List Int} (h:okW l=true): ∀k,k<=l.length->0<=vG l k/\vG l k<=1000000*(k:Int)
 |0,_=>by simp [vG]
 |k+1,hk=>by
  have ih:=qCD h k (by omega);have e:l.getD k 0∈l:=by
   rw [xZW,xZX (by omega)];exact xYK (by omega)
  have:=okW_mem h e;rw [vG];omega
theorem isP_at {w:Wk} {rl:List Int} {bl:List (Int×Int×List Int)} (h:w.isP rl bl=true):rl.length=w.m.cells.length/\okW rl=true/\ ∀(i:Nat) (b:Int×Int×List Int),bl[i]? =some b-> ∃x,(w.bnds w.m.cells.length)[i]? =some x/\b.1=(x.1:Int)/\b.2.1=(x.2:Int)/\b.2.2.length=w.m.W/\okW b.2.2=true:=by
 simp only [Wk.isP,xZO,decide_eq_true_eq] at h;refine ⟨by omega,h.2.1,fun i b hb=> ?_⟩;have hl:bl.length=(w.bnds w.m.cells.length).length:=by
  have:=h.2.2;rw [Wk.allF,xZO,decide_eq_true_eq] at this;exact this.1
 obtain ⟨x,hx⟩: ∃x,(w.bnds w.m.cells.length)[i]? =some x:=⟨_,xZX (by have:=(xZV.1 hb).1;omega)⟩;obtain ⟨_,b',hb',h1⟩:=allF_at h.2.2 hx;rw [hb] at hb';cases hb';simp only [Wk.oneF,xZO,decide_eq_true_eq] at h1;exact ⟨x,hx,h1.1,h1.2.1,by omega,h1.2.2.2⟩
theorem isP_len {w:Wk} {rl:List Int} {bl:List (Int×Int×List Int)} (h:w.isP rl bl=true):bl.length=(w.bnds w.m.cells.length).length:=by
 simp only [Wk.isP,xZO,decide_eq_true_eq,Wk.allF] at h;exact h.2.2.1
theorem ft122 (xt:Xt):(SE xt).ft.get 122=some Tryz.f122:=by kernel_rfl
theorem res122:Tryz.f122.results.toList=[.cell 4 4]:=by kernel_rfl
theorem proves_c (xt:Xt) (h:Hp) (w:Wk) (his:w.Is) (N M:Nat) (v:AV) (G:tG) (hbd:w.Bd xt h N M v G) (hbn:w.m.bnd=some G) (vr vb:AV) (rl:List Int) (bl:List (Int×Int×List Int)) (hr:Nums xt h vr rl) (cr:yE vr) (hb:BAt xt h vb bl) (hP:w.isP rl bl=true):
  FnA (SE xt) 122 [.agg (w.bc v),.agg [vr,vb]] h (fun res h'=>res= .ret (.val (.bool (w.prvs G rl bl (w.bnds w.m.cells.length))))/\Fr h.n h h'):=by
 refine xZD (sok xt) (ft122 xt) rfl 59 rfl ?_;obtain ⟨o1,o2,o3,o4,o5⟩:=hbd.at_.ones;have onev:=hbd.sg.one;have lenb:=hb.len;have hlt:=hb.lt;have c8:=his.m.c8;have r6:=his.m.r6;obtain ⟨P1,P2,P3⟩:=isP_at hP;have P4:=isP_len hP;have hnb:=xZ his w.m.cells.length;obtain ⟨xs,hxs⟩: ∃xs,xs=w.bnds w.m.cells.length:=⟨_,rfl⟩;rw [<-hxs] at P3 P4 hnb ⊢;apply qA;intro K hn hp;simp only [sw.1,rE,reduceIte,rL];obtain ⟨h1,hh1,n1,s1,k1,f1⟩:=vQ h (.cells (w.bc v) 120);obtain ⟨h2,hh2,n2,s2,k2,f2⟩:=yJ f1 n1 (.cells [vr,vb] 91);obtain ⟨h3,hh3,n3,s3,k3,f3⟩:=yJ f2 n2 (.cells [.val (.bool false)] 4);simp only [<-hh1,<-hh2,<-hh3];apply hn;clear hh1 hh2 hh3;simp only [rA] at n2 n3 s3 k3;have u3:=(k3 h.n (by omega)).trans ((k2 h.n (by omega)).trans s1);have v3:=(k3 (h.n+1) (by omega)).trans s2;have hr3:=hr.fr f3 (xZY _);have hb3:=hb.fr f3 (xZY _);have bd3:=hbd.fr f3 (xZY _);refine zY (fun tm=>tm.get 2=some (.ptr h.n 0)/\tm.get 3=some (.ptr (h.n+1) 0)/\tm.get 4=some (.ptr (h.n+2) 0)) ⟨by simp [xZZ],by simp [xZZ],by simp [xZZ]⟩ fun tm ht=> ?_;obtain ⟨g2,g3,g4⟩:=ht;have stop: ∀(tm:T AV) (hx:Hp) (mks:List Nat),tm.get 4=some (.ptr (h.n+2) 0)->hx.t.get (h.n+2)=some (.cells [.val (.bool false)] 4)->Fr h.n h hx->h3.n<=hx.n->Mks h3.n hx mks->w.prvs G rl bl xs=false->xX (SE xt) Tryz.f122 (fun res h'=>res= .ret (.val (.bool (w.prvs G rl bl xs)))/\Fr h.n h h') .ret ⟨tm,59,hx,mks⟩:=by
  intro tm hx mks q4 qx qf ql qm qp;obtain ⟨h9,d1,d2⟩:=qm.del (xZI (h:=hx) ql);have x9:=(d2.at_ (h.n+2) (.inl (by omega))).trans qx;refine end_cm (v:= .val (.bool false)) res122 d1 ?_ ⟨by rw [qp],qf.trans d2 (by omega)⟩;rw [q4];simp only [sy.1,x9]
 apply qB;intro K hn hp;simp only [sy.1,rE,reduceIte,rL,syw.1,syb.down,lenb,g3,v3];apply hn;apply qD;intro KA A1 A2 A3 A4 A5;refine qM (sok xt) (fun st=> ∃(i:Nat) (hg:Hp) (mks:List Nat) (tm:T AV),st=⟨tm,59,hg,mks⟩/\i<=bl.length/\tm.get 2=some (.ptr h.n 0)/\tm.get 3=some (.ptr (h.n+1) 0)/\tm.get 4=some (.ptr (h.n+2) 0)/\tm.get 11=some (vb)/\tm.get 12=some (iv bl.length)/\tm.get 13=some (iv i)/\Fr h3.n h3 hg/\Mks h3.n hg mks/\ ∀i' b x,i'<i->bl[i']? =some b->xs[i']? =some x->w.prv1 G rl b.2.2 x=true) (fun st=>bl.length - (match st.tm.get 13 with|some (.val (.int _ n))=>n.toNat|_=>0)) ?_ ?_
 ·rintro st ⟨i,hg,mks,tm,rfl,hkA,g2,g3,g4,g11,g12,g13,fg,mg,hall⟩;have muA:=g13;have lg:=fg.lo;have fgh:=f3.trans fg (by omega);have ug:=(fg.at_ h.n (.inl (by omega))).trans u3;have vg:=(fg.at_ (h.n+1) (.inl (by omega))).trans v3;have wg:=(fg.at_ (h.n+2) (.inl (by omega))).trans s3;apply qA;intro K hn hp;simp only [sy.1,rL,qV,g12,g13];apply hn;by_cases hi:i<bl.length
  ·refine jC (by simp only [sy.1,reduceIte,hi]) ?_;apply qD;intro KB B1 B2 B3 B4 B5;obtain ⟨b,hbi⟩: ∃b,bl[i]? =some b:=⟨_,xZX hi⟩;obtain ⟨x,hx,e1,e2,e3,e4⟩:=P3 i b hbi;obtain ⟨p,p0,q1,q2,xw,⟨i1,_,_,_⟩,hld⟩:=hb3.at_ i b hbi;obtain ⟨⟨l1,_,_,_⟩,hnx,cx⟩:=hld hg fg;have hx12:=gE his (k:=w.m.cells.length) (f:=x.1) (wd:=x.2) (by rw [hxs] at hx;exact xZH hx);obtain ⟨bf,bw,l⟩:=b;obtain ⟨f,wd⟩:=x;simp only at e1 e2 e3 e4 l1 hnx hx12;subst e1;subst e2;have onx:=hnx.one;apply qA;intro K hn hp;simp only [sw.1,rE,reduceIte,rL,rA,syb.down,g11,g13,i1,l1,onx];obtain ⟨h5,hh5,n5,s5,k5,f5⟩:=nsE hg (.cells [iv 0,iv 0,jV] 117) (.cells [iv (f:Int),iv (wd:Int),xw] 117);rw [<-hh5];apply hn;clear hh5;have u5:=(f5.at_ h.n (.inl (by omega))).trans ug;have v5:=(f5.at_ (h.n+1) (.inl (by omega))).trans vg;have w5:=(f5.at_ (h.n+2) (.inl (by omega))).trans wg;have hr5:=(hr3.fr fg (xZY _)).fr f5 (xZY _);have hn5:=hnx.fr f5 (xZY _);have f35:Fr h3.n h3 h5:=fg.trans f5 (by omega);have m5:Mks h3.n h5 mks:=mg.keep f5.le fun b _ hb=>f5.at_ b (.inl hb);refine zY (fun tm=>tm.get 2=some (.ptr h.n 0)/\tm.get 3=some (.ptr (h.n+1) 0)/\tm.get 4=some (.ptr (h.n+2) 0)/\tm.get 6=some (.ptr hg.n 0)/\tm.get 11=some vb/\tm.get 12=some (iv bl.length)/\tm.get 13=some (iv i)) ⟨by simp [xZZ,g2],by simp [xZZ,g3],by simp [xZZ,g4],by simp [xZZ],by simp [xZZ,g11],by simp [xZZ,g12],by simp [xZZ,g13]⟩ fun tm ht9=> ?_;clear g2 g3 g4 g11 g12 g13;obtain ⟨g2,g3,g4,g6,g11,g12,g13⟩:=ht9;obtain ⟨vs,sl1,sl2⟩:=hr5.sub cr (a:=f) (n:=wd) (by omega);have okR:=qEr P2 f wd;have wfw:IntKind.i64.wrap ((f:Int)+(wd:Int))=((f+wd:Nat):Int):=by rw [qG _ (by omega) (by omega)];omega
   have lR:((rl.drop f).take wd).length<=3:=by rw [xYX];omega
   refine jK ?_;refine jL (sok xt) 0 0 13 [(12,0)] (by kernel_rfl) fun K hn hp=> ?_;simp only [sy.1,rE,reduceIte,rL,rA,syw.1,syb.down,g3,g6,v5,s5,wfw,isEf_sl,isRd_sl,isCall_sl,kS,sl1];refine cAS (qDG xt h5 vs _ sl2.row sl2.lt (fun k hk=>by have:=qCD okR k hk;omega) fun m6 hm6=> ?_);rw [xN];simp only [sy.1,rE,reduceIte,rL,rA,syw.1,syb.down,g6,s5,hm6];refine cAS (qDG xt (h5.up m6) xw l (hn5.up (by omega)).row hn5.lt (fun k hk=>by have:=qCD e4 k hk;omega) fun m7 hm7=> ?_);simp only [xZP] at hm7;rw [xN];have eseg:((rl.drop f).take wd).sum=seg rl f wd:=rfl;rw [eseg];by_cases d1:seg rl f wd<l.sum
   ·simp only [sy.1,rE,reduceIte,rL,xZL,decide_eq_true d1];apply hn;refine qW (by simp only [sy.1,rE,reduceIte]) ?_;apply qB;intro K hn hp;simp only [sw.1,rE,reduceIte,g4,w5];apply hn;refine qQ (B4 _ (A4 _ (stop _ _ mks (by simp [xZZ,g4]) ?_ ?_ ?_ ?_ (prvs_no hbi hx (prv1_sum d1)))))
    ·rw [xZT,xZZ,if_pos rfl]
    ·exact ((f3.trans f35 (by omega)).up (m:=m7) (by omega)).set (by omega) (by simp only [xZP];omega) _
    ·simp only [xYI,xZP];omega
    ·exact m5.keep (by simp only [xYI,xZP];omega) fun b hb _=>by rw [xZT,xZZ,if_neg (by omega)];rfl
   simp only [sy.1,rE,reduceIte,rL,xZL,decide_eq_false d1];apply hn;refine jB (by simp only [sy.1,rE,reduceIte]) ?_;have f37:Fr h3.n h3 (h5.up m7):=f35.up (by omega);apply qA;intro K hn hp;simp only [sy.1,rE,reduceIte,rL,rA,g2,u5];refine cAS (qCe xt (h5.up m7) w (bd3.fr f37 (xZY _)).at_ his v onev fun m8 hm8=> ?_);simp only [xZP] at hm8;simp only [sy.1,rL,xZL];apply hn;refine zY (fun tm=>tm.get 2=some (.ptr h.n 0)/\tm.get 3=some (.ptr (h.n+1) 0)/\tm.get 4=some (.ptr (h.n+2) 0)/\tm.get 6=some (.ptr hg.n 0)/\tm.get 11=some vb/\tm.get 12=some (iv bl.length)/\tm.get 13=some (iv i)/\tm.get 33=some (iv w.m.W)/\tm.get 34=some (iv 0)) ⟨by simp [xZZ,g2],by simp [xZZ,g3],by simp [xZZ,g4],by simp [xZZ,g6],by simp [xZZ,g11],by simp [xZZ,g12],by simp [xZZ,g13],by simp [xZZ],by simp [xZZ]⟩ fun tm ht9=> ?_;clear g2 g3 g4 g6 g11 g12 g13;obtain ⟨g2,g3,g4,g6,g11,g12,g13,g33,g34⟩:=ht9;apply qZ;intro KD D1 D2 D3 D4 D5;refine qM (sok xt) (fun st=> ∃(c:Nat) (hJ:Hp) (mkj:List Nat) (tm:T AV),st=⟨tm,59,hJ,mkj⟩/\c<=w.m.W/\tm.get 2=some (.ptr h.n 0)/\tm.get 3=some (.ptr (h.n+1) 0)/\tm.get 4=some (.ptr (h.n+2) 0)/\tm.get 6=some (.ptr hg.n 0)/\tm.get 11=some (vb)/\tm.get 12=some (iv bl.length)/\tm.get 13=some (iv i)/\tm.get 33=some (iv w.m.W)/\tm.get 34=some (iv c)/\Fr h5.n h5 hJ/\Mks h3.n hJ mkj/\ ∀c' k,c'<c->k<w.ts.length->w.sel wd (Wk.blkK f c' k)=true-> ¬seg l c' wd<w.lv G (Wk.blkK f c' k)) (fun st=>w.m.W - (match st.tm.get 34 with|some (.val (.int _ n))=>n.toNat|_=>0)) ?_ ?_
   ·rintro st ⟨c,hJ,mkj,tm,rfl,hkD,g2,g3,g4,g6,g11,g12,g13,g33,g34,fJ,mJ,hcol⟩;have muD:=g34;have lJ:=fJ.lo;have uJ:=(fJ.at_ h.n (.inl (by omega))).trans u5;have wJ:=(fJ.at_ (h.n+2) (.inl (by omega))).trans w5;have sJ:=(fJ.at_ hg.n (.inl (by omega))).trans s5;apply qA;intro K hn hp;simp only [sy.1,rL,qV,g33,g34];apply hn;by_cases hc:c<w.m.W
    ·refine jC (by simp only [sy.1,reduceIte,hc]) ?_;apply qD;intro KE E1 E2 E3 E4 E5;apply qA;intro K hn hp;simp only [sw.1,rE,reduceIte,rL,g34];obtain ⟨h8,hh8,n8,s8,k8,f8⟩:=nsE hJ (.cells [iv 0] 3) (.cells [iv (c:Int)] 3);rw [<-hh8];apply hn;clear hh8;have u8:=(f8.at_ h.n (.inl (by omega))).trans uJ;have w8:=(f8.at_ (h.n+2) (.inl (by omega))).trans wJ;have x8:=(f8.at_ hg.n (.inl (by omega))).trans sJ;have f58:Fr h5.n h5 h8:=fJ.trans f8 (by omega);have f38:Fr h3.n h3 h8:=f35.trans f58 (by omega);have bd8:w.Bd xt h8 N M v G:=bd3.fr f38 (xZY _);obtain ⟨hw,hhw⟩: ∃hw:Hp,hw=(((h8.new (.cells (w.bc v) 120)).new (.cells [iv (f:Int)] 3)).new (.cells [iv (wd:Int)] 3)).new (.cells [iv (c:Int)] 3):=⟨_,rfl⟩;have nw:hw.n=h8.n+4:=by rw [hhw];rfl
     have b0:hw.t.get h8.n=some (.cells (w.bc v) 120):=by rw [hhw];simp only [Hp.new_t,Hp.new_n];rw [xZZ,if_neg (by omega),xZZ,if_neg (by omega),xZZ,if_neg (by omega),xZZ,if_pos rfl]
     have b1:hw.t.get (h8.n+1)=some (.cells [iv (f:Int)] 3):=by rw [hhw];simp only [Hp.new_t,Hp.new_n];rw [xZZ,if_neg (by omega),xZZ,if_neg (by omega),xZZ,if_pos rfl]
     have b2:hw.t.get (h8.n+2)=some (.cells [iv (wd:Int)] 3):=by rw [hhw];simp only [Hp.new_t,Hp.new_n];rw [xZZ,if_neg (by omega),xZZ,if_pos rfl]
     have b3:hw.t.get (h8.n+3)=some (.cells [iv (c:Int)] 3):=by rw [hhw];simp only [Hp.new_t,Hp.new_n];rw [xZZ,if_pos rfl]
     have fw:Fr h8.n h8 hw:=by rw [hhw];exact ((((xZI (xZY _)).new _).new _).new _).new _
     apply qA;intro K hn hp;simp only [sy.1,rE,reduceIte,rL,rA,syb.down,g2,g6,u8,s8,x8];refine cAS (qC5 xt h8 w bd8.at_ v onev (f:Int) (wd:Int) (c:Int) ?_);rw [<-hhw];simp only [sy.1,rL];apply hn;clear hhw;have f5w:Fr h5.n h5 hw:=f58.trans fw (by omega);have mw:Mks h3.n hw mkj:=mJ.keep (by omega) fun b _ hb=>(fw.at_ b (.inl (by omega))).trans (f8.at_ b (.inl hb));have ww:=(fw.at_ (h.n+2) (.inl (by omega))).trans w8;have xw6:=(fw.at_ hg.n (.inl (by omega))).trans x8;have xw7:=(fw.at_ hJ.n (.inl (by omega))).trans s8;refine zY (fun tm=>tm.get 2=some (.ptr h.n 0)/\tm.get 3=some (.ptr (h.n+1) 0)/\tm.get 4=some (.ptr (h.n+2) 0)/\tm.get 6=some (.ptr hg.n 0)/\tm.get 7=some (.ptr hJ.n 0)/\tm.get 11=some vb/\tm.get 12=some (iv bl.length)/\tm.get 13=some (iv i)/\tm.get 33=some (iv w.m.W)/\tm.get 34=some (iv c)/\tm.get 43=some (.fn (.func 210) [] [.ptr h8.n 0,.ptr (h8.n+1) 0,.ptr (h8.n+3) 0,.ptr (h8.n+2) 0])) ⟨by simp [xZZ,g2],by simp [xZZ,g3],by simp [xZZ,g4],by simp [xZZ,g6],by simp [xZZ],by simp [xZZ,g11],by simp [xZZ,g12],by simp [xZZ,g13],by simp [xZZ,g33],by simp [xZZ,g34],by simp [xZZ]⟩ fun tm ht9=> ?_;clear g2 g3 g4 g6 g11 g12 g13 g33 g34;obtain ⟨g2,g3,g4,g6,g7,g11,g12,g13,g33,g34,g43⟩:=ht9;have next: ∀(hx:Hp) (mks':List Nat),Fr h5.n h5 hx->Mks h3.n hx mks'->(∀k,k<w.ts.length->w.sel wd (Wk.blkK f c k)=true-> ¬seg l c wd<w.lv G (Wk.blkK f c k))->KE .normal ⟨tm,59,hx,mks'⟩:=by
      intro hx mks' q1 q2 q3;refine E1 _ ?_;refine reg fun K hn hp=> ?_;simp only [sy.1,reduceIte,rL,g34,qF hc (show w.m.W<=9223372036854775807 by omega)];apply hn;refine ⟨⟨c+1,hx,mks',_,rfl,by omega,(by simp [xZZ,g2]),(by simp [xZZ,g3]),(by simp [xZZ,g4]),(by simp [xZZ,g6]),(by simp [xZZ,g11]),(by simp [xZZ,g12]),(by simp [xZZ,g13]),(by simp [xZZ,g33]),(by simp [xZZ]),q1,q2,fun c' k h1 h2 h3=> ?_⟩,by simpa [xZZ,muD] using (by omega:w.m.W - (c+1)<w.m.W - c)⟩;by_cases ec:c'=c
      ·subst ec;exact q3 k h2 h3
      ·exact hcol c' k (by omega) h2 h3
     let I:ALoop->Nat->Hp->Prop:=fun rc k h'=>FrM (fun b=>b=hw.n+1) (hw.n+2) (LH hw rc) h'/\h'.t.get (hw.n+1)=some (.loop rc)/\ ∀k',k'<k->w.sel wd (Wk.blkK f c k')=true-> ¬seg l c wd<w.lv G (Wk.blkK f c k')
     let S:ALoop->Ex->Hp->Prop:=fun rc x h'=>x= .ret/\h'.t.get (hw.n+1)=some (.loop (rc.left .ret))/\h'.t.get hw.n=some .deferred/\hw.n+2<=h'.n/\w.prvs G rl bl xs=false/\h'.t.get (h.n+2)=some (.cells [.val (.bool false)] 4)/\Fr h.n h h'/\ ∀b,h3.n<=b->b<hw.n->h'.t.get b=hw.t.get b
     have nHL: ∀rc,(LH hw rc).n=hw.n+2:=fun rc=>rfl;have key: ∀rc k h',I rc k h'->hw.n+2<=h'.n/\Fr h5.n h5 h'/\ ∀b,b<hw.n->h'.t.get b=hw.t.get b:=by
      rintro rc k h' ⟨z1,z2,z3⟩;have nn:=nHL rc;have:=z1.le;refine ⟨by omega,z1.toFr (f5w.trans (gJ hw rc) (by omega)) (by omega) (fun b hb=>by omega),fun b q1=> ?_⟩;rw [z1.get (by omega) (by omega)];exact vV hw rc q1
     apply qZ;intro KF F1 F2 F3 F4 F5;refine kL (sok xt) (g:=210) (xs:=[.yld (hw.n+1),.ptr h8.n 0,.ptr (h8.n+1) 0,.ptr (h8.n+3) 0,.ptr (h8.n+2) 0]) (S:=S) (Z:=fun rc h'=>I rc w.ts.length h') (by simp only [sy.1,g43];rfl) (fun rc c1 c2 c3 c4 c5 c6 c7=> ?_) ?_ ?_
     ·refine qBu xt (LH hw rc) w his N M v G hbn (hw.n+1) h8.n (h8.n+1) (h8.n+3) (h8.n+2) f c wd (I rc) _ ?_ ?_ ?_ ?_ ?_ ?_
      ·exact ⟨FrM.refl (xZY _),LH_l hw rc,fun k' hk'=>absurd hk' (by omega)⟩
      ·intro k h' hI;obtain ⟨q1,q2,q3⟩:=key rc k h' hI;exact ⟨bd3.fr (f35.trans q2 (by omega)) (xZY _),(q3 _ (by omega)).trans b0,(q3 _ (by omega)).trans b1,(q3 _ (by omega)).trans b3,(q3 _ (by omega)).trans b2⟩
      ·intro k h' hI;obtain ⟨q1,q2,q3⟩:=key rc k h' hI;omega
      ·rintro k h' h'' hI f;obtain ⟨q1,q2,q3⟩:=key rc k h' hI;obtain ⟨z1,z2,z3⟩:=hI;exact ⟨z1.fr f (by omega),(f.at_ _ (.inl (by omega))).trans z2,z3⟩
      ·rintro k h' hk hs ⟨z1,z2,z3⟩;refine ⟨z1,z2,fun k' h1 h2=> ?_⟩;by_cases ek:k'=k
       ·subst ek;rw [show w.sel wd (Wk.blkK f c k')=false from hs] at h2;cases h2
       ·exact z3 k' (by omega) h2
      ·intro k hk hs;refine yW (sok xt) (S:=S rc) c1 c2 c3 c4 c5 c6 c7 (fun h' hA=>hA.2.1) (fun h' hA=>⟨_,rfl,?_⟩);have kI:=key rc k h' hA;obtain ⟨z1,z2,z3⟩:=hA;obtain ⟨q1,q2,q3⟩:=kI;refine reg fun K hn hp=> ?_;simp only [sy.1,rE,reduceIte,rL];apply hn;refine ⟨rfl,rfl,rfl,?_⟩;dsimp only;obtain ⟨h7,hh7⟩: ∃h7:Hp,h7=h'.set (hw.n+1) (.loop rc.busy):=⟨_,rfl⟩;rw [<-hh7];have n7:h7.n=h'.n:=by rw [hh7];rfl
       have z5:FrM (fun b=>b=hw.n+1) (hw.n+2) (LH hw rc) h7:=by rw [hh7];exact z1.set (.inr rfl) _
       have z6:h7.t.get (hw.n+1)=some (.loop rc.busy):=by rw [hh7,xZT,xZZ,if_pos rfl]
       have k7: ∀b,b≠hw.n+1->h7.t.get b=h'.t.get b:=fun b hb=>by rw [hh7,xZT,xZZ,if_neg hb]
       have nn:=nHL rc;have f57:Fr h5.n h5 h7:=by rw [hh7];exact q2.set (by omega) (by omega) _
       clear hh7;have y4:=(k7 (h.n+2) (by omega)).trans ((q3 _ (by omega)).trans ww);have y6:=(k7 hg.n (by omega)).trans ((q3 _ (by omega)).trans xw6);have y7:=(k7 hJ.n (by omega)).trans ((q3 _ (by omega)).trans xw7);have yd:h7.t.get hw.n=some .deferred:=(k7 _ (by omega)).trans ((z1.get (by omega) (by omega)).trans (LH_d hw rc));have hn7:=hn5.fr f57 (xZY _);have hin:=(his.selBlk hk hs).2.2.1;obtain ⟨vc,sc1,sc2⟩:=hn7.sub cx (a:=c) (n:=wd) (by omega);have okC:=qEr e4 c wd;have wcw:IntKind.i64.wrap ((c:Int)+(wd:Int))=((c+wd:Nat):Int):=by rw [qG _ (by omega) (by omega)];omega
       have lC:((l.drop c).take wd).length<=3:=by rw [xYX];omega
       refine qZ fun K' k1' k2' k3' k4' k5'=> ?_;apply qA;intro K hn hp;simp only [sy.1,rE,reduceIte,rL,syb.down,g6,g7,y6,y7,wcw,kS,sc1];refine cAS (qDG xt h7 vc _ sc2.row sc2.lt (fun k hk=>by have:=qCD okC k hk;omega) fun m6 hm6=> ?_);rw [xN,show ((l.drop c).take wd).sum=seg l c wd from rfl];have hbk:w.lv G ((f:Int),(c:Int),(k:Int))=w.lv G (Wk.blkK f c k):=rfl;by_cases dc:seg l c wd<w.lv G (Wk.blkK f c k)
       ·simp only [sy.1,rE,reduceIte,rL,hbk,decide_eq_true dc];apply hn;refine wcT (by simp only [sy.1,rE,reduceIte]) ?_;apply qA;intro K hn hp;simp only [sw.1,rE,reduceIte,g4,y4];apply hn;refine qC (k4' _ ⟨rfl,?_,.inr ⟨.ret,rfl,rfl,?_,?_,?_,prvs_no hbi hx (prv1_no hc hk hs dc),?_,?_,fun b h1 h2=> ?_⟩⟩)
        ·rw [xZT,xZZ,if_neg (by omega)];exact z6
        ·rw [xZT,xZZ,if_pos rfl]
        ·rw [xZT,xZZ,if_neg (by omega),xZT,xZZ,if_neg (by omega)];exact yd
        ·simp only [xYI,xZP];omega
        ·rw [xZT,xZZ,if_neg (by omega),xZT,xZZ,if_pos rfl]
        ·exact ((((f3.trans f35 (by omega)).trans f57 (by omega)).up (m:=m6) (by omega)).set (by omega) (by simp only [xZP];omega) _).set (by omega) (by simp only [xYI,xZP];omega) _
        ·rw [xZT,xZZ,if_neg (by omega),xZT,xZZ,if_neg (by omega)];exact (k7 _ (by omega)).trans (q3 _ h2)
       ·simp only [sy.1,rE,reduceIte,rL,hbk,decide_eq_false dc];apply hn;refine wcF (by simp only [sy.1,rE,reduceIte]) ?_;refine qR (k1' _ ⟨rfl,?_,.inl ⟨rfl,?_,?_,fun k' h1 h2=> ?_⟩⟩)
        ·exact z6
        ·exact (z5.up (by omega)).set (.inr rfl) _
        ·rw [xZT,xZZ,if_pos rfl]
        ·by_cases ek:k'=k
         ·subst ek;exact dc
         ·exact z3 k' (by omega) h2
     ·rintro rc h' c1 c2 hI;obtain ⟨q1,q2,q3⟩:=key rc _ h' hI;obtain ⟨z1,z2,z3⟩:=hI;refine ⟨z2,F1 _ (next _ _ (q2.set (by omega) (by omega) _) ?_ (fun k hk hs=>z3 k hk hs))⟩;have hd:h'.t.get hw.n=some .deferred:=(z1.get (by have:=nHL rc;omega) (by omega)).trans (LH_d hw rc);refine Mks.add (mw.keep (by simp only [xYI];omega) fun b h1 h2=> ?_) (by omega) (by simp only [xYI];omega) (by rw [xZT,xZZ,if_neg (by omega)];exact hd) fun hm=> ?_
      ·rw [xZT,xZZ,if_neg (by omega)];exact q3 b h2
      ·have:=(mw.mrk _ hm).2.1;omega
     ·rintro rc x h' ⟨rfl,q1,q2,q3,q4,q5,q6,q7⟩;refine ⟨.ret,rfl,q1,F4 _ (E4 _ (D4 _ (B4 _ (A4 _ (stop _ _ _ g4 ?_ (q6.set (by omega) (by omega) _) (by simp only [xYI];omega) ?_ q4)))))⟩
      ·rw [xZT,xZZ,if_neg (by omega)];exact q5
      ·refine Mks.add (mw.keep (by simp only [xYI];omega) fun b h1 h2=> ?_) (by omega) (by simp only [xYI];omega) (by rw [xZT,xZZ,if_neg (by omega)];exact q2) fun hm=> ?_
       ·rw [xZT,xZZ,if_neg (by omega)];exact q7 b h1 h2
       ·have:=(mw.mrk _ hm).2.1;omega
    ·refine jD (by simp only [sy.1,reduceIte,hc]) ?_;refine qL (D2 _ (B1 _ ?_));obtain rfl:c=w.m.W:=by omega
     refine reg fun K hn hp=> ?_;simp only [sy.1,rE,reduceIte,rL,g13,qF hi hlt];apply hn;refine ⟨⟨i+1,hJ,mkj,_,rfl,by omega,(by simp [xZZ,g2]),(by simp [xZZ,g3]),(by simp [xZZ,g4]),(by simp [xZZ,g11]),(by simp [xZZ,g12]),(by simp [xZZ]),f35.trans fJ (by omega),mJ,fun i' b' x' h1 hb' hx'=> ?_⟩,by simpa [xZZ,muA] using (by omega:bl.length - (i+1)<bl.length - i)⟩;by_cases ei:i'=i
     ·subst ei;rw [hbi] at hb';cases hb';rw [hx] at hx';cases hx';exact qFs d1 fun c k hc hk hs=>hcol c k hc hk hs
     ·exact hall i' b' x' (by omega) hb' hx'
   ·exact ⟨0,h5.up m8,mks,_,rfl,(by omega),(by simp [g2]),(by simp [g3]),(by simp [g4]),(by simp [g6]),(by simp [g11]),(by simp [g12]),(by simp [g13]),(by simp [g33]),(by simp [g34]),(xZI (xZY _)).up (by omega),m5.keep (by simp only [xZP];omega) (fun _ _ _=>rfl),fun c' k h1=>absurd h1 (by omega)⟩
  ·refine jD (by simp only [sy.1,reduceIte,hi]) ?_;refine qL (A2 _ ?_);obtain rfl:i=bl.length:=by omega
   obtain ⟨hq,hhq⟩: ∃hq:Hp,hq=hg.set (h.n+2) (.cells [.val (.bool true)] 4):=⟨_,rfl⟩;have nq:hq.n=hg.n:=by rw [hhq];rfl
   have xq:hq.t.get (h.n+2)=some (.cells [.val (.bool true)] 4):=by rw [hhq,xZT,xZZ,if_pos rfl]
   have fq:Fr h.n h hq:=by rw [hhq];exact fgh.set (by omega) (by omega) _
   have mq:Mks h3.n hq mks:=mg.keep (by omega) fun b hb _=>by rw [hhq,xZT,xZZ,if_neg (by omega)]
   obtain ⟨h9,d1,d2⟩:=mq.del (xZI (h:=hq) (by omega));have x9:=(d2.at_ (h.n+2) (.inl (by omega))).trans xq;apply qA;intro K hn hp;simp only [sw.1,rE,reduceIte,g4,wg,<-hhq];apply hn;clear hhq;refine qC (end_cm (v:= .val (.bool true)) res122 d1 ?_ ⟨?_,fq.trans d2 (by omega)⟩)
   ·simp only [sy.1,rE,reduceIte,g4,x9]
   ·rw [qFr fun i b x hi=>hall i b x (by omega)]
 ·exact ⟨0,h3,[],_,rfl,(by omega),(by simp [xZZ,g2]),(by simp [xZZ,g3]),(by simp [xZZ,g4]),(by simp [xZZ]),(by simp [xZZ]),(by simp [xZZ]),xZI (xZY _),Mks.nil,fun i' b x hi=>absurd hi (by omega)⟩
def Wk.pPrv (w:Wk) (rl:List Int) (bl:List (Int×Int×List Int)):Int×Int:=if w.ok && w.isP rl bl then match w.m.bnd with|none=>(0,7)|some G=>if w.prvs G rl bl (w.bnds w.m.cells.length) then (rl.sum,0) else (0,5) else (0,2)
theorem ft55 (xt:Xt):(SE xt).ft.get 55=some Tryz.f55:=by kernel_rfl
theorem qCv:Tryz.f55.results.toList=[.tmp 4,.tmp 5]:=by kernel_rfl
theorem qDU (xt:Xt) (h:Hp) (w:Wk) (ha:w.At xt h) (vr vb:AV) (rl:List Int) (bl:List (Int×Int×List Int)) (hr:Nums xt h vr rl) (cr:yE vr) (hb:BAt xt h vb bl) (hl8:rl.length<=1000)
  {K:KP} (hk: ∀m,h.n<m->K (.ret (.tup [iv (w.pPrv rl bl).1,iv (w.pPrv rl bl).2])) (h.up m)):FnA (SE xt) 55 [w.av,.agg [vr,vb]] h K:=by
 refine xYB ?_ hk;clear hk K;refine xZD (sok xt) (ft55 xt) rfl 51 rfl ?_;obtain ⟨o1,o2,o3,o4,o5⟩:=ha.ones;have lenr:=hr.len;apply qA;intro K hn hp;simp only [sw.1,rE,reduceIte,rL];obtain ⟨h1,hh1,n1,s1,k1,f1⟩:=vQ h (.cells w.cs 30);obtain ⟨h2,hh2,n2,s2,k2,f2⟩:=yJ f1 n1 (.cells [vr,vb] 91);simp only [<-hh1,<-hh2];apply hn;clear hh1 hh2;simp only [rA] at n2;obtain ⟨h3,hh3,n3,s3,k3,f3⟩:=nsE h2 (.cells [.val .nilFunc] 162) (.cells [.val (.func (.func 116) #[] #[])] 162);have cf:cellsOf (.val (.func (.func 116) #[] #[]))=[.val (.func (.func 116) #[] #[])]:=rfl;apply qA;intro K hn hp;simp only [sw.1,rE,reduceIte,rL,syb.down,cf];rw [<-hh3];apply hn;clear hh3;rw [n2] at s3 n3;have f3h:=f2.trans f3 (by omega);have u3:=(k3 h.n (by omega)).trans ((k2 h.n (by omega)).trans s1);have v3:=(k3 (h.n+1) (by omega)).trans s2;have ha3:=ha.fr f3h (xZY _);refine zY (fun tm=>tm.get 2=some (.ptr h.n 0)/\tm.get 3=some (.ptr (h.n+1) 0)/\tm.get 6=some (.ptr (h.n+2) 0)) ⟨by simp [xZZ],by simp [xZZ],by simp [xZZ,n2]⟩ fun tm ht=> ?_;obtain ⟨g2,g3,g6⟩:=ht;apply qB;intro K hn hp;simp only [sy.1,reduceIte,rL,rA,g2,u3];refine cAS (qAD xt _ w ha3 fun m1 hm1=> ?_);cases e1:w.ok
 ·simp only [sy.1,rE,reduceIte,rL];apply hn;refine qW (by simp only [sy.1,rE,reduceIte]) ?_;apply qB;intro K hn hp;simp only [sy.1,rL];apply hn;refine qQ (qAP qCv ⟨?_,f3h.up (by omega)⟩);simp [xZZ,Wk.pPrv,e1]
 have his:=Wk.ok_is e1;have r6:=his.m.r6;simp only [sy.1,rE,reduceIte,rL];apply hn;refine jB (by simp only [sy.1,rE,reduceIte]) ?_;obtain ⟨h4,hh4,n4,s4,k4,f4⟩:=nsE (h3.up m1) (.cells xR 120) (.cells (w.bc jV) 120);apply qA;intro K hn hp;simp only [sw.1,rE,reduceIte,rL,rA,o1,o2,o3,o4,o5,g2,u3,bd121];change K _ _ (((h3.up m1).new (.cells xR 120)).set (h3.up m1).n (.cells (w.bc jV) 120));rw [<-hh4];apply hn;clear hh4;simp only [xZP] at n4 s4 k4 f4;have f4h:=(f3h.up (m:=m1) (by omega)).trans f4 (by omega);have u4:=(k4 h.n (by omega)).trans u3;have v4:=(k4 (h.n+1) (by omega)).trans v3;have w4:=(k4 (h.n+2) (by omega)).trans s3;have ha4:=ha.fr f4h (xZY _);have hr4:=hr.fr f4h (xZY _);refine zY (fun tm=>tm.get 2=some (.ptr h.n 0)/\tm.get 3=some (.ptr (h.n+1) 0)/\tm.get 6=some (.ptr (h.n+2) 0)/\tm.get 7=some (.ptr m1 0)) ⟨by simp [xZZ,g2],by simp [xZZ,g3],by simp [xZZ,g6],by simp [xZZ]⟩ fun tm ht9=> ?_;clear g2 g3 g6;obtain ⟨g2,g3,g6,g7⟩:=ht9;refine jK ?_;refine jL (sok xt) 0 0 18 [(1,1),(2,1),(14,2),(14,3)] (by kernel_rfl) fun K hn hp=> ?_;simp only [sy.1,rE,reduceIte,rL,rA,syw.1,syb.down,lenr,g3,g7,v4,s4];refine cAS (pC xt h4 w ha4 jV rfl fun m5 hm5=> ?_);by_cases d1:(rl.length:Int)=(w.m.cells.length:Int)
 rotate_left
 ·simp only [sy.1,rE,reduceIte,rL,rA,syw.1,lenr,v4,decide_eq_false d1,hm5];apply hn;refine qW (by simp only [sy.1,rE,reduceIte]) ?_;apply qB;intro K hn hp;simp only [sy.1,rL];apply hn;refine qQ (qAP qCv ⟨?_,f4h.up (by omega)⟩);simp [xZZ,Wk.pPrv,Wk.isP,d1]
 simp only [sy.1,rE,reduceIte,rL,rA,syw.1,syb.down,g3,g6,v4,w4,decide_eq_true d1,hm5];refine cAS (badw_c xt (h4.up m5) vr rl (hr4.up (by omega)) fun m6 hm6=> ?_);simp only [xZP] at hm6;cases d2:okW rl
 ·simp only [sy.1,rE,reduceIte,rL,rA,syw.1,lenr,v4,hm6,xZL];apply hn;refine qW (by simp only [sy.1,rE,reduceIte]) ?_;apply qB;intro K hn hp;simp only [sy.1,rL];apply hn;refine qQ (qAP qCv ⟨?_,f4h.up (by omega)⟩);simp [xZZ,Wk.pPrv,Wk.isP,d2]
 simp only [sy.1,rE,reduceIte,rL,rA,syw.1,syb.down,g3,g7,v4,s4,hm6,xZL];refine cAS (xYW (bands_c xt (h4.up m6) w (ha4.up (by omega)) his jV rfl) fun res h7 hres=> ?_);obtain ⟨zb,rfl,ob,f7,lt7⟩:=hres;simp only [xZP] at ob f7 lt7;have f47:Fr h4.n h4 h7:=((xZI (xZY _)).up (m:=m6) (by omega)).trans f7 (by omega);have u7:=(f47.at_ h.n (.inl (by omega))).trans u4;have v7:=(f47.at_ (h.n+1) (.inl (by omega))).trans v4;have w7:=(f47.at_ (h.n+2) (.inl (by omega))).trans w4;have s7:=(f47.at_ m1 (.inl (by omega))).trans s4;have f7h:=f4h.trans f47 (by omega);have ha7:=ha.fr f7h (xZY _);have hb7:=hb.fr f7h (xZY _);simp only [sy.1,rE,reduceIte,rL,rA,syw.1,syb.down,lenr,g6,g7,v4,v7,qEC,qEA,lt7];refine cAS (allF_c xt h7 w ha7 his jV rfl vb bl hb7 zb _ ob m1 (h.n+2) (by omega) (by omega) s7 w7 fun m8 hm8=> ?_);cases d3:w.allF bl (w.bnds w.m.cells.length)
 ·simp only [sy.1,rE,reduceIte,rL];apply hn;refine qW (by simp only [sy.1,rE,reduceIte]) ?_;apply qB;intro K hn hp;simp only [sy.1,rL];apply hn;refine qQ (qAP qCv ⟨?_,f7h.up (by omega)⟩);simp [xZZ,Wk.pPrv,Wk.isP,d3]
 have hP:w.isP rl bl=true:=by rw [Wk.isP,decide_eq_true d1,d2,d3];rfl
 simp only [sy.1,rE,reduceIte,rL];apply hn;refine jB (by simp only [sy.1,rE,reduceIte]) ?_;refine zY (fun tm=>tm.get 2=some (.ptr h.n 0)/\tm.get 3=some (.ptr (h.n+1) 0)) ⟨by simp [xZZ,g2],by simp [xZZ,g3]⟩ fun tm ht9=> ?_;clear g2 g3 g6 g7;obtain ⟨g2,g3⟩:=ht9;apply qA;intro K hn hp;simp only [sy.1,reduceIte,rL,rA,g2,u7];refine cAS (xYW (qAY xt (h7.up m8) w (ha7.up (by omega)) _ _ his.m) fun res h9 hres=> ?_);obtain ⟨f9,hres⟩:=hres;have low9: ∀k,k<m8->h9.t.get k=h7.t.get k:=fun k hk=>f9.at_ k (.inl hk);have v9:=(low9 (h.n+1) (by omega)).trans v7;have n9:m8<=h9.n:=f9.lo;have f9h:Fr h.n h h9:=(f7h.up (m:=m8) (by omega)).trans f9 (by simp only [xZP];omega);change match w.m.bnd with|some G=>_|none=>_ at hres
 cases hbn:w.m.bnd with
 |none=>
  rw [hbn] at hres;subst hres;simp only [sw.1,rE,reduceIte,rL,rA,sv.1];obtain ⟨hA,hhA,nA,sA,kA,fA⟩:=nsE h9 (.cells xR 120) (.cells xR 120);rw [<-hhA];apply hn;clear hhA;apply qB;intro K hn hp;simp only [sy.1,rE,reduceIte,rL];apply hn;refine qW (by simp only [sy.1,rE,reduceIte,d70]) ?_;apply qB;intro K hn hp;simp only [sy.1,rE,reduceIte,rL];apply hn;refine qQ (qAP qCv ⟨?_,f9h.trans fA (by omega)⟩);simp [xZZ,Wk.pPrv,e1,hP,hbn]
 |some G=>
  rw [hbn] at hres;obtain ⟨v,M,rfl,sg,m1',m2'⟩:=hres;have onev:=sg.one;simp only [sw.1,rE,reduceIte,rL,rA,sv.1,o1,o2,o3,o4,o5,onev];obtain ⟨hA,hhA,nA,sA,kA,fA⟩:=nsE h9 (.cells xR 120) (.cells (w.bc v) 120);rw [<-hhA];apply hn;clear hhA;have fAh:=f9h.trans fA (by omega);have vA:=(kA (h.n+1) (by omega)).trans v9;have sgA:SG hA (h7.up m8).n M v _ _ G:=sg.keep fun k _ hk=>kA k (by omega);have bdA:w.Bd xt hA (h7.up m8).n M v G:=⟨ha.fr fAh (xZY _),sgA,by omega⟩;apply qB;intro K hn hp;simp only [sy.1,rE,reduceIte,rL];apply hn;refine jB (by simp only [sy.1,rE,reduceIte]) ?_;apply qB;intro K hn hp;simp only [sy.1,rE,reduceIte,rL,rA,syb.down,g3,vA,sA];refine cAS (xYW (proves_c xt hA w his _ M v G bdA hbn vr vb rl bl (hr.fr fAh (xZY _)) cr (hb.fr fAh (xZY _)) hP) fun res hB hres=> ?_);obtain ⟨rfl,fB⟩:=hres;have fBh:=fAh.trans fB (by omega);have vB:=(fB.at_ (h.n+1) (.inl (by omega))).trans vA;have hrB:=hr.fr fBh (xZY _);cases d4:w.prvs G rl bl (w.bnds w.m.cells.length)
  ·simp only [sy.1,rE,reduceIte,rL];apply hn;refine qW (by simp only [sy.1,rE,reduceIte]) ?_;apply qB;intro K hn hp;simp only [sy.1,rL];apply hn;refine qQ (qAP qCv ⟨?_,fBh⟩);simp [xZZ,Wk.pPrv,e1,hP,hbn,d4]
  simp only [sy.1,rE,reduceIte,rL];apply hn;refine jB (by simp only [sy.1,rE,reduceIte]) ?_;apply qA;intro K hn hp;simp only [sy.1,rE,reduceIte,rL,syb.down,g3,vB];refine cAS (qDG xt hB vr rl hrB.row hrB.lt (fun k hk=>by have:=qCD d2 k hk;omega) fun mC hmC=> ?_);rw [xN];simp only [sy.1,rE,reduceIte,rL];apply hn;refine qC (qAP qCv ⟨?_,fBh.up (by omega)⟩);simp [xZZ,Wk.pPrv,e1,hP,hbn,d4]
set_option maxHeartbeats 4000000
def frmd (rl:List Int) (bl:List (Int×Int×List Int)):Bool:=((List.range (min bl.length 22)).all fun i=>match bl[i]? with|some b=>decide (b.2.2.length<=10)|none=>true) && (decide (rl.length<=8) && decide (bl.length<=21))
theorem frmd_no {rl:List Int} {bl:List (Int×Int×List Int)} {i:Nat} {b:Int×Int×List Int} (hi:i<22) (hb:bl[i]? =some b) (h:10<b.2.2.length):frmd rl bl=false:=by
 rw [frmd,xYF,xZB];have:=(xZV.1 hb).1;refine .inl ⟨i,xZS.2 (by omega),?_⟩;simp only [hb];rw [decide_eq_false (by omega)];decide
theorem qCQ {rl:List Int} {bl:List (Int×Int×List Int)} (h: ∀i b,i<22->bl[i]? =some b-> ¬10<b.2.2.length):frmd rl bl=(decide (rl.length<=8) && decide (bl.length<=21)):=by
 have:((List.range (min bl.length 22)).all fun i=>match bl[i]? with|some b=>decide (b.2.2.length<=10)|none=>true)=true:=by
  rw [xZN];intro i hi;have hi:=xZS.1 hi;cases hb:bl[i]? with
  |none=>rfl
  |some b=>
   have:=h i b (by omega) hb;exact decide_eq_true (by omega)
 rw [frmd,this,xYL]
theorem ft53 (xt:Xt):(SE xt).ft.get 53=some Tryz.f53:=by kernel_rfl
theorem res53:Tryz.f53.results.toList=[.tmp 2]:=by kernel_rfl
theorem qFL (xt:Xt) (h:Hp) (vr vb:AV) (rl:List Int) (bl:List (Int×Int×List Int)) (hr:Nums xt h vr rl) (hb:BAt xt h vb bl)
  {K:KP} (hk: ∀m,h.n<m->K (.ret (.val (.bool (frmd rl bl)))) (h.up m)):FnA (SE xt) 53 [.agg [vr,vb]] h K:=by
 refine xYB ?_ hk;clear hk K;refine xZD (sok xt) (ft53 xt) rfl 33 rfl ?_;have lenr:=hr.len;have lenb:=hb.len;have hlt:=hb.lt;have d22: ∀i:Nat,decide ((i:Int)<22)=decide (i<22):=fun i=>decide_eq_decide.2 (by omega);have d8:decide ((rl.length:Int)<=8)=decide (rl.length<=8):=decide_eq_decide.2 (by omega);have d21:decide ((bl.length:Int)<=21)=decide (bl.length<=21):=decide_eq_decide.2 (by omega);apply qA;intro K hn hp;simp only [sw.1,reduceIte,rL];obtain ⟨h1,hh1,n1,s1,k1,f1⟩:=vQ h (.cells [vr,vb] 91);simp only [<-hh1];apply hn;clear hh1;have hb1:=hb.fr f1 (xZY _);apply qB;intro K hn hp;simp only [sy.1,rL];apply hn;apply qD;intro KA A1 A2 A3 A4 A5;refine qM (sok xt) (fun st=> ∃(i:Nat) (tm:T AV),st=⟨tm,33,h1,[]⟩/\i<=bl.length/\tm.get 1=some (.ptr h.n 0)/\tm.get 3=some (iv i)/\ ∀i' b,i'<i->bl[i']? =some b-> ¬10<b.2.2.length) (fun st=>bl.length - (match st.tm.get 3 with|some (.val (.int _ n))=>n.toNat|_=>0)) ?_ ?_
 ·rintro st ⟨i,tm,rfl,hkA,g1,g3,hall⟩;have muA:=g3;have last: ∀(tm:T AV),tm.get 1=some (.ptr h.n 0)->frmd rl bl=(decide (rl.length<=8) && decide (bl.length<=21))->KA (.exit 0) ⟨tm,33,h1,[]⟩:=by
   clear g1 g3;intro tm g1 e;refine A2 _ ?_;by_cases q:rl.length<=8
   ·apply qA;intro K hn hp;simp only [sy.1,rE,reduceIte,rL,syw.1,syb.down,lenr,lenb,s1,d8,d21,g1,decide_eq_true q];apply hn;refine qC (qH res53 ⟨?_,f1⟩);simp [xZZ,e,q]
   ·apply qA;intro K hn hp;simp only [sy.1,rE,reduceIte,rL,syw.1,syb.down,lenr,s1,d8,g1,decide_eq_false q];apply hn;refine qC (qH res53 ⟨?_,f1⟩);simp [xZZ,e,q]
  refine jK ?_;by_cases hi:i<bl.length
  ·by_cases h22:i<22
   ·apply qA;intro K hn hp;simp only [sy.1,rE,reduceIte,rL,syw.1,syb.down,lenb,qV,s1,d22,g1,g3,decide_eq_true hi,decide_eq_true h22];apply hn;refine jC (by simp only [sy.1,rE,reduceIte]) ?_;obtain ⟨b,hbi⟩: ∃b,bl[i]? =some b:=⟨_,xZX hi⟩;obtain ⟨p,p0,q1,q2,xw,⟨i1,_,_,i4⟩,hld⟩:=hb1.at_ i b hbi;obtain ⟨⟨_,_,_,l3⟩,hnx,_⟩:=hld h1 (xZI (xZY _));have lenx:=hnx.len;apply qD;intro KB B1 B2 B3 B4 B5;by_cases e:10<b.2.2.length
    ·have d10:decide ((10:Int)<(b.2.2.length:Int))=true:=decide_eq_true (by omega);apply qA;intro K hn hp;simp only [sy.1,rE,reduceIte,rL,syw.1,syb.down,s1,g1,g3,i1,i4,l3,lenx,d10];apply hn;refine wcT (by simp only [sy.1,rE,reduceIte]) ?_;apply qA;intro K hn hp;simp only [sy.1,rL];apply hn;refine qC (B4 _ (A4 _ (qH res53 ⟨?_,f1⟩)));simp [xZZ,frmd_no h22 hbi e]
    ·have d10:decide ((10:Int)<(b.2.2.length:Int))=false:=decide_eq_false (by omega);apply qA;intro K hn hp;simp only [sy.1,rE,reduceIte,rL,syw.1,syb.down,s1,g1,g3,i1,i4,l3,lenx,d10];apply hn;refine wcF (by simp only [sy.1,rE,reduceIte]) ?_;refine qR (B1 _ ?_);refine reg fun K hn hp=> ?_;simp only [sy.1,rE,reduceIte,rL,g3,qF hi hlt];apply hn;refine ⟨⟨i+1,_,rfl,by omega,(by simp [xZZ,g1]),(by simp [xZZ]),fun i' b' h1 hb'=> ?_⟩,by simpa [xZZ,muA] using (by omega:bl.length - (i+1)<bl.length - i)⟩;by_cases ei:i'=i
     ·subst ei;rw [hbi] at hb';cases hb';exact e
     ·exact hall i' b' (by omega) hb'
   ·apply qA;intro K hn hp;simp only [sy.1,rE,reduceIte,rL,syw.1,syb.down,lenb,qV,s1,d22,g1,g3,decide_eq_true hi,decide_eq_false h22];apply hn;refine jD (by simp only [sy.1,rE,reduceIte]) ?_;refine qL (last _ (by simp [xZZ,g1]) (qCQ fun i' b hi hb=>hall i' b (by omega) hb))
  ·apply qA;intro K hn hp;simp only [sy.1,rE,reduceIte,rL,syw.1,syb.down,lenb,qV,s1,g1,g3,decide_eq_false hi];apply hn;refine jD (by simp only [sy.1,rE,reduceIte]) ?_;refine qL (last _ (by simp [xZZ,g1]) (qCQ fun i' b _ hb=>hall i' b (by have:=(xZV.1 hb).1;omega) hb))
 ·exact ⟨0,_,rfl,(by omega),(by simp [xZZ]),(by simp [xZZ]),fun i' b hi=>absurd hi (by omega)⟩
theorem dfl_take (F:Nat->Int) (n k:Nat) (hk:k<=n):(dfl F n).take k=dfl F k:=by
 rw [dfl,dfl,<-List.map_take,List.take_range,Nat.min_eq_left hk]
theorem seg_dfl (F:Nat->Int) (n k:Nat) (hk:k<=n):seg (dfl F n) 0 k=F k - F 0:=by
 rw [seg,List.drop_zero,dfl_take F n k hk,qCd]
end Go.Proofs.Kn
noncomputable section
namespace Go.Proofs.Kn
open Go Go.Ev Go.RowKit Go.ChangeShapes Go.WideShapes Go.ChangeAt
set_option maxRecDepth 100000
theorem und91:Tryz.prog.underlying 89=some (.slice 117):=by kernel_rfl
theorem und93:Tryz.prog.underlying 91=some (.struct (qT 91)):=by kernel_rfl
theorem qEf:Tryz.prog.underlying 117=some (.struct (qT 117)):=by kernel_rfl
theorem co91:Tryz.prog.cellsOf 89=1:=by kernel_rfl
theorem co93:Tryz.prog.cellsOf 91=2:=by kernel_rfl
theorem co118:Tryz.prog.cellsOf 117=3:=by kernel_rfl
theorem f93_0:((qT 91)[0]?).map (fun f=>(f.type,f.offset))=some (75,0):=by kernel_rfl
theorem f93_1:((qT 91)[1]?).map (fun f=>(f.type,f.offset))=some (89,1):=by kernel_rfl
theorem f118_0:((qT 117)[0]?).map (fun f=>(f.type,f.offset))=some (3,0):=by kernel_rfl
theorem f118_1:((qT 117)[1]?).map (fun f=>(f.type,f.offset))=some (3,1):=by kernel_rfl
theorem f118_2:((qT 117)[2]?).map (fun f=>(f.type,f.offset))=some (75,2):=by kernel_rfl
structure Pf where
 vr:AV
 vb:AV
 rl:List Int
 bl:List (Int×Int×List Int)
def Pf.av (p:Pf):AV:= .agg [p.vr,p.vb]
structure Pf.At (p:Pf) (xt:Xt) (h:Hp):Prop where
 r:Nums xt h p.vr p.rl
 c:yE p.vr
 b:BAt xt h p.vb p.bl
def bc3 (a:Int×Int×Value×List Int):List Value:=[.int .i64 a.1,.int .i64 a.2.1,a.2.2.1]
section
variable {H:Type} {enc:TypeId×Value->H} {w:World} {base:Nat} {sp:Nat->Bool} {held:Bool}
theorem slice_cap {t e:TypeId} {fuel:Nat} {cs:List Value} {x:DataW H×List MemPlace} {v:Value} (ht:Tryz.prog.underlying t=some (.slice e)) (h:DataW.trod enc Tryz.prog w base sp held fuel t cs=some x) (hv:cs=[v]):yE (.val v):=by
 rcases DataW.trod_slice ht h with ⟨e1,_⟩|⟨a',len',cap',elems,rest,n,_,e1,_,_,hlc,hcm,_⟩
 ·rw [e1] at hv;cases hv;intro ad n c e;cases e;exact xZY _
 ·rw [e1] at hv;cases hv;intro ad n c e;cases e;exact hlc
theorem qDQ {fuel:Nat} {cs:List Value} {x:DataW H×List MemPlace} (h:DataW.trod enc Tryz.prog w base sp held fuel 75 cs=some x) (h':Hp): ∃(v:Value) (l:List Int),cs=[v]/\Nums w.cell? h' (.val v) l/\yE (.val v):=by
 obtain ⟨v,l,e1,e2,e3⟩:=kH Kn.c1 und75 co3 (by omega) h (fun _=>rfl) (fun _ _ _ hy=>zN hy) h';exact ⟨v,l,e1,⟨e3,e2⟩,slice_cap und75 h e1⟩
theorem dec_band {n:Nat} {c:List Value} {y:DataW H×List MemPlace} (h:DataW.trod enc Tryz.prog w base sp held n 117 c=some y) (h':Hp): ∃a:Int×Int×Value×List Int,c=bc3 a/\Nums w.cell? h' (.val a.2.2.1) a.2.2.2/\yE (.val a.2.2.1):=by
 have hl:=vP qEf h;rw [co118] at hl;obtain ⟨_,_,h0⟩:=qY qEf h 0 f118_0;obtain ⟨_,_,h1⟩:=qY qEf h 1 f118_1;obtain ⟨_,_,h2⟩:=qY qEf h 2 f118_2;obtain ⟨a,e0⟩:=zN h0;obtain ⟨b,e1⟩:=zN h1;obtain ⟨v,l,e2,e3,e4⟩:=qDQ h2 h';rw [co3] at e0 e1;rw [co75] at e2
 match c,hl with
 |[x,y,z],_=>
  simp at e0 e1 e2;exact ⟨(a,b,v,l),by simp [bc3,e0,e1,e2],e3,e4⟩
theorem qGr {fuel:Nat} {cs:List Value} {x:DataW H×List MemPlace} (h:DataW.trod enc Tryz.prog w base sp held fuel 89 cs=some x) (h':Hp): ∃(v:Value) (bl:List (Int×Int×List Int)),cs=[v]/\BAt w.cell? h' (.val v) bl:=by
 obtain ⟨v,l,e1,e2,e3,e4⟩:=qBI bc3 (fun a=>Nums w.cell? h' (.val a.2.2.1) a.2.2.2/\yE (.val a.2.2.1)) und91 co118 (by omega) h (fun _=>rfl) (fun _ _ _ hy=>dec_band hy h') h';refine ⟨v,l.map fun a=>(a.1,a.2.1,a.2.2.2),e1,⟨fun h''=> ?_,by simpa using e2,e3.one,e3.cells,fun i b hb=> ?_⟩⟩
 ·have:=e3.len (h':=h'') pN rfl;simpa using this
 ·rw [xZU] at hb;obtain ⟨a,ha,rfl⟩:=Option.map_eq_some_iff.1 hb;have hi:=(xZV.1 ha).1;have hc:(l.map bc3)[i]? =some (bc3 a):=by rw [xZU,ha];rfl
  have hne:l.map bc3≠[]:=by intro e;rw [e] at hc;simp at hc
  obtain ⟨q1,q2⟩:=e4 a (xZH ha);exact ⟨_,_,_,_,.val a.2.2.1,⟨e3.idx pN rfl xH rfl (i:=i) (by simpa using hi) (k:= .i64),e3.fa hne xH rfl (f:=0) (o:=0) (s:=0) (ft:=3) rfl (i*3),e3.fa hne xH rfl (f:=1) (o:=1) (s:=0) (ft:=3) rfl (i*3),e3.fa hne xH rfl (f:=2) (o:=2) (s:=0) (ft:=75) rfl (i*3)⟩,fun h'' f=>⟨⟨(e3.fr f (xZY _)).loadA xH rfl rfl hc,(e3.fr f (xZY _)).load tg3 rfl (i:=i) (j:=0) hc rfl,(e3.fr f (xZY _)).load tg3 rfl (i:=i) (j:=1) hc rfl,(e3.fr f (xZY _)).load yG rfl (i:=i) (j:=2) hc rfl⟩,q1.fr f (xZY _),q2⟩⟩
theorem qGq {t:Value} {d:DataW H} {ps:List MemPlace} {r:Reach} {b0:Nat} (hval:Value.okWide Tryz.prog w r b0 91 t) (hd:DataW.Trod enc Tryz.prog w base sp held 91 t d ps) (h':Hp):
  ∃p:Pf,p.At w.cell? h'/\ ∀c,R c p.av t:=by
 obtain ⟨cs,rfl⟩: ∃cs,t= .agg cs:=by
  unfold Value.okWide at hval;rw [und93] at hval;obtain ⟨cs,rfl,_⟩:=hval;exact ⟨cs,rfl⟩
 obtain ⟨fuel,hf⟩:=hd;change DataW.trod enc Tryz.prog w base sp held fuel 91 cs.toList=_ at hf;have hl:=vP und93 hf;rw [co93] at hl;obtain ⟨_,_,h0⟩:=qY und93 hf 0 f93_0;obtain ⟨_,_,h1⟩:=qY und93 hf 1 f93_1;obtain ⟨v,l,e1,e2,e3⟩:=qDQ h0 h';obtain ⟨u,bl,e4,e5⟩:=qGr h1 h';rw [co75] at e1;rw [co91] at e4;refine ⟨⟨.val v,.val u,l,bl⟩,⟨e2,e3,e5⟩,fun cx=> ?_⟩;have:cs=[v,u].toArray:=by
  apply Array.ext'
  match hq:cs.toList,hl with
  |[x0,x1],_=>
   rw [hq] at e1 e4;simp at e1 e4;simp [e1,e4]
 subst this;simp only [R,Pf.av];exact ⟨_,rfl,by simp [RL,R]⟩
end
end Go.Proofs.Kn
end
noncomputable section
namespace Go.Proofs.Kn
open Go Go.Ev
set_option maxRecDepth 100000
set_option maxHeartbeats 4000000
theorem qEi (l:List Int) (a b c:Nat):seg l a b+seg l (a+b) c=seg l a (b+c):=by
 simp only [seg,List.take_add,List.sum_append,List.drop_drop]
theorem sum_pos: ∀{l:List Int},(∀x∈l,0<=x)->0<=l.sum
 |[],_=>by simp
 |x::l,h=>by
  have h1:=h x xYS;have h2:=sum_pos (l:=l) fun y hy=>h y (xZA _ hy);rw [List.sum_cons];omega
theorem qEh {l:List Int} (h:okW l=true) (a n:Nat):0<=seg l a n:=
 sum_pos fun _ hx=>(okW_mem (qEr h a n) hx).1
theorem qFl (F:Nat->Int) {n a k:Nat} (hk:a+k<=n):seg (dfl F n) a k=F (a+k) - F a:=by
 have h1:=seg_dfl F n (a+k) hk;have h2:=seg_dfl F n a (by omega);have h3:=qEi (dfl F n) 0 a k;rw [Nat.zero_add] at h3;omega
theorem pth_le {D:List Nat} {b:Nat->Nat->Int} {l:List Int} (hl:okW l=true) {f n:Nat} {v:Int} (h:Pth D b f n v) (hb: ∀g wd,wd∈D->g+wd<=n->b g wd<=seg l g wd):v<=seg l f (n - f):=by
 induction h with
 |nil h=>exact qEh hl _ _
 | @cons f g wd n v h1 h2 h3 ih=>
  have l3:=h3.le;have i1:=ih hb;have i2:=hb g wd h2 l3;have e1:=qEi l f (g - f) (wd+(n - (g+wd)));have e2:=qEi l g wd (n - (g+wd));rw [show f+(g - f)=g by omega,show g - f+(wd+(n - (g+wd)))=n - f by omega] at e1;have:=qEh hl f (g - f);omega
theorem qFk {l:List Int} {n:Nat} (h:l.length=n):seg l 0 n=l.sum:=by
 subst h;exact seg_all l
theorem prvs_at {w:Wk} {G:tG} {rl:List Int} {bl:List (Int×Int×List Int)} {xs:List (Nat×Nat)} (h:w.prvs G rl bl xs=true) {i:Nat} {b:Int×Int×List Int} {x:Nat×Nat} (hb:bl[i]? =some b) (hx:xs[i]? =some x):b.2.2.sum<=seg rl x.1 x.2/\ ∀c k,c<w.m.W->k<w.ts.length->w.sel x.2 (Wk.blkK x.1 c k)=true->w.lv G (Wk.blkK x.1 c k)<=seg b.2.2 c x.2:=by
 rw [Wk.prvs,xZN] at h;have h:=h i (xZS.2 (xZV.1 hx).1);simp only [hb,hx,Wk.prv1,xZO,decide_eq_true_eq,xZN,xZS,Bool.or_eq_true,Bool.not_eq_true'] at h;refine ⟨h.1,fun c k hc hk hs=> ?_⟩;rcases h.2 c hc k hk with e|e
 ·rw [hs] at e;cases e
 ·exact e
theorem bnds_has {w:Wk} {f wd:Nat} (hw:wd∈w.wn) (h1:1<=wd) (h:f+wd<=w.m.cells.length):(f,wd)∈w.bnds w.m.cells.length:=by
 rw [Wk.bnds,xXE];refine ⟨f,xZS.2 (by omega),?_⟩;rw [Wk.rowB,xZQ];exact ⟨wd,xZG.2 ⟨hw,by simpa using h⟩,rfl⟩
theorem dual_le {w:Wk} (his:w.Is) {G:tG} {rl:List Int} {bl:List (Int×Int×List Int)} (hP:w.isP rl bl=true) (h:w.prvs G rl bl (w.bnds w.m.cells.length)=true):(w.packP G w.m.cells.length).2<=rl.sum:=by
 obtain ⟨p1,p2,p3⟩:=isP_at hP;have pl:=isP_len hP;have q:=(his.pack_max G _ (xZY _)).1;rw [xYR] at q;have r:=pth_le p2 q fun f wd hw hf=> ?_
 ·rwa [xXU,qFk p1] at r
 have w1:=(his.wn_bd hw).1;obtain ⟨i,hi,e⟩:=List.getElem_of_mem (bnds_has hw w1 hf);have hx:(w.bnds w.m.cells.length)[i]? =some (f,wd):=by rw [xZX hi,e]
 obtain ⟨b,hb⟩: ∃b,bl[i]? =some b:=⟨_,xZX (by omega)⟩;obtain ⟨x,hx',_,_,e3,e4⟩:=p3 i b hb;obtain ⟨h1,h2⟩:=prvs_at h hb hx;refine xYD ?_ h1;have q:=(his.band_max G f w1 _ (xZY _)).1;rw [xYR] at q;have r:=pth_le e4 q fun c wd' hw' hc=> ?_
 ·rwa [xXU,qFk e3] at r
 rw [xZR] at hw';subst hw';rcases w.bv_mem G f wd' c with e|⟨s,hs,e⟩
 ·rw [e];exact qEh e4 _ _
 ·rw [e];obtain ⟨k,hk,rfl,hsel⟩:=Wk.selTo_mem hs;exact h2 c k (by omega) hk hsel
theorem low_le {w:Wk} (his:w.Is) (G:tG) {ls:List (Int×Int×Int)} (h:w.cut ls=true):w.worth (w.give (gLo G)) ls<=(w.packP G w.m.cells.length).2:=qCN (a:=w.packP G w.m.cells.length) (b:=(ls,w.worth (w.give (gLo G)) ls)) (his.pack_top G h)
theorem qDT {w:Wk} (his:w.Is) (G:tG):(w.prows G).sum=(w.packP G w.m.cells.length).2:=by
 rw [Wk.prows,qCd,his.Un_zero,his.Un_all];omega
theorem En_le {w:Wk} (his:w.Is) (G:tG) {row wd a b:Nat} (hwd:1<=wd) (hr:row+wd<=w.m.cells.length) (h:a<=b) (hb:b<=w.m.W):w.En G row wd a<=w.En G row wd b:=(his.En_max G hwd hr hb).2 _ ((his.En_max G hwd hr (xYE h hb)).1.back h)
theorem okW_dfl {F:Nat->Int} {n:Nat} (h: ∀c,c<n->F c<=F (c+1)) (hb: ∀c,c<=n->0<=F c/\F c<=1000000):okW (dfl F n)=true:=by
 rw [okW,xZN];intro x hx;rw [dfl,xZQ] at hx;obtain ⟨c,hc,rfl⟩:=hx;have hc:=xZS.1 hc;have h1:=h c hc;have h2:=hb c (by omega);have h3:=hb (c+1) (by omega);exact vR.2 ⟨by omega,by omega⟩
theorem qCy {w:Wk} {G:tG} {i:Nat} {b:Int×Int×List Int} {x:Nat×Nat} (hb:(w.pbnds G)[i]? =some b) (hx:(w.bnds w.m.cells.length)[i]? =some x):b=((x.1:Int),(x.2:Int),dfl (w.En G x.1 x.2) w.m.W):=by
 rw [Wk.pbnds,xZU,hx] at hb;cases hb;rfl
theorem qDV {w:Wk} (his:w.Is) {G:tG} (hb:w.m.bnd=some G):w.isP (w.prows G) (w.pbnds G)=true:=by
 rw [Wk.isP,xZO,xZO,decide_eq_true_eq];refine ⟨by rw [Wk.prows,uK],okW_dfl (fun c hc=>his.Un_le G (by omega) (by omega)) (fun c _=> ?_),qDc (by rw [Wk.pbnds,xZM]) fun i b x hi hb' hx=> ?_⟩
 ·have:=his.Un_bd hb c;omega
 ·obtain ⟨m1,m2,_,_,_⟩:=gE his (f:=x.1) (wd:=x.2) (xZH hx);rw [qCy hb' hx];simp only [Wk.oneF,uK,decide_true,xYL];refine okW_dfl (fun c hc=>En_le his G m2 m1 (by omega) (by omega)) fun c _=> ?_;have:=his.En_bd hb x.1 x.2 c;omega
theorem qGs {w:Wk} (his:w.Is) (G:tG):w.prvs G (w.prows G) (w.pbnds G) (w.bnds w.m.cells.length)=true:=by
 refine qFr fun i b x hi hb' hx=> ?_;obtain ⟨m1,m2,_,m4,_⟩:=gE his (f:=x.1) (wd:=x.2) (xZH hx);rw [qCy hb' hx];refine qFs ?_ fun c k hc hk hs=> ?_
 ·rw [qCd,his.En_zero G m2 m1,his.En_all G m2 m1,Wk.prows,qFl _ m1];have:=his.Un_band G m4 m1;rw [Wk.bb] at this;omega
 ·have hin:=(his.selBlk hk hs).2.2.1;rw [qFl _ hin];have h1:=(his.En_max G m2 m1 hin).2 _ ((his.En_max G m2 m1 (show c<=w.m.W by omega)).1.snoc (xZR.2 rfl) (xZY _));have h2:=w.bv_ge G (xZG.2 ⟨xZQ.2 ⟨k,xZS.2 hk,rfl⟩,hs⟩);omega
theorem qGt {w:Wk} (his:w.Is) (G:tG):frmd (w.prows G) (w.pbnds G)=true:=by
 have hR:=his.m.r6;have hC:=his.m.c8;have hl:=xZ his w.m.cells.length;rw [qCQ fun i b hi hb'=> ?_]
 ·rw [Wk.prows,Wk.pbnds,uK,xZM,decide_eq_true (by omega),decide_eq_true (by omega)];rfl
 ·obtain ⟨x,hx⟩: ∃x,(w.bnds w.m.cells.length)[i]? =some x:=⟨_,xZX (by have:=(xZV.1 hb').1;rwa [Wk.pbnds,xZM] at this)⟩;rw [qCy hb' hx];simp only [uK];omega
theorem qBd {w:Wk} {G:tG} {rl:List Int} {bl:List (Int×Int×List Int)} (hok:w.ok=true) (hP:w.isP rl bl=true) (hb:w.m.bnd=some G):w.pPrv rl bl=if w.prvs G rl bl (w.bnds w.m.cells.length) then (rl.sum,0) else (0,5):=by
 rw [Wk.pPrv,hok,hP,hb];rfl
theorem ft14 (xt:Xt):(SE xt).ft.get 14=some Tryz.f14:=by kernel_rfl
theorem qAt:Tryz.f14.results.toList=[.tmp 6]:=by kernel_rfl
theorem d50':decide ((5:Int)=0)=false:=rfl
theorem dual_true (xt:Xt) (h:Hp) (w:Wk) (ha:w.At xt h) (vr vb:AV) (rl:List Int) (bl:List (Int×Int×List Int)) (hr:Nums xt h vr rl) (cr:yE vr) (hb:BAt xt h vb bl) (v:AV) (ls:List (Int×Int×Int)) (hl:Cuts xt h v ls):FnA (SE xt) 14 [w.av,.agg [vr,vb],v] h xD:=by
 refine xZD (sok xt) (ft14 xt) rfl 141 rfl ?_;obtain ⟨o1,o2,o3,o4,o5⟩:=ha.ones;have hlen:=hl.len;apply qA;intro K hn hp;simp only [sw.1,rE,reduceIte,rL,rA];obtain ⟨h1,hh1,n1,s1,k1,f1⟩:=vQ h (.cells w.cs 30);obtain ⟨h2,hh2,n2,s2,k2,f2⟩:=yJ f1 n1 (.cells [vr,vb] 91);simp only [<-hh1,<-hh2];apply hn;clear hh1 hh2;simp only [rA] at n2;have u2:=(k2 h.n (by omega)).trans s1;have ha2:=ha.fr f2 (xZY _);have hr2:=hr.fr f2 (xZY _);have hb2:=hb.fr f2 (xZY _);have hl2:=hl.fr f2 (xZY _);refine zY (fun tm=>tm.get 2=some v/\tm.get 3=some (.ptr h.n 0)/\tm.get 4=some (.ptr (h.n+1) 0)) ⟨by simp [xZZ],by simp [xZZ],by simp [xZZ]⟩ fun tm ht=> ?_;obtain ⟨g2,g3,g4⟩:=ht;apply qB;intro K hn hp;simp only [sy.1,reduceIte,rL,rA,g3,u2];refine cAS (brief_c xt h2 w ha2 fun m1 hm1=> ?_);cases q1:w.brief
 ·simp only [sy.1,rE,reduceIte,rL];apply hn;refine qW (by simp only [sy.1,rE,reduceIte]) ?_;apply qB;intro K hn hp;simp only [sy.1];refine cAS (xJ xt _ fun m9 hm9=> ?_);simp only [sy.1,rE,reduceIte,rL];refine hn _ _ (qQ (qH qAt ?_));simp [xZZ,xD]
 simp only [sy.1,rE,reduceIte,rL,rA,syw.1,syb.down,g4,s2];refine cAS (qFL xt (h2.up m1) vr vb rl bl (hr2.up (by omega)) (hb2.up (by omega)) fun m2 hm2=> ?_);simp only [xZP] at hm2;cases q2:frmd rl bl
 ·simp only [sy.1,rE,reduceIte,rL];apply hn;refine qW (by simp only [sy.1,rE,reduceIte]) ?_;apply qB;intro K hn hp;simp only [sy.1];refine cAS (xJ xt _ fun m9 hm9=> ?_);simp only [sy.1,rE,reduceIte,rL];refine hn _ _ (qQ (qH qAt ?_));simp [xZZ,xD]
 have hl8:rl.length<=8:=by
  simp only [frmd,xZO,decide_eq_true_eq] at q2;exact q2.2.1
 simp only [sy.1,rE,reduceIte,rL,syw.1,hlen,g2,xZL];cases q3:decide ((50:Int)<ls.length)
 case true=>
  simp only [sy.1,rE,reduceIte,rL];apply hn;refine qW (by simp only [sy.1,rE,reduceIte]) ?_;apply qB;intro K hn hp;simp only [sy.1];refine cAS (xJ xt _ fun m9 hm9=> ?_);simp only [sy.1,rE,reduceIte,rL];refine hn _ _ (qQ (qH qAt ?_));simp [xZZ,xD]
 simp only [sy.1,rE,reduceIte,rL,rA,g3,u2];refine cAS (rwork_c xt (h2.up m2) w (ha2.up (by omega)) fun m3 hm3=> ?_);simp only [xZP] at hm3;cases e1:w.ok
 ·simp only [sy.1,rE,reduceIte,rL,xZL];apply hn;refine qW (by simp only [sy.1,rE,reduceIte]) ?_;apply qB;intro K hn hp;simp only [sy.1];refine cAS (xJ xt _ fun m9 hm9=> ?_);simp only [sy.1,rE,reduceIte,rL];refine hn _ _ (qQ (qH qAt ?_));simp [xZZ,xD]
 have his:=Wk.ok_is e1;simp only [sy.1,rE,reduceIte,rL,rA,syw.1,syb.down,g3,g4,u2,s2,xZL];refine cAS (risP_c xt (h2.up m3) w (ha2.up (n:=m3) (by omega)) his vr vb rl bl (hr2.up (by omega)) (hb2.up (by omega)) fun m4 hm4=> ?_);simp only [xZP] at hm4;cases hP:w.isP rl bl
 ·simp only [sy.1,rE,reduceIte,rL,xZL];apply hn;refine qW (by simp only [sy.1,rE,reduceIte]) ?_;apply qB;intro K hn hp;simp only [sy.1];refine cAS (xJ xt _ fun m9 hm9=> ?_);simp only [sy.1,rE,reduceIte,rL];refine hn _ _ (qQ (qH qAt ?_));simp [xZZ,xD]
 simp only [sy.1,rE,reduceIte,rL,rA,g2,g3,u2,xZL];refine cAS (rcut_c xt (h2.up m4) w (ha2.up (n:=m4) (by omega)) his v ls (hl2.up (by omega)) fun m5 hm5=> ?_);simp only [xZP] at hm5;cases e2:w.cut ls
 ·simp only [sy.1,rE,reduceIte,rL,xZL];apply hn;refine qW (by simp only [sy.1,rE,reduceIte]) ?_;apply qB;intro K hn hp;simp only [sy.1];refine cAS (xJ xt _ fun m9 hm9=> ?_);simp only [sy.1,rE,reduceIte,rL];refine hn _ _ (qQ (qH qAt ?_));simp [xZZ,xD]
 simp only [sy.1,rE,reduceIte,rL,xZL];apply hn;refine jB (by simp only [sy.1,rE,reduceIte]) ?_;have hl50:ls.length<=1000000:=by have:=of_decide_eq_false q3;omega
 obtain ⟨L,e,lo,hi,hpk,hpw,hcase⟩: ∃(L:Cg) (e lo hi:Int),w.pkd=(L,e)/\w.pworth ls=((lo,hi),e)/\(e=7\/(e=0/\ ∃G,w.m.bnd=some G/\L=w.packP G w.m.cells.length/\lo=w.worth (w.give (gLo G)) ls)):=by
  simp only [Wk.pkd,Wk.pworth,e1,e2,xXW,if_true];cases hb:w.m.bnd with
  |none=>exact ⟨_,_,_,_,rfl,rfl,.inl rfl⟩
  |some G=>exact ⟨_,_,_,_,rfl,rfl,.inr ⟨rfl,G,rfl,rfl,rfl⟩⟩
 have hask:w.asked []=e:=by rw [<-Wk.pkd_asked,hpk]
 apply qA;intro K hn hp;simp only [sy.1,rE,reduceIte,rL,rA,g3,u2];refine cAS (xYW (proof_c xt (h2.up m5) w (ha2.up (by omega))) fun res h3 hres=> ?_);obtain ⟨f3,zr,zb,rx,bx,rfl,hzr,hzb,_,hgood,hcap⟩:=hres;rw [hask] at hgood;rw [hask];obtain ⟨nx,hnx⟩: ∃nx:Int,nx=if e=0 then rx.sum else 0:=⟨_,rfl⟩
 rw [<-hnx];have oz1:=hzr.one;have oz2:=hzb.one;obtain ⟨x0,x1,x2⟩:=ex_tup3 (.agg [zr,zb]) (iv nx) (iv e);obtain ⟨h4,hh4,n4,s4,k4,f4⟩:=nsE h3 (.cells [jV,jV] 91) (.cells [zr,zb] 91);simp only [sw.1,rE,reduceIte,rL,rA,syb.down,x0,x1,x2,oz1,oz2,<-hh4];apply hn;clear hh4;have l34:=f3.le;have f24:Fr h2.n h2 h4:=(((xZI (xZY _)).up (m:=m5) (by omega)).trans f3 (by simp only [xZP];omega)).trans f4 (by simp only [xZP] at l34;omega);simp only [xZP] at l34;have f4h:=f2.trans f24 (by omega);have u4:=(f24.at_ h.n (.inl (by omega))).trans u2;have v4:=(f24.at_ (h.n+1) (.inl (by omega))).trans s2;have ha4:=ha.fr f4h (xZY _);have hzr4:=hzr.fr f4 (xZY _);have hzb4:=hzb.fr f4 (xZY _);obtain ⟨p5,hp5⟩: ∃p,p=h3.n:=⟨_,rfl⟩;rw [<-hp5] at n4 s4 l34 ⊢;refine zY (fun tm=>tm.get 2=some v/\tm.get 3=some (.ptr h.n 0)/\tm.get 4=some (.ptr (h.n+1) 0)/\tm.get 7=some (.ptr p5 0)/\tm.get 8=some (iv nx)/\tm.get 9=some (iv e)) ⟨by simp [xZZ,g2],by simp [xZZ,g3],by simp [xZZ,g4],by simp [xZZ],by simp [xZZ],by simp [xZZ]⟩ fun tm ht9=> ?_;clear g2 g3 g4;obtain ⟨g2,g3,g4,g7,g8,g9⟩:=ht9;apply qA;intro K hn hp;simp only [sy.1,reduceIte,rL,rA,g3,u4];refine cAS (xYW (packd_c xt h4 w ha4) fun res h5 hres=> ?_);obtain ⟨f5,z,rfl,cz⟩:=hres;rw [hpk] at cz;rw [hpk];have lz:=cz.len;obtain ⟨y0,y1,y2⟩:=ex_tup3 z (iv L.2) (iv e);simp only [sy.1,rE,reduceIte,rL,y0,y1,y2];apply hn;have l45:=f5.le;have f5h:Fr h.n h h5:=f4h.trans f5 (by omega);have u5:=(f5.at_ h.n (.inl (by omega))).trans u4;have v5:=(f5.at_ (h.n+1) (.inl (by omega))).trans v4;have s5:=(f5.at_ p5 (.inl (by omega))).trans s4;have ha5:=ha.fr f5h (xZY _);have hl5:=hl.fr f5h (xZY _);apply qA;intro K hn hp;simp only [sy.1,rE,reduceIte,rL,rA,g2,g3,u5];refine cAS (worth_c xt h5 w ha5 v ls hl5 hl50 fun m6 hm6=> ?_);rw [hpw];simp only [sw.1,rE,reduceIte,rL,rA,sv.1];obtain ⟨h6,hh6,n6,s6,k6,f6⟩:=nsE (h5.up m6) (.cells [iv 0,iv 0] 43) (.cells [iv lo,iv hi] 43);simp only [xZP,Hp.up_t] at hh6 n6 s6 k6 f6;rw [<-hh6];apply hn;clear hh6;have f56:Fr h5.n h5 h6:=((xZI (xZY _)).up (m:=m6) (by omega)).trans f6 (by omega);have f6h:=f5h.trans f56 (by omega);have u6:=(f56.at_ h.n (.inl (by omega))).trans u5;have v6:=(f56.at_ (h.n+1) (.inl (by omega))).trans v5;have t6:=(f56.at_ p5 (.inl (by omega))).trans s5;have ha6:=ha.fr f6h (xZY _);have hr6:=hr.fr f6h (xZY _);have hb6:=hb.fr f6h (xZY _);have hzr6:=(hzr4.fr f5 (xZY _)).fr f56 (xZY _);have hzb6:=(hzb4.fr f5 (xZY _)).fr f56 (xZY _)
 refine zY (fun tm=>tm.get 3=some (.ptr h.n 0)/\tm.get 4=some (.ptr (h.n+1) 0)/\tm.get 7=some (.ptr p5 0)/\tm.get 8=some (iv nx)/\tm.get 9=some (iv e)/\tm.get 11=some (iv L.2)/\tm.get 12=some (iv e)/\tm.get 13=some (.ptr m6 0)/\tm.get 14=some (iv e)) ⟨by simp [xZZ,g3],by simp [xZZ,g4],by simp [xZZ,g7],by simp [xZZ,g8],by simp [xZZ,g9],by simp [xZZ],by simp [xZZ],by simp [xZZ],by simp [xZZ]⟩ fun tm ht9=> ?_;clear g2 g3 g4 g7 g8 g9;obtain ⟨g3,g4,g7,g8,g9,g11,g12,g13,g14⟩:=ht9;apply qB;intro K hn hp;simp only [sy.1,rE,reduceIte,rL,g9,g12,g14];apply hn;refine jB (by simp only [sy.1,rE,reduceIte]) ?_;refine jK ?_;rcases hcase with rfl|⟨rfl,G,hbn,rfl,hlo⟩
 ·apply qA;intro K hn hp;simp only [sy.1,rE,reduceIte,rL,g9,d70];apply hn;refine qW (by simp only [sy.1,rE,reduceIte]) ?_;apply qB;intro K hn hp;simp only [sy.1,rE,reduceIte,rL,g9];refine cAS (xJ xt _ fun m9 hm9=> ?_);simp only [sy.1,rE,reduceIte,rL];refine hn _ _ (qQ (qH qAt ?_));simp [xZZ,xD]
 apply qA;intro K hn hp;simp only [sy.1,rE,reduceIte,rL,g9];apply hn;refine jB (by simp only [sy.1,rE,reduceIte]) ?_;obtain ⟨ex1,ex2⟩:=hgood G rfl hbn;rw [if_pos rfl,ex1,qDT his G] at hnx;subst ex1;subst ex2;have le1:=low_le his G e2;rw [<-hlo] at le1;have pPx:w.pPrv (w.prows G) (w.pbnds G)=((w.packP G w.m.cells.length).2,0):=by
  rw [qBd e1 (qDV his hbn) hbn,qGs his G,if_pos rfl,qDT his G]
 subst hnx;apply qB;intro K hn hp;simp only [sy.1,rE,reduceIte,rL,rA,syb.down,g7,g8,t6,g11];refine cAS (qFL xt h6 zr zb (w.prows G) (w.pbnds G) hzr6 hzb6 fun m7 hm7=> ?_);rw [qGt his G];simp only [sy.1,rE,reduceIte,rL,rA,syw.1,syb.down,g3,g7,u6,t6];refine cAS (risP_c xt (h6.up m7) w (ha6.up (by omega)) his zr zb (w.prows G) (w.pbnds G) (hzr6.up (by omega)) (hzb6.up (by omega)) fun m8 hm8=> ?_);simp only [xZP] at hm8;rw [qDV his hbn];simp only [sy.1,rE,reduceIte,rL,xZL];apply hn;refine jB (by simp only [sy.1,rE,reduceIte]) ?_;apply qA;intro K hn hp;simp only [sy.1,rE,reduceIte,rL,rA,syw.1,syb.down,g3,g7,u6,t6];refine cAS (qDU xt (h6.up m8) w (ha6.up (by omega)) zr zb (w.prows G) (w.pbnds G) (hzr6.up (by omega)) hcap (hzb6.up (by omega)) (by rw [Wk.prows,uK];have:=his.m.r6;omega) fun m9 hm9=> ?_);simp only [xZP] at hm9;rw [pPx];simp only [sy.1,rE,reduceIte,rL,sv.1,xZL];apply hn;refine zY (fun tm=>tm.get 3=some (.ptr h.n 0)/\tm.get 4=some (.ptr (h.n+1) 0)/\tm.get 8=some (iv (w.packP G w.m.cells.length).2)/\tm.get 13=some (.ptr m6 0)/\tm.get 15=some (iv (w.packP G w.m.cells.length).2)/\tm.get 16=some (iv 0)) ⟨by simp [xZZ,g3],by simp [xZZ,g4],by simp [xZZ,g8],by simp [xZZ,g13],by simp [xZZ],by simp [xZZ]⟩ fun tm ht9=> ?_;clear g3 g4 g7 g8 g9 g11 g12 g13 g14;obtain ⟨g3,g4,g8,g13,g15,g16⟩:=ht9;refine jK ?_;have dlo:decide ((w.packP G w.m.cells.length).2<lo)=false:=decide_eq_false (by omega);apply qA;intro K hn hp;simp only [sy.1,rE,reduceIte,rL,g8,s6,g13,g15,g16,dlo];apply hn;refine jB (by simp only [sy.1,rE,reduceIte]) ?_;apply qA;intro K hn hp;simp only [sy.1,rE,reduceIte,rL,rA,syw.1,syb.down,g3,g4,u6,v6];refine cAS (qDU xt (h6.up m9) w (ha6.up (by omega)) vr vb rl bl (hr6.up (by omega)) cr (hb6.up (by omega)) (by omega) fun m10 hm10=> ?_);simp only [xZP] at hm10;cases d:w.prvs G rl bl (w.bnds w.m.cells.length)
 ·have pp:w.pPrv rl bl=(0,5):=by rw [qBd e1 hP hbn,d];rfl
  rw [pp];simp only [sy.1,rE,reduceIte,rL,sv.1,xZL];apply hn;apply qB;intro K hn hp;simp only [sy.1,rE,reduceIte,rL,d50'];apply hn;refine qW (by simp only [sy.1,rE,reduceIte]) ?_;apply qB;intro K hn hp;simp only [sy.1,rE,reduceIte,rL];refine cAS (xJ xt _ fun m9 hm9=> ?_);simp only [sy.1,rE,reduceIte,rL];refine hn _ _ (qQ (qH qAt ?_));simp [xZZ,xD]
 have pp:w.pPrv rl bl=(rl.sum,0):=by rw [qBd e1 hP hbn,d];rfl
 rw [pp];have le2:=dual_le his hP d;have dg1:decide (lo<=rl.sum)=true:=decide_eq_true (by omega);have dg2:decide ((w.packP G w.m.cells.length).2<=rl.sum)=true:=decide_eq_true le2;simp only [sy.1,rE,reduceIte,rL,sv.1,xZL];apply hn;apply qB;intro K hn hp;simp only [sy.1,rE,reduceIte,rL];apply hn;refine jB (by simp only [sy.1,rE,reduceIte]) ?_;apply qA;intro K hn hp;simp only [sy.1,rE,reduceIte,rL,g8,s6,g13,dg1,dg2];refine cAS (xJ xt _ fun m9 hm9=> ?_);simp only [sy.1,rE,reduceIte,rL];refine hn _ _ (qC (qH qAt ?_));simp [xZZ,xD]
theorem dual_law (xt:Xt) (h:Hp) (w:Wk) (ha:w.At xt h) (p:Pf) (hp:p.At xt h) (v:AV) (ls:List (Int×Int×Int)) (hl:Cuts xt h v ls):FnA (SE xt) 14 [w.av,p.av,v] h xD:=dual_true xt h w ha p.vr p.vb p.rl p.bl hp.r hp.c hp.b v ls hl
end Go.Proofs.Kn
end
