/- MvY1, MvY2, MvY3: texts in a row, joined by a program. -/
import Derived.Test.YtnmfblokfponlaaGreatDoorQZ1
set_option linter.all false
open Nat renaming reduceEqDiff → rE, reduceLeDiff → rD, reduceAdd → rA, reduceMul → rM, reduceLT → rL
open Go.Ev.T renaming get_put → xZZ
open Nat renaming le_refl → xZY
open List renaming length_map → xZX, mem_map → xZV, getD_eq_getElem?_getD → xZU, length_reverse → xZS, mem_cons_of_mem → xZQ, mem_append → xZP, getElem?_eq_getElem → xZO, take_of_length_le → xZM, getElem?_map → xZJ, any_eq_false → xZI, getElem?_append_right → xZF, take_succ → xZE, getElem?_append_left → xZD, map_cons → xZC, getElem?_reverse → xZB, pairwise_append → xZA, mem_of_getElem? → xYZ, map_congr_left → xYY, pairwise_cons → xYX, mem_cons_self → xYW, mem_reverse → xYU
open Bool renaming and_eq_true_iff → xZW, and_eq_true → xZT, or_eq_false_iff → xZL, not_eq_false' → xZK, not_eq_true' → xZH
open Go.Ev.Hp renaming set_t → xZR, up_n → xZG, set_n → xYT
open Int renaming toNat_natCast → xZN
open Go.Ev.FnA renaming mono → xYV
namespace Go.Proofs.Kn
open Go Go.Ev
def flG (R:Nat) (g:Int×Int×Int×Int):Int×Int×Int×Int:=((R:Int) - 1 - g.1,g.2)
def flK (R:Nat) (k:Int×Int×Bool):Int×Int×Bool:=((R:Int) - 1 - k.1 - (if k.2.2=true then 1 else 0),k.2)
theorem flG_flG (R:Nat) (g:Int×Int×Int×Int):flG R (flG R g)=g:=by
 obtain ⟨a,b⟩:=g;simp only [flG,Prod.mk.injEq,and_true];omega
theorem flK_flK (R:Nat) (k:Int×Int×Bool):flK R (flK R k)=k:=by
 obtain ⟨a,b,d⟩:=k;cases d<;>simp [flK]<;>omega
structure Turn (a b:Mp):Prop where
 len:b.cells.length=a.cells.length
 row: ∀r,r<a.cells.length->b.cells.getD r []=a.cells.getD (a.cells.length - 1 - r) []
 W:b.W=a.W
 T:b.T=a.T
 gs:b.gs=a.gs.map (flG a.cells.length)
 ks:b.ks=a.ks.map (flK a.cells.length)
theorem Turn.symm {a b:Mp} (h:Turn a b):Turn b a:=by
 refine ⟨h.len.symm,fun r hr=> ?_,h.W.symm,h.T.symm,?_,?_⟩
 ·have hl:=h.len;rw [h.row _ (by omega),h.len]
  congr 1
  omega
 ·rw [h.gs,h.len,List.map_map];exact ((xYY fun g _=>flG_flG _ g).trans (List.map_id _)).symm
 ·rw [h.ks,h.len,List.map_map];exact ((xYY fun g _=>flK_flK _ g).trans (List.map_id _)).symm
theorem Turn.inside {a b:Mp} (h:Turn a b) (r c:Int):b.inside ((a.cells.length:Int) - 1 - r) c=a.inside r c:=by
 rw [Bool.eq_iff_iff,Mp.inside_iff,Mp.inside_iff];have e1:b.R=a.cells.length:=by rw [Mp.R,h.len]
 have e2:a.R=a.cells.length:=rfl;have e3:b.C=a.C:=by show ((b.W:Nat):Int)=(a.W:Nat);rw [h.W]
 rw [e1,e2,e3];omega
theorem Turn.kind {a b:Mp} (h:Turn a b) {r:Int} (h0:0<=r) (h1:r<a.cells.length) (c:Int):b.kind ((a.cells.length:Int) - 1 - r) c=a.kind r c:=by
 have e:((a.cells.length:Int) - 1 - r).toNat=a.cells.length - 1 - r.toNat:=by omega
 have:=h.row (a.cells.length - 1 - r.toNat) (by omega);rw [show a.cells.length - 1 - (a.cells.length - 1 - r.toNat)=r.toNat by omega,xZU,xZU] at this;rw [Mp.kind,Mp.kind,e,this]
theorem Turn.is {a b:Mp} (h:Turn a b) (r c k:Int):b.is ((a.cells.length:Int) - 1 - r) c k=a.is r c k:=by
 rw [Mp.is,Mp.is,h.inside];cases q:a.inside r c with
 |false=>rfl
 |true=>
  have:=(Mp.inside_iff.1 q).1;rw [h.kind this.1 this.2]
theorem Turn.cell {a b:Mp} (h:Turn a b) {r:Nat} (hr:r<a.cells.length) (c:Nat):b.cell r c=a.cell (a.cells.length - 1 - r) c:=by
 rw [Mp.cell,Mp.cell,h.row r hr]
theorem Turn.truth {a b:Mp} (h:Turn a b) (hi:a.Is a.cells.length a.W) {t:Nat->Nat->Int} (ht:a.Truth a.cells.length a.W t):b.Truth a.cells.length a.W (fun r c=>t (a.cells.length - 1 - r) c):=by
 refine ⟨fun r hr c hc=> ?_,fun r hr=> ?_,fun x hx=> ?_⟩
 ·rw [h.cell hr];exact ht.cell _ (by omega) c hc
 ·have e:b.J r=a.J (a.cells.length - 1 - r):=by
   funext c
   rw [Mp.J,Mp.J,h.cell hr,h.cell hr]
  rw [h.T,e];exact ht.row _ (by omega)
 ·rw [h.gs] at hx;obtain ⟨g,hg,rfl⟩:=xZV.1 hx;have k:=hi.gs g hg;have:=ht.gs g hg;have e:a.cells.length - 1 - (flG a.cells.length g).1.toNat=g.1.toNat:=by
   simp only [flG];omega
  rw [e];exact this
theorem Turn.bnd {a b:Mp} (h:Turn a b) (ha:a.Is a.cells.length a.W) (hb:b.Is b.cells.length b.W) {G:Th.Grid} (hG:a.bnd=some G): ∃G',b.bnd=some G'/\ ∀r,r<a.cells.length-> ∀c,c<a.W->G' r c=G (a.cells.length - 1 - r) c:=by
 obtain ⟨_,_,_,t1,t2⟩:=qBR ha hG;have u1:=h.truth ha t1;have u2:=h.truth ha t2;rw [<-h.len,<-h.W] at u1 u2;obtain ⟨G',e1,b1⟩:=wU hb u1;obtain ⟨G2,e2,b2⟩:=wU hb u2;rw [e1] at e2;cases e2;obtain ⟨_,_,_,t3,t4⟩:=qBR hb e1;have u3:=h.symm.truth hb t3;have u4:=h.symm.truth hb t4;rw [h.len,h.W] at u3 u4 b1 b2;obtain ⟨G3,e3,b3⟩:=wU ha u3;obtain ⟨G4,e4,b4⟩:=wU ha u4;rw [hG] at e3 e4;cases e3;cases e4;refine ⟨G',e1,fun r hr c hc=> ?_⟩;have k1:=b1 r hr c hc;have k2:=b2 r hr c hc;have k3:=b3 (a.cells.length - 1 - r) (by omega) c hc;have k4:=b4 (a.cells.length - 1 - r) (by omega) c hc;simp only [show a.cells.length - 1 - (a.cells.length - 1 - r)=r by omega] at k3 k4;exact Prod.ext (by omega) (by omega)
theorem Turn.bnd_none {a b:Mp} (h:Turn a b) (ha:a.Is a.cells.length a.W) (hb:b.Is b.cells.length b.W) (hG:a.bnd=none):b.bnd=none:=by
 cases q:b.bnd with
 |none=>rfl
 |some G=>
  obtain ⟨G',e,_⟩:=h.symm.bnd hb ha q;rw [hG] at e;cases e
def KOk (m:Mp):Prop:= ∀k∈m.ks,m.badK k=false
theorem Mp.ok_k {m:Mp} (h:m.ok=true):KOk m:=by
 simp only [Mp.ok,Mp.restOk,xZT,xZH,xZI] at h;intro k hk;have:=h.2.2.2.2.2.2.2.2.1 k hk;simpa using this
theorem qDi {m:Mp} (hm:m.Is m.cells.length m.W) {k:Int×Int×Bool} (h:m.badK k=false):(0<=k.1/\k.1<m.cells.length)/\(0<=k.2.1/\k.2.1<m.W)/\uY k=k.1+(if k.2.2=true then 1 else 0)/\wO k=k.2.1+(if k.2.2=true then 0 else 1)/\uY k<m.cells.length/\wO k<m.W:=by
 have h6:=hm.r6;have h8:=hm.c8;simp only [Mp.badK,xZL,xZK,Mp.inside_iff] at h;obtain ⟨⟨⟨a1,a2⟩,a3,a4⟩,⟨_,a5⟩,_,a6⟩:=h;have e1:m.R=m.cells.length:=rfl;have e2:m.C=m.W:=rfl;rw [e1] at a2 a5;rw [e2] at a4 a6;refine ⟨⟨a1,a2⟩,⟨a3,a4⟩,?_,?_,a5,a6⟩
 ·simp only [uY];split
  ·exact qM _ (by omega) (by omega)
  ·omega
 ·simp only [wO];split
  ·omega
  ·exact qM _ (by omega) (by omega)
theorem Turn.crk {m:Mp} (hm:m.Is m.cells.length m.W) {r c n:Nat} (hrn:r+n<=m.cells.length) {k:Int×Int×Bool} (hk:m.badK k=false):wL (m.cells.length - n - r) c n (flK m.cells.length k)=wL r c n k:=by
 have h6:=hm.r6;have h8:=hm.c8;obtain ⟨⟨b1,b2⟩,⟨b3,b4⟩,b5,b6,b7,b8⟩:=qDi hm hk;have f1:uY (flK m.cells.length k)=(m.cells.length:Int) - 1 - k.1:=by
  rw [b5] at b7;simp only [uY,flK];split
  ·rename_i q;rw [if_pos q] at b7;rw [qM _ (by omega) (by omega)];omega
  ·omega
 have f2:wO (flK m.cells.length k)=wO k:=rfl;rw [Bool.eq_iff_iff];simp only [wL,hasB,xZT,kZ,f1,f2,b5,b6];simp only [flK];rw [b5] at b7;rw [b6] at b8;split
 ·rename_i q;rw [if_pos q] at b7 b8;omega
 ·rename_i q;rw [if_neg q] at b7 b8;omega
theorem Turn.pcan {a b:Mp} (h:Turn a b) (hm:a.Is a.cells.length a.W) (hka:KOk a) {r c n:Nat} (hrn:r+n<=a.cells.length) (hp:a.pcan a.cells.length a.W n r c=true):b.pcan a.cells.length a.W n ((a.cells.length - n - r:Nat):Int) c=true:=by
 simp only [Mp.pcan,xZT,kZ,x8,xZN,xZH] at hp ⊢;obtain ⟨h1,h2,h3,h4⟩:=hp;refine ⟨by omega,h2,fun i hi j hj=> ?_,?_⟩
 ·have:=h3 (n - 1 - i) (by omega) j hj;rw [<-h.is] at this;rw [show (((a.cells.length - n - r+i:Nat)):Int)=(a.cells.length:Int) - 1 - ((r+(n - 1 - i):Nat):Int) by omega];exact this
 ·rw [xZI] at h4 ⊢;intro k' hk';rw [h.ks] at hk';obtain ⟨k,hk,rfl⟩:=xZV.1 hk';rw [Turn.crk hm hrn (hka k hk)];exact h4 k hk
structure WTurn (a b:Wk):Prop where
 m:Turn a.m b.m
 ts:b.ts=a.ts
 kerf:b.kerf=a.kerf
theorem WTurn.symm {a b:Wk} (h:WTurn a b):WTurn b a:=⟨h.m.symm,h.ts.symm,h.kerf.symm⟩
theorem WTurn.tb {a b:Wk} (h:WTurn a b) (q:Nat):b.tb q=a.tb q:=by rw [Wk.tb,Wk.tb,h.ts]
theorem WTurn.isT {a b:Wk} (h:WTurn a b) (s:Int×Int×Int):b.isT s=a.isT s:=by rw [Wk.isT,Wk.isT,h.ts]
def Wk.fl (w:Wk) (s:Int×Int×Int):Int×Int×Int:=((w.m.cells.length:Int) - (w.tb s.2.2.toNat).1 - s.1,s.2)
theorem wN {t:Nat->Nat->Int} {r c n:Nat}: ∀{k:Nat} {i j:Nat},i<k->j<n->zX t r c n k<=t (r+i) (c+j)
 |k+1,i,j,hi,hj=>by
  have rowMin_elem: ∀(n:Nat) (a:Int) (j:Nat),j<n->yS (t (r+k)) c n a<=t (r+k) (c+j):=by
   intro n a;induction n with
   |zero=>intro j hj;omega
   |succ n ih=>
    intro j hj;simp only [yS];by_cases e:j=n
    ·subst e;omega
    ·have:=ih j (by omega);omega
  by_cases e:i=k
  ·subst e;exact rowMin_elem n _ j hj
  ·exact Int.le_trans (qAc _ _ _ _) (wN (by omega) hj)
theorem qEe {t t':Nat->Nat->Int} {R r c n:Nat} (hrn:r+n<=R) (h: ∀i,i<n-> ∀j,j<n->t' (R - n - r+i) (c+j)=t (r+(n - 1 - i)) (c+j)):zX t' (R - n - r) c n n=zX t r c n n:=by
 refine Int.le_antisymm ?_ ?_
 ·refine xZ (xY _ _ _ _ _) n fun i hi j hj=> ?_;have:=wN (t:=t') (r:=R - n - r) (c:=c) (n:=n) (k:=n) (i:=n - 1 - i) (j:=j) (by omega) hj;rw [h _ (by omega) j hj,show n - 1 - (n - 1 - i)=i by omega] at this;exact this
 ·refine xZ (xY _ _ _ _ _) n fun i hi j hj=> ?_;rw [h i hi j hj];exact wN (by omega) hj
theorem WTurn.lv {a b:Wk} (h:WTurn a b) (ha:a.Is) {G G':Th.Grid} (hG: ∀r,r<a.m.cells.length-> ∀c,c<a.m.W->G' r c=G (a.m.cells.length - 1 - r) c) {s:Int×Int×Int} (h1:a.isT s=true) (h2:a.pcan s=true):b.lv G' (a.fl s)=a.lv G s:=by
 obtain ⟨r0,c0,q,n,th,wo,rfl,ht,k1,k2,_⟩:=ha.blk h1 h2;have e:((a.m.cells.length:Int) - (n:Int) - (r0:Int)).toNat=a.m.cells.length - n - r0:=by omega
 simp only [Wk.lv,Wk.fl,Wk.give,h.tb,h.kerf,xZN,ht.tb,e];rw [qEe (t:=gLo G) k1 fun i hi j hj=> ?_];simp only [gLo];rw [hG _ (by omega) _ (by omega)]
 congr 2
 omega
theorem WTurn.pc {a b:Wk} (h:WTurn a b) (ha:a.Is) (hka:KOk a.m) {s:Int×Int×Int} (h1:a.isT s=true) (h2:a.pcan s=true):b.isT (a.fl s)=true/\b.pcan (a.fl s)=true:=by
 obtain ⟨r0,c0,q,n,th,wo,rfl,ht,k1,k2,_⟩:=ha.blk h1 h2;refine ⟨by rw [h.isT];exact h1,?_⟩;rw [Wk.pcan_q ht] at h2;have:=h.m.pcan ha.m hka k1 h2;simp only [Wk.fl,Wk.pcan,h.tb,xZN,ht.tb];rw [h.m.len,h.m.W,show (a.m.cells.length:Int) - (n:Int) - (r0:Int)=((a.m.cells.length - n - r0:Nat):Int) by omega];exact this
theorem WTurn.cut {a b:Wk} (h:WTurn a b) (ha:a.Is) (hka:KOk a.m) {G G':Th.Grid} (hG: ∀r,r<a.m.cells.length-> ∀c,c<a.m.W->G' r c=G (a.m.cells.length - 1 - r) c): ∀(k:Nat) (lo:Nat) (ls:List (Int×Int×Int)),ls.length<=k->a.CutL lo ls-> ∃ls',b.CutL 0 ls'/\(∀s∈ls',s.1+(b.tb s.2.2.toNat).1<=(a.m.cells.length:Int) - lo)/\b.V G' ls'=a.V G ls
 |_,_,[],_,_=>⟨[],⟨fun _ h=>(by cases h),List.Pairwise.nil⟩,fun _ h=>(by cases h),rfl⟩
 |0,_,_::_,hk,_=>by simp at hk
 |k+1,lo,s::T,hk,hc=>by
  obtain ⟨a1,a2,a3⟩:=hc.all s xYW;obtain ⟨p1,p2⟩:=xYX.1 hc.pw;obtain ⟨r0,c0,q,n,th,wo,hs,ht,b1,b2,b3⟩:=ha.blk a1 a2;have htb:(a.tb s.2.2.toNat).1=(n:Int):=by rw [hs];simp [ht.tb]
  have n1:=ht.n1;have hpos: ∀b:Int×Int×Int,a.isT b=true->1<=(a.tb b.2.2.toNat).1:=fun b hb=>by
   obtain ⟨q,n,th,wo,hq,ht⟩:=ha.tub' hb;have:=ht.n1;simp only [hq,xZN,ht.tb];omega
  obtain ⟨S,Y,rfl,e2,e3⟩:=Wk.split htb hpos T (fun x hx=>(hc.all x (xZQ _ hx)).1) p1 p2;have hs1:s.1=(r0:Int):=by rw [hs]
  have pp:=xZA.1 p2;obtain ⟨Y',y1,y2,y3⟩:=WTurn.cut h ha hka hG k (r0+n) Y (by simp at hk;omega) ⟨fun x hx=>by
   obtain ⟨c1,c2,c3⟩:=hc.all x (xZQ _ (xZP.2 (.inr hx)));have:=e3 x hx;exact ⟨c1,c2,by omega⟩,pp.2.1⟩
  have allS: ∀x∈s::S,a.isT x=true/\a.pcan x=true/\x.1=(r0:Int)/\(a.tb x.2.2.toNat).1=(n:Int):=fun x hx=>by
   rcases List.mem_cons.1 hx with rfl|hx
   ·exact ⟨a1,a2,hs1,htb⟩
   ·obtain ⟨c1,c2,c3⟩:=hc.all x (xZQ _ (xZP.2 (.inl hx)));have:=e2 x hx;exact ⟨c1,c2,by omega,this.2⟩
  have pwS:(s::S).Pairwise fun x y=>a.apt x y=true:=xYX.2 ⟨fun x hx=>p1 x (xZP.2 (.inl hx)),pp.1⟩;have flr: ∀x∈s::S,(a.fl x).1=(a.m.cells.length:Int) - n - r0:=fun x hx=>by
   obtain ⟨_,_,c3,c4⟩:=allS x hx;simp only [Wk.fl,c3,c4]
  refine ⟨Y'++(s::S).map a.fl,⟨fun x hx=> ?_,?_⟩,fun x hx=> ?_,?_⟩
  ·rcases xZP.1 hx with hx|hx
   ·exact y1.all x hx
   ·obtain ⟨z,hz,rfl⟩:=xZV.1 hx;obtain ⟨c1,c2,c3,c4⟩:=allS z hz;obtain ⟨d1,d2⟩:=h.pc ha hka c1 c2;refine ⟨d1,d2,?_⟩;rw [flr z hz];omega
  ·refine xZA.2 ⟨y1.pw,?_,fun x hx y hy=> ?_⟩
   ·rw [List.pairwise_map];refine pwS.imp_of_mem fun {x y} hx hy hxy=> ?_;obtain ⟨_,_,c3,c4⟩:=allS x hx;obtain ⟨_,_,d3,d4⟩:=allS y hy;rw [Wk.apt,if_pos (c3.trans d3.symm),xZT,decide_eq_true_eq,decide_eq_true_eq] at hxy;rw [Wk.apt,if_pos ((flr x hx).trans (flr y hy).symm),h.tb,h.tb];exact xZW.2 ⟨decide_eq_true hxy.1,decide_eq_true hxy.2⟩
   ·obtain ⟨z,hz,rfl⟩:=xZV.1 hy;have k1:=y2 x hx;have k2:=flr z hz;have k3:1<=(b.tb x.2.2.toNat).1:=by rw [h.tb];exact hpos x (by rw [<-h.isT];exact (y1.all x hx).1)
    rw [Wk.apt,if_neg (by omega),decide_eq_true_eq];omega
  ·rcases xZP.1 hx with hx|hx
   ·have:=y2 x hx;omega
   ·obtain ⟨z,hz,rfl⟩:=xZV.1 hx;have k2:=flr z hz;obtain ⟨_,_,c3,c4⟩:=allS z hz;have e:(b.tb (a.fl z).2.2.toNat).1=(n:Int):=by rw [h.tb];exact c4
    rw [k2,e];omega
  ·rw [Wk.V_app,y3];have vS: ∀l:List (Int×Int×Int),(∀x∈l,a.isT x=true/\a.pcan x=true)->b.V G' (l.map a.fl)=a.V G l:=by
    intro l;induction l with
    |nil=>intro _;rfl
    |cons x l ih=>
     intro hl;obtain ⟨c1,c2⟩:=hl x xYW;rw [xZC,Wk.V,Wk.V,h.lv ha hG c1 c2,ih fun z hz=>hl z (xZQ _ hz)]
   rw [vS (s::S) fun x hx=>⟨(allS x hx).1,(allS x hx).2.1⟩,show s::(S++Y)=(s::S)++Y from rfl,Wk.V_app];omega
theorem WTurn.pack_le {a b:Wk} (h:WTurn a b) (ha:a.Is) (hka:KOk a.m) (hb:b.Is) {G G':Th.Grid} (hG: ∀r,r<a.m.cells.length-> ∀c,c<a.m.W->G' r c=G (a.m.cells.length - 1 - r) c):(a.packP G a.m.cells.length).2<=(b.packP G' b.m.cells.length).2:=by
 obtain ⟨c1,c2⟩:=ha.pack_is G;obtain ⟨ls',d1,_,d3⟩:=h.cut ha hka hG _ 0 _ (xZY _) (Wk.CutL.of ha c1);have t:=hb.pack_top G' d1.cut;rw [Wk.V_worth] at t c2;rw [d3,c2,Bool.eq_false_iff] at t;refine Int.not_lt.1 fun hlt=>t ?_;rw [uP];exact .inl hlt
theorem WTurn.pack {a b:Wk} (h:WTurn a b) (ha:a.Is) (hka:KOk a.m) (hb:b.Is) (hkb:KOk b.m) {G G':Th.Grid} (hG: ∀r,r<a.m.cells.length-> ∀c,c<a.m.W->G' r c=G (a.m.cells.length - 1 - r) c):(b.packP G' b.m.cells.length).2=(a.packP G a.m.cells.length).2:=by
 refine Int.le_antisymm (h.symm.pack_le hb hkb ha fun r hr c hc=> ?_) (h.pack_le ha hka hb hG);rw [h.m.len] at hr ⊢;rw [h.m.W] at hc;rw [hG _ (by omega) c hc]
 congr 1
 omega
end Go.Proofs.Kn
namespace Go.Proofs.Kn
open Go Go.Ev
set_option maxRecDepth 100000
theorem GridAt.rowF {xt:Addr->Option Value} {h hg:Hp} {isz:Nat} {v:AV} {ll:List (List (List Value))} {tb:T TE} {t e:TypeId} {te ee:TE} (r:GridAt xt h isz v ll) (f:Fr h.n h hg) (ht:tb.get t=some te) (hd:te.d= .slice e) (he:tb.get e=some ee) (hs:ee.size=1) (ha:ee.agg=false) {i:Nat} {l:List (List Value)} (hl:ll[i]? =some l):
  ∃a,(∀k:IntKind,qK tb t v (.val (.int k (i:Int)))=some (elp v i))/\qR tb xt hg e (elp v i)=some a/\RowAt xt h isz a l:=by
 have hi:=(List.getElem?_eq_some_iff.1 hl).1;rcases r with ⟨vs,r1,r2,r3⟩|⟨b,off,avs,e',rfl,⟨q1,q2,q3⟩,r3⟩
 ·obtain ⟨u,p1,p2⟩:=r3 i l hl;refine ⟨.val u,fun k=> ?_,?_,p2⟩
  ·have:=r1.idx ht hd he hs (i:=i) (by rw [xZX,r2];exact hi) (k:=k)
   rwa [Nat.mul_one] at this
  ·have:=(r1.fr f (xZY _)).load0 he ha (i:=i) (c:=[u]) (u:=u) (by simp [p1]) rfl
   rwa [Nat.mul_one] at this
 ·obtain ⟨a,p1,p2⟩:=r3 i l hl;refine ⟨a,fun k=> ?_,?_,p2⟩
  ·have e1:bX (.val (.int k (i:Int)))=some (Int.ofNat i):=rfl;have e2:Nat.blt i ll.length=true:=by rw [Nat.blt_eq];exact hi
   simp [qK,ht,e1,hd,he,e2,hs,elp]
  ·have q3':=(f.at_ b (.inl q1)).trans q3;simp [qR,he,ha,elp,q3',p1]
theorem qBW {P:Program} {tb:T TE} {xt:Addr->Option Value} {h hB:Hp} {N sz by_ n:Nat} {t e:TypeId} {te ee:TE} {v:AV} {cs c:List AV} (ht:tb.get t=some te) (hd:te.d= .slice e) (he:tb.get e=some ee) (hs:ee.size=sz) (hby:ee.bytes=by_)
  (o:OwnSl h N sz e v n cs) (hN:N<=h.n) (fB:Fr h.n h hB) (nB:hB.n=h.n+1) (sB:hB.t.get h.n=some (.cells c e)) (hc:c.length=sz) (hco:c.all Go.Ev.one=true) (hl:(n+1)*by_<=140737488355328) (hl2:n+1<=9223372036854775807):
  ∃h',qS P tb xt .append [t,t] [v,.sl h.n 0 1 sz] hB=some (.sl (h.n+1) 0 (n+1) sz,h')/\OwnSl h' N sz e (.sl (h.n+1) 0 (n+1) sz) (n+1) (cs++c)/\Fr N h h'/\h.n<h'.n:=by
 have o2:=o.fr fB (xZY _);have hsrc:=qAX (xt:=xt) (m:=1) (sz:=sz) sB (by simp [hc]) hco;obtain ⟨h',b1,b2,b3,b4,b5⟩:=o2.append2 (P:=P) (by omega) ht hd he hs hby ht hd hsrc (by omega) (by simp [hc]) hl hl2;rw [nB] at b1 b2;exact ⟨h',b1,b2,(fB.lower hN).trans b3 (by omega),by omega⟩
theorem own_grid {xt:Addr->Option Value} {h hg:Hp} {N isz:Nat} {v:AV} {ll:List (List (List Value))} {avs:List AV} {e:TypeId} (o:OwnSl hg N 1 e v ll.length avs) (f:Fr h.n h hg) (hr: ∀(i:Nat) (l:List (List Value)),ll[i]? =some l-> ∃a,avs[i]? =some a/\RowAt xt h isz a l):GridAt xt hg isz v ll:=by
 rcases o with ⟨p1,rfl,rfl⟩|⟨b,rfl,p2,p3,p4,p5⟩
 ·have hn:ll=[]:=List.length_eq_zero_iff.1 p1;subst hn;exact .inl ⟨[],⟨(by simp),Nat.one_pos,.inl ⟨rfl,rfl⟩⟩,rfl,fun i l hl=>by simp at hl⟩
 ·refine .inr ⟨b,0,avs,e,rfl,⟨p3,by simp at p5;omega,p4⟩,fun i l hl=> ?_⟩;obtain ⟨a,q1,q2⟩:=hr i l hl;exact ⟨a,by rw [Nat.zero_add];exact q1,q2.fr f (xZY _)⟩
abbrev Wk.turn (w:Wk) (vc vg vk:AV):Wk:={w with m:=⟨vc,vg,vk,zJ,w.m.cells.reverse,w.m.T,w.m.H,w.m.gs.map (flG w.m.cells.length),w.m.ks.map (flK w.m.cells.length),[]⟩}
theorem qDy {w:Wk} {vc vg vk:AV} (r:Nat) (hr:r<w.m.cells.length):(w.turn vc vg vk).m.cells.getD r []=w.m.cells.getD (w.m.cells.length - 1 - r) []:=by
 show w.m.cells.reverse.getD r []=_;rw [xZU,xZU,xZB hr]
theorem turn_W {w:Wk} {vc vg vk:AV} (his:w.Is):(w.turn vc vg vk).m.W=w.m.W:=by
 have h0:=his.m.r0;have e:=qDy (w:=w) (vc:=vc) (vg:=vg) (vk:=vk) 0 h0;have e2: ∀l:List (List Int),l.headD []=l.getD 0 []:=fun l=>by cases l<;>rfl
 show (((w.turn vc vg vk).m.cells).headD []).length=_;rw [e2,e];exact his.m.hC _ (by omega)
theorem Wk.Is.turn {w:Wk} (his:w.Is) (vc vg vk:AV):WTurn w (w.turn vc vg vk):=by
 refine ⟨⟨?_,qDy,turn_W his,rfl,rfl,rfl⟩,rfl,rfl⟩;show w.m.cells.reverse.length=_;rw [xZS]
theorem turn_ok {w:Wk} (h:w.ok=true) (vc vg vk:AV):(w.turn vc vg vk).ok=true:=by
 have his:=Wk.ok_is h;have tn:=his.turn vc vg vk;have hka:=Mp.ok_k (xZW.1 h).1;simp only [Wk.ok,Mp.ok,Mp.restOk,xZT,decide_eq_true_eq,xZH,xZI] at h ⊢;obtain ⟨⟨h1,h2,h3,h4,h5,h6,h7,h8,h9,h10⟩,h11⟩:=h;have eC:(w.turn vc vg vk).m.C=w.m.C:=by
  show (((w.turn vc vg vk).m.W:Nat):Int)=(w.m.W:Nat);rw [turn_W his]
 have eR:(w.turn vc vg vk).m.R=w.m.R:=by
  show ((w.m.cells.reverse.length:Nat):Int)=_;rw [xZS];rfl
 refine ⟨⟨by rw [eR];exact h1,?_,h3,h4,?_,?_,?_,?_,?_,?_⟩,h11⟩
 ·rw [List.all_eq_true] at h2 ⊢;intro l hl;have:=h2 l (xYU.1 hl);rw [Mp.rowOk] at this ⊢;rw [eC];exact this
 ·show (((w.m.gs.map (flG w.m.cells.length)).length:Nat):Int)<=8;rw [xZX];exact h5
 ·show (((w.m.ks.map (flK w.m.cells.length)).length:Nat):Int)<=8;rw [xZX];exact h6
 ·show (0:Int)<=12;omega
 ·intro g' hg';obtain ⟨g,hg,rfl⟩:=xZV.1 hg';have:=h8 g hg;simp only [Mp.badG,flG,tn.m.inside,tn.m.is] at this ⊢;exact this
 ·intro k' hk';obtain ⟨k,hk,rfl⟩:=xZV.1 hk';obtain ⟨⟨b1,b2⟩,⟨b3,b4⟩,b5,b6,b7,b8⟩:=qDi his.m (hka k hk);have h6':=his.m.r6;have f1:uY (flK w.m.cells.length k)=(w.m.cells.length:Int) - 1 - k.1:=by
   rw [b5] at b7;simp only [uY,flK];split
   ·rename_i q;rw [if_pos q] at b7;rw [qM _ (by omega) (by omega)];omega
   ·omega
  have f2:wO (flK w.m.cells.length k)=wO k:=rfl;have q1:(flK w.m.cells.length k).1=(w.m.cells.length:Int) - 1 - uY k:=by rw [b5];simp only [flK];omega
  have q2:(flK w.m.cells.length k).2.1=k.2.1:=rfl;have hk2:=hka k hk;simp only [Mp.badK,xZL,xZK] at hk2;simp only [Mp.badK,f1,f2,q1,q2,tn.m.inside,Bool.not_eq_true,xZL,xZK];have i1:=Mp.inside_iff.1 hk2.1;have i2:=Mp.inside_iff.1 hk2.2;exact ⟨Mp.inside_iff.2 ⟨i2.1,i1.2⟩,Mp.inside_iff.2 ⟨i1.1,i2.2⟩⟩
 ·intro p hp;cases hp
end Go.Proofs.Kn
namespace Go.Proofs.Kn
open Go Go.Ev
set_option maxRecDepth 100000
set_option maxHeartbeats 4000000
theorem ft6 (xt:Addr->Option Value):(SE xt).ft.get 6=some Tryz.f6:=by kernel_rfl
theorem res6:Tryz.f6.results.toList=[.tmp 2]:=by kernel_rfl
theorem bs22 (h:Hp) (a:AV) (ha:cellsOf a=[a]):jC tb h 22 1 [(0,a)]=some (.sl h.n 0 1 1,h.new (.cells [a] 58)):=by
 have:jC tb h 22 1 [(0,a)]=(kN (fun i=>some (i*1,1)) [(0,a)] [.val (.slice none 0 0)]).map fun cs=>(.sl h.n 0 1 1,h.new (.cells cs 58)):=by kernel_rfl
 rw [this];simp [kN,ha];exact ⟨_,rfl,rfl⟩
theorem qDx (xt:Addr->Option Value) (h:Hp) (w:Wk) (ha:w.At xt h):FnA (SE xt) 6 [w.av] h qAi:=by
 refine FnA.walk (sok xt) (ft6 xt) rfl 198 rfl ?_;obtain ⟨o1,o2,o3,o4,o5⟩:=ha.ones;refine qA fun K hn hp=> ?_;simp only [sw.1,reduceIte,rL];apply hn;obtain ⟨h1,hh1,n1,s1,k1,f1⟩:=yH h (.cells w.cs 30);rw [<-hh1];clear hh1;have ha1:=ha.fr f1 (xZY _);refine qE ?_;refine qA fun K hn hp=> ?_;simp only [sy.1,rE,reduceIte,rL,rA,s1];refine qB (sok xt) (brief_c xt h1 w ha1 fun m1 hm1=> ?_);cases q1:w.brief
 ·simp only [sy.1,rE,reduceIte,rL];apply hn;refine qC true (by simp only [sy.1,rE,reduceIte]) (fun _=> ?_) (fun hx=>by cases hx);refine qE ?_;refine qA fun K hn hp=> ?_;simp only [sy.1];refine qB (sok xt) (qA2 xt _ fun m9 hm9=> ?_);simp only [sy.1,rE,reduceIte,rL];refine hn _ _ (jF (qN res6 ?_));simp [xZZ,qAi]
 simp only [sy.1,rE,reduceIte,rL,rA,s1];refine qB (sok xt) (rwork_c xt (h1.up m1) w (ha1.up (Nat.le_of_lt hm1)) fun m2 hm2=> ?_);simp only [xZG] at hm2;cases e1:w.ok
 ·simp only [sy.1,rE,reduceIte,rL,Hp.up_up];apply hn;refine qC true (by simp only [sy.1,rE,reduceIte]) (fun _=> ?_) (fun hx=>by cases hx);refine qE ?_;refine qA fun K hn hp=> ?_;simp only [sy.1];refine qB (sok xt) (qA2 xt _ fun m9 hm9=> ?_);simp only [sy.1,rE,reduceIte,rL];refine hn _ _ (jF (qN res6 ?_));simp [xZZ,qAi]
 have his:=Wk.ok_is e1;simp only [sy.1,rE,reduceIte,rL,Hp.up_up];apply hn;refine qC false (by simp only [sy.1,rE,reduceIte]) (fun hx=>by cases hx) (fun _=> ?_);refine qI ?_;refine qA fun K hn hp=> ?_;simp only [sw.1,rE,reduceIte,rL,rA,o1,o2,o3,o4,o5,s1];obtain ⟨h2,hh2,n2,s2,k2,f2⟩:=nsE (h1.up m2) (.cells [zJ,iv 0,iv 0,zJ,zJ,zJ,zJ,iv 0] 30) (.cells w.cs 30);simp only [xZG,Hp.up_t] at hh2 n2 s2 k2 f2;rw [<-hh2];apply hn;clear hh2;have u1:=(k2 h.n (by omega)).trans s1;have f2h:Fr h.n h h2:=(f1.up (m:=m2) (by omega)).trans f2 (by omega);have ha2:=ha.fr f2h (xZY _);have hr6:=his.m.r6;have hr0:=his.m.r0;have wR:IntKind.i64.wrap ((w.m.cells.length:Int) - 1)=(w.m.cells.length:Int) - 1:=qM _ (by omega) (by omega);refine qA fun K hn hp=> ?_;simp only [sy.1,rE,reduceIte,rL,rA,rD,u1];refine qB (sok xt) (qBp xt h2 w.m ha2.m fun m3 hm3=> ?_);simp only [sy.1,rE,reduceIte,rL,wR];apply hn;refine qA fun K hn hp=> ?_;simp only [sw.1,rE,reduceIte,rL,rA,rD,s2];apply hn;obtain ⟨hq,hhq⟩: ∃hq:Hp,hq=((((h2.up m3).set m2 (.cells [zJ,iv w.m.T,iv w.m.H,w.m.vg,w.m.vk,w.m.vp,w.vt,iv w.kerf] 30)).set m2 (.cells [zJ,iv w.m.T,iv w.m.H,zJ,w.m.vk,w.m.vp,w.vt,iv w.kerf] 30)).set m2 (.cells [zJ,iv w.m.T,iv w.m.H,zJ,zJ,w.m.vp,w.vt,iv w.kerf] 30)).set m2 (.cells [zJ,iv w.m.T,iv w.m.H,zJ,zJ,zJ,w.vt,iv w.kerf] 30):=⟨_,rfl⟩;rw [<-hhq];have nq:m2<hq.n:=by rw [hhq];simp only [xYT,xZG];omega
 have pq:hq.t.get m2=some (.cells [zJ,iv w.m.T,iv w.m.H,zJ,zJ,zJ,w.vt,iv w.kerf] 30):=by rw [hhq,xZR,xZZ,if_pos rfl]
 have kq: ∀b,b≠m2->hq.t.get b=h2.t.get b:=fun b hb=>by rw [hhq,xZR,xZZ,if_neg hb,xZR,xZZ,if_neg hb,xZR,xZZ,if_neg hb,xZR,xZZ,if_neg hb];rfl
 have uq:=(kq h.n (by omega)).trans u1;have fq:Fr h.n h hq:=by
  rw [hhq];exact ((((f2h.up (m:=m3) (by omega)).set (by omega) (by simp only [xZG];omega) _).set (by omega) (by simp only [xYT,xZG];omega) _).set (by omega) (by simp only [xYT,xZG];omega) _).set (by omega) (by simp only [xYT,xZG];omega) _
 clear hhq kq;obtain ⟨p,hpm⟩: ∃p,p=m2:=⟨_,rfl⟩;rw [<-hpm] at nq pq;rw [<-hpm];have hp1:h.n<p:=by omega
 refine hH (fun tm=>tm.get 1=some (.ptr h.n 0)/\tm.get 3=some (.ptr p 0)/\tm.get 4=some (iv ((w.m.cells.length:Int) - 1))) ⟨by simp [xZZ],by simp [xZZ],by simp [xZZ]⟩ fun tm ht=> ?_;obtain ⟨g1,g3,g4⟩:=ht;refine qE ?_;refine qA fun K hn hp=> ?_;simp only [sy.1,reduceIte,rL,g4];apply hn;refine qG fun KA A1 A2 A3 A4 A5=> ?_;refine qV (sok xt) (fun st=> ∃(m:Nat) (hg:Hp) (vc:AV) (avs:List AV) (tm:T AV),st=⟨tm,198,hg,[]⟩/\m<=w.m.cells.length/\tm.get 1=some (.ptr h.n 0)/\tm.get 3=some (.ptr p 0)/\tm.get 4=some (iv ((w.m.cells.length:Int) - 1))/\tm.get 5=some (iv ((w.m.cells.length:Int) - 1 - m))/\Fr h.n h hg/\hq.n<=hg.n/\(∀b,b<hq.n->b≠p->hg.t.get b=hq.t.get b)/\hg.t.get p=some (.cells [vc,iv w.m.T,iv w.m.H,zJ,zJ,zJ,w.vt,iv w.kerf] 30)/\OwnSl hg hq.n 1 58 vc m avs/\(∀(i:Nat) (l:List Int),(w.m.cells.reverse.take m)[i]? =some l-> ∃a,avs[i]? =some a/\RowAt xt h 1 a (l.map Kn.c1))) (fun st=>(match st.tm.get 5 with|some (.val (.int _ n))=>(n+1).toNat|_=>0)) ?_ ?_
 ·rintro st ⟨m,hg,vc,avs,tm,rfl,hkA,g1,g3,g4,g5,fg,lg,kg,pg,og,rg⟩;have muA:=g5;have ug:=(kg h.n (by omega) (by omega)).trans uq;refine qE ?_;refine qA fun K hn hp=> ?_;simp only [sy.1,reduceIte,rL,g5];apply hn;by_cases hm:m<w.m.cells.length
  ·obtain ⟨c,hc⟩: ∃c:Nat,c=w.m.cells.length - (m+1):=⟨_,rfl⟩;have ec:(w.m.cells.length:Int) - 1 - m=(c:Int):=by omega
   rw [ec] at g5;have d:decide ((0:Int)<=(w.m.cells.length:Int) - 1 - m)=true:=decide_eq_true (by omega);refine qC true (by simp only [sy.1,rE,reduceIte,d]) (fun _=> ?_) (fun hx=>by cases hx);refine qI ?_;rw [ec];refine qG fun KB B1 B2 B3 B4 B5=> ?_;obtain ⟨l,hl⟩: ∃l,w.m.cells[c]? =some l:=⟨_,xZO (by omega)⟩;obtain ⟨a,i1,i2,ra⟩:=GridAt.rowF ha.m.cells fg tg22 rfl pZ rfl rfl (i:=c) (l:=l.map Kn.c1) (by simp [hl]);have oa:=ra.one;have ca:=ra.cells;obtain ⟨hB,hhB,nB,sB,kB,fB⟩:=yH hg (.cells [a] 58);have ek:({t:=hg.t.put (some (.cells [a] 58)) hg.n,n:=hg.n+1}:Hp)=hB:=hhB.symm;clear hhB;obtain ⟨hC,p1,p2,p3,p4⟩:=qBW (P:=Tryz.prog) (xt:=xt) (tb:=tb) (by_:=24) (sz:=1) tg22 rfl pZ rfl rfl og lg fB nB sB rfl (by simp [oa]) (by omega) (by omega);have pC:=(p3.at_ p (.inl nq)).trans pg;have oc:=og.one;refine regG (sok xt) 10 [9] [] [] (by kernel_rfl) fun K hn hp=> ?_;simp only [sw.1,rE,reduceIte,rL,rA,rD,syw.1,g1,g3,g5,ug,pg,syg.1,Bool.false_eq_true,i1,i2,jI,bs22 _ _ ca,ek,p1,pC];refine hn _ _ (B1 _ ?_);obtain ⟨hD,hhD⟩: ∃hD:Hp,hD=hC.set p (.cells [.sl (hg.n+1) 0 (m+1) 1,iv w.m.T,iv w.m.H,zJ,zJ,zJ,w.vt,iv w.kerf] 30):=⟨_,rfl⟩;rw [<-hhD];have nD:hD.n=hC.n:=by rw [hhD];rfl
   have pD:hD.t.get p=some (.cells [.sl (hg.n+1) 0 (m+1) 1,iv w.m.T,iv w.m.H,zJ,zJ,zJ,w.vt,iv w.kerf] 30):=by rw [hhD,xZR,xZZ,if_pos rfl]
   have kD: ∀b,b≠p->hD.t.get b=hC.t.get b:=fun b hb=>by rw [hhD,xZR,xZZ,if_neg hb]
   have fD:Fr h.n h hD:=by rw [hhD];exact (fg.trans (p3.lower (by have:=fq.le;omega)) (xZY _)).set (by omega) (by omega) _
   clear hhD;have wc:IntKind.i64.wrap ((c:Int) - 1)=(w.m.cells.length:Int) - 1 - ((m+1:Nat):Int):=by rw [qM _ (by omega) (by omega)];omega
   refine reg fun K hn hp=> ?_;simp only [sy.1,rE,reduceIte,rL,g5,wc];apply hn;refine ⟨⟨m+1,hD,_,_,_,rfl,by omega,(by simp [xZZ,g1]),(by simp [xZZ,g3]),(by simp [xZZ,g4]),(by simp [xZZ]),fD,by omega,fun b hb hbp=>(kD b hbp).trans ((p3.at_ b (.inl hb)).trans (kg b hb hbp)),pD,p2.keep (by omega) (fun b hb hb2=>kD b (by omega)),fun i l' hl'=> ?_⟩,by simp [xZZ,muA];omega⟩;have lv:avs.length=m:=by
    rcases og with ⟨q,q2,_⟩|⟨_,_,_,_,_,q⟩
    ·rw [q2,q];rfl
    ·simpa using q
   have e3:w.m.cells.reverse[m]? =some l:=by rw [xZB (by omega),show w.m.cells.length - 1 - m=c by omega];exact hl
   rw [xZE,e3] at hl';have lt:(w.m.cells.reverse.take m).length=m:=by rw [List.length_take,xZS];omega
   rcases Nat.lt_trichotomy i m with hi|rfl|hi
   ·rw [xZD (by omega)] at hl';obtain ⟨a',j1,j2⟩:=rg i l' hl';exact ⟨a',by rw [xZD (by omega)];exact j1,j2⟩
   ·rw [xZF (by omega),lt,Nat.sub_self] at hl';cases hl';exact ⟨a,by rw [xZF (by omega),lv,Nat.sub_self];rfl,ra⟩
   ·rw [List.getElem?_eq_none (by simp;omega)] at hl';cases hl'
  ·have d:decide ((0:Int)<=(w.m.cells.length:Int) - 1 - m)=false:=decide_eq_false (by omega);refine qC false (by simp only [sy.1,rE,reduceIte,d]) (fun hx=>by cases hx) (fun _=> ?_);refine qT (A2 _ ?_);obtain rfl:m=w.m.cells.length:=by omega
   rw [xZM (by rw [xZS];exact xZY _)] at rg;clear hm d;have lG: ∀h':Hp,zP tb h' 23 w.m.vg=some w.m.gs.length:=fun h'=>by have:=ha.m.gs.len (h':=h') qAa rfl;simpa using this
   have lK: ∀h':Hp,zP tb h' 24 w.m.vk=some w.m.ks.length:=fun h'=>by have:=ha.m.ks.len (h':=h') tg24 rfl;simpa using this
   have hsh:w.m.gs.length<=11/\w.m.ks.length<=11:=by
    simp only [Wk.brief,Mp.short,xZT,decide_eq_true_eq] at q1;omega
   have ovc:=og.one;have cvc:=og.cells;refine hH (fun tm=>tm.get 1=some (.ptr h.n 0)/\tm.get 3=some (.ptr p 0)/\tm.get 4=some (iv ((w.m.cells.length:Int) - 1))) ⟨by simp [xZZ,g1],by simp [xZZ,g3],by simp [xZZ,g4]⟩ fun tm ht=> ?_;clear g1 g3 g4 g5;obtain ⟨g1,g3,g4⟩:=ht;refine qE ?_;refine qA fun K hn hp=> ?_;simp only [sy.1,rL];apply hn;refine qG fun KB B1 B2 B3 B4 B5=> ?_;refine qV (sok xt) (fun st=> ∃(k:Nat) (he:Hp) (vg:AV) (tm:T AV),st=⟨tm,198,he,[]⟩/\k<=w.m.gs.length/\tm.get 1=some (.ptr h.n 0)/\tm.get 3=some (.ptr p 0)/\tm.get 4=some (iv ((w.m.cells.length:Int) - 1))/\tm.get 6=some (iv k)/\Fr h.n h he/\hg.n<=he.n/\(∀b,b<hg.n->b≠p->he.t.get b=hg.t.get b)/\he.t.get p=some (.cells [vc,iv w.m.T,iv w.m.H,vg,zJ,zJ,w.vt,iv w.kerf] 30)/\OwnSl he hg.n 4 48 vg k ((((w.m.gs.take k).map (flG w.m.cells.length)).map Kn.g4).flatten.map AV.val)) (fun st=>w.m.gs.length - (match st.tm.get 6 with|some (.val (.int _ n))=>n.toNat|_=>0)) ?_ ?_
   ·rintro st ⟨k,he,vg,tm,rfl,hkB,g1,g3,g4,g6,fe,le,ke,pe,oe⟩;have muB:=g6;have ue:=(ke h.n (by omega) (by omega)).trans ug;refine qE ?_;refine qA fun K hn hp=> ?_;simp only [sy.1,rE,reduceIte,rL,syw.1,g1,g6,ue,lG,jU];apply hn;by_cases hk:k<w.m.gs.length
    ·refine qC true (by simp only [sy.1,rE,reduceIte,hk]) (fun _=> ?_) (fun hx=>by cases hx);refine qI ?_;refine qG fun KB B1 B2 B3 B4 B5=> ?_;obtain ⟨g,hgk⟩: ∃g,w.m.gs[k]? =some g:=⟨_,xZO hk⟩;have hgin:=his.m.gs g (xYZ hgk);have hae:=ha.fr fe (xZY _);have i1:=hae.m.gs.idx qAa rfl pJ rfl (i:=k) (by simpa using hk) (k:= .i64);have i2:=hae.m.gs.loadA pJ rfl rfl (i:=k) (c:=Kn.g4 g) (by rw [xZJ,hgk];rfl);simp only [Kn.g4,xZC,List.map_nil] at i2;refine qA fun K hn hp=> ?_;simp only [sw.1,rE,reduceIte,rL,rA,al48,g1,g6,ue,i1,i2];obtain ⟨h4,hh4,n4,s4,k4,f4⟩:=nsE he (.cells [iv 0,iv 0,iv 0,iv 0] 48) (.cells [iv g.1,iv g.2.1,iv g.2.2.1,iv g.2.2.2] 48);rw [<-hh4];apply hn;clear hh4;have wg:IntKind.i64.wrap ((w.m.cells.length:Int) - 1 - g.1)=(w.m.cells.length:Int) - 1 - g.1:=qM _ (by omega) (by omega);refine qA fun K hn hp=> ?_;simp only [sw.1,rE,reduceIte,rL,rA,rD,g4,s4,wg];apply hn;obtain ⟨h5,hh5⟩: ∃h5:Hp,h5=h4.set he.n (.cells [iv ((w.m.cells.length:Int) - 1 - g.1),iv g.2.1,iv g.2.2.1,iv g.2.2.2] 48):=⟨_,rfl⟩;rw [<-hh5];have n5:h5.n=he.n+1:=by rw [hh5];exact n4
     have s5:h5.t.get he.n=some (.cells [iv ((w.m.cells.length:Int) - 1 - g.1),iv g.2.1,iv g.2.2.1,iv g.2.2.2] 48):=by rw [hh5,xZR,xZZ,if_pos rfl]
     have f5:Fr he.n he h5:=by rw [hh5];exact f4.set (xZY _) (by omega) _
     clear hh5;have ue5:=(f5.at_ h.n (.inl (by omega))).trans ue;have pe5:=(f5.at_ p (.inl (by omega))).trans pe;have oe5:=oe.fr f5 (xZY _);obtain ⟨hB,hhB,nB,sB,kB,fB⟩:=yH h5 (.cells [iv ((w.m.cells.length:Int) - 1 - g.1),iv g.2.1,iv g.2.2.1,iv g.2.2.2] 48);obtain ⟨hC,p1,p2,p3,p4⟩:=qBW (P:=Tryz.prog) (xt:=xt) (tb:=tb) (by_:=32) (sz:=4) qAa rfl pJ rfl rfl oe5 (by omega) fB nB sB rfl rfl (by omega) (by omega);have pC:=(p3.at_ p (.inl (by omega))).trans pe5;have ovg:=oe.one;refine reg fun K hn hp=> ?_;simp only [sw.1,rE,reduceIte,rL,rA,rD,g3,s5,pe5,jI,bs23,<-hhB,p1,pC];refine hn _ _ (B1 _ ?_);clear hhB;obtain ⟨hD,hhD⟩: ∃hD:Hp,hD=hC.set p (.cells [vc,iv w.m.T,iv w.m.H,.sl (h5.n+1) 0 (k+1) 4,zJ,zJ,w.vt,iv w.kerf] 30):=⟨_,rfl⟩;rw [<-hhD];have nD:hD.n=hC.n:=by rw [hhD];rfl
     have pD:hD.t.get p=some (.cells [vc,iv w.m.T,iv w.m.H,.sl (h5.n+1) 0 (k+1) 4,zJ,zJ,w.vt,iv w.kerf] 30):=by rw [hhD,xZR,xZZ,if_pos rfl]
     have kD: ∀b,b≠p->hD.t.get b=hC.t.get b:=fun b hb=>by rw [hhD,xZR,xZZ,if_neg hb]
     have fD:Fr h.n h hD:=by rw [hhD];exact ((fe.trans f5 (by omega)).trans (p3.lower (by have:=fg.le;omega)) (by omega)).set (by omega) (by omega) _
     clear hhD;refine reg fun K hn hp=> ?_;simp only [sy.1,rE,reduceIte,rL,g6,qQ hk (show w.m.gs.length<=9223372036854775807 by omega)];apply hn;refine ⟨⟨k+1,hD,_,_,rfl,by omega,(by simp [xZZ,g1]),(by simp [xZZ,g3]),(by simp [xZZ,g4]),(by simp [xZZ]),fD,by omega,fun b hb hbp=>(kD b hbp).trans ((p3.at_ b (.inl hb)).trans ((f5.at_ b (.inl (by omega))).trans (ke b hb hbp))),pD,?_⟩,by simpa [xZZ,muB] using (by omega:w.m.gs.length - (k+1)<w.m.gs.length - k)⟩;have e3:(((w.m.gs.take (k+1)).map (flG w.m.cells.length)).map Kn.g4).flatten.map AV.val=((((w.m.gs.take k).map (flG w.m.cells.length)).map Kn.g4).flatten.map AV.val)++[iv ((w.m.cells.length:Int) - 1 - g.1),iv g.2.1,iv g.2.2.1,iv g.2.2.2]:=by
      rw [xZE,hgk];simp [flG,Kn.g4]
     rw [e3];exact p2.keep (by omega) (fun b hb hb2=>kD b (by omega))
    ·refine qC false (by simp only [sy.1,rE,reduceIte,hk]) (fun hx=>by cases hx) (fun _=> ?_);refine qT (B2 _ ?_);obtain rfl:k=w.m.gs.length:=by omega
     rw [xZM (xZY _)] at oe;clear hk;have ovg:=oe.one;have cvg:=oe.cells;have hka:=Mp.ok_k (xZW.1 e1).1;refine hH (fun tm=>tm.get 1=some (.ptr h.n 0)/\tm.get 3=some (.ptr p 0)/\tm.get 4=some (iv ((w.m.cells.length:Int) - 1))) ⟨by simp [xZZ,g1],by simp [xZZ,g3],by simp [xZZ,g4]⟩ fun tm ht=> ?_;clear g1 g3 g4 g6;obtain ⟨g1,g3,g4⟩:=ht;refine qE ?_;refine qA fun K hn hp=> ?_;simp only [sy.1,rL];apply hn;refine qG fun KC C1 C2 C3 C4 C5=> ?_;refine qV (sok xt) (fun st=> ∃(j:Nat) (hi:Hp) (vk:AV) (tm:T AV),st=⟨tm,198,hi,[]⟩/\j<=w.m.ks.length/\tm.get 1=some (.ptr h.n 0)/\tm.get 3=some (.ptr p 0)/\tm.get 4=some (iv ((w.m.cells.length:Int) - 1))/\tm.get 8=some (iv j)/\Fr h.n h hi/\he.n<=hi.n/\(∀b,b<he.n->b≠p->hi.t.get b=he.t.get b)/\hi.t.get p=some (.cells [vc,iv w.m.T,iv w.m.H,vg,vk,zJ,w.vt,iv w.kerf] 30)/\OwnSl hi he.n 3 50 vk j ((((w.m.ks.take j).map (flK w.m.cells.length)).map Kn.k3).flatten.map AV.val)) (fun st=>w.m.ks.length - (match st.tm.get 8 with|some (.val (.int _ n))=>n.toNat|_=>0)) ?_ ?_
     ·rintro st ⟨j,hi,vk,tm,rfl,hkC,g1,g3,g4,g8,fi,li,ki,pi,oi⟩;have muC:=g8;have ui:=(ki h.n (by omega) (by omega)).trans ue;refine qE ?_;refine qA fun K hn hp=> ?_;simp only [sy.1,rE,reduceIte,rL,syw.1,g1,jU,g8,ui,lK];apply hn;by_cases hj:j<w.m.ks.length
      ·refine qC true (by simp only [sy.1,rE,reduceIte,hj]) (fun _=> ?_) (fun hx=>by cases hx);refine qI ?_;refine qG fun KB B1 B2 B3 B4 B5=> ?_;obtain ⟨c,hcj⟩: ∃c,w.m.ks[j]? =some c:=⟨_,xZO hj⟩;obtain ⟨⟨cb1,cb2⟩,⟨cb3,cb4⟩,cb5,cb6,cb7,cb8⟩:=qDi his.m (hka c (xYZ hcj));have hai:=ha.fr fi (xZY _);have i1:=hai.m.ks.idx tg24 rfl hP rfl (i:=j) (by simpa using hj) (k:= .i64);have i2:=hai.m.ks.loadA hP rfl rfl (i:=j) (c:=Kn.k3 c) (by rw [xZJ,hcj];rfl);simp only [Kn.k3,xZC,List.map_nil] at i2;refine qA fun K hn hp=> ?_;simp only [sw.1,rE,reduceIte,rL,rA,al50,g1,g8,ui,i1,i2];obtain ⟨h4,hh4,n4,s4,k4,f4⟩:=nsE hi (.cells [iv 0,iv 0,.val (.bool false)] 50) (.cells [iv c.1,iv c.2.1,.val (.bool c.2.2)] 50);rw [<-hh4];apply hn;clear hh4;have wg:IntKind.i64.wrap ((w.m.cells.length:Int) - 1 - c.1)=(w.m.cells.length:Int) - 1 - c.1:=qM _ (by omega) (by omega);refine qA fun K hn hp=> ?_;simp only [sw.1,rE,reduceIte,rL,rA,rD,g4,s4,wg];apply hn;obtain ⟨h5,hh5⟩: ∃h5:Hp,h5=h4.set hi.n (.cells [iv ((w.m.cells.length:Int) - 1 - c.1),iv c.2.1,.val (.bool c.2.2)] 50):=⟨_,rfl⟩;rw [<-hh5];have n5:h5.n=hi.n+1:=by rw [hh5];exact n4
       have s5:h5.t.get hi.n=some (.cells [iv ((w.m.cells.length:Int) - 1 - c.1),iv c.2.1,.val (.bool c.2.2)] 50):=by rw [hh5,xZR,xZZ,if_pos rfl]
       have f5:Fr hi.n hi h5:=by rw [hh5];exact f4.set (xZY _) (by omega) _
       clear hh5;refine hH (fun tm=>tm.get 1=some (.ptr h.n 0)/\tm.get 3=some (.ptr p 0)/\tm.get 4=some (iv ((w.m.cells.length:Int) - 1))/\tm.get 8=some (iv j)/\tm.get 9=some (.ptr hi.n 0)) ⟨by simp [xZZ,g1],by simp [xZZ,g3],by simp [xZZ,g4],by simp [xZZ,g8],by simp [xZZ]⟩ fun tm ht=> ?_;clear g1 g3 g4 g8;obtain ⟨g1,g3,g4,g8,g9⟩:=ht;refine seq_any fun KK hKK hX=> ?_;have rest: ∀(tm:T AV) (hx:Hp),hx.n=hi.n+1->Fr hi.n hi hx->hx.t.get hi.n=some (.cells [iv (flK w.m.cells.length c).1,iv c.2.1,.val (.bool c.2.2)] 50)->tm.get 1=some (.ptr h.n 0)->tm.get 3=some (.ptr p 0)->tm.get 4=some (iv ((w.m.cells.length:Int) - 1))->tm.get 8=some (iv j)->tm.get 9=some (.ptr hi.n 0)->KK .normal ⟨tm,198,hx,[]⟩:=by
        clear g1 g3 g4 g8 g9 s5 f5 n5 h5;intro tm hx nx fx sx g1 g3 g4 g8 g9;refine hKK _ ?_;clear hX hKK KK;have uix:=(fx.at_ h.n (.inl (by omega))).trans ui;have pix:=(fx.at_ p (.inl (by omega))).trans pi;have oix:=oi.fr fx (xZY _);obtain ⟨hB,hhB,nB,sB,kB,fB⟩:=yH hx (.cells [iv (flK w.m.cells.length c).1,iv c.2.1,.val (.bool c.2.2)] 50);obtain ⟨hC,p1,p2,p3,p4⟩:=qBW (P:=Tryz.prog) (xt:=xt) (tb:=tb) (by_:=24) (sz:=3) tg24 rfl hP rfl rfl oix (by omega) fB nB sB rfl rfl (by omega) (by omega);have pC:=(p3.at_ p (.inl (by omega))).trans pix;have ovk:=oi.one;refine reg fun K hn hp=> ?_;simp only [sw.1,rE,reduceIte,rL,rA,rD,g3,sx,pix,g9,jI,bs24,<-hhB,p1,pC];refine hn _ _ (B1 _ ?_);clear hhB;obtain ⟨hD,hhD⟩: ∃hD:Hp,hD=hC.set p (.cells [vc,iv w.m.T,iv w.m.H,vg,.sl (hx.n+1) 0 (j+1) 3,zJ,w.vt,iv w.kerf] 30):=⟨_,rfl⟩;rw [<-hhD];have nD:hD.n=hC.n:=by rw [hhD];rfl
        have pD:hD.t.get p=some (.cells [vc,iv w.m.T,iv w.m.H,vg,.sl (hx.n+1) 0 (j+1) 3,zJ,w.vt,iv w.kerf] 30):=by rw [hhD,xZR,xZZ,if_pos rfl]
        have kD: ∀b,b≠p->hD.t.get b=hC.t.get b:=fun b hb=>by rw [hhD,xZR,xZZ,if_neg hb]
        have fD:Fr h.n h hD:=by rw [hhD];exact ((fi.trans fx (by omega)).trans (p3.lower (by have:=fe.le;omega)) (by omega)).set (by omega) (by omega) _
        clear hhD;refine reg fun K hn hp=> ?_;simp only [sy.1,rE,reduceIte,rL,g8,qQ hj (show w.m.ks.length<=9223372036854775807 by omega)];apply hn;refine ⟨⟨j+1,hD,_,_,rfl,by omega,(by simp [xZZ,g1]),(by simp [xZZ,g3]),(by simp [xZZ,g4]),(by simp [xZZ]),fD,by omega,fun b hb hbp=>(kD b hbp).trans ((p3.at_ b (.inl hb)).trans ((fx.at_ b (.inl (by omega))).trans (ki b hb hbp))),pD,?_⟩,by simpa [xZZ,muC] using (by omega:w.m.ks.length - (j+1)<w.m.ks.length - j)⟩;have e3:(((w.m.ks.take (j+1)).map (flK w.m.cells.length)).map Kn.k3).flatten.map AV.val=((((w.m.ks.take j).map (flK w.m.cells.length)).map Kn.k3).flatten.map AV.val)++[iv (flK w.m.cells.length c).1,iv c.2.1,.val (.bool c.2.2)]:=by
         rw [xZE,hcj];simp [flK,Kn.k3]
        rw [e3];exact p2.keep (by omega) (fun b hb hb2=>kD b (by omega))
       refine qA fun K hn hp=> ?_;simp only [sy.1,reduceIte,rL,s5,g9];apply hn;cases hd:c.2.2
       ·refine qH false (by simp only [sy.1,rE,reduceIte]) (fun hx=>by cases hx) (fun _=> ?_);refine qX (rest _ h5 n5 f5 ?_ ?_ ?_ ?_ ?_ ?_)
        ·rw [s5,hd];simp [flK,hd]
        all_goals simp [xZZ,g1,g3,g4,g8,g9]
       ·refine qH true (by simp only [sy.1,rE,reduceIte]) (fun _=> ?_) (fun hx=>by cases hx);have wg2:IntKind.i64.wrap ((w.m.cells.length:Int) - 1 - c.1 - 1)=(w.m.cells.length:Int) - 1 - c.1 - 1:=qM _ (by omega) (by omega);refine reg fun K hn hp=> ?_;simp only [sw.1,rE,reduceIte,rL,rA,rD,s5,g9,wg2,hd];refine hn _ _ (rest _ (h5.set hi.n (.cells [iv ((w.m.cells.length:Int) - 1 - c.1 - 1),iv c.2.1,.val (.bool true)] 50)) n5 (f5.set (xZY _) (by omega) _) ?_ ?_ ?_ ?_ ?_ ?_)
        ·rw [xZR,xZZ,if_pos rfl];simp [flK,hd]
        all_goals simp [xZZ,g1,g3,g4,g8,g9]
      ·refine qC false (by simp only [sy.1,rE,reduceIte,hj]) (fun hx=>by cases hx) (fun _=> ?_);refine qT (C2 _ ?_);obtain rfl:j=w.m.ks.length:=by omega
       rw [xZM (xZY _)] at oi;clear hj;have ovk:=oi.one;have tn:=his.turn vc vg vk;have xok:=turn_ok e1 vc vg vk;have cl:w.m.cells.reverse.length=w.m.cells.length:=xZS;have xAt:(w.turn vc vg vk).At xt hi:=by
        have og':OwnSl hi hq.n 1 58 vc (w.m.cells.reverse.map fun l=>l.map Kn.c1).length avs:=by
         rw [xZX,cl];exact og.keep (by omega) fun b hb hb2=>(ki b (by omega) (by omega)).trans (ke b hb2 (by omega))
        refine ⟨⟨own_grid og' fi fun i l hl=> ?_,?_,?_,⟨by simp,by omega,.inl ⟨rfl,rfl⟩⟩,by rw [cl];omega,fun l hl=>ha.m.lr l (xYU.1 hl),by rw [xZX];omega,by rw [xZX];omega,by simp⟩,(ha.fr fi (xZY _)).ts,ha.lt⟩
        ·rw [xZJ,Option.map_eq_some_iff] at hl;obtain ⟨l',hl',rfl⟩:=hl;exact rg i l' hl'
        ·have oe':=oe.keep (h':=hi) (by omega) fun b hb hb2=>ki b hb2 (by omega);refine OwnSl.row (h:=hi) (N:=hg.n) (e:=48) (fun x hx=> ?_) (by omega) ?_
         ·obtain ⟨y,_,rfl⟩:=xZV.1 hx;rfl
         ·rw [xZX,xZX];exact oe'
        ·refine OwnSl.row (h:=hi) (N:=he.n) (e:=50) (fun x hx=> ?_) (by omega) ?_
         ·obtain ⟨y,_,rfl⟩:=xZV.1 hx;rfl
         ·rw [xZX,xZX];exact oi
       obtain ⟨x,hx⟩: ∃x,x=w.turn vc vg vk:=⟨_,rfl⟩;have pix:hi.t.get p=some (.cells x.cs 30):=by rw [hx];exact pi
       rw [<-hx] at tn xok xAt;have hix:=Wk.ok_is xok;have hkx:=Mp.ok_k (xZW.1 xok).1;have kw:w.m.ok=true:=(xZW.1 e1).1;have kx:x.m.ok=true:=(xZW.1 xok).1;obtain ⟨r1,r2,r3,r4,r5⟩:=xAt.ones;obtain ⟨L,L',e,hpk,hpx,hLL,hcase⟩: ∃(L L':Cg) (e:Int),w.pkd=(L,e)/\x.pkd=(L',e)/\L'.2=L.2/\(e=7\/(e=0/\ ∃G G',w.m.bnd=some G/\x.m.bnd=some G'/\ ∀r,r<w.m.cells.length-> ∀c,c<w.m.W->G' r c=G (w.m.cells.length - 1 - r) c)):=by
        simp only [Wk.pkd,e1,xok,if_true];cases hb:w.m.bnd with
        |none=>
         rw [tn.m.bnd_none his.m hix.m hb];exact ⟨_,_,_,rfl,rfl,rfl,.inl rfl⟩
        |some G=>
         obtain ⟨G',hb',hG⟩:=tn.m.bnd his.m hix.m hb;rw [hb'];exact ⟨_,_,_,rfl,rfl,tn.pack his hka hix hkx hG,.inr ⟨rfl,G,G',rfl,rfl,hG⟩⟩
       refine hH (fun tm=>tm.get 1=some (.ptr h.n 0)/\tm.get 3=some (.ptr p 0)/\tm.get 4=some (iv ((w.m.cells.length:Int) - 1))) ⟨by simp [xZZ,g1],by simp [xZZ,g3],by simp [xZZ,g4]⟩ fun tm ht=> ?_;clear g1 g3 g4 g8;obtain ⟨g1,g3,g4⟩:=ht;clear hx pi oi oe og rg ki ke kg;refine qA fun K hn hp=> ?_;simp only [sy.1,reduceIte,rL,rA,g1,ui];refine qB (sok xt) (xYV (packd_c xt hi w (ha.fr fi (xZY _))) fun res h6 hres=> ?_);obtain ⟨f6,z,rfl,cz⟩:=hres;rw [hpk] at cz;rw [hpk];have oz:=cz.one;obtain ⟨w0,w1,w2⟩:=ex_tup3 z (iv L.2) (iv e);simp only [sy.1,rE,reduceIte,rL,w0,w1,w2];apply hn;clear w0 w1 w2;have u6:=(f6.at_ h.n (.inl (by omega))).trans ui;have p6:=(f6.at_ p (.inl (by omega))).trans pix;have l6:=f6.le;refine qA fun K hn hp=> ?_;simp only [sy.1,rE,reduceIte,rL,rA,g3,p6];refine qB (sok xt) (xYV (packd_c xt h6 x (xAt.fr f6 (xZY _))) fun res h7 hres=> ?_);obtain ⟨f7,z',rfl,cz'⟩:=hres;rw [hpx] at cz';rw [hpx,hLL];have oz':=cz'.one;obtain ⟨w0,w1,w2⟩:=ex_tup3 z' (iv L.2) (iv e);simp only [sy.1,rE,reduceIte,rL,w0,w1,w2];apply hn;clear w0 w1 w2;have u7:=(f7.at_ h.n (.inl (by omega))).trans u6;have p7:=(f7.at_ p (.inl (by omega))).trans p6;have l7:=f7.le;have f67:=f6.trans f7 (by omega);refine qE ?_;refine qA fun K hn hp=> ?_;simp only [sy.1,rE,reduceIte,rL];apply hn;refine qC false (by simp only [sy.1,rE,reduceIte]) (fun hx=>by cases hx) (fun _=> ?_);refine qI ?_;refine qE ?_;rcases hcase with rfl|⟨rfl,G,G',hb,hb',hG⟩
       ·refine qA fun K hn hp=> ?_;simp only [sy.1,rE,reduceIte,rL,d70];apply hn;refine qC true (by simp only [sy.1,rE,reduceIte]) (fun _=> ?_) (fun hx=>by cases hx);refine qE ?_;refine qA fun K hn hp=> ?_;simp only [sy.1,rE,reduceIte,rL];refine qB (sok xt) (qA2 xt _ fun m9 hm9=> ?_);simp only [sy.1,rE,reduceIte,rL];refine hn _ _ (jF (qN res6 ?_));simp [xZZ,qAi]
       refine qA fun K hn hp=> ?_;simp only [sy.1,rE,reduceIte,rL];apply hn;refine qC false (by simp only [sy.1,rE,reduceIte]) (fun hx=>by cases hx) (fun _=> ?_);refine qI ?_;refine qA fun K hn hp=> ?_;simp only [sy.1,rE,reduceIte,rL,rA,rD,g1,u7];refine qB (sok xt) (xYV (thick_c xt h7 w.m (ha.fr (fi.trans f67 (by omega)) (xZY _)).m) fun res h8 hres=> ?_);obtain ⟨f8,hres⟩:=hres;rw [kw,hb] at hres;obtain ⟨v,M,rfl,sg,m1',m2'⟩:=hres;have ov:=sg.one;simp only [sy.1,rE,reduceIte,rL,sv.1];apply hn;have u8:=(f8.at_ h.n (.inl (by omega))).trans u7;have p8:=(f8.at_ p (.inl (by omega))).trans p7;have l8:=f8.le;refine qA fun K hn hp=> ?_;simp only [sy.1,rE,reduceIte,rL,rA,rD,g3,p8];refine qB (sok xt) (xYV (thick_c xt h8 x.m (xAt.fr (f67.trans f8 (by omega)) (xZY _)).m) fun res h9 hres=> ?_);obtain ⟨f9,hres⟩:=hres;rw [kx,hb'] at hres;obtain ⟨v',M',rfl,sg',m3',m4'⟩:=hres;have ov':=sg'.one;simp only [sy.1,rE,reduceIte,rL,sv.1];apply hn;have sg9:=sg.fr f9 m2';have xc:x.m.cells.length=w.m.cells.length:=tn.m.len;have xW:x.m.W=w.m.W:=tn.m.W;rw [xc,xW] at sg';have hlA:=sg9.len;have hlB:=sg'.len;have wb:IntKind.i64.wrap ((w.m.cells.length:Int) - 1+1)=(w.m.cells.length:Int):=by rw [qM _ (by omega) (by omega)];omega
       refine hH (fun tm=>tm.get 4=some (iv ((w.m.cells.length:Int) - 1))/\tm.get 16=some v/\tm.get 17=some (iv 0)/\tm.get 18=some v'/\tm.get 19=some (iv 0)) ⟨by simp [xZZ,g4],by simp [xZZ],by simp [xZZ],by simp [xZZ],by simp [xZZ]⟩ fun tm ht=> ?_;clear g1 g3 g4;obtain ⟨g4,g16,g17,g18,g19⟩:=ht;refine qE ?_;refine qA fun K hn hp=> ?_;simp only [sy.1,rE,reduceIte,rL,syw.1,g4,g16,g17,g18,g19,hlA,hlB,wb];apply hn;refine qC false (by simp only [sy.1,rE,reduceIte]) (fun hx=>by cases hx) (fun _=> ?_);refine qI ?_;refine qE ?_;refine qA fun K hn hp=> ?_;simp only [sy.1,rL];apply hn;have hc8:=his.m.c8;have lt9:h.n<h9.n:=by have:=f9.le;omega
       refine qG fun KD D1 D2 D3 D4 D5=> ?_;refine qV (sok xt) (fun st=> ∃(r:Nat) (n:Nat) (tm:T AV),st=⟨tm,198,h9.up n,[]⟩/\r<=w.m.cells.length/\tm.get 4=some (iv ((w.m.cells.length:Int) - 1))/\tm.get 16=some (v)/\tm.get 18=some (v')/\tm.get 20=some (iv r)/\h9.n<=n) (fun st=>w.m.cells.length - (match st.tm.get 20 with|some (.val (.int _ n))=>n.toNat|_=>0)) ?_ ?_
       ·rintro st ⟨r,n,tm,rfl,hkD,g4,g16,g18,g20,hn9⟩;have muD:=g20;refine qE ?_;refine qA fun K hn hp=> ?_;simp only [sy.1,rE,reduceIte,rL,g4,g20];apply hn;by_cases hr:r<w.m.cells.length
        ·have dl:decide ((r:Int)<=(w.m.cells.length:Int) - 1)=true:=decide_eq_true (by omega);refine qC true (by simp only [sy.1,rE,reduceIte,dl]) (fun _=> ?_) (fun hx=>by cases hx);refine qI ?_;refine qG fun KB B1 B2 B3 B4 B5=> ?_;obtain ⟨B,b,rws,za1,za2,za3,za4,za5,za6,za7,za8,za9,_⟩:=sg9.at_ hr;obtain ⟨B',b',rws',zb1,zb2,zb3,zb4,zb5,zb6,zb7,zb8,zb9,_⟩:=sg'.at_ (show w.m.cells.length - 1 - r<w.m.cells.length by omega);have wi:IntKind.i64.wrap ((w.m.cells.length:Int) - 1 - r)=((w.m.cells.length - 1 - r:Nat):Int):=by rw [qM _ (by omega) (by omega)];omega
         have hs:sameR (G r) (G' (w.m.cells.length - 1 - r)) w.m.W=true:=wY fun c hc=>by
          rw [hG _ (by omega) c hc,show w.m.cells.length - 1 - (w.m.cells.length - 1 - r)=r by omega];exact decide_eq_true rfl
         refine yR (sok xt) 0 0 10 [] (by kernel_rfl) fun K hn hp=> ?_;simp only [sy.1,rE,reduceIte,rL,rA,syw.1,g4,g16,g18,g20,za1,za2,za3,zb1,zb2,zb3,wi];refine qB (sok xt) (sspans_c xt (h9.up n) b b' w.m.W (G r) (G' (w.m.cells.length - 1 - r)) za4 zb4 (by omega) fun n2 hn2=> ?_);rw [hs];simp only [xZG] at hn2;simp only [sy.1,rE,reduceIte,rL,Hp.up_up];apply hn;refine qH false (by simp only [sy.1,rE,reduceIte]) (fun hx=>by cases hx) (fun _=> ?_);refine qX (B1 _ ?_);refine reg fun K hn hp=> ?_;simp only [sy.1,rE,reduceIte,rL,g20,qQ hr (show w.m.cells.length<=9223372036854775807 by omega)];apply hn;refine ⟨⟨r+1,n2,_,rfl,by omega,(by simp [xZZ,g4]),(by simp [xZZ,g16]),(by simp [xZZ,g18]),(by simp [xZZ]),by omega⟩,by simpa [xZZ,muD] using (by omega:w.m.cells.length - (r+1)<w.m.cells.length - r)⟩
        ·have dl:decide ((r:Int)<=(w.m.cells.length:Int) - 1)=false:=decide_eq_false (by omega);refine qC false (by simp only [sy.1,rE,reduceIte,dl]) (fun hx=>by cases hx) (fun _=> ?_);refine qT (D2 _ ?_);refine qA fun K hn hp=> ?_;simp only [sy.1];refine qB (sok xt) (qA2 xt _ fun n7 hn7=> ?_);simp only [sy.1,rE,reduceIte,rL];refine hn _ _ (qD (qN res6 ?_));simp [xZZ,qAi]
       ·exact ⟨0,h9.n,_,rfl,(by omega),(by simp [xZZ,g4]),(by simp [xZZ,g16]),(by simp [xZZ,g18]),(by simp [xZZ]),xZY _⟩
     ·exact ⟨0,he,zJ,_,rfl,(by omega),(by simp [xZZ,g1]),(by simp [xZZ,g3]),(by simp [xZZ,g4]),(by simp [xZZ]),fe,xZY _,fun _ _ _=>rfl,pe,OwnSl.nil⟩
   ·exact ⟨0,hg,zJ,_,rfl,(by omega),(by simp [xZZ,g1]),(by simp [xZZ,g3]),(by simp [xZZ,g4]),(by simp [xZZ]),fg,xZY _,fun _ _ _=>rfl,pg,OwnSl.nil⟩
 ·exact ⟨0,hq,zJ,[],_,rfl,(by omega),(by simp [xZZ,g1]),(by simp [xZZ,g3]),(by simp [xZZ,g4]),(by simp [xZZ]),fq,xZY _,fun _ _ _=>rfl,pq,OwnSl.nil,fun i l hl=>by simp at hl⟩
end Go.Proofs.Kn
