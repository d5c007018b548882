/- Parts. -/
import Derived.Test.YthimlgffanlomaaGreatDoorQN
set_option linter.all false
open Nat renaming reduceEqDiff → rE, reduceLeDiff → rD, reduceAdd → rA, reduceMul → rM, reduceLT → rL
open Go.Ev.T renaming get_put → xZZ
open Nat renaming le_refl → xZY, le_of_lt → xZR, not_lt_zero → xZO
open Go.Ev.Hp renaming up_up → xZX, up_n → xZS, set_t → xZD
open Bool renaming false_and → xZW, and_false → xZV, false_ne_true → xZM, eq_false_iff → xZK, not_true → xZF, false_eq_true → xZE
open List renaming getElem?_eq_getElem → xZU, mem_of_getElem? → xZT, getElem?_map → xZQ, getD_eq_getElem?_getD → xZN, any_eq_false → xZL, take_of_length_le → xZJ, mem_singleton → xZG, mem_append → xZC, take_succ → xZB, map_cons → xZA, map_nil → xYZ, getElem_of_mem → xYY, all_eq_true → xYX
open Int renaming toNat_natCast → xZP
open Go.Ev.Fr renaming refl → xZI
open Option renaming toList_some → xZH
namespace Go.Proofs.Kn
open Go Go.Ev
set_option maxRecDepth 100000
set_option maxHeartbeats 4000000
theorem ft39 (xt:Xt):(SE xt).ft.get 97=some Tryz.f97:=by kernel_rfl
theorem res39:Tryz.f97.results.toList=[.tmp 2]:=by kernel_rfl
theorem Mp.row_no {m:Mp} {r:Nat} (hr:r<m.cells.length) (h:m.rowOk (m.cells.getD r [])=false):m.ok=false:=by
 have:m.cells.all m.rowOk=false:=by
  rw [List.all_eq_false];exact ⟨_,xZT (getD_some [] hr),by rw [h];exact xZM⟩
 simp only [Mp.ok,this,xZW,xZV]
theorem Mp.rest_no {m:Mp} (h:m.restOk=false):m.ok=false:=by simp only [Mp.ok,h,xZV]
theorem qCk {α:Type} {p:α->Bool} {l:List α} {x:α} (hx:x∈l) (h:p x=true):l.any p=true:=List.any_eq_true.2 ⟨x,hx,h⟩
theorem Mp.g_no {m:Mp} {x:Int×Int×Int×Int} (hx:x∈m.gs) (h:m.badG x=true):m.ok=false:=m.rest_no (by
 have:m.gs.any m.badG=true:=qCk hx h;simp only [Mp.restOk,this,xZF,xZW,xZV])
theorem Mp.k_no {m:Mp} {x:Int×Int×Bool} (hx:x∈m.ks) (h:m.badK x=true):m.ok=false:=m.rest_no (by
 have:m.ks.any m.badK=true:=qCk hx h;simp only [Mp.restOk,this,xZF,xZW,xZV])
theorem Mp.p_no {m:Mp} {x:Int×Int} (hx:x∈m.ps) (h:m.is x.1 x.2 2=false):m.ok=false:=m.rest_no (by
 have:m.ps.any (fun p=> !m.is p.1 p.2 2)=true:=qCk hx (by rw [h];rfl);simp only [Mp.restOk,this,xZF,xZV])
theorem Mp.rc_in {m:Mp} (hr:m.Rect) (r c:Int):m.rc r c=if m.inside r c then m.kind r c else 1:=by
 have hrow: ∀i,i<m.cells.length->(m.cells.getD i []).length=m.W:=fun i hi=>hr _ (xZT (getD_some [] hi));have hWC:(m.W:Int)=m.C:=rfl;simp only [Mp.rc];by_cases h1:0<=r/\r<m.R
 ·obtain ⟨i,rfl⟩: ∃i:Nat,r=i:=⟨r.toNat,by omega⟩;have hi:i<m.cells.length:=by have:=h1.2;unfold Mp.R at this;omega
  have e1:inB (i:Int) 0 (m.R - 1)=true:=xU.2 ⟨by omega,by omega⟩;rw [e1,Bool.true_and,xZP,hrow i hi];by_cases h2:0<=c/\c<m.C
  ·have e2:inB c 0 ((m.W:Int) - 1)=true:=xU.2 ⟨by omega,by omega⟩;have e3:m.inside i c=true:=Mp.inside_iff.2 ⟨h1,h2⟩;rw [e2,e3,if_pos rfl,if_pos rfl];have hc:c.toNat<(m.cells.getD i []).length:=by rw [hrow i hi];omega
   have hg:(m.cells[i]?).getD []=m.cells.getD i []:=by rw [xZN]
   simp only [Mp.kind,xZP,hg];rw [getD_some 0 hc];rfl
  ·have e2:inB c 0 ((m.W:Int) - 1)=false:=by
    rw [xZK];intro h;have:=xU.1 h;exact h2 ⟨this.1,by omega⟩
   have e3:m.inside i c=false:=by rw [xZK];intro h;exact h2 (Mp.inside_iff.1 h).2
   rw [e2,e3];rfl
 ·have e1:inB r 0 (m.R - 1)=false:=by
   rw [xZK];intro h;have:=xU.1 h;exact h1 ⟨this.1,by omega⟩
  have e3:m.inside r c=false:=by rw [xZK];intro h;exact h1 (Mp.inside_iff.1 h).1
  rw [e1,e3];rfl
theorem Mp.badG_rc {m:Mp} (hr:m.Rect) (x:Int×Int×Int×Int):m.badG x=(decide (m.rc x.1 x.2.1=1) || (!inB x.2.2.1 0 60 || !inB x.2.2.2 0 9)):=by
 rw [Mp.rc_in hr];simp only [Mp.badG,Mp.is];cases m.inside x.1 x.2.1<;>simp
theorem Mp.is_rc {m:Mp} (hr:m.Rect) (r c:Int):m.is r c 2=decide (m.rc r c=2):=by
 rw [Mp.rc_in hr];simp only [Mp.is];cases m.inside r c<;>simp
theorem rmap_c (xt:Xt) (h:Hp) (m:Mp) (ha:m.At xt h) {K:KP} (hk: ∀n,h.n<n->K (.ret (.val (.bool m.ok))) (h.up n)):FnA (SE xt) 97 [m.av] h K:=by
 refine FnA.calm ?_ hk;clear hk K;refine FnA.walk (sok xt) (ft39 xt) rfl 192 rfl ?_;obtain ⟨o1,o2,o3,o4,o5⟩:=ha.wk.ones;have hl23:=fun h':Hp=>(ha.gs).len (h':=h') qAs rfl;have hl24:=fun h':Hp=>(ha.ks).len (h':=h') tg24 rfl;have hl25:=fun h':Hp=>(ha.ps).len (h':=h') tg25 rfl;simp only [List.length_map] at hl23 hl24 hl25;refine qA fun K hn hp=> ?_;simp only [sw.1,reduceIte,rL];apply hn;clear hn hp K;obtain ⟨h1,hh1,nh1,sh1,_,fbh1⟩:=nwE h (.cells m.cs 27);rw [<-hh1];have fh1:=fbh1;have ha1:=ha.fr fh1 (xZY _);have retF: ∀(n:Nat) (tm:T AV),h1.n<=n->tm.get 2=some (.val (.bool false))->m.ok=false->xX (SE xt) Tryz.f97 (fun r h'=>r= .ret (.val (.bool m.ok))/\Fr h.n h h') .ret ⟨tm,192,h1.up n,[]⟩:=fun n tm hn g hm=>qK res39 ⟨by simp [g,hm],fh1.up hn⟩;refine qB fun K hn hp=> ?_;simp only [sy.1,rE,reduceIte,rL,rA,sh1];refine cAS (kH xt h1 m ha1 fun n1 hn1=> ?_);simp only [sy.1,rE,reduceIte,rL];refine cAS (kG xt _ _ _ _ fun n2 hn2=> ?_);simp only [xZS] at hn2;cases b1:inB m.cells.length 1 6
 ·have b1':=b1;unfold inB at b1';simp only [sy.1,rE,reduceIte,rL,b1',xZX];apply hn;clear hn hp K;refine qX (by simp only [sy.1,rE,reduceIte]) ?_;refine qB fun K hn hp=> ?_;simp only [sy.1,rL];apply hn;clear hn hp K;refine qS (retF _ _ (by omega) (by simp [xZZ]) (by simp only [Mp.ok,Mp.R,b1,xZW]))
 have b1':=b1;unfold inB at b1';simp only [sy.1,rE,reduceIte,rL,rA,sh1,b1',xZX];refine cAS (kK xt _ m (ha1.up (by omega)) fun n3 hn3=> ?_);simp only [xZS] at hn3;simp only [sy.1,rE,reduceIte,rL,xZX];refine cAS (kG xt _ _ _ _ fun n4 hn4=> ?_);simp only [xZS] at hn4;have hpos:0<m.cells.length:=by have:=xU.1 b1;omega
 cases b2:inB m.W 1 8
 ·have b2':=b2;unfold inB at b2';simp only [sy.1,rE,reduceIte,rL,b2',xZX];apply hn;clear hn hp K;refine qX (by simp only [sy.1,rE,reduceIte]) ?_;refine qB fun K hn hp=> ?_;simp only [sy.1,rL];apply hn;clear hn hp K;refine qS (retF _ _ (by omega) (by simp [xZZ]) (Mp.row_no hpos ?_));have e0:m.cells.getD 0 []=m.cells.headD []:=by cases m.cells<;>rfl
  simp only [Mp.rowOk,e0];have b2:inB (m.cells.headD []).length 1 8=false:=b2;simp only [b2,xZW,xZV]
 have b2':=b2;unfold inB at b2';simp only [sy.1,rE,reduceIte,rL,sh1,b2',xZX];refine cAS (kG xt _ _ _ _ fun n5 hn5=> ?_);simp only [xZS] at hn5;cases b3:inB m.T 0 9
 ·have b3':=b3;unfold inB at b3';simp only [sy.1,rE,reduceIte,rL,b3',xZX];apply hn;clear hn hp K;refine qX (by simp only [sy.1,rE,reduceIte]) ?_;refine qB fun K hn hp=> ?_;simp only [sy.1,rL];apply hn;clear hn hp K;refine qS (retF _ _ (by omega) (by simp [xZZ]) (Mp.rest_no (by simp only [Mp.restOk,b3,xZW])))
 have b3':=b3;unfold inB at b3';simp only [sy.1,rE,reduceIte,rL,sh1,b3',xZX];refine cAS (kG xt _ _ _ _ fun n6 hn6=> ?_);simp only [xZS] at hn6;cases b4:inB m.H 0 3
 ·have b4':=b4;unfold inB at b4';simp only [sy.1,rE,reduceIte,rL,b4',xZX];apply hn;clear hn hp K;refine qX (by simp only [sy.1,rE,reduceIte]) ?_;refine qB fun K hn hp=> ?_;simp only [sy.1,rL];apply hn;clear hn hp K;refine qS (retF _ _ (by omega) (by simp [xZZ]) (Mp.rest_no (by simp only [Mp.restOk,b4,xZW,xZV])))
 have b4':=b4;unfold inB at b4';cases b5:decide ((8:Int)<m.gs.length)
 rotate_left
 ·simp only [sy.1,rE,reduceIte,rL,syw.1,hl23,sh1,b4',xZX,b5];apply hn;clear hn hp K;refine qX (by simp only [sy.1,rE,reduceIte]) ?_;refine qB fun K hn hp=> ?_;simp only [sy.1,rL];apply hn;clear hn hp K;have b5':decide ((m.gs.length:Int)<=8)=false:=decide_eq_false (by have:=of_decide_eq_true b5;omega);refine qS (retF _ _ (by omega) (by simp [xZZ]) (Mp.rest_no (by simp only [Mp.restOk,b5',xZW,xZV])))
 have b5':decide ((m.gs.length:Int)<=8)=true:=decide_eq_true (by have:=of_decide_eq_false b5;omega);cases b6:decide ((8:Int)<m.ks.length)
 rotate_left
 ·simp only [sy.1,rE,reduceIte,rL,syw.1,hl23,hl24,sh1,b4',xZX,b5,b6];apply hn;clear hn hp K;refine qX (by simp only [sy.1,rE,reduceIte]) ?_;refine qB fun K hn hp=> ?_;simp only [sy.1,rL];apply hn;clear hn hp K;have b6':decide ((m.ks.length:Int)<=8)=false:=decide_eq_false (by have:=of_decide_eq_true b6;omega);refine qS (retF _ _ (by omega) (by simp [xZZ]) (Mp.rest_no (by simp only [Mp.restOk,b6',xZW,xZV])))
 have b6':decide ((m.ks.length:Int)<=8)=true:=decide_eq_true (by have:=of_decide_eq_false b6;omega);cases b7:decide ((12:Int)<m.ps.length)
 rotate_left
 ·simp only [sy.1,rE,reduceIte,rL,syw.1,hl23,hl24,hl25,sh1,b4',xZX,b5,b6,b7];apply hn;clear hn hp K;refine qX (by simp only [sy.1,rE,reduceIte]) ?_;refine qB fun K hn hp=> ?_;simp only [sy.1,rL];apply hn;clear hn hp K;have b7':decide ((m.ps.length:Int)<=12)=false:=decide_eq_false (by have:=of_decide_eq_true b7;omega);refine qS (retF _ _ (by omega) (by simp [xZZ]) (Mp.rest_no (by simp only [Mp.restOk,b7',xZW,xZV])))
 have b7':decide ((m.ps.length:Int)<=12)=true:=decide_eq_true (by have:=of_decide_eq_false b7;omega);simp only [sy.1,rE,reduceIte,rL,syw.1,hl23,hl24,hl25,sh1,b4',xZX,b5,b6,b7];apply hn;clear hn hp K;refine jL (by simp only [sy.1,rE,reduceIte]) ?_;refine qB fun K hn hp=> ?_;simp only [sy.1,rL];apply hn;clear hn hp K;have hRb:=xU.1 b1;have hWb:=xU.1 b2;have hlc:=ha.lc;refine qC fun KA A1 A2 A3 A4 A5=> ?_;refine qI (sok xt) (fun st=> ∃(r:Nat) (n:Nat) (tm:T AV),st=⟨tm,192,h1.up n,[]⟩/\r<=m.cells.length/\tm.get 1=some (.ptr h.n 0)/\tm.get 3=some (iv r)/\h1.n<=n/\ ∀j,j<r->m.rowOk (m.cells.getD j [])=true) (fun st=>m.cells.length - (match st.tm.get 3 with|some (.val (.int _ n))=>n.toNat|_=>0)) ?_ ?_
 ·rintro st ⟨r,n,tm,rfl,hkA,g1,g3,hna,hrows⟩;have muA:=g3;refine qB fun K hn hp=> ?_;simp only [sy.1,rE,reduceIte,rL,rA,sh1,g1,g3];refine cAS (kH xt _ m (ha1.up hna) fun n7 hn7=> ?_);simp only [xZS] at hn7;simp only [sy.1,rE,reduceIte,rL,qR,xZX];apply hn;clear hn hp K;by_cases hr:r<m.cells.length
  ·refine qX (by simp only [sy.1,rE,reduceIte,hr]) ?_;obtain ⟨v,i1,i2,i3,i4⟩:=ha.rowF hr;have i2:=i2 h1 fh1;obtain ⟨l,hl⟩: ∃l,l=m.cells.getD r []:=⟨_,rfl⟩;rw [<-hl] at i3 i4;refine zD ?_;refine qC fun KB B1 B2 B3 B4 B5=> ?_;refine jP ?_;refine qW (sok xt) 0 0 9 [(1,1),(4,1),(5,1)] (by kernel_rfl) fun K hn hp=> ?_;simp only [sy.1,rE,reduceIte,rL,rA,syw.1,sh1,g1,g3,i1,i2,i4];refine cAS (kK xt _ m (ha1.up (by omega)) fun n8 hn8=> ?_);simp only [xZS] at hn8;simp only [sy.1,rE,reduceIte,rL,rA,syw.1,sh1,i2,i4,hn8,xZX];apply hn;clear hn hp K;cases q:decide ((l.length:Int)=m.W)
   ·refine qX (by simp only [sy.1,rE,reduceIte]) ?_;refine qB fun K hn hp=> ?_;simp only [sy.1,rL];apply hn;clear hn hp K;refine qS (B4 _ (A4 _ (retF _ _ (by omega) (by simp [xZZ]) (Mp.row_no hr ?_))));rw [<-hl];have q:decide ((l.length:Int)=m.C)=false:=q;simp only [Mp.rowOk,q,xZW]
   refine jL (by simp only [sy.1,rE,reduceIte]) ?_;refine qA fun K hn hp=> ?_;simp only [sy.1,rL];apply hn;clear hn hp K;have hlW:l.length=m.W:=by have:=of_decide_eq_true q;omega
   refine qY fun KD D1 D2 D3 D4 D5=> ?_;refine qI (sok xt) (fun st=> ∃(c:Nat) (nc:Nat) (tm:T AV),st=⟨tm,192,h1.up nc,[]⟩/\c<=m.W/\tm.get 1=some (.ptr h.n 0)/\tm.get 3=some (iv r)/\tm.get 4=some (iv c)/\h1.n<=nc/\ ∀j,j<c->vE (l.getD j 0)=false) (fun st=>m.W - (match st.tm.get 4 with|some (.val (.int _ n))=>n.toNat|_=>0)) ?_ ?_
   ·rintro st ⟨c,nc,tm,rfl,hkD,g1,g3,g4,hnc,hcols⟩;have muD:=g4;refine qB fun K hn hp=> ?_;simp only [sy.1,rE,reduceIte,rL,rA,sh1,g1,g4];refine cAS (kK xt _ m (ha1.up hnc) fun n9 hn9=> ?_);simp only [xZS] at hn9;simp only [sy.1,rE,reduceIte,rL,qR,xZX];apply hn;clear hn hp K;by_cases hc:c<m.W
    ·refine qX (by simp only [sy.1,rE,reduceIte,hc]) ?_;obtain ⟨x1,x2⟩:=(i3.fr fh1 (xZY _)).m58 (k:=c) (by omega);have no:vE (l.getD c 0)=true->m.ok=false:=fun hb=>Mp.row_no hr (by
      rw [<-hl];have:l.any vE=true:=qCk (xZT (getD_some 0 (show c<l.length by omega))) hb;simp only [Mp.rowOk,this,xZF,xZV])
     refine zD ?_;refine qC fun KE E1 E2 E3 E4 E5=> ?_;cases q1:decide (l.getD c 0<1)
     ·cases q2:decide (3<l.getD c 0)
      ·refine qA fun K hn hp=> ?_;simp only [sy.1,rE,reduceIte,rL,syw.1,sh1,g1,g3,i1,i2,g4,x1,x2,q1,q2];apply hn;clear hn hp K;refine wcF (by simp only [sy.1,rE,reduceIte]) ?_;refine qN (E1 _ ?_);refine reg fun K hn hp=> ?_;simp only [sy.1,rE,reduceIte,rL,g4,qE hc (show m.W<=9223372036854775807 by omega)];apply hn;clear hn hp K;refine ⟨⟨c+1,n9,_,rfl,by omega,(by simp [xZZ,g1]),(by simp [xZZ,g3]),(by simp [xZZ]),by omega,fun j hj=> ?_⟩,by simpa [xZZ,muD] using (by omega:m.W - (c+1)<m.W - c)⟩;by_cases e:j=c
       ·rw [e];simp only [vE,q1,q2];rfl
       ·exact hcols j (by omega)
      ·refine qA fun K hn hp=> ?_;simp only [sy.1,rE,reduceIte,rL,syw.1,sh1,g1,g3,i1,i2,g4,x1,x2,q1,q2];apply hn;clear hn hp K;refine wcT (by simp only [sy.1,rE,reduceIte]) ?_;refine qA fun K hn hp=> ?_;simp only [sy.1,rL];apply hn;clear hn hp K;refine qD (E4 _ (D4 _ (B4 _ (A4 _ (retF _ _ (by omega) (by simp [xZZ]) (no (by simp only [vE,q1,q2];rfl)))))))
     ·refine qA fun K hn hp=> ?_;simp only [sy.1,rE,reduceIte,rL,syw.1,sh1,g1,g3,i1,i2,g4,x1,x2,q1];apply hn;clear hn hp K;refine wcT (by simp only [sy.1,rE,reduceIte]) ?_;refine qA fun K hn hp=> ?_;simp only [sy.1,rL];apply hn;clear hn hp K;refine qD (E4 _ (D4 _ (B4 _ (A4 _ (retF _ _ (by omega) (by simp [xZZ]) (no (by simp only [vE,q1];rfl)))))))
    ·refine qU (by simp only [sy.1,rE,reduceIte,hc]) ?_;refine qG (D2 _ (B1 _ ?_));refine reg fun K hn hp=> ?_;simp only [sy.1,rE,reduceIte,rL,g3,qE hr hlc];apply hn;clear hn hp K;refine ⟨⟨r+1,n9,_,rfl,by omega,(by simp [xZZ,g1]),(by simp [xZZ]),by omega,fun j hj=> ?_⟩,by simpa [xZZ,muA] using (by omega:m.cells.length - (r+1)<m.cells.length - r)⟩;by_cases e:j=r
     ·rw [e,<-hl];have h1:decide ((l.length:Int)=m.C)=true:=decide_eq_true (by rw [hlW];rfl);have h2:inB l.length 1 8=true:=by rw [hlW];exact b2
      have h3:l.any vE=false:=by
       rw [xZL];intro x hx;obtain ⟨j,hj,rfl⟩:=xYY hx;have:=hcols j (by omega);rw [xZN,xZU hj] at this;simpa using this
      simp only [Mp.rowOk,h1,h2,h3];rfl
     ·exact hrows j (by omega)
   ·exact ⟨0,n8,_,rfl,(by omega),(by simp [xZZ,g1]),(by simp [xZZ,g3]),(by simp [xZZ]),by omega,fun j hj=>absurd hj (xZO _)⟩
  ·refine qU (by simp only [sy.1,rE,reduceIte,hr]) ?_;have hall:m.cells.all m.rowOk=true:=by
    rw [xYX];intro l hl;obtain ⟨j,hj,rfl⟩:=xYY hl;have:=hrows j (by omega)
    rwa [xZN,xZU hj] at this
   have hrect:m.Rect:=fun l hl=>by
    have:=xYX.1 hall l hl;simp only [Mp.rowOk,Bool.and_eq_true,decide_eq_true_eq] at this;have h1:(l.length:Int)=(m.cells.headD []).length:=this.1;omega
   refine qG (A2 _ ?_);refine qB fun K hn hp=> ?_;simp only [sy.1,rL];apply hn;clear hn hp K;refine qC fun KG G1 G2 G3 G4 G5=> ?_;refine qI (sok xt) (fun st=> ∃(i:Nat) (hg:Hp) (tm:T AV),st=⟨tm,192,hg,[]⟩/\i<=m.gs.length/\tm.get 1=some (.ptr h.n 0)/\tm.get 5=some (iv i)/\Fr h1.n h1 hg/\ ∀x∈m.gs.take i,m.badG x=false) (fun st=>m.gs.length - (match st.tm.get 5 with|some (.val (.int _ n))=>n.toNat|_=>0)) ?_ ?_
   ·rintro st ⟨i,hg,tm,rfl,hkG,g1,g5,fg,hallg⟩;have muG:=g5;have fgh:=fh1.trans fg (by omega);have q1:=(fg.at_ h.n (.inl (by omega))).trans sh1;refine qB fun K hn hp=> ?_;simp only [sy.1,rE,reduceIte,rL,syw.1,qR,hl23,g1,g5,q1];apply hn;clear hn hp K;by_cases hi:i<m.gs.length
    ·refine qX (by simp only [sy.1,rE,reduceIte,hi]) ?_;have hag:=ha.fr fgh (xZY _);obtain ⟨x,hx⟩: ∃x,m.gs[i]? =some x:=⟨_,xZU hi⟩;have i1:=hag.gs.idx qAs rfl gD rfl (i:=i) (by simpa using hi) (k:= .i64);have i2:=hag.gs.loadA gD rfl rfl (i:=i) (c:=Kn.g4 x) (by rw [xZQ,hx];rfl);have hbad:=m.badG_rc hrect x;have gno:m.badG x=true->m.ok=false:=fun hb=>Mp.g_no (xZT hx) hb;have gyes:m.badG x=false-> ∀y∈m.gs.take (i+1),m.badG y=false:=fun hb=>by
      rw [xZB,hx];intro y hy;simp only [xZH,xZC,xZG] at hy;rcases hy with hy|rfl
      ·exact hallg y hy
      ·exact hb
     obtain ⟨xr,xc,xs,xo⟩:=x;simp only [Kn.g4,xZA,xYZ] at i2 hbad;refine zD ?_;refine qC fun KH H1 H2 H3 H4 H5=> ?_;refine qA fun K hn hp=> ?_;simp only [sw.1,rE,reduceIte,rL,rA,al48,g1,g5,i1,i2,q1];apply hn;clear hn hp K;obtain ⟨h9,hh9,nh9,sh9,_,fbh9⟩:=nwS hg (.cells [iv 0,iv 0,iv 0,iv 0] 117) (.cells [iv xr,iv xc,iv xs,iv xo] 117);rw [<-hh9];have f9:=fg.trans fbh9 fg.lo;have q9:=(f9.at_ h.n (.inl (by omega))).trans sh1;refine qA fun K hn hp=> ?_;simp only [sy.1,rE,reduceIte,rL,rA,g1,sh9,q9];refine cAS (rc_c xt h9 m (ha1.fr f9 (xZY _)) xr xc fun n9 hn9=> ?_);have retG: ∀(n:Nat) (tm:T AV),h9.n<=n->tm.get 2=some (.val (.bool false))->m.badG (xr,xc,xs,xo)=true->xX (SE xt) Tryz.f97 (fun r h'=>r= .ret (.val (.bool m.ok))/\Fr h.n h h') .ret ⟨tm,192,h9.up n,[]⟩:=fun n tm hn g hm=>qK res39 ⟨by simp [g,gno hm],(fh1.trans f9 (by omega)).up hn⟩;by_cases c1:m.rc xr xc=1
     ·simp only [sy.1,rE,reduceIte,rL,decide_eq_true c1];apply hn;clear hn hp K;refine wcT (by simp only [sy.1,rE,reduceIte]) ?_;refine qA fun K hn hp=> ?_;simp only [sy.1,rL];apply hn;clear hn hp K;refine qD (H4 _ (G4 _ (retG _ _ (by omega) (by simp [xZZ]) (by rw [hbad,decide_eq_true c1];rfl))))
     simp only [sy.1,rE,reduceIte,rL,sh9,decide_eq_false c1];refine cAS (kG xt _ _ _ _ fun n10 hn10=> ?_);simp only [xZS] at hn10;cases c2:inB xs 0 60
     ·have c2':=c2;unfold inB at c2';simp only [sy.1,rE,reduceIte,rL,c2',xZX];apply hn;clear hn hp K;refine wcT (by simp only [sy.1,rE,reduceIte]) ?_;refine qA fun K hn hp=> ?_;simp only [sy.1,rL];apply hn;clear hn hp K;refine qD (H4 _ (G4 _ (retG _ _ (by omega) (by simp [xZZ]) (by rw [hbad,c2];simp))))
     have c2':=c2;unfold inB at c2';simp only [sy.1,rE,reduceIte,rL,sh9,c2',xZX];refine cAS (kG xt _ _ _ _ fun n11 hn11=> ?_);simp only [xZS] at hn11;cases c3:inB xo 0 9
     ·have c3':=c3;unfold inB at c3';simp only [sy.1,rE,reduceIte,rL,c3',xZX];apply hn;clear hn hp K;refine wcT (by simp only [sy.1,rE,reduceIte]) ?_;refine qA fun K hn hp=> ?_;simp only [sy.1,rL];apply hn;clear hn hp K;refine qD (H4 _ (G4 _ (retG _ _ (by omega) (by simp [xZZ]) (by rw [hbad,c3];simp))))
     have c3':=c3;unfold inB at c3';simp only [sy.1,rE,reduceIte,rL,c3',xZX];apply hn;clear hn hp K;refine wcF (by simp only [sy.1,rE,reduceIte]) ?_;refine qN (H1 _ ?_);refine reg fun K hn hp=> ?_;simp only [sy.1,rE,reduceIte,rL,g5,qE hi ha.lg];apply hn;clear hn hp K;refine ⟨⟨i+1,_,_,rfl,by omega,(by simp [xZZ,g1]),(by simp [xZZ]),f9.up (by omega),gyes (by rw [hbad,decide_eq_false c1,c2,c3];rfl)⟩,by simpa [xZZ,muG] using (by omega:m.gs.length - (i+1)<m.gs.length - i)⟩
    ·refine qU (by simp only [sy.1,rE,reduceIte,hi]) ?_;rw [xZJ (by omega)] at hallg;refine qG (G2 _ ?_);refine qB fun K hn hp=> ?_;simp only [sy.1,rL];apply hn;clear hn hp K;refine qC fun KP P1 P2 P3 P4 P5=> ?_;refine qI (sok xt) (fun st=> ∃(i:Nat) (hk:Hp) (tm:T AV),st=⟨tm,192,hk,[]⟩/\i<=m.ks.length/\tm.get 1=some (.ptr h.n 0)/\tm.get 7=some (iv i)/\Fr h1.n h1 hk/\ ∀x∈m.ks.take i,m.badK x=false) (fun st=>m.ks.length - (match st.tm.get 7 with|some (.val (.int _ n))=>n.toNat|_=>0)) ?_ ?_
     ·rintro st ⟨i,hk,tm,rfl,hkP,g1,g7,fk,hallk⟩;have muP:=g7;have fkh:=fh1.trans fk (by omega);have q1:=(fk.at_ h.n (.inl (by omega))).trans sh1;refine qB fun K hn hp=> ?_;simp only [sy.1,rE,reduceIte,rL,syw.1,qR,hl24,g1,g7,q1];apply hn;clear hn hp K;by_cases hi:i<m.ks.length
      ·refine qX (by simp only [sy.1,rE,reduceIte,hi]) ?_;have hag:=ha.fr fkh (xZY _);obtain ⟨x,hx⟩: ∃x,m.ks[i]? =some x:=⟨_,xZU hi⟩;have i1:=hag.ks.idx tg24 rfl qBY rfl (i:=i) (by simpa using hi) (k:= .i64);have i2:=hag.ks.loadA qBY rfl rfl (i:=i) (c:=Kn.k3 x) (by rw [xZQ,hx];rfl);have kno:m.badK x=true->m.ok=false:=fun hb=>Mp.k_no (xZT hx) hb;have kyes:m.badK x=false-> ∀y∈m.ks.take (i+1),m.badK y=false:=fun hb=>by
        rw [xZB,hx];intro y hy;simp only [xZH,xZC,xZG] at hy;rcases hy with hy|rfl
        ·exact hallk y hy
        ·exact hb
       obtain ⟨xr,xc,xd⟩:=x;simp only [Kn.k3,xZA,xYZ] at i2;refine zD ?_;refine qC fun KH H1 H2 H3 H4 H5=> ?_;refine qA fun K hn hp=> ?_;simp only [sw.1,rE,reduceIte,rL,rA,al50,g1,g7,i1,i2,q1];apply hn;clear hn hp K;obtain ⟨h9,hh9,nh9,sh9,_,fbh9⟩:=nwS hk (.cells [iv 0,iv 0,.val (.bool false)] 120) (.cells [iv xr,iv xc,.val (.bool xd)] 120);rw [<-hh9];have f9:=fk.trans fbh9 fk.lo;have q9:=(f9.at_ h.n (.inl (by omega))).trans sh1;have retK: ∀(n:Nat) (tm:T AV),h9.n<=n->tm.get 2=some (.val (.bool false))->m.badK (xr,xc,xd)=true->xX (SE xt) Tryz.f97 (fun r h'=>r= .ret (.val (.bool m.ok))/\Fr h.n h h') .ret ⟨tm,192,h9.up n,[]⟩:=fun n tm hn g hm=>qK res39 ⟨by simp [g,kno hm],(fh1.trans f9 (by omega)).up hn⟩;refine qA fun K hn hp=> ?_;simp only [sy.1,rE,reduceIte,rL,rA,g1,sh9,q9];refine cAS (qEg xt h9 m (ha1.fr f9 (xZY _)) xr xc fun n9 hn9=> ?_);cases c1:m.inside xr xc
       ·simp only [sy.1,rE,reduceIte,rL,syw.1];apply hn;clear hn hp K;refine wcT (by simp only [sy.1,rE,reduceIte]) ?_;refine qA fun K hn hp=> ?_;simp only [sy.1,rL];apply hn;clear hn hp K;refine qD (H4 _ (P4 _ (retK _ _ (by omega) (by simp [xZZ]) (by simp only [Mp.badK,c1];rfl))))
       cases xd with
       |false=>
        simp only [sy.1,rE,reduceIte,rL,rA,g1,sh9,q9];refine cAS (qEg xt (h9.up n9) m ((ha1.fr f9 (xZY _)).up (by omega)) xr (IntKind.i64.wrap (xc+1)) fun n10 hn10=> ?_);simp only [xZS] at hn10;cases c2:m.inside xr (IntKind.i64.wrap (xc+1))
        ·simp only [sy.1,rE,reduceIte,rL,xZX];apply hn;clear hn hp K;refine wcT (by simp only [sy.1,rE,reduceIte]) ?_;refine qA fun K hn hp=> ?_;simp only [sy.1,rL];apply hn;clear hn hp K;refine qD (H4 _ (P4 _ (retK _ _ (by omega) (by simp [xZZ]) (by simp only [Mp.badK,bZ,b8,c1,c2,xZE,if_false];rfl))))
        ·simp only [sy.1,rE,reduceIte,rL,xZX];apply hn;clear hn hp K;refine wcF (by simp only [sy.1,rE,reduceIte]) ?_;refine qN (H1 _ ?_);refine reg fun K hn hp=> ?_;simp only [sy.1,rE,reduceIte,rL,g7,qE hi ha.lk];apply hn;clear hn hp K;refine ⟨⟨i+1,_,_,rfl,by omega,(by simp [xZZ,g1]),(by simp [xZZ]),f9.up (by omega),kyes (by simp only [Mp.badK,bZ,b8,c1,c2,xZE,if_false];rfl)⟩,by simpa [xZZ,muP] using (by omega:m.ks.length - (i+1)<m.ks.length - i)⟩
       |true=>
        simp only [sy.1,rE,reduceIte,rL,rA,g1,sh9,q9];refine cAS (qEg xt (h9.up n9) m ((ha1.fr f9 (xZY _)).up (by omega)) (IntKind.i64.wrap (xr+1)) xc fun n10 hn10=> ?_);simp only [xZS] at hn10;cases c2:m.inside (IntKind.i64.wrap (xr+1)) xc
        ·simp only [sy.1,rE,reduceIte,rL,syw.1,xZX];apply hn;clear hn hp K;refine wcT (by simp only [sy.1,rE,reduceIte]) ?_;refine qA fun K hn hp=> ?_;simp only [sy.1,rL];apply hn;clear hn hp K;refine qD (H4 _ (P4 _ (retK _ _ (by omega) (by simp [xZZ]) (by simp only [Mp.badK,bZ,b8,c1,c2,if_true];rfl))))
        ·simp only [sy.1,rE,reduceIte,rL,sh9,xZX];apply hn;clear hn hp K;refine wcF (by simp only [sy.1,rE,reduceIte]) ?_;refine qN (H1 _ ?_);refine reg fun K hn hp=> ?_;simp only [sy.1,rE,reduceIte,rL,g7,qE hi ha.lk];apply hn;clear hn hp K;refine ⟨⟨i+1,_,_,rfl,by omega,(by simp [xZZ,g1]),(by simp [xZZ]),f9.up (by omega),kyes (by simp only [Mp.badK,bZ,b8,c1,c2,if_true];rfl)⟩,by simpa [xZZ,muP] using (by omega:m.ks.length - (i+1)<m.ks.length - i)⟩
      ·refine qU (by simp only [sy.1,rE,reduceIte,hi]) ?_;rw [xZJ (by omega)] at hallk;refine qG (P2 _ ?_);refine qB fun K hn hp=> ?_;simp only [sy.1,rL];apply hn;clear hn hp K;refine qC fun KQ Q1 Q2 Q3 Q4 Q5=> ?_;refine qI (sok xt) (fun st=> ∃(i:Nat) (hz:Hp) (tm:T AV),st=⟨tm,192,hz,[]⟩/\i<=m.ps.length/\tm.get 1=some (.ptr h.n 0)/\tm.get 9=some (iv i)/\Fr h1.n h1 hz/\ ∀x∈m.ps.take i,m.is x.1 x.2 2=true) (fun st=>m.ps.length - (match st.tm.get 9 with|some (.val (.int _ n))=>n.toNat|_=>0)) ?_ ?_
       ·rintro st ⟨i,hz,tm,rfl,hkQ,g1,g9,fz,hallp⟩;have muQ:=g9;have fzh:=fh1.trans fz (by omega);have q1:=(fz.at_ h.n (.inl (by omega))).trans sh1;refine qB fun K hn hp=> ?_;simp only [sy.1,rE,reduceIte,rL,syw.1,qR,hl25,g1,g9,q1];apply hn;clear hn hp K;by_cases hi:i<m.ps.length
        ·refine qX (by simp only [sy.1,rE,reduceIte,hi]) ?_;have hag:=ha.fr fzh (xZY _);obtain ⟨x,hx⟩: ∃x,m.ps[i]? =some x:=⟨_,xZU hi⟩;have hne:m.ps.map p2≠[]:=fun hq=>by
          have:m.ps.length=0:=by simpa using congrArg List.length hq
          omega
         have i1:=hag.ps.idx tg25 rfl qAt rfl (i:=i) (by simpa using hi) (k:= .i64);have i2:=hag.ps.fa hne qAt rfl (f:=0) (o:=0) (s:=0) (ft:=3) rfl (i*2);have i3:=hag.ps.fa hne qAt rfl (f:=1) (o:=1) (s:=0) (ft:=3) rfl (i*2);have i4:=hag.ps.load tg3 rfl (i:=i) (j:=0) (c:=p2 x) (u:= .int .i64 x.1) (by rw [xZQ,hx];rfl) rfl;have i5:=hag.ps.load tg3 rfl (i:=i) (j:=1) (c:=p2 x) (u:= .int .i64 x.2) (by rw [xZQ,hx];rfl) rfl;simp only [Nat.add_zero] at i2 i4;have hbad:=m.is_rc hrect x.1 x.2;refine zD ?_;refine qC fun KH H1 H2 H3 H4 H5=> ?_;refine jQ (sok xt) 13 (by kernel_rfl) fun K hn hp=> ?_;simp only [sy.1,rE,reduceIte,rL,rA,g1,g9,i1,i2,i3,i4,i5,q1];refine cAS (rc_c xt hz m (ha1.fr fz (xZY _)) x.1 x.2 fun n9 hn9=> ?_);by_cases c1:m.rc x.1 x.2=2
         ·simp only [sy.1,rE,reduceIte,rL,decide_eq_true c1];apply hn;clear hn hp K;refine wcF (by simp only [sy.1,rE,reduceIte]) ?_;refine qN (H1 _ ?_);refine reg fun K hn hp=> ?_;simp only [sy.1,rE,reduceIte,rL,g9,qE hi ha.lp];apply hn;clear hn hp K;refine ⟨⟨i+1,_,_,rfl,by omega,(by simp [xZZ,g1]),(by simp [xZZ]),fz.up (by omega),?_⟩,by simpa [xZZ,muQ] using (by omega:m.ps.length - (i+1)<m.ps.length - i)⟩;rw [xZB,hx];intro y hy;simp only [xZH,xZC,xZG] at hy;rcases hy with hy|rfl
          ·exact hallp y hy
          ·rw [hbad,decide_eq_true c1]
         ·simp only [sy.1,rE,reduceIte,rL,decide_eq_false c1];apply hn;clear hn hp K;refine wcT (by simp only [sy.1,rE,reduceIte]) ?_;refine qA fun K hn hp=> ?_;simp only [sy.1,rL];apply hn;clear hn hp K;refine qD (H4 _ (Q4 _ (qK res39 ⟨?_,fzh.up (by omega)⟩)));have:m.ok=false:=Mp.p_no (xZT hx) (by rw [hbad,decide_eq_false c1]);simp [xZZ,this]
        ·refine qU (by simp only [sy.1,rE,reduceIte,hi]) ?_;rw [xZJ (by omega)] at hallp;refine qG (Q2 _ ?_);refine qA fun K hn hp=> ?_;simp only [sy.1,rL];apply hn;clear hn hp K;refine qD (qK res39 ⟨?_,fzh⟩);have e1:m.gs.any m.badG=false:=by rw [xZL];intro x hx;rw [hallg x hx];exact xZM
         have e2:m.ks.any m.badK=false:=by rw [xZL];intro x hx;rw [hallk x hx];exact xZM
         have e3:m.ps.any (fun p=> !m.is p.1 p.2 2)=false:=by rw [xZL];intro x hx;rw [hallp x hx];exact xZM
         have e4:inB m.R 1 6=true:=b1;have:m.ok=true:=by
          simp only [Mp.ok,Mp.restOk,e4,hall,b3,b4,b5',b6',b7',e1,e2,e3];rfl
         simp [xZZ,this]
       ·exact ⟨0,_,_,rfl,(by omega),(by simp [xZZ,g1]),(by simp [xZZ]),fk,fun x hx=>by simp at hx⟩
     ·exact ⟨0,_,_,rfl,(by omega),(by simp [xZZ,g1]),(by simp [xZZ]),fg,fun x hx=>by simp at hx⟩
   ·exact ⟨0,h1.up n7,_,rfl,(by omega),(by simp [xZZ,g1]),(by simp [xZZ]),(xZI (xZY _)).up (by omega),fun x hx=>by simp at hx⟩
 ·exact ⟨0,n6,_,rfl,(by omega),(by simp [xZZ]),(by simp [xZZ]),by omega,fun j hj=>absurd hj (xZO _)⟩
theorem ft34 (xt:Xt):(SE xt).ft.get 51=some Tryz.f51:=by kernel_rfl
theorem res34:Tryz.f51.results.toList=[.tmp 2]:=by kernel_rfl
def Bw (F:Nat->Nat->Int×Int):Prop:= ∀r c,(0<=(F r c).1/\(F r c).1<=60)/\0<=(F r c).2/\(F r c).2<=60
theorem Bw.F0 (m:Mp):Bw m.F0:=fun r c=>by simp only [Mp.F0];split<;>simp
theorem Bw.put {F:Nat->Nat->Int×Int} (h:Bw F) {r c:Nat} {s:Int×Int} (h1:s.1<=60) (h2:0<=s.2):Bw (Th.putRow F r (Th.put (F r) c (Th.nar (F r c) s))):=fun x y=>by
 have h0:=h r c;by_cases e:x=r
 ·subst e;rw [Th.putRow_at];by_cases e:y=c
  ·subst e;rw [Th.put_at];simp only [Th.nar];omega
  ·rw [Th.put_ne _ _ e];exact h x y
 ·rw [Th.putRow_ne _ _ e];exact h x y
structure TInv (h:Hp) (m:Mp) (C:Nat) (hc:Hp) (v:AV) (M R:Nat) (F:Nat->Nat->Int×Int):Prop where
 fr:Fr h.n h hc
 b0:hc.t.get h.n=some (.cells m.cs 27)
 sg:SG hc (h.n+1) M v R C F
 le:h.n+1<=M
 hi:M<=hc.n
theorem TInv.keep {h hc hd:Hp} {m:Mp} {C:Nat} {v:AV} {M R:Nat} {F:Nat->Nat->Int×Int} (b:TInv h m C hc v M R F) {n:Nat} (f:Fr n hc hd) (hn:M<=n):TInv h m C hd v M R F:=by
 have h1:=b.le;have h2:=b.hi;have h3:=f.le;exact ⟨b.fr.trans f (by omega),by rw [f.at_ _ (by omega)];exact b.b0,b.sg.fr f hn,b.le,by omega⟩
theorem TInv.frR {h hc hd:Hp} {m:Mp} {C:Nat} {v:AV} {M R:Nat} {F G:Nat->Nat->Int×Int} (b:TInv h m C hc v M R F) (f:FrR (h.n+1) M hc hd) (hs:SG hd (h.n+1) M v R C G):TInv h m C hd v M R G:=by
 have h1:=b.le;have h2:=b.hi;have h3:=f.le;exact ⟨b.fr.trans (f.fr (by omega)) (by omega),by rw [f.at_ _ (by omega)];exact b.b0,hs,b.le,by omega⟩
def RThkR (h:Hp) (m:Mp) (R C:Nat) (res:CR) (h':Hp):Prop:= ∃v M,res= .ret v/\Fr h.n h h'/\SG h' (h.n+1) M v R C (Th.thickR m.T m.J (C - 1) m.F0 (m.gs.map gg) R (C+1))/\h.n+1<=M/\M<=h'.n
def xM (T:Int) (J:Nat->Nat->Bool) (n:Nat) (G:Th.Grid) (R k r:Nat):Th.Grid:=fun x=>if x<R then (if x<r then Th.rounds T (J x) (G x) n (k+1) else Th.rounds T (J x) (G x) n k) else G x
theorem qGs (T:Int) (J:Nat->Nat->Bool) (n:Nat) (G:Th.Grid) (R:Nat):xM T J n G R 0 0=G:=by
 funext x;simp only [xM,xZO,if_false];split<;>rfl
theorem midR_row (T:Int) (J:Nat->Nat->Bool) (n:Nat) (G:Th.Grid) (R k r:Nat) (hr:r<R):xM T J n G R k r r=Th.rounds T (J r) (G r) n k:=by
 simp only [xM,hr,if_true,Nat.lt_irrefl,if_false]
theorem midR_next (T:Int) (J:Nat->Nat->Bool) (n:Nat) (G:Th.Grid) (R k r:Nat) (hr:r<R):Th.putRow (xM T J n G R k r) r (Th.round T (J r) (Th.rounds T (J r) (G r) n k) n)=xM T J n G R k (r+1):=by
 funext x
 by_cases e:x=r
 ·subst e;rw [Th.putRow_at];simp only [xM,hr,if_true,Nat.lt_succ_self];rfl
 ·rw [Th.putRow_ne _ _ e];have:(x<r+1)=(x<r):=by apply propext;omega
  simp only [xM,this]
theorem midR_all (T:Int) (J:Nat->Nat->Bool) (n:Nat) (G:Th.Grid) (R k:Nat):xM T J n G R k R=xM T J n G R (k+1) 0:=by
 funext x;simp only [xM,xZO,if_false]
 split<;>rfl
theorem qAI (g:Th.Gg): ∀(l:List Th.Gg) (G:Th.Grid),Th.gaugesR G (l++[g])=Th.putRow (Th.gaugesR G l) g.r (Th.put (Th.gaugesR G l g.r) g.c (Th.nar (Th.gaugesR G l g.r g.c) g.span))
 |[],G=>rfl
 |x::l,G=>qAI g l _
theorem le_dec (a b:Nat):decide ((a:Int)<=(b:Int))=decide (a<=b):=by simp
theorem z43:te58.zero.map AV.val=[iv 0,iv 0]:=rfl
theorem v6 {t:T AO} {n:Nat} {o:AO} {os:List AO}:vG t n (o::os)=(vG t (n+1) os).put (some o) n:=rfl
theorem qAv (xt:Xt) (h:Hp) (m:Mp) (ha:m.At xt h) (R C:Nat) (hm:m.Is R C) (hW:m.W=C):FnA (SE xt) 51 [m.av] h (RThkR h m R C):=by
 refine FnA.walk (sok xt) (ft34 xt) rfl 178 rfl ?_;obtain ⟨o1,o2,o3,o4,o5⟩:=ha.wk.ones;have hR:=hm.hR;have hR0:=hm.r0;have hC0:=hm.c0;have hR6:=hm.r6;have hC8:=hm.c8;have hT:=hm.T;refine qA fun K hn hp=> ?_;simp only [sw.1,reduceIte,rL];apply hn;obtain ⟨h1,hh1,nh1,sh1,_,fbh1⟩:=nwE h (.cells m.cs 27);rw [<-hh1];have fh1:=fbh1;have B0:TInv h m C h1 (.val (.slice none 0 0)) h1.n 0 m.F0:=⟨fh1,sh1,SG.nil _ _ _ _ _,by omega,xZY _⟩;refine qA fun K hn hp=> ?_;simp only [sy.1,rL];apply hn;refine qB fun K hn hp=> ?_;simp only [sy.1,rL];apply hn;refine qC fun KA A1 A2 A3 A4 A5=> ?_;refine qI (sok xt) (fun st=> ∃(k:Nat) (v:AV) (hc:Hp) (tm:T AV),st=⟨tm,178,hc,[]⟩/\k<=R/\tm.get 1=some (.ptr h.n 0)/\tm.get 3=some (v)/\tm.get 4=some (iv k)/\TInv h m C hc v hc.n k m.F0) (fun st=>R - (match st.tm.get 4 with|some (.val (.int _ n))=>n.toNat|_=>0)) ?_ ?_
 ·rintro st ⟨k,v,hc,tm,rfl,hkA,g1,g3,g4,bi⟩;have muA:=g4;have hac:=ha.fr bi.fr (xZY _);have b0:=bi.b0;refine qB fun K hn hp=> ?_;simp only [sy.1,rE,reduceIte,rL,rA,g1,g4,b0];refine cAS (kH xt _ m hac fun n2 hn2=> ?_);simp only [sy.1,rE,reduceIte,rL,qR,hR];apply hn;by_cases hk:k<R
  ·refine qV (by simp only [sy.1,rE,reduceIte,hk]) ?_;refine qC fun KB B1 B2 B3 B4 B5=> ?_;refine qA fun K hn hp=> ?_;simp only [sy.1,rE,reduceIte,rL,rA,g1,b0];refine cAS (kK xt _ m (hac.up (xZR hn2)) fun n3 hn3=> ?_);simp only [xZS] at hn3;have mk:=mk55 (hc.up n3) (C:=C) (by omega);simp only [sy.1,rE,reduceIte,rL,hW,xZX,zP,mk];apply hn;obtain ⟨hd,hhd⟩: ∃hd:Hp,hd=(hc.up n3).new (.cells (jW (fun _=>(0,0)) C) 58):=⟨_,rfl⟩;rw [<-hhd];have nd:hd.n=n3+1:=by rw [hhd];rfl
   have sd:hd.t.get n3=some (.cells (jW (fun _=>(0,0)) C) 58):=by rw [hhd];exact uI _ _
   have kd: ∀x,x≠n3->hd.t.get x=hc.t.get x:=fun x hx=>by rw [hhd,Hp.new_t,xZS,xZZ,if_neg hx];rfl
   refine qB fun K hn hp=> ?_;simp only [sy.1,rL];apply hn;refine qC fun KD D1 D2 D3 D4 D5=> ?_;refine qI (sok xt) (fun st=> ∃(c:Nat) (he:Hp) (tm:T AV),st=⟨tm,178,he,[]⟩/\c<=C/\tm.get 1=some (.ptr h.n 0)/\tm.get 3=some (v)/\tm.get 4=some (iv k)/\tm.get 5=some (.sl n3 0 C 2)/\tm.get 6=some (iv c)/\hd.n<=he.n/\(∀x,x≠n3->he.t.get x=hc.t.get x)/\he.t.get n3=some (.cells (jW (rowTo m k c) C) 58)) (fun st=>C - (match st.tm.get 6 with|some (.val (.int _ n))=>n.toNat|_=>0)) ?_ ?_
   ·rintro st ⟨c,he,tm,rfl,hkD,g1,g3,g4,g5,g6,e1,e2,e3⟩;have muD:=g6;have fhe:Fr hc.n hc he:=⟨by omega,by omega,fun x hx=>e2 x (by omega)⟩;have hae:=hac.fr fhe (xZY _);have b0e:he.t.get h.n=some (.cells m.cs 27):=by rw [e2 _ (by have:=bi.le;have:=bi.hi;omega)];exact b0
    refine qB fun K hn hp=> ?_;simp only [sy.1,rE,reduceIte,rL,rA,g1,g6,b0e];refine cAS (kK xt _ m hae fun n4 hn4=> ?_);simp only [sy.1,rE,reduceIte,rL,qR,hW];apply hn;by_cases hc':c<C
    ·refine qV (by simp only [sy.1,rE,reduceIte,hc']) ?_;refine qC fun KE E1 E2 E3 E4 E5=> ?_;refine qA fun K hn hp=> ?_;simp only [sy.1,rE,reduceIte,rL,rA,g1,g4,g6,b0e];refine cAS (rc_c xt _ m (hae.up (xZR hn4)) k c fun n5 hn5=> ?_);simp only [xZS] at hn5;have hrc:m.rc k c=m.cell k c:=by rw [qDR hm hk,if_pos hc']
     simp only [sy.1,rE,reduceIte,rL,xZX,hrc];apply hn;cases q:decide (m.cell k c=1)
     ·refine wcT (by simp only [sy.1,rE,reduceIte]) ?_;have x3:=qBe (C:=C) (b:=n3) hc';have hlf:=vH (rowTo m k c) C;have p1:=xZ (h:=he.up n5) (b:=n3) (off:=c*2) (x:=iv 0) (y:=iv 60) (cs:=jW (rowTo m k c) C) (e:=58) rfl rfl (by omega);refine reg fun K hn hp=> ?_;simp only [sy.1,rE,reduceIte,rL,g5,g6,x3,p1,e3,bd43];refine hn _ _ (E1 _ ?_);refine reg fun K hn hp=> ?_;simp only [sy.1,rE,reduceIte,rL,g6,qE hc' (show C<=9223372036854775807 by omega)];apply hn;refine ⟨⟨c+1,_,_,rfl,by omega,(by simp [xZZ,g1]),(by simp [xZZ,g3]),(by simp [xZZ,g4]),(by simp [xZZ,g5]),(by simp [xZZ]),by simp only [Hp.set_n,xZS];omega,fun x hx=> ?_,?_⟩,by simpa [xZZ,muD] using (by omega:C - (c+1)<C - c)⟩
      ·rw [xZD,xZZ,if_neg hx];exact e2 x hx
      ·rw [xZD,xZZ,if_pos rfl,yX _ hc',qDK (of_decide_eq_false q)]
     ·refine wcF (by simp only [sy.1,rE,reduceIte]) ?_;refine qN (E1 _ ?_);refine reg fun K hn hp=> ?_;simp only [sy.1,rE,reduceIte,rL,g6,qE hc' (show C<=9223372036854775807 by omega)];apply hn;refine ⟨⟨c+1,he.up n5,_,rfl,by omega,(by simp [xZZ,g1]),(by simp [xZZ,g3]),(by simp [xZZ,g4]),(by simp [xZZ,g5]),(by simp [xZZ]),by simp only [xZS];omega,e2,by rw [Hp.up_t,e3,qFh (of_decide_eq_true q)]⟩,by simpa [xZZ,muD] using (by omega:C - (c+1)<C - c)⟩
    ·refine qU (by simp only [sy.1,rE,reduceIte,hc']) ?_;have hcC:c=C:=by omega
     refine qG (D2 _ ?_);rw [hcC] at e3;have e3:he.t.get n3=some (.cells (jW (m.F0 k) C) 58):=by rw [e3,qBR fun x hx=>qDM hx]
     have hle:=bi.le;have bs:=bs51 (he.up n4) n3 C;refine reg fun K hn hp=> ?_;obtain ⟨h6,hh6⟩: ∃h6,h6=(he.up n4).new (.cells [.sl n3 0 C 2] 80):=⟨_,rfl⟩;have n6:h6.n=n4+1:=by rw [hh6];rfl
     have s6:h6.t.get n4=some (.cells [.sl n3 0 C 2] 80):=by rw [hh6];exact uI _ _
     have k6: ∀x,x≠n4->h6.t.get x=he.t.get x:=fun x hx=>by rw [hh6,Hp.new_t,xZS,xZZ,if_neg hx];rfl
     obtain ⟨h7,p1,p2,p3,p4,p5⟩:=SG.append (P:=Tryz.prog) (xt:=xt) (h:=h6) (N:=h.n+1) (M:=hc.n) (R:=k) (C:=C) (v:=v) (F:=m.F0) (x:= .sl n4 0 1 1) (b:=n3) (bi.sg.keep fun x _ hx=>by rw [k6 x (by omega),e2 x (by omega)]) hle (by omega) (by omega) (by omega) (by rw [k6 _ (by omega)];exact e3) (vU s6 rfl rfl) (by omega);simp only [sy.1,rE,reduceIte,rL,g3,g5,jJ,bs,<-hh6,p1];refine hn _ _ (B1 _ ?_);have B8:TInv h m C h7 (.sl h6.n 0 (k+1) 1) h7.n (k+1) m.F0:=by
      have hfr:=bi.fr;refine ⟨⟨by omega,by omega,fun x hx=> ?_⟩,?_,p2,by omega,xZY _⟩
      ·rcases hx with hx|hx
       ·rw [p4 x (by omega),k6 x (by omega),e2 x (by omega)];exact hfr.at_ x (.inl hx)
       ·rw [p5 x (by omega),k6 x (by omega),e2 x (by omega)];exact hfr.at_ x (.inr (by omega))
      ·rw [p4 _ (by omega),k6 _ (by omega),e2 _ (by omega)];exact b0
     refine reg fun K hn hp=> ?_;simp only [sy.1,rE,reduceIte,rL,g4,qE hk (show R<=9223372036854775807 by omega)];apply hn;refine ⟨⟨k+1,_,h7,_,rfl,by omega,(by simp [xZZ,g1]),(by simp [xZZ]),(by simp [xZZ]),B8⟩,by simpa [xZZ,muA] using (by omega:R - (k+1)<R - k)⟩
   ·exact ⟨0,hd,_,rfl,(by omega),(by simp [xZZ,g1]),(by simp [xZZ,g3]),(by simp [xZZ,g4]),(by simp [xZZ]),(by simp [xZZ]),xZY _,kd,by rw [qCz];exact sd⟩
  ·refine qU (by simp only [sy.1,rE,reduceIte,hk]) ?_;have hkR:k=R:=by omega
   rw [hkR] at bi;clear hkR;obtain ⟨M,hM⟩: ∃M,M=hc.n:=⟨_,rfl⟩;rw [<-hM] at bi;refine qG (A2 _ ?_);refine qB fun K hn hp=> ?_;simp only [sy.1,rL];apply hn;have hgl:=fun h':Hp=>(ha.gs).len (h':=h') qAs rfl;simp only [List.length_map] at hgl;refine qC fun KG G1 G2 G3 G4 G5=> ?_;refine qI (sok xt) (fun st=> ∃(i:Nat) (hg:Hp) (F:Nat->Nat->Int×Int) (tm:T AV),st=⟨tm,178,hg,[]⟩/\i<=m.gs.length/\tm.get 1=some (.ptr h.n 0)/\tm.get 3=some (v)/\tm.get 7=some (iv i)/\TInv h m C hg v M R F/\Bw F/\Th.gaugesR m.F0 ((m.gs.take i).map gg)=F) (fun st=>m.gs.length - (match st.tm.get 7 with|some (.val (.int _ n))=>n.toNat|_=>0)) ?_ ?_
   ·rintro st ⟨i,hg,F,tm,rfl,hkG,g1,g3,g7,bg,bw,hga⟩;have muG:=g7;have b0:=bg.b0;refine qB fun K hn hp=> ?_;simp only [sy.1,rE,reduceIte,rL,syw.1,qR,g1,g7,b0,hgl];apply hn;by_cases hi:i<m.gs.length
    ·refine qX (by simp only [sy.1,rE,reduceIte,hi]) ?_;have hag:=ha.fr bg.fr (xZY _);obtain ⟨x,hx⟩: ∃x,m.gs[i]? =some x:=⟨_,xZU hi⟩;obtain ⟨y1,y2,y3,y4⟩:=hm.gs x (xZT hx);have i1:=hag.gs.idx qAs rfl gD rfl (i:=i) (by simpa using hi) (k:= .i64);have i2:=hag.gs.loadA gD rfl rfl (i:=i) (c:=Kn.g4 x) (by rw [xZQ,hx];rfl);have esn:=qAI (gg x) ((m.gs.take i).map gg) m.F0;rw [<-qDA gg hx,hga] at esn;obtain ⟨xr,xc,xs,xo⟩:=x;simp only [Kn.g4,xZA,xYZ] at i2 y1 y2 y3 y4;obtain ⟨r',rfl⟩: ∃r':Nat,xr=r':=⟨xr.toNat,by omega⟩;obtain ⟨c',rfl⟩: ∃c':Nat,xc=c':=⟨xc.toNat,by omega⟩;simp only [xZP] at y1 y2;have e5:(gg ((r':Int),(c':Int),xs,xo)).span=(xs - xo,xs+xo):=rfl;have e6:(gg ((r':Int),(c':Int),xs,xo)).r=r':=xZP _;have e7:(gg ((r':Int),(c':Int),xs,xo)).c=c':=xZP _;rw [e5,e6,e7] at esn;have hr':r'<R:=by omega
     have hc':c'<C:=by have:=hm.hC r' hr';omega
     refine zD ?_;refine qC fun KH H1 H2 H3 H4 H5=> ?_;have hhi:=bg.hi;refine qA fun K hn hp=> ?_;simp only [sw.1,rE,reduceIte,rL,rA,al48,g1,g7,b0,i1,i2];apply hn;obtain ⟨h9,hh9,nh9,sh9,_,fbh9⟩:=nwS hg (.cells [iv 0,iv 0,iv 0,iv 0] 117) (.cells [iv (r':Int),iv (c':Int),iv xs,iv xo] 117);have fh9:=fbh9;rw [<-hh9];have bg9:=bg.keep fbh9 hhi;obtain ⟨B,b,rws,z1,z2,z3,z4,z5,z6,z7,z8,z9,hset⟩:=bg9.sg.at_ hr';have z10:=qBe (C:=C) (b:=b) hc';have z11:=gP (f:=F r') hc';refine seq_regDA (sok xt) 9 (by kernel_rfl) fun K hn hp=> ?_;simp only [sw.1,rE,reduceIte,rL,rA,g3,sh9,z1,z2,z3,z4,z10,z11];apply hn;obtain ⟨h10,hh10,_,sh10,kh10,fbh10⟩:=nwS h9 (.cells [iv 0,iv 0] 58) (.cells [iv (F r' c').1,iv (F r' c').2] 58);rw [<-hh10];have b10:=bg9.keep fbh10 bg9.hi;obtain ⟨B,b,rws,z1,z2,z3,z4,z5,z6,z7,z8,z9,hset⟩:=b10.sg.at_ hr';have z10:=qBe (C:=C) (b:=b) hc';have s9:h10.t.get hg.n=some (.cells [iv (r':Int),iv (c':Int),iv xs,iv xo] 117):=by rw [kh10 _ (by omega)];exact sh9
     have w1:IntKind.i64.wrap (xs - xo)=xs - xo:=qF _ (by omega) (by omega);have w2:IntKind.i64.wrap (xs+xo)=xs+xo:=qF _ (by omega) (by omega);have hlf:=vH (F r') C;obtain ⟨A1,hA1⟩: ∃A1,A1=max (F r' c').1 (xs - xo):=⟨_,rfl⟩;obtain ⟨A2,hA2⟩: ∃A2,A2=min (F r' c').2 (xs+xo):=⟨_,rfl⟩;have p1:=xZ (h:=h10) (b:=b) (off:=c'*2) (x:=iv A1) (y:=iv A2) (cs:=jW (F r') C) (e:=58) rfl rfl (by omega);refine regD (sok xt) 25 (by kernel_rfl) fun K hn hp=> ?_;simp only [sy.1,rE,reduceIte,rL,g3,sh10,s9,z1,z2,z3,z4,z10,w1,w2,bd43,<-hA1,<-hA2,p1];refine hn _ _ (H1 _ ?_);have hnar:Th.nar (F r' c') (xs - xo,xs+xo)=(A1,A2):=by rw [hA1,hA2];rfl
     have fset:FrR (h.n+1) M h10 (h10.set b (.cells (((jW (F r') C).set (c'*2) (iv A1)).set (c'*2+1) (iv A2)) 58)):=(FrR.refl h10).set z5 z6 b10.hi _;have B8:=b10.frR fset (by rw [yX _ hc'];exact hset _);have bw':=bw.put (r:=r') (c:=c') (s:=(xs - xo,xs+xo)) (by simp only;omega) (by simp only;omega);rw [hnar] at bw' esn;refine reg fun K hn hp=> ?_;simp only [sy.1,rE,reduceIte,rL,g7,qE hi ha.lg];apply hn;refine ⟨⟨i+1,_,_,_,rfl,by omega,(by simp [xZZ,g1]),(by simp [xZZ,g3]),(by simp [xZZ]),B8,bw',esn⟩,by simpa [xZZ,muG] using (by omega:m.gs.length - (i+1)<m.gs.length - i)⟩
    ·refine qU (by simp only [sy.1,rE,reduceIte,hi]) ?_;have hiN:i=m.gs.length:=by omega
     rw [hiN,List.take_length] at hga;clear hiN;refine qG (G2 _ ?_);refine qB fun K hn hp=> ?_;simp only [sy.1,rL];apply hn;obtain ⟨G0,hG0⟩: ∃G0,G0=F:=⟨_,rfl⟩;have hs0:F=xM m.T m.J (C - 1) G0 R 0 0:=by rw [qGs,hG0]
     rw [hs0] at bg bw;refine qC fun KI I1 I2 I3 I4 I5=> ?_;refine qI (sok xt) (fun st=> ∃(k:Nat) (hk:Hp) (tm:T AV),st=⟨tm,178,hk,[]⟩/\k<=(C+1)/\tm.get 1=some (.ptr h.n 0)/\tm.get 3=some (v)/\tm.get 10=some (iv k)/\TInv h m C hk v M R (xM m.T m.J (C - 1) G0 R k 0)/\Bw (xM m.T m.J (C - 1) G0 R k 0)) (fun st=>(C+1) - (match st.tm.get 10 with|some (.val (.int _ n))=>n.toNat|_=>0)) ?_ ?_
     ·rintro st ⟨k,hk,tm,rfl,hkI,g1,g3,g10,bk,bwk⟩;have muI:=g10;have b0:=bk.b0;have hak:=ha.fr bk.fr (xZY _);refine qB fun K hn hp=> ?_;simp only [sy.1,rE,reduceIte,rL,rA,g1,g10,b0];refine cAS (kK xt _ m hak fun n4 hn4=> ?_);simp only [sy.1,rE,reduceIte,rL,hW,le_dec];apply hn;by_cases hk:k<C+1
      ·refine qV (by simp only [sy.1,rE,reduceIte,decide_eq_true (show k<=C by omega)]) ?_;refine qC fun KJ J1 J2 J3 J4 J5=> ?_;refine qA fun K hn hp=> ?_;simp only [sy.1,rL];apply hn;refine qY fun KL L1 L2 L3 L4 L5=> ?_;refine qI (sok xt) (fun st=> ∃(r:Nat) (hr:Hp) (tm:T AV),st=⟨tm,178,hr,[]⟩/\r<=R/\tm.get 1=some (.ptr h.n 0)/\tm.get 3=some (v)/\tm.get 10=some (iv k)/\tm.get 11=some (iv r)/\TInv h m C hr v M R (xM m.T m.J (C - 1) G0 R k r)/\Bw (xM m.T m.J (C - 1) G0 R k r)) (fun st=>R - (match st.tm.get 11 with|some (.val (.int _ n))=>n.toNat|_=>0)) ?_ ?_
       ·rintro st ⟨r,hr,tm,rfl,hkL,g1,g3,g10,g11,br,bwr⟩;have muL:=g11;have b0:=br.b0;have har:=ha.fr br.fr (xZY _);refine qB fun K hn hp=> ?_;simp only [sy.1,rE,reduceIte,rL,rA,g1,g11,b0];refine cAS (kH xt _ m har fun n5 hn5=> ?_);simp only [sy.1,rE,reduceIte,rL,qR,hR];apply hn;by_cases hr':r<R
        ·refine qV (by simp only [sy.1,rE,reduceIte,hr']) ?_;refine qC fun KN N1 N2 N3 N4 N5=> ?_;refine qA fun K hn hp=> ?_;simp only [sy.1,rL];apply hn;have hrow0:Th.putRow (xM m.T m.J (C - 1) G0 R k r) r (Th.round m.T (m.J r) (Th.rounds m.T (m.J r) (G0 r) (C - 1) k) 0)=xM m.T m.J (C - 1) G0 R k r:=by
          rw [<-midR_row m.T m.J (C - 1) G0 R k r hr'];exact gF _ _
         refine qY fun KP P1 P2 P3 P4 P5=> ?_;refine qI (sok xt) (fun st=> ∃(c:Nat) (hpp:Hp) (f:Nat->Int×Int) (tm:T AV),st=⟨tm,178,hpp,[]⟩/\c<=(C - 1)/\tm.get 1=some (.ptr h.n 0)/\tm.get 3=some (v)/\tm.get 10=some (iv k)/\tm.get 11=some (iv r)/\tm.get 12=some (iv c)/\TInv h m C hpp v M R (Th.putRow (xM m.T m.J (C - 1) G0 R k r) r f)/\Bw (Th.putRow (xM m.T m.J (C - 1) G0 R k r) r f)/\Th.round m.T (m.J r) (Th.rounds m.T (m.J r) (G0 r) (C - 1) k) c=f) (fun st=>(C - 1) - (match st.tm.get 12 with|some (.val (.int _ n))=>n.toNat|_=>0)) ?_ ?_
         ·rintro st ⟨c,hpp,f,tm,rfl,hkP,g1,g3,g10,g11,g12,bp,bwp,hf⟩;have muP:=g12;have b0:=bp.b0;have hap:=ha.fr bp.fr (xZY _);have wc:=qE (k:=c) (n:=C) (by omega) (by omega);have hcd:decide ((((c+1:Nat)):Int)<(C:Int))=decide (c<C - 1):=by
           by_cases q:c<C - 1
           ·rw [decide_eq_true q];exact decide_eq_true (by omega)
           ·rw [decide_eq_false q];exact decide_eq_false (by omega)
          refine qB fun K hn hp=> ?_;simp only [sy.1,rE,reduceIte,rL,rA,g1,g12,b0,wc];refine cAS (kK xt _ m hap fun n6 hn6=> ?_);simp only [sy.1,rE,reduceIte,rL,hW,hcd];apply hn;by_cases hc':c<C - 1
          ·refine qV (by simp only [sy.1,rE,reduceIte,hc']) ?_;refine qC fun KS S1 S2 S3 S4 S5=> ?_;have hrc1:m.rc r c=m.cell r c:=by rw [qDR hm hr',if_pos (by omega)]
           have hrc2:m.rc r (c+1:Nat)=m.cell r (c+1):=by rw [qDR hm hr',if_pos (by omega)]
           have hpr:=show Th.round m.T (m.J r) (Th.rounds m.T (m.J r) (G0 r) (C - 1) k) (c+1)=Th.pair m.T (m.J r) f c by rw [<-hf];rfl
           refine qB fun K hn hp=> ?_;simp only [sy.1,rE,reduceIte,rL,rA,g1,g11,g12,b0];refine cAS (rc_c xt _ m (hap.up (xZR hn6)) r c fun n7 hn7=> ?_);simp only [xZS] at hn7;have bp7:=bp.keep ((xZI (xZY _)).up (show hpp.n<=n7 by omega)) bp.hi;have same:m.J r c=false-> ∀n8,n7<=n8-> ∀tm:T AV,tm.get 1=some (.ptr h.n 0)->tm.get 3=some v->tm.get 10=some (iv k)->tm.get 11=some (iv r)->tm.get 12=some (iv c)->KS (.exit 11) ⟨tm,178,hpp.up n8,[]⟩:=by
            intro hJ n8 hn8 tm g1 g3 g10 g11 g12;have bp8:=bp.keep ((xZI (xZY _)).up (show hpp.n<=n8 by omega)) bp.hi;refine S2 _ ?_;refine reg fun K hn hp=> ?_;simp only [sy.1,rE,reduceIte,rL,g12,wc];apply hn;refine ⟨⟨c+1,_,f,_,rfl,by omega,(by simp [xZZ,g1]),(by simp [xZZ,g3]),(by simp [xZZ,g10]),(by simp [xZZ,g11]),(by simp [xZZ]),bp8,bwp,by rw [hpr];simp only [Th.pair,hJ,xZE,if_false]⟩,by simpa [xZZ,muP] using (by omega:(C - 1) - (c+1)<(C - 1) - c)⟩
           cases q1:decide (m.cell r c=1)
           rotate_left
           ·simp only [sy.1,rE,reduceIte,rL,hrc1,q1,xZX];apply hn;refine qX (by simp only [sy.1,rE,reduceIte]) ?_;refine qG (same (by simp only [Mp.J,q1];rfl) n7 (xZY _) _ ?_ ?_ ?_ ?_ ?_);all_goals simp [xZZ,g1,g3,g10,g11,g12]
           simp only [sy.1,rE,reduceIte,rL,rA,g1,g11,g12,hrc1,q1,xZX,b0,wc];refine cAS (rc_c xt (hpp.up n7) m (hap.up (by omega)) r (c+1:Nat) fun n8 hn8=> ?_);simp only [xZS] at hn8;cases q2:decide (m.cell r (c+1)=1)
           rotate_left
           ·simp only [sy.1,rE,reduceIte,rL,hrc2,q2,xZX];apply hn;refine qX (by simp only [sy.1,rE,reduceIte]) ?_;refine qG (same (by simp only [Mp.J,q1,q2];rfl) n8 (by omega) _ ?_ ?_ ?_ ?_ ?_);all_goals simp [xZZ,g1,g3,g10,g11,g12]
           simp only [sy.1,rE,reduceIte,rL,hrc2,q2,xZX];apply hn;refine jL (by simp only [sy.1,rE,reduceIte]) ?_;have hJ:m.J r c=true:=by simp only [Mp.J,q1,q2];rfl
           obtain ⟨hq,hhq⟩: ∃hq,hq=hpp.up n8:=⟨_,rfl⟩;rw [<-hhq];have bq:TInv h m C hq v M R (Th.putRow (xM m.T m.J (C - 1) G0 R k r) r f):=by
            rw [hhq];exact bp.keep ((xZI (xZY _)).up (show hpp.n<=n8 by omega)) bp.hi
           have hqM:=bq.hi;obtain ⟨B,b,rws,z1,z2,z3,z4,z5,z6,z7,z8,z9,_⟩:=bq.sg.at_ hr';rw [Th.putRow_at] at z4;have z10:=qBe (C:=C) (b:=b) (show c<C by omega);have z11:=gP (f:=f) (show c<C by omega);have z12:=qBe (C:=C) (b:=b) (show c+1<C by omega);have z13:=gP (f:=f) (show c+1<C by omega);refine qW (sok xt) 15 2 1 [(10,1),(14,1)] (by kernel_rfl) fun K hn hp=> ?_;obtain ⟨hA,hhA⟩: ∃hA:Hp,hA={t:=vG hq.t hq.n [.cells [iv 0,iv 0] 58,.cells [iv 0,iv 0] 58],n:=hq.n+2}:=⟨_,rfl⟩;have a1:vG hq.t hq.n [.cells [iv 0,iv 0] 58,.cells [iv 0,iv 0] 58]=hA.t:=by rw [hhA]
           have a2:({t:=hA.t,n:=hq.n+2}:Hp)=hA:=by rw [hhA]
           have a3:hA.t.get hq.n=some (.cells [iv 0,iv 0] 58):=by rw [<-a1,v6,xZZ,if_pos rfl]
           have a4:hA.t.get (hq.n+1)=some (.cells [iv 0,iv 0] 58):=by rw [<-a1,v6,xZZ,if_neg (by omega),v6,xZZ,if_pos rfl]
           have a5: ∀x,x≠hq.n->x≠hq.n+1->hA.t.get x=hq.t.get x:=fun x h1 h2=>by rw [<-a1,v6,xZZ,if_neg h1,v6,xZZ,if_neg h2];rfl
           have a6:hA.n=hq.n+2:=by rw [hhA]
           have y2:=(a5 B (by omega) (by omega)).trans z2;have y4:=(a5 b (by omega) (by omega)).trans z4;have n1: ¬hq.n+1=hq.n:=by omega
           have n2: ¬b=hq.n:=by omega
           have n3: ¬B=hq.n:=by omega
           simp only [sw.1,rE,reduceIte,rL,rA,syw.1,g3,g11,g12,z1,z2,z3,z4,z10,z11,z12,z13,wc,qGh (E:=SE xt) tg43,z43,a1,a2,a3,a4,y2,y4,n1,n2,n3];apply hn;obtain ⟨h12,hh12⟩: ∃h12:Hp,h12=(hA.set hq.n (.cells [iv (f c).1,iv (f c).2] 58)).set (hq.n+1) (.cells [iv (f (c+1)).1,iv (f (c+1)).2] 58):=⟨_,rfl⟩;rw [<-hh12];have s12:h12.t.get hq.n=some (.cells [iv (f c).1,iv (f c).2] 58):=by rw [hh12,xZD,xZZ,if_neg (by omega),xZD,xZZ,if_pos rfl]
           have s12':h12.t.get (hq.n+1)=some (.cells [iv (f (c+1)).1,iv (f (c+1)).2] 58):=by rw [hh12,xZD,xZZ,if_pos rfl]
           have n12:h12.n=hq.n+2:=by rw [hh12];exact a6
           have f12:Fr hq.n hq h12:=⟨by omega,by omega,fun x hx=>by
            rw [hh12,xZD,xZZ,if_neg (by omega),xZD,xZZ,if_neg (by omega)];exact a5 x (by omega) (by omega)⟩
           have b12:=bq.keep f12 hqM;have hW12:=bwp r c;have hW12':=bwp r (c+1);rw [Th.putRow_at] at hW12 hW12';have b0':=b12.b0;obtain ⟨B,b,rws,z1,z2,z3,z4,z5,z6,z7,z8,z9,hset⟩:=b12.sg.at_ hr';rw [Th.putRow_at] at z4;simp only [vR] at hset;have z10:=qBe (C:=C) (b:=b) (show c<C by omega);have hlf:=vH f C;have w1:IntKind.i64.wrap ((f (c+1)).2+m.T)=(f (c+1)).2+m.T:=qF _ (by omega) (by omega);have w2:IntKind.i64.wrap ((f c).1 - m.T)=(f c).1 - m.T:=qF _ (by omega) (by omega);obtain ⟨A1,hA1⟩: ∃A1,A1=max (f c).1 (f (c+1)).1:=⟨_,rfl⟩;obtain ⟨A2,hA2⟩: ∃A2,A2=min (f c).2 ((f (c+1)).2+m.T):=⟨_,rfl⟩;obtain ⟨A3,hA3⟩: ∃A3,A3=max (f (c+1)).1 ((f c).1 - m.T):=⟨_,rfl⟩;obtain ⟨A4,hA4⟩: ∃A4,A4=min (f (c+1)).2 (f c).2:=⟨_,rfl⟩;have p1:=xZ (h:=h12) (b:=b) (off:=c*2) (x:=iv A1) (y:=iv A2) (cs:=jW f C) (e:=58) rfl rfl (by omega);refine jQ (sok xt) 20 (by kernel_rfl) fun K hn hp=> ?_;simp only [sy.1,rE,reduceIte,rL,g1,g3,g11,g12,b0',s12,s12',z1,z2,z3,z4,z10,w1,bd43,<-hA1,<-hA2,p1];apply hn;obtain ⟨h13,hh13⟩: ∃h13:Hp,h13=h12.set b (.cells (((jW f C).set (c*2) (iv A1)).set (c*2+1) (iv A2)) 58):=⟨_,rfl⟩;rw [<-hh13];have hfr13:FrR (h.n+1) M h12 h13:=by rw [hh13];exact (FrR.refl h12).set z5 z6 b12.hi _
           have b13:TInv h m C h13 v M R (Th.putRow (xM m.T m.J (C - 1) G0 R k r) r (Th.put f c (A1,A2))):=b12.frR hfr13 (by rw [hh13,yX _ (show c<C by omega)];exact hset _);have n13:h13.n=h12.n:=by rw [hh13];rfl
           have t12:h13.t.get hq.n=some (.cells [iv (f c).1,iv (f c).2] 58):=by rw [hfr13.at_ _ (by omega)];exact s12
           have t12':h13.t.get (hq.n+1)=some (.cells [iv (f (c+1)).1,iv (f (c+1)).2] 58):=by rw [hfr13.at_ _ (by omega)];exact s12'
           have b0'':=b13.b0;obtain ⟨B,b,rws,z1,z2,z3,z4,z5,z6,z7,z8,z9,hset⟩:=b13.sg.at_ hr';rw [Th.putRow_at] at z4;simp only [vR] at hset;have z10:=qBe (C:=C) (b:=b) (show c+1<C by omega);have hlf:=vH (Th.put f c (A1,A2)) C;have p2:=xZ (h:=h13) (b:=b) (off:=(c+1)*2) (x:=iv A3) (y:=iv A4) (cs:=jW (Th.put f c (A1,A2)) C) (e:=58) rfl rfl (by omega);refine regD (sok xt) 21 (by kernel_rfl) fun K hn hp=> ?_;simp only [sy.1,rE,reduceIte,rL,g1,g3,g11,g12,b0'',t12,t12',z1,z2,z3,z4,z10,w2,wc,bd43,<-hA3,<-hA4,p2];refine hn _ _ (S1 _ ?_);have fr14:FrR (h.n+1) M h13 (h13.set b (.cells (((jW (Th.put f c (A1,A2)) C).set ((c+1)*2) (iv A3)).set ((c+1)*2+1) (iv A4)) 58)):=(FrR.refl h13).set z5 z6 b13.hi _;have b14:=b13.frR fr14 (by rw [yX _ (show c+1<C by omega)];exact hset _);have hpair:Th.put (Th.put f c (A1,A2)) (c+1) (A3,A4)=Th.pair m.T (m.J r) f c:=by
            simp only [Th.pair,hJ,if_true,Th.nar,Th.toL,Th.toR,<-hA1,<-hA2,<-hA3,<-hA4]
           have hbw:Bw (Th.putRow (xM m.T m.J (C - 1) G0 R k r) r (Th.put (Th.put f c (A1,A2)) (c+1) (A3,A4))):=fun x y=>by
            by_cases e:x=r
            ·subst e;rw [Th.putRow_at];by_cases e1:y=c+1
             ·subst e1;rw [Th.put_at];simp only;omega
             ·rw [Th.put_ne _ _ e1];by_cases e2:y=c
              ·subst e2;rw [Th.put_at];simp only;omega
              ·rw [Th.put_ne _ _ e2];have:=bwp x y
               rwa [Th.putRow_at] at this
            ·rw [Th.putRow_ne _ _ e];have:=bwp x y
             rwa [Th.putRow_ne _ _ e] at this
           refine reg fun K hn hp=> ?_;simp only [sy.1,rE,reduceIte,rL,g12,wc];apply hn;refine ⟨⟨c+1,_,_,_,rfl,by omega,(by simp [xZZ,g1]),(by simp [xZZ,g3]),(by simp [xZZ,g10]),(by simp [xZZ,g11]),(by simp [xZZ]),b14,hbw,by rw [hpr,hpair]⟩,by simpa [xZZ,muP] using (by omega:(C - 1) - (c+1)<(C - 1) - c)⟩
          ·refine qU (by simp only [sy.1,rE,reduceIte,hc']) ?_;have hcC:c=C - 1:=by omega
           refine qG (P2 _ (N1 _ ?_));have hnx:=midR_next m.T m.J (C - 1) G0 R k r hr';rw [hcC] at hf;rw [hf] at hnx;rw [hnx] at bp bwp;refine reg fun K hn hp=> ?_;simp only [sy.1,rE,reduceIte,rL,g11,qE hr' (show R<=9223372036854775807 by omega)];apply hn;refine ⟨⟨r+1,_,_,rfl,by omega,(by simp [xZZ,g1]),(by simp [xZZ,g3]),(by simp [xZZ,g10]),(by simp [xZZ]),bp.keep ((xZI (xZY _)).up (xZR hn6)) bp.hi,bwp⟩,by simpa [xZZ,muL] using (by omega:R - (r+1)<R - r)⟩
         ·exact ⟨0,_,_,_,rfl,(by omega),(by simp [xZZ,g1]),(by simp [xZZ,g3]),(by simp [xZZ,g10]),(by simp [xZZ,g11]),(by simp [xZZ]),by rw [hrow0];exact br.keep ((xZI (xZY _)).up (xZR hn5)) br.hi,by rw [hrow0];exact bwr,rfl⟩
        ·refine qU (by simp only [sy.1,rE,reduceIte,hr']) ?_;have hrR:r=R:=by omega
         rw [hrR,midR_all] at br bwr;refine qG (L2 _ (J1 _ ?_));refine reg fun K hn hp=> ?_;simp only [sy.1,rE,reduceIte,rL,g10,qE hk (show C+1<=9223372036854775807 by omega)];apply hn;refine ⟨⟨k+1,_,_,rfl,by omega,(by simp [xZZ,g1]),(by simp [xZZ,g3]),(by simp [xZZ]),br.keep ((xZI (xZY _)).up (xZR hn5)) br.hi,bwr⟩,by simpa [xZZ,muI] using (by omega:(C+1) - (k+1)<(C+1) - k)⟩
       ·exact ⟨0,_,_,rfl,(by omega),(by simp [xZZ,g1]),(by simp [xZZ,g3]),(by simp [xZZ,g10]),(by simp [xZZ]),bk.keep ((xZI (xZY _)).up (xZR hn4)) bk.hi,bwk⟩
      ·refine qU (by simp only [sy.1,rE,reduceIte,decide_eq_false (show¬k<=C by omega)]) ?_;have hkC:k=C+1:=by omega
       rw [hkC] at bk;refine qG (I2 _ ?_);refine qA fun K hn hp=> ?_;simp only [sy.1,rE,reduceIte,rL,g3];apply hn;have hth:xM m.T m.J (C - 1) G0 R (C+1) 0=Th.thickR m.T m.J (C - 1) m.F0 (m.gs.map gg) R (C+1):=by
        funext x
        simp only [xM,Th.thickR,xZO,if_false,hG0,<-hga]
       rw [hth] at bk;have bk':=bk.keep ((xZI (xZY _)).up (xZR hn4)) bk.hi;refine qD (qK res34 ⟨v,M,?_,bk'.fr,bk'.sg,bk'.le,bk'.hi⟩);simp [xZZ]
     ·exact ⟨0,_,_,rfl,(by omega),(by simp [xZZ,g1]),(by simp [xZZ,g3]),(by simp [xZZ]),bg,bw⟩
   ·exact ⟨0,_,m.F0,_,rfl,(by omega),(by simp [xZZ,g1]),(by simp [xZZ,g3]),(by simp [xZZ]),bi.keep ((xZI (xZY _)).up (xZR hn2)) bi.hi,Bw.F0 _,rfl⟩
 ·exact ⟨0,_,h1,_,rfl,(by omega),(by simp [xZZ]),(by simp [xZZ]),(by simp [xZZ]),B0⟩
end Go.Proofs.Kn
