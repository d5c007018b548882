/- MvH6, MvH7: texts in a row, joined by a program. -/
import Derived.Test.YtnmfblokfponlaaGreatDoorQN
set_option linter.all false
open Nat renaming reduceEqDiff → rE, reduceLeDiff → rD, reduceAdd → rA, reduceMul → rM, reduceLT → rL
open Go.Ev.T renaming get_put → xZZ
open Bool renaming false_and → xZY, and_false → xZX, false_ne_true → xZR, eq_false_iff → xZN, not_true → xZJ, false_eq_true → xZF
open Go.Ev.Hp renaming up_up → xZW, up_n → xZO
open Nat renaming le_refl → xZV
open List renaming mem_of_getElem? → xZU, getElem?_eq_getElem → xZT, getD_eq_getElem?_getD → xZS, getElem?_map → xZQ, any_eq_false → xZP, take_of_length_le → xZM, mem_singleton → xZK, mem_append → xZI, take_succ → xZH, getElem_of_mem → xZG, all_eq_true → xZE
open Option renaming toList_some → xZL
open Int renaming toNat_natCast → xZD
namespace Go.Proofs.Kn
open Go Go.Ev
set_option maxRecDepth 100000
set_option maxHeartbeats 4000000
theorem ft39 (xt:Addr->Option Value):(SE xt).ft.get 39=some Tryz.f39:=by kernel_rfl
theorem res39:Tryz.f39.results.toList=[.tmp 2]:=by kernel_rfl
theorem Mp.row_no {m:Mp} {r:Nat} (hr:r<m.cells.length) (h:m.rowOk (m.cells.getD r [])=false):m.ok=false:=by
 have:m.cells.all m.rowOk=false:=by
  rw [List.all_eq_false];exact ⟨_,xZU (getD_some [] hr),by rw [h];exact xZR⟩
 simp only [Mp.ok,this,xZY,xZX]
theorem Mp.rest_no {m:Mp} (h:m.restOk=false):m.ok=false:=by simp only [Mp.ok,h,xZX]
theorem qA4 {α:Type} {p:α->Bool} {l:List α} {x:α} (hx:x∈l) (h:p x=true):l.any p=true:=List.any_eq_true.2 ⟨x,hx,h⟩
theorem Mp.g_no {m:Mp} {x:Int×Int×Int×Int} (hx:x∈m.gs) (h:m.badG x=true):m.ok=false:=m.rest_no (by
 have:m.gs.any m.badG=true:=qA4 hx h;simp only [Mp.restOk,this,xZJ,xZY,xZX])
theorem Mp.k_no {m:Mp} {x:Int×Int×Bool} (hx:x∈m.ks) (h:m.badK x=true):m.ok=false:=m.rest_no (by
 have:m.ks.any m.badK=true:=qA4 hx h;simp only [Mp.restOk,this,xZJ,xZY,xZX])
theorem Mp.p_no {m:Mp} {x:Int×Int} (hx:x∈m.ps) (h:m.is x.1 x.2 2=false):m.ok=false:=m.rest_no (by
 have:m.ps.any (fun p=> !m.is p.1 p.2 2)=true:=qA4 hx (by rw [h];rfl);simp only [Mp.restOk,this,xZJ,xZX])
theorem Mp.rc_in {m:Mp} (hr:m.Rect) (r c:Int):m.rc r c=if m.inside r c then m.kind r c else 1:=by
 have hrow: ∀i,i<m.cells.length->(m.cells.getD i []).length=m.W:=fun i hi=>hr _ (xZU (getD_some [] hi));have hWC:(m.W:Int)=m.C:=rfl;simp only [Mp.rc];by_cases h1:0<=r/\r<m.R
 ·obtain ⟨i,rfl⟩: ∃i:Nat,r=i:=⟨r.toNat,by omega⟩;have hi:i<m.cells.length:=by have:=h1.2;unfold Mp.R at this;omega
  have e1:inB (i:Int) 0 (m.R - 1)=true:=y9.2 ⟨by omega,by omega⟩;rw [e1,Bool.true_and,xZD,hrow i hi];by_cases h2:0<=c/\c<m.C
  ·have e2:inB c 0 ((m.W:Int) - 1)=true:=y9.2 ⟨by omega,by omega⟩;have e3:m.inside i c=true:=Mp.inside_iff.2 ⟨h1,h2⟩;rw [e2,e3,if_pos rfl,if_pos rfl];have hc:c.toNat<(m.cells.getD i []).length:=by rw [hrow i hi];omega
   have hg:(m.cells[i]?).getD []=m.cells.getD i []:=by rw [xZS]
   simp only [Mp.kind,xZD,hg];rw [getD_some 0 hc];rfl
  ·have e2:inB c 0 ((m.W:Int) - 1)=false:=by
    rw [xZN];intro h;have:=y9.1 h;exact h2 ⟨this.1,by omega⟩
   have e3:m.inside i c=false:=by rw [xZN];intro h;exact h2 (Mp.inside_iff.1 h).2
   rw [e2,e3];rfl
 ·have e1:inB r 0 (m.R - 1)=false:=by
   rw [xZN];intro h;have:=y9.1 h;exact h1 ⟨this.1,by omega⟩
  have e3:m.inside r c=false:=by rw [xZN];intro h;exact h1 (Mp.inside_iff.1 h).1
  rw [e1,e3];rfl
theorem Mp.badG_rc {m:Mp} (hr:m.Rect) (x:Int×Int×Int×Int):m.badG x=(decide (m.rc x.1 x.2.1=1) || (!inB x.2.2.1 0 60 || !inB x.2.2.2 0 9)):=by
 rw [Mp.rc_in hr];simp only [Mp.badG,Mp.is];cases m.inside x.1 x.2.1<;>simp
theorem Mp.is_rc {m:Mp} (hr:m.Rect) (r c:Int):m.is r c 2=decide (m.rc r c=2):=by
 rw [Mp.rc_in hr];simp only [Mp.is];cases m.inside r c<;>simp
theorem rmap_c (xt:Addr->Option Value) (h:Hp) (m:Mp) (ha:m.At xt h) {K:CR->Hp->Prop} (hk: ∀n,h.n<n->K (.ret (.val (.bool m.ok))) (h.up n)):FnA (SE xt) 39 [m.av] h K:=by
 refine FnA.calm ?_ hk;clear hk K;refine FnA.walk (sok xt) (ft39 xt) rfl 192 rfl ?_;obtain ⟨o1,o2,o3,o4,o5⟩:=ha.wk.ones;have hl23:=fun h':Hp=>(ha.gs).len (h':=h') tg23 rfl;have hl24:=fun h':Hp=>(ha.ks).len (h':=h') tg24 rfl;have hl25:=fun h':Hp=>(ha.ps).len (h':=h') pM rfl;simp only [List.length_map] at hl23 hl24 hl25;refine qA fun K hn hp=> ?_;simp only [sw.1,reduceIte,rL];apply hn;clear hn hp K;obtain ⟨h1,hh1⟩: ∃h1:Hp,h1=h.new (.cells m.cs 27):=⟨_,rfl⟩;rw [<-hh1];have nh1:h1.n=h.n+1:=by rw [hh1];rfl
 have sh1:h1.t.get h.n=some (.cells m.cs 27):=by rw [hh1];exact qX _ _
 have kh1: ∀k,k<h.n->h1.t.get k=h.t.get k:=fun k hk=>by rw [hh1];exact qW _ _ hk
 have fbh1:Fr h.n h h1:=by rw [hh1];exact (Fr.refl (xZV _)).new _
 have fh1:=fbh1;have ha1:=ha.fr fh1 (xZV _);have retF: ∀(n:Nat) (tm:T AV),h1.n<=n->tm.get 2=some (.val (.bool false))->m.ok=false->wB (SE xt) Tryz.f39 (fun r h'=>r= .ret (.val (.bool m.ok))/\Fr h.n h h') .ret ⟨tm,192,h1.up n,[]⟩:=fun n tm hn g hm=>qK res39 ⟨by simp [g,hm],fh1.up hn⟩;refine qE ?_;refine qA fun K hn hp=> ?_;simp only [sy.1,rE,reduceIte,rL,rA,sh1];refine qB (sok xt) (qBh xt h1 m ha1 fun n1 hn1=> ?_);simp only [sy.1,rE,reduceIte,rL];refine qB (sok xt) (kH xt _ _ _ _ fun n2 hn2=> ?_);simp only [xZO] at hn2;cases b1:inB m.cells.length 1 6
 ·have b1':=b1;unfold inB at b1';simp only [sy.1,rE,reduceIte,rL,b1',xZW];apply hn;clear hn hp K;refine qC true (by simp only [sy.1,rE,reduceIte]) (fun _=> ?_) (fun hx=>by cases hx);refine qE ?_;refine qA fun K hn hp=> ?_;simp only [sy.1,rL];apply hn;clear hn hp K;refine qU (retF _ _ (by omega) (by simp [xZZ]) (by simp only [Mp.ok,Mp.R,b1,xZY]))
 have b1':=b1;unfold inB at b1';simp only [sy.1,rE,reduceIte,rL,rA,sh1,b1',xZW];refine qB (sok xt) (qBJ xt _ m (ha1.up (by omega)) fun n3 hn3=> ?_);simp only [xZO] at hn3;simp only [sy.1,rE,reduceIte,rL,xZW];refine qB (sok xt) (kH xt _ _ _ _ fun n4 hn4=> ?_);simp only [xZO] at hn4;have hpos:0<m.cells.length:=by have:=y9.1 b1;omega
 cases b2:inB m.W 1 8
 ·have b2':=b2;unfold inB at b2';simp only [sy.1,rE,reduceIte,rL,b2',xZW];apply hn;clear hn hp K;refine qC true (by simp only [sy.1,rE,reduceIte]) (fun _=> ?_) (fun hx=>by cases hx);refine qE ?_;refine qA fun K hn hp=> ?_;simp only [sy.1,rL];apply hn;clear hn hp K;refine qU (retF _ _ (by omega) (by simp [xZZ]) (Mp.row_no hpos ?_));have e0:m.cells.getD 0 []=m.cells.headD []:=by cases m.cells<;>rfl
  simp only [Mp.rowOk,e0];have b2:inB (m.cells.headD []).length 1 8=false:=b2;simp only [b2,xZY,xZX]
 have b2':=b2;unfold inB at b2';simp only [sy.1,rE,reduceIte,rL,sh1,b2',xZW];refine qB (sok xt) (kH xt _ _ _ _ fun n5 hn5=> ?_);simp only [xZO] at hn5;cases b3:inB m.T 0 9
 ·have b3':=b3;unfold inB at b3';simp only [sy.1,rE,reduceIte,rL,b3',xZW];apply hn;clear hn hp K;refine qC true (by simp only [sy.1,rE,reduceIte]) (fun _=> ?_) (fun hx=>by cases hx);refine qE ?_;refine qA fun K hn hp=> ?_;simp only [sy.1,rL];apply hn;clear hn hp K;refine qU (retF _ _ (by omega) (by simp [xZZ]) (Mp.rest_no (by simp only [Mp.restOk,b3,xZY])))
 have b3':=b3;unfold inB at b3';simp only [sy.1,rE,reduceIte,rL,sh1,b3',xZW];refine qB (sok xt) (kH xt _ _ _ _ fun n6 hn6=> ?_);simp only [xZO] at hn6;cases b4:inB m.H 0 3
 ·have b4':=b4;unfold inB at b4';simp only [sy.1,rE,reduceIte,rL,b4',xZW];apply hn;clear hn hp K;refine qC true (by simp only [sy.1,rE,reduceIte]) (fun _=> ?_) (fun hx=>by cases hx);refine qE ?_;refine qA fun K hn hp=> ?_;simp only [sy.1,rL];apply hn;clear hn hp K;refine qU (retF _ _ (by omega) (by simp [xZZ]) (Mp.rest_no (by simp only [Mp.restOk,b4,xZY,xZX])))
 have b4':=b4;unfold inB at b4';cases b5:decide ((8:Int)<m.gs.length)
 rotate_left
 ·simp only [sy.1,rE,reduceIte,rL,syw.1,hl23,sh1,b4',xZW,b5];apply hn;clear hn hp K;refine qC true (by simp only [sy.1,rE,reduceIte]) (fun _=> ?_) (fun hx=>by cases hx);refine qE ?_;refine qA fun K hn hp=> ?_;simp only [sy.1,rL];apply hn;clear hn hp K;have b5':decide ((m.gs.length:Int)<=8)=false:=decide_eq_false (by have:=of_decide_eq_true b5;omega);refine qU (retF _ _ (by omega) (by simp [xZZ]) (Mp.rest_no (by simp only [Mp.restOk,b5',xZY,xZX])))
 have b5':decide ((m.gs.length:Int)<=8)=true:=decide_eq_true (by have:=of_decide_eq_false b5;omega);cases b6:decide ((8:Int)<m.ks.length)
 rotate_left
 ·simp only [sy.1,rE,reduceIte,rL,syw.1,hl23,hl24,sh1,b4',xZW,b5,b6];apply hn;clear hn hp K;refine qC true (by simp only [sy.1,rE,reduceIte]) (fun _=> ?_) (fun hx=>by cases hx);refine qE ?_;refine qA fun K hn hp=> ?_;simp only [sy.1,rL];apply hn;clear hn hp K;have b6':decide ((m.ks.length:Int)<=8)=false:=decide_eq_false (by have:=of_decide_eq_true b6;omega);refine qU (retF _ _ (by omega) (by simp [xZZ]) (Mp.rest_no (by simp only [Mp.restOk,b6',xZY,xZX])))
 have b6':decide ((m.ks.length:Int)<=8)=true:=decide_eq_true (by have:=of_decide_eq_false b6;omega);cases b7:decide ((12:Int)<m.ps.length)
 rotate_left
 ·simp only [sy.1,rE,reduceIte,rL,syw.1,hl23,hl24,hl25,sh1,b4',xZW,b5,b6,b7];apply hn;clear hn hp K;refine qC true (by simp only [sy.1,rE,reduceIte]) (fun _=> ?_) (fun hx=>by cases hx);refine qE ?_;refine qA fun K hn hp=> ?_;simp only [sy.1,rL];apply hn;clear hn hp K;have b7':decide ((m.ps.length:Int)<=12)=false:=decide_eq_false (by have:=of_decide_eq_true b7;omega);refine qU (retF _ _ (by omega) (by simp [xZZ]) (Mp.rest_no (by simp only [Mp.restOk,b7',xZY,xZX])))
 have b7':decide ((m.ps.length:Int)<=12)=true:=decide_eq_true (by have:=of_decide_eq_false b7;omega);simp only [sy.1,rE,reduceIte,rL,syw.1,hl23,hl24,hl25,sh1,b4',xZW,b5,b6,b7];apply hn;clear hn hp K;refine qC false (by simp only [sy.1,rE,reduceIte]) (fun hx=>by cases hx) (fun _=> ?_);refine qI ?_;refine qE ?_;refine qA fun K hn hp=> ?_;simp only [sy.1,rL];apply hn;clear hn hp K;have hRb:=y9.1 b1;have hWb:=y9.1 b2;have hlc:=ha.lc;refine qF fun KA A1 A2 A3 A4 A5=> ?_;refine qS (sok xt) (fun st=> ∃(r:Nat) (n:Nat) (tm:T AV),st=⟨tm,192,h1.up n,[]⟩/\r<=m.cells.length/\tm.get 1=some (.ptr h.n 0)/\tm.get 3=some (iv r)/\h1.n<=n/\ ∀j,j<r->m.rowOk (m.cells.getD j [])=true) (fun st=>m.cells.length - (match st.tm.get 3 with|some (.val (.int _ n))=>n.toNat|_=>0)) ?_ ?_
 ·rintro st ⟨r,n,tm,rfl,hkA,g1,g3,hna,hrows⟩;have muA:=g3;refine qE ?_;refine qA fun K hn hp=> ?_;simp only [sy.1,rE,reduceIte,rL,rA,sh1,g1,g3];refine qB (sok xt) (qBh xt _ m (ha1.up hna) fun n7 hn7=> ?_);simp only [xZO] at hn7;simp only [sy.1,rE,reduceIte,rL,jR,xZW];apply hn;clear hn hp K;by_cases hr:r<m.cells.length
  ·refine qC true (by simp only [sy.1,rE,reduceIte,hr]) (fun _=> ?_) (fun hx=>by cases hx);obtain ⟨v,i1,i2,i3,i4⟩:=ha.rowF hr;have i2:=i2 h1 fh1;obtain ⟨l,hl⟩: ∃l,l=m.cells.getD r []:=⟨_,rfl⟩;rw [<-hl] at i3 i4;refine qI ?_;refine qF fun KB B1 B2 B3 B4 B5=> ?_;refine qE ?_;refine uT (sok xt) 0 0 9 [(1,1),(4,1),(5,1)] (by kernel_rfl) fun K hn hp=> ?_;simp only [sy.1,rE,reduceIte,rL,rA,syw.1,sh1,g1,g3,i1,i2,i4];refine qB (sok xt) (qBJ xt _ m (ha1.up (by omega)) fun n8 hn8=> ?_);simp only [xZO] at hn8;simp only [sy.1,rE,reduceIte,rL,rA,syw.1,sh1,i2,i4,hn8,xZW];apply hn;clear hn hp K;cases q:decide ((l.length:Int)=m.W)
   ·refine qC true (by simp only [sy.1,rE,reduceIte]) (fun _=> ?_) (fun hx=>by cases hx);refine qE ?_;refine qA fun K hn hp=> ?_;simp only [sy.1,rL];apply hn;clear hn hp K;refine qU (B4 _ (A4 _ (retF _ _ (by omega) (by simp [xZZ]) (Mp.row_no hr ?_))));rw [<-hl];have q:decide ((l.length:Int)=m.C)=false:=q;simp only [Mp.rowOk,q,xZY]
   refine qC false (by simp only [sy.1,rE,reduceIte]) (fun hx=>by cases hx) (fun _=> ?_);refine qI ?_;refine qA fun K hn hp=> ?_;simp only [sy.1,rL];apply hn;clear hn hp K;have hlW:l.length=m.W:=by have:=of_decide_eq_true q;omega
   refine jU fun KD D1 D2 D3 D4 D5=> ?_;refine qS (sok xt) (fun st=> ∃(c:Nat) (nc:Nat) (tm:T AV),st=⟨tm,192,h1.up nc,[]⟩/\c<=m.W/\tm.get 1=some (.ptr h.n 0)/\tm.get 3=some (iv r)/\tm.get 4=some (iv c)/\h1.n<=nc/\ ∀j,j<c->zN (l.getD j 0)=false) (fun st=>m.W - (match st.tm.get 4 with|some (.val (.int _ n))=>n.toNat|_=>0)) ?_ ?_
   ·rintro st ⟨c,nc,tm,rfl,hkD,g1,g3,g4,hnc,hcols⟩;have muD:=g4;refine qE ?_;refine qA fun K hn hp=> ?_;simp only [sy.1,rE,reduceIte,rL,rA,sh1,g1,g4];refine qB (sok xt) (qBJ xt _ m (ha1.up hnc) fun n9 hn9=> ?_);simp only [xZO] at hn9;simp only [sy.1,rE,reduceIte,rL,jR,xZW];apply hn;clear hn hp K;by_cases hc:c<m.W
    ·refine qC true (by simp only [sy.1,rE,reduceIte,hc]) (fun _=> ?_) (fun hx=>by cases hx);obtain ⟨x1,x2⟩:=(i3.fr fh1 (xZV _)).m58 (k:=c) (by omega);have no:zN (l.getD c 0)=true->m.ok=false:=fun hb=>Mp.row_no hr (by
      rw [<-hl];have:l.any zN=true:=qA4 (xZU (getD_some 0 (show c<l.length by omega))) hb;simp only [Mp.rowOk,this,xZJ,xZX])
     refine qI ?_;refine qF fun KE E1 E2 E3 E4 E5=> ?_;cases q1:decide (l.getD c 0<1)
     ·cases q2:decide (3<l.getD c 0)
      ·refine qA fun K hn hp=> ?_;simp only [sy.1,rE,reduceIte,rL,syw.1,sh1,g1,g3,i1,i2,g4,x1,x2,q1,q2];apply hn;clear hn hp K;refine qH false (by simp only [sy.1,rE,reduceIte]) (fun hx=>by cases hx) (fun _=> ?_);refine qY (E1 _ ?_);refine reg fun K hn hp=> ?_;simp only [sy.1,rE,reduceIte,rL,g4,qQ hc (show m.W<=9223372036854775807 by omega)];apply hn;clear hn hp K;refine ⟨⟨c+1,n9,_,rfl,by omega,(by simp [xZZ,g1]),(by simp [xZZ,g3]),(by simp [xZZ]),by omega,fun j hj=> ?_⟩,by simpa [xZZ,muD] using (by omega:m.W - (c+1)<m.W - c)⟩;by_cases e:j=c
       ·rw [e];simp only [zN,q1,q2];rfl
       ·exact hcols j (by omega)
      ·refine qA fun K hn hp=> ?_;simp only [sy.1,rE,reduceIte,rL,syw.1,sh1,g1,g3,i1,i2,g4,x1,x2,q1,q2];apply hn;clear hn hp K;refine qH true (by simp only [sy.1,rE,reduceIte]) (fun _=> ?_) (fun hx=>by cases hx);refine qA fun K hn hp=> ?_;simp only [sy.1,rL];apply hn;clear hn hp K;refine qD (E4 _ (D4 _ (B4 _ (A4 _ (retF _ _ (by omega) (by simp [xZZ]) (no (by simp only [zN,q1,q2];rfl)))))))
     ·refine qA fun K hn hp=> ?_;simp only [sy.1,rE,reduceIte,rL,syw.1,sh1,g1,g3,i1,i2,g4,x1,x2,q1];apply hn;clear hn hp K;refine qH true (by simp only [sy.1,rE,reduceIte]) (fun _=> ?_) (fun hx=>by cases hx);refine qA fun K hn hp=> ?_;simp only [sy.1,rL];apply hn;clear hn hp K;refine qD (E4 _ (D4 _ (B4 _ (A4 _ (retF _ _ (by omega) (by simp [xZZ]) (no (by simp only [zN,q1];rfl)))))))
    ·refine qC false (by simp only [sy.1,rE,reduceIte,hc]) (fun hx=>by cases hx) (fun _=> ?_);refine qR (D2 _ (B1 _ ?_));refine reg fun K hn hp=> ?_;simp only [sy.1,rE,reduceIte,rL,g3,qQ hr hlc];apply hn;clear hn hp K;refine ⟨⟨r+1,n9,_,rfl,by omega,(by simp [xZZ,g1]),(by simp [xZZ]),by omega,fun j hj=> ?_⟩,by simpa [xZZ,muA] using (by omega:m.cells.length - (r+1)<m.cells.length - r)⟩;by_cases e:j=r
     ·rw [e,<-hl];have h1:decide ((l.length:Int)=m.C)=true:=decide_eq_true (by rw [hlW];rfl);have h2:inB l.length 1 8=true:=by rw [hlW];exact b2
      have h3:l.any zN=false:=by
       rw [xZP];intro x hx;obtain ⟨j,hj,rfl⟩:=xZG hx;have:=hcols j (by omega);rw [xZS,xZT hj] at this;simpa using this
      simp only [Mp.rowOk,h1,h2,h3];rfl
     ·exact hrows j (by omega)
   ·exact ⟨0,n8,_,rfl,(by omega),(by simp [xZZ,g1]),(by simp [xZZ,g3]),(by simp [xZZ]),by omega,fun j hj=>absurd hj (Nat.not_lt_zero _)⟩
  ·refine qC false (by simp only [sy.1,rE,reduceIte,hr]) (fun hx=>by cases hx) (fun _=> ?_);have hall:m.cells.all m.rowOk=true:=by
    rw [xZE];intro l hl;obtain ⟨j,hj,rfl⟩:=xZG hl;have:=hrows j (by omega)
    rwa [xZS,xZT hj] at this
   have hrect:m.Rect:=fun l hl=>by
    have:=xZE.1 hall l hl;simp only [Mp.rowOk,Bool.and_eq_true,decide_eq_true_eq] at this;have h1:(l.length:Int)=(m.cells.headD []).length:=this.1;omega
   refine qR (A2 _ ?_);refine qE ?_;refine qA fun K hn hp=> ?_;simp only [sy.1,rL];apply hn;clear hn hp K;refine qF fun KG G1 G2 G3 G4 G5=> ?_;refine qS (sok xt) (fun st=> ∃(i:Nat) (hg:Hp) (tm:T AV),st=⟨tm,192,hg,[]⟩/\i<=m.gs.length/\tm.get 1=some (.ptr h.n 0)/\tm.get 5=some (iv i)/\Fr h1.n h1 hg/\ ∀x∈m.gs.take i,m.badG x=false) (fun st=>m.gs.length - (match st.tm.get 5 with|some (.val (.int _ n))=>n.toNat|_=>0)) ?_ ?_
   ·rintro st ⟨i,hg,tm,rfl,hkG,g1,g5,fg,hallg⟩;have muG:=g5;have fgh:=fh1.trans fg (by omega);have q1:=(fg.at_ h.n (.inl (by omega))).trans sh1;refine qE ?_;refine qA fun K hn hp=> ?_;simp only [sy.1,rE,reduceIte,rL,syw.1,jR,hl23,g1,g5,q1];apply hn;clear hn hp K;by_cases hi:i<m.gs.length
    ·refine qC true (by simp only [sy.1,rE,reduceIte,hi]) (fun _=> ?_) (fun hx=>by cases hx);have hag:=ha.fr fgh (xZV _);obtain ⟨x,hx⟩: ∃x,m.gs[i]? =some x:=⟨_,xZT hi⟩;have i1:=hag.gs.idx tg23 rfl bT rfl (i:=i) (by simpa using hi) (k:= .i64);have i2:=hag.gs.loadA bT rfl rfl (i:=i) (c:=Kn.g4 x) (by rw [xZQ,hx];rfl);have hbad:=m.badG_rc hrect x;have gno:m.badG x=true->m.ok=false:=fun hb=>Mp.g_no (xZU hx) hb;have gyes:m.badG x=false-> ∀y∈m.gs.take (i+1),m.badG y=false:=fun hb=>by
      rw [xZH,hx];intro y hy;simp only [xZL,xZI,xZK] at hy;rcases hy with hy|rfl
      ·exact hallg y hy
      ·exact hb
     obtain ⟨xr,xc,xs,xo⟩:=x;simp only [Kn.g4,List.map_cons,List.map_nil] at i2 hbad;refine qI ?_;refine qF fun KH H1 H2 H3 H4 H5=> ?_;refine qA fun K hn hp=> ?_;simp only [sw.1,rE,reduceIte,rL,rA,al48,g1,g5,i1,i2,q1];apply hn;clear hn hp K;obtain ⟨h9,hh9⟩: ∃h9:Hp,h9=(hg.new (.cells [iv 0,iv 0,iv 0,iv 0] 48)).set hg.n (.cells [iv xr,iv xc,iv xs,iv xo] 48):=⟨_,rfl⟩;have nh9:h9.n=hg.n+1:=by rw [hh9];rfl
     have sh9:h9.t.get hg.n=some (.cells [iv xr,iv xc,iv xs,iv xo] 48):=by rw [hh9,Hp.set_t,xZZ,if_pos rfl]
     have kh9: ∀k,k<hg.n->h9.t.get k=hg.t.get k:=fun k hk=>by rw [hh9];exact zO _ _ _ hk
     have fbh9:Fr hg.n hg h9:=by rw [hh9];exact zP _ _ _
     have fh9:=fbh9;rw [<-hh9];have f9:=fg.trans fbh9 fg.lo;have q9:=(f9.at_ h.n (.inl (by omega))).trans sh1;refine qA fun K hn hp=> ?_;simp only [sy.1,rE,reduceIte,rL,rA,g1,sh9,q9];refine qB (sok xt) (rc_c xt h9 m (ha1.fr f9 (xZV _)) xr xc fun n9 hn9=> ?_);have retG: ∀(n:Nat) (tm:T AV),h9.n<=n->tm.get 2=some (.val (.bool false))->m.badG (xr,xc,xs,xo)=true->wB (SE xt) Tryz.f39 (fun r h'=>r= .ret (.val (.bool m.ok))/\Fr h.n h h') .ret ⟨tm,192,h9.up n,[]⟩:=fun n tm hn g hm=>qK res39 ⟨by simp [g,gno hm],(fh1.trans f9 (by omega)).up hn⟩;by_cases c1:m.rc xr xc=1
     ·simp only [sy.1,rE,reduceIte,rL,decide_eq_true c1];apply hn;clear hn hp K;refine qH true (by simp only [sy.1,rE,reduceIte]) (fun _=> ?_) (fun hx=>by cases hx);refine qA fun K hn hp=> ?_;simp only [sy.1,rL];apply hn;clear hn hp K;refine qD (H4 _ (G4 _ (retG _ _ (by omega) (by simp [xZZ]) (by rw [hbad,decide_eq_true c1];rfl))))
     simp only [sy.1,rE,reduceIte,rL,sh9,decide_eq_false c1];refine qB (sok xt) (kH xt _ _ _ _ fun n10 hn10=> ?_);simp only [xZO] at hn10;cases c2:inB xs 0 60
     ·have c2':=c2;unfold inB at c2';simp only [sy.1,rE,reduceIte,rL,c2',xZW];apply hn;clear hn hp K;refine qH true (by simp only [sy.1,rE,reduceIte]) (fun _=> ?_) (fun hx=>by cases hx);refine qA fun K hn hp=> ?_;simp only [sy.1,rL];apply hn;clear hn hp K;refine qD (H4 _ (G4 _ (retG _ _ (by omega) (by simp [xZZ]) (by rw [hbad,c2];simp))))
     have c2':=c2;unfold inB at c2';simp only [sy.1,rE,reduceIte,rL,sh9,c2',xZW];refine qB (sok xt) (kH xt _ _ _ _ fun n11 hn11=> ?_);simp only [xZO] at hn11;cases c3:inB xo 0 9
     ·have c3':=c3;unfold inB at c3';simp only [sy.1,rE,reduceIte,rL,c3',xZW];apply hn;clear hn hp K;refine qH true (by simp only [sy.1,rE,reduceIte]) (fun _=> ?_) (fun hx=>by cases hx);refine qA fun K hn hp=> ?_;simp only [sy.1,rL];apply hn;clear hn hp K;refine qD (H4 _ (G4 _ (retG _ _ (by omega) (by simp [xZZ]) (by rw [hbad,c3];simp))))
     have c3':=c3;unfold inB at c3';simp only [sy.1,rE,reduceIte,rL,c3',xZW];apply hn;clear hn hp K;refine qH false (by simp only [sy.1,rE,reduceIte]) (fun hx=>by cases hx) (fun _=> ?_);refine qY (H1 _ ?_);refine reg fun K hn hp=> ?_;simp only [sy.1,rE,reduceIte,rL,g5,qQ hi ha.lg];apply hn;clear hn hp K;refine ⟨⟨i+1,_,_,rfl,by omega,(by simp [xZZ,g1]),(by simp [xZZ]),f9.up (by omega),gyes (by rw [hbad,decide_eq_false c1,c2,c3];rfl)⟩,by simpa [xZZ,muG] using (by omega:m.gs.length - (i+1)<m.gs.length - i)⟩
    ·refine qC false (by simp only [sy.1,rE,reduceIte,hi]) (fun hx=>by cases hx) (fun _=> ?_);rw [xZM (by omega)] at hallg;refine qR (G2 _ ?_);refine qE ?_;refine qA fun K hn hp=> ?_;simp only [sy.1,rL];apply hn;clear hn hp K;refine qF fun KP P1 P2 P3 P4 P5=> ?_;refine qS (sok xt) (fun st=> ∃(i:Nat) (hk:Hp) (tm:T AV),st=⟨tm,192,hk,[]⟩/\i<=m.ks.length/\tm.get 1=some (.ptr h.n 0)/\tm.get 7=some (iv i)/\Fr h1.n h1 hk/\ ∀x∈m.ks.take i,m.badK x=false) (fun st=>m.ks.length - (match st.tm.get 7 with|some (.val (.int _ n))=>n.toNat|_=>0)) ?_ ?_
     ·rintro st ⟨i,hk,tm,rfl,hkP,g1,g7,fk,hallk⟩;have muP:=g7;have fkh:=fh1.trans fk (by omega);have q1:=(fk.at_ h.n (.inl (by omega))).trans sh1;refine qE ?_;refine qA fun K hn hp=> ?_;simp only [sy.1,rE,reduceIte,rL,syw.1,jR,hl24,g1,g7,q1];apply hn;clear hn hp K;by_cases hi:i<m.ks.length
      ·refine qC true (by simp only [sy.1,rE,reduceIte,hi]) (fun _=> ?_) (fun hx=>by cases hx);have hag:=ha.fr fkh (xZV _);obtain ⟨x,hx⟩: ∃x,m.ks[i]? =some x:=⟨_,xZT hi⟩;have i1:=hag.ks.idx tg24 rfl qAK rfl (i:=i) (by simpa using hi) (k:= .i64);have i2:=hag.ks.loadA qAK rfl rfl (i:=i) (c:=Kn.k3 x) (by rw [xZQ,hx];rfl);have kno:m.badK x=true->m.ok=false:=fun hb=>Mp.k_no (xZU hx) hb;have kyes:m.badK x=false-> ∀y∈m.ks.take (i+1),m.badK y=false:=fun hb=>by
        rw [xZH,hx];intro y hy;simp only [xZL,xZI,xZK] at hy;rcases hy with hy|rfl
        ·exact hallk y hy
        ·exact hb
       obtain ⟨xr,xc,xd⟩:=x;simp only [Kn.k3,List.map_cons,List.map_nil] at i2;refine qI ?_;refine qF fun KH H1 H2 H3 H4 H5=> ?_;refine qA fun K hn hp=> ?_;simp only [sw.1,rE,reduceIte,rL,rA,al50,g1,g7,i1,i2,q1];apply hn;clear hn hp K;obtain ⟨h9,hh9⟩: ∃h9:Hp,h9=(hk.new (.cells [iv 0,iv 0,.val (.bool false)] 50)).set hk.n (.cells [iv xr,iv xc,.val (.bool xd)] 50):=⟨_,rfl⟩;have nh9:h9.n=hk.n+1:=by rw [hh9];rfl
       have sh9:h9.t.get hk.n=some (.cells [iv xr,iv xc,.val (.bool xd)] 50):=by rw [hh9,Hp.set_t,xZZ,if_pos rfl]
       have kh9: ∀k,k<hk.n->h9.t.get k=hk.t.get k:=fun k hk=>by rw [hh9];exact zO _ _ _ hk
       have fbh9:Fr hk.n hk h9:=by rw [hh9];exact zP _ _ _
       have fh9:=fbh9;rw [<-hh9];have f9:=fk.trans fbh9 fk.lo;have q9:=(f9.at_ h.n (.inl (by omega))).trans sh1;have retK: ∀(n:Nat) (tm:T AV),h9.n<=n->tm.get 2=some (.val (.bool false))->m.badK (xr,xc,xd)=true->wB (SE xt) Tryz.f39 (fun r h'=>r= .ret (.val (.bool m.ok))/\Fr h.n h h') .ret ⟨tm,192,h9.up n,[]⟩:=fun n tm hn g hm=>qK res39 ⟨by simp [g,kno hm],(fh1.trans f9 (by omega)).up hn⟩;refine qA fun K hn hp=> ?_;simp only [sy.1,rE,reduceIte,rL,rA,g1,sh9,q9];refine qB (sok xt) (qCD xt h9 m (ha1.fr f9 (xZV _)) xr xc fun n9 hn9=> ?_);cases c1:m.inside xr xc
       ·simp only [sy.1,rE,reduceIte,rL,syw.1];apply hn;clear hn hp K;refine qH true (by simp only [sy.1,rE,reduceIte]) (fun _=> ?_) (fun hx=>by cases hx);refine qA fun K hn hp=> ?_;simp only [sy.1,rL];apply hn;clear hn hp K;refine qD (H4 _ (P4 _ (retK _ _ (by omega) (by simp [xZZ]) (by simp only [Mp.badK,c1];rfl))))
       cases xd with
       |false=>
        simp only [sy.1,rE,reduceIte,rL,rA,g1,sh9,q9];refine qB (sok xt) (qCD xt (h9.up n9) m ((ha1.fr f9 (xZV _)).up (by omega)) xr (IntKind.i64.wrap (xc+1)) fun n10 hn10=> ?_);simp only [xZO] at hn10;cases c2:m.inside xr (IntKind.i64.wrap (xc+1))
        ·simp only [sy.1,rE,reduceIte,rL,xZW];apply hn;clear hn hp K;refine qH true (by simp only [sy.1,rE,reduceIte]) (fun _=> ?_) (fun hx=>by cases hx);refine qA fun K hn hp=> ?_;simp only [sy.1,rL];apply hn;clear hn hp K;refine qD (H4 _ (P4 _ (retK _ _ (by omega) (by simp [xZZ]) (by simp only [Mp.badK,wZ,w8,c1,c2,xZF,if_false];rfl))))
        ·simp only [sy.1,rE,reduceIte,rL,xZW];apply hn;clear hn hp K;refine qH false (by simp only [sy.1,rE,reduceIte]) (fun hx=>by cases hx) (fun _=> ?_);refine qY (H1 _ ?_);refine reg fun K hn hp=> ?_;simp only [sy.1,rE,reduceIte,rL,g7,qQ hi ha.lk];apply hn;clear hn hp K;refine ⟨⟨i+1,_,_,rfl,by omega,(by simp [xZZ,g1]),(by simp [xZZ]),f9.up (by omega),kyes (by simp only [Mp.badK,wZ,w8,c1,c2,xZF,if_false];rfl)⟩,by simpa [xZZ,muP] using (by omega:m.ks.length - (i+1)<m.ks.length - i)⟩
       |true=>
        simp only [sy.1,rE,reduceIte,rL,rA,g1,sh9,q9];refine qB (sok xt) (qCD xt (h9.up n9) m ((ha1.fr f9 (xZV _)).up (by omega)) (IntKind.i64.wrap (xr+1)) xc fun n10 hn10=> ?_);simp only [xZO] at hn10;cases c2:m.inside (IntKind.i64.wrap (xr+1)) xc
        ·simp only [sy.1,rE,reduceIte,rL,syw.1,xZW];apply hn;clear hn hp K;refine qH true (by simp only [sy.1,rE,reduceIte]) (fun _=> ?_) (fun hx=>by cases hx);refine qA fun K hn hp=> ?_;simp only [sy.1,rL];apply hn;clear hn hp K;refine qD (H4 _ (P4 _ (retK _ _ (by omega) (by simp [xZZ]) (by simp only [Mp.badK,wZ,w8,c1,c2,if_true];rfl))))
        ·simp only [sy.1,rE,reduceIte,rL,sh9,xZW];apply hn;clear hn hp K;refine qH false (by simp only [sy.1,rE,reduceIte]) (fun hx=>by cases hx) (fun _=> ?_);refine qY (H1 _ ?_);refine reg fun K hn hp=> ?_;simp only [sy.1,rE,reduceIte,rL,g7,qQ hi ha.lk];apply hn;clear hn hp K;refine ⟨⟨i+1,_,_,rfl,by omega,(by simp [xZZ,g1]),(by simp [xZZ]),f9.up (by omega),kyes (by simp only [Mp.badK,wZ,w8,c1,c2,if_true];rfl)⟩,by simpa [xZZ,muP] using (by omega:m.ks.length - (i+1)<m.ks.length - i)⟩
      ·refine qC false (by simp only [sy.1,rE,reduceIte,hi]) (fun hx=>by cases hx) (fun _=> ?_);rw [xZM (by omega)] at hallk;refine qR (P2 _ ?_);refine qE ?_;refine qA fun K hn hp=> ?_;simp only [sy.1,rL];apply hn;clear hn hp K;refine qF fun KQ Q1 Q2 Q3 Q4 Q5=> ?_;refine qS (sok xt) (fun st=> ∃(i:Nat) (hz:Hp) (tm:T AV),st=⟨tm,192,hz,[]⟩/\i<=m.ps.length/\tm.get 1=some (.ptr h.n 0)/\tm.get 9=some (iv i)/\Fr h1.n h1 hz/\ ∀x∈m.ps.take i,m.is x.1 x.2 2=true) (fun st=>m.ps.length - (match st.tm.get 9 with|some (.val (.int _ n))=>n.toNat|_=>0)) ?_ ?_
       ·rintro st ⟨i,hz,tm,rfl,hkQ,g1,g9,fz,hallp⟩;have muQ:=g9;have fzh:=fh1.trans fz (by omega);have q1:=(fz.at_ h.n (.inl (by omega))).trans sh1;refine qE ?_;refine qA fun K hn hp=> ?_;simp only [sy.1,rE,reduceIte,rL,syw.1,jR,hl25,g1,g9,q1];apply hn;clear hn hp K;by_cases hi:i<m.ps.length
        ·refine qC true (by simp only [sy.1,rE,reduceIte,hi]) (fun _=> ?_) (fun hx=>by cases hx);have hag:=ha.fr fzh (xZV _);obtain ⟨x,hx⟩: ∃x,m.ps[i]? =some x:=⟨_,xZT hi⟩;have hne:m.ps.map p2≠[]:=fun hq=>by
          have:m.ps.length=0:=by simpa using congrArg List.length hq
          omega
         have i1:=hag.ps.idx pM rfl v6 rfl (i:=i) (by simpa using hi) (k:= .i64);have i2:=hag.ps.fa hne v6 rfl (f:=0) (o:=0) (s:=0) (ft:=3) rfl (i*2);have i3:=hag.ps.fa hne v6 rfl (f:=1) (o:=1) (s:=0) (ft:=3) rfl (i*2);have i4:=hag.ps.load tg3 rfl (i:=i) (j:=0) (c:=p2 x) (u:= .int .i64 x.1) (by rw [xZQ,hx];rfl) rfl;have i5:=hag.ps.load tg3 rfl (i:=i) (j:=1) (c:=p2 x) (u:= .int .i64 x.2) (by rw [xZQ,hx];rfl) rfl;simp only [Nat.add_zero] at i2 i4;have hbad:=m.is_rc hrect x.1 x.2;refine qI ?_;refine qF fun KH H1 H2 H3 H4 H5=> ?_;refine yM (sok xt) 13 (by kernel_rfl) fun K hn hp=> ?_;simp only [sy.1,rE,reduceIte,rL,rA,g1,g9,i1,i2,i3,i4,i5,q1];refine qB (sok xt) (rc_c xt hz m (ha1.fr fz (xZV _)) x.1 x.2 fun n9 hn9=> ?_);by_cases c1:m.rc x.1 x.2=2
         ·simp only [sy.1,rE,reduceIte,rL,decide_eq_true c1];apply hn;clear hn hp K;refine qH false (by simp only [sy.1,rE,reduceIte]) (fun hx=>by cases hx) (fun _=> ?_);refine qY (H1 _ ?_);refine reg fun K hn hp=> ?_;simp only [sy.1,rE,reduceIte,rL,g9,qQ hi ha.lp];apply hn;clear hn hp K;refine ⟨⟨i+1,_,_,rfl,by omega,(by simp [xZZ,g1]),(by simp [xZZ]),fz.up (by omega),?_⟩,by simpa [xZZ,muQ] using (by omega:m.ps.length - (i+1)<m.ps.length - i)⟩;rw [xZH,hx];intro y hy;simp only [xZL,xZI,xZK] at hy;rcases hy with hy|rfl
          ·exact hallp y hy
          ·rw [hbad,decide_eq_true c1]
         ·simp only [sy.1,rE,reduceIte,rL,decide_eq_false c1];apply hn;clear hn hp K;refine qH true (by simp only [sy.1,rE,reduceIte]) (fun _=> ?_) (fun hx=>by cases hx);refine qA fun K hn hp=> ?_;simp only [sy.1,rL];apply hn;clear hn hp K;refine qD (H4 _ (Q4 _ (qK res39 ⟨?_,fzh.up (by omega)⟩)));have:m.ok=false:=Mp.p_no (xZU hx) (by rw [hbad,decide_eq_false c1]);simp [xZZ,this]
        ·refine qC false (by simp only [sy.1,rE,reduceIte,hi]) (fun hx=>by cases hx) (fun _=> ?_);rw [xZM (by omega)] at hallp;refine qR (Q2 _ ?_);refine qA fun K hn hp=> ?_;simp only [sy.1,rL];apply hn;clear hn hp K;refine qD (qK res39 ⟨?_,fzh⟩);have e1:m.gs.any m.badG=false:=by rw [xZP];intro x hx;rw [hallg x hx];exact xZR
         have e2:m.ks.any m.badK=false:=by rw [xZP];intro x hx;rw [hallk x hx];exact xZR
         have e3:m.ps.any (fun p=> !m.is p.1 p.2 2)=false:=by rw [xZP];intro x hx;rw [hallp x hx];exact xZR
         have e4:inB m.R 1 6=true:=b1;have:m.ok=true:=by
          simp only [Mp.ok,Mp.restOk,e4,hall,b3,b4,b5',b6',b7',e1,e2,e3];rfl
         simp [xZZ,this]
       ·exact ⟨0,_,_,rfl,(by omega),(by simp [xZZ,g1]),(by simp [xZZ]),fk,fun x hx=>by simp at hx⟩
     ·exact ⟨0,_,_,rfl,(by omega),(by simp [xZZ,g1]),(by simp [xZZ]),fg,fun x hx=>by simp at hx⟩
   ·exact ⟨0,h1.up n7,_,rfl,(by omega),(by simp [xZZ,g1]),(by simp [xZZ]),(Fr.refl (xZV _)).up (by omega),fun x hx=>by simp at hx⟩
 ·exact ⟨0,n6,_,rfl,(by omega),(by simp [xZZ]),(by simp [xZZ]),by omega,fun j hj=>absurd hj (Nat.not_lt_zero _)⟩
end Go.Proofs.Kn
namespace Go.Proofs.Kn
open Go Go.Ev
set_option maxRecDepth 100000
set_option maxHeartbeats 4000000
def Bw (F:Nat->Nat->Int×Int):Prop:= ∀r c,(0<=(F r c).1/\(F r c).1<=60)/\0<=(F r c).2/\(F r c).2<=60
theorem Bw.F0 (m:Mp):Bw m.F0:=fun r c=>by simp only [Mp.F0];split<;>simp
theorem Bw.put {F:Nat->Nat->Int×Int} (h:Bw F) {r c:Nat} {s:Int×Int} (h1:s.1<=60) (h2:0<=s.2):Bw (Th.putRow F r (Th.put (F r) c (Th.nar (F r c) s))):=fun x y=>by
 have h0:=h r c;by_cases e:x=r
 ·subst e;rw [Th.putRow_at];by_cases e:y=c
  ·subst e;rw [Th.put_at];simp only [Th.nar];omega
  ·rw [Th.put_ne _ _ e];exact h x y
 ·rw [Th.putRow_ne _ _ e];exact h x y
structure TInv (h:Hp) (m:Mp) (C:Nat) (hc:Hp) (v:AV) (M R:Nat) (F:Nat->Nat->Int×Int):Prop where
 fr:Fr h.n h hc
 b0:hc.t.get h.n=some (.cells m.cs 27)
 sg:SG hc (h.n+1) M v R C F
 le:h.n+1<=M
 hi:M<=hc.n
theorem TInv.keep {h hc hd:Hp} {m:Mp} {C:Nat} {v:AV} {M R:Nat} {F:Nat->Nat->Int×Int} (b:TInv h m C hc v M R F) {n:Nat} (f:Fr n hc hd) (hn:M<=n):TInv h m C hd v M R F:=by
 have h1:=b.le;have h2:=b.hi;have h3:=f.le;exact ⟨b.fr.trans f (by omega),by rw [f.at_ _ (by omega)];exact b.b0,b.sg.fr f hn,b.le,by omega⟩
theorem TInv.frR {h hc hd:Hp} {m:Mp} {C:Nat} {v:AV} {M R:Nat} {F G:Nat->Nat->Int×Int} (b:TInv h m C hc v M R F) (f:FrR (h.n+1) M hc hd) (hs:SG hd (h.n+1) M v R C G):TInv h m C hd v M R G:=by
 have h1:=b.le;have h2:=b.hi;have h3:=f.le;exact ⟨b.fr.trans (f.fr (by omega)) (by omega),by rw [f.at_ _ (by omega)];exact b.b0,hs,b.le,by omega⟩
theorem qAA {t:T AO} {n:Nat} {o:AO} {os:List AO}:jY t n (o::os)=(jY t (n+1) os).put (some o) n:=rfl
end Go.Proofs.Kn
