/- MvH5: texts in a row, joined by a program. -/
import Derived.Test.YtnmfblokfponlaaGreatDoorQN
set_option linter.all false
open Nat renaming reduceEqDiff → rE, reduceLeDiff → rD, reduceAdd → rA, reduceMul → rM, reduceLT → rL
open Go.Ev.T renaming get_put → xZZ
open Nat renaming le_refl → xZY
open Go.Ev.Hp renaming up_up → xZX, up_n → xZU
open Int renaming toNat_natCast → xZW
open List renaming all_eq_true → xZV, mem_of_getElem? → xZT
namespace Go.Proofs.Kn
open Go Go.Ev
set_option maxRecDepth 100000
theorem ft49 (xt:Addr->Option Value):(SE xt).ft.get 49=some Tryz.f49:=by kernel_rfl
theorem res49:Tryz.f49.results.toList=[.tmp 4]:=by kernel_rfl
def kU (m:Mp) (t:List Int) (r c:Nat):Bool:=
 if m.rc r c=1 then decide (t.getD c 0=0) else inB (t.getD c 0) 0 60 && !(!decide (m.rc r (c+1:Nat)=1) && !inB (t.getD (c+1) 0) (t.getD c 0 - m.T) (t.getD c 0))
def yO (g:Gr) (x:Int×Int×Int×Int):Bool:=inB (g.cell x.1 x.2.1) (x.2.2.1 - x.2.2.2) (x.2.2.1+x.2.2.2)
def pT (m:Mp) (g:Gr) (r:Nat):Bool:=(List.range m.W).all (kU m (g.ll.getD r []) r)
def yW (m:Mp) (g:Gr):Bool:=(List.range m.cells.length).all (pT m g) && m.gs.all (yO g)
theorem qCP {m:Mp} {R C:Nat} (hm:m.Is R C) {r c:Nat} (hr:r<R):m.rc r c=if c<C then m.cell r c else 1:=by
 have h1:=hm.hR;have h2:=hm.hC r hr;simp only [Mp.rc,xZW,h2,inB,Mp.R,h1,Mp.cell];have e1:decide ((0:Int)<=(r:Int))=true:=decide_eq_true (by omega);have e2:decide ((r:Int)<=(R:Int) - 1)=true:=decide_eq_true (by omega);have e3:decide ((0:Int)<=(c:Int))=true:=decide_eq_true (by omega);rw [e1,e2,e3];by_cases hc:c<C
 ·have e4:decide ((c:Int)<=(C:Int) - 1)=true:=decide_eq_true (by omega);rw [e4,if_pos hc];rfl
 ·have e4:decide ((c:Int)<=(C:Int) - 1)=false:=decide_eq_false (by omega);rw [e4,if_neg hc];rfl
theorem rfits_c (xt:Addr->Option Value) (h:Hp) (m:Mp) (ha:m.At xt h) (g:Gr) (hg:g.At xt h) (R C:Nat) (hm:m.Is R C) (hW:m.W=C) (hgl:g.ll.length=R) (hgr: ∀r,r<R->(g.ll.getD r []).length=C) {K:CR->Hp->Prop} (hk: ∀n,h.n<n->K (.ret (.val (.bool (yW m g)))) (h.up n)):FnA (SE xt) 49 [m.av,g.v] h K:=by
 refine FnA.calm ?_ hk;clear hk K;refine FnA.walk (sok xt) (ft49 xt) rfl 95 rfl ?_;obtain ⟨o1,o2,o3,o4,o5⟩:=ha.wk.ones;have hR:=hm.hR;have hC8:=hm.c8;have hR6:=hm.r6;have hT:=hm.T;refine qA fun K hn hp=> ?_;simp only [sw.1,rE,reduceIte,rL];apply hn;clear hn hp K;obtain ⟨h1,hh1⟩: ∃h1:Hp,h1=h.new (.cells m.cs 27):=⟨_,rfl⟩;rw [<-hh1];have nh1:h1.n=h.n+1:=by rw [hh1];rfl
 have sh1:h1.t.get h.n=some (.cells m.cs 27):=by rw [hh1];exact qY _ _
 have kh1: ∀k,k<h.n->h1.t.get k=h.t.get k:=fun k hk=>by rw [hh1];exact jA _ _ hk
 have fbh1:Fr h.n h h1:=by rw [hh1];exact (Fr.refl (xZY _)).new _
 have fh1:=fbh1;have ha1:=ha.fr fh1 (xZY _);have hg1:=hg.fr fh1 (xZY _);have retF: ∀(n:Nat) (tm:T AV),h1.n<=n->tm.get 4=some (.val (.bool false))->yW m g=false->pG (SE xt) Tryz.f49 (fun r h'=>r= .ret (.val (.bool (yW m g)))/\Fr h.n h h') .ret ⟨tm,95,h1.up n,[]⟩:=fun n tm hn g hm=>qN res49 ⟨by simp [g,hm],fh1.up hn⟩;refine qD ?_;refine qA fun K hn hp=> ?_;simp only [sy.1,rL];apply hn;clear hn hp K;refine qF fun KA A1 A2 A3 A4 A5=> ?_;refine qQ (sok xt) (fun st=> ∃(r:Nat) (n:Nat) (tm:T AV),st=⟨tm,95,h1.up n,[]⟩/\r<=R/\tm.get 1=some (g.v)/\tm.get 2=some (.ptr h.n 0)/\tm.get 5=some (iv r)/\h1.n<=n/\ ∀j,j<r->pT m g j=true) (fun st=>R - (match st.tm.get 5 with|some (.val (.int _ n))=>n.toNat|_=>0)) ?_ ?_
 ·rintro st ⟨r,n,tm,rfl,hkA,g1,g2,g5,hn1,hrows⟩;have muA:=g5;refine qD ?_;refine qA fun K hn hp=> ?_;simp only [sy.1,rE,reduceIte,rL,rA,sh1,g2,g5];refine qB (sok xt) (uD xt _ m (ha1.up hn1) fun n2 hn2=> ?_);simp only [xZU] at hn2;simp only [sy.1,rE,reduceIte,rL,qZ,xZX,hR];apply hn;clear hn hp K;by_cases hr:r<R
  ·refine qC true (by simp only [sy.1,rE,reduceIte,hr]) (fun _=> ?_) (fun hx=>by cases hx);obtain ⟨v,i1,i2,i3,i4⟩:=hg1.rowD (i:=r) (by omega);obtain ⟨t,ht⟩: ∃t,t=g.ll.getD r []:=⟨_,rfl⟩;have htC:=hgr r hr;rw [<-ht] at i3 i4 htC;have noR: ∀c,c<C->kU m t r c=false->yW m g=false:=fun c hc hf=>by
    have q:pT m g r=false:=yQ (k:=c) (by omega) (by rw [<-ht];exact hf);show ((List.range m.cells.length).all (pT m g) && _)=false;rw [yQ (k:=r) (by omega) q];rfl
   refine qG ?_;refine qF fun KB B1 B2 B3 B4 B5=> ?_;refine qA fun K hn hp=> ?_;simp only [sy.1,rL];apply hn;clear hn hp K;refine jO fun KD D1 D2 D3 D4 D5=> ?_;refine qQ (sok xt) (fun st=> ∃(c:Nat) (nc:Nat) (tm:T AV),st=⟨tm,95,h1.up nc,[]⟩/\c<=C/\tm.get 1=some (g.v)/\tm.get 2=some (.ptr h.n 0)/\tm.get 5=some (iv r)/\tm.get 6=some (iv c)/\h1.n<=nc/\ ∀j,j<c->kU m t r j=true) (fun st=>C - (match st.tm.get 6 with|some (.val (.int _ n))=>n.toNat|_=>0)) ?_ ?_
   ·rintro st ⟨c,nc,tm,rfl,hkD,g1,g2,g5,g6,hn3,hcols⟩;have muD:=g6;refine qD ?_;refine qA fun K hn hp=> ?_;simp only [sy.1,rE,reduceIte,rL,rA,sh1,g2,g6];refine qB (sok xt) (xR xt _ m (ha1.up hn3) fun n4 hn4=> ?_);simp only [xZU] at hn4;simp only [sy.1,rE,reduceIte,rL,qZ,xZX,hW];apply hn;clear hn hp K;by_cases hc:c<C
    ·refine qC true (by simp only [sy.1,rE,reduceIte,hc]) (fun _=> ?_) (fun hx=>by cases hx);obtain ⟨x1,x2⟩:=(i3.m75 (k:=c) (by omega));refine qG ?_;refine qF fun KE E1 E2 E3 E4 E5=> ?_;refine qA fun K hn hp=> ?_;simp only [sy.1,rE,reduceIte,rL,syw.1,g1,g5,i1,i2,g6,x1,x2];apply hn;clear hn hp K;refine qD ?_;refine qA fun K hn hp=> ?_;simp only [sy.1,rE,reduceIte,rL,rA,sh1,g2,g5,g6];refine qB (sok xt) (rc_c xt _ m (ha1.up (by omega)) r c fun n5 hn5=> ?_);simp only [xZU] at hn5;simp only [sy.1,rE,reduceIte,rL,xZX];apply hn;clear hn hp K;have nextE: ∀(tm:T AV) (n:Nat),h1.n<=n->kU m t r c=true->tm.get 1=some g.v->tm.get 2=some (.ptr h.n 0)->tm.get 5=some (iv r)->tm.get 6=some (iv c)->KE (.exit 3) ⟨tm,95,h1.up n,[]⟩:=by
      intro tm n hn hfit g1 g2 g5 g6;refine E2 _ ?_;refine reg fun K hn hp=> ?_;simp only [sy.1,rE,reduceIte,rL,g6,qL hc (show C<=9223372036854775807 by omega)];apply hn;clear hn hp K;refine ⟨⟨c+1,n,_,rfl,by omega,(by simp [xZZ,g1]),(by simp [xZZ,g2]),(by simp [xZZ,g5]),(by simp [xZZ]),hn,fun j hj=> ?_⟩,by simpa [xZZ,muD] using (by omega:C - (c+1)<C - c)⟩;by_cases e:j=c
      ·rw [e];exact hfit
      ·exact hcols j (by omega)
     have nextN: ∀(tm:T AV) (n:Nat),h1.n<=n->kU m t r c=true->tm.get 1=some g.v->tm.get 2=some (.ptr h.n 0)->tm.get 5=some (iv r)->tm.get 6=some (iv c)->KE .normal ⟨tm,95,h1.up n,[]⟩:=by
      intro tm n hn hfit g1 g2 g5 g6;refine E1 _ ?_;refine reg fun K hn hp=> ?_;simp only [sy.1,rE,reduceIte,rL,g6,qL hc (show C<=9223372036854775807 by omega)];apply hn;clear hn hp K;refine ⟨⟨c+1,n,_,rfl,by omega,(by simp [xZZ,g1]),(by simp [xZZ,g2]),(by simp [xZZ,g5]),(by simp [xZZ]),hn,fun j hj=> ?_⟩,by simpa [xZZ,muD] using (by omega:C - (c+1)<C - c)⟩;by_cases e:j=c
      ·rw [e];exact hfit
      ·exact hcols j (by omega)
     by_cases b1:m.rc r c=1
     ·refine qC true (by simp only [sy.1,rE,reduceIte,decide_eq_true b1]) (fun _=> ?_) (fun hx=>by cases hx);refine qD ?_;refine qD ?_;refine qA fun K hn hp=> ?_;simp only [sy.1,rE,reduceIte,rL];apply hn;clear hn hp K;cases b2:decide (t.getD c 0=0)
      ·refine qC true (by simp only [sy.1,rE,reduceIte]) (fun _=> ?_) (fun hx=>by cases hx);refine qD ?_;refine qA fun K hn hp=> ?_;simp only [sy.1,rL];apply hn;clear hn hp K;refine qX (E4 _ (D4 _ (B4 _ (A4 _ (retF _ _ (by omega) (by simp [xZZ]) (noR c hc (by simp only [kU,if_pos b1,b2])))))))
      ·refine qC false (by simp only [sy.1,rE,reduceIte]) (fun hx=>by cases hx) (fun _=> ?_);refine qG ?_;refine qO (nextE _ _ (by omega) (by simp only [kU,if_pos b1,b2]) ?_ ?_ ?_ ?_);all_goals simp [xZZ,g1,g2,g5,g6]
     ·refine qC false (by simp only [sy.1,rE,reduceIte,decide_eq_false b1]) (fun hx=>by cases hx) (fun _=> ?_);refine qG ?_;refine qD ?_;refine qA fun K hn hp=> ?_;simp only [sy.1,rE,reduceIte,rL];refine qB (sok xt) (vZ xt _ _ _ _ fun n6 hn6=> ?_);simp only [xZU] at hn6;cases b2:inB (t.getD c 0) 0 60
      ·have b2':=b2;unfold inB at b2';simp only [sy.1,rE,reduceIte,rL,b2',xZX];apply hn;clear hn hp K;refine qC true (by simp only [sy.1,rE,reduceIte]) (fun _=> ?_) (fun hx=>by cases hx);refine qD ?_;refine qA fun K hn hp=> ?_;simp only [sy.1,rL];apply hn;clear hn hp K;refine qX (E4 _ (D4 _ (B4 _ (A4 _ (retF _ _ (by omega) (by simp [xZZ]) (noR c hc (by simp only [kU,if_neg b1,b2,Bool.false_and])))))))
      have b2':=b2;unfold inB at b2';simp only [sy.1,rE,reduceIte,rL,b2',xZX];apply hn;clear hn hp K;obtain ⟨z1,z2⟩:=Bool.and_eq_true_iff.1 b2';have z1:=of_decide_eq_true z1;have z2:=of_decide_eq_true z2;refine qC false (by simp only [sy.1,rE,reduceIte]) (fun hx=>by cases hx) (fun _=> ?_);refine qG ?_;have wc:=qL hc (show C<=9223372036854775807 by omega);have wt:IntKind.i64.wrap (t.getD c 0 - m.T)=t.getD c 0 - m.T:=qK _ (by omega) (by omega);refine zG (sok xt) 0 0 20 [] (by kernel_rfl) fun K hn hp=> ?_;simp only [sy.1,rE,reduceIte,rL,rA,syw.1,sh1,g2,g5,g6,wc];refine qB (sok xt) (rc_c xt _ m (ha1.up (by omega)) r (c+1:Nat) fun n7 hn7=> ?_);simp only [xZU] at hn7;by_cases b3:m.rc r (c+1:Nat)=1
      ·simp only [sy.1,rE,reduceIte,rL,rA,syw.1,hn7,xZX,decide_eq_true b3];apply hn;clear hn hp K;refine qH false (by simp only [sy.1,rE,reduceIte]) (fun hx=>by cases hx) (fun _=> ?_);refine qU (nextN _ _ (by omega) (by simp only [kU,if_neg b1,b2,b3];rfl) ?_ ?_ ?_ ?_);all_goals simp [xZZ,g1,g2,g5,g6]
      ·have hc1:c+1<C:=by
        rw [qCP hm hr] at b3;by_cases q:c+1<C
        ·exact q
        ·rw [if_neg q] at b3;exact absurd rfl b3
       obtain ⟨x3,x4⟩:=(i3.m75 (k:=c+1) (by omega));simp only [sy.1,rE,reduceIte,rL,rA,syw.1,sh1,g1,g2,g5,i1,i2,g6,wc,wt,hn7,xZX,decide_eq_false b3,x3,x4];refine qB (sok xt) (vZ xt _ _ _ _ fun n8 hn8=> ?_);simp only [xZU] at hn8;cases b4:inB (t.getD (c+1) 0) (t.getD c 0 - m.T) (t.getD c 0)
       ·have b4':=b4;unfold inB at b4';simp only [sy.1,rE,reduceIte,rL,b4',xZX];apply hn;clear hn hp K;refine qH true (by simp only [sy.1,rE,reduceIte]) (fun _=> ?_) (fun hx=>by cases hx);refine qA fun K hn hp=> ?_;simp only [sy.1,rL];apply hn;clear hn hp K;refine qE (E4 _ (D4 _ (B4 _ (A4 _ (retF _ _ (by omega) (by simp [xZZ]) (noR c hc (by simp only [kU,if_neg b1,b2,decide_eq_false b3,b4];rfl)))))))
       ·have b4':=b4;unfold inB at b4';simp only [sy.1,rE,reduceIte,rL,b4',xZX];apply hn;clear hn hp K;refine qH false (by simp only [sy.1,rE,reduceIte]) (fun hx=>by cases hx) (fun _=> ?_);refine qU (nextN _ _ (by omega) (by simp only [kU,if_neg b1,b2,decide_eq_false b3,b4];rfl) ?_ ?_ ?_ ?_);all_goals simp [xZZ,g1,g2,g5,g6]
    ·refine qC false (by simp only [sy.1,rE,reduceIte,hc]) (fun hx=>by cases hx) (fun _=> ?_);refine qO (D2 _ (B1 _ ?_));refine reg fun K hn hp=> ?_;simp only [sy.1,rE,reduceIte,rL,g5,qL hr (show R<=9223372036854775807 by omega)];apply hn;clear hn hp K;refine ⟨⟨r+1,n4,_,rfl,by omega,(by simp [xZZ,g1]),(by simp [xZZ,g2]),(by simp [xZZ]),by omega,fun j hj=> ?_⟩,by simpa [xZZ,muA] using (by omega:R - (r+1)<R - r)⟩;by_cases e:j=r
     ·rw [e];exact xG fun c' hc'=>by rw [<-ht];exact hcols c' (by omega)
     ·exact hrows j (by omega)
   ·exact ⟨0,n2,_,rfl,(by omega),(by simp [xZZ,g1]),(by simp [xZZ,g2]),(by simp [xZZ,g5]),(by simp [xZZ]),by omega,fun j hj=>absurd hj (Nat.not_lt_zero _)⟩
  ·refine qC false (by simp only [sy.1,rE,reduceIte,hr]) (fun hx=>by cases hx) (fun _=> ?_);have hfr:(List.range m.cells.length).all (pT m g)=true:=xG fun k hk=>hrows k (by omega);have hin: ∀r c,r<R->c<C->0<=(g.ll.getD r []).getD c 0/\(g.ll.getD r []).getD c 0<=60:=fun r c hr hc=>by
    have q:=xZV.1 (xZV.1 hfr r (List.mem_range.2 (by omega))) c (List.mem_range.2 (by omega));simp only [kU] at q;split at q
    ·have:=of_decide_eq_true q;omega
    ·simp only [inB,Bool.and_eq_true,decide_eq_true_eq] at q;exact q.1
   refine qO (A2 _ ?_);refine qD ?_;refine qA fun K hn hp=> ?_;simp only [sy.1,rL];apply hn;clear hn hp K;have hgl':=fun h':Hp=>(ha.gs).len (h':=h') bL rfl;simp only [List.length_map] at hgl';refine qF fun KG G1 G2 G3 G4 G5=> ?_;refine qQ (sok xt) (fun st=> ∃(i:Nat) (hg:Hp) (tm:T AV),st=⟨tm,95,hg,[]⟩/\i<=m.gs.length/\tm.get 1=some (g.v)/\tm.get 2=some (.ptr h.n 0)/\tm.get 8=some (iv i)/\Fr h1.n h1 hg/\ ∀x∈m.gs.take i,yO g x=true) (fun st=>m.gs.length - (match st.tm.get 8 with|some (.val (.int _ n))=>n.toNat|_=>0)) ?_ ?_
   ·rintro st ⟨i,hg,tm,rfl,hkG,g1,g2,g8,fg,hall⟩;have muG:=g8;have fgh:=fh1.trans fg (by omega);have q1:=(fg.at_ h.n (.inl (by omega))).trans sh1;refine qD ?_;refine qA fun K hn hp=> ?_;simp only [sy.1,rE,reduceIte,rL,syw.1,qZ,g2,g8,q1,hgl'];apply hn;clear hn hp K;by_cases hi:i<m.gs.length
    ·refine qC true (by simp only [sy.1,rE,reduceIte,hi]) (fun _=> ?_) (fun hx=>by cases hx);have hag:=ha.fr fgh (xZY _);obtain ⟨x,hx⟩: ∃x,m.gs[i]? =some x:=⟨_,List.getElem?_eq_getElem hi⟩;obtain ⟨y1,y2,y3,y4⟩:=hm.gs x (xZT hx);have i1:=hag.gs.idx bL rfl wU rfl (i:=i) (by simpa using hi) (k:= .i64);have i2:=hag.gs.loadA wU rfl rfl (i:=i) (c:=Kn.g4 x) (by rw [List.getElem?_map,hx];rfl);obtain ⟨xr,xc,xs,xo⟩:=x;simp only [Kn.g4,List.map_cons,List.map_nil] at i2 y1 y2 y3 y4;obtain ⟨r',rfl⟩: ∃r':Nat,xr=r':=⟨xr.toNat,by omega⟩;obtain ⟨c',rfl⟩: ∃c':Nat,xc=c':=⟨xc.toNat,by omega⟩;simp only [xZW] at y1 y2;have hr':r'<R:=by omega
     have hc':c'<C:=by have:=hm.hC r' hr';omega
     refine qG ?_;refine qF fun KH H1 H2 H3 H4 H5=> ?_;refine qA fun K hn hp=> ?_;simp only [sw.1,rE,reduceIte,rL,rA,al48,g2,g8,i1,i2,q1];apply hn;clear hn hp K;obtain ⟨h9,hh9⟩: ∃h9:Hp,h9=(hg.new (.cells [iv 0,iv 0,iv 0,iv 0] 48)).set hg.n (.cells [iv (r':Int),iv (c':Int),iv xs,iv xo] 48):=⟨_,rfl⟩;have nh9:h9.n=hg.n+1:=by rw [hh9];rfl
     have sh9:h9.t.get hg.n=some (.cells [iv (r':Int),iv (c':Int),iv xs,iv xo] 48):=by rw [hh9,Hp.set_t,xZZ,if_pos rfl]
     have kh9: ∀k,k<hg.n->h9.t.get k=hg.t.get k:=fun k hk=>by rw [hh9];exact zJ _ _ _ hk
     have fbh9:Fr hg.n hg h9:=by rw [hh9];exact zK _ _ _
     have fh9:=fbh9;rw [<-hh9];have f9:=fg.trans fbh9 fg.lo;obtain ⟨v,j1,j2,j3,j4⟩:=(hg1.fr f9 (xZY _)).rowD (i:=r') (by omega);obtain ⟨x1,x2⟩:=(j3.m75 (k:=c') (by have:=hgr r' hr';omega));have w1:IntKind.i64.wrap (xs - xo)=xs - xo:=qK _ (by omega) (by omega);have w2:IntKind.i64.wrap (xs+xo)=xs+xo:=qK _ (by omega) (by omega);refine jR (sok xt) 19 (by kernel_rfl) fun K hn hp=> ?_;simp only [sy.1,rE,reduceIte,rL,g1,sh9,j1,j2,x1,x2,w1,w2];refine qB (sok xt) (vZ xt _ _ _ _ fun n7 hn7=> ?_);have hn7:=Nat.le_of_lt hn7;have hq:yO g ((r':Int),(c':Int),xs,xo)=(decide (xs - xo<=(g.ll.getD r' []).getD c' 0) && decide ((g.ll.getD r' []).getD c' 0<=xs+xo)):=by
      simp only [yO,inB,Gr.cell,xZW];rfl
     cases b4:yO g ((r':Int),(c':Int),xs,xo)
     ·rw [b4] at hq;simp only [sy.1,rE,reduceIte,rL,<-hq];apply hn;clear hn hp K;refine qH true (by simp only [sy.1,rE,reduceIte]) (fun _=> ?_) (fun hx=>by cases hx);refine qA fun K hn hp=> ?_;simp only [sy.1,rL];apply hn;clear hn hp K;refine qE (H4 _ (G4 _ (qN res49 ⟨?_,(fh1.trans f9 (by omega)).up hn7⟩)));have:yW m g=false:=by
       have:m.gs.all (yO g)=false:=by
        rw [List.all_eq_false];exact ⟨_,xZT hx,by rw [b4];exact Bool.false_ne_true⟩
       simp only [yW,this,Bool.and_false]
      simp [xZZ,this]
     ·rw [b4] at hq;simp only [sy.1,rE,reduceIte,rL,<-hq];apply hn;clear hn hp K;refine qH false (by simp only [sy.1,rE,reduceIte]) (fun hx=>by cases hx) (fun _=> ?_);refine qU (H1 _ ?_);refine reg fun K hn hp=> ?_;simp only [sy.1,rE,reduceIte,rL,g8,qL hi ha.lg];apply hn;clear hn hp K;refine ⟨⟨i+1,_,_,rfl,by omega,(by simp [xZZ,g1]),(by simp [xZZ,g2]),(by simp [xZZ]),f9.up hn7,?_⟩,by simpa [xZZ,muG] using (by omega:m.gs.length - (i+1)<m.gs.length - i)⟩;rw [List.take_succ,hx];intro y hy;simp only [Option.toList_some,List.mem_append,List.mem_singleton] at hy;rcases hy with hy|rfl
      ·exact hall y hy
      ·exact b4
    ·refine qC false (by simp only [sy.1,rE,reduceIte,hi]) (fun hx=>by cases hx) (fun _=> ?_);refine qO (G2 _ ?_);refine qA fun K hn hp=> ?_;simp only [sy.1,rL];apply hn;clear hn hp K;refine qE (qN res49 ⟨?_,fgh⟩);have:yW m g=true:=by
      have h2:m.gs.all (yO g)=true:=by
       rw [List.take_of_length_le (by omega)] at hall;exact xZV.2 hall
      simp only [yW,hfr,h2,Bool.and_self]
     simp [xZZ,this]
   ·exact ⟨0,h1.up n2,_,rfl,(by omega),(by simp [xZZ,g1]),(by simp [xZZ,g2]),(by simp [xZZ]),(Fr.refl (xZY _)).up (by omega),fun x hx=>by simp at hx⟩
 ·exact ⟨0,h1.n,_,rfl,(by omega),(by simp [xZZ]),(by simp [xZZ]),(by simp [xZZ]),xZY _,fun j hj=>absurd hj (Nat.not_lt_zero _)⟩
end Go.Proofs.Kn
