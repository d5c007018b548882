/- Parts. -/
import Derived.Test.YthimlgffanlomaaGreatDoorQM
set_option linter.all false
open Nat renaming reduceEqDiff → rE, reduceLeDiff → rD, reduceAdd → rA, reduceMul → rM, reduceLT → rL
open Go.Ev.T renaming get_put → xZZ
open Go.Ev.Hp renaming up_up → xZY, up_n → xZS
open Nat renaming le_refl → xZX, le_of_lt → xZU
open Bool renaming and_eq_true_iff → xZW, false_ne_true → xZN
open Int renaming toNat_natCast → xZV
open List renaming all_eq_true → xZT, mem_of_getElem? → xZR, mem_range → xZQ, all_eq_false → xZM
open Go.Ev.FnA renaming walk → xZP, calm → xZO
namespace Go.Proofs.Kn
open Go Go.Ev
set_option maxRecDepth 100000
abbrev Mp.wk (m:Mp):Wk:=⟨m,.val (.slice none 0 0),[],0⟩
theorem Mp.At.wk {m:Mp} {xt:Xt} {h:Hp} (a:m.At xt h):m.wk.At xt h:=⟨a,⟨by simp,by omega,.inl ⟨rfl,rfl⟩⟩,by simp⟩
def Mp.bnd (m:Mp):Option Th.Grid:=Th.boundP m.T m.J (m.W - 1) m.F0 (m.gs.map gg) m.cells.length
abbrev jI:AV:= .val (.slice none 0 0)
theorem ft27 (xt:Xt):(SE xt).ft.get 56=some Tryz.f56:=by kernel_rfl
theorem res27:Tryz.f56.results.toList=[.tmp 2]:=by kernel_rfl
theorem ft84 (xt:Xt):(SE xt).ft.get 53=some Tryz.f53:=by kernel_rfl
theorem res84:Tryz.f53.results.toList=[.tmp 2]:=by kernel_rfl
theorem kH (xt:Xt) (h:Hp) (m:Mp) (ha:m.At xt h) {K:KP} (hk: ∀n,h.n<n->K (.ret (iv m.cells.length)) (h.up n)):FnA (SE xt) 56 [m.av] h K:=by
 refine xZO ?_ hk;clear hk K;refine xZP (sok xt) (ft27 xt) rfl 6 rfl ?_;obtain ⟨o1,o2,o3,o4,o5⟩:=ha.wk.ones;have hlen:=ha.len;refine qA fun K hn hp=> ?_;simp only [sw.1,reduceIte,rL];apply hn;obtain ⟨h1,hh1,_,sh1,_,fbh1⟩:=nwE h (.cells m.cs 27);rw [<-hh1];have fh1:=fbh1;refine qA fun K hn hp=> ?_;simp only [sy.1,rE,reduceIte,rL,syw.1,hlen,sh1];apply hn;refine qD (qK res27 ⟨?_,fh1⟩);simp [xZZ]
theorem kK (xt:Xt) (h:Hp) (m:Mp) (ha:m.At xt h) {K:KP} (hk: ∀n,h.n<n->K (.ret (iv m.W)) (h.up n)):FnA (SE xt) 53 [m.av] h K:=by
 refine xZO ?_ hk;clear hk K;refine xZP (sok xt) (ft84 xt) rfl 12 rfl ?_;obtain ⟨o1,o2,o3,o4,o5⟩:=ha.wk.ones;have hlen:=ha.len;refine qA fun K hn hp=> ?_;simp only [sw.1,reduceIte,rL];apply hn;obtain ⟨h1,hh1,nh1,sh1,kh1,fbh1⟩:=nwE h (.cells m.cs 27);rw [<-hh1];have fh1:=fbh1;refine jP ?_;cases q:m.cells with
 |nil=>
  have ql:m.cells.length=0:=by rw [q];rfl
  rw [ql] at hlen;refine qA fun K hn hp=> ?_;simp only [sy.1,rE,reduceIte,rL,syw.1,hlen,sh1];apply hn;refine qX (by simp only [sy.1,rE,reduceIte,Int.natCast_zero]) ?_;refine qB fun K hn hp=> ?_;simp only [sy.1,rL];apply hn;refine qS (qK res84 ⟨?_,fh1⟩);simp [xZZ,Mp.W,q]
 |cons l ls=>
  have hl0:0<m.cells.length:=by rw [q];simp
  have hd:decide ((m.cells.length:Int)=0)=false:=decide_eq_false (by omega);have hW:m.W=(m.cells.getD 0 []).length:=by simp [Mp.W,q]
  obtain ⟨v,i1,i2,i3,i4⟩:=(ha.fr fh1 (xZX _)).rowD hl0;refine qA fun K hn hp=> ?_;simp only [sy.1,rE,reduceIte,rL,syw.1,hlen,sh1,hd];apply hn;refine jL (by simp only [sy.1,rE,reduceIte]) ?_;have i1:qM tb 22 m.vc (iv 0)=some (elp m.vc 0):=i1;refine qA fun K hn hp=> ?_;simp only [sy.1,rE,reduceIte,rL,syw.1,sh1,i1,i2,i4];apply hn;refine qD (qK res84 ⟨?_,fh1⟩);rw [hW];simp [xZZ]
theorem ft87 (xt:Xt):(SE xt).ft.get 101=some Tryz.f101:=by kernel_rfl
theorem res87:Tryz.f101.results.toList=[.tmp 6]:=by kernel_rfl
theorem ft89 (xt:Xt):(SE xt).ft.get 148=some Tryz.f148:=by kernel_rfl
theorem res89:Tryz.f148.results.toList=[.tmp 6]:=by kernel_rfl
def Mp.rc (m:Mp) (r c:Int):Int:=if inB r 0 (m.R - 1) && inB c 0 ((m.cells.getD r.toNat []).length - 1) then (m.cells.getD r.toNat []).getD c.toNat 0 else 1
theorem rc_c (xt:Xt) (h:Hp) (m:Mp) (ha:m.At xt h) (r c:Int) {K:KP} (hk: ∀n,h.n<n->K (.ret (iv (m.rc r c))) (h.up n)):FnA (SE xt) 101 [m.av,iv r,iv c] h K:=by
 refine xZO ?_ hk;clear hk K;refine xZP (sok xt) (ft87 xt) rfl 33 rfl ?_;obtain ⟨o1,o2,o3,o4,o5⟩:=ha.wk.ones;have hlc:=ha.lc;have hw:IntKind.i64.wrap ((m.cells.length:Int) - 1)=m.R - 1:=by rw [qF _ (by omega) (by omega)];rfl
 refine qA fun K hn hp=> ?_;simp only [sw.1,rE,reduceIte,rL,rA];apply hn;obtain ⟨h1,hh1,nh1,sh1,_,fbh1⟩:=nwE h (.cells m.cs 27);rw [<-hh1];have fh1:=fbh1;have ha1:=ha.fr fh1 (xZX _);refine qB fun K hn hp=> ?_;simp only [sy.1,rE,reduceIte,rL,rA,sh1];refine cAS (kH xt h1 m ha1 fun n1 hn1=> ?_);simp only [sy.1,rE,reduceIte,rL,hw];refine cAS (kG xt _ _ _ _ fun n2 hn2=> ?_);have hn2:=xZU hn2;simp only [xZS] at hn2;cases q1:(decide (0<=r) && decide (r<=m.R - 1))
 ·simp only [sy.1,rE,reduceIte,rL,xZY];apply hn;refine qX (by simp only [sy.1,rE,reduceIte]) ?_;refine qB fun K hn hp=> ?_;simp only [sy.1,rL];apply hn;refine qS (qK res87 ⟨?_,fh1.up (by omega)⟩);have:m.rc r c=1:=by
   have q1:inB r 0 (m.R - 1)=false:=q1;simp [Mp.rc,q1]
  simp [xZZ,this]
 have q1':inB r 0 (m.R - 1)=true:=q1;obtain ⟨r',rfl⟩: ∃r':Nat,r=r':=by
  obtain ⟨z1,z2⟩:=xZW.1 q1;have z1:=of_decide_eq_true z1;exact ⟨r.toNat,by omega⟩
 have hr':r'<m.cells.length:=by
  obtain ⟨z1,z2⟩:=xZW.1 q1;have z2:=of_decide_eq_true z2;simp only [Mp.R] at z2;omega
 obtain ⟨v,i1,i2,i3,i4⟩:=ha.rowF hr';have i2:=i2 h1 fh1;have hll:=ha.lr _ (xZR (getD_some [] hr'));have hw2:IntKind.i64.wrap (((m.cells.getD r' []).length:Int) - 1)=((m.cells.getD r' []).length:Int) - 1:=qF _ (by omega) (by omega);simp only [sy.1,rE,reduceIte,rL,syw.1,sh1,i1,i2,i4,xZY,hw2];refine cAS (kG xt _ _ _ _ fun n3 hn3=> ?_);have hn3:=xZU hn3;simp only [xZS] at hn3;have erow:m.cells.getD ((r':Int)).toNat []=m.cells.getD r' []:=by rw [xZV]
 cases q2:(decide (0<=c) && decide (c<=((m.cells.getD r' []).length:Int) - 1))
 ·simp only [sy.1,rE,reduceIte,rL,xZY];apply hn;refine qX (by simp only [sy.1,rE,reduceIte]) ?_;refine qB fun K hn hp=> ?_;simp only [sy.1,rL];apply hn;refine qS (qK res87 ⟨?_,fh1.up (by omega)⟩);have:m.rc r' c=1:=by
   have q2:inB c 0 (((m.cells.getD r' []).length:Int) - 1)=false:=q2;simp only [Mp.rc,erow,q2,Bool.and_false];simp
  simp [xZZ,this]
 ·have q2':inB c 0 (((m.cells.getD r' []).length:Int) - 1)=true:=q2;obtain ⟨c',rfl⟩: ∃c':Nat,c=c':=by
   obtain ⟨z1,z2⟩:=xZW.1 q2;have z1:=of_decide_eq_true z1;exact ⟨c.toNat,by omega⟩
  have hc':c'<(m.cells.getD r' []).length:=by
   obtain ⟨z1,z2⟩:=xZW.1 q2;have z2:=of_decide_eq_true z2;omega
  simp only [sy.1,rE,reduceIte,rL,xZY];apply hn;refine jL (by simp only [sy.1,rE,reduceIte]) ?_;obtain ⟨x1,x2⟩:=(i3.fr fh1 (xZX _)).m58 hc';refine qA fun K hn hp=> ?_;simp only [sy.1,rE,reduceIte,rL,syw.1,sh1,i1,i2,x1,x2];apply hn;refine qD (qK res87 ⟨?_,fh1.up (by omega)⟩);have:m.rc r' c'=(m.cells.getD r' []).getD c' 0:=by
   simp only [Mp.rc,q1',q2',Bool.and_self,if_true,xZV]
  rw [this];simp [xZZ]
theorem qEg (xt:Xt) (h:Hp) (m:Mp) (ha:m.At xt h) (r c:Int) {K:KP} (hk: ∀n,h.n<n->K (.ret (.val (.bool (m.inside r c)))) (h.up n)):FnA (SE xt) 148 [m.av,iv r,iv c] h K:=by
 refine xZO ?_ hk;clear hk K;refine xZP (sok xt) (ft89 xt) rfl 19 rfl ?_;obtain ⟨o1,o2,o3,o4,o5⟩:=ha.wk.ones;have hlc:=ha.lc;have hw:IntKind.i64.wrap ((m.cells.length:Int) - 1)=m.R - 1:=by rw [qF _ (by omega) (by omega)];rfl
 have hWl:m.W<=9223372036854775807:=by
  show (m.cells.headD []).length<=_;cases q:m.cells with
  |nil=>simp
  |cons l ls=>exact ha.lr l (by rw [q];exact List.mem_cons_self)
 have hw2:IntKind.i64.wrap ((m.W:Int) - 1)=m.C - 1:=by rw [qF _ (by omega) (by omega)];rfl
 refine qA fun K hn hp=> ?_;simp only [sw.1,rE,reduceIte,rL,rA];apply hn;obtain ⟨h1,hh1,nh1,sh1,_,fbh1⟩:=nwE h (.cells m.cs 27);rw [<-hh1];have fh1:=fbh1;have ha1:=ha.fr fh1 (xZX _);refine qA fun K hn hp=> ?_;simp only [sy.1,rE,reduceIte,rL,rA,sh1];refine cAS (kH xt h1 m ha1 fun n1 hn1=> ?_);simp only [sy.1,rE,reduceIte,rL,hw];refine cAS (kG xt _ _ _ _ fun n2 hn2=> ?_);have hn2:=xZU hn2;simp only [xZS] at hn2;cases q1:(decide (0<=r) && decide (r<=m.R - 1))
 ·simp only [sy.1,rE,reduceIte,rL,xZY];refine hn _ _ (qD (qK res89 ⟨?_,fh1.up (by omega)⟩));simp [xZZ,Mp.inside,inB,q1]
 ·simp only [sy.1,rE,reduceIte,rL,rA,sh1,xZY];refine cAS (kK xt _ m (ha1.up (by omega)) fun n3 hn3=> ?_);have hn3:=xZU hn3;simp only [xZS] at hn3;simp only [sy.1,rE,reduceIte,rL,hw2,xZY];refine cAS (kG xt _ _ _ _ fun n4 hn4=> ?_);have hn4:=xZU hn4;simp only [xZS] at hn4;simp only [sy.1,rE,reduceIte,rL,xZY];refine hn _ _ (qD (qK res89 ⟨?_,fh1.up (by omega)⟩));simp [xZZ,Mp.inside,inB,q1]
def Gr.sz (g:Gr) (m:Mp):Bool:=(List.range g.ll.length).all (fun r=>decide (((g.ll.getD r []).length:Int)=m.W)) && decide ((g.ll.length:Int)=m.cells.length)
theorem xA {p:Nat->Bool} {n k:Nat} (hk:k<n) (h:p k=false):(List.range n).all p=false:=by
 rw [xZM];exact ⟨k,xZQ.2 hk,by rw [h];exact xZN⟩
theorem uA {p:Nat->Bool} {n:Nat} (h: ∀k,k<n->p k=true):(List.range n).all p=true:=by
 rw [xZT];exact fun c hc=>h c (xZQ.1 hc)
theorem ft49 (xt:Xt):(SE xt).ft.get 100=some Tryz.f100:=by kernel_rfl
theorem res49:Tryz.f100.results.toList=[.tmp 4]:=by kernel_rfl
def yK (m:Mp) (t:List Int) (r c:Nat):Bool:=
 if m.rc r c=1 then decide (t.getD c 0=0) else inB (t.getD c 0) 0 60 && !(!decide (m.rc r (c+1:Nat)=1) && !inB (t.getD (c+1) 0) (t.getD c 0 - m.T) (t.getD c 0))
def y8 (g:Gr) (x:Int×Int×Int×Int):Bool:=inB (g.cell x.1 x.2.1) (x.2.2.1 - x.2.2.2) (x.2.2.1+x.2.2.2)
def gY (m:Mp) (g:Gr) (r:Nat):Bool:=(List.range m.W).all (yK m (g.ll.getD r []) r)
def xL (m:Mp) (g:Gr):Bool:=(List.range m.cells.length).all (gY m g) && m.gs.all (y8 g)
theorem qDR {m:Mp} {R C:Nat} (hm:m.Is R C) {r c:Nat} (hr:r<R):m.rc r c=if c<C then m.cell r c else 1:=by
 have h1:=hm.hR;have h2:=hm.hC r hr;simp only [Mp.rc,xZV,h2,inB,Mp.R,h1,Mp.cell];have e1:decide ((0:Int)<=(r:Int))=true:=decide_eq_true (by omega);have e2:decide ((r:Int)<=(R:Int) - 1)=true:=decide_eq_true (by omega);have e3:decide ((0:Int)<=(c:Int))=true:=decide_eq_true (by omega);rw [e1,e2,e3];by_cases hc:c<C
 ·have e4:decide ((c:Int)<=(C:Int) - 1)=true:=decide_eq_true (by omega);rw [e4,if_pos hc];rfl
 ·have e4:decide ((c:Int)<=(C:Int) - 1)=false:=decide_eq_false (by omega);rw [e4,if_neg hc];rfl
theorem rfits_c (xt:Xt) (h:Hp) (m:Mp) (ha:m.At xt h) (g:Gr) (hg:g.At xt h) (R C:Nat) (hm:m.Is R C) (hW:m.W=C) (hgl:g.ll.length=R) (hgr: ∀r,r<R->(g.ll.getD r []).length=C) {K:KP} (hk: ∀n,h.n<n->K (.ret (.val (.bool (xL m g)))) (h.up n)):FnA (SE xt) 100 [m.av,g.v] h K:=by
 refine xZO ?_ hk;clear hk K;refine xZP (sok xt) (ft49 xt) rfl 95 rfl ?_;obtain ⟨o1,o2,o3,o4,o5⟩:=ha.wk.ones;have hR:=hm.hR;have hC8:=hm.c8;have hR6:=hm.r6;have hT:=hm.T;refine qA fun K hn hp=> ?_;simp only [sw.1,rE,reduceIte,rL];apply hn;clear hn hp K;obtain ⟨h1,hh1,nh1,sh1,_,fbh1⟩:=nwE h (.cells m.cs 27);rw [<-hh1];have fh1:=fbh1;have ha1:=ha.fr fh1 (xZX _);have hg1:=hg.fr fh1 (xZX _);have retF: ∀(n:Nat) (tm:T AV),h1.n<=n->tm.get 4=some (.val (.bool false))->xL m g=false->xX (SE xt) Tryz.f100 (fun r h'=>r= .ret (.val (.bool (xL m g)))/\Fr h.n h h') .ret ⟨tm,95,h1.up n,[]⟩:=fun n tm hn g hm=>qK res49 ⟨by simp [g,hm],fh1.up hn⟩;refine qB fun K hn hp=> ?_;simp only [sy.1,rL];apply hn;clear hn hp K;refine qC fun KA A1 A2 A3 A4 A5=> ?_;refine qI (sok xt) (fun st=> ∃(r:Nat) (n:Nat) (tm:T AV),st=⟨tm,95,h1.up n,[]⟩/\r<=R/\tm.get 1=some (g.v)/\tm.get 2=some (.ptr h.n 0)/\tm.get 5=some (iv r)/\h1.n<=n/\ ∀j,j<r->gY m g j=true) (fun st=>R - (match st.tm.get 5 with|some (.val (.int _ n))=>n.toNat|_=>0)) ?_ ?_
 ·rintro st ⟨r,n,tm,rfl,hkA,g1,g2,g5,hn1,hrows⟩;have muA:=g5;refine qB fun K hn hp=> ?_;simp only [sy.1,rE,reduceIte,rL,rA,sh1,g2,g5];refine cAS (kH xt _ m (ha1.up hn1) fun n2 hn2=> ?_);simp only [xZS] at hn2;simp only [sy.1,rE,reduceIte,rL,qR,xZY,hR];apply hn;clear hn hp K;by_cases hr:r<R
  ·refine qX (by simp only [sy.1,rE,reduceIte,hr]) ?_;obtain ⟨v,i1,i2,i3,i4⟩:=hg1.rowD (i:=r) (by omega);obtain ⟨t,ht⟩: ∃t,t=g.ll.getD r []:=⟨_,rfl⟩;have htC:=hgr r hr;rw [<-ht] at i3 i4 htC;have noR: ∀c,c<C->yK m t r c=false->xL m g=false:=fun c hc hf=>by
    have q:gY m g r=false:=xA (k:=c) (by omega) (by rw [<-ht];exact hf);show ((List.range m.cells.length).all (gY m g) && _)=false;rw [xA (k:=r) (by omega) q];rfl
   refine zD ?_;refine qC fun KB B1 B2 B3 B4 B5=> ?_;refine qA fun K hn hp=> ?_;simp only [sy.1,rL];apply hn;clear hn hp K;refine qY fun KD D1 D2 D3 D4 D5=> ?_;refine qI (sok xt) (fun st=> ∃(c:Nat) (nc:Nat) (tm:T AV),st=⟨tm,95,h1.up nc,[]⟩/\c<=C/\tm.get 1=some (g.v)/\tm.get 2=some (.ptr h.n 0)/\tm.get 5=some (iv r)/\tm.get 6=some (iv c)/\h1.n<=nc/\ ∀j,j<c->yK m t r j=true) (fun st=>C - (match st.tm.get 6 with|some (.val (.int _ n))=>n.toNat|_=>0)) ?_ ?_
   ·rintro st ⟨c,nc,tm,rfl,hkD,g1,g2,g5,g6,hn3,hcols⟩;have muD:=g6;refine qB fun K hn hp=> ?_;simp only [sy.1,rE,reduceIte,rL,rA,sh1,g2,g6];refine cAS (kK xt _ m (ha1.up hn3) fun n4 hn4=> ?_);simp only [xZS] at hn4;simp only [sy.1,rE,reduceIte,rL,qR,xZY,hW];apply hn;clear hn hp K;by_cases hc:c<C
    ·refine qX (by simp only [sy.1,rE,reduceIte,hc]) ?_;obtain ⟨x1,x2⟩:=(i3.m75 (k:=c) (by omega));refine zD ?_;refine qC fun KE E1 E2 E3 E4 E5=> ?_;refine qA fun K hn hp=> ?_;simp only [sy.1,rE,reduceIte,rL,syw.1,g1,g5,i1,i2,g6,x1,x2];apply hn;clear hn hp K;refine qB fun K hn hp=> ?_;simp only [sy.1,rE,reduceIte,rL,rA,sh1,g2,g5,g6];refine cAS (rc_c xt _ m (ha1.up (by omega)) r c fun n5 hn5=> ?_);simp only [xZS] at hn5;simp only [sy.1,rE,reduceIte,rL,xZY];apply hn;clear hn hp K;have nextE: ∀(tm:T AV) (n:Nat),h1.n<=n->yK m t r c=true->tm.get 1=some g.v->tm.get 2=some (.ptr h.n 0)->tm.get 5=some (iv r)->tm.get 6=some (iv c)->KE (.exit 3) ⟨tm,95,h1.up n,[]⟩:=by
      intro tm n hn hfit g1 g2 g5 g6;refine E2 _ ?_;refine reg fun K hn hp=> ?_;simp only [sy.1,rE,reduceIte,rL,g6,qE hc (show C<=9223372036854775807 by omega)];apply hn;clear hn hp K;refine ⟨⟨c+1,n,_,rfl,by omega,(by simp [xZZ,g1]),(by simp [xZZ,g2]),(by simp [xZZ,g5]),(by simp [xZZ]),hn,fun j hj=> ?_⟩,by simpa [xZZ,muD] using (by omega:C - (c+1)<C - c)⟩;by_cases e:j=c
      ·rw [e];exact hfit
      ·exact hcols j (by omega)
     have nextN: ∀(tm:T AV) (n:Nat),h1.n<=n->yK m t r c=true->tm.get 1=some g.v->tm.get 2=some (.ptr h.n 0)->tm.get 5=some (iv r)->tm.get 6=some (iv c)->KE .normal ⟨tm,95,h1.up n,[]⟩:=by
      intro tm n hn hfit g1 g2 g5 g6;refine E1 _ ?_;refine reg fun K hn hp=> ?_;simp only [sy.1,rE,reduceIte,rL,g6,qE hc (show C<=9223372036854775807 by omega)];apply hn;clear hn hp K;refine ⟨⟨c+1,n,_,rfl,by omega,(by simp [xZZ,g1]),(by simp [xZZ,g2]),(by simp [xZZ,g5]),(by simp [xZZ]),hn,fun j hj=> ?_⟩,by simpa [xZZ,muD] using (by omega:C - (c+1)<C - c)⟩;by_cases e:j=c
      ·rw [e];exact hfit
      ·exact hcols j (by omega)
     by_cases b1:m.rc r c=1
     ·refine qX (by simp only [sy.1,rE,reduceIte,decide_eq_true b1]) ?_;refine jP ?_;refine qB fun K hn hp=> ?_;simp only [sy.1,rE,reduceIte,rL];apply hn;clear hn hp K;cases b2:decide (t.getD c 0=0)
      ·refine qX (by simp only [sy.1,rE,reduceIte]) ?_;refine qB fun K hn hp=> ?_;simp only [sy.1,rL];apply hn;clear hn hp K;refine qS (E4 _ (D4 _ (B4 _ (A4 _ (retF _ _ (by omega) (by simp [xZZ]) (noR c hc (by simp only [yK,if_pos b1,b2])))))))
      ·refine jL (by simp only [sy.1,rE,reduceIte]) ?_;refine qG (nextE _ _ (by omega) (by simp only [yK,if_pos b1,b2]) ?_ ?_ ?_ ?_);all_goals simp [xZZ,g1,g2,g5,g6]
     ·refine jL (by simp only [sy.1,rE,reduceIte,decide_eq_false b1]) ?_;refine qB fun K hn hp=> ?_;simp only [sy.1,rE,reduceIte,rL];refine cAS (kG xt _ _ _ _ fun n6 hn6=> ?_);simp only [xZS] at hn6;cases b2:inB (t.getD c 0) 0 60
      ·have b2':=b2;unfold inB at b2';simp only [sy.1,rE,reduceIte,rL,b2',xZY];apply hn;clear hn hp K;refine qX (by simp only [sy.1,rE,reduceIte]) ?_;refine qB fun K hn hp=> ?_;simp only [sy.1,rL];apply hn;clear hn hp K;refine qS (E4 _ (D4 _ (B4 _ (A4 _ (retF _ _ (by omega) (by simp [xZZ]) (noR c hc (by simp only [yK,if_neg b1,b2,Bool.false_and])))))))
      have b2':=b2;unfold inB at b2';simp only [sy.1,rE,reduceIte,rL,b2',xZY];apply hn;clear hn hp K;obtain ⟨z1,z2⟩:=xZW.1 b2';have z1:=of_decide_eq_true z1;have z2:=of_decide_eq_true z2;refine jL (by simp only [sy.1,rE,reduceIte]) ?_;have wc:=qE hc (show C<=9223372036854775807 by omega);have wt:IntKind.i64.wrap (t.getD c 0 - m.T)=t.getD c 0 - m.T:=qF _ (by omega) (by omega);refine qW (sok xt) 0 0 20 [] (by kernel_rfl) fun K hn hp=> ?_;simp only [sy.1,rE,reduceIte,rL,rA,syw.1,sh1,g2,g5,g6,wc];refine cAS (rc_c xt _ m (ha1.up (by omega)) r (c+1:Nat) fun n7 hn7=> ?_);simp only [xZS] at hn7;by_cases b3:m.rc r (c+1:Nat)=1
      ·simp only [sy.1,rE,reduceIte,rL,rA,syw.1,hn7,xZY,decide_eq_true b3];apply hn;clear hn hp K;refine wcF (by simp only [sy.1,rE,reduceIte]) ?_;refine qN (nextN _ _ (by omega) (by simp only [yK,if_neg b1,b2,b3];rfl) ?_ ?_ ?_ ?_);all_goals simp [xZZ,g1,g2,g5,g6]
      ·have hc1:c+1<C:=by
        rw [qDR hm hr] at b3;by_cases q:c+1<C
        ·exact q
        ·rw [if_neg q] at b3;exact absurd rfl b3
       obtain ⟨x3,x4⟩:=(i3.m75 (k:=c+1) (by omega));simp only [sy.1,rE,reduceIte,rL,rA,syw.1,sh1,g1,g2,g5,i1,i2,g6,wc,wt,hn7,xZY,decide_eq_false b3,x3,x4];refine cAS (kG xt _ _ _ _ fun n8 hn8=> ?_);simp only [xZS] at hn8;cases b4:inB (t.getD (c+1) 0) (t.getD c 0 - m.T) (t.getD c 0)
       ·have b4':=b4;unfold inB at b4';simp only [sy.1,rE,reduceIte,rL,b4',xZY];apply hn;clear hn hp K;refine wcT (by simp only [sy.1,rE,reduceIte]) ?_;refine qA fun K hn hp=> ?_;simp only [sy.1,rL];apply hn;clear hn hp K;refine qD (E4 _ (D4 _ (B4 _ (A4 _ (retF _ _ (by omega) (by simp [xZZ]) (noR c hc (by simp only [yK,if_neg b1,b2,decide_eq_false b3,b4];rfl)))))))
       ·have b4':=b4;unfold inB at b4';simp only [sy.1,rE,reduceIte,rL,b4',xZY];apply hn;clear hn hp K;refine wcF (by simp only [sy.1,rE,reduceIte]) ?_;refine qN (nextN _ _ (by omega) (by simp only [yK,if_neg b1,b2,decide_eq_false b3,b4];rfl) ?_ ?_ ?_ ?_);all_goals simp [xZZ,g1,g2,g5,g6]
    ·refine qU (by simp only [sy.1,rE,reduceIte,hc]) ?_;refine qG (D2 _ (B1 _ ?_));refine reg fun K hn hp=> ?_;simp only [sy.1,rE,reduceIte,rL,g5,qE hr (show R<=9223372036854775807 by omega)];apply hn;clear hn hp K;refine ⟨⟨r+1,n4,_,rfl,by omega,(by simp [xZZ,g1]),(by simp [xZZ,g2]),(by simp [xZZ]),by omega,fun j hj=> ?_⟩,by simpa [xZZ,muA] using (by omega:R - (r+1)<R - r)⟩;by_cases e:j=r
     ·rw [e];exact uA fun c' hc'=>by rw [<-ht];exact hcols c' (by omega)
     ·exact hrows j (by omega)
   ·exact ⟨0,n2,_,rfl,(by omega),(by simp [xZZ,g1]),(by simp [xZZ,g2]),(by simp [xZZ,g5]),(by simp [xZZ]),by omega,fun j hj=>absurd hj (Nat.not_lt_zero _)⟩
  ·refine qU (by simp only [sy.1,rE,reduceIte,hr]) ?_;have hfr:(List.range m.cells.length).all (gY m g)=true:=uA fun k hk=>hrows k (by omega);have hin: ∀r c,r<R->c<C->0<=(g.ll.getD r []).getD c 0/\(g.ll.getD r []).getD c 0<=60:=fun r c hr hc=>by
    have q:=xZT.1 (xZT.1 hfr r (xZQ.2 (by omega))) c (xZQ.2 (by omega));simp only [yK] at q;split at q
    ·have:=of_decide_eq_true q;omega
    ·simp only [inB,Bool.and_eq_true,decide_eq_true_eq] at q;exact q.1
   refine qG (A2 _ ?_);refine qB fun K hn hp=> ?_;simp only [sy.1,rL];apply hn;clear hn hp K;have hgl':=fun h':Hp=>(ha.gs).len (h':=h') qAs rfl;simp only [List.length_map] at hgl';refine qC fun KG G1 G2 G3 G4 G5=> ?_;refine qI (sok xt) (fun st=> ∃(i:Nat) (hg:Hp) (tm:T AV),st=⟨tm,95,hg,[]⟩/\i<=m.gs.length/\tm.get 1=some (g.v)/\tm.get 2=some (.ptr h.n 0)/\tm.get 8=some (iv i)/\Fr h1.n h1 hg/\ ∀x∈m.gs.take i,y8 g x=true) (fun st=>m.gs.length - (match st.tm.get 8 with|some (.val (.int _ n))=>n.toNat|_=>0)) ?_ ?_
   ·rintro st ⟨i,hg,tm,rfl,hkG,g1,g2,g8,fg,hall⟩;have muG:=g8;have fgh:=fh1.trans fg (by omega);have q1:=(fg.at_ h.n (.inl (by omega))).trans sh1;refine qB fun K hn hp=> ?_;simp only [sy.1,rE,reduceIte,rL,syw.1,qR,g2,g8,q1,hgl'];apply hn;clear hn hp K;by_cases hi:i<m.gs.length
    ·refine qX (by simp only [sy.1,rE,reduceIte,hi]) ?_;have hag:=ha.fr fgh (xZX _);obtain ⟨x,hx⟩: ∃x,m.gs[i]? =some x:=⟨_,List.getElem?_eq_getElem hi⟩;obtain ⟨y1,y2,y3,y4⟩:=hm.gs x (xZR hx);have i1:=hag.gs.idx qAs rfl gD rfl (i:=i) (by simpa using hi) (k:= .i64);have i2:=hag.gs.loadA gD rfl rfl (i:=i) (c:=Kn.g4 x) (by rw [List.getElem?_map,hx];rfl);obtain ⟨xr,xc,xs,xo⟩:=x;simp only [Kn.g4,List.map_cons,List.map_nil] at i2 y1 y2 y3 y4;obtain ⟨r',rfl⟩: ∃r':Nat,xr=r':=⟨xr.toNat,by omega⟩;obtain ⟨c',rfl⟩: ∃c':Nat,xc=c':=⟨xc.toNat,by omega⟩;simp only [xZV] at y1 y2;have hr':r'<R:=by omega
     have hc':c'<C:=by have:=hm.hC r' hr';omega
     refine zD ?_;refine qC fun KH H1 H2 H3 H4 H5=> ?_;refine qA fun K hn hp=> ?_;simp only [sw.1,rE,reduceIte,rL,rA,al48,g2,g8,i1,i2,q1];apply hn;clear hn hp K;obtain ⟨h9,hh9,_,sh9,_,fbh9⟩:=nwS hg (.cells [iv 0,iv 0,iv 0,iv 0] 117) (.cells [iv (r':Int),iv (c':Int),iv xs,iv xo] 117);rw [<-hh9];have f9:=fg.trans fbh9 fg.lo;obtain ⟨v,j1,j2,j3,j4⟩:=(hg1.fr f9 (xZX _)).rowD (i:=r') (by omega);obtain ⟨x1,x2⟩:=(j3.m75 (k:=c') (by have:=hgr r' hr';omega));have w1:IntKind.i64.wrap (xs - xo)=xs - xo:=qF _ (by omega) (by omega);have w2:IntKind.i64.wrap (xs+xo)=xs+xo:=qF _ (by omega) (by omega);refine jQ (sok xt) 19 (by kernel_rfl) fun K hn hp=> ?_;simp only [sy.1,rE,reduceIte,rL,g1,sh9,j1,j2,x1,x2,w1,w2];refine cAS (kG xt _ _ _ _ fun n7 hn7=> ?_);have hn7:=xZU hn7;have hq:y8 g ((r':Int),(c':Int),xs,xo)=(decide (xs - xo<=(g.ll.getD r' []).getD c' 0) && decide ((g.ll.getD r' []).getD c' 0<=xs+xo)):=by
      simp only [y8,inB,Gr.cell,xZV];rfl
     cases b4:y8 g ((r':Int),(c':Int),xs,xo)
     ·rw [b4] at hq;simp only [sy.1,rE,reduceIte,rL,<-hq];apply hn;clear hn hp K;refine wcT (by simp only [sy.1,rE,reduceIte]) ?_;refine qA fun K hn hp=> ?_;simp only [sy.1,rL];apply hn;clear hn hp K;refine qD (H4 _ (G4 _ (qK res49 ⟨?_,(fh1.trans f9 (by omega)).up hn7⟩)));have:xL m g=false:=by
       have:m.gs.all (y8 g)=false:=by
        rw [xZM];exact ⟨_,xZR hx,by rw [b4];exact xZN⟩
       simp only [xL,this,Bool.and_false]
      simp [xZZ,this]
     ·rw [b4] at hq;simp only [sy.1,rE,reduceIte,rL,<-hq];apply hn;clear hn hp K;refine wcF (by simp only [sy.1,rE,reduceIte]) ?_;refine qN (H1 _ ?_);refine reg fun K hn hp=> ?_;simp only [sy.1,rE,reduceIte,rL,g8,qE hi ha.lg];apply hn;clear hn hp K;refine ⟨⟨i+1,_,_,rfl,by omega,(by simp [xZZ,g1]),(by simp [xZZ,g2]),(by simp [xZZ]),f9.up hn7,?_⟩,by simpa [xZZ,muG] using (by omega:m.gs.length - (i+1)<m.gs.length - i)⟩;rw [List.take_succ,hx];intro y hy;simp only [Option.toList_some,List.mem_append,List.mem_singleton] at hy;rcases hy with hy|rfl
      ·exact hall y hy
      ·exact b4
    ·refine qU (by simp only [sy.1,rE,reduceIte,hi]) ?_;refine qG (G2 _ ?_);refine qA fun K hn hp=> ?_;simp only [sy.1,rL];apply hn;clear hn hp K;refine qD (qK res49 ⟨?_,fgh⟩);have:xL m g=true:=by
      have h2:m.gs.all (y8 g)=true:=by
       rw [List.take_of_length_le (by omega)] at hall;exact xZT.2 hall
      simp only [xL,hfr,h2,Bool.and_self]
     simp [xZZ,this]
   ·exact ⟨0,h1.up n2,_,rfl,(by omega),(by simp [xZZ,g1]),(by simp [xZZ,g2]),(by simp [xZZ]),(Fr.refl (xZX _)).up (by omega),fun x hx=>by simp at hx⟩
 ·exact ⟨0,h1.n,_,rfl,(by omega),(by simp [xZZ]),(by simp [xZZ]),(by simp [xZZ]),xZX _,fun j hj=>absurd hj (Nat.not_lt_zero _)⟩
end Go.Proofs.Kn
