/- MvW14, MvW15: texts in a row, joined by a program. -/
import Derived.Test.YtnmfblokfponlaaGreatDoorQW3
import Derived.Test.YtnmfblokfponlaaGreatDoorQW1
import Derived.Test.YtnmfblokfponlaaGreatDoorQY9
set_option linter.all false
open Nat renaming reduceEqDiff → rE, reduceLeDiff → rD, reduceAdd → rA, reduceMul → rM, reduceLT → rL
open Go.Ev.T renaming get_put → xZZ
open List renaming getElem?_eq_getElem → xZY, getD_eq_getElem?_getD → xZX, mem_of_getElem? → xZV, mem_range → xZU, filter_congr → xZT, take_of_length_le → xZQ, filter_cons → xZP
open Nat renaming le_refl → xZW
open Go.Ev.Hp renaming up_up → xZS, up_n → xZR
open Bool renaming and_eq_true → xZO
namespace Go.Proofs.Kn
open Go Go.Ev
theorem bJ (L:List Int):(dsc L).Perm L:=List.mergeSort_perm _ _
theorem dsc_pw (L:List Int):(dsc L).Pairwise fun a b=>decide (b<=a)=true:=List.pairwise_mergeSort (le:=fun x y:Int=>decide (y<=x)) (fun a b c h k=>by simp at*;omega) (fun a b=>by simp;omega) L
theorem dsc_eq {L D:List Int} (hp:D.Perm L) (hs:D.Pairwise fun a b=>decide (b<=a)=true):dsc L=D:=
 List.Perm.eq_of_pairwise (le:=fun a b:Int=>decide (b<=a)=true) (fun a b _ _ h k=>by simp at*;omega) (dsc_pw L) hs ((bJ L).trans hp.symm)
theorem dsc_congr {L L':List Int} (h:L.Perm L'):dsc L=dsc L':=dsc_eq ((bJ L').trans h.symm) (dsc_pw L')
theorem dsc_cons {m:Int} {L:List Int} (h: ∀x∈L,x<=m):dsc (m::L)=m::dsc L:=
 dsc_eq ((bJ L).cons m) (List.pairwise_cons.2 ⟨fun x hx=>decide_eq_true (h x ((bJ L).mem_iff.1 hx)),dsc_pw L⟩)
theorem qCg: ∀l:List Int,zO l l.length=l.sum
 |[]=>rfl
 |x::l=>by rw [List.length_cons,pS,qCg l,List.sum_cons]
def gD (L:List Int) (k:Nat):Int:=((dsc L).take k).sum
theorem topS_N (L:List Int) (H:Int):topS L H=gD L H.toNat:=by
 rw [topS,gD,<-qCg];have hl:=qA1 L;have e:(dsc L).take (min L.length H.toNat)=(dsc L).take H.toNat:=by
  by_cases h:H.toNat<=L.length
  ·rw [Nat.min_eq_right h]
  ·rw [Nat.min_eq_left (by omega),xZQ (by omega),xZQ (by omega)]
 rw [e,List.length_take,hl,Nat.min_comm]
theorem qDB (k:Nat):gD [] k=0:=by
 have:dsc []=[]:=by simp [dsc]
 simp [gD,this]
theorem topN_zero (L:List Int):gD L 0=0:=by simp [gD]
theorem topN_cons {L R:List Int} {m:Int} (hp:L.Perm (m::R)) (h: ∀x∈R,x<=m) (k:Nat):gD L (k+1)=m+gD R k:=by
 rw [gD,dsc_congr hp,dsc_cons h,List.take_succ_cons,List.sum_cons];rfl
def wK (ul:List Bool) (op:Nat->Bool) (j:Nat):Bool:= !ul.getD j false && op j
def btr (vl:Nat->Int) (k:Nat):Option Nat->Bool
 |none=>true
 |some b=>decide (vl b<vl k)
def xV (c:Nat->Bool) (vl:Nat->Int):Nat->Option Nat
 |0=>none
 |k+1=>if (c k && btr vl k (xV c vl k))=true then some k else xV c vl k
theorem pY {c:Nat->Bool} {vl:Nat->Int}: ∀{k:Nat},xV c vl k=none-> ∀j,j<k->c j=false
 |0,_,j,hj=>by omega
 |k+1,h,j,hj=>by
  rw [xV] at h;split at h
  ·cases h
  ·rename_i q;rw [h] at q;simp only [btr,Bool.and_true,Bool.not_eq_true] at q;by_cases e:j=k
   ·rw [e];exact q
   ·exact pY h j (by omega)
theorem kU {c:Nat->Bool} {vl:Nat->Int}: ∀{k b:Nat},xV c vl k=some b->b<k/\c b=true/\ ∀j,j<k->c j=true->vl j<=vl b
 |0,_,h=>by cases h
 |k+1,b,h=>by
  rw [xV] at h;split at h
  ·rename_i q;cases h;simp only [xZO] at q;refine ⟨by omega,q.1,fun j hj hc=> ?_⟩;by_cases e:j=k
   ·rw [e];exact Int.le_refl _
   ·cases hb:xV c vl k with
    |none=>rw [pY hb j (by omega)] at hc;cases hc
    |some b'=>
     obtain ⟨_,_,h3⟩:=kU hb;have:=h3 j (by omega) hc;have q2:=q.2;rw [hb] at q2;have:vl b'<vl k:=of_decide_eq_true q2;omega
  ·rename_i q;obtain ⟨h1,h2,h3⟩:=kU h;refine ⟨by omega,h2,fun j hj hc=> ?_⟩;by_cases e:j=k
   ·subst e;rw [h,hc] at q;simp [btr] at q;exact q
   ·exact h3 j (by omega) hc
def grd1 (op:Nat->Bool) (vl:Nat->Int) (n:Nat) (s:List Bool×Int):List Bool×Int:=
 match xV (wK s.1 op) vl n with
 |none=>s
 |some b=>(s.1.set b true,s.2 - vl b)
def gW (op:Nat->Bool) (vl:Nat->Int) (n:Nat) (s0:List Bool×Int):Nat->List Bool×Int
 |0=>s0
 |t+1=>grd1 op vl n (gW op vl n s0 t)
def remv (op:Nat->Bool) (vl:Nat->Int) (n:Nat) (ul:List Bool):List Int:=((List.range n).filter (wK ul op)).map vl
theorem qBA {P:Nat->Bool} {j:Nat}: ∀{l:List Nat},l.Nodup->j∈l->P j=true->(l.filter P).Perm (j::l.filter fun x=>P x && !decide (x=j))
 |x::l,hn,hj,hp=>by
  obtain ⟨h1,h2⟩:=List.nodup_cons.1 hn;by_cases e:x=j
  ·subst e;have:(l.filter fun y=>P y && !decide (y=x))=l.filter P:=xZT fun y hy=>by
    have: ¬y=x:=fun q=>h1 (by rw [<-q];exact hy);simp [this]
   simp only [xZP,hp,if_true,decide_true,Bool.not_true,Bool.and_false,Bool.false_eq_true,if_false,this];exact List.Perm.refl _
  ·have hj':j∈l:=by
    rcases List.mem_cons.1 hj with q|q
    ·exact absurd q.symm e
    ·exact q
   have ih:=qBA h2 hj' hp;have d:decide (x=j)=false:=decide_eq_false e;simp only [xZP,d,Bool.not_false,Bool.and_true];split
   ·exact (ih.cons x).trans (List.Perm.swap _ _ _)
   ·exact ih
theorem getD_set (ul:List Bool) {b:Nat} (hb:b<ul.length) (j:Nat):(ul.set b true).getD j false=(ul.getD j false || decide (j=b)):=by
 rw [xZX,xZX,List.getElem?_set];by_cases e:b=j
 ·subst e;rw [if_pos rfl,if_pos hb];simp
 ·rw [if_neg e];have: ¬j=b:=fun q=>e q.symm;simp [this]
theorem gU (op:Nat->Bool) (vl:Nat->Int) (n:Nat) (s0:List Bool×Int): ∀t,(gW op vl n s0 t).1.length=s0.1.length
 |0=>rfl
 |t+1=>by
  rw [gW,grd1];split
  ·exact gU op vl n s0 t
  ·simp only [List.length_set];exact gU op vl n s0 t
theorem grd_inv (op:Nat->Bool) (vl:Nat->Int) (n:Nat) (s0:List Bool×Int) (h0:s0.1.length=n) (H:Nat): ∀t,t<=H->(gW op vl n s0 t).2 - gD (remv op vl n (gW op vl n s0 t).1) (H - t)=s0.2 - gD (remv op vl n s0.1) H
 |0,_=>rfl
 |t+1,ht=>by
  have ih:=grd_inv op vl n s0 h0 H t (by omega);rw [<-ih];have hln:=gU op vl n s0 t;generalize hs:gW op vl n s0 t=s at*
  rw [gW,hs,grd1];rw [show H - t=(H - (t+1))+1 by omega];split
  ·rename_i hb;have:remv op vl n s.1=[]:=by
    unfold remv;have:(List.range n).filter (wK s.1 op)=[]:=List.filter_eq_nil_iff.2 fun j hj=>by
     rw [pY hb j (xZU.1 hj)];decide
    rw [this];rfl
   rw [this,qDB,qDB]
  ·rename_i b hb;obtain ⟨h1,h2,h3⟩:=kU hb;have hc: ∀j,wK (s.1.set b true) op j=(wK s.1 op j && !decide (j=b)):=fun j=>by
    rw [wK,wK,getD_set _ (by omega)];cases s.1.getD j false<;>cases op j<;>cases decide (j=b)<;>rfl
   have hp:(remv op vl n s.1).Perm (vl b::remv op vl n (s.1.set b true)):=by
    have:=(qBA (P:=wK s.1 op) (List.nodup_range (n:=n)) (xZU.2 h1) h2).map vl;rw [List.map_cons] at this;have e:((List.range n).filter fun x=>wK s.1 op x && !decide (x=b))=(List.range n).filter (wK (s.1.set b true) op):=xZT fun j _=>(hc j).symm;rw [e] at this;exact this
   have hm: ∀x∈remv op vl n (s.1.set b true),x<=vl b:=fun x hx=>by
    obtain ⟨j,hj,rfl⟩:=List.mem_map.1 hx;obtain ⟨hj1,hj2⟩:=List.mem_filter.1 hj;rw [hc,xZO] at hj2;exact h3 j (xZU.1 hj1) hj2.1
   rw [topN_cons hp hm];simp only;omega
theorem qCP {α β:Type} (d:α) (P:α->Bool) (f:α->β) (ls:List α):((List.range ls.length).filter fun j=>P (ls.getD j d)).map (fun j=>f (ls.getD j d))=(ls.filter P).map f:=by
 have e:(List.range ls.length).map (fun j=>ls.getD j d)=ls:=by
  apply List.ext_getElem
  ·simp
  ·intro i h1 h2;simp only [List.getElem_map,List.getElem_range];rw [xZX,xZY h2];rfl
 have:=congrArg (fun l=>(l.filter P).map f) e;simp only [List.filter_map,List.map_map] at this;exact this
theorem grd_top {α:Type} (d:α) (P:α->Bool) (f:α->Int) (ls:List α) (x:Int) (H:Nat):(gW (fun j=>P (ls.getD j d)) (fun j=>f (ls.getD j d)) ls.length (List.replicate ls.length false,x) H).2=x - gD ((ls.filter P).map f) H:=by
 have h:=grd_inv (fun j=>P (ls.getD j d)) (fun j=>f (ls.getD j d)) ls.length (List.replicate ls.length false,x) (by simp) H H (xZW _);rw [Nat.sub_self,topN_zero] at h;have e:remv (fun j=>P (ls.getD j d)) (fun j=>f (ls.getD j d)) ls.length (List.replicate ls.length false)=(ls.filter P).map f:=by
  rw [<-qCP d P f ls,remv]
  congr 1
  refine xZT fun j hj=> ?_;have hj:=xZU.1 hj;simp [wK,xZX,hj]
 simp only [e] at h;omega
end Go.Proofs.Kn
namespace Go.Proofs.Kn
open Go Go.Ev
set_option maxRecDepth 100000
set_option maxHeartbeats 4000000
theorem t154: ∃te,tb.get 154=some te/\te.d= .slice 4:=by
 have h:(tb.get 154).map TE.d=some (.slice 4):=by kernel_rfl
 cases e:tb.get 154 with
 |none=>rw [e] at h;cases h
 |some te=>rw [e] at h;exact ⟨te,rfl,by simpa using h⟩
theorem ix154 {b n j:Nat} (hj:j<n):qQ tb 154 (.sl b 0 n 1) (iv (j:Int))=some (.ptr b j):=by
 obtain ⟨te,ht,hd⟩:=t154;have e1:qAs (iv (j:Int))=some (Int.ofNat j):=rfl;have e2:Nat.blt j n=true:=by rw [Nat.blt_eq];exact hj
 have s4:te4.size=1:=rfl;simp [qQ,ht,e1,hd,tg4,e2,s4]
abbrev wL (ul:List Bool):List AV:=ul.map fun b=> .val (.bool b)
theorem qCp: ∀n:Nat,jW [AV.val (.bool false)] n=wL (List.replicate n false)
 |0=>rfl
 |n+1=>by rw [jW,qCp n];rfl
theorem mk154 (h:Hp) (n:Nat) (hn:n<=1000000):v7 tb h 154 (iv n) (iv n)=some (.sl h.n 0 n 1,h.new (.cells (wL (List.replicate n false)) 4)):=by
 obtain ⟨te,ht,hd⟩:=t154;have e1:anat (iv (n:Int))=some n:=rfl;have s4:te4.size=1:=rfl;have y4:te4.bytes=1:=rfl;have z4:te4.zero=[.bool false]:=rfl;have b1:Nat.ble (1*n) 281474976710656=true:=by rw [Nat.ble_eq];omega
 have b2:Nat.ble n 9223372036854775807=true:=by rw [Nat.ble_eq];omega
 have b3:Nat.blt 0 1=true:=rfl;simp only [v7,ht,hd,tg4,e1,s4,y4,z4,Nat.beq_refl,b1,b2,b3,Bool.and_self,cond_true,List.map_cons,List.map_nil,qCp]
theorem blbs_set (ul:List Bool) (b:Nat):(wL ul).set b (.val (.bool true))=wL (ul.set b true):=by
 simp [wL,List.map_set]
theorem blbs_put (ul:List Bool) {b:Nat} (hb:b<ul.length):(wL ul).take b++(AV.val (.bool true)::(wL ul).drop (b+1))=wL (ul.set b true):=by
 rw [<-blbs_set,List.set_eq_take_append_cons_drop,if_pos (by simpa using hb)]
def Wk.opnS (w:Wk) (s:Int×Int×Int):Bool:=opn w.m.ps s.1.toNat s.2.1.toNat (w.tb s.2.2.toNat).1.toNat
theorem grd_bd (op:Nat->Bool) (vl:Nat->Int) (n:Nat) (s0:List Bool×Int) (hv: ∀j,j<n->0<=vl j/\vl j<=6500): ∀t:Nat,(gW op vl n s0 t).2<=s0.2/\s0.2 - 6500*t<=(gW op vl n s0 t).2
 |0=>by simp [gW]
 |t+1=>by
  have ih:=grd_bd op vl n s0 hv t;rw [gW,grd1];cases q:xV (wK (gW op vl n s0 t).1 op) vl n with
  |none=>simp only;omega
  |some b=>
   have:=hv b (kU q).1;simp only;omega
def bv:Option Nat->Int
 |none=> -1
 |some b=>b
@[simp] theorem bv_none:bv none= -1:=rfl
theorem ft44 (xt:Addr->Option Value):(SE xt).ft.get 44=some Tryz.f44:=by kernel_rfl
theorem res44:Tryz.f44.results.toList=[.tmp 4]:=by kernel_rfl
theorem rsound_c (xt:Addr->Option Value) (h:Hp) (w:Wk) (ha:w.At xt h) (his:w.Is) (hH:0<=w.m.H/\w.m.H<=3) (G:Th.Grid) (hb:w.m.bnd=some G) (v:AV) (ls:List (Int×Int×Int)) (hl:Cuts xt h v ls) (hl50:ls.length<=1000000) (hblk: ∀s∈ls,w.Blk s)
  {K:CR->Hp->Prop} (hk: ∀m,h.n<m->K (.ret (iv (w.V G ls - gD ((ls.filter w.opnS).map (w.lv G)) w.m.H.toNat))) (h.up m)):FnA (SE xt) 44 [w.av,v] h K:=by
 refine FnA.calm ?_ hk;clear hk K;refine FnA.walk (sok xt) (ft44 xt) rfl 85 rfl ?_;obtain ⟨o1,o2,o3,o4,o5⟩:=ha.ones;have hlen:=hl.len;have hlt:=hl.lt;have hr6:=his.m.r6;have hc8:=his.m.c8;have hbp:=bP his.m hb;refine qA fun K hn hp=> ?_;simp only [sw.1,rE,reduceIte,rL];apply hn;obtain ⟨h1,hh1⟩: ∃h1:Hp,h1=h.new (.cells w.cs 30):=⟨_,rfl⟩;rw [<-hh1];have nh1:h1.n=h.n+1:=by rw [hh1];rfl
 have sh1:h1.t.get h.n=some (.cells w.cs 30):=by rw [hh1];exact qS _ _
 have kh1: ∀k,k<h.n->h1.t.get k=h.t.get k:=fun k hk=>by rw [hh1];exact qU _ _ hk
 have fbh1:Fr h.n h h1:=by rw [hh1];exact (Fr.refl (xZW _)).new _
 have fh1:=fbh1;have ha1:=ha.fr fh1 (xZW _);refine qA fun K hn hp=> ?_;simp only [sy.1,rE,reduceIte,rL,rA,rD,sh1];refine qB (sok xt) (FnA.mono (qBg xt h1 w.m ha1.m _ _ his.m rfl) fun res h4 hres=> ?_);obtain ⟨tv,M,rfl,f4,sg,hM1,hM2⟩:=hres;have hG:Th.thickR w.m.T w.m.J (w.m.W - 1) w.m.F0 (w.m.gs.map gg) w.m.cells.length (w.m.W+1)=G:=(bO his.m hb).1;rw [hG] at sg;simp only [sy.1,rE,reduceIte,rL];refine qB (sok xt) (FnA.mono (endsI_c xt h4 _ M _ _ tv G sg (by omega) (by omega) (by omega) false) fun res h5 hres=> ?_);obtain ⟨z1,rfl,f5,lt5,l1⟩:=hres;simp only [sy.1,rE,reduceIte,rL];apply hn;have f45:Fr h1.n h1 h5:=f4.trans f5 (by omega);have f5h:=fh1.trans f45 (by omega);have s5:=(f45.at_ h.n (.inl (by omega))).trans sh1;have ha5:=ha.fr f5h (xZW _);have hl5:=hl.fr f5h (xZW _);have gl: ∀(r:Nat),r<w.m.cells.length->((⟨z1,vM false G w.m.cells.length w.m.W⟩:Gr).ll.getD r []).length=w.m.W:=fun r hr=>by
  show ((vM false G w.m.cells.length w.m.W).getD r []).length=_;rw [bI _ _ hr];simp
 have tpos: ∀(r c:Nat),r<w.m.cells.length->c<w.m.W->0<=(⟨z1,vM false G w.m.cells.length w.m.W⟩:Gr).t r c:=fun r c hr hc=>by
  rw [qDa z1 false G hr hc];exact (hbp r c).1
 refine qA fun K hn hp=> ?_;simp only [sy.1,rE,reduceIte,rL,rA,s5];refine qB (sok xt) (rworthL_c xt h5 w ha5 his v ls hl5 hl50 hblk ⟨z1,vM false G w.m.cells.length w.m.W⟩ l1 (y6 _ _ _ _) gl tpos fun m6 hm6=> ?_);rw [qDA (fun s hs=>gX (hblk s hs))];have c1:w.worth (w.give fun r c=>kO false (G r c)) ls=w.V G ls:=Wk.V_worth w G ls;rw [c1];simp only [sy.1,rE,reduceIte,rL];apply hn;obtain ⟨h7,hh7,n7,s7,k7,f7⟩:=newE (h5.up m6) (.cells (wL (List.replicate ls.length false)) 4);refine qA fun K hn hp=> ?_;simp only [sy.1,rE,reduceIte,rL,syw.1,hlen,xL,mk154 _ _ hl50,<-hh7];apply hn;clear hh7;simp only [xZR] at n7 s7 k7 f7;have f57:Fr h5.n h5 h7:=((Fr.refl (xZW _)).up (m:=m6) (by omega)).trans f7 (by omega);obtain ⟨op,hop⟩: ∃op:Nat->Bool,op=fun j=>w.opnS (ls.getD j b0):=⟨_,rfl⟩;obtain ⟨vl,hvl⟩: ∃vl:Nat->Int,vl=fun j=>w.lv G (ls.getD j b0):=⟨_,rfl⟩;have hvb: ∀j,j<ls.length->0<=vl j/\vl j<=6500:=fun j hj=>by
  rw [hvl];simp only;rw [vQ (xZY hj)];exact his.lv_bd hb (hblk _ (List.getElem_mem hj))
 obtain ⟨S,hS⟩: ∃S:Nat->List Bool×Int,S=gW op vl ls.length (List.replicate ls.length false,w.V G ls):=⟨_,rfl⟩;have hSl: ∀t,(S t).1.length=ls.length:=fun t=>by rw [hS,gU];simp
 have hSb:=fun t:Nat=>grd_bd op vl ls.length (List.replicate ls.length false,w.V G ls) hvb t;rw [<-hS] at hSb;have hV:=V_bd his hb ls hblk;obtain ⟨H,hH1⟩: ∃H:Nat,w.m.H=(H:Int):=⟨w.m.H.toNat,by omega⟩;have hdec: ∀t:Nat,decide ((t:Int)<w.m.H)=decide (t<H):=fun t=>decide_eq_decide.2 (by omega);have hS1: ∀t,S (t+1)=grd1 op vl ls.length (S t):=fun t=>by rw [hS];rfl
 have hvj: ∀j s,ls[j]? =some s->vl j=w.lv G s/\op j=w.opnS s:=fun j s hs=>by
  rw [hvl,hop];simp only [vQ hs,and_self]
 refine qCL (fun tm=>tm.get 1=some v/\tm.get 2=some (.ptr h.n 0)/\tm.get 5=some z1/\tm.get 6=some (iv (w.V G ls))/\tm.get 7=some (.sl m6 0 ls.length 1)) ⟨by simp [xZZ],by simp [xZZ],by simp [xZZ],by simp [xZZ],by simp [xZZ]⟩ fun tm ht=> ?_;obtain ⟨g1,g2,g5,g6,g7⟩:=ht;have hS0:(S 0).2=w.V G ls:=by rw [hS];rfl
 have hS00:(S 0).1=List.replicate ls.length false:=by rw [hS];rfl
 refine qD ?_;refine qA fun K hn hp=> ?_;simp only [sy.1,rL];apply hn;refine qF fun KA A1 A2 A3 A4 A5=> ?_;refine qP (sok xt) (fun st=> ∃(t:Nat) (hg:Hp) (xv:Int) (tm:T AV),st=⟨tm,85,hg,[]⟩/\t<=H/\tm.get 1=some (v)/\tm.get 2=some (.ptr h.n 0)/\tm.get 5=some (z1)/\tm.get 6=some (iv xv)/\tm.get 7=some (.sl m6 0 ls.length 1)/\tm.get 8=some (iv t)/\Fr h5.n h5 hg/\m6<hg.n/\hg.t.get m6=some (.cells (wL (S t).1) 4)/\xv=(S t).2) (fun st=>H - (match st.tm.get 8 with|some (.val (.int _ n))=>n.toNat|_=>0)) ?_ ?_
 ·rintro st ⟨t,hg,xv,tm,rfl,hkA,g1,g2,g5,g6,g7,g8,fg,mg,bg,rfl⟩;have muA:=g8;have ug:=(fg.at_ h.n (.inl (by omega))).trans s5;refine qD ?_;refine qA fun K hn hp=> ?_;simp only [sy.1,rE,reduceIte,rL,g2,hdec,g8,ug];apply hn;by_cases ht:t<H
  ·refine qC true (by simp only [sy.1,rE,reduceIte,ht]) (fun _=> ?_) (fun hx=>by cases hx);refine qH ?_;have hag:=ha5.fr fg (xZW _);have hlg:=hl5.fr fg (xZW _);have lg:=l1.fr fg (xZW _);have sb:=hSb t;have sb1:=hSb (t+1);simp only at sb sb1;refine qF fun KB B1 B2 B3 B4 B5=> ?_;refine qA fun K hn hp=> ?_;simp only [sy.1,rL];apply hn;refine qD ?_;refine qA fun K hn hp=> ?_;simp only [sy.1,rL];apply hn;refine jL fun KD D1 D2 D3 D4 D5=> ?_;refine qP (sok xt) (fun st=> ∃(j:Nat) (m2:Nat) (bb:Option Nat) (tm:T AV),st=⟨tm,85,hg.up m2,[]⟩/\j<=ls.length/\tm.get 1=some (v)/\tm.get 2=some (.ptr h.n 0)/\tm.get 5=some (z1)/\tm.get 6=some (iv (S t).2)/\tm.get 7=some (.sl m6 0 ls.length 1)/\tm.get 8=some (iv t)/\tm.get 9=some (iv (bv bb))/\tm.get 10=some (iv j)/\hg.n<=m2/\bb=xV (wK (S t).1 op) vl j) (fun st=>ls.length - (match st.tm.get 10 with|some (.val (.int _ n))=>n.toNat|_=>0)) ?_ ?_
   ·rintro st ⟨j,m2,bb,tm,rfl,hkD,g1,g2,g5,g6,g7,g8,g9,g10,hm2,hbb⟩;have muD:=g10;refine qD ?_;refine qA fun K hn hp=> ?_;simp only [sy.1,rE,reduceIte,rL,syw.1,hlen,jA,g1,g10];apply hn;by_cases hj:j<ls.length
    ·refine qC true (by simp only [sy.1,rE,reduceIte,hj]) (fun _=> ?_) (fun hx=>by cases hx);refine qH ?_;refine qF fun KE E1 E2 E3 E4 E5=> ?_;have next: ∀(tm:T AV) (m3:Nat) (bb':Option Nat),hg.n<=m3->bb'=xV (wK (S t).1 op) vl (j+1)->tm.get 1=some v->tm.get 2=some (.ptr h.n 0)->tm.get 5=some z1->tm.get 6=some (iv (S t).2)->tm.get 7=some (.sl m6 0 ls.length 1)->tm.get 8=some (iv t)->tm.get 9=some (iv (bv bb'))->tm.get 10=some (iv j)->KE .normal ⟨tm,85,hg.up m3,[]⟩:=by
      clear g1 g2 g5 g6 g7 g8 g9 g10;intro tm m3 bb' hm3 hb3 g1 g2 g5 g6 g7 g8 g9 g10;refine E1 _ ?_;refine reg fun K hn hp=> ?_;simp only [sy.1,rE,reduceIte,rL,g10,qK hj hlt];apply hn;refine ⟨⟨j+1,m3,bb',_,rfl,by omega,(by simp [xZZ,g1]),(by simp [xZZ,g2]),(by simp [xZZ,g5]),(by simp [xZZ,g6]),(by simp [xZZ,g7]),(by simp [xZZ,g8]),(by simp [xZZ,g9]),(by simp [xZZ]),hm3,hb3⟩,by simpa [xZZ,muD] using (by omega:ls.length - (j+1)<ls.length - j)⟩
     obtain ⟨s,hs⟩: ∃s,ls[j]? =some s:=⟨_,xZY hj⟩;obtain ⟨vj,oj⟩:=hvj j s hs;have hbs:=hblk s (xZV hs);obtain ⟨i1,i2,_,_⟩:=hlg.at_ hs;obtain ⟨i1',i2',_,_⟩:=(hlg.up hm2).at_ hs;have y1:=ix154 (b:=m6) hj;obtain ⟨u,hu⟩: ∃u,u=(S t).1.getD j false:=⟨_,rfl⟩;have y2:(wL (S t).1)[j]? =some (.val (.bool u)):=by
      have hl':=hSl t;rw [List.getElem?_map,xZY (by omega),hu,xZX,xZY (by omega)];rfl
     have hcj:wK (S t).1 op j=(!u && op j):=by rw [wK,<-hu]
     have hst:xV (wK (S t).1 op) vl (j+1)=if ((!u && op j) && btr vl j bb)=true then some j else bb:=by rw [xV,hcj,<-hbb]
     obtain ⟨r0,c0,q,n,th,wo,hs0,ht',k1,k2⟩:=id hbs;have os:w.opnS s=opn w.m.ps r0 c0 n:=by rw [hs0];simp [Wk.opnS,ht'.tb]
     rw [oj,os] at hst;have ic:=i2;have ic':=i2';rw [hs0] at ic ic';cases u with
     |true=>
      refine yU (sok xt) 0 0 30 [(24,1),(28,1),(24,0),(28,0)] (by kernel_rfl) fun K hn hp=> ?_;simp only [sy.1,rE,reduceIte,rL,rA,syw.1,g7,g10,y1,bg,y2];apply hn;refine qG false (by simp only [sy.1,rE,reduceIte]) (fun hx=>by cases hx) (fun _=> ?_);refine qT (next _ m2 bb hm2 (by rw [hst];simp) ?_ ?_ ?_ ?_ ?_ ?_ ?_ ?_);all_goals simp [xZZ,g1,g2,g5,g6,g7,g8,g9,g10]
     |false=>
      refine yU (sok xt) 0 0 30 [(24,1),(28,1),(24,0),(28,0)] (by kernel_rfl) fun K hn hp=> ?_;simp only [sy.1,rE,reduceIte,rL,rA,syw.1,g1,g2,g7,ug,g10,y1,bg,y2,i1,ic];refine qB (sok xt) (ropen_c xt (hg.up m2) w (hag.up hm2) ht' r0 c0 (by omega) (by omega) fun m5 hm5=> ?_);simp only [xZR] at hm5;cases cq:opn w.m.ps r0 c0 n
      ·rw [cq] at hst;simp only [sy.1,rE,reduceIte,rL,rA,syw.1,xZS,hm5];apply hn;refine qG false (by simp only [sy.1,rE,reduceIte]) (fun hx=>by cases hx) (fun _=> ?_);refine qT (next _ m5 bb (by omega) (by rw [hst];simp) ?_ ?_ ?_ ?_ ?_ ?_ ?_ ?_);all_goals simp [xZZ,g1,g2,g5,g6,g7,g8,g9,g10]
      ·rw [cq] at hst;cases bb with
       |none=>
        have bn:bv none= -1:=rfl;have dn:decide ((-1:Int)<0)=true:=rfl;rw [bn] at g9;simp only [sy.1,rE,reduceIte,rL,rA,syw.1,g9,xZS,hm5,dn];apply hn;refine qG true (by simp only [sy.1,rE,reduceIte]) (fun _=> ?_) (fun hx=>by cases hx);refine reg fun K hn hp=> ?_;simp only [sy.1,rE,reduceIte,rL,g10];refine hn _ _ (next _ m5 (some j) (by omega) (by rw [hst];simp [btr]) ?_ ?_ ?_ ?_ ?_ ?_ ?_ ?_);all_goals simp [xZZ,g1,g2,g5,g6,g7,g8,g10,bv]
       |some b=>
        have bn:bv (some b)=(b:Int):=rfl;have dn:decide ((b:Int)<0)=false:=decide_eq_false (by omega);rw [bn] at g9;have hbj:=(kU hbb.symm).1;obtain ⟨sb',hsb'⟩: ∃s,ls[b]? =some s:=⟨_,xZY (by omega)⟩;obtain ⟨vb,_⟩:=hvj b sb' hsb';have hbb':=hblk sb' (xZV hsb');obtain ⟨j1,j2,_,_⟩:=hlg.at_ hsb';have ew: ∀s,w.Blk s->(w.tb s.2.2.toNat).2.2*w.give (⟨z1,vM false G w.m.cells.length w.m.W⟩:Gr).t s=w.lv G s:=fun s hs=>by rw [gX hs];rfl
        simp only [sy.1,rE,reduceIte,rL,rA,syw.1,g1,g2,g5,ug,g9,g10,i1,ic,xZS,hm5,dn];rw [<-hs0];refine qB (sok xt) (uX xt (hg.up m5) w (hag.up (by omega)) his s hbs ⟨z1,vM false G w.m.cells.length w.m.W⟩ (lg.up (by omega)) (y6 _ _ _ _) gl tpos fun m7 hm7=> ?_);simp only [xZR] at hm7;rw [ew s hbs,<-vj];simp only [sy.1,rE,reduceIte,rL,rA,syw.1,g1,g2,g5,ug,g9,j1,j2,xZS,hm7];refine qB (sok xt) (uX xt (hg.up m7) w (hag.up (by omega)) his sb' hbb' ⟨z1,vM false G w.m.cells.length w.m.W⟩ (lg.up (by omega)) (y6 _ _ _ _) gl tpos fun m8 hm8=> ?_);simp only [xZR] at hm8;rw [ew sb' hbb',<-vb];cases cv:decide (vl b<vl j)
        ·simp only [sy.1,rE,reduceIte,rL,xZS,cv];apply hn;refine qG false (by simp only [sy.1,rE,reduceIte]) (fun hx=>by cases hx) (fun _=> ?_);refine qT (next _ m8 (some b) (by omega) (by rw [hst];simp only [btr,cv];rfl) ?_ ?_ ?_ ?_ ?_ ?_ ?_ ?_);all_goals simp [xZZ,g1,g2,g5,g6,g7,g8,g9,g10,bv]
        ·simp only [sy.1,rE,reduceIte,rL,xZS,cv];apply hn;refine qG true (by simp only [sy.1,rE,reduceIte]) (fun _=> ?_) (fun hx=>by cases hx);refine reg fun K hn hp=> ?_;simp only [sy.1,rE,reduceIte,rL,g10];refine hn _ _ (next _ m8 (some j) (by omega) (by rw [hst];simp only [btr,cv];rfl) ?_ ?_ ?_ ?_ ?_ ?_ ?_ ?_);all_goals simp [xZZ,g1,g2,g5,g6,g7,g8,g10,bv]
    ·refine qC false (by simp only [sy.1,rE,reduceIte,hj]) (fun hx=>by cases hx) (fun _=> ?_);refine qM (D2 _ ?_);obtain rfl:j=ls.length:=by omega
     have hSt:=hS1 t;rw [grd1,<-hbb] at hSt;cases bb with
     |none=>
      have bn:bv none= -1:=rfl;have dn:decide ((0:Int)<= -1)=false:=rfl;rw [bn] at g9;simp only at hSt;refine qA fun K hn hp=> ?_;simp only [sy.1,rE,reduceIte,rL,g9,dn];apply hn;refine qG false (by simp only [sy.1,rE,reduceIte]) (fun hx=>by cases hx) (fun _=> ?_);refine qT (B1 _ ?_);refine reg fun K hn hp=> ?_;simp only [sy.1,rE,reduceIte,rL,g8,qK ht (show H<=9223372036854775807 by omega)];apply hn;refine ⟨⟨t+1,hg.up m2,(S t).2,_,rfl,by omega,(by simp [xZZ,g1]),(by simp [xZZ,g2]),(by simp [xZZ,g5]),(by simp [xZZ,g6]),(by simp [xZZ,g7]),(by simp [xZZ]),fg.up hm2,by simp only [xZR];omega,by rw [hSt];exact bg,by rw [hSt]⟩,by simpa [xZZ,muA] using (by omega:H - (t+1)<H - t)⟩
     |some b=>
      have bn:bv (some b)=(b:Int):=rfl;have dn:decide ((0:Int)<=(b:Int))=true:=decide_eq_true (by omega);rw [bn] at g9;simp only at hSt;obtain ⟨q1,q2,q3⟩:=kU hbb.symm;obtain ⟨sb',hsb'⟩: ∃s,ls[b]? =some s:=⟨_,xZY q1⟩;obtain ⟨vb,_⟩:=hvj b sb' hsb';have hbb':=hblk sb' (xZV hsb');obtain ⟨j1,j2,_,_⟩:=hlg.at_ hsb';obtain ⟨j1',j2',_,_⟩:=(hlg.up hm2).at_ hsb';have ew:(w.tb sb'.2.2.toNat).2.2*w.give (⟨z1,vM false G w.m.cells.length w.m.W⟩:Gr).t sb'=w.lv G sb':=by rw [gX hbb'];rfl
      have y1:=ix154 (b:=m6) q1;have hvbb:=hvb b q1;have hlb:b+1<=(wL (S t).1).length:=by rw [List.length_map,hSl];omega
      have wS:IntKind.i64.wrap ((S t).2 - vl b)=(S t).2 - vl b:=wrap_i64 _ (by omega) (by omega);refine qA fun K hn hp=> ?_;simp only [sy.1,rE,reduceIte,rL,g9,dn];apply hn;refine qG true (by simp only [sy.1,rE,reduceIte]) (fun _=> ?_) (fun hx=>by cases hx);refine regW (sok xt) 0 0 13 [] (by kernel_rfl) fun K hn hp=> ?_;simp only [sy.1,rE,reduceIte,rL,rA,syw.1,g1,g2,g5,g6,g7,ug,g9,j1,j2];refine qB (sok xt) (uX xt (hg.up m2) w (hag.up hm2) his sb' hbb' ⟨z1,vM false G w.m.cells.length w.m.W⟩ (lg.up hm2) (y6 _ _ _ _) gl tpos fun m8 hm8=> ?_);simp only [xZR] at hm8;rw [ew,<-vb];simp only [sw.1,rE,reduceIte,rL,rA,syw.1,y1,hm8,wS,bg,hlb,xZS];have hput:(wL (S t).1).take b++[AV.val (.bool true)]++(wL (S t).1).drop (b+1)=wL ((S t).1.set b true):=by
       rw [List.append_assoc];exact blbs_put _ (by rw [hSl];exact q1)
      rw [hput];refine hn _ _ (B1 _ ?_);obtain ⟨h9,hh9⟩: ∃h9:Hp,h9=(hg.up m8).set m6 (.cells (wL ((S t).1.set b true)) 4):=⟨_,rfl⟩;rw [<-hh9];have n9:h9.n=m8:=by rw [hh9];rfl
      have b9:h9.t.get m6=some (.cells (wL ((S t).1.set b true)) 4):=by rw [hh9,Hp.set_t,xZZ,if_pos rfl]
      have f9:Fr h5.n h5 h9:=by rw [hh9];exact (fg.up (by omega)).set (by omega) (by simp only [xZR];omega) _
      clear hh9;refine reg fun K hn hp=> ?_;simp only [sy.1,rE,reduceIte,rL,g8,qK ht (show H<=9223372036854775807 by omega)];apply hn;refine ⟨⟨t+1,h9,(S t).2 - vl b,_,rfl,by omega,(by simp [xZZ,g1]),(by simp [xZZ,g2]),(by simp [xZZ,g5]),(by simp [xZZ]),(by simp [xZZ,g7]),(by simp [xZZ]),f9,by omega,by rw [hSt];exact b9,by rw [hSt]⟩,by simpa [xZZ,muA] using (by omega:H - (t+1)<H - t)⟩
   ·exact ⟨0,hg.n,none,_,rfl,(by omega),(by simp [xZZ,g1]),(by simp [xZZ,g2]),(by simp [xZZ,g5]),(by simp [xZZ,g6]),(by simp [xZZ,g7]),(by simp [xZZ,g8]),(by simp [xZZ]),(by simp [xZZ]),xZW _,rfl⟩
  ·refine qC false (by simp only [sy.1,rE,reduceIte,ht]) (fun hx=>by cases hx) (fun _=> ?_);refine qM (A2 _ ?_);obtain rfl:t=H:=by omega
   refine qA fun K hn hp=> ?_;simp only [sy.1,rE,reduceIte,rL,g6];apply hn;refine qE (qL res44 ⟨?_,f5h.trans fg (by omega)⟩);have:=grd_top b0 w.opnS (w.lv G) ls (w.V G ls) t;rw [<-hop,<-hvl,<-hS] at this;have e:w.m.H.toNat=t:=by omega
   simp [xZZ,e,this]
 ·exact ⟨0,h7,w.V G ls,_,rfl,(by omega),(by simp [xZZ,g1]),(by simp [xZZ,g2]),(by simp [xZZ,g5]),(by simp [xZZ,g6]),(by simp [xZZ,g7]),(by simp [xZZ]),f57,by omega,by rw [hS00];exact s7,hS0.symm⟩
end Go.Proofs.Kn
