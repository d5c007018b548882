/- MvW14, MvW15: texts in a row, joined by a program. -/
import Derived.Test.YtnmfblokfponlaaGreatDoorQW3
import Derived.Test.YtnmfblokfponlaaGreatDoorQW1
import Derived.Test.YtnmfblokfponlaaGreatDoorQY9
set_option linter.all false
open List renaming getD_eq_getElem?_getD → xZZ, mem_range → xZY, filter_congr → xZX, take_of_length_le → xZW, filter_cons → xZV
open Bool renaming and_eq_true → xZU
namespace Go.Proofs.Kn
open Go Go.Ev
theorem kY (L:List Int):(dsc L).Perm L:=List.mergeSort_perm _ _
theorem pQ (L:List Int):(dsc L).Pairwise fun a b=>decide (b<=a)=true:=List.pairwise_mergeSort (le:=fun x y:Int=>decide (y<=x)) (fun a b c h k=>by simp at*;omega) (fun a b=>by simp;omega) L
theorem qC0 {L D:List Int} (hp:D.Perm L) (hs:D.Pairwise fun a b=>decide (b<=a)=true):dsc L=D:=
 List.Perm.eq_of_pairwise (le:=fun a b:Int=>decide (b<=a)=true) (fun a b _ _ h k=>by simp at*;omega) (pQ L) hs ((kY L).trans hp.symm)
theorem dsc_congr {L L':List Int} (h:L.Perm L'):dsc L=dsc L':=qC0 ((kY L').trans h.symm) (pQ L')
theorem dsc_cons {m:Int} {L:List Int} (h: ∀x∈L,x<=m):dsc (m::L)=m::dsc L:=
 qC0 ((kY L).cons m) (List.pairwise_cons.2 ⟨fun x hx=>decide_eq_true (h x ((kY L).mem_iff.1 hx)),pQ L⟩)
theorem qCc: ∀l:List Int,vK l l.length=l.sum
 |[]=>rfl
 |x::l=>by rw [List.length_cons,pN,qCc l,List.sum_cons]
def xH (L:List Int) (k:Nat):Int:=((dsc L).take k).sum
theorem topS_N (L:List Int) (H:Int):p9 L H=xH L H.toNat:=by
 rw [p9,xH,<-qCc];have hl:=qA2 L;have e:(dsc L).take (min L.length H.toNat)=(dsc L).take H.toNat:=by
  by_cases h:H.toNat<=L.length
  ·rw [Nat.min_eq_right h]
  ·rw [Nat.min_eq_left (by omega),xZW (by omega),xZW (by omega)]
 rw [e,List.length_take,hl,Nat.min_comm]
theorem qA8 (k:Nat):xH [] k=0:=by
 have:dsc []=[]:=by simp [dsc]
 simp [xH,this]
theorem topN_zero (L:List Int):xH L 0=0:=by simp [xH]
theorem topN_cons {L R:List Int} {m:Int} (hp:L.Perm (m::R)) (h: ∀x∈R,x<=m) (k:Nat):xH L (k+1)=m+xH R k:=by
 rw [xH,dsc_congr hp,dsc_cons h,List.take_succ_cons,List.sum_cons];rfl
def uR (ul:List Bool) (op:Nat->Bool) (j:Nat):Bool:= !ul.getD j false && op j
def btr (vl:Nat->Int) (k:Nat):Option Nat->Bool
 |none=>true
 |some b=>decide (vl b<vl k)
def yA (c:Nat->Bool) (vl:Nat->Int):Nat->Option Nat
 |0=>none
 |k+1=>if (c k && btr vl k (yA c vl k))=true then some k else yA c vl k
theorem pS {c:Nat->Bool} {vl:Nat->Int}: ∀{k:Nat},yA c vl k=none-> ∀j,j<k->c j=false
 |0,_,j,hj=>by omega
 |k+1,h,j,hj=>by
  rw [yA] at h;split at h
  ·cases h
  ·rename_i q;rw [h] at q;simp only [btr,Bool.and_true,Bool.not_eq_true] at q;by_cases e:j=k
   ·rw [e];exact q
   ·exact pS h j (by omega)
theorem kN {c:Nat->Bool} {vl:Nat->Int}: ∀{k b:Nat},yA c vl k=some b->b<k/\c b=true/\ ∀j,j<k->c j=true->vl j<=vl b
 |0,_,h=>by cases h
 |k+1,b,h=>by
  rw [yA] at h;split at h
  ·rename_i q;cases h;simp only [xZU] at q;refine ⟨by omega,q.1,fun j hj hc=> ?_⟩;by_cases e:j=k
   ·rw [e];exact Int.le_refl _
   ·cases hb:yA c vl k with
    |none=>rw [pS hb j (by omega)] at hc;cases hc
    |some b'=>
     obtain ⟨_,_,h3⟩:=kN hb;have:=h3 j (by omega) hc;have q2:=q.2;rw [hb] at q2;have:vl b'<vl k:=of_decide_eq_true q2;omega
  ·rename_i q;obtain ⟨h1,h2,h3⟩:=kN h;refine ⟨by omega,h2,fun j hj hc=> ?_⟩;by_cases e:j=k
   ·subst e;rw [h,hc] at q;simp [btr] at q;exact q
   ·exact h3 j (by omega) hc
def grd1 (op:Nat->Bool) (vl:Nat->Int) (n:Nat) (s:List Bool×Int):List Bool×Int:=
 match yA (uR s.1 op) vl n with
 |none=>s
 |some b=>(s.1.set b true,s.2 - vl b)
def gR (op:Nat->Bool) (vl:Nat->Int) (n:Nat) (s0:List Bool×Int):Nat->List Bool×Int
 |0=>s0
 |t+1=>grd1 op vl n (gR op vl n s0 t)
def remv (op:Nat->Bool) (vl:Nat->Int) (n:Nat) (ul:List Bool):List Int:=((List.range n).filter (uR ul op)).map vl
theorem qBB {P:Nat->Bool} {j:Nat}: ∀{l:List Nat},l.Nodup->j∈l->P j=true->(l.filter P).Perm (j::l.filter fun x=>P x && !decide (x=j))
 |x::l,hn,hj,hp=>by
  obtain ⟨h1,h2⟩:=List.nodup_cons.1 hn;by_cases e:x=j
  ·subst e;have:(l.filter fun y=>P y && !decide (y=x))=l.filter P:=xZX fun y hy=>by
    have: ¬y=x:=fun q=>h1 (by rw [<-q];exact hy);simp [this]
   simp only [xZV,hp,if_true,decide_true,Bool.not_true,Bool.and_false,Bool.false_eq_true,if_false,this];exact List.Perm.refl _
  ·have hj':j∈l:=by
    rcases List.mem_cons.1 hj with q|q
    ·exact absurd q.symm e
    ·exact q
   have ih:=qBB h2 hj' hp;have d:decide (x=j)=false:=decide_eq_false e;simp only [xZV,d,Bool.not_false,Bool.and_true];split
   ·exact (ih.cons x).trans (List.Perm.swap _ _ _)
   ·exact ih
theorem qBy (ul:List Bool) {b:Nat} (hb:b<ul.length) (j:Nat):(ul.set b true).getD j false=(ul.getD j false || decide (j=b)):=by
 rw [xZZ,xZZ,List.getElem?_set];by_cases e:b=j
 ·subst e;rw [if_pos rfl,if_pos hb];simp
 ·rw [if_neg e];have: ¬j=b:=fun q=>e q.symm;simp [this]
theorem uY (op:Nat->Bool) (vl:Nat->Int) (n:Nat) (s0:List Bool×Int): ∀t,(gR op vl n s0 t).1.length=s0.1.length
 |0=>rfl
 |t+1=>by
  rw [gR,grd1];split
  ·exact uY op vl n s0 t
  ·simp only [List.length_set];exact uY op vl n s0 t
theorem grd_inv (op:Nat->Bool) (vl:Nat->Int) (n:Nat) (s0:List Bool×Int) (h0:s0.1.length=n) (H:Nat): ∀t,t<=H->(gR op vl n s0 t).2 - xH (remv op vl n (gR op vl n s0 t).1) (H - t)=s0.2 - xH (remv op vl n s0.1) H
 |0,_=>rfl
 |t+1,ht=>by
  have ih:=grd_inv op vl n s0 h0 H t (by omega);rw [<-ih];have hln:=uY op vl n s0 t;generalize hs:gR op vl n s0 t=s at*
  rw [gR,hs,grd1];rw [show H - t=(H - (t+1))+1 by omega];split
  ·rename_i hb;have:remv op vl n s.1=[]:=by
    unfold remv;have:(List.range n).filter (uR s.1 op)=[]:=List.filter_eq_nil_iff.2 fun j hj=>by
     rw [pS hb j (xZY.1 hj)];decide
    rw [this];rfl
   rw [this,qA8,qA8]
  ·rename_i b hb;obtain ⟨h1,h2,h3⟩:=kN hb;have hc: ∀j,uR (s.1.set b true) op j=(uR s.1 op j && !decide (j=b)):=fun j=>by
    rw [uR,uR,qBy _ (by omega)];cases s.1.getD j false<;>cases op j<;>cases decide (j=b)<;>rfl
   have hp:(remv op vl n s.1).Perm (vl b::remv op vl n (s.1.set b true)):=by
    have:=(qBB (P:=uR s.1 op) (List.nodup_range (n:=n)) (xZY.2 h1) h2).map vl;rw [List.map_cons] at this;have e:((List.range n).filter fun x=>uR s.1 op x && !decide (x=b))=(List.range n).filter (uR (s.1.set b true) op):=xZX fun j _=>(hc j).symm;rw [e] at this;exact this
   have hm: ∀x∈remv op vl n (s.1.set b true),x<=vl b:=fun x hx=>by
    obtain ⟨j,hj,rfl⟩:=List.mem_map.1 hx;obtain ⟨hj1,hj2⟩:=List.mem_filter.1 hj;rw [hc,xZU] at hj2;exact h3 j (xZY.1 hj1) hj2.1
   rw [topN_cons hp hm];simp only;omega
theorem qCF {α β:Type} (d:α) (P:α->Bool) (f:α->β) (ls:List α):((List.range ls.length).filter fun j=>P (ls.getD j d)).map (fun j=>f (ls.getD j d))=(ls.filter P).map f:=by
 have e:(List.range ls.length).map (fun j=>ls.getD j d)=ls:=by
  apply List.ext_getElem
  ·simp
  ·intro i h1 h2;simp only [List.getElem_map,List.getElem_range];rw [xZZ,List.getElem?_eq_getElem h2];rfl
 have:=congrArg (fun l=>(l.filter P).map f) e;simp only [List.filter_map,List.map_map] at this;exact this
theorem grd_top {α:Type} (d:α) (P:α->Bool) (f:α->Int) (ls:List α) (x:Int) (H:Nat):(gR (fun j=>P (ls.getD j d)) (fun j=>f (ls.getD j d)) ls.length (List.replicate ls.length false,x) H).2=x - xH ((ls.filter P).map f) H:=by
 have h:=grd_inv (fun j=>P (ls.getD j d)) (fun j=>f (ls.getD j d)) ls.length (List.replicate ls.length false,x) (by simp) H H (Nat.le_refl _);rw [Nat.sub_self,topN_zero] at h;have e:remv (fun j=>P (ls.getD j d)) (fun j=>f (ls.getD j d)) ls.length (List.replicate ls.length false)=(ls.filter P).map f:=by
  rw [<-qCF d P f ls,remv]
  congr 1
  refine xZX fun j hj=> ?_;have hj:=xZY.1 hj;simp [uR,xZZ,hj]
 simp only [e] at h;omega
end Go.Proofs.Kn
namespace Go.Proofs.Kn
open Go Go.Ev
set_option maxRecDepth 100000
set_option maxHeartbeats 4000000
theorem t154: ∃te,tb.get 154=some te/\te.d= .slice 4:=by
 have h:(tb.get 154).map TE.d=some (.slice 4):=by kernel_rfl
 cases e:tb.get 154 with
 |none=>rw [e] at h;cases h
 |some te=>rw [e] at h;exact ⟨te,rfl,by simpa using h⟩
theorem ix154 {b n j:Nat} (hj:j<n):qN tb 154 (.sl b 0 n 1) (iv (j:Int))=some (.ptr b j):=by
 obtain ⟨te,ht,hd⟩:=t154;have e1:qAl (iv (j:Int))=some (Int.ofNat j):=rfl;have e2:Nat.blt j n=true:=by rw [Nat.blt_eq];exact hj
 have s4:te4.size=1:=rfl;simp [qN,ht,e1,hd,tg4,e2,s4]
abbrev wE (ul:List Bool):List AV:=ul.map fun b=> .val (.bool b)
theorem qCj: ∀n:Nat,jV [AV.val (.bool false)] n=wE (List.replicate n false)
 |0=>rfl
 |n+1=>by rw [jV,qCj n];rfl
theorem mk154 (h:Hp) (n:Nat) (hn:n<=1000000):vX tb h 154 (iv n) (iv n)=some (.sl h.n 0 n 1,h.new (.cells (wE (List.replicate n false)) 4)):=by
 obtain ⟨te,ht,hd⟩:=t154;have e1:anat (iv (n:Int))=some n:=rfl;have s4:te4.size=1:=rfl;have y4:te4.bytes=1:=rfl;have z4:te4.zero=[.bool false]:=rfl;have b1:Nat.ble (1*n) 281474976710656=true:=by rw [Nat.ble_eq];omega
 have b2:Nat.ble n 9223372036854775807=true:=by rw [Nat.ble_eq];omega
 have b3:Nat.blt 0 1=true:=rfl;simp only [vX,ht,hd,tg4,e1,s4,y4,z4,Nat.beq_refl,b1,b2,b3,Bool.and_self,cond_true,List.map_cons,List.map_nil,qCj]
theorem blbs_set (ul:List Bool) (b:Nat):(wE ul).set b (.val (.bool true))=wE (ul.set b true):=by
 simp [wE,List.map_set]
theorem blbs_put (ul:List Bool) {b:Nat} (hb:b<ul.length):(wE ul).take b++(AV.val (.bool true)::(wE ul).drop (b+1))=wE (ul.set b true):=by
 rw [<-blbs_set,List.set_eq_take_append_cons_drop,if_pos (by simpa using hb)]
def bv:Option Nat->Int
 |none=> -1
 |some b=>b
@[simp] theorem bv_none:bv none= -1:=rfl
end Go.Proofs.Kn
