/- Parts. -/
import Derived.Test.YthimlgffanlomaaGreatDoorQY6
import Derived.Test.YthimlgffanlomaaGreatDoorQY7
import Derived.Test.YthimlgffanlomaaGreatDoorQO1
import Derived.Test.YthimlgffanlomaaGreatDoorQY8
import Derived.Test.YthimlgffanlomaaGreatDoorQU
set_option linter.all false
open List renaming getElem?_eq_getElem → xZZ, pairwise_iff_getElem → xZY, getElem?_eq_some_iff → xZX, mem_cons → xZW, mem_cons_of_mem → xZV, mem_cons_self → xZU, cons_append → xZT
namespace Go.Proofs.Kn
open Go Go.Ev
def B3 (a b:Int×Int×Int):Prop:=a.1<b.1\/(a.1=b.1/\(a.2.1<b.2.1\/(a.2.1=b.2.1/\a.2.2<b.2.2)))
theorem bef_B3 {a b:Int×Int×Int}:bef a b<0↔B3 a b:=by
 rw [qCj,B3];by_cases e1:a.1=b.1
 ·by_cases e2:a.2.1=b.2.1
  ·simp [e1,e2]
  ·simp [e1,e2]
 ·simp [e1]
theorem B3.trans {a b c:Int×Int×Int} (h:B3 a b) (k:B3 b c):B3 a c:=by
 unfold B3 at*;omega
theorem B3.irrefl (a:Int×Int×Int): ¬B3 a a:=by unfold B3;omega
theorem B3.tri (a b:Int×Int×Int):B3 a b\/a=b\/B3 b a:=by
 obtain ⟨a1,a2,a3⟩:=a;obtain ⟨b1,b2,b3⟩:=b;unfold B3;simp only [Prod.mk.injEq];omega
theorem qBA {a b:Int×Int×Int} {l m:List (Int×Int×Int)}:yQ (a::l) (b::m)=true↔B3 a b\/(a=b/\yQ l m=true):=by
 rw [yQ];by_cases e:a=b
 ·subst e;rw [if_pos rfl];exact ⟨fun h=> .inr ⟨rfl,h⟩,fun h=>by rcases h with h|h;exact absurd h (B3.irrefl _);exact h.2⟩
 ·rw [if_neg e,decide_eq_true_eq,bef_B3];exact ⟨.inl,fun h=>by rcases h with h|h;exact h;exact absurd h.1 e⟩
theorem qBU: ∀l:List (Int×Int×Int),yQ l l=false
 |[]=>rfl
 |a::l=>by rw [yQ,if_pos rfl];exact qBU l
theorem qC8: ∀{l m n:List (Int×Int×Int)},yQ l m=true->yQ m n=true->yQ l n=true
 |[],_,_,h,_=>by simp [yQ] at h
 |_::_,[],_,h,_=>by simp [yQ] at h
 |_::_,_::_,[],_,h=>by simp [yQ] at h
 |a::l,b::m,c::n,h,k=>by
  rw [qBA] at h k ⊢;rcases h with h|⟨rfl,h⟩
  ·rcases k with k|⟨rfl,k⟩
   ·exact .inl (h.trans k)
   ·exact .inl h
  ·rcases k with k|⟨rfl,k⟩
   ·exact .inl k
   ·exact .inr ⟨rfl,qC8 h k⟩
theorem qFZ: ∀{l m:List (Int×Int×Int)},l.length=m.length->yQ l m=true\/l=m\/yQ m l=true
 |[],[],_=> .inr (.inl rfl)
 |[],_::_,h=>by simp at h
 |_::_,[],h=>by simp at h
 |a::l,b::m,h=>by
  rw [qBA,qBA];rcases B3.tri a b with q|rfl|q
  ·exact .inl (.inl q)
  ·rcases qFZ (l:=l) (m:=m) (by simpa using h) with q|rfl|q
   ·exact .inl (.inr ⟨rfl,q⟩)
   ·exact .inr (.inl rfl)
   ·exact .inr (.inr (.inr ⟨rfl,q⟩))
  ·exact .inr (.inr (.inl q))
theorem bR {a b:Cg}:bet a b=true↔b.2<a.2\/(a.2=b.2/\(a.1.length<b.1.length\/(a.1.length=b.1.length/\yQ a.1 b.1=true))):=by
 rw [qER];by_cases e1:a.2=b.2
 ·by_cases e2:a.1.length=b.1.length
  ·simp [e1,e2]
  ·simp [e1,e2]
 ·simp [e1]
theorem qC7 (a:Cg):bet a a=false:=by
 cases h:bet a a with
 |false=>rfl
 |true=>
  rw [bR,qBU] at h;simp at h
theorem qD6 {a b c:Cg} (h:bet a b=true) (k:bet b c=true):bet a c=true:=by
 rw [bR] at*;rcases h with h|⟨h1,h2⟩
 ·rcases k with k|⟨k1,_⟩
  ·exact .inl (by omega)
  ·exact .inl (by omega)
 ·rcases k with k|⟨k1,k2⟩
  ·exact .inl (by omega)
  ·refine .inr ⟨by omega,?_⟩;rcases h2 with h2|⟨h2,h3⟩
   ·rcases k2 with k2|⟨k2,_⟩
    ·exact .inl (by omega)
    ·exact .inl (by omega)
   ·rcases k2 with k2|⟨k2,k3⟩
    ·exact .inl (by omega)
    ·exact .inr ⟨by omega,qC8 h3 k3⟩
theorem bet_tri (a b:Cg):bet a b=true\/a=b\/bet b a=true:=by
 rw [bR,bR];rcases Int.lt_trichotomy a.2 b.2 with h|h|h
 ·exact .inr (.inr (.inl h))
 ·rcases Nat.lt_trichotomy a.1.length b.1.length with k|k|k
  ·exact .inl (.inr ⟨h,.inl k⟩)
  ·rcases qFZ k with q|q|q
   ·exact .inl (.inr ⟨h,.inr ⟨k,q⟩⟩)
   ·exact .inr (.inl (Prod.ext q h))
   ·exact .inr (.inr (.inr ⟨h.symm,.inr ⟨k.symm,q⟩⟩))
  ·exact .inr (.inr (.inr ⟨h.symm,.inl k⟩))
 ·exact .inl (.inl h)
def Ge (a b:Cg):Prop:=bet b a=false
theorem Ge.refl (a:Cg):Ge a a:=qC7 a
theorem Ge.iff {a b:Cg}:Ge a b↔bet a b=true\/a=b:=by
 constructor
 ·intro h;rcases bet_tri a b with q|q|q
  ·exact .inl q
  ·exact .inr q
  ·rw [Ge,q] at h;cases h
 ·rintro (h|rfl)
  ·rw [Ge];cases q:bet b a with
   |false=>rfl
   |true=>have:=qD6 h q;rw [qC7] at this;cases this
  ·exact Ge.refl _
theorem Ge.trans {a b c:Cg} (h:Ge a b) (k:Ge b c):Ge a c:=by
 rw [Ge.iff] at*;rcases h with h|rfl
 ·rcases k with k|rfl
  ·exact .inl (qD6 h k)
  ·exact .inl h
 ·exact k
theorem bstC_ge {c0:Cg} {l:List Cg}:Ge (vM c0 l) c0/\ ∀y∈l,Ge (vM c0 l) y:=by
 unfold vM;induction l generalizing c0 with
 |nil=>exact ⟨Ge.refl _,fun y hy=>by cases hy⟩
 |cons c l ih=>
  simp only [List.foldl_cons];obtain ⟨h1,h2⟩:=ih (c0:=if bet c c0=true then c else c0);have k1:Ge (if bet c c0=true then c else c0) c0:=by
   split
   ·rename_i q;exact Ge.iff.2 (.inl q)
   ·exact Ge.refl _
  have k2:Ge (if bet c c0=true then c else c0) c:=by
   split
   ·exact Ge.refl _
   ·rename_i q;simpa [Ge] using q
  refine ⟨h1.trans k1,fun y hy=> ?_⟩;rcases xZW.1 hy with rfl|hy
  ·exact h1.trans k2
  ·exact h2 y hy
theorem qF0: ∀(p:List (Int×Int×Int)) {l m:List (Int×Int×Int)},yQ (p++l) (p++m)=yQ l m
 |[],_,_=>rfl
 |a::p,l,m=>by
  rw [xZT,xZT,yQ,if_pos rfl];exact qF0 p
theorem Ge.pre (p:List (Int×Int×Int)) (v:Int) {a b:Cg} (h:Ge a b):Ge (p++a.1,v+a.2) (p++b.1,v+b.2):=by
 rw [Ge,Bool.eq_false_iff] at*;intro k;apply h
 rw [bR] at*;simp only [List.length_append,qF0] at k;rcases k with k|⟨k1,k|⟨k2,k3⟩⟩
 ·exact .inl (by omega)
 ·exact .inr ⟨by omega,.inl (by omega)⟩
 ·exact .inr ⟨by omega,.inr ⟨by omega,k3⟩⟩
def Wk.V (w:Wk) (G:Th.Grid):List (Int×Int×Int)->Int
 |[]=>0
 |s::l=>w.lv G s+Wk.V w G l
theorem qCp (x:Int) (l:List Int): ∀k,kM (x::l) (k+1)=x+kM l k
 |0=>by simp [kM]
 |k+1=>by
  rw [kM,qCp x l k,kM];simp only [List.getD_cons_succ];omega
theorem Wk.Is.blk {w:Wk} (his:w.Is) {s:Int×Int×Int} (h1:w.isT s=true) (h2:w.pcan s=true): ∃(r0 c0 q n:Nat) (th wo:Int),s=((r0:Int),(c0:Int),(q:Int))/\Tub w q n th wo/\r0+n<=w.m.cells.length/\c0+n<=w.m.W/\q<w.ts.length:=by
 obtain ⟨q,n,th,wo,hq,ht⟩:=his.tub' h1;obtain ⟨a,b,c⟩:=s;simp only at hq;subst hq;obtain ⟨r0,c0,rfl,rfl,h3,h4⟩:=Wk.pcan_in ht h2;exact ⟨r0,c0,q,n,th,wo,rfl,ht,h3,h4,(xZX.1 ht.at_).1⟩
structure Wk.CutL (w:Wk) (lo:Nat) (ls:List (Int×Int×Int)):Prop where
 all: ∀s∈ls,w.isT s=true/\w.pcan s=true/\(lo:Int)<=s.1
 pw:ls.Pairwise fun a b=>w.apt a b=true
theorem Wk.CutL.of {w:Wk} (his:w.Is) {ls:List (Int×Int×Int)} (h:w.cut ls=true):w.CutL 0 ls:=by
 refine ⟨fun s hs=> ?_,?_⟩
 ·obtain ⟨i,hi⟩:=List.mem_iff_getElem?.1 hs;obtain ⟨h1,h2,_⟩:=qEm hi (cut_at h (xZX.1 hi).1);obtain ⟨r0,c0,q,n,th,wo,rfl,_⟩:=his.blk h1 h2;exact ⟨h1,h2,by simp only;omega⟩
 ·rw [xZY];intro i j hi hj hij;obtain ⟨_,_,h3⟩:=qEm (xZZ hj) (cut_at h hj);have:=h3 i hij;rw [xV (xZZ hi)] at this;exact this
theorem Wk.CutL.cut {w:Wk} {lo:Nat} {ls:List (Int×Int×Int)} (h:w.CutL lo ls):w.cut ls=true:=by
 refine cut_yes fun i hi=> ?_;obtain ⟨h1,h2,_⟩:=h.all _ (List.getElem_mem hi);refine qFt (xZZ hi) h1 h2 fun k hk=> ?_;rw [xV (xZZ (by omega:k<ls.length))];exact xZY.1 h.pw k i (by omega) hi hk
structure Wk.Strip (w:Wk) (row wd lo:Nat) (ls:List (Int×Int×Int)):Prop where
 all: ∀s∈ls,w.isT s=true/\w.sel wd s=true/\s.1=(row:Int)/\(lo:Int)<=s.2.1
 pw:ls.Pairwise fun a b=>a.2.1+(wd:Int)<=b.2.1
theorem Wk.split {w:Wk} {s:Int×Int×Int} {wd:Nat} (hw:(w.tb s.2.2.toNat).1=(wd:Int)) (hpos: ∀b:Int×Int×Int,w.isT b=true->1<=(w.tb b.2.2.toNat).1): ∀T:List (Int×Int×Int),(∀b∈T,w.isT b=true)->(∀b∈T,w.apt s b=true)->(T.Pairwise fun a b=>w.apt a b=true)-> ∃S Y,T=S++Y/\(∀b∈S,b.1=s.1/\(w.tb b.2.2.toNat).1=(wd:Int))/\ ∀b∈Y,s.1+(wd:Int)<=b.1
 |[],_,_,_=>⟨[],[],rfl,fun _ h=>(by cases h),fun _ h=>(by cases h)⟩
 |b::T,hT,ha,hp=>by
  have hb:=ha b xZU;obtain ⟨p1,p2⟩:=List.pairwise_cons.1 hp;by_cases e:s.1=b.1
  ·obtain ⟨S,Y,e1,e2,e3⟩:=Wk.split hw hpos T (fun x hx=>hT x (xZV _ hx)) (fun x hx=>ha x (xZV _ hx)) p2;refine ⟨b::S,Y,by rw [e1];rfl,fun x hx=> ?_,e3⟩;rcases xZW.1 hx with rfl|hx
   ·rw [Wk.apt,if_pos e,Bool.and_eq_true,decide_eq_true_eq] at hb;exact ⟨e.symm,by rw [<-hb.1,hw]⟩
   ·exact e2 x hx
  ·refine ⟨[],b::T,rfl,fun _ h=>(by cases h),fun x hx=> ?_⟩;rw [Wk.apt,if_neg e,decide_eq_true_eq,hw] at hb;rcases xZW.1 hx with rfl|hx
   ·exact hb
   ·have:=p1 x hx;have hp:=hpos b (hT b xZU);rw [Wk.apt] at this;split at this
    ·omega
    ·rw [decide_eq_true_eq] at this;omega
end Go.Proofs.Kn
namespace Go.Proofs.Kn
open Go Go.Ev
end Go.Proofs.Kn
namespace Go.Proofs.Kn
open Go Go.Ev
set_option maxRecDepth 100000
set_option maxHeartbeats 4000000
set_option maxHeartbeats 4000000
set_option maxHeartbeats 4000000
theorem zH {E:Env} {r:Option Nat} {b:Code} {tm:T AV} {nt:Nat} {h:Hp} {mks:List Nat} {Q:Ex->St->Prop} (P:T AV->Prop) (hp:P tm) (hw: ∀tm,P tm->wpc E r b ⟨tm,nt,h,mks⟩ Q):wpc E r b ⟨tm,nt,h,mks⟩ Q:=hw tm hp
end Go.Proofs.Kn
