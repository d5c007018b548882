/- MvV1, MvV2, MvX1, MvV3, MvX2, MvX3: texts in a row, joined by a program. -/
import Derived.Test.YtnmfblokfponlaaGreatDoorQY6
import Derived.Test.YtnmfblokfponlaaGreatDoorQY7
import Derived.Test.YtnmfblokfponlaaGreatDoorQO1
import Derived.Test.YtnmfblokfponlaaGreatDoorQY8
import Derived.Test.YtnmfblokfponlaaGreatDoorQU
set_option linter.all false
open List renaming getElem?_eq_getElem → xZZ, getElem?_eq_some_iff → xZY, cons_append → xZX, pairwise_iff_getElem → xZW, mem_cons_of_mem → xZV, mem_cons_self → xZU
namespace Go.Proofs.Kn
open Go Go.Ev
def B3 (a b:Int×Int×Int):Prop:=a.1<b.1\/(a.1=b.1/\(a.2.1<b.2.1\/(a.2.1=b.2.1/\a.2.2<b.2.2)))
theorem bef_B3 {a b:Int×Int×Int}:bef a b<0↔B3 a b:=by
 rw [bef_neg,B3];by_cases e1:a.1=b.1
 ·by_cases e2:a.2.1=b.2.1
  ·simp [e1,e2]
  ·simp [e1,e2]
 ·simp [e1]
theorem B3.trans {a b c:Int×Int×Int} (h:B3 a b) (k:B3 b c):B3 a c:=by
 unfold B3 at*;omega
theorem B3.irrefl (a:Int×Int×Int): ¬B3 a a:=by unfold B3;omega
theorem B3.tri (a b:Int×Int×Int):B3 a b\/a=b\/B3 b a:=by
 obtain ⟨a1,a2,a3⟩:=a;obtain ⟨b1,b2,b3⟩:=b;unfold B3;simp only [Prod.mk.injEq];omega
theorem qAj {a b:Int×Int×Int} {l m:List (Int×Int×Int)}:xK (a::l) (b::m)=true↔B3 a b\/(a=b/\xK l m=true):=by
 rw [xK];by_cases e:a=b
 ·subst e;rw [if_pos rfl];exact ⟨fun h=> .inr ⟨rfl,h⟩,fun h=>by rcases h with h|h;exact absurd h (B3.irrefl _);exact h.2⟩
 ·rw [if_neg e,decide_eq_true_eq,bef_B3];exact ⟨.inl,fun h=>by rcases h with h|h;exact h;exact absurd h.1 e⟩
theorem qAF: ∀l:List (Int×Int×Int),xK l l=false
 |[]=>rfl
 |a::l=>by rw [xK,if_pos rfl];exact qAF l
theorem qBL: ∀{l m n:List (Int×Int×Int)},xK l m=true->xK m n=true->xK l n=true
 |[],_,_,h,_=>by simp [xK] at h
 |_::_,[],_,h,_=>by simp [xK] at h
 |_::_,_::_,[],_,h=>by simp [xK] at h
 |a::l,b::m,c::n,h,k=>by
  rw [qAj] at h k ⊢;rcases h with h|⟨rfl,h⟩
  ·rcases k with k|⟨rfl,k⟩
   ·exact .inl (h.trans k)
   ·exact .inl h
  ·rcases k with k|⟨rfl,k⟩
   ·exact .inl k
   ·exact .inr ⟨rfl,qBL h k⟩
theorem qD5: ∀{l m:List (Int×Int×Int)},l.length=m.length->xK l m=true\/l=m\/xK m l=true
 |[],[],_=> .inr (.inl rfl)
 |[],_::_,h=>by simp at h
 |_::_,[],h=>by simp at h
 |a::l,b::m,h=>by
  rw [qAj,qAj];rcases B3.tri a b with q|rfl|q
  ·exact .inl (.inl q)
  ·rcases qD5 (l:=l) (m:=m) (by simpa using h) with q|rfl|q
   ·exact .inl (.inr ⟨rfl,q⟩)
   ·exact .inr (.inl rfl)
   ·exact .inr (.inr (.inr ⟨rfl,q⟩))
  ·exact .inr (.inr (.inl q))
theorem bJ {a b:Cg}:bet a b=true↔b.2<a.2\/(a.2=b.2/\(a.1.length<b.1.length\/(a.1.length=b.1.length/\xK a.1 b.1=true))):=by
 rw [bet_eq];by_cases e1:a.2=b.2
 ·by_cases e2:a.1.length=b.1.length
  ·simp [e1,e2]
  ·simp [e1,e2]
 ·simp [e1]
theorem qBK (a:Cg):bet a a=false:=by
 cases h:bet a a with
 |false=>rfl
 |true=>
  rw [bJ,qAF] at h;simp at h
theorem qCv {a b c:Cg} (h:bet a b=true) (k:bet b c=true):bet a c=true:=by
 rw [bJ] at*;rcases h with h|⟨h1,h2⟩
 ·rcases k with k|⟨k1,_⟩
  ·exact .inl (by omega)
  ·exact .inl (by omega)
 ·rcases k with k|⟨k1,k2⟩
  ·exact .inl (by omega)
  ·refine .inr ⟨by omega,?_⟩;rcases h2 with h2|⟨h2,h3⟩
   ·rcases k2 with k2|⟨k2,_⟩
    ·exact .inl (by omega)
    ·exact .inl (by omega)
   ·rcases k2 with k2|⟨k2,k3⟩
    ·exact .inl (by omega)
    ·exact .inr ⟨by omega,qBL h3 k3⟩
theorem bet_tri (a b:Cg):bet a b=true\/a=b\/bet b a=true:=by
 rw [bJ,bJ];rcases Int.lt_trichotomy a.2 b.2 with h|h|h
 ·exact .inr (.inr (.inl h))
 ·rcases Nat.lt_trichotomy a.1.length b.1.length with k|k|k
  ·exact .inl (.inr ⟨h,.inl k⟩)
  ·rcases qD5 k with q|q|q
   ·exact .inl (.inr ⟨h,.inr ⟨k,q⟩⟩)
   ·exact .inr (.inl (Prod.ext q h))
   ·exact .inr (.inr (.inr ⟨h.symm,.inr ⟨k.symm,q⟩⟩))
  ·exact .inr (.inr (.inr ⟨h.symm,.inl k⟩))
 ·exact .inl (.inl h)
def Ge (a b:Cg):Prop:=bet b a=false
theorem Ge.refl (a:Cg):Ge a a:=qBK a
theorem Ge.iff {a b:Cg}:Ge a b↔bet a b=true\/a=b:=by
 constructor
 ·intro h;rcases bet_tri a b with q|q|q
  ·exact .inl q
  ·exact .inr q
  ·rw [Ge,q] at h;cases h
 ·rintro (h|rfl)
  ·rw [Ge];cases q:bet b a with
   |false=>rfl
   |true=>have:=qCv h q;rw [qBK] at this;cases this
  ·exact Ge.refl _
theorem Ge.trans {a b c:Cg} (h:Ge a b) (k:Ge b c):Ge a c:=by
 rw [Ge.iff] at*;rcases h with h|rfl
 ·rcases k with k|rfl
  ·exact .inl (qCv h k)
  ·exact .inl h
 ·exact k
theorem qD6: ∀(p:List (Int×Int×Int)) {l m:List (Int×Int×Int)},xK (p++l) (p++m)=xK l m
 |[],_,_=>rfl
 |a::p,l,m=>by
  rw [xZX,xZX,xK,if_pos rfl];exact qD6 p
theorem Ge.pre (p:List (Int×Int×Int)) (v:Int) {a b:Cg} (h:Ge a b):Ge (p++a.1,v+a.2) (p++b.1,v+b.2):=by
 rw [Ge,Bool.eq_false_iff] at*;intro k;apply h
 rw [bJ] at*;simp only [List.length_append,qD6] at k;rcases k with k|⟨k1,k|⟨k2,k3⟩⟩
 ·exact .inl (by omega)
 ·exact .inr ⟨by omega,.inl (by omega)⟩
 ·exact .inr ⟨by omega,.inr ⟨by omega,k3⟩⟩
end Go.Proofs.Kn
namespace Go.Proofs.Kn
open Go Go.Ev
def Wk.V (w:Wk) (G:Th.Grid):List (Int×Int×Int)->Int
 |[]=>0
 |s::l=>w.lv G s+Wk.V w G l
theorem Wk.V_app (w:Wk) (G:Th.Grid): ∀l m:List (Int×Int×Int),w.V G (l++m)=w.V G l+w.V G m
 |[],m=>by simp [Wk.V]
 |s::l,m=>by rw [xZX,Wk.V,Wk.V,Wk.V_app w G l m];omega
theorem pN (x:Int) (l:List Int): ∀k,vK (x::l) (k+1)=x+vK l k
 |0=>by simp [vK]
 |k+1=>by
  rw [vK,pN x l k,vK];simp only [List.getD_cons_succ];omega
theorem Wk.V_worth (w:Wk) (G:Th.Grid): ∀ls:List (Int×Int×Int),w.worth (w.give (gLo G)) ls=w.V G ls
 |[]=>rfl
 |s::l=>by
  have ih:=Wk.V_worth w G l;rw [Wk.worth] at ih ⊢;rw [Wk.vals,List.map_cons,List.length_cons,pN,Wk.V,<-ih];rfl
theorem Wk.Is.blk {w:Wk} (his:w.Is) {s:Int×Int×Int} (h1:w.isT s=true) (h2:w.pcan s=true): ∃(r0 c0 q n:Nat) (th wo:Int),s=((r0:Int),(c0:Int),(q:Int))/\Tub w q n th wo/\r0+n<=w.m.cells.length/\c0+n<=w.m.W/\q<w.ts.length:=by
 obtain ⟨q,n,th,wo,hq,ht⟩:=his.tub' h1;obtain ⟨a,b,c⟩:=s;simp only at hq;subst hq;obtain ⟨r0,c0,rfl,rfl,h3,h4⟩:=Wk.pcan_in ht h2;exact ⟨r0,c0,q,n,th,wo,rfl,ht,h3,h4,(xZY.1 ht.at_).1⟩
structure Wk.CutL (w:Wk) (lo:Nat) (ls:List (Int×Int×Int)):Prop where
 all: ∀s∈ls,w.isT s=true/\w.pcan s=true/\(lo:Int)<=s.1
 pw:ls.Pairwise fun a b=>w.apt a b=true
theorem Wk.CutL.of {w:Wk} (his:w.Is) {ls:List (Int×Int×Int)} (h:w.cut ls=true):w.CutL 0 ls:=by
 refine ⟨fun s hs=> ?_,?_⟩
 ·obtain ⟨i,hi⟩:=List.mem_iff_getElem?.1 hs;obtain ⟨h1,h2,_⟩:=qAV hi (qC8 h (xZY.1 hi).1);obtain ⟨r0,c0,q,n,th,wo,rfl,_⟩:=his.blk h1 h2;exact ⟨h1,h2,by simp only;omega⟩
 ·rw [xZW];intro i j hi hj hij;obtain ⟨_,_,h3⟩:=qAV (xZZ hj) (qC8 h hj);have:=h3 i hij;rw [vH (xZZ hi)] at this;exact this
theorem Wk.CutL.cut {w:Wk} {lo:Nat} {ls:List (Int×Int×Int)} (h:w.CutL lo ls):w.cut ls=true:=by
 refine qC7 fun i hi=> ?_;obtain ⟨h1,h2,_⟩:=h.all _ (List.getElem_mem hi);refine qBo (xZZ hi) h1 h2 fun k hk=> ?_;rw [vH (xZZ (by omega:k<ls.length))];exact xZW.1 h.pw k i (by omega) hi hk
structure Wk.Strip (w:Wk) (row wd lo:Nat) (ls:List (Int×Int×Int)):Prop where
 all: ∀s∈ls,w.isT s=true/\w.sel wd s=true/\s.1=(row:Int)/\(lo:Int)<=s.2.1
 pw:ls.Pairwise fun a b=>a.2.1+(wd:Int)<=b.2.1
theorem Wk.split {w:Wk} {s:Int×Int×Int} {wd:Nat} (hw:(w.tb s.2.2.toNat).1=(wd:Int)) (hpos: ∀b:Int×Int×Int,w.isT b=true->1<=(w.tb b.2.2.toNat).1): ∀T:List (Int×Int×Int),(∀b∈T,w.isT b=true)->(∀b∈T,w.apt s b=true)->(T.Pairwise fun a b=>w.apt a b=true)-> ∃S Y,T=S++Y/\(∀b∈S,b.1=s.1/\(w.tb b.2.2.toNat).1=(wd:Int))/\ ∀b∈Y,s.1+(wd:Int)<=b.1
 |[],_,_,_=>⟨[],[],rfl,fun _ h=>(by cases h),fun _ h=>(by cases h)⟩
 |b::T,hT,ha,hp=>by
  have hb:=ha b xZU;obtain ⟨p1,p2⟩:=List.pairwise_cons.1 hp;by_cases e:s.1=b.1
  ·obtain ⟨S,Y,e1,e2,e3⟩:=Wk.split hw hpos T (fun x hx=>hT x (xZV _ hx)) (fun x hx=>ha x (xZV _ hx)) p2;refine ⟨b::S,Y,by rw [e1];rfl,fun x hx=> ?_,e3⟩;rcases List.mem_cons.1 hx with rfl|hx
   ·rw [Wk.apt,if_pos e,Bool.and_eq_true,decide_eq_true_eq] at hb;exact ⟨e.symm,by rw [<-hb.1,hw]⟩
   ·exact e2 x hx
  ·refine ⟨[],b::T,rfl,fun _ h=>(by cases h),fun x hx=> ?_⟩;rw [Wk.apt,if_neg e,decide_eq_true_eq,hw] at hb;rcases List.mem_cons.1 hx with rfl|hx
   ·exact hb
   ·have:=p1 x hx;have hp:=hpos b (hT b xZU);rw [Wk.apt] at this;split at this
    ·omega
    ·rw [decide_eq_true_eq] at this;omega
end Go.Proofs.Kn
namespace Go.Proofs.Kn
open Go Go.Ev
end Go.Proofs.Kn
namespace Go.Proofs.Kn
open Go Go.Ev
set_option maxRecDepth 100000
set_option maxHeartbeats 4000000
end Go.Proofs.Kn
namespace Go.Proofs.Kn
open Go Go.Ev
set_option maxRecDepth 100000
set_option maxHeartbeats 4000000
theorem row_srcX {xt:Addr->Option Value} {h:Hp} {sz:Nat} {v:AV} {cs:List (List Value)} (r:RowAt xt h sz v cs) (ho: ∀c∈cs,∀u∈c,u.oneCell'=true):xL xt h sz v=some (cs.length,cs.flatten.map .val):=by
 have hall:cs.flatten.all Value.oneCell'=true:=by
  rw [List.all_eq_true];intro x hx;obtain ⟨c,hc,huc⟩:=List.mem_flatten.1 hx;exact ho c hc x huc
 by_cases hi:Inn v
 ·exact row_src r hi fun c hc u hu=>by have:=ho c hc u hu;exact this
 ·obtain ⟨h1,h2,h3⟩:=r;rcases h3 with ⟨rfl,rfl⟩|⟨ad,cap,rfl,hx⟩|⟨b,off,av,e',rfl,_⟩
  ·rfl
  ·have hfl:=gT cs h1;have hex:=xD (xt:=xt) (ad:=ad) (cs.length*sz) 0 cs.flatten hfl (fun p u hp=>by
    have hp':p<cs.length*sz:=by rw [<-hfl];exact (xZY.1 hp).1
    have hi:p / sz<cs.length:=(Nat.div_lt_iff_lt_mul h2).2 hp';have hj:p % sz<sz:=Nat.mod_lt _ h2;have ep:p / sz*sz+p % sz=p:=by rw [Nat.mul_comm];exact Nat.div_add_mod p sz
    obtain ⟨c,hc⟩: ∃c,cs[p / sz]? =some c:=⟨_,xZZ hi⟩;have hcl:=h1 c (List.mem_of_getElem? hc);obtain ⟨u',hu⟩: ∃u,c[p % sz]? =some u:=⟨_,xZZ (by omega)⟩;have e1:=hx _ _ hc _ _ hu;have e2:=uZ cs _ _ _ _ h1 hc hu;rw [ep] at e1 e2;rw [hp] at e2;cases e2;rw [Nat.zero_add];exact e1)
   simp only [xL,hex,hall,cond_true]
  ·exact absurd (fun _ _ _ h=>by cases h) hi
end Go.Proofs.Kn
namespace Go.Proofs.Kn
open Go Go.Ev
set_option maxRecDepth 100000
set_option maxHeartbeats 4000000
theorem bR {E:Env} {r:Option Nat} {b:Code} {tm:T AV} {nt:Nat} {h:Hp} {mks:List Nat} {Q:Ex->St->Prop} (P:T AV->Prop) (hp:P tm) (hw: ∀tm,P tm->wpc E r b ⟨tm,nt,h,mks⟩ Q):wpc E r b ⟨tm,nt,h,mks⟩ Q:=hw tm hp
end Go.Proofs.Kn
