/- MvV1, MvV2, MvV3: texts in a row, joined by a program. -/
import Derived.Test.YtnmfblokfponlaaGreatDoorQY6
import Derived.Test.YtnmfblokfponlaaGreatDoorQY7
import Derived.Test.YtnmfblokfponlaaGreatDoorQY8
set_option linter.all false
open List renaming mem_cons_of_mem → xZZ, mem_cons_self → xZY, mem_cons → xZX, getElem?_eq_getElem → xZW, pairwise_cons → xZV, cons_append → xZU, mem_append → xZT, mem_map → xZS, mem_filter → xZP, pairwise_append → xZN, pairwise_iff_getElem → xZL, getElem?_eq_some_iff → xZK, length_append → xZJ
open Int renaming toNat_natCast → xZR
open Bool renaming and_eq_true → xZQ, eq_false_iff → xZI
open Nat renaming strongRecOn → xZO, le_refl → xZM
namespace Go.Proofs.Kn
open Go Go.Ev
def B3 (a b:Int×Int×Int):Prop:=a.1<b.1\/(a.1=b.1/\(a.2.1<b.2.1\/(a.2.1=b.2.1/\a.2.2<b.2.2)))
theorem bef_B3 {a b:Int×Int×Int}:bef a b<0↔B3 a b:=by
 rw [bef_neg,B3];by_cases e1:a.1=b.1
 ·by_cases e2:a.2.1=b.2.1
  ·simp [e1,e2]
  ·simp [e1,e2]
 ·simp [e1]
theorem B3.trans {a b c:Int×Int×Int} (h:B3 a b) (k:B3 b c):B3 a c:=by
 unfold B3 at*;omega
theorem B3.irrefl (a:Int×Int×Int): ¬B3 a a:=by unfold B3;omega
theorem B3.tri (a b:Int×Int×Int):B3 a b\/a=b\/B3 b a:=by
 obtain ⟨a1,a2,a3⟩:=a;obtain ⟨b1,b2,b3⟩:=b;unfold B3;simp only [Prod.mk.injEq];omega
theorem qAs {a b:Int×Int×Int} {l m:List (Int×Int×Int)}:yE (a::l) (b::m)=true↔B3 a b\/(a=b/\yE l m=true):=by
 rw [yE];by_cases e:a=b
 ·subst e;rw [if_pos rfl];exact ⟨fun h=> .inr ⟨rfl,h⟩,fun h=>by rcases h with h|h;exact absurd h (B3.irrefl _);exact h.2⟩
 ·rw [if_neg e,decide_eq_true_eq,bef_B3];exact ⟨.inl,fun h=>by rcases h with h|h;exact h;exact absurd h.1 e⟩
theorem wP: ∀l:List (Int×Int×Int),yE l l=false
 |[]=>rfl
 |a::l=>by rw [yE,if_pos rfl];exact wP l
theorem qBT: ∀{l m n:List (Int×Int×Int)},yE l m=true->yE m n=true->yE l n=true
 |[],_,_,h,_=>by simp [yE] at h
 |_::_,[],_,h,_=>by simp [yE] at h
 |_::_,_::_,[],_,h=>by simp [yE] at h
 |a::l,b::m,c::n,h,k=>by
  rw [qAs] at h k ⊢;rcases h with h|⟨rfl,h⟩
  ·rcases k with k|⟨rfl,k⟩
   ·exact .inl (h.trans k)
   ·exact .inl h
  ·rcases k with k|⟨rfl,k⟩
   ·exact .inl k
   ·exact .inr ⟨rfl,qBT h k⟩
theorem qEf: ∀{l m:List (Int×Int×Int)},l.length=m.length->yE l m=true\/l=m\/yE m l=true
 |[],[],_=> .inr (.inl rfl)
 |[],_::_,h=>by simp at h
 |_::_,[],h=>by simp at h
 |a::l,b::m,h=>by
  rw [qAs,qAs];rcases B3.tri a b with q|rfl|q
  ·exact .inl (.inl q)
  ·rcases qEf (l:=l) (m:=m) (by simpa using h) with q|rfl|q
   ·exact .inl (.inr ⟨rfl,q⟩)
   ·exact .inr (.inl rfl)
   ·exact .inr (.inr (.inr ⟨rfl,q⟩))
  ·exact .inr (.inr (.inl q))
theorem uP {a b:Cg}:bet a b=true↔b.2<a.2\/(a.2=b.2/\(a.1.length<b.1.length\/(a.1.length=b.1.length/\yE a.1 b.1=true))):=by
 rw [bet_eq];by_cases e1:a.2=b.2
 ·by_cases e2:a.1.length=b.1.length
  ·simp [e1,e2]
  ·simp [e1,e2]
 ·simp [e1]
theorem qBS (a:Cg):bet a a=false:=by
 cases h:bet a a with
 |false=>rfl
 |true=>
  rw [uP,wP] at h;simp at h
theorem qCE {a b c:Cg} (h:bet a b=true) (k:bet b c=true):bet a c=true:=by
 rw [uP] at*;rcases h with h|⟨h1,h2⟩
 ·rcases k with k|⟨k1,_⟩
  ·exact .inl (by omega)
  ·exact .inl (by omega)
 ·rcases k with k|⟨k1,k2⟩
  ·exact .inl (by omega)
  ·refine .inr ⟨by omega,?_⟩;rcases h2 with h2|⟨h2,h3⟩
   ·rcases k2 with k2|⟨k2,_⟩
    ·exact .inl (by omega)
    ·exact .inl (by omega)
   ·rcases k2 with k2|⟨k2,k3⟩
    ·exact .inl (by omega)
    ·exact .inr ⟨by omega,qBT h3 k3⟩
theorem bet_tri (a b:Cg):bet a b=true\/a=b\/bet b a=true:=by
 rw [uP,uP];rcases Int.lt_trichotomy a.2 b.2 with h|h|h
 ·exact .inr (.inr (.inl h))
 ·rcases Nat.lt_trichotomy a.1.length b.1.length with k|k|k
  ·exact .inl (.inr ⟨h,.inl k⟩)
  ·rcases qEf k with q|q|q
   ·exact .inl (.inr ⟨h,.inr ⟨k,q⟩⟩)
   ·exact .inr (.inl (Prod.ext q h))
   ·exact .inr (.inr (.inr ⟨h.symm,.inr ⟨k.symm,q⟩⟩))
  ·exact .inr (.inr (.inr ⟨h.symm,.inl k⟩))
 ·exact .inl (.inl h)
def Ge (a b:Cg):Prop:=bet b a=false
theorem Ge.refl (a:Cg):Ge a a:=qBS a
theorem Ge.iff {a b:Cg}:Ge a b↔bet a b=true\/a=b:=by
 constructor
 ·intro h;rcases bet_tri a b with q|q|q
  ·exact .inl q
  ·exact .inr q
  ·rw [Ge,q] at h;cases h
 ·rintro (h|rfl)
  ·rw [Ge];cases q:bet b a with
   |false=>rfl
   |true=>have:=qCE h q;rw [qBS] at this;cases this
  ·exact Ge.refl _
theorem Ge.trans {a b c:Cg} (h:Ge a b) (k:Ge b c):Ge a c:=by
 rw [Ge.iff] at*;rcases h with h|rfl
 ·rcases k with k|rfl
  ·exact .inl (qCE h k)
  ·exact .inl h
 ·exact k
theorem qBb {c0:Cg} {l:List Cg}:Ge (qAV c0 l) c0/\ ∀y∈l,Ge (qAV c0 l) y:=by
 unfold qAV;induction l generalizing c0 with
 |nil=>exact ⟨Ge.refl _,fun y hy=>by cases hy⟩
 |cons c l ih=>
  simp only [List.foldl_cons];obtain ⟨h1,h2⟩:=ih (c0:=if bet c c0=true then c else c0);have k1:Ge (if bet c c0=true then c else c0) c0:=by
   split
   ·rename_i q;exact Ge.iff.2 (.inl q)
   ·exact Ge.refl _
  have k2:Ge (if bet c c0=true then c else c0) c:=by
   split
   ·exact Ge.refl _
   ·rename_i q;simpa [Ge] using q
  refine ⟨h1.trans k1,fun y hy=> ?_⟩;rcases xZX.1 hy with rfl|hy
  ·exact h1.trans k2
  ·exact h2 y hy
theorem qEh: ∀(p:List (Int×Int×Int)) {l m:List (Int×Int×Int)},yE (p++l) (p++m)=yE l m
 |[],_,_=>rfl
 |a::p,l,m=>by
  rw [xZU,xZU,yE,if_pos rfl];exact qEh p
theorem qEg: ∀{l m:List (Int×Int×Int)} (z:List (Int×Int×Int)),l.length=m.length->yE (l++z) (m++z)=yE l m
 |[],[],z,_=>wP z
 |[],_::_,_,h=>by simp at h
 |_::_,[],_,h=>by simp at h
 |a::l,b::m,z,h=>by
  rw [xZU,xZU,yE,yE];split
  ·exact qEg z (by simpa using h)
  ·rfl
theorem Ge.pre (p:List (Int×Int×Int)) (v:Int) {a b:Cg} (h:Ge a b):Ge (p++a.1,v+a.2) (p++b.1,v+b.2):=by
 rw [Ge,xZI] at*;intro k;apply h
 rw [uP] at*;simp only [xZJ,qEh] at k;rcases k with k|⟨k1,k|⟨k2,k3⟩⟩
 ·exact .inl (by omega)
 ·exact .inr ⟨by omega,.inl (by omega)⟩
 ·exact .inr ⟨by omega,.inr ⟨by omega,k3⟩⟩
theorem Ge.suf (z:List (Int×Int×Int)) (v:Int) {a b:Cg} (h:Ge a b):Ge (a.1++z,a.2+v) (b.1++z,b.2+v):=by
 rw [Ge,xZI] at*;intro k;apply h
 rw [uP] at*;simp only [xZJ] at k;rcases k with k|⟨k1,k|⟨k2,k3⟩⟩
 ·exact .inl (by omega)
 ·exact .inr ⟨by omega,.inl (by omega)⟩
 ·refine .inr ⟨by omega,.inr ⟨by omega,?_⟩⟩;rw [qEg z (by omega)] at k3;exact k3
end Go.Proofs.Kn
namespace Go.Proofs.Kn
open Go Go.Ev
def Wk.V (w:Wk) (G:Th.Grid):List (Int×Int×Int)->Int
 |[]=>0
 |s::l=>w.lv G s+Wk.V w G l
theorem Wk.V_app (w:Wk) (G:Th.Grid): ∀l m:List (Int×Int×Int),w.V G (l++m)=w.V G l+w.V G m
 |[],m=>by simp [Wk.V]
 |s::l,m=>by rw [xZU,Wk.V,Wk.V,Wk.V_app w G l m];omega
theorem qBi (x:Int) (l:List Int): ∀k,qBj (x::l) (k+1)=x+qBj l k
 |0=>by simp [qBj]
 |k+1=>by
  rw [qBj,qBi x l k,qBj];simp only [List.getD_cons_succ];omega
theorem Wk.V_worth (w:Wk) (G:Th.Grid): ∀ls:List (Int×Int×Int),w.worth (w.give (gLo G)) ls=w.V G ls
 |[]=>rfl
 |s::l=>by
  have ih:=Wk.V_worth w G l;rw [Wk.worth] at ih ⊢;rw [Wk.vals,List.map_cons,List.length_cons,qBi,Wk.V,<-ih];rfl
theorem Wk.Is.blk {w:Wk} (his:w.Is) {s:Int×Int×Int} (h1:w.isT s=true) (h2:w.pcan s=true): ∃(r0 c0 q n:Nat) (th wo:Int),s=((r0:Int),(c0:Int),(q:Int))/\Tub w q n th wo/\r0+n<=w.m.cells.length/\c0+n<=w.m.W/\q<w.ts.length:=by
 obtain ⟨q,n,th,wo,hq,ht⟩:=his.tub' h1;obtain ⟨a,b,c⟩:=s;simp only at hq;subst hq;obtain ⟨r0,c0,rfl,rfl,h3,h4⟩:=Wk.pcan_in ht h2;exact ⟨r0,c0,q,n,th,wo,rfl,ht,h3,h4,(xZK.1 ht.at_).1⟩
structure Wk.CutL (w:Wk) (lo:Nat) (ls:List (Int×Int×Int)):Prop where
 all: ∀s∈ls,w.isT s=true/\w.pcan s=true/\(lo:Int)<=s.1
 pw:ls.Pairwise fun a b=>w.apt a b=true
theorem Wk.CutL.of {w:Wk} (his:w.Is) {ls:List (Int×Int×Int)} (h:w.cut ls=true):w.CutL 0 ls:=by
 refine ⟨fun s hs=> ?_,?_⟩
 ·obtain ⟨i,hi⟩:=List.mem_iff_getElem?.1 hs;obtain ⟨h1,h2,_⟩:=one1_is hi (cut_at h (xZK.1 hi).1);obtain ⟨r0,c0,q,n,th,wo,rfl,_⟩:=his.blk h1 h2;exact ⟨h1,h2,by simp only;omega⟩
 ·rw [xZL];intro i j hi hj hij;obtain ⟨_,_,h3⟩:=one1_is (xZW hj) (cut_at h hj);have:=h3 i hij;rw [qA3 (xZW hi)] at this;exact this
theorem Wk.CutL.cut {w:Wk} {lo:Nat} {ls:List (Int×Int×Int)} (h:w.CutL lo ls):w.cut ls=true:=by
 refine cut_yes fun i hi=> ?_;obtain ⟨h1,h2,_⟩:=h.all _ (List.getElem_mem hi);refine one1_yes (xZW hi) h1 h2 fun k hk=> ?_;rw [qA3 (xZW (by omega:k<ls.length))];exact xZL.1 h.pw k i (by omega) hi hk
structure Wk.Strip (w:Wk) (row wd lo:Nat) (ls:List (Int×Int×Int)):Prop where
 all: ∀s∈ls,w.isT s=true/\w.sel wd s=true/\s.1=(row:Int)/\(lo:Int)<=s.2.1
 pw:ls.Pairwise fun a b=>a.2.1+(wd:Int)<=b.2.1
theorem Wk.sel_iff {w:Wk} {wd:Nat} {s:Int×Int×Int}:w.sel wd s=true↔(w.tb s.2.2.toNat).1=(wd:Int)/\w.pcan s=true:=by
 rw [Wk.sel,xZQ,decide_eq_true_eq]
theorem Wk.Is.band_best {w:Wk} (his:w.Is) (G:Th.Grid) (row wd:Nat): ∀m,m<=w.m.W-> ∀ls,w.Strip row wd (w.m.W - m) ls->Ge (w.bandP G row wd m) (ls,w.V G ls):=by
 intro m;induction m using xZO with
 |ind m ih=>
  intro hm ls hs;cases m with
  |zero=>
   cases ls with
   |nil=>rw [Wk.bandP_zero];exact Ge.refl _
   |cons s S=>
    exfalso;obtain ⟨a1,a2,a3,a4⟩:=hs.all s xZY;obtain ⟨r0,c0,q,n,th,wo,rfl,ht,b1,b2,_⟩:=his.blk a1 (Wk.sel_iff.1 a2).2;have:=ht.n1;simp only at a4;omega
  |succ m=>
   have g1:Ge (w.bandP G row wd (m+1)) (w.bandP G row wd m):=by rw [Wk.bandP_succ];exact qBb.1
   cases ls with
   |nil=>exact g1.trans (ih m (by omega) (by omega) [] ⟨fun _ h=>(by cases h),List.Pairwise.nil⟩)
   |cons s S=>
    obtain ⟨a1,a2,a3,a4⟩:=hs.all s xZY;obtain ⟨p1,p2⟩:=xZV.1 hs.pw;obtain ⟨a5,a6⟩:=Wk.sel_iff.1 a2;obtain ⟨r0,c0,q,n,th,wo,rfl,ht,b1,b2,b3⟩:=his.blk a1 a6;simp only [xZR,ht.tb] at a5;simp only at a3 a4 p1;obtain rfl:n=wd:=by omega
    obtain rfl:r0=row:=by omega
    have n1:=ht.n1;by_cases e:c0=w.m.W - (m+1)
    ·have k1:=ih (m - (n - 1)) (by omega) (by omega) S ⟨fun x hx=>by
      obtain ⟨c1,c2,c3,c4⟩:=hs.all x (xZZ _ hx);have:=p1 x hx;exact ⟨c1,c2,c3,by omega⟩,p2⟩
     have k2:=Ge.pre [((r0:Int),(c0:Int),(q:Int))] (w.lv G ((r0:Int),(c0:Int),(q:Int))) k1;have k3:Ge (w.bandP G r0 n (m+1)) (((r0:Int),(c0:Int),(q:Int))::(w.bandP G r0 n (m - (n - 1))).1,w.lv G ((r0:Int),(c0:Int),(q:Int))+(w.bandP G r0 n (m - (n - 1))).2):=by
      rw [Wk.bandP_succ];refine qBb.2 _ (xZZ _ (xZS.2 ⟨((r0:Int),(c0:Int),(q:Int)),xZP.2 ⟨xZS.2 ⟨q,List.mem_range.2 b3,by rw [<-e]⟩,a2⟩,rfl⟩))
     exact k3.trans k2
    ·refine g1.trans (ih m (by omega) (by omega) _ ⟨fun x hx=> ?_,hs.pw⟩);obtain ⟨c1,c2,c3,c4⟩:=hs.all x hx;refine ⟨c1,c2,c3,?_⟩;rcases xZX.1 hx with rfl|hx
     ·simp only;omega
     ·have:=p1 x hx;omega
theorem Wk.Is.band_is {w:Wk} (his:w.Is) (G:Th.Grid) (row wd:Nat): ∀m,m<=w.m.W->w.Strip row wd (w.m.W - m) (w.bandP G row wd m).1/\(w.bandP G row wd m).2=w.V G (w.bandP G row wd m).1:=by
 intro m;induction m using xZO with
 |ind m ih=>
  intro hm;cases m with
  |zero=>rw [Wk.bandP_zero];exact ⟨⟨fun _ h=>(by cases h),List.Pairwise.nil⟩,rfl⟩
  |succ m=>
   have base:w.Strip row wd (w.m.W - (m+1)) (w.bandP G row wd m).1/\(w.bandP G row wd m).2=w.V G (w.bandP G row wd m).1:=by
    obtain ⟨h1,h2⟩:=ih m (by omega) (by omega);exact ⟨⟨fun s hs=>by obtain ⟨a,b,c,d⟩:=h1.all s hs;exact ⟨a,b,c,by omega⟩,h1.pw⟩,h2⟩
   rw [Wk.bandP_succ];rcases bT (c0:=w.bandP G row wd m) (l:=w.cnd G row wd m w.ts.length) with e|e
   ·rw [e];exact base
   ·rcases xZX.1 e with e|e
    ·rw [e];exact base
    ·obtain ⟨s,hs,e⟩:=xZS.1 e;rw [<-e];obtain ⟨k,hk,rfl,hsel⟩:=Wk.selTo_mem hs;obtain ⟨b0,b1,b2,b3,b4⟩:=his.selBlk hk hsel;obtain ⟨h1,h2⟩:=ih (m - (wd - 1)) (by omega) (by omega);refine ⟨⟨fun x hx=> ?_,?_⟩,?_⟩
     ·rcases xZX.1 hx with rfl|hx
      ·refine ⟨?_,hsel,rfl,?_⟩
       ·rw [Wk.isT,kZ];simp only;omega
       ·simp only;omega
      ·obtain ⟨a,b,c,d⟩:=h1.all x hx;exact ⟨a,b,c,by omega⟩
     ·refine xZV.2 ⟨fun x hx=> ?_,h1.pw⟩;obtain ⟨a,b,c,d⟩:=h1.all x hx;simp only;omega
     ·simp only [Wk.V];omega
theorem Wk.split {w:Wk} {s:Int×Int×Int} {wd:Nat} (hw:(w.tb s.2.2.toNat).1=(wd:Int)) (hpos: ∀b:Int×Int×Int,w.isT b=true->1<=(w.tb b.2.2.toNat).1): ∀T:List (Int×Int×Int),(∀b∈T,w.isT b=true)->(∀b∈T,w.apt s b=true)->(T.Pairwise fun a b=>w.apt a b=true)-> ∃S Y,T=S++Y/\(∀b∈S,b.1=s.1/\(w.tb b.2.2.toNat).1=(wd:Int))/\ ∀b∈Y,s.1+(wd:Int)<=b.1
 |[],_,_,_=>⟨[],[],rfl,fun _ h=>(by cases h),fun _ h=>(by cases h)⟩
 |b::T,hT,ha,hp=>by
  have hb:=ha b xZY;obtain ⟨p1,p2⟩:=xZV.1 hp;by_cases e:s.1=b.1
  ·obtain ⟨S,Y,e1,e2,e3⟩:=Wk.split hw hpos T (fun x hx=>hT x (xZZ _ hx)) (fun x hx=>ha x (xZZ _ hx)) p2;refine ⟨b::S,Y,by rw [e1];rfl,fun x hx=> ?_,e3⟩;rcases xZX.1 hx with rfl|hx
   ·rw [Wk.apt,if_pos e,xZQ,decide_eq_true_eq] at hb;exact ⟨e.symm,by rw [<-hb.1,hw]⟩
   ·exact e2 x hx
  ·refine ⟨[],b::T,rfl,fun _ h=>(by cases h),fun x hx=> ?_⟩;rw [Wk.apt,if_neg e,decide_eq_true_eq,hw] at hb;rcases xZX.1 hx with rfl|hx
   ·exact hb
   ·have:=p1 x hx;have hp:=hpos b (hT b xZY);rw [Wk.apt] at this;split at this
    ·omega
    ·rw [decide_eq_true_eq] at this;omega
theorem Wk.Is.pack_best {w:Wk} (his:w.Is) (G:Th.Grid): ∀m,m<=w.m.cells.length-> ∀ls,w.CutL (w.m.cells.length - m) ls->Ge (w.packP G m) (ls,w.V G ls):=by
 intro m;induction m using xZO with
 |ind m ih=>
  intro hm ls hs;cases m with
  |zero=>
   cases ls with
   |nil=>rw [Wk.packP_zero];exact Ge.refl _
   |cons s S=>
    exfalso;obtain ⟨a1,a2,a3⟩:=hs.all s xZY;obtain ⟨r0,c0,q,n,th,wo,rfl,ht,b1,b2,_⟩:=his.blk a1 a2;have:=ht.n1;simp only at a3;omega
  |succ m=>
   have g1:Ge (w.packP G (m+1)) (w.packP G m):=by rw [Wk.packP_succ];exact qBb.1
   cases ls with
   |nil=>exact g1.trans (ih m (by omega) (by omega) [] ⟨fun _ h=>(by cases h),List.Pairwise.nil⟩)
   |cons s T=>
    obtain ⟨a1,a2,a3⟩:=hs.all s xZY;obtain ⟨p1,p2⟩:=xZV.1 hs.pw;obtain ⟨r0,c0,q,n,th,wo,rfl,ht,b1,b2,b3⟩:=his.blk a1 a2;have n1:=ht.n1;have htb:(w.tb ((r0:Int),(c0:Int),(q:Int)).2.2.toNat).1=(n:Int):=by simp [ht.tb]
    have hpos: ∀b:Int×Int×Int,w.isT b=true->1<=(w.tb b.2.2.toNat).1:=fun b hb=>by
     obtain ⟨q,n,th,wo,hq,ht⟩:=his.tub' hb;have:=ht.n1;simp only [hq,xZR,ht.tb];omega
    obtain ⟨S,Y,rfl,e2,e3⟩:=Wk.split htb hpos T (fun x hx=>(hs.all x (xZZ _ hx)).1) p1 p2;simp only at a3 e2 e3;by_cases e:r0=w.m.cells.length - (m+1)
    ·have k1:Ge (w.bandP G r0 n w.m.W) (((r0:Int),(c0:Int),(q:Int))::S,w.V G (((r0:Int),(c0:Int),(q:Int))::S)):=by
      refine his.band_best G r0 n w.m.W (xZM _) _ ⟨fun x hx=> ?_,?_⟩
      ·have hx':x∈((r0:Int),(c0:Int),(q:Int))::(S++Y):=by
        rcases xZX.1 hx with rfl|hx
        ·exact xZY
        ·exact xZZ _ (xZT.2 (.inl hx))
       obtain ⟨c1,c2,c3⟩:=hs.all x hx';obtain ⟨r1,c4,q1,n1,th1,wo1,rfl,ht1,_⟩:=his.blk c1 c2;rcases xZX.1 hx with hx|hx
       ·rw [hx];rw [hx] at c1 c2;exact ⟨c1,Wk.sel_iff.2 ⟨htb,c2⟩,rfl,by simp only;omega⟩
       ·obtain ⟨d1,d2⟩:=e2 _ hx;exact ⟨c1,Wk.sel_iff.2 ⟨d2,c2⟩,d1,by simp only;omega⟩
      ·have key: ∀a b:Int×Int×Int,a.1=(r0:Int)->b.1=(r0:Int)->(w.tb a.2.2.toNat).1=(n:Int)->w.apt a b=true->a.2.1+(n:Int)<=b.2.1:=fun a b ha hb hw h=>by
        rw [Wk.apt,if_pos (ha.trans hb.symm),xZQ,decide_eq_true_eq,decide_eq_true_eq,hw] at h;exact h.2
       refine xZV.2 ⟨fun x hx=>key _ _ rfl (e2 x hx).1 htb (p1 x (xZT.2 (.inl hx))),?_⟩;have:=(xZN.1 p2).1;exact this.imp_of_mem fun {a b} ha hb h=>key a b (e2 a ha).1 (e2 b hb).1 (e2 a ha).2 h
     have k2:Ge (w.packP G (m - (n - 1))) (Y,w.V G Y):=by
      refine ih _ (by omega) (by omega) Y ⟨fun x hx=> ?_,(xZN.1 p2).2.1⟩;obtain ⟨c1,c2,c3⟩:=hs.all x (xZZ _ (xZT.2 (.inr hx)));have:=e3 x hx;exact ⟨c1,c2,by omega⟩
     have k3:Ge (w.packP G (m+1)) ((w.bandP G r0 n w.m.W).1++(w.packP G (m - (n - 1))).1,(w.bandP G r0 n w.m.W).2+(w.packP G (m - (n - 1))).2):=by
      rw [Wk.packP_succ];refine qBb.2 _ (xZZ _ (xZS.2 ⟨(n:Int),xZP.2 ⟨?_,decide_eq_true (by omega)⟩,?_⟩))
      ·rw [List.take_length,his.ws];refine xZP.2 ⟨?_,?_⟩
       ·have:=ht.n3;rcases (by omega:n=1\/n=2\/n=3) with rfl|rfl|rfl<;>simp
       ·simp only [List.contains_iff_mem,Wk.wds];exact xZS.2 ⟨_,List.mem_of_getElem? ht.at_,rfl⟩
      ·simp only [Wk.pone,xZR,<-e]
     have k4:=Ge.suf (w.packP G (m - (n - 1))).1 (w.packP G (m - (n - 1))).2 k1;have k5:=Ge.pre (((r0:Int),(c0:Int),(q:Int))::S) (w.V G (((r0:Int),(c0:Int),(q:Int))::S)) k2;have k6:=k3.trans (k4.trans k5);rw [<-Wk.V_app] at k6;exact k6
    ·refine g1.trans (ih m (by omega) (by omega) _ ⟨fun x hx=> ?_,hs.pw⟩);obtain ⟨c1,c2,c3⟩:=hs.all x hx;refine ⟨c1,c2,?_⟩;rcases xZX.1 hx with rfl|hx
     ·simp only;omega
     ·rcases xZT.1 hx with hx|hx
      ·have:=(e2 x hx).1;omega
      ·have:=e3 x hx;omega
theorem Wk.Is.pack_cut {w:Wk} (his:w.Is) (G:Th.Grid): ∀m,m<=w.m.cells.length->w.CutL (w.m.cells.length - m) (w.packP G m).1/\(w.packP G m).2=w.V G (w.packP G m).1:=by
 intro m;induction m using xZO with
 |ind m ih=>
  intro hm;cases m with
  |zero=>rw [Wk.packP_zero];exact ⟨⟨fun _ h=>(by cases h),List.Pairwise.nil⟩,rfl⟩
  |succ m=>
   have base:w.CutL (w.m.cells.length - (m+1)) (w.packP G m).1/\(w.packP G m).2=w.V G (w.packP G m).1:=by
    obtain ⟨h1,h2⟩:=ih m (by omega) (by omega);exact ⟨⟨fun s hs=>by obtain ⟨a,b,c⟩:=h1.all s hs;exact ⟨a,b,by omega⟩,h1.pw⟩,h2⟩
   rw [Wk.packP_succ];rcases bT (c0:=w.packP G m) (l:=w.pcnd G m w.ws.length) with e|e
   ·rw [e];exact base
   ·rcases xZX.1 e with e|e
    ·rw [e];exact base
    ·obtain ⟨x,hx,e⟩:=xZS.1 e;rw [<-e,Wk.pone];obtain ⟨hx1,hx2⟩:=xZP.1 hx;have hx3:=w.ws_mem his (List.mem_of_mem_take hx1);rw [decide_eq_true_eq] at hx2;obtain ⟨n,rfl⟩: ∃n:Nat,x=n:=⟨x.toNat,by omega⟩;rw [xZR];obtain ⟨s1,s2⟩:=his.band_is G (w.m.cells.length - (m+1)) n w.m.W (xZM _);obtain ⟨h1,h2⟩:=ih (m - (n - 1)) (by omega) (by omega);refine ⟨⟨fun x hx=> ?_,?_⟩,?_⟩
     ·rcases xZT.1 hx with hx|hx
      ·obtain ⟨a,b,c,d⟩:=s1.all x hx;exact ⟨a,(Wk.sel_iff.1 b).2,by omega⟩
      ·obtain ⟨a,b,c⟩:=h1.all x hx;exact ⟨a,b,by omega⟩
     ·refine xZN.2 ⟨?_,h1.pw,fun a ha b hb=> ?_⟩
      ·refine s1.pw.imp_of_mem fun {a b} ha hb h=> ?_;obtain ⟨_,a2,a3,_⟩:=s1.all a ha;obtain ⟨_,b2,b3,_⟩:=s1.all b hb;rw [Wk.apt,if_pos (a3.trans b3.symm),(Wk.sel_iff.1 a2).1,(Wk.sel_iff.1 b2).1,xZQ,decide_eq_true_eq,decide_eq_true_eq];exact ⟨rfl,h⟩
      ·obtain ⟨_,a2,a3,_⟩:=s1.all a ha;obtain ⟨_,_,b3⟩:=h1.all b hb;rw [Wk.apt,if_neg (by omega),(Wk.sel_iff.1 a2).1,decide_eq_true_eq];omega
     ·simp only [Wk.V_app];omega
theorem Wk.Is.pack_is {w:Wk} (his:w.Is) (G:Th.Grid):w.cut (w.packP G w.m.cells.length).1=true/\w.worth (w.give (gLo G)) (w.packP G w.m.cells.length).1=(w.packP G w.m.cells.length).2:=by
 obtain ⟨h1,h2⟩:=his.pack_cut G w.m.cells.length (xZM _);exact ⟨h1.cut,by rw [Wk.V_worth,h2]⟩
theorem Wk.Is.pack_top {w:Wk} (his:w.Is) (G:Th.Grid) {ls:List (Int×Int×Int)} (h:w.cut ls=true):bet (ls,w.worth (w.give (gLo G)) ls) (w.packP G w.m.cells.length)=false:=by
 have:=his.pack_best G w.m.cells.length (xZM _) ls (by rw [Nat.sub_self];exact Wk.CutL.of his h);rw [Wk.V_worth];exact this
end Go.Proofs.Kn
namespace Go.Proofs.Kn
open Go Go.Ev
set_option maxRecDepth 100000
set_option maxHeartbeats 4000000
end Go.Proofs.Kn
