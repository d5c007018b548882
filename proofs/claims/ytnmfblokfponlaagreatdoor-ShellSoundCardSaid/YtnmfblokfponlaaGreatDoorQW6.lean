/- MvZ1, MvZ2, MvZ3, MvZ4: texts in a row, joined by a program. -/
import Derived.Test.YtnmfblokfponlaaGreatDoorQW5
set_option linter.all false
open Nat renaming reduceEqDiff → rE, reduceLeDiff → rD, reduceAdd → rA, reduceMul → rM, reduceLT → rL
open Go.Ev.T renaming get_put → xZZ
open Nat renaming le_refl → xZY
open List renaming mem_cons_of_mem → xZX, getElem?_eq_getElem → xZW, mem_of_getElem? → xZU, pairwise_cons → xZS, mem_cons_self → xZR, sum_cons → xZQ, take_succ_cons → xZP, mem_filter → xZO, getD_eq_getElem?_getD → xZN, pairwise_iff_getElem → xZM, getElem?_eq_some_iff → xZL, getElem?_map → xZI, getElem_mem → xZH, filter_cons → xZG, length_map → xZF, mem_cons → xZE, take_of_length_le → xZD, filter_eq_nil_iff → xZC, mem_map → xZB, filter_eq_self → xZA, filter_filter → xYZ, filter_congr → xYY, any_eq_false → xYX
open Bool renaming and_eq_true → xZV, not_eq_true' → xYW, eq_false_iff → xYV
open Int renaming toNat_natCast → xZT
open Go.Ev.Hp renaming up_up → xZK, up_n → xZJ, set_t → xYU
namespace Go.Proofs.Kn
open Go Go.Ev
def qAQ (x:Int):List Int->List Int
 |[]=>[x]
 |y::D=>if y<=x then x::y::D else y::qAQ x D
theorem b8 (x:Int): ∀D:List Int,(qAQ x D).Perm (x::D)
 |[]=>List.Perm.refl _
 |y::D=>by
  rw [qAQ];split
  ·exact List.Perm.refl _
  ·exact ((b8 x D).cons y).trans (List.Perm.swap _ _ _)
theorem insD_pw (x:Int): ∀{D:List Int},(D.Pairwise fun a b=>decide (b<=a)=true)->(qAQ x D).Pairwise fun a b=>decide (b<=a)=true
 |[],_=>by simp [qAQ]
 |y::D,h=>by
  obtain ⟨h1,h2⟩:=xZS.1 h;rw [qAQ];split
  ·rename_i q;refine xZS.2 ⟨fun z hz=> ?_,h⟩;rcases xZE.1 hz with rfl|hz
   ·exact decide_eq_true q
   ·have:=of_decide_eq_true (h1 z hz);exact decide_eq_true (by omega)
  ·rename_i q;refine xZS.2 ⟨fun z hz=> ?_,insD_pw x h2⟩;rcases xZE.1 ((b8 x D).mem_iff.1 hz) with rfl|hz
   ·exact decide_eq_true (by omega)
   ·exact h1 z hz
theorem dsc_ins (x:Int) (L:List Int):dsc (x::L)=qAQ x (dsc L):=qC0 ((b8 x _).trans ((kY L).cons x)) (insD_pw x (pQ L))
theorem take_head {y:Int}: ∀{D:List Int} (k:Nat),(∀z∈D,z<=y)->0<=y->(D.take k).sum<=((y::D).take k).sum
 |_,0,_,_=>by simp
 |D,k+1,h,h0=>by
  rw [xZP,xZQ,List.take_succ];cases q:D[k]? with
  |none=>simp;omega
  |some z=>
   have:=h z (xZU q);simp only [Option.toList_some,List.sum_append,xZQ,List.sum_nil];omega
theorem qBw {x:Int} (hx:0<=x): ∀{D:List Int},(D.Pairwise fun a b=>decide (b<=a)=true)->(∀z∈D,0<=z)-> ∀k,(D.take k).sum<=((qAQ x D).take k).sum/\x+(D.take k).sum<=((qAQ x D).take (k+1)).sum
 |[],_,_,k=>by
  cases k with
  |zero=>simp [qAQ]
  |succ k=>simp [qAQ];omega
 |y::D,h,h0,k=>by
  obtain ⟨h1,h2⟩:=xZS.1 h;have hy:=h0 y xZR;rw [qAQ];split
  ·rename_i q;refine ⟨?_,?_⟩
   ·refine take_head k (fun z hz=> ?_) hx;rcases xZE.1 hz with rfl|hz
    ·exact q
    ·have:=of_decide_eq_true (h1 z hz);omega
   ·rw [xZP,xZQ];omega
  ·rename_i q;cases k with
   |zero=>simp;omega
   |succ k=>
    obtain ⟨i1,i2⟩:=qBw hx h2 (fun z hz=>h0 z (xZX _ hz)) k;simp only [xZP,xZQ] at*;omega
theorem topN_sub {S L:List Int} (hs:S.Sublist L) (h0: ∀x∈L,0<=x): ∀k,S.length<=k->S.sum<=xH L k:=by
 have pos: ∀(L:List Int),(∀x∈L,0<=x)-> ∀z∈dsc L,0<=z:=fun L h z hz=>h z ((kY L).mem_iff.1 hz);induction hs with
 |slnil=>intro k _;rw [qA8];simp
 | @cons S L x _ ih=>
  intro k hk;have h1:=ih (fun z hz=>h0 z (xZX _ hz)) k hk;have h2:=(qBw (h0 x xZR) (pQ L) (pos L fun z hz=>h0 z (xZX _ hz)) k).1;rw [xH] at*;rw [dsc_ins];omega
 | @cons_cons S L x _ ih=>
  intro k hk;cases k with
  |zero=>simp at hk
  |succ k=>
   have h1:=ih (fun z hz=>h0 z (xZX _ hz)) k (by simpa using hk);have h2:=(qBw (h0 x xZR) (pQ L) (pos L fun z hz=>h0 z (xZX _ hz)) k).2;rw [xH] at*;rw [dsc_ins,xZQ];omega
theorem hP {w:Wk} {a b:Int×Int×Int} (ha:w.Blk a) (hb:w.Blk b) (h:w.apt a b=true) {p:Int×Int} (h1:w.hit1 a p=true):w.hit1 b p=false:=by
 obtain ⟨ra,ca,qa,na,ta,wa,rfl,hta,_,_⟩:=ha;obtain ⟨rb,cb,qb,nb,tb',wb,rfl,htb,_,_⟩:=hb;rw [xYV];intro h2;simp only [Wk.hit1,gP,xZT,hta.tb,htb.tb,xZV,zC] at h1 h2;simp only [Wk.apt,xZT,hta.tb,htb.tb] at h;split at h
 ·rw [xZV,decide_eq_true_eq,decide_eq_true_eq] at h;omega
 ·rw [decide_eq_true_eq] at h;omega
theorem hit_one {w:Wk} (p:Int×Int): ∀{ls:List (Int×Int×Int)},(∀s∈ls,w.Blk s)->(ls.Pairwise fun a b=>w.apt a b=true)->(ls.filter fun s=>w.hit1 s p).length<=1
 |[],_,_=>by simp
 |s::l,hb,hp=>by
  obtain ⟨h1,h2⟩:=xZS.1 hp;have ih:=hit_one p (fun x hx=>hb x (xZX _ hx)) h2;rw [xZG];split
  ·rename_i q;have:(l.filter fun s=>w.hit1 s p)=[]:=xZC.2 fun x hx=>by
    rw [hP (hb s xZR) (hb x (xZX _ hx)) (h1 x hx) q];decide
   rw [this];simp
  ·exact ih
theorem pF {α:Type} (P Q:α->Bool): ∀l:List α,(l.filter fun x=>P x || Q x).length<=(l.filter P).length+(l.filter Q).length
 |[]=>by simp
 |x::l=>by
  have:=pF P Q l;simp only [xZG];cases P x<;>cases Q x<;>simp<;>omega
theorem hit_len {w:Wk} {ls:List (Int×Int×Int)} (hb: ∀s∈ls,w.Blk s) (hp:ls.Pairwise fun a b=>w.apt a b=true): ∀hs:List (Int×Int),(ls.filter (w.hit hs)).length<=hs.length
 |[]=>by
  have:ls.filter (w.hit [])=[]:=xZC.2 fun x _=>by simp [Wk.hit]
  rw [this];simp
 |p::hs=>by
  have h1:=hit_len hb hp hs;have h2:=hit_one p hb hp;have h3:=pF (fun s=>w.hit1 s p) (w.hit hs) ls;have e:(w.hit (p::hs))=fun s=>w.hit1 s p || w.hit hs s:=by funext s;simp [Wk.hit]
  rw [e,List.length_cons];omega
theorem V_sum (w:Wk) (G:Th.Grid): ∀ls:List (Int×Int×Int),w.V G ls=(ls.map (w.lv G)).sum
 |[]=>rfl
 |s::l=>by rw [Wk.V,V_sum w G l];simp
theorem V_split (w:Wk) (G:Th.Grid) (P:Int×Int×Int->Bool): ∀ls:List (Int×Int×Int),w.V G ls=w.V G (ls.filter P)+w.V G (ls.filter fun s=> !P s)
 |[]=>rfl
 |s::l=>by
  have:=V_split w G P l;simp only [xZG];cases P s<;>simp [Wk.V]<;>omega
theorem qEa {w:Wk} {s:Int×Int×Int} (hb:w.Blk s) {p:Int×Int} (hp:w.m.bare p.1 p.2=true) (h:w.hit1 s p=true):w.bar s=true:=by
 obtain ⟨r0,c0,q,n,th,wo,rfl,ht,_,_⟩:=hb;simp only [Wk.hit1,gP,xZT,ht.tb,xZV,zC] at h;refine bar_yes ht (i:=(p.1 - r0).toNat) (j:=(p.2 - c0).toNat) (by omega) (by omega) ?_;rw [show ((r0+(p.1 - r0).toNat:Nat):Int)=p.1 by omega,show ((c0+(p.2 - c0).toNat:Nat):Int)=p.2 by omega];exact hp
theorem sound_le {w:Wk} (h:w.ok=true) {ls:List (Int×Int×Int)} (hc:w.cut ls=true) {G:Th.Grid} (hb:w.m.bnd=some G) {hs:List (Int×Int)} (hh:w.hok hs=true):w.V G ls - p9 (w.lvs G ls) w.m.H<=w.V G (w.left hs ls)/\w.V G (w.left hs ls)<=w.V G ls:=by
 have his:=Wk.ok_is h;have hblk:=wP his hc;have hpw:=(Wk.CutL.of his hc).pw;have hs':=V_split w G (w.hit hs) ls;have e1:(ls.filter fun s=> !w.hit hs s)=w.left hs ls:=rfl;rw [e1] at hs';have hH:=Wk.ok_H h;simp only [Wk.hok,xZV,xYW,decide_eq_false_iff_not,xYX] at hh;have hsub:(ls.filter (w.hit hs)).Sublist (ls.filter w.bar):=by
  have e:ls.filter (w.hit hs)=(ls.filter w.bar).filter (w.hit hs):=by
   rw [xYZ];refine xYY fun s hs1=> ?_;cases q:w.hit hs s with
   |false=>simp
   |true=>
    obtain ⟨p,hp,hp2⟩:=List.any_eq_true.1 q;have:=hh.2 p hp;rw [qEa (hblk s hs1) (by simpa using this) hp2];rfl
  rw [e];exact List.filter_sublist
 have hpos: ∀x∈w.lvs G ls,0<=x:=fun x hx=>by
  obtain ⟨s,hs1,rfl⟩:=xZB.1 hx;exact (his.lv_bd hb (hblk s (xZO.1 hs1).1)).1
 have hl:=hit_len hblk hpw hs;have ht:=topN_sub (hsub.map (w.lv G)) hpos w.m.H.toNat (by rw [xZF];omega);have hv:=V_bd his hb (ls.filter (w.hit hs)) fun s hs1=>hblk s (xZO.1 hs1).1;rw [topS_N];rw [<-V_sum] at ht;rw [Wk.lvs];omega
end Go.Proofs.Kn
namespace Go.Proofs.Kn
open Go Go.Ev
theorem take_zero: ∀{Z:List Int},(∀z∈Z,z=0)-> ∀k,(Z.take k).sum=0
 |[],_,k=>by simp
 |z::Z,h,0=>by simp
 |z::Z,h,k+1=>by
  rw [xZP,xZQ,take_zero (fun x hx=>h x (xZX _ hx)) k,h z xZR];rfl
theorem topN_pos {L:List Int} (h0: ∀x∈L,0<=x) (k:Nat):xH (L.filter fun x=>decide (0<x)) k=xH L k:=by
 have hz: ∀z∈L.filter (fun x=> !decide (0<x)),z=0:=fun z hz=>by
  obtain ⟨h1,h2⟩:=xZO.1 hz;have:=h0 z h1;simp at h2;omega
 have e:dsc L=dsc (L.filter fun x=>decide (0<x))++L.filter (fun x=> !decide (0<x)):=by
  refine qC0 (((kY _).append_right _).trans (List.filter_append_perm _ L)) (List.pairwise_append.2 ⟨pQ _,?_,fun a ha b hb=> ?_⟩)
  ·refine xZM.2 fun i j hi hj _=> ?_;rw [hz _ (xZH hi),hz _ (xZH hj)]
   decide
  ·have h1:=(xZO.1 ((kY _).mem_iff.1 ha)).2;simp at h1;have h2:=hz b hb;exact decide_eq_true (by omega)
 rw [xH,xH,e,List.take_append,List.sum_append,take_zero hz];omega
def Xl (vl:Nat->Int) (ul:List Bool):Nat->Int
 |0=>0
 |n+1=>Xl vl ul n+if ul.getD n false=true then 0 else vl n
theorem Xl_set {vl:Nat->Int} {ul:List Bool} {b:Nat} (hb:b<ul.length) (hu:ul.getD b false=false): ∀n,Xl vl (ul.set b true) n=Xl vl ul n - if b<n then vl b else 0
 |0=>by simp [Xl]
 |n+1=>by
  rw [Xl,Xl,Xl_set hb hu n,qBy _ hb];by_cases e:n=b
  ·subst e;rw [hu];simp
  ·have d:decide (n=b)=false:=decide_eq_false e;rw [d,Bool.or_false];by_cases q:b<n
   ·rw [if_pos q,if_pos (show b<n+1 by omega)];generalize (if ul.getD n false=true then (0:Int) else vl n)=y
    omega
   ·rw [if_neg q,if_neg (show¬b<n+1 by omega)];generalize (if ul.getD n false=true then (0:Int) else vl n)=y
    omega
theorem grdN_X (op:Nat->Bool) (vl:Nat->Int) (n:Nat) (s0:List Bool×Int) (h0:s0.1.length=n) (hx:s0.2=Xl vl s0.1 n): ∀t,(gR op vl n s0 t).2=Xl vl (gR op vl n s0 t).1 n
 |0=>hx
 |t+1=>by
  have ih:=grdN_X op vl n s0 h0 hx t;have hl:=uY op vl n s0 t;rw [gR,grd1];cases q:yA (uR (gR op vl n s0 t).1 op) vl n with
  |none=>exact ih
  |some b=>
   obtain ⟨h1,h2,_⟩:=kN q;rw [uR,xZV,xYW] at h2;simp only;rw [Xl_set (by omega) h2.1,if_pos h1,ih]
theorem Xl_V (w:Wk) (G:Th.Grid) (hs:List (Int×Int)) (ls:List (Int×Int×Int)) (vl:Nat->Int) (ul:List Bool) (hv: ∀j s,ls[j]? =some s->vl j=w.lv G s) (hu: ∀j s,ls[j]? =some s->w.hit hs s=ul.getD j false): ∀k,k<=ls.length->w.V G (w.left hs (ls.take k))=Xl vl ul k
 |0,_=>rfl
 |k+1,hk=>by
  obtain ⟨s,hs'⟩: ∃s,ls[k]? =some s:=⟨_,xZW (by omega)⟩;rw [left_succ w hs hs' G,Xl_V w G hs ls vl ul hv hu k (by omega),Xl,hu k s hs',hv k s hs']
theorem Xl_all (vl:Nat->Int) (n:Nat): ∀k,k<=n->Xl vl (List.replicate n false) k=Xl vl [] k
 |0,_=>rfl
 |k+1,hk=>by
  rw [Xl,Xl,Xl_all vl n k (by omega)];simp [xZN,show k<n by omega]
theorem V_X (w:Wk) (G:Th.Grid) (ls:List (Int×Int×Int)) (vl:Nat->Int) (hv: ∀j s,ls[j]? =some s->vl j=w.lv G s):w.V G ls=Xl vl (List.replicate ls.length false) ls.length:=by
 rw [Xl_all vl ls.length ls.length (xZY _)];have h:=Xl_V w G [] ls vl [] hv (fun j s _=>by simp [Wk.hit]) ls.length (xZY _);rw [xZD (xZY _)] at h;rw [<-h];have:w.left [] ls=ls:=xZA.2 fun s _=>by simp [Wk.hit]
 rw [this]
def Wk.opp (w:Wk) (G:Th.Grid) (s:Int×Int×Int):Bool:=w.bar s && decide (0<w.lv G s)
theorem opp_top {w:Wk} (his:w.Is) {G:Th.Grid} (hb:w.m.bnd=some G) {ls:List (Int×Int×Int)} (hblk: ∀s∈ls,w.Blk s) (k:Nat):xH ((ls.filter (w.opp G)).map (w.lv G)) k=xH (w.lvs G ls) k:=by
 have e:(ls.filter (w.opp G)).map (w.lv G)=(w.lvs G ls).filter fun x=>decide (0<x):=by
  rw [Wk.lvs,List.filter_map,xYZ]
  congr 1
  refine xYY fun s _=> ?_;simp only [Wk.opp,Function.comp];rw [Bool.and_comm]
 rw [e];refine topN_pos (fun x hx=> ?_) k;obtain ⟨s,hs,rfl⟩:=xZB.1 hx;exact (his.lv_bd hb (hblk s (xZO.1 hs).1)).1
structure WI (w:Wk) (ls:List (Int×Int×Int)) (ul:List Bool) (t:Nat) (out:List (Int×Int)):Prop where
 hit: ∀j s,ls[j]? =some s->w.hit out s=ul.getD j false
 bare: ∀p∈out,w.m.bare p.1 p.2=true
 len:out.length<=t
theorem WI.step {w:Wk} {ls:List (Int×Int×Int)} (hblk: ∀s∈ls,w.Blk s) (hp:ls.Pairwise fun a b=>w.apt a b=true) {ul:List Bool} {t:Nat} {out:List (Int×Int)} (h:WI w ls ul t out) {b:Nat} {s:Int×Int×Int} (hb:ls[b]? =some s) (hbl:b<ul.length) {p:Int×Int} (h1:w.hit1 s p=true) (h2:w.m.bare p.1 p.2=true):WI w ls (ul.set b true) (t+1) (out++[p]):=by
 refine ⟨fun j s' hj=> ?_,fun q hq=> ?_,by have:=h.len;simp;omega⟩
 ·have e:w.hit1 s' p=decide (j=b):=by
   by_cases q:j=b
   ·subst q;rw [hb] at hj;cases hj;rw [h1,decide_eq_true rfl]
   ·rw [decide_eq_false q];obtain ⟨hb1,hb2⟩:=xZL.1 hb;obtain ⟨hj1,hj2⟩:=xZL.1 hj;rcases Nat.lt_or_gt_of_ne q with q|q
    ·have ha:=xZM.1 hp j b hj1 hb1 q;rw [hb2,hj2] at ha;rw [xYV];intro h3;have:=hP (hblk _ (xZU hj)) (hblk _ (xZU hb)) ha h3;rw [h1] at this;cases this
    ·have ha:=xZM.1 hp b j hb1 hj1 q;rw [hb2,hj2] at ha;exact hP (hblk _ (xZU hb)) (hblk _ (xZU hj)) ha h1
  have e2:w.hit (out++[p]) s'=(w.hit out s' || w.hit1 s' p):=by simp [Wk.hit]
  rw [e2,h.hit j s' hj,e,qBy _ hbl]
 ·rcases List.mem_append.1 hq with hq|hq
  ·exact h.bare q hq
  ·rw [List.mem_singleton.1 hq];exact h2
theorem WI.fin {w:Wk} (h:w.ok=true) {ls:List (Int×Int×Int)} (hc:w.cut ls=true) {G:Th.Grid} (hb:w.m.bnd=some G) {H:Nat} (hH:w.m.H=(H:Int)) {out:List (Int×Int)}
  (hi:WI w ls (gR (fun j=>w.opp G (ls.getD j b0)) (fun j=>w.lv G (ls.getD j b0)) ls.length (List.replicate ls.length false,w.V G ls) H).1 H out):w.hok out=true/\w.V G (w.left out ls)=w.V G ls - p9 (w.lvs G ls) w.m.H:=by
 have his:=Wk.ok_is h;have hblk:=wP his hc;have hv: ∀j s,ls[j]? =some s->w.lv G (ls.getD j b0)=w.lv G s:=fun j s hs=>by rw [vH hs]
 refine ⟨?_,?_⟩
 ·have:(out.any fun p=> !w.m.bare p.1 p.2)=false:=by
   rw [xYX];intro p hp;rw [hi.bare p hp];decide
  rw [Wk.hok,this,decide_eq_false (by have:=hi.len;omega)];rfl
 ·have h1:=Xl_V w G out ls (fun j=>w.lv G (ls.getD j b0)) _ hv hi.hit ls.length (xZY _);rw [xZD (xZY _)] at h1;rw [h1,<-grdN_X _ _ _ _ (by simp) (V_X w G ls _ hv),grd_top b0 (w.opp G) (w.lv G) ls (w.V G ls) H,opp_top his hb hblk,topS_N,hH];rfl
end Go.Proofs.Kn
namespace Go.Proofs.Kn
open Go Go.Ev
set_option maxRecDepth 100000
set_option maxHeartbeats 4000000
theorem al141 (h:Hp):jI tb h 141=some (.ptr h.n 0,h.new (.cells [iv 0,iv 0] 141)):=kJ v6 rfl
theorem bs25 (h:Hp) (a b:Int):j8 tb h 25 1 [(0,.agg [iv a,iv b])]=some (.sl h.n 0 1 2,h.new (.cells [iv a,iv b] 141)):=bs_of (sz:=2) (zs:=[.int .i64 0,.int .i64 0]) pM rfl v6 rfl rfl (by omega) (by omega) rfl
theorem ft109 (xt:Addr->Option Value):(SE xt).ft.get 109=some Tryz.f109:=by kernel_rfl
theorem res109:Tryz.f109.results.toList=[.cell 4 141]:=by kernel_rfl
theorem place_c (xt:Addr->Option Value) (h:Hp) (r c:Int) {K:CR->Hp->Prop} (hk: ∀m,h.n<m->K (.ret (.agg [iv r,iv c])) (h.up m)):FnA (SE xt) 109 [iv r,iv c] h K:=by
 refine FnA.calm ?_ hk;clear hk K;refine FnA.walk (sok xt) (ft109 xt) rfl 8 rfl ?_;refine qA fun K hn hp=> ?_;simp only [sw.1,rL,al141];obtain ⟨h1,hh1,n1,s1,k1,f1⟩:=nsE h (.cells [iv 0,iv 0] 141) (.cells [iv r,iv c] 141);apply hn;refine qA fun K hn hp=> ?_;simp only [sw.1,rE,reduceIte,rL,rA,bd141];rw [<-hh1];apply hn;clear hh1;refine qD (end_c res109 (v:= .agg [iv r,iv c]) ?_ ⟨rfl,f1⟩);have e:(⟨h1.t,h1.n⟩:Hp)=h1:=rfl;simp [xZZ,SE,ld141,s1,zM]
theorem abin_rem {P:Program} {t:TypeId} {ox oy:Operand} (a b:Int) (hb:b≠0):yW P tb .rem t ox oy (iv a) (iv b)=some (iv (a.tmod b)):=by
 have e2:Op.intDiv .rem .i64 a b=pure (.int .i64 (a.tmod b)):=by unfold Op.intDiv;rw [if_neg hb]
 have e3:qM P (do eqGuard .rem t ox oy (.int .i64 a) (.int .i64 b);binOp .rem t (.int .i64 a) (.int .i64 b))=some (.int .i64 (a.tmod b)):=by
  show qM P (Op.intDiv .rem .i64 a b)=_;rw [e2];rfl
 show (match qM P (do eqGuard .rem t ox oy (.int .i64 a) (.int .i64 b);binOp .rem t (.int .i64 a) (.int .i64 b)) with|some r=>some (AV.val r)|none=>none)=_;rw [e3]
def bvl (vl:Nat->Int):Option Nat->Int
 |none=>0
 |some b=>vl b
@[simp] theorem bv_some (b:Nat):bv (some b)=(b:Int):=rfl
@[simp] theorem bvl_none (vl:Nat->Int):bvl vl none=0:=rfl
@[simp] theorem bvl_some (vl:Nat->Int) (b:Nat):bvl vl (some b)=vl b:=rfl
theorem Cuts.at0 {xt:Addr->Option Value} {h:Hp} {v:AV} {ls:List (Int×Int×Int)} (a:Cuts xt h v ls) {i:Nat} {s:Int×Int×Int} (hx:ls[i]? =some s):
  qL tb 61 (elp v (i*3)) 0=some (elp v (i*3))/\qP tb xt h 3 (elp v (i*3))=some (iv s.1)/\qL tb 61 (elp v (i*3)) 1=some (elp v (i*3+1))/\qP tb xt h 3 (elp v (i*3+1))=some (iv s.2.1):=by
 have hq:i<ls.length:=(xZL.1 hx).1;have hne:ls.map Kn.t3≠[]:=by intro e;have:=congrArg List.length e;simp at this;rw [this] at hq;simp at hq
 have hc:(ls.map Kn.t3)[i]? =some (Kn.t3 s):=by rw [xZI,hx];rfl
 refine ⟨?_,?_,?_,?_⟩
 ·simpa using a.row.fa hne xQ rfl (f:=0) (o:=0) (s:=0) (ft:=3) rfl (i*3)
 ·exact a.row.load0 tg3 rfl (i:=i) hc rfl
 ·exact a.row.fa hne xQ rfl (f:=1) (o:=1) (s:=0) (ft:=3) rfl (i*3)
 ·exact a.row.load tg3 rfl (i:=i) (j:=1) hc rfl
theorem qAi {c:Nat->Bool} {vl:Nat->Int} {j:Nat} {bb:Option Nat} (hbb:bb=yA c vl j) (h:c j=true->vl j<=bvl vl bb/\(bb=none->0<vl j)):bb=yA c vl (j+1):=by
 rw [yA,<-hbb];cases q:c j with
 |false=>rfl
 |true=>
  obtain ⟨h1,h2⟩:=h q;cases bb with
  |none=>have:=h2 rfl;simp only [bvl_none] at h1;omega
  |some b=>
   simp only [bvl_some] at h1;simp only [btr,decide_eq_false (show¬vl b<vl j by omega),Bool.and_false];rfl
theorem best_take {c:Nat->Bool} {vl:Nat->Int} {j:Nat} {bb:Option Nat} (hbb:bb=yA c vl j) (h:c j=true) (h1:bvl vl bb<vl j):some j=yA c vl (j+1):=by
 rw [yA,<-hbb,h];cases bb with
 |none=>rfl
 |some b=>
  simp only [bvl_some] at h1;simp only [btr,decide_eq_true h1];rfl
theorem sub_last (NN k:Nat) (hk:k<NN):((NN:Int) - 1 - (k:Int))=((NN - 1 - k:Nat):Int):=by omega
theorem ft47 (xt:Addr->Option Value):(SE xt).ft.get 47=some Tryz.f47:=by kernel_rfl
theorem res47:Tryz.f47.results.toList=[.tmp 4]:=by kernel_rfl
theorem worst_c (xt:Addr->Option Value) (h:Hp) (w:Wk) (ha:w.At xt h) (e1:w.ok=true) (G:Th.Grid) (hb:w.m.bnd=some G) (v:AV) (ls:List (Int×Int×Int)) (hl:Cuts xt h v ls) (hl50:ls.length<=1000000) (e2:w.cut ls=true):
  FnA (SE xt) 47 [w.av,v] h (fun res h'=> ∃xo out,res= .ret xo/\Plc xt h' xo out/\(w.hok out=true/\w.V G (w.left out ls)=w.V G ls - p9 (w.lvs G ls) w.m.H)/\Fr h.n h h'/\h.n<h'.n):=by
 refine FnA.walk (sok xt) (ft47 xt) rfl 134 rfl ?_;obtain ⟨o1,o2,o3,o4,o5⟩:=ha.ones;have his:=Wk.ok_is e1;have hblk:=wP his e2;have hboth:=cut_both e2;have hpw:=(Wk.CutL.of his e2).pw;have hH:=Wk.ok_H e1;have hlen:=hl.len;have hlt:=hl.lt;have hr6:=his.m.r6;have hc8:=his.m.c8;have onev:=hl.row.one;obtain ⟨op,hop⟩: ∃op:Nat->Bool,op=fun j=>w.opp G (ls.getD j b0):=⟨_,rfl⟩;obtain ⟨vl,hvl⟩: ∃vl:Nat->Int,vl=fun j=>w.lv G (ls.getD j b0):=⟨_,rfl⟩;have hvb: ∀j,j<ls.length->0<=vl j/\vl j<=6500:=fun j hj=>by
  rw [hvl];simp only;rw [vH (xZW hj)];exact his.lv_bd hb (hblk _ (xZH hj))
 obtain ⟨S,hS⟩: ∃S:Nat->List Bool×Int,S=gR op vl ls.length (List.replicate ls.length false,w.V G ls):=⟨_,rfl⟩;have hSl: ∀t,(S t).1.length=ls.length:=fun t=>by rw [hS,uY];simp
 obtain ⟨H,hH1⟩: ∃H:Nat,w.m.H=(H:Int):=⟨w.m.H.toNat,by omega⟩;have hfin: ∀out,WI w ls (S H).1 H out->w.hok out=true/\w.V G (w.left out ls)=w.V G ls - p9 (w.lvs G ls) w.m.H:=fun out hi=>by
  rw [hS,hop,hvl] at hi;exact WI.fin e1 e2 hb hH1 hi
 have hdec: ∀t:Nat,decide ((t:Int)<w.m.H)=decide (t<H):=fun t=>decide_eq_decide.2 (by omega);have hS1: ∀t,S (t+1)=grd1 op vl ls.length (S t):=fun t=>by rw [hS];rfl
 have hvj: ∀j s,ls[j]? =some s->vl j=w.lv G s/\op j=w.opp G s:=fun j s hs=>by
  rw [hvl,hop];simp only [vH hs,and_self]
 have hS00:(S 0).1=List.replicate ls.length false:=by rw [hS];rfl
 clear hop hvl hS;refine qA fun K hn hp=> ?_;simp only [sw.1,rE,reduceIte,rL];apply hn;clear hn hp K;obtain ⟨h1,hh1⟩: ∃h1:Hp,h1=h.new (.cells w.cs 30):=⟨_,rfl⟩;rw [<-hh1];have nh1:h1.n=h.n+1:=by rw [hh1];rfl
 have sh1:h1.t.get h.n=some (.cells w.cs 30):=by rw [hh1];exact qX _ _
 have kh1: ∀k,k<h.n->h1.t.get k=h.t.get k:=fun k hk=>by rw [hh1];exact qW _ _ hk
 have fbh1:Fr h.n h h1:=by rw [hh1];exact (Fr.refl (xZY _)).new _
 have fh1:=fbh1;refine qA fun K hn hp=> ?_;simp only [sy.1,rL];apply hn;clear hn hp K;obtain ⟨h7,hh7,n7,s7,k7,f7⟩:=uO h1 (.cells (wE (List.replicate ls.length false)) 4);refine qA fun K hn hp=> ?_;simp only [sy.1,rE,reduceIte,rL,syw.1,hlen,nh1,pK,mk154 _ _ hl50,<-hh7];apply hn;clear hn hp K hh7;refine bR (fun tm=>tm.get 1=some v/\tm.get 2=some (.ptr h.n 0)/\tm.get 5=some qAP/\tm.get 6=some (.sl h1.n 0 ls.length 1)) ⟨by simp [xZZ],by simp [xZZ],by simp [xZZ],by simp [xZZ,nh1]⟩ fun tm ht=> ?_;obtain ⟨g1,g2,g5,g6⟩:=ht;refine qE ?_;refine qA fun K hn hp=> ?_;simp only [sy.1,rL];apply hn;clear hn hp K;refine qF fun KA A1 A2 A3 A4 A5=> ?_;refine qS (sok xt) (fun st=> ∃(t:Nat) (hg:Hp) (xo:AV) (out:List (Int×Int)) (tm:T AV),st=⟨tm,134,hg,[]⟩/\t<=H/\tm.get 1=some (v)/\tm.get 2=some (.ptr h.n 0)/\tm.get 5=some (xo)/\tm.get 6=some (.sl h1.n 0 ls.length 1)/\tm.get 7=some (iv t)/\Fr h1.n h1 hg/\h1.n<hg.n/\hg.t.get h1.n=some (.cells (wE (S t).1) 4)/\OwnSl hg h7.n 2 141 xo out.length ((out.map Kn.p2).flatten.map .val)/\h7.n<=hg.n/\WI w ls (S t).1 t out) (fun st=>H - (match st.tm.get 7 with|some (.val (.int _ n))=>n.toNat|_=>0)) ?_ ?_
 ·rintro st ⟨t,hg,xo,out,tm,rfl,hkA,g1,g2,g5,g6,g7,fg,mg,bg,og,lg7,wi⟩;have muA:=g7;have ug:=(fg.at_ h.n (.inl (by omega))).trans sh1;refine qE ?_;refine qA fun K hn hp=> ?_;simp only [sy.1,rE,reduceIte,rL,g2,hdec,g7,ug];apply hn;clear hn hp K;by_cases ht:t<H
  ·refine qC true (by simp only [sy.1,rE,reduceIte,ht]) (fun _=> ?_) (fun hx=>by cases hx);refine qI ?_;refine qF fun KB B1 B2 B3 B4 B5=> ?_;refine qA fun K hn hp=> ?_;simp only [sy.1,rL];apply hn;clear hn hp K;refine qA fun K hn hp=> ?_;simp only [sy.1,rL,al141];obtain ⟨hz,hhz,nz,sz,kz,fz⟩:=uO hg (.cells [iv 0,iv 0] 141);rw [<-hhz];apply hn;clear hn hp K hhz;refine qE ?_;refine qA fun K hn hp=> ?_;simp only [sy.1,rL];apply hn;clear hn hp K;refine jU fun KD D1 D2 D3 D4 D5=> ?_;refine qS (sok xt) (fun st=> ∃(j:Nat) (hh:Hp) (bb:Option Nat) (pl:Int×Int) (tm:T AV),st=⟨tm,134,hh,[]⟩/\j<=ls.length/\tm.get 1=some (v)/\tm.get 2=some (.ptr h.n 0)/\tm.get 5=some (xo)/\tm.get 6=some (.sl h1.n 0 ls.length 1)/\tm.get 7=some (iv t)/\tm.get 8=some (iv (bv bb))/\tm.get 9=some (iv (bvl vl bb))/\tm.get 10=some (.ptr hg.n 0)/\tm.get 11=some (iv j)/\Fr hg.n hg hh/\hg.n<hh.n/\hh.t.get hg.n=some (.cells [iv pl.1,iv pl.2] 141)/\bb=yA (uR (S t).1 op) vl j/\(∀b s,bb=some b->ls[b]? =some s->w.hit1 s pl=true/\w.m.bare pl.1 pl.2=true)) (fun st=>ls.length - (match st.tm.get 11 with|some (.val (.int _ n))=>n.toNat|_=>0)) ?_ ?_
   ·rintro st ⟨j,hh,bb,pl,tm,rfl,hkD,g1,g2,g5,g6,g7,g8,g9,g10,g11,fh,mh,ph,hbb,hpl⟩;have muD:=g11;refine qE ?_;refine qA fun K hn hp=> ?_;simp only [sy.1,rE,reduceIte,rL,syw.1,hlen,jR,g1,g11];apply hn;clear hn hp K;by_cases hj:j<ls.length
    ·refine qC true (by simp only [sy.1,rE,reduceIte,hj]) (fun _=> ?_) (fun hx=>by cases hx);refine qI ?_;refine qF fun KE E1 E2 E3 E4 E5=> ?_;have next: ∀(e:Ex) (tm:T AV) (hx:Hp) (bb':Option Nat) (pl':Int×Int),(e= .normal\/e= .exit 3)->Fr hg.n hg hx->hg.n<hx.n->hx.t.get hg.n=some (.cells [iv pl'.1,iv pl'.2] 141)->bb'=yA (uR (S t).1 op) vl (j+1)->(∀b s,bb'=some b->ls[b]? =some s->w.hit1 s pl'=true/\w.m.bare pl'.1 pl'.2=true)->tm.get 1=some v->tm.get 2=some (.ptr h.n 0)->tm.get 5=some xo->tm.get 6=some (.sl h1.n 0 ls.length 1)->tm.get 7=some (iv t)->tm.get 8=some (iv (bv bb'))->tm.get 9=some (iv (bvl vl bb'))->tm.get 10=some (.ptr hg.n 0)->tm.get 11=some (iv j)->KE e ⟨tm,134,hx,[]⟩:=by
      clear g1 g2 g5 g6 g7 g8 g9 g10 g11;intro e tm hx bb' pl' he q1 q2 q3 q4 q5 g1 g2 g5 g6 g7 g8 g9 g10 g11;rcases he with rfl|rfl
      ·refine E1 _ ?_;refine reg fun K hn hp=> ?_;simp only [sy.1,rE,reduceIte,rL,g11,qQ hj hlt];apply hn;clear hn hp K;refine ⟨⟨j+1,hx,bb',pl',_,rfl,by omega,(by simp [xZZ,g1]),(by simp [xZZ,g2]),(by simp [xZZ,g5]),(by simp [xZZ,g6]),(by simp [xZZ,g7]),(by simp [xZZ,g8]),(by simp [xZZ,g9]),(by simp [xZZ,g10]),(by simp [xZZ]),q1,q2,q3,q4,q5⟩,by simpa [xZZ,muD] using (by omega:ls.length - (j+1)<ls.length - j)⟩
      ·refine E2 _ ?_;refine reg fun K hn hp=> ?_;simp only [sy.1,rE,reduceIte,rL,g11,qQ hj hlt];apply hn;clear hn hp K;refine ⟨⟨j+1,hx,bb',pl',_,rfl,by omega,(by simp [xZZ,g1]),(by simp [xZZ,g2]),(by simp [xZZ,g5]),(by simp [xZZ,g6]),(by simp [xZZ,g7]),(by simp [xZZ,g8]),(by simp [xZZ,g9]),(by simp [xZZ,g10]),(by simp [xZZ]),q1,q2,q3,q4,q5⟩,by simpa [xZZ,muD] using (by omega:ls.length - (j+1)<ls.length - j)⟩
     obtain ⟨s,hs⟩: ∃s,ls[j]? =some s:=⟨_,xZW hj⟩;obtain ⟨vj,oj⟩:=hvj j s hs;have hsm:=xZU hs;have hbs:=hblk s hsm;have fhh:Fr h1.n h1 hh:=fg.trans fh (by omega);have fH:Fr h.n h hh:=fh1.trans fhh (by omega);have hac:=ha.fr fH (xZY _);have hlc:=hl.fr fH (xZY _);obtain ⟨i1,i2,i3,i4⟩:=hlc.at_ hs;have uh:=(fh.at_ h.n (.inl (by omega))).trans ug;have bh:=(fh.at_ h1.n (.inl mg)).trans bg;have hgv:=gives_ok e1 (hboth s hsm).1 (hboth s hsm).2 hb;have gb1:=wN his (fun r c _ _=>(bI his.m hb r c).1) hbs (t:=gLo G);have vj':vl j=(w.tb s.2.2.toNat).2.2*w.give (gLo G) s:=vj;obtain ⟨A1,hA1⟩: ∃x,x=w.give (gLo G) s:=⟨_,rfl⟩;obtain ⟨A2,hA2⟩: ∃x,x=w.give (gHi G) s:=⟨_,rfl⟩;rw [<-hA1] at gb1 hgv vj';rw [<-hA2] at hgv;refine qDv (sok xt) 9 (by kernel_rfl) fun K hn hp=> ?_;simp only [sw.1,rE,reduceIte,rL,rA,syw.1,g1,g2,g11,uh,i1,i2];refine qB (sok xt) (gives_c xt hh w hac s fun p1 hp1=> ?_);rw [hgv];simp only [sy.1,rE,reduceIte,rL,rA,sv.1,hp1];obtain ⟨hd,hhd,nd,sd,kd,fd⟩:=nsE (hh.up p1) (.cells [iv 0,iv 0] 43) (.cells [iv A1,iv A2] 43);simp only [xZJ,Hp.up_t] at hhd nd sd kd fd;rw [<-hhd];apply hn;clear hn hp K hhd;have fdh:Fr hh.n hh hd:=((Fr.refl (xZY _)).up (m:=p1) (by omega)).trans fd (by omega);have ud:=(fdh.at_ h.n (.inl (by omega))).trans uh;obtain ⟨r0,c0,q,n,th,wo,hs0,ht',k1,k2⟩:=id hbs;have hld:=hl.fr (fH.trans fdh (by omega)) (xZY _);have had:=ha.fr (fH.trans fdh (by omega)) (xZY _);obtain ⟨d1,d2,d3,d4⟩:=hld.at_ hs;obtain ⟨j1,_,_,_,_⟩:=had.tubs ht'.at_;have j2:qP tb xt hd 90 (elp w.vt (q*3))=some (.agg [iv n,iv th,iv wo]):=had.ts.loadA yB rfl rfl (i:=q) (c:=Kn.t3 ((n:Int),th,wo)) (by rw [xZI,ht'.at_];rfl);have e4:s.2.2=(q:Int):=by rw [hs0]
     rw [e4] at d4;refine seq_regDA (sok xt) 9 (by kernel_rfl) fun K hn hp=> ?_;simp only [sw.1,rE,reduceIte,rL,rA,al90,g1,g2,g11,ud,d1,d3,d4,j1,j2];obtain ⟨he,hhe,ne,se,ke,fe⟩:=nsE hd (.cells [iv 0,iv 0,iv 0] 90) (.cells [iv n,iv th,iv wo] 90);rw [<-hhe];apply hn;clear hn hp K hhe;refine bR (fun tm=>tm.get 1=some v/\tm.get 2=some (.ptr h.n 0)/\tm.get 5=some xo/\tm.get 6=some (.sl h1.n 0 ls.length 1)/\tm.get 7=some (iv t)/\tm.get 8=some (iv (bv bb))/\tm.get 9=some (iv (bvl vl bb))/\tm.get 10=some (.ptr hg.n 0)/\tm.get 11=some (iv j)/\tm.get 12=some (.ptr p1 0)/\tm.get 13=some (iv 0)/\tm.get 14=some (.ptr hd.n 0)) ⟨by simp [xZZ,g1],by simp [xZZ,g2],by simp [xZZ,g5],by simp [xZZ,g6],by simp [xZZ,g7],by simp [xZZ,g8],by simp [xZZ,g9],by simp [xZZ,g10],by simp [xZZ,g11],by simp [xZZ],by simp [xZZ],by simp [xZZ]⟩ fun tm ht9=> ?_;clear g1 g2 g5 g6 g7 g8 g9 g10 g11;obtain ⟨g1,g2,g5,g6,g7,g8,g9,g10,g11,g12,g13,g14⟩:=ht9;have feh:Fr hh.n hh he:=fdh.trans fe (by omega);have ue:=(fe.at_ h.n (.inl (by omega))).trans ud;have be:=(feh.at_ h1.n (.inl (by omega))).trans bh;have pe:=(feh.at_ hg.n (.inl mh)).trans ph;have sde:=(ke p1 (by omega)).trans sd;have n1:=ht'.n1;have n3:=ht'.n3;have wo1:=ht'.w1;have wo2:=ht'.w100;have y1:=ix154 (b:=h1.n) hj;obtain ⟨u,hu⟩: ∃u,u=(S t).1.getD j false:=⟨_,rfl⟩;have y2:(wE (S t).1)[j]? =some (.val (.bool u)):=by
      have hl':=hSl t;rw [xZI,xZW (by omega),hu,xZN,xZW (by omega)];rfl
     have hcj:uR (S t).1 op j=(!u && op j):=by rw [uR,<-hu]
     have vjw:vl j=wo*A1:=by rw [vj',e4,xZT,ht'.tb]
     have q1:0<=wo*A1:=Int.mul_nonneg (by omega) gb1.1;have q2:wo*A1<=100*65:=Int.mul_le_mul wo2 gb1.2 gb1.1 (by omega);have wv:IntKind.i64.wrap (A1*wo)=vl j:=by rw [Int.mul_comm,<-vjw];exact wrap_i64 _ (by omega) (by omega)
     have dn1:decide (A1<0)=false:=decide_eq_false (by omega);have dn2:decide (120<A1)=false:=decide_eq_false (by omega);have his2: ∀i,i<n-> ∀i',i'<n->w.m.is ((r0+i:Nat):Int) ((c0+i':Nat):Int) 2=true:=by
      have h2:=(hboth s hsm).2;rw [hs0,Wk.pcan_q ht'] at h2;simp only [Mp.pcan,xZV,yJ,xZT] at h2;exact h2.2.2.1
     refine qE ?_;have feg:Fr hg.n hg he:=fh.trans feh (by omega);cases u with
     |true=>
      refine qA fun K hn hp=> ?_;simp only [sy.1,rE,reduceIte,rL,g6,g11,be,y1,y2];apply hn;clear hn hp K;refine qC true (by simp only [sy.1,rE,reduceIte]) (fun _=> ?_) (fun hx=>by cases hx);refine qR (next _ _ he bb pl (.inr rfl) feg (by omega) pe (qAi hbb fun hc=>by rw [hcj] at hc;cases hc) hpl ?_ ?_ ?_ ?_ ?_ ?_ ?_ ?_ ?_);all_goals simp [xZZ,g1,g2,g5,g6,g7,g8,g9,g10,g11]
     |false=>
      refine qA fun K hn hp=> ?_;simp only [sy.1,rE,reduceIte,rL,g6,g9,g11,be,se,sde,g12,g13,g14,wv,dn1,dn2,y1,y2];apply hn;clear hn hp K;by_cases cv:vl j<=bvl vl bb
      ·refine qC true (by simp only [sy.1,rE,reduceIte,decide_eq_true cv]) (fun _=> ?_) (fun hx=>by cases hx);refine qR (next _ _ he bb pl (.inr rfl) feg (by omega) pe (qAi hbb fun hc=>⟨cv,fun _=> ?_⟩) hpl ?_ ?_ ?_ ?_ ?_ ?_ ?_ ?_ ?_)
       ·rw [hcj,oj] at hc;simp only [Wk.opp,Bool.not_false,Bool.true_and,xZV,decide_eq_true_eq] at hc;omega
       all_goals simp [xZZ,g1,g2,g5,g6,g7,g8,g9,g10,g11]
      refine qC false (by simp only [sy.1,rE,reduceIte,decide_eq_false cv]) (fun hx=>by cases hx) (fun _=> ?_);refine qI ?_;obtain ⟨NN,hNN⟩: ∃NN,NN=n*n:=⟨_,rfl⟩;have hN9:NN<=9:=by
       rw [hNN];have:=Nat.mul_le_mul n3 n3;omega
      have wn:(n:Int)*(n:Int)=(NN:Int):=by rw [hNN];simp
      have w1:IntKind.i64.wrap ((NN:Int))=NN:=wrap_i64 _ (by omega) (by omega);have w2:IntKind.i64.wrap ((NN:Int) - 1)=(NN:Int) - 1:=wrap_i64 _ (by omega) (by omega);refine qA fun K hn hp=> ?_;simp only [sy.1,rE,reduceIte,rL,se,g14,wn,w1,w2];apply hn;clear hn hp K;refine jU fun KX X1 X2 X3 X4 X5=> ?_;refine qS (sok xt) (fun st=> ∃(k:Nat) (hx:Hp) (fd:Bool) (pl':Int×Int) (tm:T AV),st=⟨tm,134,hx,[]⟩/\k<=NN/\tm.get 1=some (v)/\tm.get 2=some (.ptr h.n 0)/\tm.get 5=some (xo)/\tm.get 6=some (.sl h1.n 0 ls.length 1)/\tm.get 7=some (iv t)/\tm.get 8=some (iv (bv (if fd=true then some j else bb)))/\tm.get 9=some (iv (bvl vl (if fd=true then some j else bb)))/\tm.get 10=some (.ptr hg.n 0)/\tm.get 11=some (iv j)/\tm.get 12=some (.ptr p1 0)/\tm.get 14=some (.ptr hd.n 0)/\tm.get 15=some (iv ((NN:Int) - 1 - k))/\Fr hg.n hg hx/\he.n<=hx.n/\hx.t.get p1=some (.cells [iv A1,iv A2] 43)/\hx.t.get hd.n=some (.cells [iv n,iv th,iv wo] 90)/\hx.t.get hg.n=some (.cells [iv pl'.1,iv pl'.2] 141)/\(fd=true->w.hit1 s pl'=true/\w.m.bare pl'.1 pl'.2=true)/\(fd=false->pl'=pl/\ ∀x,NN - k<=x->x<NN->w.m.bare ((r0+x / n:Nat):Int) ((c0+x % n:Nat):Int)=false)) (fun st=>(match st.tm.get 15 with|some (.val (.int _ n))=>(n+1).toNat|_=>0)) ?_ ?_
      ·rintro st ⟨k,hx,fd,pl',tm,rfl,hkX,g1,g2,g5,g6,g7,g8,g9,g10,g11,g12,g14,g15,fx,lx,x1,x2,x3,hf1,hf2⟩;have muX:=g15;have dk:decide ((0:Int)<=(NN:Int) - 1 - (k:Int))=decide (k<NN):=decide_eq_decide.2 (by omega);refine qE ?_;refine qA fun K hn hp=> ?_;simp only [sy.1,reduceIte,rL,g15,dk];apply hn;clear hn hp K;by_cases hk:k<NN
       ·refine qC true (by simp only [sy.1,rE,reduceIte,hk]) (fun _=> ?_) (fun hx=>by cases hx);refine qI ?_;refine qF fun KY Y1 Y2 Y3 Y4 Y5=> ?_;obtain ⟨x,hx0⟩: ∃x,x=NN - 1 - k:=⟨_,rfl⟩;rw [sub_last NN k hk,<-hx0] at g15;have n0:(n:Int)≠0:=by omega
        obtain ⟨xq,hxq⟩: ∃y,y=x / n:=⟨_,rfl⟩;obtain ⟨xm,hxm⟩: ∃y,y=x % n:=⟨_,rfl⟩;have hxn:xq<n:=by rw [hxq];exact Nat.div_lt_of_lt_mul (by omega)
        have hxm':xm<n:=by rw [hxm];exact Nat.mod_lt _ (by omega)
        have wq:IntKind.i64.wrap ((x:Int).tdiv (n:Int))=(xq:Int):=by rw [<-Int.ofNat_tdiv,<-hxq];exact wrap_i64 _ (by omega) (by omega)
        have wm:(x:Int).tmod (n:Int)=(xm:Int):=by rw [hxm];exact (Int.ofNat_tmod x n).symm
        have wr:IntKind.i64.wrap ((r0:Int)+(xq:Int))=((r0+xq:Nat):Int):=by rw [wrap_i64 _ (by omega) (by omega)];omega
        have wc:IntKind.i64.wrap ((c0:Int)+(xm:Int))=((c0+xm:Nat):Int):=by rw [wrap_i64 _ (by omega) (by omega)];omega
        have fxh:Fr h.n h hx:=fh1.trans (fg.trans fx (by omega)) (by omega);have hlx:=hl.fr fxh (xZY _);have hax:=ha.fr fxh (xZY _);have ux:=(fx.at_ h.n (.inl (by omega))).trans ug;obtain ⟨c1,_,_,_⟩:=hlx.at_ hs;obtain ⟨c2,c3,c4,c5⟩:=hlx.at0 hs;have er:s.1=(r0:Int):=by rw [hs0]
        have ec:s.2.1=(c0:Int):=by rw [hs0]
        rw [er] at c3;rw [ec] at c5;refine qDv (sok xt) 21 (by kernel_rfl) fun K hn hp=> ?_;simp only [sy.1,rE,reduceIte,rL,rA,syw.1,g1,g11,g14,g15,x2,c1,c2,c3,c4,c5,qEk _ _ n0,abin_rem _ _ n0,wq,wm,wr,wc];refine qB (sok xt) (place_c xt hx _ _ fun m5 hm5=> ?_);simp only [sw.1,rE,reduceIte,rL,rA,syw.1,al141,hm5];obtain ⟨hy,hhy,ny,s8,ky,fy⟩:=nsE (hx.up m5) (.cells [iv 0,iv 0] 141) (.cells [iv ((r0+xq:Nat):Int),iv ((c0+xm:Nat):Int)] 141);simp only [xZJ,Hp.up_t] at hhy ny s8 ky fy;rw [<-hhy];apply hn;clear hn hp K hhy;have fyx:Fr hx.n hx hy:=((Fr.refl (xZY _)).up (m:=m5) (by omega)).trans fy (by omega);have uy:=(fyx.at_ h.n (.inl (by omega))).trans ux;have z1:=(fyx.at_ p1 (.inl (by omega))).trans x1;have z2:=(fyx.at_ hd.n (.inl (by omega))).trans x2;have z3:=(fyx.at_ hg.n (.inl (by omega))).trans x3;have hay:=ha.fr (fxh.trans fyx (by omega)) (xZY _);refine qA fun K hn hp=> ?_;simp only [sy.1,rE,reduceIte,rL,rA,rD,g2,uy,s8];refine qB (sok xt) (qCe xt hy w.m hay.m ((r0+xq:Nat):Int) ((c0+xm:Nat):Int) fun m6 hm6=> ?_);have hbe:w.m.bare ((r0+xq:Nat):Int) ((c0+xm:Nat):Int)= !uQ w.m.ps ((r0+xq:Nat):Int) ((c0+xm:Nat):Int):=by rw [Mp.bare,his2 xq hxn xm hxm',Bool.true_and]
        have hyx:Fr hg.n hg (hy.up m6):=(fx.trans fyx (by omega)).up (by omega);have w15:IntKind.i64.wrap ((x:Int) - 1)=(NN:Int) - 1 - ((k+1:Nat):Int):=by rw [wrap_i64 _ (by omega) (by omega)];omega
        cases c6:uQ w.m.ps ((r0+xq:Nat):Int) ((c0+xm:Nat):Int)
        ·rw [c6] at hbe;simp only [sy.1,rE,reduceIte,rL];apply hn;clear hn hp K;refine qH true (by simp only [sy.1,rE,reduceIte]) (fun _=> ?_) (fun hx=>by cases hx);refine regD (sok xt) 9 (by kernel_rfl) fun K hn hp=> ?_;have wv':IntKind.i64.wrap (A1*wo)=bvl vl (some j):=wv;simp only [sw.1,rE,reduceIte,rL,rA,g10,g11,g12,g14,z1,z2,z3,s8,wv'];refine hn _ _ (Y1 _ ?_);clear hn hp K;obtain ⟨hZ,hhZ⟩: ∃hZ:Hp,hZ=(hy.up m6).set hg.n (.cells [iv ((r0+xq:Nat):Int),iv ((c0+xm:Nat):Int)] 141):=⟨_,rfl⟩;rw [<-hhZ];have nZ:hZ.n=m6:=by rw [hhZ];rfl
         have kZ: ∀b,b≠hg.n->hZ.t.get b=hy.t.get b:=fun b hb=>by rw [hhZ,xYU,xZZ,if_neg hb];rfl
         have sZ:hZ.t.get hg.n=some (.cells [iv ((r0+xq:Nat):Int),iv ((c0+xm:Nat):Int)] 141):=by rw [hhZ,xYU,xZZ,if_pos rfl]
         have fZ:Fr hg.n hg hZ:=by rw [hhZ];exact hyx.set (xZY _) (by simp only [xZJ];omega) _
         clear hhZ;have hit:w.hit1 s (((r0+xq:Nat):Int),((c0+xm:Nat):Int))=true:=by
          rw [hs0];simp only [Wk.hit1,gP,xZT,ht'.tb,xZV,zC];omega
         refine reg fun K hn hp=> ?_;simp only [sy.1,rE,reduceIte,rL,g15,w15];apply hn;clear hn hp K;refine ⟨⟨k+1,hZ,true,(((r0+xq:Nat):Int),((c0+xm:Nat):Int)),_,rfl,by omega,(by simp [xZZ,g1]),(by simp [xZZ,g2]),(by simp [xZZ,g5]),(by simp [xZZ,g6]),(by simp [xZZ,g7]),(by simp [xZZ]),(by simp [xZZ]),(by simp [xZZ,g10]),(by simp [xZZ,g11]),(by simp [xZZ,g12]),(by simp [xZZ,g14]),(by simp [xZZ]),fZ,by omega,(kZ p1 (by omega)).trans z1,(kZ hd.n (by omega)).trans z2,sZ,(fun _=>⟨hit,by rw [hbe];rfl⟩),(fun e=>by cases e)⟩,by simp [xZZ,muX];omega⟩
        ·rw [c6] at hbe;simp only [sy.1,rE,reduceIte,rL];apply hn;clear hn hp K;refine qH false (by simp only [sy.1,rE,reduceIte]) (fun hx=>by cases hx) (fun _=> ?_);refine qY (Y1 _ ?_);refine reg fun K hn hp=> ?_;simp only [sy.1,rE,reduceIte,rL,g15,w15];apply hn;clear hn hp K;refine ⟨⟨k+1,hy.up m6,fd,pl',_,rfl,by omega,(by simp [xZZ,g1]),(by simp [xZZ,g2]),(by simp [xZZ,g5]),(by simp [xZZ,g6]),(by simp [xZZ,g7]),(by simp [xZZ,g8]),(by simp [xZZ,g9]),(by simp [xZZ,g10]),(by simp [xZZ,g11]),(by simp [xZZ,g12]),(by simp [xZZ,g14]),(by simp [xZZ]),hyx,by simp only [xZJ];omega,z1,z2,z3,hf1,(fun e=>⟨(hf2 e).1,fun y h1 h2=> ?_⟩)⟩,by simp [xZZ,muX];omega⟩;by_cases ey:y=x
         ·rw [ey,<-hxq,<-hxm,hbe];rfl
         ·exact (hf2 e).2 y (by omega) h2
       ·refine qC false (by simp only [sy.1,rE,reduceIte,hk]) (fun hx=>by cases hx) (fun _=> ?_);obtain rfl:k=NN:=by omega
        have hb0:0<=bvl vl bb:=by
         cases bb with
         |none=>exact Int.le_refl _
         |some b=>exact (hvb b (by have:=(kN hbb.symm).1;omega)).1
        cases fd with
        |true=>
         obtain ⟨z1,z2⟩:=hf1 rfl;have hbar:=qEa hbs z2 z1;have hc:uR (S t).1 op j=true:=by
          rw [hcj,oj,Wk.opp,hbar,<-vj,decide_eq_true (show 0<vl j by omega)];rfl
         refine qR (X2 _ (next .normal _ hx (some j) pl' (.inl rfl) fx (by omega) x3 (best_take hbb hc (by omega)) (fun b s' e hs'=> ?_) ?_ ?_ ?_ ?_ ?_ ?_ ?_ ?_ ?_))
         ·cases e;rw [hs] at hs';cases hs';exact ⟨z1,z2⟩
         all_goals simp only [if_true] at g8 g9
         all_goals simp [xZZ,g1,g2,g5,g6,g7,g8,g9,g10,g11]
        |false=>
         obtain ⟨z1,z2⟩:=hf2 rfl;subst z1;have hbar:w.bar s=false:=by
          rw [hs0];refine bar_no ht' fun i hi i' hi'=> ?_;have hlt:i*n+i'<n*n:=by
           have:=Nat.mul_le_mul_right n (show i+1<=n by omega);rw [Nat.add_mul] at this;omega
          have:=z2 (i*n+i') (by omega) (by omega)
          rwa [Nat.mul_comm i n,Nat.mul_add_div (by omega),Nat.div_eq_of_lt hi',Nat.add_zero,Nat.mul_add_mod,Nat.mod_eq_of_lt hi'] at this
         refine qR (X2 _ (next .normal _ hx bb pl' (.inl rfl) fx (by omega) x3 (qAi hbb fun hc=> ?_) hpl ?_ ?_ ?_ ?_ ?_ ?_ ?_ ?_ ?_))
         ·rw [hcj,oj,Wk.opp,hbar] at hc;cases hc
         all_goals simp only [Bool.false_eq_true,if_false] at g8 g9
         all_goals simp [xZZ,g1,g2,g5,g6,g7,g8,g9,g10,g11]
      ·exact ⟨0,he,false,pl,_,rfl,(by omega),(by simp [xZZ,g1]),(by simp [xZZ,g2]),(by simp [xZZ,g5]),(by simp [xZZ,g6]),(by simp [xZZ,g7]),(by simp [xZZ,g8]),(by simp [xZZ,g9]),(by simp [xZZ,g10]),(by simp [xZZ,g11]),(by simp [xZZ,g12]),(by simp [xZZ,g14]),(by simp [xZZ]),feg,xZY _,sde,se,pe,(fun h=>by cases h),fun _=>⟨rfl,fun x h1 h2=>by omega⟩⟩
    ·refine qC false (by simp only [sy.1,rE,reduceIte,hj]) (fun hx=>by cases hx) (fun _=> ?_);refine qR (D2 _ ?_);obtain rfl:j=ls.length:=by omega
     have hSt:=hS1 t;rw [grd1,<-hbb] at hSt;have ogh:=og.fr fh (xZY _);have fhh:Fr h1.n h1 hh:=fg.trans fh (by omega);have bgh:=(fh.at_ h1.n (.inl mg)).trans bg;cases bb with
     |none=>
      have bn:bv none= -1:=rfl;have dn:decide ((0:Int)<= -1)=false:=rfl;rw [bn] at g8;simp only at hSt;refine qA fun K hn hp=> ?_;simp only [sy.1,rE,reduceIte,rL,g8,dn];apply hn;clear hn hp K;refine qH false (by simp only [sy.1,rE,reduceIte]) (fun hx=>by cases hx) (fun _=> ?_);refine qY (B1 _ ?_);refine reg fun K hn hp=> ?_;simp only [sy.1,rE,reduceIte,rL,g7,qQ ht (show H<=9223372036854775807 by omega)];apply hn;clear hn hp K;refine ⟨⟨t+1,hh,xo,out,_,rfl,by omega,(by simp [xZZ,g1]),(by simp [xZZ,g2]),(by simp [xZZ,g5]),(by simp [xZZ,g6]),(by simp [xZZ]),fhh,by omega,by rw [hSt];exact bgh,ogh,by omega,by rw [hSt];exact ⟨wi.hit,wi.bare,by have:=wi.len;omega⟩⟩,by simpa [xZZ,muA] using (by omega:H - (t+1)<H - t)⟩
     |some b=>
      have bn:bv (some b)=(b:Int):=rfl;have dn:decide ((0:Int)<=(b:Int))=true:=decide_eq_true (by omega);rw [bn] at g8;simp only at hSt;obtain ⟨q1,q2,q3⟩:=kN hbb.symm;obtain ⟨s,hs⟩: ∃s,ls[b]? =some s:=⟨_,xZW q1⟩;obtain ⟨hp1,hp2⟩:=hpl b s rfl hs;have y1:=ix154 (b:=h1.n) q1;have hlb:b+1<=(wE (S t).1).length:=by rw [xZF,hSl];omega
      refine qA fun K hn hp=> ?_;simp only [sy.1,rE,reduceIte,rL,g8,dn];apply hn;clear hn hp K;refine qH true (by simp only [sy.1,rE,reduceIte]) (fun _=> ?_) (fun hx=>by cases hx);have ogl:out.length<=3:=by have:=wi.len;omega
      have onx:=ogh.one;obtain ⟨hB,hhB,nB,sB,kB,fB⟩:=uO hh (.cells [iv pl.1,iv pl.2] 141);obtain ⟨xo',hC,r1,r2,r3,r4⟩:=OwnSl.append (P:=Tryz.prog) (xt:=xt) (m:=1) (by_:=16) (x:= .sl hh.n 0 1 2) (ogh.fr fB (xZY _)) (by omega) pM rfl v6 rfl rfl pM rfl (gB (e:=141) sB rfl rfl) (by omega) rfl (by omega) (by omega);have bgB:=(r3.at_ h1.n (.inl (by omega))).trans ((fB.at_ h1.n (.inl (by omega))).trans bgh);have fCh:Fr h1.n h1 hC:=(fhh.trans fB (by omega)).trans r3 (by omega);refine reg fun K hn hp=> ?_;simp only [sw.1,rE,reduceIte,rL,rA,g5,g6,g8,g10,y1,ph,vG,bs25,<-hhB,r1,bgB,hlb];have hput:(wE (S t).1).take b++[AV.val (.bool true)]++(wE (S t).1).drop (b+1)=wE ((S t).1.set b true):=by
       rw [List.append_assoc];exact blbs_put _ (by rw [hSl];exact q1)
      rw [hput];refine hn _ _ (B1 _ ?_);clear hn hp K hhB;obtain ⟨h9,hh9⟩: ∃h9:Hp,h9=hC.set h1.n (.cells (wE ((S t).1.set b true)) 4):=⟨_,rfl⟩;rw [<-hh9];have n9:h9.n=hC.n:=by rw [hh9];rfl
      have b9:h9.t.get h1.n=some (.cells (wE ((S t).1.set b true)) 4):=by rw [hh9,xYU,xZZ,if_pos rfl]
      have f9:Fr h1.n h1 h9:=by rw [hh9];exact fCh.set (xZY _) (by omega) _
      have o9:OwnSl h9 h7.n 2 141 xo' (out.length+1) ((out.map Kn.p2).flatten.map .val++[iv pl.1,iv pl.2]):=r2.keep (by omega) fun k hk _=>by rw [hh9,xYU,xZZ,if_neg (by omega)]
      clear hh9;have wi':=wi.step hblk hpw hs (by rw [hSl];exact q1) hp1 hp2;refine reg fun K hn hp=> ?_;simp only [sy.1,rE,reduceIte,rL,g7,qQ ht (show H<=9223372036854775807 by omega)];apply hn;clear hn hp K;refine ⟨⟨t+1,h9,xo',out++[pl],_,rfl,by omega,(by simp [xZZ,g1]),(by simp [xZZ,g2]),(by simp [xZZ]),(by simp [xZZ,g6]),(by simp [xZZ]),f9,by omega,by rw [hSt];exact b9,by simpa [Kn.p2] using o9,by omega,by rw [hSt];exact wi'⟩,by simpa [xZZ,muA] using (by omega:H - (t+1)<H - t)⟩
   ·exact ⟨0,hz,none,(0,0),_,rfl,(by omega),(by simp [xZZ,g1]),(by simp [xZZ,g2]),(by simp [xZZ,g5]),(by simp [xZZ,g6]),(by simp [xZZ,g7]),(by simp [xZZ]),(by simp [xZZ]),(by simp [xZZ]),(by simp [xZZ]),fz,by omega,sz,rfl,(fun b s e _=>by cases e)⟩
  ·refine qC false (by simp only [sy.1,rE,reduceIte,ht]) (fun hx=>by cases hx) (fun _=> ?_);refine qR (A2 _ ?_);obtain rfl:t=H:=by omega
   refine qA fun K hn hp=> ?_;simp only [sy.1,rE,reduceIte,rL,g5];apply hn;clear hn hp K;refine qD (qK res47 ⟨xo,out,?_,⟨OwnSl.row (by intro c hc;obtain ⟨p,_,rfl⟩:=xZB.1 hc;rfl) (by omega) (by rw [xZF];exact og),by have:=wi.len;omega⟩,hfin out wi,fh1.trans fg (by omega),by omega⟩);simp [xZZ]
 ·exact ⟨0,h7,qAP,[],_,rfl,(by omega),(by simp [xZZ,g1]),(by simp [xZZ,g2]),(by simp [xZZ,g5]),(by simp [xZZ,g6]),(by simp [xZZ]),f7,by omega,by rw [hS00];exact s7,.inl ⟨rfl,rfl,rfl⟩,xZY _,⟨fun j s hs=>by rw [hS00,xZN,List.getElem?_replicate];split<;>rfl,fun p hp=>(by cases hp),xZY _⟩⟩
end Go.Proofs.Kn
namespace Go.Proofs.Kn
open Go Go.Ev
set_option maxRecDepth 100000
set_option maxHeartbeats 4000000
theorem plc_nil (xt:Addr->Option Value) (h:Hp):Plc xt h qAP []:=⟨⟨(by intro c hc;cases hc),by omega,.inl ⟨rfl,rfl⟩⟩,by simp⟩
theorem hok_nil {w:Wk} (h:0<=w.m.H):w.hok []=true:=by
 rw [Wk.hok,decide_eq_false (by simp;omega)];rfl
theorem left_nil (w:Wk) (ls:List (Int×Int×Int)):w.left [] ls=ls:=xZA.2 fun s _=>by simp [Wk.hit]
theorem ft10 (xt:Addr->Option Value):(SE xt).ft.get 10=some Tryz.f10:=by kernel_rfl
theorem qAx:Tryz.f10.results.toList=[.tmp 6]:=by kernel_rfl
theorem qEr (xt:Addr->Option Value) (h:Hp) (w:Wk) (ha:w.At xt h) (v:AV) (ls:List (Int×Int×Int)) (hl:Cuts xt h v ls) (u:AV) (hs:List (Int×Int)) (hu:Plc xt h u hs):FnA (SE xt) 10 [w.av,v,u] h xJ:=by
 refine FnA.walk (sok xt) (ft10 xt) rfl 129 rfl ?_;obtain ⟨o1,o2,o3,o4,o5⟩:=ha.ones;have hlen:=hl.len;have hlenU:=hu.len;refine qA fun K hn hp=> ?_;simp only [sw.1,rE,reduceIte,rL,rA];apply hn;obtain ⟨h1,hh1,n1,s1,k1,f1⟩:=uO h (.cells w.cs 30);rw [<-hh1];clear hh1;have ha1:=ha.fr f1 (xZY _);have hl1:=hl.fr f1 (xZY _);have hu1:=hu.fr f1 (xZY _);refine qE ?_;refine qA fun K hn hp=> ?_;simp only [sy.1,rE,reduceIte,rL,rA,s1];refine qB (sok xt) (brief_c xt h1 w ha1 fun m1 hm1=> ?_);cases q1:w.brief
 ·simp only [sy.1,rE,reduceIte,rL];apply hn;refine qC true (by simp only [sy.1,rE,reduceIte]) (fun _=> ?_) (fun hx=>by cases hx);refine qE ?_;refine qA fun K hn hp=> ?_;simp only [sy.1];refine qB (sok xt) (y8 xt _ fun m9 hm9=> ?_);simp only [sy.1,rE,reduceIte,rL];refine hn _ _ (qU (qK qAx ?_));simp [xZZ,xJ]
 simp only [sy.1,rE,reduceIte,rL,syw.1,hlen];cases q2:decide ((50:Int)<ls.length)
 case true=>
  simp only [sy.1,rE,reduceIte,rL];apply hn;refine qC true (by simp only [sy.1,rE,reduceIte]) (fun _=> ?_) (fun hx=>by cases hx);refine qE ?_;refine qA fun K hn hp=> ?_;simp only [sy.1];refine qB (sok xt) (y8 xt _ fun m9 hm9=> ?_);simp only [sy.1,rE,reduceIte,rL];refine hn _ _ (qU (qK qAx ?_));simp [xZZ,xJ]
 cases q3:decide ((6:Int)<hs.length)
 case true=>
  simp only [sy.1,rE,reduceIte,rL,syw.1,hlenU,q3];apply hn;refine qC true (by simp only [sy.1,rE,reduceIte]) (fun _=> ?_) (fun hx=>by cases hx);refine qE ?_;refine qA fun K hn hp=> ?_;simp only [sy.1];refine qB (sok xt) (y8 xt _ fun m9 hm9=> ?_);simp only [sy.1,rE,reduceIte,rL];refine hn _ _ (qU (qK qAx ?_));simp [xZZ,xJ]
 simp only [sy.1,rE,reduceIte,rL,rA,syw.1,hlenU,s1,q3];have hl50:ls.length<=1000000:=by have:=of_decide_eq_false q2;omega
 refine qB (sok xt) (rwork_c xt (h1.up m1) w (ha1.up (by omega)) fun m2 hm2=> ?_);simp only [xZJ] at hm2;cases e1:w.ok
 ·simp only [sy.1,rE,reduceIte,rL,xZK];apply hn;refine qC true (by simp only [sy.1,rE,reduceIte]) (fun _=> ?_) (fun hx=>by cases hx);refine qE ?_;refine qA fun K hn hp=> ?_;simp only [sy.1];refine qB (sok xt) (y8 xt _ fun m9 hm9=> ?_);simp only [sy.1,rE,reduceIte,rL];refine hn _ _ (qU (qK qAx ?_));simp [xZZ,xJ]
 have his:=Wk.ok_is e1;have hH:=Wk.ok_H e1;simp only [sy.1,rE,reduceIte,rL,rA,s1,xZK];refine qB (sok xt) (rcut_c xt (h1.up m2) w (ha1.up (by omega)) his v ls (hl1.up (by omega)) fun m3 hm3=> ?_);simp only [xZJ] at hm3;cases e2:w.cut ls
 ·simp only [sy.1,rE,reduceIte,rL,xZK];apply hn;refine qC true (by simp only [sy.1,rE,reduceIte]) (fun _=> ?_) (fun hx=>by cases hx);refine qE ?_;refine qA fun K hn hp=> ?_;simp only [sy.1];refine qB (sok xt) (y8 xt _ fun m9 hm9=> ?_);simp only [sy.1,rE,reduceIte,rL];refine hn _ _ (qU (qK qAx ?_));simp [xZZ,xJ]
 simp only [sy.1,rE,reduceIte,rL,rA,rD,s1,xZK];refine qB (sok xt) (rholes_c xt (h1.up m3) w.m (ha1.up (n:=m3) (by omega)).m u hs (hu1.up (by omega)) fun m4 hm4=> ?_);simp only [xZJ] at hm4;rw [holes_hok his.rc];cases e3:w.hok hs
 ·simp only [sy.1,rE,reduceIte,rL,xZK];apply hn;refine qC true (by simp only [sy.1,rE,reduceIte]) (fun _=> ?_) (fun hx=>by cases hx);refine qE ?_;refine qA fun K hn hp=> ?_;simp only [sy.1];refine qB (sok xt) (y8 xt _ fun m9 hm9=> ?_);simp only [sy.1,rE,reduceIte,rL];refine hn _ _ (qU (qK qAx ?_));simp [xZZ,xJ]
 simp only [sy.1,rE,reduceIte,rL,xZK];apply hn;refine qC false (by simp only [sy.1,rE,reduceIte]) (fun hx=>by cases hx) (fun _=> ?_);refine qI ?_;refine qA fun K hn hp=> ?_;simp only [sy.1,rE,reduceIte,rL,rA,s1];refine qB (sok xt) (qBc xt (h1.up m4) w (ha1.up (by omega)) v ls (hl1.up (by omega)) hl50 u hs (hu1.up (by omega)) fun m5 hm5=> ?_);simp only [xZJ] at hm5;simp only [sy.1,rE,reduceIte,rL,sv.1,xZK];apply hn;refine qA fun K hn hp=> ?_;simp only [sy.1,rE,reduceIte,rL,rA,s1];refine qB (sok xt) (sound_c xt (h1.up m5) w (ha1.up (by omega)) v ls (hl1.up (by omega)) hl50 fun m6 hm6=> ?_);simp only [xZJ] at hm6;simp only [sy.1,rE,reduceIte,rL,sv.1,xZK];apply hn;refine qA fun K hn hp=> ?_;simp only [sy.1,rE,reduceIte,rL,rA,s1];refine qB (sok xt) (worth_c xt (h1.up m6) w (ha1.up (by omega)) v ls (hl1.up (by omega)) hl50 fun m7 hm7=> ?_);simp only [xZJ] at hm7;obtain ⟨h8,hh8,n8,s8,k8,f8⟩:=nsE (h1.up m7) (.cells [iv 0,iv 0] 43) (.cells [iv (w.pworth ls).1.1,iv (w.pworth ls).1.2] 43);simp only [xZJ,Hp.up_t] at hh8 n8 s8 k8 f8;simp only [sw.1,rE,reduceIte,rL,rA,sv.1,xZK];rw [<-hh8];apply hn;clear hh8;have f81:Fr h1.n h1 h8:=((Fr.refl (xZY _)).up (m:=m7) (by omega)).trans f8 (by omega);have u8:=(f81.at_ h.n (.inl (by omega))).trans s1;have ha8:=ha1.fr f81 (xZY _);have hl8:=hl1.fr f81 (xZY _);refine bR (fun tm=>tm.get 1=some v/\tm.get 2=some u/\tm.get 3=some (.ptr h.n 0)/\tm.get 7=some (iv (w.pspoilt ls hs).1)/\tm.get 8=some (iv (w.pspoilt ls hs).2)/\tm.get 9=some (iv (w.psound ls).1)/\tm.get 10=some (iv (w.psound ls).2)/\tm.get 11=some (.ptr m7 0)/\tm.get 12=some (iv (w.pworth ls).2)) ⟨by simp [xZZ],by simp [xZZ],by simp [xZZ],by simp [xZZ],by simp [xZZ],by simp [xZZ],by simp [xZZ],by simp [xZZ],by simp [xZZ]⟩ fun tm ht=> ?_;obtain ⟨g1,g2,g3,g7,g8,g9,g10,g11,g12⟩:=ht;have d7: ∀x:Int,decide (x=x)=true:=fun x=>decide_eq_true rfl;cases hb:w.m.bnd with
 |none=>
  have y1:w.pspoilt ls hs=(0,7):=by simp [Wk.pspoilt,e1,e2,e3,hb]
  have y2:w.psound ls=(0,7):=by simp [Wk.psound,e1,e2,hb]
  have y3:w.pworth ls=((0,0),7):=by simp [Wk.pworth,e1,e2,hb]
  rw [y1] at g7 g8;rw [y2] at g9 g10;rw [y3] at g12 s8;refine qE ?_;refine qA fun K hn hp=> ?_;simp only [sy.1,rE,reduceIte,rL,g8,g10,g12];apply hn;refine qC false (by simp only [sy.1,rE,reduceIte]) (fun hx=>by cases hx) (fun _=> ?_);refine qI ?_;refine qE ?_;refine qA fun K hn hp=> ?_;simp only [sy.1,rE,reduceIte,rL,g8,d70];apply hn;refine qC true (by simp only [sy.1,rE,reduceIte]) (fun _=> ?_) (fun hx=>by cases hx);refine qE ?_;refine qA fun K hn hp=> ?_;simp only [sy.1,rE,reduceIte,rL,g8];refine qB (sok xt) (y8 xt _ fun m9 hm9=> ?_);simp only [sy.1,rE,reduceIte,rL];refine hn _ _ (qU (qK qAx ?_));simp [xZZ,xJ]
 |some G=>
  have y1:w.pspoilt ls hs=(w.V G (w.left hs ls),0):=by simp [Wk.pspoilt,e1,e2,e3,hb]
  have y2:w.psound ls=(w.V G ls - p9 (w.lvs G ls) w.m.H,0):=by simp [Wk.psound,e1,e2,hb]
  have y3:w.pworth ls=((w.V G ls,w.worth (w.give (gHi G)) ls),0):=by simp [Wk.pworth,e1,e2,hb,Wk.V_worth]
  obtain ⟨b1,b2⟩:=sound_le e1 e2 hb e3;obtain ⟨VW,hVW⟩: ∃x,x=w.worth (w.give (gHi G)) ls:=⟨_,rfl⟩;rw [<-hVW] at y3;rw [y1] at g7 g8;rw [y2] at g9 g10;rw [y3] at g12 s8;refine qE ?_;refine qA fun K hn hp=> ?_;simp only [sy.1,rE,reduceIte,rL,g8,g10,g12];apply hn;refine qC false (by simp only [sy.1,rE,reduceIte]) (fun hx=>by cases hx) (fun _=> ?_);refine qI ?_;refine qE ?_;refine qA fun K hn hp=> ?_;simp only [sy.1,rE,reduceIte,rL,g8];apply hn;refine qC false (by simp only [sy.1,rE,reduceIte]) (fun hx=>by cases hx) (fun _=> ?_);refine qI ?_;refine uT (sok xt) 0 0 10 [(0,1)] (by kernel_rfl) fun K hn hp=> ?_;simp only [sy.1,rE,reduceIte,rL,rA,syw.1,u8,g1,g3];refine qB (sok xt) (FnA.mono (worst_c xt h8 w ha8 e1 G hb v ls hl8 hl50 e2) fun res h9 hres=> ?_);obtain ⟨xo,out,rfl,hpo,⟨c1,c2⟩,f9,l9⟩:=hres;have u9:=(f9.at_ h.n (.inl (by omega))).trans u8;have s9:=(f9.at_ m7 (.inl (by omega))).trans s8;have y4:w.pspoilt ls out=(w.V G ls - p9 (w.lvs G ls) w.m.H,0):=by simp [Wk.pspoilt,e1,e2,c1,c2,hb]
  have ha9:=ha8.fr f9 (xZY _);have hl9:=hl8.fr f9 (xZY _);simp only [sy.1,rE,reduceIte,rL,rA,syw.1,l9];refine qB (sok xt) (qBc xt h9 w ha9 v ls hl9 hl50 xo out hpo fun m10 hm10=> ?_);rw [y4];simp only [sy.1,rE,reduceIte,rL,rA,sv.1,g3,u9,hm10];apply hn;refine bR (fun tm=>tm.get 1=some v/\tm.get 3=some (.ptr h.n 0)/\tm.get 7=some (iv (w.V G (w.left hs ls)))/\tm.get 9=some (iv (w.V G ls - p9 (w.lvs G ls) w.m.H))/\tm.get 11=some (.ptr m7 0)/\tm.get 13=some (iv (w.V G ls - p9 (w.lvs G ls) w.m.H))/\tm.get 14=some (iv 0)) ⟨by simp [xZZ,g1],by simp [xZZ,g3],by simp [xZZ,g7],by simp [xZZ,g9],by simp [xZZ,g11],by simp [xZZ],by simp [xZZ]⟩ fun tm ht=> ?_;clear g1 g2 g3 g7 g8 g9 g10 g11 g12;obtain ⟨g1,g3,g7,g9,g11,g13,g14⟩:=ht;have y5:w.pspoilt ls []=(w.V G ls,0):=by simp [Wk.pspoilt,e1,e2,hok_nil hH.1,left_nil,hb]
  have dg:decide (w.V G ls - p9 (w.lvs G ls) w.m.H<=w.V G (w.left hs ls))=true:=decide_eq_true b1;have dl:decide (w.V G (w.left hs ls)<=w.V G ls)=true:=decide_eq_true b2;refine qA fun K hn hp=> ?_;simp only [sy.1,rE,reduceIte,rL,rA,g1,g3,u9];refine qB (sok xt) (qBc xt (h9.up m10) w (ha9.up (by omega)) v ls (hl9.up (by omega)) hl50 qAP [] (plc_nil xt _) fun m11 hm11=> ?_);simp only [xZJ] at hm11;rw [y5];simp only [sy.1,rE,reduceIte,rL,sv.1,xZK];apply hn;refine qA fun K hn hp=> ?_;simp only [sy.1,rE,reduceIte,rL,g7,g9,g11,s9,g13,g14,dg,dl];refine qB (sok xt) (y8 xt _ fun m12 hm12=> ?_);simp only [sy.1,rE,reduceIte,rL];refine hn _ _ (qD (qK qAx ?_));simp [xZZ,xJ]
end Go.Proofs.Kn
