/- Parts. -/
import Derived.Test.YthimlgffanlomaaGreatDoorQF
set_option linter.all false
open Nat renaming reduceEqDiff → rE, reduceLeDiff → rD, reduceAdd → rA, reduceMul → rM, reduceLT → rL
open Go.Ev.T renaming get_put → xZZ
open Bool renaming false_and → xZY, true_and → xZW, not_false → xZT, and_false → xZP, not_true → xZO
open Go.Ev.Hp renaming up_up → xZX, up_n → xZQ
open List renaming getElem?_eq_getElem → xZV, mem_of_getElem? → xZU, mem_map → xZS, any_map → xZR, all_eq_false → xZL, take_length → xZK, all_eq_true → xZJ
open Option renaming toList_some → xZN
open Nat renaming zero_le → xZM
namespace Go.Proofs.Kn
open Go Go.Ev
set_option maxRecDepth 100000
theorem ft83 (xt:Xt):(SE xt).ft.get 61=some Tryz.f61:=by kernel_rfl
theorem res83:Tryz.f61.results.toList=[.tmp 2]:=by kernel_rfl
def Mp.rowOk (m:Mp) (l:List Int):Bool:=decide ((l.length:Int)=m.C) && (inB l.length 1 8 && !l.any vE)
def Mp.restOk (m:Mp):Bool:=inB m.T 0 9 && (inB m.H 0 3 && (decide ((m.gs.length:Int)<=8) && (decide ((m.ks.length:Int)<=8) && (decide ((m.ps.length:Int)<=12) && (!m.gs.any m.badG && (!m.ks.any m.badK && !m.ps.any (fun p=> !m.is p.1 p.2 2)))))))
def Mp.ok (m:Mp):Bool:=inB m.R 1 6 && (m.cells.all m.rowOk && m.restOk)
theorem kind_asks (xt:Xt) (h:Hp) (l:List Int):kR (SE xt) h (.val (.func (.func 107) #[] #[])) (fun c=> .val (c.headD default)) (l.map c1) (fun c=>match c with|[.int _ x]=>vE x|_=>false):=by
 intro n c K hn hc hk;obtain ⟨x,_,rfl⟩:=xZS.1 hc;exact cAS (bkind_c xt _ x fun n' hn'=>by have:=hk n' hn';rw [xZX];exact this)
theorem qEX (l:List Int):((l.map c1).any fun c=>match c with|[.int _ x]=>vE x|_=>false)=l.any vE:=by
 rw [xZR];rfl
theorem gs_asks (xt:Xt) (h:Hp) (m:Mp) (ha:m.At xt h) (hr:m.Rect) (b:Nat) (hb:b<h.n) (q0:h.t.get b=some (.cells m.cs 27)):kR (SE xt) h (.fn (.func 109) [] [.ptr b 0]) (fun c=> .agg (c.map .val)) (m.gs.map g4) (fun c=>match c with|[.int _ x,.int _ y,.int _ z,.int _ w]=>m.badG (x,y,z,w)|_=>false):=by
 intro n c K hn hc hk;obtain ⟨g,_,rfl⟩:=xZS.1 hc;exact xI (sok xt) (badG_c xt _ m (ha.up hn) hr b (by simp;omega) q0 g fun n' hn'=>by have:=hk n' hn';rw [xZX];exact this)
theorem ks_asks (xt:Xt) (h:Hp) (m:Mp) (ha:m.At xt h) (b:Nat) (hb:b<h.n) (q0:h.t.get b=some (.cells m.cs 27)):kR (SE xt) h (.fn (.func 113) [] [.ptr b 0]) (fun c=> .agg (c.map .val)) (m.ks.map k3) (fun c=>match c with|[.int _ x,.int _ y,.bool z]=>m.badK (x,y,z)|_=>false):=by
 intro n c K hn hc hk;obtain ⟨g,_,rfl⟩:=xZS.1 hc;exact xI (sok xt) (badK_c xt _ m (ha.up hn) b (by simp;omega) q0 g fun n' hn'=>by have:=hk n' hn';rw [xZX];exact this)
theorem ps_asks (xt:Xt) (h:Hp) (m:Mp) (ha:m.At xt h) (hr:m.Rect) (b:Nat) (hb:b<h.n) (q0:h.t.get b=some (.cells m.cs 27)):kR (SE xt) h (.fn (.func 116) [] [.ptr b 0]) (fun c=> .agg (c.map .val)) (m.ps.map p2) (fun c=>match c with|[.int _ x,.int _ y]=> !m.is x y 2|_=>false):=by
 intro n c K hn hc hk;obtain ⟨g,_,rfl⟩:=xZS.1 hc;exact xI (sok xt) (badP_c xt _ m (ha.up hn) hr b (by simp;omega) q0 g fun n' hn'=>by have:=hk n' hn';rw [xZX];exact this)
theorem any_gs (m:Mp):((m.gs.map g4).any fun c=>match c with|[.int _ x,.int _ y,.int _ z,.int _ w]=>m.badG (x,y,z,w)|_=>false)=m.gs.any m.badG:=by
 rw [xZR];rfl
theorem any_ks (m:Mp):((m.ks.map k3).any fun c=>match c with|[.int _ x,.int _ y,.bool z]=>m.badK (x,y,z)|_=>false)=m.ks.any m.badK:=by
 rw [xZR];rfl
theorem any_ps (m:Mp):((m.ps.map p2).any fun c=>match c with|[.int _ x,.int _ y]=> !m.is x y 2|_=>false)=m.ps.any (fun p=> !m.is p.1 p.2 2):=by
 rw [xZR];rfl
theorem isMap_c (xt:Xt) (h:Hp) (m:Mp) (ha:m.At xt h) {K:KP} (hk: ∀n,h.n<n->K (.ret (.val (.bool m.ok))) (h.up n)):FnA (SE xt) 61 [m.av] h K:=by
 refine FnA.calm ?_ hk;clear hk K;refine FnA.walk (sok xt) (ft83 xt) rfl 83 rfl ?_;have hlen:=ha.len;have hlc:=ha.lc;refine qA fun K hn hp=> ?_;simp only [sw.1,reduceIte,rL];apply hn;clear hn hp K;obtain ⟨h1,hh1⟩: ∃h1:Hp,h1=h.new (.cells m.cs 27):=⟨_,rfl⟩;rw [<-hh1];have ha1:m.At xt h1:=by rw [hh1];exact ha.new _
 have n1:h1.n=h.n+1:=by rw [hh1];rfl
 have f1:Fr h.n h h1:=by rw [hh1];exact (Fr.refl (Nat.le_refl _)).new _
 have q2:h1.t.get h.n=some (.cells m.cs 27):=by rw [hh1,Hp.new_t,xZZ,if_pos rfl]
 have retF: ∀(n:Nat) (tm:T AV),h1.n<=n->tm.get 2=some (.val (.bool false))->m.ok=false->xX (SE xt) Tryz.f61 (fun r h'=>r= .ret (.val (.bool m.ok))/\Fr h.n h h') .ret ⟨tm,83,h1.up n,[]⟩:=fun n tm hn g hm=>qK res83 ⟨by simp [g,hm],f1.up hn⟩;refine qB fun K1 hn hp=> ?_;simp only [sy.1,rE,reduceIte,rL,q2,hlen];refine cAS (pZ xt _ _ _ _ fun m1 hm1=> ?_);have hm1:=Nat.le_of_lt hm1;cases e1:(decide ((1:Int)<=m.cells.length) && decide ((m.cells.length:Int)<=6))
 ·simp only [sy.1,rE,reduceIte,rL];apply hn;clear hn hp K1;refine qX (by simp only [sy.1,rE,reduceIte]) ?_;refine qB fun K hn hp=> ?_;simp only [sy.1,rL];apply hn;clear hn hp K;refine qS (retF _ _ hm1 (by simp [xZZ]) (by have e2:inB m.R 1 6=false:=e1;simp only [Mp.ok,e2,xZY]))
 simp only [sy.1,rE,reduceIte,rL];apply hn;clear hn hp K1;refine jL (by simp only [sy.1,rE,reduceIte]) ?_;refine qB fun K hn hp=> ?_;simp only [sy.1,rE,reduceIte,rL,q2,hlen];apply hn;clear hn hp K;refine qC fun K k1 k2 k3 k4 k5=> ?_;have hR:m.R=m.cells.length:=rfl;have hpos:0<m.cells.length:=by
  obtain ⟨z1,_⟩:=Bool.and_eq_true_iff.1 e1;have z1:=of_decide_eq_true z1;omega
 obtain ⟨l0,hl0⟩: ∃l,m.cells[0]? =some l:=⟨_,xZV hpos⟩;have hC:m.C=l0.length:=by
  simp only [Mp.C];cases hm:m.cells with
  |nil=>rw [hm] at hl0;simp at hl0
  |cons x y=>rw [hm] at hl0;simp at hl0;subst hl0;rfl
 refine qI (sok xt) (fun st=> ∃(k n:Nat) (tm:T AV),st=⟨tm,83,h1.up n,[]⟩/\h1.n<=n/\k<=m.cells.length/\(∀l∈m.cells.take k,m.rowOk l=true)/\tm.get 1=some (.ptr h.n 0)/\tm.get 11=some m.vc/\tm.get 12=some (iv m.cells.length)/\tm.get 13=some (iv k))
  (fun st=>m.cells.length - (match st.tm.get 13 with|some (.val (.int _ n))=>n.toNat|_=>0)) ?_ ?_
 ·rintro st ⟨k,n,tm,rfl,hn1,hk,hall,g1,g11,g12,g13⟩;have ht:(decide ((k:Int)<(m.cells.length:Int)))=decide (k<m.cells.length):=by simp
  refine qA fun K hn hp=> ?_;simp only [sy.1,rL,g12,g13];apply hn;clear hn hp K;by_cases hlt:k<m.cells.length
  ·obtain ⟨l,hl⟩: ∃l,m.cells[k]? =some l:=⟨_,xZV hlt⟩;obtain ⟨v,i1,i2,i3,i4⟩:=(ha1.up hn1).row hl;obtain ⟨v0,j1,j2,j3,j4⟩:=(ha1.up hn1).row hl0;have i1:=i1 .i64;have j1:=j1 .i64;simp only [Int.natCast_zero] at j1;refine qV (by simp only [sy.1,reduceIte,ht,hlt]) ?_;refine qC fun K' k1' k2' k3' k4' k5'=> ?_;refine qA fun K hn hp=> ?_;simp only [sy.1,rE,reduceIte,rL,g11,g13,i1,i2];apply hn;clear hn hp K;have bad: ∀(tm':T AV) (n':Nat),h1.n<=n'->tm'.get 2=some (.val (.bool false))->m.rowOk l=false->K' .ret ⟨tm',83,h1.up n',[]⟩:=fun tm' n' hn' g hb=>k4' _ (k4 _ (retF n' tm' hn' g (by
    have:m.cells.all m.rowOk=false:=by
     rw [xZL];exact ⟨l,xZU hl,by simp [hb]⟩
    simp only [Mp.ok,this,xZY,xZP])))
   by_cases w1:(l.length:Int)=m.C
   rotate_left
   ·refine qA fun K hn hp=> ?_;simp only [sy.1,rE,reduceIte,rL,g1,q2,i4,j1,j2,j4,hC.symm,decide_eq_false w1];apply hn;clear hn hp K;refine wcT (by simp only [sy.1,rE,reduceIte]) ?_;refine qA fun K hn hp=> ?_;simp only [sy.1,rL];apply hn;clear hn hp K;refine qD (bad _ n hn1 (by simp [xZZ]) (by simp only [Mp.rowOk,decide_eq_false w1,xZY]))
   refine qA fun K1 hn hp=> ?_;simp only [sy.1,rE,reduceIte,rL,g1,q2,i4,j1,j2,j4,hC.symm,decide_eq_true w1];refine cAS (pZ xt _ _ _ _ fun n2 hn2=> ?_);simp only [xZQ] at hn2;cases w2:(decide ((1:Int)<=l.length) && decide ((l.length:Int)<=8))
   ·simp only [sy.1,rE,reduceIte,rL,xZX];apply hn;clear hn hp K1;refine wcT (by simp only [sy.1,rE,reduceIte]) ?_;refine qA fun K hn hp=> ?_;simp only [sy.1,rL];apply hn;clear hn hp K;refine qD (bad _ n2 (by omega) (by simp [xZZ]) (by have e2:inB l.length 1 8=false:=w2;simp only [Mp.rowOk,e2,xZY,xZP]))
   simp only [sy.1,rE,reduceIte,rL,xZX];refine cAS (any149_c xt _ v _ _ _ (i3.up (by simp;omega)) (by have:=ha.lr l (xZU hl);simpa using this) (kind_asks xt _ l) fun n3 hn3=> ?_);simp only [xZQ] at hn3;rw [qEX];cases w3:l.any vE
   rotate_left
   ·simp only [sy.1,rE,reduceIte,rL,xZX];apply hn;clear hn hp K1;refine wcT (by simp only [sy.1,rE,reduceIte]) ?_;refine qA fun K hn hp=> ?_;simp only [sy.1,rL];apply hn;clear hn hp K;refine qD (bad _ n3 (by omega) (by simp [xZZ]) (by simp only [Mp.rowOk,w3,xZO,xZP]))
   simp only [sy.1,rE,reduceIte,rL,xZX];apply hn;clear hn hp K1;refine wcF (by simp only [sy.1,rE,reduceIte]) ?_;refine qN (k1' _ ?_);refine reg fun K1 hn hp=> ?_;have hw:IntKind.i64.wrap ((k:Int)+1)=((k+1:Nat):Int):=by rw [qF _ (by omega) (by omega)];simp
   simp only [sy.1,rE,reduceIte,rL,g13,hw];apply hn;refine ⟨⟨k+1,n3,_,rfl,by omega,hlt,fun x hx=> ?_,?_,?_,?_,?_⟩,?_⟩
   ·rw [List.take_succ,hl] at hx;simp only [xZN,List.mem_append,List.mem_singleton] at hx;rcases hx with hx|rfl
    ·exact hall x hx
    ·have e2:inB x.length 1 8=true:=w2;simp only [Mp.rowOk,decide_eq_true w1,e2,w3,xZT,Bool.and_true]
   ·simp [xZZ,g1]
   ·simp [xZZ,g11]
   ·simp [xZZ,g12]
   ·simp [xZZ]
   ·have hm:m.cells.length - (k+1)<m.cells.length - k:=by omega
    simpa [xZZ,g13] using hm
  ·refine qU (by simp only [sy.1,reduceIte,ht,hlt]) ?_;refine qG (k2 _ ?_);have hkk:k=m.cells.length:=by omega
   subst hkk;rw [xZK] at hall;have hcell:m.cells.all m.rowOk=true:=xZJ.2 hall;have hrect:m.Rect:=fun l hl=>by
    have:=hall l hl;simp only [Mp.rowOk,Bool.and_eq_true,decide_eq_true_eq] at this;have h2:=this.1;rw [Mp.C] at h2;omega
   have e1':inB m.R 1 6=true:=e1;have hok:m.ok=m.restOk:=by simp only [Mp.ok,e1',hcell,xZW]
   have hlg:=fun h'=>(ha.gs).len (h':=h') qAs rfl;have hlk:=fun h'=>(ha.ks).len (h':=h') tg24 rfl;have hlp:=fun h'=>(ha.ps).len (h':=h') tg25 rfl;simp only [List.length_map] at hlg hlk hlp;have fin: ∀(n':Nat) (tm':T AV) (v:Bool),h1.n<=n'->tm'.get 2=some (.val (.bool v))->m.restOk=v->xX (SE xt) Tryz.f61 (fun r h'=>r= .ret (.val (.bool m.ok))/\Fr h.n h h') .ret ⟨tm',83,h1.up n',[]⟩:=fun n' tm' v hn' g hv=>qK res83 ⟨by simp [g,hok,hv],f1.up hn'⟩;refine qA fun K1 hn hp=> ?_;simp only [sy.1,rE,reduceIte,rL,g1,q2];refine cAS (pZ xt _ _ _ _ fun n2 hn2=> ?_);simp only [xZQ] at hn2;cases w1:(decide (0<=m.T) && decide (m.T<=9))
   ·simp only [sy.1,rE,reduceIte,rL,xZX];refine hn _ _ (qD (fin _ _ false (by omega) (by simp [xZZ]) (by have e2:inB m.T 0 9=false:=w1;simp only [Mp.restOk,e2,xZY])))
   have e2:inB m.T 0 9=true:=w1;simp only [sy.1,rE,reduceIte,rL,g1,q2,xZX];refine cAS (pZ xt _ _ _ _ fun n3 hn3=> ?_);simp only [xZQ] at hn3;cases w2:(decide (0<=m.H) && decide (m.H<=3))
   ·simp only [sy.1,rE,reduceIte,rL,xZX];refine hn _ _ (qD (fin _ _ false (by omega) (by simp [xZZ]) (by have e3:inB m.H 0 3=false:=w2;simp only [Mp.restOk,e2,e3,xZY,xZW])))
   have e3:inB m.H 0 3=true:=w2;cases w3:decide ((m.gs.length:Int)<=8)
   ·simp only [sy.1,rE,reduceIte,rL,w3,g1,q2,hlg,xZX];refine hn _ _ (qD (fin _ _ false (by omega) (by simp [xZZ]) (by simp only [Mp.restOk,e2,e3,w3,xZY,xZW])))
   cases w4:decide ((m.ks.length:Int)<=8)
   ·simp only [sy.1,rE,reduceIte,rL,w3,w4,g1,q2,hlg,hlk,xZX];refine hn _ _ (qD (fin _ _ false (by omega) (by simp [xZZ]) (by simp only [Mp.restOk,e2,e3,w3,w4,xZY,xZW])))
   cases w5:decide ((m.ps.length:Int)<=12)
   ·simp only [sy.1,rE,reduceIte,rL,w3,w4,w5,g1,q2,hlg,hlk,hlp,xZX];refine hn _ _ (qD (fin _ _ false (by omega) (by simp [xZZ]) (by simp only [Mp.restOk,e2,e3,w3,w4,w5,xZY,xZW])))
   simp only [sy.1,rE,reduceIte,rL,w3,w4,w5,g1,q2,hlg,hlk,hlp,xZX];refine cAS (any151_c xt _ _ _ _ _ (ha1.up (n:=n3) (by omega)).gs (by simpa using ha.lg) (gs_asks xt _ m (ha1.up (by omega)) hrect h.n (by simp;omega) q2) fun n4 hn4=> ?_);simp only [xZQ] at hn4;rw [any_gs];cases w6:m.gs.any m.badG
   rotate_left
   ·simp only [sy.1,rE,reduceIte,rL,xZX];refine hn _ _ (qD (fin _ _ false (by omega) (by simp [xZZ]) (by simp only [Mp.restOk,e2,e3,w3,w4,w5,w6,xZO,xZY,xZW])))
   simp only [sy.1,rE,reduceIte,rL,g1,q2,xZX];refine cAS (qF6 xt _ _ _ _ _ (ha1.up (n:=n4) (by omega)).ks (by simpa using ha.lk) (ks_asks xt _ m (ha1.up (by omega)) h.n (by simp;omega) q2) fun n5 hn5=> ?_);simp only [xZQ] at hn5;rw [any_ks];cases w7:m.ks.any m.badK
   rotate_left
   ·simp only [sy.1,rE,reduceIte,rL,xZX];refine hn _ _ (qD (fin _ _ false (by omega) (by simp [xZZ]) (by simp only [Mp.restOk,e2,e3,w3,w4,w5,w6,w7,xZO,xZT,xZY,xZW])))
   simp only [sy.1,rE,reduceIte,rL,g1,q2,xZX];refine cAS (any92_c xt _ _ _ _ _ (ha1.up (n:=n5) (by omega)).ps (by simpa using ha.lp) (ps_asks xt _ m (ha1.up (by omega)) hrect h.n (by simp;omega) q2) fun n6 hn6=> ?_);simp only [xZQ] at hn6;rw [any_ps];simp only [sy.1,rE,reduceIte,rL,xZX];refine hn _ _ (qD (fin _ _ (!m.ps.any fun p=> !m.is p.1 p.2 2) (by omega) (by simp [xZZ]) (by simp only [Mp.restOk,e2,e3,w3,w4,w5,w6,w7,xZT,xZW])))
 ·refine ⟨0,m1,_,rfl,hm1,xZM _,by simp,?_,?_,?_,?_⟩;all_goals simp [xZZ]
set_option maxRecDepth 100000
structure Gr where
 v:AV
 ll:List (List Int)
structure Gr.At (g:Gr) (xt:Xt) (h:Hp):Prop where
 grid:GridAt xt h 1 g.v (g.ll.map fun l=>l.map c1)
 lc:g.ll.length<=9223372036854775807
 lr: ∀l∈g.ll,l.length<=9223372036854775807
theorem Gr.At.new {g:Gr} {xt:Xt} {h:Hp} (a:g.At xt h) (o:AO):g.At xt (h.new o):=⟨a.grid.new o,a.lc,a.lr⟩
theorem Gr.At.up {g:Gr} {xt:Xt} {h:Hp} (a:g.At xt h) {n:Nat} (hn:h.n<=n):g.At xt (h.up n):=⟨a.grid.up hn,a.lc,a.lr⟩
theorem Gr.At.fr {g:Gr} {xt:Xt} {h h':Hp} (a:g.At xt h) {M:Nat} (f:Fr M h h') (hM:h.n<=M):g.At xt h':=⟨a.grid.fr f hM,a.lc,a.lr⟩
theorem Gr.At.len {g:Gr} {xt:Xt} {h:Hp} (a:g.At xt h) (h':Hp):zI tb h' 100 g.v=some g.ll.length:=by
 have:=a.grid.len (h':=h') tg69 rfl;simpa using this
theorem Gr.At.row {g:Gr} {xt:Xt} {h:Hp} (a:g.At xt h) {i:Nat} {l:List Int} (hl:g.ll[i]? =some l): ∃v,(∀k:IntKind,qM tb 100 g.v (.val (.int k (i:Int)))=some (elp g.v i))/\qO tb xt h 31 (elp g.v i)=some v/\RowAt xt h 1 v (l.map c1)/\(∀h':Hp,zI tb h' 31 v=some l.length):=by
 obtain ⟨v,h1,h2,h3⟩:=a.grid.at_ tg69 rfl vX rfl rfl (i:=i) (l:=l.map c1) (by simp [hl]);exact ⟨v,h1,h2,h3,fun h'=>by have:=h3.len (h':=h') vX rfl;simpa using this⟩
def Gr.shape (g:Gr) (m:Mp):Bool:=decide (g.ll.map List.length=m.cells.map List.length)
theorem wnt_d {b:Bool}:wnt b (some default)=false:=rfl
theorem ft37 (xt:Xt):(SE xt).ft.get 15=some Tryz.f15:=by kernel_rfl
theorem qAy:Tryz.f15.results.toList=[.tmp 2]:=by kernel_rfl
def Mp.short (m:Mp):Bool:=(m.cells.take 9).all (fun l=> !decide ((10:Int)<l.length)) && (decide ((m.cells.length:Int)<=8) && (decide ((m.gs.length:Int)<=11) && (decide ((m.ks.length:Int)<=11) && decide ((m.ps.length:Int)<=15))))
theorem short_c (xt:Xt) (h:Hp) (m:Mp) (hg:m.At xt h) {K:KP} (hk: ∀n,h.n<n->K (.ret (.val (.bool m.short))) (h.up n)):FnA (SE xt) 15 [m.av] h K:=by
 refine FnA.calm ?_ hk;clear hk K;refine FnA.walk (sok xt) (ft37 xt) rfl 44 rfl ?_;have hlg:=hg.len;have hlg1:=fun h'=>(hg.gs).len (h':=h') qAs rfl;have hlk:=fun h'=>(hg.ks).len (h':=h') tg24 rfl;have hlp:=fun h'=>(hg.ps).len (h':=h') tg25 rfl;simp only [List.length_map] at hlg1 hlk hlp;refine qA fun K hn hp=> ?_;simp only [sw.1,reduceIte,rL];apply hn;obtain ⟨h1,hh1⟩: ∃h1:Hp,h1=h.new (.cells m.cs 27):=⟨_,rfl⟩;rw [<-hh1];have hg1:m.At xt h1:=by rw [hh1];exact hg.new _
 have f1:Fr h.n h h1:=by rw [hh1];exact (Fr.refl (Nat.le_refl _)).new _
 have q2:h1.t.get h.n=some (.cells m.cs 27):=by rw [hh1,Hp.new_t,xZZ,if_pos rfl]
 refine qB fun K hn hp=> ?_;simp only [sy.1,rL];apply hn;refine qC fun K k1 k2 k3 k4 k5=> ?_;refine qI (sok xt) (fun st=> ∃(k:Nat) (tm:T AV),st=⟨tm,44,h1,[]⟩/\k<=9/\k<=m.cells.length/\(m.cells.take k).all (fun l=> !decide ((10:Int)<l.length))=true/\tm.get 1=some (.ptr h.n 0)/\tm.get 3=some (iv k))
  (fun st=>m.cells.length - (match st.tm.get 3 with|some (.val (.int _ n))=>n.toNat|_=>0)) ?_ ?_
 ·rintro st ⟨k,tm,rfl,hk9,hkl,hall,g0,g3⟩;have ht:(decide ((k:Int)<(m.cells.length:Int)))=decide (k<m.cells.length):=by simp
  have ht9:(decide ((k:Int)<9))=decide (k<9):=by
   by_cases q:k<9
   ·rw [decide_eq_true q];exact decide_eq_true (by omega)
   ·rw [decide_eq_false q];exact decide_eq_false (by omega)
  by_cases hlt:k<m.cells.length/\k<9
  ·refine qB fun K hn hp=> ?_;simp only [sy.1,rE,reduceIte,rL,g0,q2,g3,hlg,ht,ht9,decide_eq_true hlt.1,decide_eq_true hlt.2];apply hn;obtain ⟨l,hl⟩: ∃l,m.cells[k]? =some l:=⟨_,xZV hlt.1⟩;obtain ⟨v,i1,i2,i3,i4⟩:=hg1.row hl;have i1:=i1 .i64;refine qV (by simp only [sy.1,rE,reduceIte]) ?_;refine qC fun K' k1' k2' k3' k4' k5'=> ?_;refine qA fun K hn hp=> ?_;simp only [sy.1,rE,reduceIte,rL,g0,q2,g3,i1,i2,i4];apply hn;by_cases w1:(10:Int)<l.length
   ·refine wcT (by simp only [sy.1,rE,reduceIte,decide_eq_true w1]) ?_;refine qA fun K hn hp=> ?_;simp only [sy.1,rL];apply hn;refine qD (k4' _ (k4 _ (qK qAy ⟨?_,f1⟩)));have hs:m.short=false:=by
     have:(m.cells.take 9).all (fun l=> !decide ((10:Int)<l.length))=false:=by
      rw [xZL];exact ⟨l,xZU (i:=k) (by rw [List.getElem?_take,if_pos hlt.2];exact hl),by simp [w1]⟩
     simp only [Mp.short,this,xZY]
    simp [xZZ,hs]
   ·refine wcF (by simp only [sy.1,rE,reduceIte,decide_eq_false w1]) ?_;refine qN (k1' _ ?_);refine reg fun K1 hn hp=> ?_;have hw:IntKind.i64.wrap ((k:Int)+1)=((k+1:Nat):Int):=by rw [qF _ (by omega) (by omega)];simp
    simp only [sy.1,rE,reduceIte,rL,g3,hw];apply hn;refine ⟨⟨k+1,_,rfl,by omega,by omega,?_,?_,?_⟩,?_⟩
    ·rw [List.take_succ,hl];simp only [xZN,List.all_append,hall,List.all_cons,List.all_nil,decide_eq_false w1,xZT,Bool.and_self]
    ·simp [xZZ,g0]
    ·simp [xZZ]
    ·have hm:m.cells.length - (k+1)<m.cells.length - k:=by omega
     simpa [xZZ,g3] using hm
  ·have hend:(m.cells.take 9).all (fun l=> !decide ((10:Int)<l.length))=true:=by
    by_cases q:k<m.cells.length
    ·have:k=9:=by omega
     rw [<-this];exact hall
    ·rw [show k=m.cells.length by omega,xZK] at hall;rw [xZJ] at hall ⊢;exact fun x hx=>hall x (List.mem_of_mem_take hx)
   refine jP ?_;by_cases q:k<m.cells.length
   ·have q9: ¬k<9:=fun h9=>hlt ⟨q,h9⟩;refine qA fun K hn hp=> ?_;simp only [sy.1,rE,reduceIte,rL,g0,q2,g3,hlg,ht,ht9,decide_eq_true q,decide_eq_false q9];apply hn;refine qU (by simp only [sy.1,rE,reduceIte]) ?_;refine qG (k2 _ ?_);cases w1:decide ((m.cells.length:Int)<=8)
    ·refine qA fun K hn hp=> ?_;simp only [sy.1,rE,reduceIte,rL,g0,q2,hlg,w1];apply hn;refine qD (qK qAy ⟨?_,f1⟩);simp [xZZ,Mp.short,w1]
    cases w2:decide ((m.gs.length:Int)<=11)
    ·refine qA fun K hn hp=> ?_;simp only [sy.1,rE,reduceIte,rL,g0,q2,hlg,hlg1,w1,w2];apply hn;refine qD (qK qAy ⟨?_,f1⟩);simp [xZZ,Mp.short,w1,w2]
    cases w3:decide ((m.ks.length:Int)<=11)
    ·refine qA fun K hn hp=> ?_;simp only [sy.1,rE,reduceIte,rL,g0,q2,hlg,hlg1,hlk,w1,w2,w3];apply hn;refine qD (qK qAy ⟨?_,f1⟩);simp [xZZ,Mp.short,w1,w2,w3]
    refine qA fun K hn hp=> ?_;simp only [sy.1,rE,reduceIte,rL,g0,q2,hlg,hlg1,hlk,hlp,w1,w2,w3];apply hn;refine qD (qK qAy ⟨?_,f1⟩);simp only [Mp.short,hend,w1,w2,w3,xZW];simp [xZZ]
   ·refine qA fun K hn hp=> ?_;simp only [sy.1,rE,reduceIte,rL,g0,q2,g3,hlg,ht,decide_eq_false q];apply hn;refine qU (by simp only [sy.1,rE,reduceIte]) ?_;refine qG (k2 _ ?_);cases w1:decide ((m.cells.length:Int)<=8)
    ·refine qA fun K hn hp=> ?_;simp only [sy.1,rE,reduceIte,rL,g0,q2,hlg,w1];apply hn;refine qD (qK qAy ⟨?_,f1⟩);simp [xZZ,Mp.short,w1]
    cases w2:decide ((m.gs.length:Int)<=11)
    ·refine qA fun K hn hp=> ?_;simp only [sy.1,rE,reduceIte,rL,g0,q2,hlg,hlg1,w1,w2];apply hn;refine qD (qK qAy ⟨?_,f1⟩);simp [xZZ,Mp.short,w1,w2]
    cases w3:decide ((m.ks.length:Int)<=11)
    ·refine qA fun K hn hp=> ?_;simp only [sy.1,rE,reduceIte,rL,g0,q2,hlg,hlg1,hlk,w1,w2,w3];apply hn;refine qD (qK qAy ⟨?_,f1⟩);simp [xZZ,Mp.short,w1,w2,w3]
    refine qA fun K hn hp=> ?_;simp only [sy.1,rE,reduceIte,rL,g0,q2,hlg,hlg1,hlk,hlp,w1,w2,w3];apply hn;refine qD (qK qAy ⟨?_,f1⟩);simp only [Mp.short,hend,w1,w2,w3,xZW];simp [xZZ]
 ·refine ⟨0,_,rfl,xZM _,xZM _,by simp,?_,?_⟩;all_goals simp [xZZ]
end Go.Proofs.Kn
