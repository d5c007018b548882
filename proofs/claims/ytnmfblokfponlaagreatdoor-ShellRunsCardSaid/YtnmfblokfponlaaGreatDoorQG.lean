/- MvF6, MvF7, MvF8, MvF9, MvF10: texts in a row, joined by a program. -/
import Derived.Test.YtnmfblokfponlaaGreatDoorQF
set_option linter.all false
open Nat renaming reduceEqDiff → rE, reduceLeDiff → rD, reduceAdd → rA, reduceMul → rM, reduceLT → rL
namespace Go.Proofs.Kn
open Go Go.Ev
set_option maxRecDepth 100000
theorem ft83 (xt:Addr→Option Value):(SE xt).ft.get 83=some Tryz.f83:=by kernel_rfl
theorem res83:Tryz.f83.results.toList=[.tmp 2]:=by kernel_rfl
def Mp.rowOk (m:Mp) (l:List Int):Bool:=decide ((l.length:Int)=m.C) && (inB l.length 1 8 && !l.any badKind)
def Mp.restOk (m:Mp):Bool:=inB m.T 0 9 && (inB m.H 0 3 && (decide ((m.gs.length:Int)≤8) && (decide ((m.ks.length:Int)≤8) && (decide ((m.ps.length:Int)≤12) && (!m.gs.any m.badG && (!m.ks.any m.badK && !m.ps.any (fun p=> !m.is p.1 p.2 2)))))))
def Mp.ok (m:Mp):Bool:=inB m.R 1 6 && (m.cells.all m.rowOk && m.restOk)
theorem kind_asks (xt:Addr→Option Value) (h:Hp) (l:List Int):AsksU (SE xt) h (.val (.func (.func 150) #[] #[])) (fun c=> .val (c.headD default)) (l.map c1) (fun c=>match c with|[.int _ x]=>badKind x|_=>false):=by
 intro n c K hn hc hk;obtain ⟨x,_,rfl⟩:=List.mem_map.1 hc;exact callA_func (sok xt) (bkind_c xt _ x fun n' hn'=>by have:=hk n' hn';rw [Hp.up_up];exact this)
theorem any_map_kind (l:List Int):((l.map c1).any fun c=>match c with|[.int _ x]=>badKind x|_=>false)=l.any badKind:=by
 rw [List.any_map];rfl
theorem gs_asks (xt:Addr→Option Value) (h:Hp) (m:Mp) (ha:m.At xt h) (hr:m.Rect) (b:Nat) (hb:b<h.n) (q0:h.t.get b=some (.cells m.cs 27)):AsksU (SE xt) h (.fn (.func 152) [] [.ptr b 0]) (fun c=> .agg (c.map .val)) (m.gs.map g4) (fun c=>match c with|[.int _ x,.int _ y,.int _ z,.int _ w]=>m.badG (x,y,z,w)|_=>false):=by
 intro n c K hn hc hk;obtain ⟨g,_,rfl⟩:=List.mem_map.1 hc;exact callA_fn (sok xt) (badG_c xt _ m (ha.up hn) hr b (by simp;omega) q0 g fun n' hn'=>by have:=hk n' hn';rw [Hp.up_up];exact this)
theorem ks_asks (xt:Addr→Option Value) (h:Hp) (m:Mp) (ha:m.At xt h) (b:Nat) (hb:b<h.n) (q0:h.t.get b=some (.cells m.cs 27)):AsksU (SE xt) h (.fn (.func 156) [] [.ptr b 0]) (fun c=> .agg (c.map .val)) (m.ks.map k3) (fun c=>match c with|[.int _ x,.int _ y,.bool z]=>m.badK (x,y,z)|_=>false):=by
 intro n c K hn hc hk;obtain ⟨g,_,rfl⟩:=List.mem_map.1 hc;exact callA_fn (sok xt) (badK_c xt _ m (ha.up hn) b (by simp;omega) q0 g fun n' hn'=>by have:=hk n' hn';rw [Hp.up_up];exact this)
theorem ps_asks (xt:Addr→Option Value) (h:Hp) (m:Mp) (ha:m.At xt h) (hr:m.Rect) (b:Nat) (hb:b<h.n) (q0:h.t.get b=some (.cells m.cs 27)):AsksU (SE xt) h (.fn (.func 158) [] [.ptr b 0]) (fun c=> .agg (c.map .val)) (m.ps.map p2) (fun c=>match c with|[.int _ x,.int _ y]=> !m.is x y 2|_=>false):=by
 intro n c K hn hc hk;obtain ⟨g,_,rfl⟩:=List.mem_map.1 hc;exact callA_fn (sok xt) (badP_c xt _ m (ha.up hn) hr b (by simp;omega) q0 g fun n' hn'=>by have:=hk n' hn';rw [Hp.up_up];exact this)
theorem any_gs (m:Mp):((m.gs.map g4).any fun c=>match c with|[.int _ x,.int _ y,.int _ z,.int _ w]=>m.badG (x,y,z,w)|_=>false)=m.gs.any m.badG:=by
 rw [List.any_map];rfl
theorem any_ks (m:Mp):((m.ks.map k3).any fun c=>match c with|[.int _ x,.int _ y,.bool z]=>m.badK (x,y,z)|_=>false)=m.ks.any m.badK:=by
 rw [List.any_map];rfl
theorem any_ps (m:Mp):((m.ps.map p2).any fun c=>match c with|[.int _ x,.int _ y]=> !m.is x y 2|_=>false)=m.ps.any (fun p=> !m.is p.1 p.2 2):=by
 rw [List.any_map];rfl
theorem isMap_c (xt:Addr→Option Value) (h:Hp) (m:Mp) (ha:m.At xt h) {K:CR→Hp→Prop} (hk: ∀n,h.n<n→K (.ret (.val (.bool m.ok))) (h.up n)):FnA (SE xt) 83 [m.av] h K:=by
 refine FnA.calm ?_ hk;clear hk K;refine FnA.walk (sok xt) (ft83 xt) rfl 83 rfl ?_;have one1:=ha.cells.one;have one2:=ha.gs.one;have one3:=ha.ks.one;have one4:=ha.ps.one;have hlen:=ha.len;have hlc:=ha.lc;refine seq_reg fun K hn hp=> ?_;simp only [sw.down,rE,reduceIte,rL,rA,rM,rD];refine hn _ _ ?_;clear hn hp K;obtain ⟨h1,hh1⟩: ∃h1:Hp,h1=h.new (.cells m.cs 27):=⟨_,rfl⟩;rw [←hh1];have ha1:m.At xt h1:=by rw [hh1];exact ha.new _
 have n1:h1.n=h.n+1:=by rw [hh1];rfl
 have f1:Fr h.n h h1:=by rw [hh1];exact (Fr.refl (Nat.le_refl _)).new _
 have q2:h1.t.get h.n=some (.cells m.cs 27):=by rw [hh1,Hp.new_t,T.get_put,if_pos rfl]
 have retF: ∀(n:Nat) (tm:T AV),h1.n≤n→tm.get 2=some (.val (.bool false))→m.ok=false→endK (SE xt) Tryz.f83 (fun r h'=>r= .ret (.val (.bool m.ok))∧Fr h.n h h') .ret ⟨tm,83,h1.up n,[]⟩:=fun n tm hn g hm=>end_1 res83 ⟨by simp [g,hm],f1.up hn⟩;refine seq_seq ?_;refine seq_reg fun K1 hn hp=> ?_;simp only [sw.down,rE,reduceIte,rL,rA,rM,rD,q2,hlen];refine callA_func (sok xt) (in_c xt _ _ _ _ fun m1 hm1=> ?_);have hm1:=Nat.le_of_lt hm1;cases e1:(decide ((1:Int)≤m.cells.length) && decide ((m.cells.length:Int)≤6))
 ·simp only [sw.down,rE,reduceIte,rL,rA,rM,rD,e1];refine hn _ _ ?_;clear hn hp K1;refine seq_cond true (by simp only [sw.down,rE,reduceIte,rL,rA,rM,rD]) (fun _=> ?_) (fun hx=>by cases hx);refine seq_seq ?_;refine seq_reg fun K hn hp=> ?_;simp only [sw.down,rE,reduceIte,rL,rA,rM,rD];refine hn _ _ ?_;clear hn hp K;refine seq_ret (retF _ _ hm1 (by simp [T.get_put]) (by have e2:inB m.R 1 6=false:=e1;simp only [Mp.ok,e2,Bool.false_and]))
 simp only [sw.down,rE,reduceIte,rL,rA,rM,rD,e1];refine hn _ _ ?_;clear hn hp K1;refine seq_cond false (by simp only [sw.down,rE,reduceIte,rL,rA,rM,rD]) (fun hx=>by cases hx) (fun _=> ?_);refine seq_skip ?_;refine seq_seq ?_;refine seq_reg fun K hn hp=> ?_;simp only [sw.down,rE,reduceIte,rL,rA,rM,rD,q2,hlen];refine hn _ _ ?_;clear hn hp K;refine seq_block fun K k1 k2 k3 k4 k5=> ?_;have hR:m.R=m.cells.length:=rfl;have hpos:0<m.cells.length:=by
  obtain ⟨z1,_⟩:=Bool.and_eq_true_iff.1 e1;have z1:=of_decide_eq_true z1;omega
 obtain ⟨l0,hl0⟩: ∃l,m.cells[0]? =some l:=⟨_,List.getElem?_eq_getElem hpos⟩;have hC:m.C=l0.length:=by
  simp only [Mp.C];cases hm:m.cells with
  |nil=>rw [hm] at hl0;simp at hl0
  |cons x y=>rw [hm] at hl0;simp at hl0;subst hl0;rfl
 refine wpc_loop (sok xt) (fun st=> ∃(k n:Nat) (tm:T AV),st=⟨tm,83,h1.up n,[]⟩∧h1.n≤n∧k≤m.cells.length∧(∀l∈m.cells.take k,m.rowOk l=true)∧tm.get 1=some (.ptr h.n 0)∧tm.get 11=some m.vc∧tm.get 12=some (iv m.cells.length)∧tm.get 13=some (iv k))
  (fun st=>m.cells.length - (match st.tm.get 13 with|some (.val (.int _ n))=>n.toNat|_=>0)) ?_ ?_
 ·rintro st ⟨k,n,tm,rfl,hn1,hk,hall,g1,g11,g12,g13⟩;have ht:(decide ((k:Int)<(m.cells.length:Int)))=decide (k<m.cells.length):=by simp
  refine seq_reg fun K hn hp=> ?_;simp only [sw.down,rE,reduceIte,rL,rA,rM,rD,g12,g13];refine hn _ _ ?_;clear hn hp K;by_cases hlt:k<m.cells.length
  ·obtain ⟨l,hl⟩: ∃l,m.cells[k]? =some l:=⟨_,List.getElem?_eq_getElem hlt⟩;obtain ⟨v,i1,i2,i3,i4⟩:=(ha1.up hn1).row hl;obtain ⟨v0,j1,j2,j3,j4⟩:=(ha1.up hn1).row hl0;have i1:=i1 .i64;have j1:=j1 .i64;simp only [Int.natCast_zero,Int.ofNat_eq_natCast] at j1;have q3:(h1.up n).t.get h.n=some (.cells m.cs 27):=q2;have ov:=i3.one;refine seq_cond true (by simp only [sw.down,rE,reduceIte,rL,rA,rM,rD,ht,hlt]) (fun _=> ?_) (fun hx=>by cases hx);refine seq_skip ?_;refine seq_block fun K' k1' k2' k3' k4' k5'=> ?_;refine seq_reg fun K hn hp=> ?_;simp only [sw.down,rE,reduceIte,rL,rA,rM,rD,g11,g13,i1,i2];refine hn _ _ ?_;clear hn hp K;have bad: ∀(tm':T AV) (n':Nat),h1.n≤n'→tm'.get 2=some (.val (.bool false))→m.rowOk l=false→K' .ret ⟨tm',83,h1.up n',[]⟩:=fun tm' n' hn' g hb=>k4' _ (k4 _ (retF n' tm' hn' g (by
    have:m.cells.all m.rowOk=false:=by
     rw [List.all_eq_false];exact ⟨l,List.mem_of_getElem? hl,by simp [hb]⟩
    simp only [Mp.ok,this,Bool.false_and,Bool.and_false])))
   by_cases w1:(l.length:Int)=m.C
   rotate_left
   ·refine seq_reg fun K hn hp=> ?_;simp only [sw.down,rE,reduceIte,rL,rA,rM,rD,g1,q2,i4,j1,j2,j4,hC.symm,decide_eq_false w1];refine hn _ _ ?_;clear hn hp K;refine wpc_cond true (by simp only [sw.down,rE,reduceIte,rL,rA,rM,rD]) (fun _=> ?_) (fun hx=>by cases hx);refine seq_reg fun K hn hp=> ?_;simp only [sw.down,rE,reduceIte,rL,rA,rM,rD];refine hn _ _ ?_;clear hn hp K;refine wpc_ret (bad _ n hn1 (by simp [T.get_put]) (by simp only [Mp.rowOk,decide_eq_false w1,Bool.false_and]))
   refine seq_reg fun K1 hn hp=> ?_;simp only [sw.down,rE,reduceIte,rL,rA,rM,rD,g1,q2,i4,j1,j2,j4,hC.symm,decide_eq_true w1];refine callA_func (sok xt) (in_c xt _ _ _ _ fun n2 hn2=> ?_);simp only [Hp.up_n] at hn2;cases w2:(decide ((1:Int)≤l.length) && decide ((l.length:Int)≤8))
   ·simp only [sw.down,rE,reduceIte,rL,rA,rM,rD,w2,Hp.up_up];refine hn _ _ ?_;clear hn hp K1;refine wpc_cond true (by simp only [sw.down,rE,reduceIte,rL,rA,rM,rD]) (fun _=> ?_) (fun hx=>by cases hx);refine seq_reg fun K hn hp=> ?_;simp only [sw.down,rE,reduceIte,rL,rA,rM,rD];refine hn _ _ ?_;clear hn hp K;refine wpc_ret (bad _ n2 (by omega) (by simp [T.get_put]) (by have e2:inB l.length 1 8=false:=w2;simp only [Mp.rowOk,e2,Bool.false_and,Bool.and_false]))
   simp only [sw.down,rE,reduceIte,rL,rA,rM,rD,w2,Hp.up_up];refine callA_func (sok xt) (any149_c xt _ v _ _ _ (i3.up (by simp;omega)) (by have:=ha.lr l (List.mem_of_getElem? hl);simpa using this) (kind_asks xt _ l) fun n3 hn3=> ?_);simp only [Hp.up_n] at hn3;rw [any_map_kind];cases w3:l.any badKind
   rotate_left
   ·simp only [sw.down,rE,reduceIte,rL,rA,rM,rD,w3,Hp.up_up];refine hn _ _ ?_;clear hn hp K1;refine wpc_cond true (by simp only [sw.down,rE,reduceIte,rL,rA,rM,rD]) (fun _=> ?_) (fun hx=>by cases hx);refine seq_reg fun K hn hp=> ?_;simp only [sw.down,rE,reduceIte,rL,rA,rM,rD];refine hn _ _ ?_;clear hn hp K;refine wpc_ret (bad _ n3 (by omega) (by simp [T.get_put]) (by simp only [Mp.rowOk,w3,Bool.not_true,Bool.and_false]))
   simp only [sw.down,rE,reduceIte,rL,rA,rM,rD,w3,Hp.up_up];refine hn _ _ ?_;clear hn hp K1;refine wpc_cond false (by simp only [sw.down,rE,reduceIte,rL,rA,rM,rD]) (fun hx=>by cases hx) (fun _=> ?_);refine wpc_skip (k1' _ ?_);refine reg fun K1 hn hp=> ?_;have hw:IntKind.i64.wrap ((k:Int)+1)=((k+1:Nat):Int):=by rw [wrap_i64 _ (by omega) (by omega)];simp
   simp only [sw.down,rE,reduceIte,rL,rA,rM,rD,g13,hw];refine hn _ _ ?_;refine ⟨⟨k+1,n3,_,rfl,by omega,hlt,fun x hx=> ?_,?_,?_,?_,?_⟩,?_⟩
   ·rw [List.take_succ,hl] at hx;simp only [Option.toList_some,List.mem_append,List.mem_singleton] at hx;rcases hx with hx|rfl
    ·exact hall x hx
    ·have e2:inB x.length 1 8=true:=w2;simp only [Mp.rowOk,decide_eq_true w1,e2,w3,Bool.not_false,Bool.and_true]
   ·simp [T.get_put,g1]
   ·simp [T.get_put,g11]
   ·simp [T.get_put,g12]
   ·simp [T.get_put]
   ·have hm:m.cells.length - (k+1)<m.cells.length - k:=by omega
    simpa [T.get_put,g13] using hm
  ·refine seq_cond false (by simp only [sw.down,rE,reduceIte,rL,rA,rM,rD,ht,hlt]) (fun hx=>by cases hx) (fun _=> ?_);refine seq_exit (k2 _ ?_);have hkk:k=m.cells.length:=by omega
   subst hkk;rw [List.take_length] at hall;have hcell:m.cells.all m.rowOk=true:=List.all_eq_true.2 hall;have hrect:m.Rect:=fun l hl=>by
    have:=hall l hl;simp only [Mp.rowOk,Bool.and_eq_true,decide_eq_true_eq] at this;have h2:=this.1;rw [Mp.C] at h2;omega
   have e1':inB m.R 1 6=true:=e1;have hok:m.ok=m.restOk:=by simp only [Mp.ok,e1',hcell,Bool.true_and]
   have hlg:=fun h'=>(ha.gs).len (h':=h') tg23 rfl;have hlk:=fun h'=>(ha.ks).len (h':=h') tg24 rfl;have hlp:=fun h'=>(ha.ps).len (h':=h') tg25 rfl;simp only [List.length_map] at hlg hlk hlp;have fin: ∀(n':Nat) (tm':T AV) (v:Bool),h1.n≤n'→tm'.get 2=some (.val (.bool v))→m.restOk=v→endK (SE xt) Tryz.f83 (fun r h'=>r= .ret (.val (.bool m.ok))∧Fr h.n h h') .ret ⟨tm',83,h1.up n',[]⟩:=fun n' tm' v hn' g hv=>end_1 res83 ⟨by simp [g,hok,hv],f1.up hn'⟩;refine seq_reg fun K1 hn hp=> ?_;simp only [sw.down,rE,reduceIte,rL,rA,rM,rD,g1,q2];refine callA_func (sok xt) (in_c xt _ _ _ _ fun n2 hn2=> ?_);simp only [Hp.up_n] at hn2;cases w1:(decide (0≤m.T) && decide (m.T≤9))
   ·simp only [sw.down,rE,reduceIte,rL,rA,rM,rD,w1,Hp.up_up];refine hn _ _ (wpc_ret (fin _ _ false (by omega) (by simp [T.get_put]) (by have e2:inB m.T 0 9=false:=w1;simp only [Mp.restOk,e2,Bool.false_and])))
   have e2:inB m.T 0 9=true:=w1;simp only [sw.down,rE,reduceIte,rL,rA,rM,rD,w1,g1,q2,Hp.up_up];refine callA_func (sok xt) (in_c xt _ _ _ _ fun n3 hn3=> ?_);simp only [Hp.up_n] at hn3;cases w2:(decide (0≤m.H) && decide (m.H≤3))
   ·simp only [sw.down,rE,reduceIte,rL,rA,rM,rD,w2,Hp.up_up];refine hn _ _ (wpc_ret (fin _ _ false (by omega) (by simp [T.get_put]) (by have e3:inB m.H 0 3=false:=w2;simp only [Mp.restOk,e2,e3,Bool.false_and,Bool.true_and])))
   have e3:inB m.H 0 3=true:=w2;cases w3:decide ((m.gs.length:Int)≤8)
   ·simp only [sw.down,rE,reduceIte,rL,rA,rM,rD,w2,w3,g1,q2,hlg,Hp.up_up];refine hn _ _ (wpc_ret (fin _ _ false (by omega) (by simp [T.get_put]) (by simp only [Mp.restOk,e2,e3,w3,Bool.false_and,Bool.true_and])))
   cases w4:decide ((m.ks.length:Int)≤8)
   ·simp only [sw.down,rE,reduceIte,rL,rA,rM,rD,w2,w3,w4,g1,q2,hlg,hlk,Hp.up_up];refine hn _ _ (wpc_ret (fin _ _ false (by omega) (by simp [T.get_put]) (by simp only [Mp.restOk,e2,e3,w3,w4,Bool.false_and,Bool.true_and])))
   cases w5:decide ((m.ps.length:Int)≤12)
   ·simp only [sw.down,rE,reduceIte,rL,rA,rM,rD,w2,w3,w4,w5,g1,q2,hlg,hlk,hlp,Hp.up_up];refine hn _ _ (wpc_ret (fin _ _ false (by omega) (by simp [T.get_put]) (by simp only [Mp.restOk,e2,e3,w3,w4,w5,Bool.false_and,Bool.true_and])))
   simp only [sw.down,rE,reduceIte,rL,rA,rM,rD,w2,w3,w4,w5,g1,q2,hlg,hlk,hlp,Hp.up_up];refine callA_func (sok xt) (any151_c xt _ _ _ _ _ (ha1.up (n:=n3) (by omega)).gs (by simpa using ha.lg) (gs_asks xt _ m (ha1.up (by omega)) hrect h.n (by simp;omega) q2) fun n4 hn4=> ?_);simp only [Hp.up_n] at hn4;rw [any_gs];cases w6:m.gs.any m.badG
   rotate_left
   ·simp only [sw.down,rE,reduceIte,rL,rA,rM,rD,w6,Hp.up_up];refine hn _ _ (wpc_ret (fin _ _ false (by omega) (by simp [T.get_put]) (by simp only [Mp.restOk,e2,e3,w3,w4,w5,w6,Bool.not_true,Bool.false_and,Bool.true_and])))
   simp only [sw.down,rE,reduceIte,rL,rA,rM,rD,w6,g1,q2,Hp.up_up];refine callA_func (sok xt) (any155_c xt _ _ _ _ _ (ha1.up (n:=n4) (by omega)).ks (by simpa using ha.lk) (ks_asks xt _ m (ha1.up (by omega)) h.n (by simp;omega) q2) fun n5 hn5=> ?_);simp only [Hp.up_n] at hn5;rw [any_ks];cases w7:m.ks.any m.badK
   rotate_left
   ·simp only [sw.down,rE,reduceIte,rL,rA,rM,rD,w7,Hp.up_up];refine hn _ _ (wpc_ret (fin _ _ false (by omega) (by simp [T.get_put]) (by simp only [Mp.restOk,e2,e3,w3,w4,w5,w6,w7,Bool.not_true,Bool.not_false,Bool.false_and,Bool.true_and])))
   simp only [sw.down,rE,reduceIte,rL,rA,rM,rD,w7,g1,q2,Hp.up_up];refine callA_func (sok xt) (any92_c xt _ _ _ _ _ (ha1.up (n:=n5) (by omega)).ps (by simpa using ha.lp) (ps_asks xt _ m (ha1.up (by omega)) hrect h.n (by simp;omega) q2) fun n6 hn6=> ?_);simp only [Hp.up_n] at hn6;rw [any_ps];simp only [sw.down,rE,reduceIte,rL,rA,rM,rD,Hp.up_up];refine hn _ _ (wpc_ret (fin _ _ (!m.ps.any fun p=> !m.is p.1 p.2 2) (by omega) (by simp [T.get_put]) (by simp only [Mp.restOk,e2,e3,w3,w4,w5,w6,w7,Bool.not_false,Bool.true_and])))
 ·refine ⟨0,m1,_,rfl,hm1,Nat.zero_le _,by simp,?_,?_,?_,?_⟩;all_goals simp [T.get_put]
end Go.Proofs.Kn
namespace Go.Proofs.Kn
open Go Go.Ev
set_option maxRecDepth 100000
theorem ft161 (xt:Addr→Option Value):(SE xt).ft.get 161=some Tryz.f161:=by kernel_rfl
theorem res161:Tryz.f161.results.toList=[.tmp 4]:=by kernel_rfl
theorem samelen_ok (xt:Addr→Option Value) (h:Hp) (v w:AV) (a b:Nat) (hv: ∀h',alen tb h' 75 v=some a) (hw: ∀h',alen tb h' 58 w=some b):FnA (SE xt) 161 [v,w] h (fun r h'=>r= .ret (.val (.bool (decide ((a:Int)=b))))∧Fr h.n h h'):=by
 refine FnA.walk (sok xt) (ft161 xt) rfl 10 rfl ?_;refine seq_reg fun K hn hp=> ?_;simp only [sw.down,rE,reduceIte,rL,rA,rM,rD];refine hn _ _ ?_;clear hn hp K;refine seq_reg fun K hn hp=> ?_;simp only [sw.down,rE,reduceIte,rL,rA,rM,rD,hv,hw];refine hn _ _ ?_;clear hn hp K;refine wpc_ret (end_1 res161 ⟨?_,Fr.refl (Nat.le_refl _)⟩);simp [T.get_put]
end Go.Proofs.Kn
namespace Go.Proofs.Kn
open Go Go.Ev
set_option maxRecDepth 100000
structure Gr where
 v:AV
 ll:List (List Int)
structure Gr.At (g:Gr) (xt:Addr→Option Value) (h:Hp):Prop where
 grid:GridAt xt h 1 g.v (g.ll.map fun l=>l.map c1)
 lc:g.ll.length≤9223372036854775807
 lr: ∀l∈g.ll,l.length≤9223372036854775807
theorem Gr.At.new {g:Gr} {xt:Addr→Option Value} {h:Hp} (a:g.At xt h) (o:AO):g.At xt (h.new o):=⟨a.grid.new o,a.lc,a.lr⟩
theorem Gr.At.up {g:Gr} {xt:Addr→Option Value} {h:Hp} (a:g.At xt h) {n:Nat} (hn:h.n≤n):g.At xt (h.up n):=⟨a.grid.up hn,a.lc,a.lr⟩
theorem Gr.At.fr {g:Gr} {xt:Addr→Option Value} {h h':Hp} (a:g.At xt h) {M:Nat} (f:Fr M h h') (hM:h.n≤M):g.At xt h':=⟨a.grid.fr f hM,a.lc,a.lr⟩
theorem Gr.At.len {g:Gr} {xt:Addr→Option Value} {h:Hp} (a:g.At xt h) (h':Hp):alen tb h' 69 g.v=some g.ll.length:=by
 have:=a.grid.len (h':=h') tg69 rfl;simpa using this
theorem Gr.At.row {g:Gr} {xt:Addr→Option Value} {h:Hp} (a:g.At xt h) {i:Nat} {l:List Int} (hl:g.ll[i]? =some l): ∃v,(∀k:IntKind,aindexAddr tb 69 g.v (.val (.int k (i:Int)))=some (elp g.v i))∧aload tb xt h 75 (elp g.v i)=some v∧RowAt xt h 1 v (l.map c1)∧(∀h':Hp,alen tb h' 75 v=some l.length):=by
 obtain ⟨v,h1,h2,h3⟩:=a.grid.at_ tg69 rfl tg75 rfl rfl (i:=i) (l:=l.map c1) (by simp [hl]);exact ⟨v,h1,h2,h3,fun h'=>by have:=h3.len (h':=h') tg75 rfl;simpa using this⟩
def Gr.shape (g:Gr) (m:Mp):Bool:=decide (g.ll.map List.length=m.cells.map List.length)
theorem ft160 (xt:Addr→Option Value):(SE xt).ft.get 160=some Tryz.f160:=by kernel_rfl
theorem res160:Tryz.f160.results.toList=[.tmp 6]:=by kernel_rfl
theorem eqf_c (xt:Addr→Option Value) (h:Hp) (g:Gr) (hg:g.At xt h) (m:Mp) (ha:m.At xt h) {K:CR→Hp→Prop} (hk: ∀n,h.n<n→K (.ret (.val (.bool (g.shape m)))) (h.up n)):FnA (SE xt) 160 [g.v,m.vc,.val (.func (.func 161) #[] #[])] h K:=by
 refine FnA.calm ?_ hk;clear hk K;refine FnA.walk (sok xt) (ft160 xt) rfl 32 rfl ?_;have hlg:=hg.len;have hlm:=ha.len;have hlc:=hg.lc;refine seq_reg fun K hn hp=> ?_;simp only [sw.down,rE,reduceIte,rL,rA,rM,rD];refine hn _ _ ?_;clear hn hp K;refine seq_seq ?_;by_cases w0:(g.ll.length:Int)=m.cells.length
 rotate_left
 ·refine seq_reg fun K hn hp=> ?_;simp only [sw.down,rE,reduceIte,rL,rA,rM,rD,hlg,hlm,decide_eq_false w0];refine hn _ _ ?_;clear hn hp K;refine seq_cond true (by simp only [sw.down,rE,reduceIte,rL,rA,rM,rD]) (fun _=> ?_) (fun hx=>by cases hx);refine seq_seq ?_;refine seq_reg fun K hn hp=> ?_;simp only [sw.down,rE,reduceIte,rL,rA,rM,rD];refine hn _ _ ?_;clear hn hp K;refine seq_ret (end_1 res160 ⟨?_,Fr.refl (Nat.le_refl _)⟩);have hs:g.shape m=false:=decide_eq_false fun he=>w0 (by have:=congrArg List.length he;simp at this;omega);simp [T.get_put,hs]
 refine seq_reg fun K hn hp=> ?_;simp only [sw.down,rE,reduceIte,rL,rA,rM,rD,hlg,hlm,decide_eq_true w0];refine hn _ _ ?_;clear hn hp K;refine seq_cond false (by simp only [sw.down,rE,reduceIte,rL,rA,rM,rD]) (fun hx=>by cases hx) (fun _=> ?_);refine seq_skip ?_;refine seq_seq ?_;refine seq_reg fun K hn hp=> ?_;simp only [sw.down,rE,reduceIte,rL,rA,rM,rD,hlg];refine hn _ _ ?_;clear hn hp K;refine seq_block fun K k1 k2 k3 k4 k5=> ?_;refine wpc_loop (sok xt) (fun st=> ∃(k n:Nat) (tm:T AV),st=⟨tm,32,h.up n,[]⟩∧h.n≤n∧k≤g.ll.length∧(g.ll.take k).map List.length=(m.cells.take k).map List.length∧tm.get 1=some m.vc∧tm.get 2=some (.val (.func (.func 161) #[] #[]))∧tm.get 15=some g.v∧tm.get 16=some (iv g.ll.length)∧tm.get 17=some (iv k))
  (fun st=>g.ll.length - (match st.tm.get 17 with|some (.val (.int _ n))=>n.toNat|_=>0)) ?_ ?_
 ·rintro st ⟨k,n,tm,rfl,hn1,hk,hall,g1,g2,g15,g16,g17⟩;have ht:(decide ((k:Int)<(g.ll.length:Int)))=decide (k<g.ll.length):=by simp
  refine seq_reg fun K hn hp=> ?_;simp only [sw.down,rE,reduceIte,rL,rA,rM,rD,g16,g17];refine hn _ _ ?_;clear hn hp K;by_cases hlt:k<g.ll.length
  ·have hlt2:k<m.cells.length:=by omega
   obtain ⟨a,hka⟩: ∃l,g.ll[k]? =some l:=⟨_,List.getElem?_eq_getElem hlt⟩;obtain ⟨b,hkb⟩: ∃l,m.cells[k]? =some l:=⟨_,List.getElem?_eq_getElem hlt2⟩;obtain ⟨v,i1,i2,i3,i4⟩:=(hg.up hn1).row hka;obtain ⟨w,j1,j2,j3,j4⟩:=(ha.up hn1).row hkb;have i1:=i1 .i64;have j1:=j1 .i64;have ov:=i3.one;have ow:=j3.one;refine seq_cond true (by simp only [sw.down,rE,reduceIte,rL,rA,rM,rD,ht,hlt]) (fun _=> ?_) (fun hx=>by cases hx);refine seq_skip ?_;refine seq_block fun K' k1' k2' k3' k4' k5'=> ?_;refine seq_reg fun K hn hp=> ?_;simp only [sw.down,rE,reduceIte,rL,rA,rM,rD,g15,g17,i1,i2];refine hn _ _ ?_;clear hn hp K;refine seq_reg fun K hn hp=> ?_;simp only [sw.down,rE,reduceIte,rL,rA,rM,rD,g1,j1,j2];refine hn _ _ ?_;clear hn hp K;refine seq_reg fun K1 hn hp=> ?_;simp only [sw.down,rE,reduceIte,rL,rA,rM,rD,g2];refine callA_func (sok xt) (FnA.calm (samelen_ok xt (h.up n) v w a.length b.length i4 j4) fun n2 hn2=> ?_);simp only [Hp.up_n] at hn2;by_cases w1:(a.length:Int)=b.length
   rotate_left
   ·simp only [sw.down,rE,reduceIte,rL,rA,rM,rD,decide_eq_false w1,Hp.up_up];refine hn _ _ ?_;clear hn hp K1;refine wpc_cond true (by simp only [sw.down,rE,reduceIte,rL,rA,rM,rD]) (fun _=> ?_) (fun hx=>by cases hx);refine seq_reg fun K hn hp=> ?_;simp only [sw.down,rE,reduceIte,rL,rA,rM,rD];refine hn _ _ ?_;clear hn hp K;refine wpc_ret (k4' _ (k4 _ (end_1 res160 ⟨?_,(Fr.refl (Nat.le_refl _)).up (by omega)⟩)));have hs:g.shape m=false:=decide_eq_false fun he=>w1 (by
     have:=congrArg (fun l:List Nat=>l[k]?) he;simp only [List.getElem?_map,hka,hkb,Option.map_some,Option.some.injEq] at this;omega)
    simp [T.get_put,hs]
   simp only [sw.down,rE,reduceIte,rL,rA,rM,rD,decide_eq_true w1,Hp.up_up];refine hn _ _ ?_;clear hn hp K1;refine wpc_cond false (by simp only [sw.down,rE,reduceIte,rL,rA,rM,rD]) (fun hx=>by cases hx) (fun _=> ?_);refine wpc_skip (k1' _ ?_);refine reg fun K1 hn hp=> ?_;have hw:IntKind.i64.wrap ((k:Int)+1)=((k+1:Nat):Int):=by rw [wrap_i64 _ (by omega) (by omega)];simp
   simp only [sw.down,rE,reduceIte,rL,rA,rM,rD,g17,hw];refine hn _ _ ?_;refine ⟨⟨k+1,n2,_,rfl,by omega,hlt,?_,?_,?_,?_,?_,?_⟩,?_⟩
   ·rw [List.take_succ,List.take_succ,hka,hkb];simp only [Option.toList_some,List.map_append,hall,List.map_cons,List.map_nil];rw [show a.length=b.length by omega]
   ·simp [T.get_put,g1]
   ·simp [T.get_put,g2]
   ·simp [T.get_put,g15]
   ·simp [T.get_put,g16]
   ·simp [T.get_put]
   ·have hm:g.ll.length - (k+1)<g.ll.length - k:=by omega
    simpa [T.get_put,g17] using hm
  ·refine seq_cond false (by simp only [sw.down,rE,reduceIte,rL,rA,rM,rD,ht,hlt]) (fun hx=>by cases hx) (fun _=> ?_);refine seq_exit (k2 _ ?_);refine seq_reg fun K hn hp=> ?_;simp only [sw.down,rE,reduceIte,rL,rA,rM,rD];refine hn _ _ ?_;clear hn hp K;refine wpc_ret (end_1 res160 ⟨?_,(Fr.refl (Nat.le_refl _)).up hn1⟩);have hkk:k=g.ll.length:=by omega
   have hk2:k=m.cells.length:=by omega
   have hs:g.shape m=true:=decide_eq_true (by
    have e:=hall;rw [hkk,List.take_length] at e;rw [e,←hkk,hk2,List.take_length])
   simp [T.get_put,hs]
 ·refine ⟨0,h.n,_,rfl,Nat.le_refl _,Nat.zero_le _,by simp,?_,?_,?_,?_,?_⟩;all_goals simp [T.get_put]
end Go.Proofs.Kn
namespace Go.Proofs.Kn
open Go Go.Ev
set_option maxRecDepth 100000
theorem wnt_d {b:Bool}:wnt b (some default)=false:=rfl
theorem ft90 (xt:Addr→Option Value):(SE xt).ft.get 90=some Tryz.f90:=by kernel_rfl
theorem res90:Tryz.f90.results.toList=[.tmp 4]:=by kernel_rfl
theorem shape_c (xt:Addr→Option Value) (h:Hp) (m:Mp) (ha:m.At xt h) (g:Gr) (hg:g.At xt h) {K:CR→Hp→Prop} (hk: ∀n,h.n<n→K (.ret (.val (.bool (g.shape m)))) (h.up n)):FnA (SE xt) 90 [m.av,g.v] h K:=by
 refine FnA.calm ?_ hk;clear hk K;refine FnA.walk (sok xt) (ft90 xt) rfl 9 rfl ?_;have one1:=ha.cells.one;have one2:=ha.gs.one;have one3:=ha.ks.one;have one4:=ha.ps.one;refine seq_reg fun K hn hp=> ?_;simp only [sw.down,rE,reduceIte,rL,rA,rM,rD];refine hn _ _ ?_;clear hn hp K;refine seq_reg fun K1 hn hp=> ?_;simp only [sw.down,rE,reduceIte,rL,rA,rM,rD];refine callA_func (sok xt) (eqf_c xt _ g (hg.new _) m (ha.new _) fun m1 hm1=> ?_);simp only [Hp.new_n] at hm1;simp only [sw.down,rE,reduceIte,rL,rA,rM,rD];refine hn _ _ (wpc_ret (end_1 res90 ⟨?_,((Fr.refl (Nat.le_refl _)).new _).up (by simp [Hp.new_n];omega)⟩));simp [T.get_put]
theorem ft37 (xt:Addr→Option Value):(SE xt).ft.get 37=some Tryz.f37:=by kernel_rfl
theorem res37:Tryz.f37.results.toList=[.tmp 2]:=by kernel_rfl
theorem ft38 (xt:Addr→Option Value):(SE xt).ft.get 38=some Tryz.f38:=by kernel_rfl
theorem res38:Tryz.f38.results.toList=[.tmp 2]:=by kernel_rfl
def sizedB (ll:List (List Int)):Bool:=(ll.take 9).all (fun l=> !decide ((10:Int)<l.length)) && decide ((ll.length:Int)≤8)
theorem sized_c (xt:Addr→Option Value) (h:Hp) (g:Gr) (hg:g.At xt h) {K:CR→Hp→Prop} (hk: ∀n,h.n<n→K (.ret (.val (.bool (sizedB g.ll)))) (h.up n)):FnA (SE xt) 38 [g.v] h K:=by
 refine FnA.calm ?_ hk;clear hk K;refine FnA.walk (sok xt) (ft38 xt) rfl 23 rfl ?_;have hlg:=hg.len;have hlc:=hg.lc;refine seq_reg fun K hn hp=> ?_;simp only [sw.down,rE,reduceIte,rL,rA,rM,rD];refine hn _ _ ?_;clear hn hp K;refine seq_seq ?_;refine seq_reg fun K hn hp=> ?_;simp only [sw.down,rE,reduceIte,rL,rA,rM,rD];refine hn _ _ ?_;clear hn hp K;refine seq_block fun K k1 k2 k3 k4 k5=> ?_;refine wpc_loop (sok xt) (fun st=> ∃(k:Nat) (tm:T AV),st=⟨tm,23,h,[]⟩∧k≤9∧k≤g.ll.length∧(g.ll.take k).all (fun l=> !decide ((10:Int)<l.length))=true∧tm.get 0=some g.v∧tm.get 3=some (iv k))
  (fun st=>g.ll.length - (match st.tm.get 3 with|some (.val (.int _ n))=>n.toNat|_=>0)) ?_ ?_
 ·rintro st ⟨k,tm,rfl,hk9,hkl,hall,g0,g3⟩;have ht:(decide ((k:Int)<(g.ll.length:Int)))=decide (k<g.ll.length):=by simp
  have ht9:(decide ((k:Int)<9))=decide (k<9):=by
   by_cases q:k<9
   ·rw [decide_eq_true q];exact decide_eq_true (by omega)
   ·rw [decide_eq_false q];exact decide_eq_false (by omega)
  by_cases hlt:k<g.ll.length∧k<9
  ·refine seq_seq ?_;refine seq_reg fun K hn hp=> ?_;simp only [sw.down,rE,reduceIte,rL,rA,rM,rD,g0,g3,hlg,ht,ht9,decide_eq_true hlt.1,decide_eq_true hlt.2];refine hn _ _ ?_;clear hn hp K;obtain ⟨l,hl⟩: ∃l,g.ll[k]? =some l:=⟨_,List.getElem?_eq_getElem hlt.1⟩;obtain ⟨v,i1,i2,i3,i4⟩:=hg.row hl;have i1:=i1 .i64;refine seq_cond true (by simp only [sw.down,rE,reduceIte,rL,rA,rM,rD]) (fun _=> ?_) (fun hx=>by cases hx);refine seq_skip ?_;refine seq_block fun K' k1' k2' k3' k4' k5'=> ?_;refine seq_reg fun K hn hp=> ?_;simp only [sw.down,rE,reduceIte,rL,rA,rM,rD,g0,g3,i1,i2,i4];refine hn _ _ ?_;clear hn hp K;by_cases w1:(10:Int)<l.length
   ·refine wpc_cond true (by simp only [sw.down,rE,reduceIte,rL,rA,rM,rD,decide_eq_true w1]) (fun _=> ?_) (fun hx=>by cases hx);refine seq_reg fun K hn hp=> ?_;simp only [sw.down,rE,reduceIte,rL,rA,rM,rD];refine hn _ _ ?_;clear hn hp K;refine wpc_ret (k4' _ (k4 _ (end_1 res38 ⟨?_,Fr.refl (Nat.le_refl _)⟩)));have hs:sizedB g.ll=false:=by
     have:(g.ll.take 9).all (fun l=> !decide ((10:Int)<l.length))=false:=by
      rw [List.all_eq_false];exact ⟨l,List.mem_of_getElem? (i:=k) (by rw [List.getElem?_take,if_pos hlt.2];exact hl),by simp [w1]⟩
     simp only [sizedB,this,Bool.false_and]
    simp [T.get_put,hs]
   ·refine wpc_cond false (by simp only [sw.down,rE,reduceIte,rL,rA,rM,rD,decide_eq_false w1]) (fun hx=>by cases hx) (fun _=> ?_);refine wpc_skip (k1' _ ?_);refine reg fun K1 hn hp=> ?_;have hw:IntKind.i64.wrap ((k:Int)+1)=((k+1:Nat):Int):=by rw [wrap_i64 _ (by omega) (by omega)];simp
    simp only [sw.down,rE,reduceIte,rL,rA,rM,rD,g3,hw];refine hn _ _ ?_;refine ⟨⟨k+1,_,rfl,by omega,by omega,?_,?_,?_⟩,?_⟩
    ·rw [List.take_succ,hl];simp only [Option.toList_some,List.all_append,hall,List.all_cons,List.all_nil,decide_eq_false w1,Bool.not_false,Bool.and_self]
    ·simp [T.get_put,g0]
    ·simp [T.get_put]
    ·have hm:g.ll.length - (k+1)<g.ll.length - k:=by omega
     simpa [T.get_put,g3] using hm
  ·have hend:(g.ll.take 9).all (fun l=> !decide ((10:Int)<l.length))=true:=by
    by_cases q:k<g.ll.length
    ·have:k=9:=by omega
     rw [←this];exact hall
    ·rw [show k=g.ll.length by omega,List.take_length] at hall;rw [List.all_eq_true] at hall ⊢;exact fun x hx=>hall x (List.mem_of_mem_take hx)
   refine seq_seq ?_;by_cases q:k<g.ll.length
   ·have q9: ¬k<9:=fun h9=>hlt ⟨q,h9⟩;refine seq_reg fun K hn hp=> ?_;simp only [sw.down,rE,reduceIte,rL,rA,rM,rD,g0,g3,hlg,ht,ht9,decide_eq_true q,decide_eq_false q9];refine hn _ _ ?_;clear hn hp K;refine seq_cond false (by simp only [sw.down,rE,reduceIte,rL,rA,rM,rD]) (fun hx=>by cases hx) (fun _=> ?_);refine seq_exit (k2 _ ?_);refine seq_reg fun K hn hp=> ?_;simp only [sw.down,rE,reduceIte,rL,rA,rM,rD,g0,hlg];refine hn _ _ ?_;clear hn hp K;refine wpc_ret (end_1 res38 ⟨?_,Fr.refl (Nat.le_refl _)⟩);simp [T.get_put,sizedB,hend]
   ·refine seq_reg fun K hn hp=> ?_;simp only [sw.down,rE,reduceIte,rL,rA,rM,rD,g0,g3,hlg,ht,decide_eq_false q,wnt_d];refine hn _ _ ?_;clear hn hp K;refine seq_cond false (by simp only [sw.down,rE,reduceIte,rL,rA,rM,rD]) (fun hx=>by cases hx) (fun _=> ?_);refine seq_exit (k2 _ ?_);refine seq_reg fun K hn hp=> ?_;simp only [sw.down,rE,reduceIte,rL,rA,rM,rD,g0,hlg];refine hn _ _ ?_;clear hn hp K;refine wpc_ret (end_1 res38 ⟨?_,Fr.refl (Nat.le_refl _)⟩);simp [T.get_put,sizedB,hend]
 ·refine ⟨0,_,rfl,Nat.zero_le _,Nat.zero_le _,by simp,?_,?_⟩;all_goals simp [T.get_put]
end Go.Proofs.Kn
namespace Go.Proofs.Kn
open Go Go.Ev
set_option maxRecDepth 100000
def Mp.short (m:Mp):Bool:=(m.cells.take 9).all (fun l=> !decide ((10:Int)<l.length)) && (decide ((m.cells.length:Int)≤8) && (decide ((m.gs.length:Int)≤11) && (decide ((m.ks.length:Int)≤11) && decide ((m.ps.length:Int)≤15))))
theorem short_c (xt:Addr→Option Value) (h:Hp) (m:Mp) (hg:m.At xt h) {K:CR→Hp→Prop} (hk: ∀n,h.n<n→K (.ret (.val (.bool m.short))) (h.up n)):FnA (SE xt) 37 [m.av] h K:=by
 refine FnA.calm ?_ hk;clear hk K;refine FnA.walk (sok xt) (ft37 xt) rfl 44 rfl ?_;have hlg:=hg.len;have hlc:=hg.lc;have one1:=hg.cells.one;have one2:=hg.gs.one;have one3:=hg.ks.one;have one4:=hg.ps.one;have hlg1:=fun h'=>(hg.gs).len (h':=h') tg23 rfl;have hlk:=fun h'=>(hg.ks).len (h':=h') tg24 rfl;have hlp:=fun h'=>(hg.ps).len (h':=h') tg25 rfl;simp only [List.length_map] at hlg1 hlk hlp;refine seq_reg fun K hn hp=> ?_;simp only [sw.down,rE,reduceIte,rL,rA,rM,rD];refine hn _ _ ?_;clear hn hp K;obtain ⟨h1,hh1⟩: ∃h1:Hp,h1=h.new (.cells m.cs 27):=⟨_,rfl⟩;rw [←hh1];have hg1:m.At xt h1:=by rw [hh1];exact hg.new _
 have f1:Fr h.n h h1:=by rw [hh1];exact (Fr.refl (Nat.le_refl _)).new _
 have q2:h1.t.get h.n=some (.cells m.cs 27):=by rw [hh1,Hp.new_t,T.get_put,if_pos rfl]
 refine seq_seq ?_;refine seq_reg fun K hn hp=> ?_;simp only [sw.down,rE,reduceIte,rL,rA,rM,rD];refine hn _ _ ?_;clear hn hp K;refine seq_block fun K k1 k2 k3 k4 k5=> ?_;refine wpc_loop (sok xt) (fun st=> ∃(k:Nat) (tm:T AV),st=⟨tm,44,h1,[]⟩∧k≤9∧k≤m.cells.length∧(m.cells.take k).all (fun l=> !decide ((10:Int)<l.length))=true∧tm.get 1=some (.ptr h.n 0)∧tm.get 3=some (iv k))
  (fun st=>m.cells.length - (match st.tm.get 3 with|some (.val (.int _ n))=>n.toNat|_=>0)) ?_ ?_
 ·rintro st ⟨k,tm,rfl,hk9,hkl,hall,g0,g3⟩;have ht:(decide ((k:Int)<(m.cells.length:Int)))=decide (k<m.cells.length):=by simp
  have ht9:(decide ((k:Int)<9))=decide (k<9):=by
   by_cases q:k<9
   ·rw [decide_eq_true q];exact decide_eq_true (by omega)
   ·rw [decide_eq_false q];exact decide_eq_false (by omega)
  by_cases hlt:k<m.cells.length∧k<9
  ·refine seq_seq ?_;refine seq_reg fun K hn hp=> ?_;simp only [sw.down,rE,reduceIte,rL,rA,rM,rD,g0,q2,g3,hlg,ht,ht9,decide_eq_true hlt.1,decide_eq_true hlt.2];refine hn _ _ ?_;clear hn hp K;obtain ⟨l,hl⟩: ∃l,m.cells[k]? =some l:=⟨_,List.getElem?_eq_getElem hlt.1⟩;obtain ⟨v,i1,i2,i3,i4⟩:=hg1.row hl;have i1:=i1 .i64;refine seq_cond true (by simp only [sw.down,rE,reduceIte,rL,rA,rM,rD]) (fun _=> ?_) (fun hx=>by cases hx);refine seq_skip ?_;refine seq_block fun K' k1' k2' k3' k4' k5'=> ?_;refine seq_reg fun K hn hp=> ?_;simp only [sw.down,rE,reduceIte,rL,rA,rM,rD,g0,q2,g3,i1,i2,i4];refine hn _ _ ?_;clear hn hp K;by_cases w1:(10:Int)<l.length
   ·refine wpc_cond true (by simp only [sw.down,rE,reduceIte,rL,rA,rM,rD,decide_eq_true w1]) (fun _=> ?_) (fun hx=>by cases hx);refine seq_reg fun K hn hp=> ?_;simp only [sw.down,rE,reduceIte,rL,rA,rM,rD];refine hn _ _ ?_;clear hn hp K;refine wpc_ret (k4' _ (k4 _ (end_1 res37 ⟨?_,f1⟩)));have hs:m.short=false:=by
     have:(m.cells.take 9).all (fun l=> !decide ((10:Int)<l.length))=false:=by
      rw [List.all_eq_false];exact ⟨l,List.mem_of_getElem? (i:=k) (by rw [List.getElem?_take,if_pos hlt.2];exact hl),by simp [w1]⟩
     simp only [Mp.short,this,Bool.false_and]
    simp [T.get_put,hs]
   ·refine wpc_cond false (by simp only [sw.down,rE,reduceIte,rL,rA,rM,rD,decide_eq_false w1]) (fun hx=>by cases hx) (fun _=> ?_);refine wpc_skip (k1' _ ?_);refine reg fun K1 hn hp=> ?_;have hw:IntKind.i64.wrap ((k:Int)+1)=((k+1:Nat):Int):=by rw [wrap_i64 _ (by omega) (by omega)];simp
    simp only [sw.down,rE,reduceIte,rL,rA,rM,rD,g3,hw];refine hn _ _ ?_;refine ⟨⟨k+1,_,rfl,by omega,by omega,?_,?_,?_⟩,?_⟩
    ·rw [List.take_succ,hl];simp only [Option.toList_some,List.all_append,hall,List.all_cons,List.all_nil,decide_eq_false w1,Bool.not_false,Bool.and_self]
    ·simp [T.get_put,g0]
    ·simp [T.get_put]
    ·have hm:m.cells.length - (k+1)<m.cells.length - k:=by omega
     simpa [T.get_put,g3] using hm
  ·have hend:(m.cells.take 9).all (fun l=> !decide ((10:Int)<l.length))=true:=by
    by_cases q:k<m.cells.length
    ·have:k=9:=by omega
     rw [←this];exact hall
    ·rw [show k=m.cells.length by omega,List.take_length] at hall;rw [List.all_eq_true] at hall ⊢;exact fun x hx=>hall x (List.mem_of_mem_take hx)
   refine seq_seq ?_;by_cases q:k<m.cells.length
   ·have q9: ¬k<9:=fun h9=>hlt ⟨q,h9⟩;refine seq_reg fun K hn hp=> ?_;simp only [sw.down,rE,reduceIte,rL,rA,rM,rD,g0,q2,g3,hlg,ht,ht9,decide_eq_true q,decide_eq_false q9];refine hn _ _ ?_;clear hn hp K;refine seq_cond false (by simp only [sw.down,rE,reduceIte,rL,rA,rM,rD]) (fun hx=>by cases hx) (fun _=> ?_);refine seq_exit (k2 _ ?_);cases w1:decide ((m.cells.length:Int)≤8)
    ·refine seq_reg fun K hn hp=> ?_;simp only [sw.down,rE,reduceIte,rL,rA,rM,rD,g0,q2,hlg,hlg1,hlk,hlp,w1];refine hn _ _ ?_;clear hn hp K;refine wpc_ret (end_1 res37 ⟨?_,f1⟩);simp [T.get_put,Mp.short,w1]
    cases w2:decide ((m.gs.length:Int)≤11)
    ·refine seq_reg fun K hn hp=> ?_;simp only [sw.down,rE,reduceIte,rL,rA,rM,rD,g0,q2,hlg,hlg1,hlk,hlp,w1,w2];refine hn _ _ ?_;clear hn hp K;refine wpc_ret (end_1 res37 ⟨?_,f1⟩);simp [T.get_put,Mp.short,w1,w2]
    cases w3:decide ((m.ks.length:Int)≤11)
    ·refine seq_reg fun K hn hp=> ?_;simp only [sw.down,rE,reduceIte,rL,rA,rM,rD,g0,q2,hlg,hlg1,hlk,hlp,w1,w2,w3];refine hn _ _ ?_;clear hn hp K;refine wpc_ret (end_1 res37 ⟨?_,f1⟩);simp [T.get_put,Mp.short,w1,w2,w3]
    refine seq_reg fun K hn hp=> ?_;simp only [sw.down,rE,reduceIte,rL,rA,rM,rD,g0,q2,hlg,hlg1,hlk,hlp,w1,w2,w3];refine hn _ _ ?_;clear hn hp K;refine wpc_ret (end_1 res37 ⟨?_,f1⟩);simp only [Mp.short,hend,w1,w2,w3,Bool.true_and];simp [T.get_put]
   ·refine seq_reg fun K hn hp=> ?_;simp only [sw.down,rE,reduceIte,rL,rA,rM,rD,g0,q2,g3,hlg,ht,decide_eq_false q,wnt_d];refine hn _ _ ?_;clear hn hp K;refine seq_cond false (by simp only [sw.down,rE,reduceIte,rL,rA,rM,rD]) (fun hx=>by cases hx) (fun _=> ?_);refine seq_exit (k2 _ ?_);cases w1:decide ((m.cells.length:Int)≤8)
    ·refine seq_reg fun K hn hp=> ?_;simp only [sw.down,rE,reduceIte,rL,rA,rM,rD,g0,q2,hlg,hlg1,hlk,hlp,w1];refine hn _ _ ?_;clear hn hp K;refine wpc_ret (end_1 res37 ⟨?_,f1⟩);simp [T.get_put,Mp.short,w1]
    cases w2:decide ((m.gs.length:Int)≤11)
    ·refine seq_reg fun K hn hp=> ?_;simp only [sw.down,rE,reduceIte,rL,rA,rM,rD,g0,q2,hlg,hlg1,hlk,hlp,w1,w2];refine hn _ _ ?_;clear hn hp K;refine wpc_ret (end_1 res37 ⟨?_,f1⟩);simp [T.get_put,Mp.short,w1,w2]
    cases w3:decide ((m.ks.length:Int)≤11)
    ·refine seq_reg fun K hn hp=> ?_;simp only [sw.down,rE,reduceIte,rL,rA,rM,rD,g0,q2,hlg,hlg1,hlk,hlp,w1,w2,w3];refine hn _ _ ?_;clear hn hp K;refine wpc_ret (end_1 res37 ⟨?_,f1⟩);simp [T.get_put,Mp.short,w1,w2,w3]
    refine seq_reg fun K hn hp=> ?_;simp only [sw.down,rE,reduceIte,rL,rA,rM,rD,g0,q2,hlg,hlg1,hlk,hlp,w1,w2,w3];refine hn _ _ ?_;clear hn hp K;refine wpc_ret (end_1 res37 ⟨?_,f1⟩);simp only [Mp.short,hend,w1,w2,w3,Bool.true_and];simp [T.get_put]
 ·refine ⟨0,_,rfl,Nat.zero_le _,Nat.zero_le _,by simp,?_,?_⟩;all_goals simp [T.get_put]
end Go.Proofs.Kn
