/- MvH1, MvH2, MvH3, MvH4: texts in a row, joined by a program. -/
import Derived.Test.YtnmfblokfponlaaGreatDoorQM
set_option linter.all false
open Nat renaming reduceEqDiff → rE, reduceLeDiff → rD, reduceAdd → rA, reduceMul → rM, reduceLT → rL
namespace Go.Proofs.Kn
open Go Go.Ev
set_option maxRecDepth 100000
theorem ft25 (xt:Addr→Option Value):(SE xt).ft.get 25=some Tryz.f25:=by kernel_rfl
theorem res25:Tryz.f25.results.toList=[.tmp 2,.tmp 3]:=by kernel_rfl
abbrev Mp.wk (m:Mp):Wk:=⟨m,.val (.slice none 0 0),[],0⟩
theorem Mp.At.wk {m:Mp} {xt:Addr→Option Value} {h:Hp} (a:m.At xt h):m.wk.At xt h:=⟨a,⟨by simp,by omega,.inl ⟨rfl,rfl⟩⟩,by simp⟩
theorem bd30 (m:Mp):abuildA tb 30 [(0,m.av)]=some m.wk.av:=by kernel_rfl
def Mp.bnd (m:Mp):Option Th.Grid:=Th.boundP m.T m.J (m.W - 1) m.F0 (m.gs.map gg) m.cells.length
abbrev nilS:AV:= .val (.slice none 0 0)
def ThkR (h:Hp) (m:Mp) (res:CR) (h':Hp):Prop:=Fr h.n h h'∧match m.ok,m.bnd with
 |false,_=>res= .ret (.tup [nilS,iv 2])
 |true,none=>res= .ret (.tup [nilS,iv 7])
 |true,some G=> ∃v M,res= .ret (.tup [v,iv 0])∧SG h' h.n M v m.cells.length m.W G∧h.n≤M∧M≤h'.n
theorem thick_c (xt:Addr→Option Value) (h:Hp) (m:Mp) (ha:m.At xt h):FnA (SE xt) 25 [m.av] h (ThkR h m):=by
 refine FnA.walk (sok xt) (ft25 xt) rfl 18 rfl ?_;obtain ⟨o1,o2,o3,o4,o5⟩:=ha.wk.ones;refine seq_reg fun K hn hp=> ?_;simp only [sw.down,rE,reduceIte,rL,rA,rM,rD,sv.down,o1,o2,o3,o4];refine hn _ _ ?_;clear hn hp K;obtain ⟨h1,hh1⟩: ∃h1:Hp,h1=h.new (.cells m.cs 27):=⟨_,rfl⟩;rw [←hh1];have nh1:h1.n=h.n+1:=by rw [hh1];rfl
 have sh1:h1.t.get h.n=some (.cells m.cs 27):=by rw [hh1];exact new_at _ _
 have kh1: ∀k,k<h.n→h1.t.get k=h.t.get k:=fun k hk=>by rw [hh1];exact new_lt _ _ hk
 have fbh1:Fr h.n h h1:=by rw [hh1];exact (Fr.refl (Nat.le_refl _)).new _
 have fh1:=fbh1;refine seq_seq ?_;refine seq_reg fun K hn hp=> ?_;simp only [sw.down,rE,reduceIte,rL,rA,rM,rD,sv.down,o1,o2,o3,o4,sh1,nh1];refine callA_func (sok xt) (isMap_c xt h1 m (ha.fr fh1 (Nat.le_refl _)) fun n1 hn1=> ?_);have hn1:=Nat.le_of_lt hn1;cases q:m.ok
 ·simp only [sw.down,rE,reduceIte,rL,rA,rM,rD,sv.down,o1,o2,o3,o4,sh1,nh1,q];refine hn _ _ ?_;clear hn hp K;refine seq_cond true (by simp only [sw.down,rE,reduceIte,rL,rA,rM,rD,sv.down,o1,o2,o3,o4,sh1,nh1]) (fun _=> ?_) (fun hx=>by cases hx);refine seq_seq ?_;refine seq_reg fun K hn hp=> ?_;simp only [sw.down,rE,reduceIte,rL,rA,rM,rD,sv.down,o1,o2,o3,o4,sh1,nh1];refine hn _ _ ?_;clear hn hp K;refine seq_ret (end_2 res25 ⟨fh1.up hn1,?_⟩);rw [q];simp [T.get_put]
 ·simp only [sw.down,rE,reduceIte,rL,rA,rM,rD,sv.down,o1,o2,o3,o4,sh1,nh1,q];refine hn _ _ ?_;clear hn hp K;refine seq_cond false (by simp only [sw.down,rE,reduceIte,rL,rA,rM,rD,sv.down,o1,o2,o3,o4,sh1,nh1]) (fun hx=>by cases hx) (fun _=> ?_);refine seq_skip ?_;have his:=Mp.ok_is q;have bd:=bd30 m;refine seq_reg fun K hn hp=> ?_;simp only [sw.down,rE,reduceIte,rL,rA,rM,rD,sv.down,o1,o2,o3,o4,sh1,nh1,bd];refine callA_func (sok xt) (FnA.mono (bounds_c xt (h1.up n1) m.wk (ha.wk.fr (fh1.up hn1) (Nat.le_refl _)) m.cells.length m.W his) fun res h' hres=> ?_);obtain ⟨fr,hres⟩:=hres;have fr':=(fh1.up hn1).trans fr (by simp;omega);cases hq:m.bnd with
  |none=>
   rw [show Th.boundP m.wk.m.T m.wk.m.J (m.W - 1) m.wk.m.F0 (m.wk.m.gs.map gg) m.cells.length=none from hq] at hres;obtain rfl:=hres;simp only [sw.down,rE,reduceIte,rL,rA,rM,rD,sv.down,o1,o2,o3,o4,sh1,nh1];refine hn _ _ ?_;clear hn hp K;obtain ⟨h2,hh2⟩: ∃h2:Hp,h2=(h'.new (.cells [.val (.slice none 0 0),iv 0,iv 0,.val (.slice none 0 0),.val (.slice none 0 0),.val (.slice none 0 0),.val (.slice none 0 0),iv 0,.val (.slice none 0 0)] 121)).set h'.n (.cells z121 121):=⟨_,rfl⟩;have nh2:h2.n=h'.n+1:=by rw [hh2];rfl
   have sh2:h2.t.get h'.n=some (.cells z121 121):=by rw [hh2,Hp.set_t,T.get_put,if_pos rfl]
   have kh2: ∀k,k<h'.n→h2.t.get k=h'.t.get k:=fun k hk=>by rw [hh2];exact newset_lt _ _ _ hk
   have fbh2:Fr h'.n h' h2:=by rw [hh2];exact newset_fr _ _ _
   have fh2:=fbh2;rw [←hh2];refine seq_reg fun K hn hp=> ?_;simp only [sw.down,rE,reduceIte,rL,rA,rM,rD,sv.down,o1,o2,o3,o4,sh1,nh1,sh2,nh2];refine hn _ _ ?_;clear hn hp K;refine wpc_ret (end_2 res25 ⟨fr'.trans fbh2 (by have:=fr'.lo;omega),?_⟩);rw [q,hq];simp [T.get_put]
  |some G=>
   rw [show Th.boundP m.wk.m.T m.wk.m.J (m.W - 1) m.wk.m.F0 (m.wk.m.gs.map gg) m.cells.length=some G from hq] at hres;obtain ⟨v,M,rfl,sg,m1,m2⟩:=hres;have onev:=sg.one;simp only [sw.down,rE,reduceIte,rL,rA,rM,rD,sv.down,o1,o2,o3,o4,sh1,nh1,onev];refine hn _ _ ?_;clear hn hp K;obtain ⟨h2,hh2⟩: ∃h2:Hp,h2=(h'.new (.cells [.val (.slice none 0 0),iv 0,iv 0,.val (.slice none 0 0),.val (.slice none 0 0),.val (.slice none 0 0),.val (.slice none 0 0),iv 0,.val (.slice none 0 0)] 121)).set h'.n (.cells (m.wk.bc v) 121):=⟨_,rfl⟩;have nh2:h2.n=h'.n+1:=by rw [hh2];rfl
   have sh2:h2.t.get h'.n=some (.cells (m.wk.bc v) 121):=by rw [hh2,Hp.set_t,T.get_put,if_pos rfl]
   have kh2: ∀k,k<h'.n→h2.t.get k=h'.t.get k:=fun k hk=>by rw [hh2];exact newset_lt _ _ _ hk
   have fbh2:Fr h'.n h' h2:=by rw [hh2];exact newset_fr _ _ _
   have fh2:=fbh2;rw [←hh2];refine seq_reg fun K hn hp=> ?_;simp only [sw.down,rE,reduceIte,rL,rA,rM,rD,sv.down,o1,o2,o3,o4,sh1,nh1,sh2,nh2];refine hn _ _ ?_;clear hn hp K;refine wpc_ret (end_2 res25 ⟨fr'.trans fbh2 (by have:=fr'.lo;omega),?_⟩);rw [q,hq];refine ⟨v,M,by simp [T.get_put],SG.lower (sg.fr fbh2 m2) (by have:=fh1.lo;simp only [Hp.up_n];omega),?_,by omega⟩;have:=fh1.lo;simp only [Hp.up_n] at m1;omega
end Go.Proofs.Kn
namespace Go.Proofs.Kn
open Go Go.Ev
set_option maxRecDepth 100000
theorem ft27 (xt:Addr→Option Value):(SE xt).ft.get 27=some Tryz.f27:=by kernel_rfl
theorem res27:Tryz.f27.results.toList=[.tmp 2]:=by kernel_rfl
theorem ft84 (xt:Addr→Option Value):(SE xt).ft.get 84=some Tryz.f84:=by kernel_rfl
theorem res84:Tryz.f84.results.toList=[.tmp 2]:=by kernel_rfl
theorem rows_c (xt:Addr→Option Value) (h:Hp) (m:Mp) (ha:m.At xt h) {K:CR→Hp→Prop} (hk: ∀n,h.n<n→K (.ret (iv m.cells.length)) (h.up n)):FnA (SE xt) 27 [m.av] h K:=by
 refine FnA.calm ?_ hk;clear hk K;refine FnA.walk (sok xt) (ft27 xt) rfl 6 rfl ?_;obtain ⟨o1,o2,o3,o4,o5⟩:=ha.wk.ones;have hlen:=ha.len;refine seq_reg fun K hn hp=> ?_;simp only [sw.down,rE,reduceIte,rL,rA,rM,rD,sv.down,o1,o2,o3,o4,hlen];refine hn _ _ ?_;clear hn hp K;obtain ⟨h1,hh1⟩: ∃h1:Hp,h1=h.new (.cells m.cs 27):=⟨_,rfl⟩;rw [←hh1];have nh1:h1.n=h.n+1:=by rw [hh1];rfl
 have sh1:h1.t.get h.n=some (.cells m.cs 27):=by rw [hh1];exact new_at _ _
 have kh1: ∀k,k<h.n→h1.t.get k=h.t.get k:=fun k hk=>by rw [hh1];exact new_lt _ _ hk
 have fbh1:Fr h.n h h1:=by rw [hh1];exact (Fr.refl (Nat.le_refl _)).new _
 have fh1:=fbh1;refine seq_reg fun K hn hp=> ?_;simp only [sw.down,rE,reduceIte,rL,rA,rM,rD,sv.down,o1,o2,o3,o4,hlen,sh1,nh1];refine hn _ _ ?_;clear hn hp K;refine wpc_ret (end_1 res27 ⟨?_,fh1⟩);simp [T.get_put]
theorem cols_c (xt:Addr→Option Value) (h:Hp) (m:Mp) (ha:m.At xt h) {K:CR→Hp→Prop} (hk: ∀n,h.n<n→K (.ret (iv m.W)) (h.up n)):FnA (SE xt) 84 [m.av] h K:=by
 refine FnA.calm ?_ hk;clear hk K;refine FnA.walk (sok xt) (ft84 xt) rfl 12 rfl ?_;obtain ⟨o1,o2,o3,o4,o5⟩:=ha.wk.ones;have hlen:=ha.len;refine seq_reg fun K hn hp=> ?_;simp only [sw.down,rE,reduceIte,rL,rA,rM,rD,sv.down,o1,o2,o3,o4,hlen];refine hn _ _ ?_;clear hn hp K;obtain ⟨h1,hh1⟩: ∃h1:Hp,h1=h.new (.cells m.cs 27):=⟨_,rfl⟩;rw [←hh1];have nh1:h1.n=h.n+1:=by rw [hh1];rfl
 have sh1:h1.t.get h.n=some (.cells m.cs 27):=by rw [hh1];exact new_at _ _
 have kh1: ∀k,k<h.n→h1.t.get k=h.t.get k:=fun k hk=>by rw [hh1];exact new_lt _ _ hk
 have fbh1:Fr h.n h h1:=by rw [hh1];exact (Fr.refl (Nat.le_refl _)).new _
 have fh1:=fbh1;refine seq_seq ?_;cases q:m.cells with
 |nil=>
  have ql:m.cells.length=0:=by rw [q];rfl
  rw [ql] at hlen;refine seq_reg fun K hn hp=> ?_;simp only [sw.down,rE,reduceIte,rL,rA,rM,rD,sv.down,o1,o2,o3,o4,hlen,sh1,nh1];refine hn _ _ ?_;clear hn hp K;refine seq_cond true (by simp only [sw.down,rE,reduceIte,rL,rA,rM,rD,sv.down,o1,o2,o3,o4,hlen,sh1,nh1,Int.natCast_zero,decide_true]) (fun _=> ?_) (fun hx=>by cases hx);refine seq_seq ?_;refine seq_reg fun K hn hp=> ?_;simp only [sw.down,rE,reduceIte,rL,rA,rM,rD,sv.down,o1,o2,o3,o4,hlen,sh1,nh1];refine hn _ _ ?_;clear hn hp K;refine seq_ret (end_1 res84 ⟨?_,fh1⟩);simp [T.get_put,Mp.W,q]
 |cons l ls=>
  have hl0:0<m.cells.length:=by rw [q];simp
  have hd:decide ((m.cells.length:Int)=0)=false:=decide_eq_false (by omega);have hW:m.W=(m.cells.getD 0 []).length:=by simp [Mp.W,q]
  obtain ⟨v,i1,i2,i3,i4⟩:=(ha.fr fh1 (Nat.le_refl _)).rowD hl0;refine seq_reg fun K hn hp=> ?_;simp only [sw.down,rE,reduceIte,rL,rA,rM,rD,sv.down,o1,o2,o3,o4,hlen,sh1,nh1,hd];refine hn _ _ ?_;clear hn hp K;refine seq_cond false (by simp only [sw.down,rE,reduceIte,rL,rA,rM,rD,sv.down,o1,o2,o3,o4,hlen,sh1,nh1]) (fun hx=>by cases hx) (fun _=> ?_);refine seq_skip ?_;have i1:aindexAddr tb 22 m.vc (iv 0)=some (elp m.vc 0):=i1;refine seq_reg fun K hn hp=> ?_;simp only [sw.down,rE,reduceIte,rL,rA,rM,rD,sv.down,o1,o2,o3,o4,hlen,sh1,nh1,i1,i2,i4];refine hn _ _ ?_;clear hn hp K;refine wpc_ret (end_1 res84 ⟨?_,fh1⟩);rw [hW];simp [T.get_put]
end Go.Proofs.Kn
namespace Go.Proofs.Kn
open Go Go.Ev
set_option maxRecDepth 100000
theorem ft87 (xt:Addr→Option Value):(SE xt).ft.get 87=some Tryz.f87:=by kernel_rfl
theorem res87:Tryz.f87.results.toList=[.tmp 6]:=by kernel_rfl
theorem ft89 (xt:Addr→Option Value):(SE xt).ft.get 89=some Tryz.f89:=by kernel_rfl
theorem res89:Tryz.f89.results.toList=[.tmp 6]:=by kernel_rfl
def Mp.rc (m:Mp) (r c:Int):Int:=if inB r 0 (m.R - 1) && inB c 0 ((m.cells.getD r.toNat []).length - 1) then (m.cells.getD r.toNat []).getD c.toNat 0 else 1
theorem rc_c (xt:Addr→Option Value) (h:Hp) (m:Mp) (ha:m.At xt h) (r c:Int) {K:CR→Hp→Prop} (hk: ∀n,h.n<n→K (.ret (iv (m.rc r c))) (h.up n)):FnA (SE xt) 87 [m.av,iv r,iv c] h K:=by
 refine FnA.calm ?_ hk;clear hk K;refine FnA.walk (sok xt) (ft87 xt) rfl 33 rfl ?_;obtain ⟨o1,o2,o3,o4,o5⟩:=ha.wk.ones;have hlc:=ha.lc;have hw:IntKind.i64.wrap ((m.cells.length:Int) - 1)=m.R - 1:=by rw [wrap_i64 _ (by omega) (by omega)];rfl
 refine seq_reg fun K hn hp=> ?_;simp only [sw.down,rE,reduceIte,rL,rA,rM,rD,sv.down,o1,o2,o3,o4];refine hn _ _ ?_;clear hn hp K;obtain ⟨h1,hh1⟩: ∃h1:Hp,h1=h.new (.cells m.cs 27):=⟨_,rfl⟩;rw [←hh1];have nh1:h1.n=h.n+1:=by rw [hh1];rfl
 have sh1:h1.t.get h.n=some (.cells m.cs 27):=by rw [hh1];exact new_at _ _
 have kh1: ∀k,k<h.n→h1.t.get k=h.t.get k:=fun k hk=>by rw [hh1];exact new_lt _ _ hk
 have fbh1:Fr h.n h h1:=by rw [hh1];exact (Fr.refl (Nat.le_refl _)).new _
 have fh1:=fbh1;have ha1:=ha.fr fh1 (Nat.le_refl _);refine seq_seq ?_;refine seq_reg fun K hn hp=> ?_;simp only [sw.down,rE,reduceIte,rL,rA,rM,rD,sv.down,o1,o2,o3,o4,sh1,nh1];refine callA_func (sok xt) (rows_c xt h1 m ha1 fun n1 hn1=> ?_);have hn1:=Nat.le_of_lt hn1;simp only [sw.down,rE,reduceIte,rL,rA,rM,rD,sv.down,o1,o2,o3,o4,sh1,nh1,hw];refine callA_func (sok xt) (rin_c xt _ _ _ _ fun n2 hn2=> ?_);have hn2:=Nat.le_of_lt hn2;simp only [Hp.up_n] at hn2;cases q1:(decide (0≤r) && decide (r≤m.R - 1))
 ·simp only [sw.down,rE,reduceIte,rL,rA,rM,rD,sv.down,o1,o2,o3,o4,sh1,nh1,q1,Hp.up_up];refine hn _ _ ?_;clear hn hp K;refine seq_cond true (by simp only [sw.down,rE,reduceIte,rL,rA,rM,rD,sv.down,o1,o2,o3,o4,sh1,nh1]) (fun _=> ?_) (fun hx=>by cases hx);refine seq_seq ?_;refine seq_reg fun K hn hp=> ?_;simp only [sw.down,rE,reduceIte,rL,rA,rM,rD,sv.down,o1,o2,o3,o4,sh1,nh1];refine hn _ _ ?_;clear hn hp K;refine seq_ret (end_1 res87 ⟨?_,fh1.up (by omega)⟩);have:m.rc r c=1:=by
   have q1:inB r 0 (m.R - 1)=false:=q1;simp [Mp.rc,q1]
  simp [T.get_put,this]
 have q1':inB r 0 (m.R - 1)=true:=q1;obtain ⟨r',rfl⟩: ∃r':Nat,r=r':=by
  obtain ⟨z1,z2⟩:=Bool.and_eq_true_iff.1 q1;have z1:=of_decide_eq_true z1;exact ⟨r.toNat,by omega⟩
 have hr':r'<m.cells.length:=by
  obtain ⟨z1,z2⟩:=Bool.and_eq_true_iff.1 q1;have z2:=of_decide_eq_true z2;simp only [Mp.R] at z2;omega
 obtain ⟨v,i1,i2,i3,i4⟩:=ha.rowF hr';have i2:=i2 h1 fh1;have hll:=ha.lr _ (List.mem_of_getElem? (getD_some [] hr'));have hw2:IntKind.i64.wrap (((m.cells.getD r' []).length:Int) - 1)=((m.cells.getD r' []).length:Int) - 1:=wrap_i64 _ (by omega) (by omega);simp only [sw.down,rE,reduceIte,rL,rA,rM,rD,sv.down,o1,o2,o3,o4,sh1,nh1,i1,i2,i4,q1,Hp.up_up,hw2];refine callA_func (sok xt) (rin_c xt _ _ _ _ fun n3 hn3=> ?_);have hn3:=Nat.le_of_lt hn3;simp only [Hp.up_n] at hn3;have erow:m.cells.getD ((r':Int)).toNat []=m.cells.getD r' []:=by rw [Int.toNat_natCast]
 cases q2:(decide (0≤c) && decide (c≤((m.cells.getD r' []).length:Int) - 1))
 ·simp only [sw.down,rE,reduceIte,rL,rA,rM,rD,sv.down,o1,o2,o3,o4,sh1,nh1,i1,i2,i4,q2,Hp.up_up];refine hn _ _ ?_;clear hn hp K;refine seq_cond true (by simp only [sw.down,rE,reduceIte,rL,rA,rM,rD,sv.down,o1,o2,o3,o4,sh1,nh1,i1,i2,i4]) (fun _=> ?_) (fun hx=>by cases hx);refine seq_seq ?_;refine seq_reg fun K hn hp=> ?_;simp only [sw.down,rE,reduceIte,rL,rA,rM,rD,sv.down,o1,o2,o3,o4,sh1,nh1,i1,i2,i4];refine hn _ _ ?_;clear hn hp K;refine seq_ret (end_1 res87 ⟨?_,fh1.up (by omega)⟩);have:m.rc r' c=1:=by
   have q2:inB c 0 (((m.cells.getD r' []).length:Int) - 1)=false:=q2;simp only [Mp.rc,erow,q2,Bool.and_false];simp
  simp [T.get_put,this]
 ·have q2':inB c 0 (((m.cells.getD r' []).length:Int) - 1)=true:=q2;obtain ⟨c',rfl⟩: ∃c':Nat,c=c':=by
   obtain ⟨z1,z2⟩:=Bool.and_eq_true_iff.1 q2;have z1:=of_decide_eq_true z1;exact ⟨c.toNat,by omega⟩
  have hc':c'<(m.cells.getD r' []).length:=by
   obtain ⟨z1,z2⟩:=Bool.and_eq_true_iff.1 q2;have z2:=of_decide_eq_true z2;omega
  simp only [sw.down,rE,reduceIte,rL,rA,rM,rD,sv.down,o1,o2,o3,o4,sh1,nh1,i1,i2,i4,q2,Hp.up_up];refine hn _ _ ?_;clear hn hp K;refine seq_cond false (by simp only [sw.down,rE,reduceIte,rL,rA,rM,rD,sv.down,o1,o2,o3,o4,sh1,nh1,i1,i2,i4]) (fun hx=>by cases hx) (fun _=> ?_);refine seq_skip ?_;obtain ⟨x1,x2⟩:=(i3.fr fh1 (Nat.le_refl _)).m58 hc';refine seq_reg fun K hn hp=> ?_;simp only [sw.down,rE,reduceIte,rL,rA,rM,rD,sv.down,o1,o2,o3,o4,sh1,nh1,i1,i2,i4,x1,x2];refine hn _ _ ?_;clear hn hp K;refine wpc_ret (end_1 res87 ⟨?_,fh1.up (by omega)⟩);have:m.rc r' c'=(m.cells.getD r' []).getD c' 0:=by
   simp only [Mp.rc,erow,q1',q2',Bool.and_self,if_true,Int.toNat_natCast]
  rw [this];simp [T.get_put]
theorem there_c (xt:Addr→Option Value) (h:Hp) (m:Mp) (ha:m.At xt h) (r c:Int) {K:CR→Hp→Prop} (hk: ∀n,h.n<n→K (.ret (.val (.bool (m.inside r c)))) (h.up n)):FnA (SE xt) 89 [m.av,iv r,iv c] h K:=by
 refine FnA.calm ?_ hk;clear hk K;refine FnA.walk (sok xt) (ft89 xt) rfl 19 rfl ?_;obtain ⟨o1,o2,o3,o4,o5⟩:=ha.wk.ones;have hlc:=ha.lc;have hw:IntKind.i64.wrap ((m.cells.length:Int) - 1)=m.R - 1:=by rw [wrap_i64 _ (by omega) (by omega)];rfl
 have hWl:m.W≤9223372036854775807:=by
  show (m.cells.headD []).length≤_;cases q:m.cells with
  |nil=>simp
  |cons l ls=>exact ha.lr l (by rw [q];exact List.mem_cons_self)
 have hw2:IntKind.i64.wrap ((m.W:Int) - 1)=m.C - 1:=by rw [wrap_i64 _ (by omega) (by omega)];rfl
 refine seq_reg fun K hn hp=> ?_;simp only [sw.down,rE,reduceIte,rL,rA,rM,rD,sv.down,o1,o2,o3,o4];refine hn _ _ ?_;clear hn hp K;obtain ⟨h1,hh1⟩: ∃h1:Hp,h1=h.new (.cells m.cs 27):=⟨_,rfl⟩;rw [←hh1];have nh1:h1.n=h.n+1:=by rw [hh1];rfl
 have sh1:h1.t.get h.n=some (.cells m.cs 27):=by rw [hh1];exact new_at _ _
 have kh1: ∀k,k<h.n→h1.t.get k=h.t.get k:=fun k hk=>by rw [hh1];exact new_lt _ _ hk
 have fbh1:Fr h.n h h1:=by rw [hh1];exact (Fr.refl (Nat.le_refl _)).new _
 have fh1:=fbh1;have ha1:=ha.fr fh1 (Nat.le_refl _);refine seq_reg fun K hn hp=> ?_;simp only [sw.down,rE,reduceIte,rL,rA,rM,rD,sv.down,o1,o2,o3,o4,sh1,nh1];refine callA_func (sok xt) (rows_c xt h1 m ha1 fun n1 hn1=> ?_);have hn1:=Nat.le_of_lt hn1;simp only [sw.down,rE,reduceIte,rL,rA,rM,rD,sv.down,o1,o2,o3,o4,sh1,nh1,hw];refine callA_func (sok xt) (rin_c xt _ _ _ _ fun n2 hn2=> ?_);have hn2:=Nat.le_of_lt hn2;simp only [Hp.up_n] at hn2;cases q1:(decide (0≤r) && decide (r≤m.R - 1))
 ·simp only [sw.down,rE,reduceIte,rL,rA,rM,rD,sv.down,o1,o2,o3,o4,sh1,nh1,q1,Hp.up_up];refine hn _ _ (wpc_ret (end_1 res89 ⟨?_,fh1.up (by omega)⟩));simp [T.get_put,Mp.inside,inB,q1]
 ·simp only [sw.down,rE,reduceIte,rL,rA,rM,rD,sv.down,o1,o2,o3,o4,sh1,nh1,q1,Hp.up_up];refine callA_func (sok xt) (cols_c xt _ m (ha1.up (by omega)) fun n3 hn3=> ?_);have hn3:=Nat.le_of_lt hn3;simp only [Hp.up_n] at hn3;simp only [sw.down,rE,reduceIte,rL,rA,rM,rD,sv.down,o1,o2,o3,o4,sh1,nh1,hw2,Hp.up_up];refine callA_func (sok xt) (rin_c xt _ _ _ _ fun n4 hn4=> ?_);have hn4:=Nat.le_of_lt hn4;simp only [Hp.up_n] at hn4;simp only [sw.down,rE,reduceIte,rL,rA,rM,rD,sv.down,o1,o2,o3,o4,sh1,nh1,Hp.up_up];refine hn _ _ (wpc_ret (end_1 res89 ⟨?_,fh1.up (by omega)⟩));simp [T.get_put,Mp.inside,inB,q1]
end Go.Proofs.Kn
namespace Go.Proofs.Kn
open Go Go.Ev
set_option maxRecDepth 100000
theorem ft40 (xt:Addr→Option Value):(SE xt).ft.get 40=some Tryz.f40:=by kernel_rfl
theorem res40:Tryz.f40.results.toList=[.tmp 4]:=by kernel_rfl
def Gr.sz (g:Gr) (m:Mp):Bool:=(List.range g.ll.length).all (fun r=>decide (((g.ll.getD r []).length:Int)=m.W)) && decide ((g.ll.length:Int)=m.cells.length)
theorem range_no {p:Nat→Bool} {n k:Nat} (hk:k<n) (h:p k=false):(List.range n).all p=false:=by
 rw [List.all_eq_false];exact ⟨k,List.mem_range.2 hk,by rw [h];exact Bool.false_ne_true⟩
theorem range_yes {p:Nat→Bool} {n:Nat} (h: ∀k,k<n→p k=true):(List.range n).all p=true:=by
 rw [List.all_eq_true];exact fun c hc=>h c (List.mem_range.1 hc)
theorem sz_c (xt:Addr→Option Value) (h:Hp) (m:Mp) (ha:m.At xt h) (g:Gr) (hg:g.At xt h) {K:CR→Hp→Prop} (hk: ∀n,h.n<n→K (.ret (.val (.bool (g.sz m)))) (h.up n)):FnA (SE xt) 40 [m.av,g.v] h K:=by
 refine FnA.calm ?_ hk;clear hk K;refine FnA.walk (sok xt) (ft40 xt) rfl 25 rfl ?_;obtain ⟨o1,o2,o3,o4,o5⟩:=ha.wk.ones;have hlen:=hg.len;have hlc:=hg.lc;refine seq_reg fun K hn hp=> ?_;simp only [sw.down,rE,reduceIte,rL,rA,rM,rD,sv.down,o1,o2,o3,o4,hlen,lt_dec];refine hn _ _ ?_;clear hn hp K;obtain ⟨h1,hh1⟩: ∃h1:Hp,h1=h.new (.cells m.cs 27):=⟨_,rfl⟩;rw [←hh1];have nh1:h1.n=h.n+1:=by rw [hh1];rfl
 have sh1:h1.t.get h.n=some (.cells m.cs 27):=by rw [hh1];exact new_at _ _
 have kh1: ∀k,k<h.n→h1.t.get k=h.t.get k:=fun k hk=>by rw [hh1];exact new_lt _ _ hk
 have fbh1:Fr h.n h h1:=by rw [hh1];exact (Fr.refl (Nat.le_refl _)).new _
 have fh1:=fbh1;have ha1:=ha.fr fh1 (Nat.le_refl _);refine seq_seq ?_;refine seq_reg fun K hn hp=> ?_;simp only [sw.down,rE,reduceIte,rL,rA,rM,rD,sv.down,o1,o2,o3,o4,hlen,lt_dec,sh1,nh1];refine hn _ _ ?_;clear hn hp K;refine seq_block fun KA A1 A2 A3 A4 A5=> ?_;refine wpc_loop (sok xt) (fun st=> ∃(i:Nat) (n:Nat) (tm:T AV),st=⟨tm,25,h1.up n,[]⟩∧i≤g.ll.length∧tm.get 1=some (g.v)∧tm.get 2=some (.ptr h.n 0)∧tm.get 5=some (iv i)∧h1.n≤n∧ ∀j,j<i→decide (((g.ll.getD j []).length:Int)=m.W)=true) (fun st=>g.ll.length - (match st.tm.get 5 with|some (.val (.int _ n))=>n.toNat|_=>0)) ?_ ?_
 ·rintro st ⟨i,n,tm,rfl,hkA,g1,g2,g5,hn1,hall⟩;have muA:=g5;refine seq_seq ?_;refine seq_reg fun K hn hp=> ?_;simp only [sw.down,rE,reduceIte,rL,rA,rM,rD,sv.down,o1,o2,o3,o4,hlen,lt_dec,sh1,nh1,g1,g2,g5];refine hn _ _ ?_;clear hn hp K;by_cases hi:i<g.ll.length
  ·refine seq_cond true (by simp only [sw.down,rE,reduceIte,rL,rA,rM,rD,sv.down,o1,o2,o3,o4,hlen,lt_dec,sh1,nh1,g1,g2,g5,hi]) (fun _=> ?_) (fun hx=>by cases hx);obtain ⟨v,i1,i2,i3,i4⟩:=(hg.fr fh1 (Nat.le_refl _)).rowD hi;refine seq_skip ?_;refine seq_block fun KB B1 B2 B3 B4 B5=> ?_;refine seq_regW (sok xt) 0 0 8 [(3,1),(4,1)] (by kernel_rfl) fun K hn hp=> ?_;simp only [sw.down,rE,reduceIte,rL,rA,rM,rD,sv.down,o1,o2,o3,o4,hlen,lt_dec,sh1,nh1,g1,g2,g5,i1,i2,i4];refine callA_func (sok xt) (cols_c xt _ m (ha1.up hn1) fun n2 hn2=> ?_);simp only [Hp.up_n] at hn2;have hn2':=Nat.le_of_lt hn2;simp only [sw.down,rE,reduceIte,rL,rA,rM,rD,sv.down,o1,o2,o3,o4,hlen,lt_dec,sh1,nh1,g1,g2,g5,i1,i2,i4,hn2,Hp.up_up];refine hn _ _ ?_;clear hn hp K;cases q:decide (((g.ll.getD i []).length:Int)=m.W)
   ·refine wpc_cond true (by simp only [sw.down,rE,reduceIte,rL,rA,rM,rD,sv.down,o1,o2,o3,o4,hlen,lt_dec,sh1,nh1,g1,g2,g5,i1,i2,i4,q]) (fun _=> ?_) (fun hx=>by cases hx);refine seq_reg fun K hn hp=> ?_;simp only [sw.down,rE,reduceIte,rL,rA,rM,rD,sv.down,o1,o2,o3,o4,hlen,lt_dec,sh1,nh1,g1,g2,g5,i1,i2,i4];refine hn _ _ ?_;clear hn hp K;refine wpc_ret (B4 _ (A4 _ (end_1 res40 ⟨?_,fh1.up (by omega)⟩)));have:g.sz m=false:=by
     simp only [Gr.sz,range_no (p:=fun r=>decide (((g.ll.getD r []).length:Int)=m.W)) hi q,Bool.false_and]
    simp [T.get_put,this]
   ·refine wpc_cond false (by simp only [sw.down,rE,reduceIte,rL,rA,rM,rD,sv.down,o1,o2,o3,o4,hlen,lt_dec,sh1,nh1,g1,g2,g5,i1,i2,i4,q]) (fun hx=>by cases hx) (fun _=> ?_);refine wpc_skip (B1 _ ?_);refine reg fun K hn hp=> ?_;simp only [sw.down,rE,reduceIte,rL,rA,rM,rD,sv.down,o1,o2,o3,o4,hlen,lt_dec,sh1,nh1,g1,g2,g5,i1,i2,i4,wrap_succ hi hlc];refine hn _ _ ?_;clear hn hp K;refine ⟨⟨i+1,n2,_,rfl,by omega,(by simp [T.get_put,g1,g2,g5]),(by simp [T.get_put,g1,g2,g5]),(by simp [T.get_put,g1,g2,g5]),by omega,fun j hj=> ?_⟩,by simpa [T.get_put,muA] using (by omega:g.ll.length - (i+1)<g.ll.length - i)⟩;by_cases e:j=i
    ·rw [e];exact q
    ·exact hall j (by omega)
  ·refine seq_cond false (by simp only [sw.down,rE,reduceIte,rL,rA,rM,rD,sv.down,o1,o2,o3,o4,hlen,lt_dec,sh1,nh1,g1,g2,g5,hi]) (fun hx=>by cases hx) (fun _=> ?_);refine seq_exit (A2 _ ?_);have hall':(List.range g.ll.length).all (fun r=>decide (((g.ll.getD r []).length:Int)=m.W))=true:=range_yes fun k hk=>hall k (by omega);refine seq_reg fun K hn hp=> ?_;simp only [sw.down,rE,reduceIte,rL,rA,rM,rD,sv.down,o1,o2,o3,o4,hlen,lt_dec,sh1,nh1,g1,g2,g5];refine callA_func (sok xt) (rows_c xt _ m (ha1.up hn1) fun n2 hn2=> ?_);simp only [Hp.up_n] at hn2;simp only [sw.down,rE,reduceIte,rL,rA,rM,rD,sv.down,o1,o2,o3,o4,hlen,lt_dec,sh1,nh1,g1,g2,g5,Hp.up_up];refine hn _ _ (wpc_ret (end_1 res40 ⟨?_,fh1.up (by omega)⟩));simp only [Gr.sz,hall',Bool.true_and];simp [T.get_put]
 ·exact ⟨0,h1.n,_,rfl,(by omega),(by simp [T.get_put]),(by simp [T.get_put]),(by simp [T.get_put]),Nat.le_refl _,fun j hj=>absurd hj (Nat.not_lt_zero _)⟩
end Go.Proofs.Kn
