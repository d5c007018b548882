/- MvH1, MvH2, MvH3, MvH4, MvH5: texts in a row, joined by a program. -/
import Derived.Test.YtnmfblokfponlaaGreatDoorQM
set_option linter.all false
open Nat renaming reduceEqDiff → rE, reduceLeDiff → rD, reduceAdd → rA, reduceMul → rM, reduceLT → rL
open Nat renaming le_refl → xZZ, le_of_lt → xZY
open Bool renaming and_eq_true_iff → xZX
open Go.Ev.T renaming get_put → xZW
open Go.Ev.Hp renaming up_up → xZV, up_n → xZU
open Go.Ev.FnA renaming walk → xZT, calm → xZS
open Int renaming toNat_natCast → xZR
namespace Go.Proofs.Kn
open Go Go.Ev
set_option maxRecDepth 100000
abbrev Mp.wk (m:Mp):Wk:=⟨m,.val (.slice none 0 0),[],0⟩
theorem Mp.At.wk {m:Mp} {xt:Addr->Option Value} {h:Hp} (a:m.At xt h):m.wk.At xt h:=⟨a,⟨by simp,by omega,.inl ⟨rfl,rfl⟩⟩,by simp⟩
def Mp.bnd (m:Mp):Option Th.Grid:=Th.boundP m.T m.J (m.W - 1) m.F0 (m.gs.map gg) m.cells.length
abbrev qAP:AV:= .val (.slice none 0 0)
end Go.Proofs.Kn
namespace Go.Proofs.Kn
open Go Go.Ev
set_option maxRecDepth 100000
theorem ft27 (xt:Addr->Option Value):(SE xt).ft.get 27=some Tryz.f27:=by kernel_rfl
theorem res27:Tryz.f27.results.toList=[.tmp 2]:=by kernel_rfl
theorem ft84 (xt:Addr->Option Value):(SE xt).ft.get 84=some Tryz.f84:=by kernel_rfl
theorem res84:Tryz.f84.results.toList=[.tmp 2]:=by kernel_rfl
theorem qBh (xt:Addr->Option Value) (h:Hp) (m:Mp) (ha:m.At xt h) {K:CR->Hp->Prop} (hk: ∀n,h.n<n->K (.ret (iv m.cells.length)) (h.up n)):FnA (SE xt) 27 [m.av] h K:=by
 refine xZS ?_ hk;clear hk K;refine xZT (sok xt) (ft27 xt) rfl 6 rfl ?_;obtain ⟨o1,o2,o3,o4,o5⟩:=ha.wk.ones;have hlen:=ha.len;refine qA fun K hn hp=> ?_;simp only [sw.1,reduceIte,rL];apply hn;obtain ⟨h1,hh1⟩: ∃h1:Hp,h1=h.new (.cells m.cs 27):=⟨_,rfl⟩;rw [<-hh1];have nh1:h1.n=h.n+1:=by rw [hh1];rfl
 have sh1:h1.t.get h.n=some (.cells m.cs 27):=by rw [hh1];exact qX _ _
 have kh1: ∀k,k<h.n->h1.t.get k=h.t.get k:=fun k hk=>by rw [hh1];exact qW _ _ hk
 have fbh1:Fr h.n h h1:=by rw [hh1];exact (Fr.refl (xZZ _)).new _
 have fh1:=fbh1;refine qA fun K hn hp=> ?_;simp only [sy.1,rE,reduceIte,rL,syw.1,hlen,sh1];apply hn;refine qD (qK res27 ⟨?_,fh1⟩);simp [xZW]
theorem qBJ (xt:Addr->Option Value) (h:Hp) (m:Mp) (ha:m.At xt h) {K:CR->Hp->Prop} (hk: ∀n,h.n<n->K (.ret (iv m.W)) (h.up n)):FnA (SE xt) 84 [m.av] h K:=by
 refine xZS ?_ hk;clear hk K;refine xZT (sok xt) (ft84 xt) rfl 12 rfl ?_;obtain ⟨o1,o2,o3,o4,o5⟩:=ha.wk.ones;have hlen:=ha.len;refine qA fun K hn hp=> ?_;simp only [sw.1,reduceIte,rL];apply hn;obtain ⟨h1,hh1⟩: ∃h1:Hp,h1=h.new (.cells m.cs 27):=⟨_,rfl⟩;rw [<-hh1];have nh1:h1.n=h.n+1:=by rw [hh1];rfl
 have sh1:h1.t.get h.n=some (.cells m.cs 27):=by rw [hh1];exact qX _ _
 have kh1: ∀k,k<h.n->h1.t.get k=h.t.get k:=fun k hk=>by rw [hh1];exact qW _ _ hk
 have fbh1:Fr h.n h h1:=by rw [hh1];exact (Fr.refl (xZZ _)).new _
 have fh1:=fbh1;refine qE ?_;cases q:m.cells with
 |nil=>
  have ql:m.cells.length=0:=by rw [q];rfl
  rw [ql] at hlen;refine qA fun K hn hp=> ?_;simp only [sy.1,rE,reduceIte,rL,syw.1,hlen,sh1];apply hn;refine qC true (by simp only [sy.1,rE,reduceIte,Int.natCast_zero]) (fun _=> ?_) (fun hx=>by cases hx);refine qE ?_;refine qA fun K hn hp=> ?_;simp only [sy.1,rL];apply hn;refine qU (qK res84 ⟨?_,fh1⟩);simp [xZW,Mp.W,q]
 |cons l ls=>
  have hl0:0<m.cells.length:=by rw [q];simp
  have hd:decide ((m.cells.length:Int)=0)=false:=decide_eq_false (by omega);have hW:m.W=(m.cells.getD 0 []).length:=by simp [Mp.W,q]
  obtain ⟨v,i1,i2,i3,i4⟩:=(ha.fr fh1 (xZZ _)).rowD hl0;refine qA fun K hn hp=> ?_;simp only [sy.1,rE,reduceIte,rL,syw.1,hlen,sh1,hd];apply hn;refine qC false (by simp only [sy.1,rE,reduceIte]) (fun hx=>by cases hx) (fun _=> ?_);refine qI ?_;have i1:qN tb 22 m.vc (iv 0)=some (elp m.vc 0):=i1;refine qA fun K hn hp=> ?_;simp only [sy.1,rE,reduceIte,rL,syw.1,sh1,i1,i2,i4];apply hn;refine qD (qK res84 ⟨?_,fh1⟩);rw [hW];simp [xZW]
end Go.Proofs.Kn
namespace Go.Proofs.Kn
open Go Go.Ev
set_option maxRecDepth 100000
theorem ft87 (xt:Addr->Option Value):(SE xt).ft.get 87=some Tryz.f87:=by kernel_rfl
theorem res87:Tryz.f87.results.toList=[.tmp 6]:=by kernel_rfl
theorem ft89 (xt:Addr->Option Value):(SE xt).ft.get 89=some Tryz.f89:=by kernel_rfl
theorem res89:Tryz.f89.results.toList=[.tmp 6]:=by kernel_rfl
def Mp.rc (m:Mp) (r c:Int):Int:=if inB r 0 (m.R - 1) && inB c 0 ((m.cells.getD r.toNat []).length - 1) then (m.cells.getD r.toNat []).getD c.toNat 0 else 1
theorem rc_c (xt:Addr->Option Value) (h:Hp) (m:Mp) (ha:m.At xt h) (r c:Int) {K:CR->Hp->Prop} (hk: ∀n,h.n<n->K (.ret (iv (m.rc r c))) (h.up n)):FnA (SE xt) 87 [m.av,iv r,iv c] h K:=by
 refine xZS ?_ hk;clear hk K;refine xZT (sok xt) (ft87 xt) rfl 33 rfl ?_;obtain ⟨o1,o2,o3,o4,o5⟩:=ha.wk.ones;have hlc:=ha.lc;have hw:IntKind.i64.wrap ((m.cells.length:Int) - 1)=m.R - 1:=by rw [wrap_i64 _ (by omega) (by omega)];rfl
 refine qA fun K hn hp=> ?_;simp only [sw.1,rE,reduceIte,rL,rA];apply hn;obtain ⟨h1,hh1⟩: ∃h1:Hp,h1=h.new (.cells m.cs 27):=⟨_,rfl⟩;rw [<-hh1];have nh1:h1.n=h.n+1:=by rw [hh1];rfl
 have sh1:h1.t.get h.n=some (.cells m.cs 27):=by rw [hh1];exact qX _ _
 have kh1: ∀k,k<h.n->h1.t.get k=h.t.get k:=fun k hk=>by rw [hh1];exact qW _ _ hk
 have fbh1:Fr h.n h h1:=by rw [hh1];exact (Fr.refl (xZZ _)).new _
 have fh1:=fbh1;have ha1:=ha.fr fh1 (xZZ _);refine qE ?_;refine qA fun K hn hp=> ?_;simp only [sy.1,rE,reduceIte,rL,rA,sh1];refine qB (sok xt) (qBh xt h1 m ha1 fun n1 hn1=> ?_);have hn1:=xZY hn1;simp only [sy.1,rE,reduceIte,rL,hw];refine qB (sok xt) (kH xt _ _ _ _ fun n2 hn2=> ?_);have hn2:=xZY hn2;simp only [xZU] at hn2;cases q1:(decide (0<=r) && decide (r<=m.R - 1))
 ·simp only [sy.1,rE,reduceIte,rL,xZV];apply hn;refine qC true (by simp only [sy.1,rE,reduceIte]) (fun _=> ?_) (fun hx=>by cases hx);refine qE ?_;refine qA fun K hn hp=> ?_;simp only [sy.1,rL];apply hn;refine qU (qK res87 ⟨?_,fh1.up (by omega)⟩);have:m.rc r c=1:=by
   have q1:inB r 0 (m.R - 1)=false:=q1;simp [Mp.rc,q1]
  simp [xZW,this]
 have q1':inB r 0 (m.R - 1)=true:=q1;obtain ⟨r',rfl⟩: ∃r':Nat,r=r':=by
  obtain ⟨z1,z2⟩:=xZX.1 q1;have z1:=of_decide_eq_true z1;exact ⟨r.toNat,by omega⟩
 have hr':r'<m.cells.length:=by
  obtain ⟨z1,z2⟩:=xZX.1 q1;have z2:=of_decide_eq_true z2;simp only [Mp.R] at z2;omega
 obtain ⟨v,i1,i2,i3,i4⟩:=ha.rowF hr';have i2:=i2 h1 fh1;have hll:=ha.lr _ (List.mem_of_getElem? (getD_some [] hr'));have hw2:IntKind.i64.wrap (((m.cells.getD r' []).length:Int) - 1)=((m.cells.getD r' []).length:Int) - 1:=wrap_i64 _ (by omega) (by omega);simp only [sy.1,rE,reduceIte,rL,syw.1,sh1,i1,i2,i4,xZV,hw2];refine qB (sok xt) (kH xt _ _ _ _ fun n3 hn3=> ?_);have hn3:=xZY hn3;simp only [xZU] at hn3;have erow:m.cells.getD ((r':Int)).toNat []=m.cells.getD r' []:=by rw [xZR]
 cases q2:(decide (0<=c) && decide (c<=((m.cells.getD r' []).length:Int) - 1))
 ·simp only [sy.1,rE,reduceIte,rL,xZV];apply hn;refine qC true (by simp only [sy.1,rE,reduceIte]) (fun _=> ?_) (fun hx=>by cases hx);refine qE ?_;refine qA fun K hn hp=> ?_;simp only [sy.1,rL];apply hn;refine qU (qK res87 ⟨?_,fh1.up (by omega)⟩);have:m.rc r' c=1:=by
   have q2:inB c 0 (((m.cells.getD r' []).length:Int) - 1)=false:=q2;simp only [Mp.rc,erow,q2,Bool.and_false];simp
  simp [xZW,this]
 ·have q2':inB c 0 (((m.cells.getD r' []).length:Int) - 1)=true:=q2;obtain ⟨c',rfl⟩: ∃c':Nat,c=c':=by
   obtain ⟨z1,z2⟩:=xZX.1 q2;have z1:=of_decide_eq_true z1;exact ⟨c.toNat,by omega⟩
  have hc':c'<(m.cells.getD r' []).length:=by
   obtain ⟨z1,z2⟩:=xZX.1 q2;have z2:=of_decide_eq_true z2;omega
  simp only [sy.1,rE,reduceIte,rL,xZV];apply hn;refine qC false (by simp only [sy.1,rE,reduceIte]) (fun hx=>by cases hx) (fun _=> ?_);refine qI ?_;obtain ⟨x1,x2⟩:=(i3.fr fh1 (xZZ _)).m58 hc';refine qA fun K hn hp=> ?_;simp only [sy.1,rE,reduceIte,rL,syw.1,sh1,i1,i2,x1,x2];apply hn;refine qD (qK res87 ⟨?_,fh1.up (by omega)⟩);have:m.rc r' c'=(m.cells.getD r' []).getD c' 0:=by
   simp only [Mp.rc,q1',q2',Bool.and_self,if_true,xZR]
  rw [this];simp [xZW]
theorem qCD (xt:Addr->Option Value) (h:Hp) (m:Mp) (ha:m.At xt h) (r c:Int) {K:CR->Hp->Prop} (hk: ∀n,h.n<n->K (.ret (.val (.bool (m.inside r c)))) (h.up n)):FnA (SE xt) 89 [m.av,iv r,iv c] h K:=by
 refine xZS ?_ hk;clear hk K;refine xZT (sok xt) (ft89 xt) rfl 19 rfl ?_;obtain ⟨o1,o2,o3,o4,o5⟩:=ha.wk.ones;have hlc:=ha.lc;have hw:IntKind.i64.wrap ((m.cells.length:Int) - 1)=m.R - 1:=by rw [wrap_i64 _ (by omega) (by omega)];rfl
 have hWl:m.W<=9223372036854775807:=by
  show (m.cells.headD []).length<=_;cases q:m.cells with
  |nil=>simp
  |cons l ls=>exact ha.lr l (by rw [q];exact List.mem_cons_self)
 have hw2:IntKind.i64.wrap ((m.W:Int) - 1)=m.C - 1:=by rw [wrap_i64 _ (by omega) (by omega)];rfl
 refine qA fun K hn hp=> ?_;simp only [sw.1,rE,reduceIte,rL,rA];apply hn;obtain ⟨h1,hh1⟩: ∃h1:Hp,h1=h.new (.cells m.cs 27):=⟨_,rfl⟩;rw [<-hh1];have nh1:h1.n=h.n+1:=by rw [hh1];rfl
 have sh1:h1.t.get h.n=some (.cells m.cs 27):=by rw [hh1];exact qX _ _
 have kh1: ∀k,k<h.n->h1.t.get k=h.t.get k:=fun k hk=>by rw [hh1];exact qW _ _ hk
 have fbh1:Fr h.n h h1:=by rw [hh1];exact (Fr.refl (xZZ _)).new _
 have fh1:=fbh1;have ha1:=ha.fr fh1 (xZZ _);refine qA fun K hn hp=> ?_;simp only [sy.1,rE,reduceIte,rL,rA,sh1];refine qB (sok xt) (qBh xt h1 m ha1 fun n1 hn1=> ?_);have hn1:=xZY hn1;simp only [sy.1,rE,reduceIte,rL,hw];refine qB (sok xt) (kH xt _ _ _ _ fun n2 hn2=> ?_);have hn2:=xZY hn2;simp only [xZU] at hn2;cases q1:(decide (0<=r) && decide (r<=m.R - 1))
 ·simp only [sy.1,rE,reduceIte,rL,xZV];refine hn _ _ (qD (qK res89 ⟨?_,fh1.up (by omega)⟩));simp [xZW,Mp.inside,inB,q1]
 ·simp only [sy.1,rE,reduceIte,rL,rA,sh1,xZV];refine qB (sok xt) (qBJ xt _ m (ha1.up (by omega)) fun n3 hn3=> ?_);have hn3:=xZY hn3;simp only [xZU] at hn3;simp only [sy.1,rE,reduceIte,rL,hw2,xZV];refine qB (sok xt) (kH xt _ _ _ _ fun n4 hn4=> ?_);have hn4:=xZY hn4;simp only [xZU] at hn4;simp only [sy.1,rE,reduceIte,rL,xZV];refine hn _ _ (qD (qK res89 ⟨?_,fh1.up (by omega)⟩));simp [xZW,Mp.inside,inB,q1]
end Go.Proofs.Kn
namespace Go.Proofs.Kn
open Go Go.Ev
set_option maxRecDepth 100000
def Gr.sz (g:Gr) (m:Mp):Bool:=(List.range g.ll.length).all (fun r=>decide (((g.ll.getD r []).length:Int)=m.W)) && decide ((g.ll.length:Int)=m.cells.length)
theorem xS {p:Nat->Bool} {n k:Nat} (hk:k<n) (h:p k=false):(List.range n).all p=false:=by
 rw [List.all_eq_false];exact ⟨k,List.mem_range.2 hk,by rw [h];exact Bool.false_ne_true⟩
theorem wJ {p:Nat->Bool} {n:Nat} (h: ∀k,k<n->p k=true):(List.range n).all p=true:=by
 rw [List.all_eq_true];exact fun c hc=>h c (List.mem_range.1 hc)
end Go.Proofs.Kn
namespace Go.Proofs.Kn
open Go Go.Ev
set_option maxRecDepth 100000
end Go.Proofs.Kn
