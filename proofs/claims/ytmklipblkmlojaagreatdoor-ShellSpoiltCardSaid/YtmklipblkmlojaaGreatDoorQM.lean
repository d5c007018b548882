/- Parts of the proof, joined by a program. -/
import Derived.Test.YtmklipblkmlojaaGreatDoorQC
import Derived.Test.YtmklipblkmlojaaGreatDoorQB
import Derived.Test.YtmklipblkmlojaaGreatDoorQE1
set_option linter.all false
open Nat renaming reduceEqDiff → rE, reduceLeDiff → rD, reduceAdd → rA, reduceMul → rM, reduceLT → rL
open Go.Ev.T renaming get_put → xZZ
open Nat renaming le_refl → xZY, le_of_lt → xZR
open Go.Ev.Hp renaming up_up → xZX, up_n → xZS
open Bool renaming and_false → xZW, false_and → xZV, and_eq_true_iff → xZQ, false_ne_true → xZO, eq_false_iff → xZL, not_true → xZG, false_eq_true → xYZ
open List renaming mem_of_getElem? → xZU, getElem?_eq_getElem → xZT, getD_eq_getElem?_getD → xZP, getElem?_map → xZN, any_eq_false → xZM, take_of_length_le → xZJ, mem_singleton → xZH, mem_append → xZF, take_succ → xZE, getElem_of_mem → xZA, all_eq_true → xYY
open Int renaming toNat_natCast → xZK
open Option renaming toList_some → xZI
open Go.Ev.FnA renaming walk → xZD, calm → xZC
open Go.Ev.Fr renaming refl → xZB
noncomputable section
namespace Go.Ev
open Classical in
def pV (r:Option Nat) (c:Code) (st:St) (p:Ex×St):j6:=fun r' c' st'=>if r'=r/\c'=c/\st'=st then some p else none
def orC (f g:j6):j6:=fun r c st=>match f r c st with
 |some p=>some p
 |none=>g r c st
def rcv:Ex->Option AV
 | .normal=>some (.val .nilIface)
 | .ret=>some (.val .nilIface)
 | .panic v=>some v
 |_=>none
section
variable {E:Env}
theorem qBO {r:Option Nat} {c:Code} {st:St} {x:Ex} {st':St} (h:SemC E r c st x st'):zC E (pV r c st (x,st')):=by
 intro r1 c1 s1 x1 s1' he;unfold pV at he;split at he
 ·rename_i hq;obtain ⟨rfl,rfl,rfl⟩:=hq;cases he;exact h
 ·cases he
theorem orC_ok {f g:j6} (hf:zC E f) (hg:zC E g):zC E (orC f g):=by
 intro r c st x st' he;unfold orC at he;split at he
 ·rename_i p hp;cases he;exact hf _ _ _ _ _ hp
 ·exact hg _ _ _ _ _ he
theorem gU {r:Option Nat} {c:Code} {st:St} {p:Ex×St}:pV r c st p r c st=some p:=by simp [pV]
theorem oneC_ne {r r':Option Nat} {c c':Code} {st st':St} {p:Ex×St} (h:c'≠c):pV r c st p r' c' st'=none:=by simp [pV,h]
theorem FnA.dfr (ok:SyOk E) {f:FuncId} {D:Dfr} (hD:IsDfr E.P f D) (hft:E.ft.get f=some D.fn) (hne:D.c≠D.a) {args:List AV} (nt ng:Nat) (hnt:args.length+(D.fn.ntmps - args.length)=nt) (hng:D.caps.toList.length+(D.fng.ntmps - D.caps.toList.length)=ng) (hd:D.d<nt) (hrd:D.rd<ng) {h:Hp} {K:CR->Hp->Prop}
  (hw:wpc E none D.a ⟨argsTo args 0 .e,nt,h,[]⟩ (fun x sA=>x= .normal/\sA.mks=[]/\sA.nt=nt/\wpc E none D.c ⟨sA.tm.put (some (.fn (.func D.g) [] (D.caps.toList.map (qH sA.tm)))) D.d,nt,sA.h,[]⟩ (fun x sC=>sC.mks=[]/\ ∃v,rcv x=some v/\
   wpc E none D.rest ⟨(argsTo (D.caps.toList.map (qH sA.tm)) 0 .e).put (some v) D.rd,ng,sC.h,[]⟩ (fun y sE=>(y= .normal\/y= .ret)/\sE.mks=[]/\ ∃vs,vE E sC.tm sE.h D.fn.results.toList=some vs/\K (.ret (zB vs)) sE.h)))):FnA E f args h K:=by
 obtain ⟨x,sA,hA,rfl,mA,nA,hw⟩:=wpc.ok ok.tb _ _ _ hw;obtain ⟨x,sC,hC,mC,v,hv,hw⟩:=wpc.ok ok.tb _ _ _ hw;obtain ⟨y,sE,hE,hy,mE,vs,hr,hK⟩:=wpc.ok ok.tb _ _ _ hw;refine ⟨.ret (zB vs),sE.h,?_,hK⟩;obtain ⟨tmA,ntA,hpA,mkA⟩:=sA;simp only at mA nA hC;subst mA nA;have he:evDfr E (orC (pV none D.a ⟨argsTo args 0 .e,ntA,h,[]⟩ (.normal,⟨tmA,ntA,hpA,[]⟩)) (pV none D.c ⟨tmA.put (some (.fn (.func D.g) [] (D.caps.toList.map (qH tmA)))) D.d,ntA,hpA,[]⟩ (x,sC))) (pV none D.rest ⟨(argsTo (D.caps.toList.map (qH tmA)) 0 .e).put (some v) D.rd,ng,sC.h,[]⟩ (y,sE)) D args h=some (.ret (zB vs),sE.h):=by
  unfold evDfr;rw [hnt];have e1:orC (pV none D.a ⟨argsTo args 0 .e,ntA,h,[]⟩ (.normal,⟨tmA,ntA,hpA,[]⟩)) (pV none D.c ⟨tmA.put (some (.fn (.func D.g) [] (D.caps.toList.map (qH tmA)))) D.d,ntA,hpA,[]⟩ (x,sC)) none D.a ⟨argsTo args 0 .e,ntA,h,[]⟩=some (.normal,⟨tmA,ntA,hpA,[]⟩):=by
   unfold orC;rw [gU]
  have e2:orC (pV none D.a ⟨argsTo args 0 .e,ntA,h,[]⟩ (.normal,⟨tmA,ntA,hpA,[]⟩)) (pV none D.c ⟨tmA.put (some (.fn (.func D.g) [] (D.caps.toList.map (qH tmA)))) D.d,ntA,hpA,[]⟩ (x,sC)) none D.c ⟨tmA.put (some (.fn (.func D.g) [] (D.caps.toList.map (qH tmA)))) D.d,ntA,hpA,[]⟩=some (x,sC):=by
   unfold orC;rw [oneC_ne hne,gU]
  rw [e1];simp only;have e3:Nat.blt D.d ntA=true:=by rw [Nat.blt_eq];exact hd
  rw [e3];simp only [cond_true];rw [e2];have hlen:(D.caps.toList.map (qH tmA)).length+(D.fng.ntmps - (D.caps.toList.map (qH tmA)).length)=ng:=by rw [List.length_map];exact hng
  have e4:Nat.blt D.rd ng=true:=by rw [Nat.blt_eq];exact hrd
  have hend:uX E (pV none D.rest ⟨(argsTo (D.caps.toList.map (qH tmA)) 0 .e).put (some v) D.rd,ng,sC.h,[]⟩ (y,sE)) D sC v (D.caps.toList.map (qH tmA))=some (.ret (zB vs),sE.h):=by
   unfold uX;rw [hlen,e4];simp only [cond_true];rw [gU];simp only [mE];rcases hy with rfl|rfl<;>simp only [hr]
  unfold dfrMid;simp only [mC];cases x<;>simp only [rcv,Option.some.injEq,reduceCtorEq] at hv<;>subst hv<;>exact hend
 obtain ⟨n1,s1⟩:=dfr_ok ok.tb (orC_ok (qBO hA) (qBO hC)) (qBO hE) hD he;exact ⟨n1,⟨D.fn,hft,by rw [hD.fb];rfl⟩,s1⟩
end
end Go.Ev
end
namespace Go.Proofs.Kn
open Go Go.Ev
set_option maxRecDepth 100000
theorem ft27 (xt:Addr->Option Value):(SE xt).ft.get 33=some Tryz.f33:=by kernel_rfl
theorem res27:Tryz.f33.results.toList=[.tmp 2]:=by kernel_rfl
theorem ft84 (xt:Addr->Option Value):(SE xt).ft.get 34=some Tryz.f34:=by kernel_rfl
theorem res84:Tryz.f34.results.toList=[.tmp 2]:=by kernel_rfl
theorem qBK (xt:Addr->Option Value) (h:Hp) (m:Mp) (ha:m.At xt h) {K:CR->Hp->Prop} (hk: ∀n,h.n<n->K (.ret (iv m.cells.length)) (h.up n)):FnA (SE xt) 33 [m.av] h K:=by
 refine xZC ?_ hk;clear hk K;refine xZD (sok xt) (ft27 xt) rfl 6 rfl ?_;obtain ⟨o1,o2,o3,o4⟩:=ha.ones;have hlen:=ha.len;refine qA fun K hn hp=> ?_;simp only [sw.1,rE,reduceIte,rL,rA,rM,rD,syw.1,qE,qP,qI,qD,qC,o1,o2,o3,o4,hlen];apply hn;obtain ⟨h1,hh1⟩: ∃h1:Hp,h1=h.new (.cells m.cs 27):=⟨_,rfl⟩;rw [<-hh1];have nh1:h1.n=h.n+1:=by rw [hh1];rfl
 have sh1:h1.t.get h.n=some (.cells m.cs 27):=by rw [hh1];exact jO _ _
 have kh1: ∀k,k<h.n->h1.t.get k=h.t.get k:=fun k hk=>by rw [hh1];exact zW _ _ hk
 have fbh1:Fr h.n h h1:=by rw [hh1];exact (xZB (xZY _)).new _
 have fh1:=fbh1;refine qA fun K hn hp=> ?_;simp only [sw.1,rE,reduceIte,rL,rA,rM,rD,syw.1,qE,qP,qI,qD,qC,o1,o2,o3,o4,hlen,sh1,nh1];apply hn;refine qJ (jB res27 ⟨?_,fh1⟩);simp [xZZ]
theorem qB9 (xt:Addr->Option Value) (h:Hp) (m:Mp) (ha:m.At xt h) {K:CR->Hp->Prop} (hk: ∀n,h.n<n->K (.ret (iv m.W)) (h.up n)):FnA (SE xt) 34 [m.av] h K:=by
 refine xZC ?_ hk;clear hk K;refine xZD (sok xt) (ft84 xt) rfl 12 rfl ?_;obtain ⟨o1,o2,o3,o4⟩:=ha.ones;have hlen:=ha.len;refine qA fun K hn hp=> ?_;simp only [sw.1,rE,reduceIte,rL,rA,rM,rD,syw.1,qE,qP,qI,qD,qC,o1,o2,o3,o4,hlen];apply hn;obtain ⟨h1,hh1⟩: ∃h1:Hp,h1=h.new (.cells m.cs 27):=⟨_,rfl⟩;rw [<-hh1];have nh1:h1.n=h.n+1:=by rw [hh1];rfl
 have sh1:h1.t.get h.n=some (.cells m.cs 27):=by rw [hh1];exact jO _ _
 have kh1: ∀k,k<h.n->h1.t.get k=h.t.get k:=fun k hk=>by rw [hh1];exact zW _ _ hk
 have fbh1:Fr h.n h h1:=by rw [hh1];exact (xZB (xZY _)).new _
 have fh1:=fbh1;refine qL ?_;cases q:m.cells with
 |nil=>
  have ql:m.cells.length=0:=by rw [q];rfl
  rw [ql] at hlen;refine qA fun K hn hp=> ?_;simp only [sw.1,rE,reduceIte,rL,rA,rM,rD,syw.1,qE,qP,qI,qD,qC,o1,o2,o3,o4,hlen,sh1,nh1];apply hn;refine qF true (by simp only [sw.1,rE,reduceIte,rL,rA,rM,rD,syw.1,qE,qP,qI,qD,qC,o1,o2,o3,o4,hlen,sh1,nh1,Int.natCast_zero,decide_true]) (fun _=> ?_) (fun hx=>by cases hx);refine qL ?_;refine qA fun K hn hp=> ?_;simp only [sw.1,rE,reduceIte,rL,rA,rM,rD,syw.1,qE,qP,qI,qD,qC,o1,o2,o3,o4,hlen,sh1,nh1];apply hn;refine zF (jB res84 ⟨?_,fh1⟩);simp [xZZ,Mp.W,q]
 |cons l ls=>
  have hl0:0<m.cells.length:=by rw [q];simp
  have hd:decide ((m.cells.length:Int)=0)=false:=decide_eq_false (by omega);have hW:m.W=(m.cells.getD 0 []).length:=by simp [Mp.W,q]
  obtain ⟨v,i1,i2,i3,i4⟩:=(ha.fr fh1 (xZY _)).rowD hl0;refine qA fun K hn hp=> ?_;simp only [sw.1,rE,reduceIte,rL,rA,rM,rD,syw.1,qE,qP,qI,qD,qC,o1,o2,o3,o4,hlen,sh1,nh1,hd];apply hn;refine qF false (by simp only [sw.1,rE,reduceIte,rL,rA,rM,rD,syw.1,qE,qP,qI,qD,qC,o1,o2,o3,o4,hlen,sh1,nh1]) (fun hx=>by cases hx) (fun _=> ?_);refine qV ?_;have i1:qK tb 22 m.vc (iv 0)=some (elp m.vc 0):=i1;refine qA fun K hn hp=> ?_;simp only [sw.1,rE,reduceIte,rL,rA,rM,rD,syw.1,qE,qP,qI,qD,qC,o1,o2,o3,o4,hlen,sh1,nh1,i1,i2,i4];apply hn;refine qJ (jB res84 ⟨?_,fh1⟩);rw [hW];simp [xZZ]
end Go.Proofs.Kn
namespace Go.Proofs.Kn
open Go Go.Ev
set_option maxRecDepth 100000
theorem ft87 (xt:Addr->Option Value):(SE xt).ft.get 35=some Tryz.f35:=by kernel_rfl
theorem res87:Tryz.f35.results.toList=[.tmp 6]:=by kernel_rfl
theorem ft89 (xt:Addr->Option Value):(SE xt).ft.get 36=some Tryz.f36:=by kernel_rfl
theorem res89:Tryz.f36.results.toList=[.tmp 6]:=by kernel_rfl
def Mp.rc (m:Mp) (r c:Int):Int:=if inB r 0 (m.R - 1) && inB c 0 ((m.cells.getD r.toNat []).length - 1) then (m.cells.getD r.toNat []).getD c.toNat 0 else 1
theorem rc_c (xt:Addr->Option Value) (h:Hp) (m:Mp) (ha:m.At xt h) (r c:Int) {K:CR->Hp->Prop} (hk: ∀n,h.n<n->K (.ret (iv (m.rc r c))) (h.up n)):FnA (SE xt) 35 [m.av,iv r,iv c] h K:=by
 refine xZC ?_ hk;clear hk K;refine xZD (sok xt) (ft87 xt) rfl 33 rfl ?_;obtain ⟨o1,o2,o3,o4⟩:=ha.ones;have hlc:=ha.lc;have hw:IntKind.i64.wrap ((m.cells.length:Int) - 1)=m.R - 1:=by rw [jF _ (by omega) (by omega)];rfl
 refine qA fun K hn hp=> ?_;simp only [sw.1,rE,reduceIte,rL,rA,rM,rD,syw.1,qE,qP,qI,qD,qC,o1,o2,o3,o4];apply hn;obtain ⟨h1,hh1⟩: ∃h1:Hp,h1=h.new (.cells m.cs 27):=⟨_,rfl⟩;rw [<-hh1];have nh1:h1.n=h.n+1:=by rw [hh1];rfl
 have sh1:h1.t.get h.n=some (.cells m.cs 27):=by rw [hh1];exact jO _ _
 have kh1: ∀k,k<h.n->h1.t.get k=h.t.get k:=fun k hk=>by rw [hh1];exact zW _ _ hk
 have fbh1:Fr h.n h h1:=by rw [hh1];exact (xZB (xZY _)).new _
 have fh1:=fbh1;have ha1:=ha.fr fh1 (xZY _);refine qL ?_;refine qA fun K hn hp=> ?_;simp only [sw.1,rE,reduceIte,rL,rA,rM,rD,syw.1,qE,qP,qI,qD,qC,o1,o2,o3,o4,sh1,nh1];refine qB (sok xt) (qBK xt h1 m ha1 fun n1 hn1=> ?_);have hn1:=xZR hn1;simp only [sw.1,rE,reduceIte,rL,rA,rM,rD,syw.1,qE,qP,qI,qD,qC,o1,o2,o3,o4,sh1,nh1,hw];refine qB (sok xt) (wQ xt _ _ _ _ fun n2 hn2=> ?_);have hn2:=xZR hn2;simp only [xZS] at hn2;cases q1:(decide (0<=r) && decide (r<=m.R - 1))
 ·simp only [sw.1,rE,reduceIte,rL,rA,rM,rD,syw.1,qE,qP,qI,qD,qC,o1,o2,o3,o4,sh1,nh1,q1,xZX];apply hn;refine qF true (by simp only [sw.1,rE,reduceIte,rL,rA,rM,rD,syw.1,qE,qP,qI,qD,qC,o1,o2,o3,o4,sh1,nh1]) (fun _=> ?_) (fun hx=>by cases hx);refine qL ?_;refine qA fun K hn hp=> ?_;simp only [sw.1,rE,reduceIte,rL,rA,rM,rD,syw.1,qE,qP,qI,qD,qC,o1,o2,o3,o4,sh1,nh1];apply hn;refine zF (jB res87 ⟨?_,fh1.up (by omega)⟩);have:m.rc r c=1:=by
   have q1:inB r 0 (m.R - 1)=false:=q1;simp [Mp.rc,q1]
  simp [xZZ,this]
 have q1':inB r 0 (m.R - 1)=true:=q1;obtain ⟨r',rfl⟩: ∃r':Nat,r=r':=by
  obtain ⟨z1,z2⟩:=xZQ.1 q1;have z1:=of_decide_eq_true z1;exact ⟨r.toNat,by omega⟩
 have hr':r'<m.cells.length:=by
  obtain ⟨z1,z2⟩:=xZQ.1 q1;have z2:=of_decide_eq_true z2;simp only [Mp.R] at z2;omega
 obtain ⟨v,i1,i2,i3,i4⟩:=ha.rowF hr';have i2:=i2 h1 fh1;have hll:=ha.lr _ (xZU (getD_some [] hr'));have hw2:IntKind.i64.wrap (((m.cells.getD r' []).length:Int) - 1)=((m.cells.getD r' []).length:Int) - 1:=jF _ (by omega) (by omega);simp only [sw.1,rE,reduceIte,rL,rA,rM,rD,syw.1,qE,qP,qI,qD,qC,o1,o2,o3,o4,sh1,nh1,i1,i2,i4,q1,xZX,hw2];refine qB (sok xt) (wQ xt _ _ _ _ fun n3 hn3=> ?_);have hn3:=xZR hn3;simp only [xZS] at hn3;have erow:m.cells.getD ((r':Int)).toNat []=m.cells.getD r' []:=by rw [xZK]
 cases q2:(decide (0<=c) && decide (c<=((m.cells.getD r' []).length:Int) - 1))
 ·simp only [sw.1,rE,reduceIte,rL,rA,rM,rD,syw.1,qE,qP,qI,qD,qC,o1,o2,o3,o4,sh1,nh1,i1,i2,i4,q2,xZX];apply hn;refine qF true (by simp only [sw.1,rE,reduceIte,rL,rA,rM,rD,syw.1,qE,qP,qI,qD,qC,o1,o2,o3,o4,sh1,nh1,i1,i2,i4]) (fun _=> ?_) (fun hx=>by cases hx);refine qL ?_;refine qA fun K hn hp=> ?_;simp only [sw.1,rE,reduceIte,rL,rA,rM,rD,syw.1,qE,qP,qI,qD,qC,o1,o2,o3,o4,sh1,nh1,i1,i2,i4];apply hn;refine zF (jB res87 ⟨?_,fh1.up (by omega)⟩);have:m.rc r' c=1:=by
   have q2:inB c 0 (((m.cells.getD r' []).length:Int) - 1)=false:=q2;simp only [Mp.rc,erow,q2,xZW];simp
  simp [xZZ,this]
 ·have q2':inB c 0 (((m.cells.getD r' []).length:Int) - 1)=true:=q2;obtain ⟨c',rfl⟩: ∃c':Nat,c=c':=by
   obtain ⟨z1,z2⟩:=xZQ.1 q2;have z1:=of_decide_eq_true z1;exact ⟨c.toNat,by omega⟩
  have hc':c'<(m.cells.getD r' []).length:=by
   obtain ⟨z1,z2⟩:=xZQ.1 q2;have z2:=of_decide_eq_true z2;omega
  simp only [sw.1,rE,reduceIte,rL,rA,rM,rD,syw.1,qE,qP,qI,qD,qC,o1,o2,o3,o4,sh1,nh1,i1,i2,i4,q2,xZX];apply hn;refine qF false (by simp only [sw.1,rE,reduceIte,rL,rA,rM,rD,syw.1,qE,qP,qI,qD,qC,o1,o2,o3,o4,sh1,nh1,i1,i2,i4]) (fun hx=>by cases hx) (fun _=> ?_);refine qV ?_;obtain ⟨x1,x2⟩:=(i3.fr fh1 (xZY _)).m58 hc';refine qA fun K hn hp=> ?_;simp only [sw.1,rE,reduceIte,rL,rA,rM,rD,syw.1,qE,qP,qI,qD,qC,o1,o2,o3,o4,sh1,nh1,i1,i2,i4,x1,x2];apply hn;refine qJ (jB res87 ⟨?_,fh1.up (by omega)⟩);have:m.rc r' c'=(m.cells.getD r' []).getD c' 0:=by
   simp only [Mp.rc,erow,q1',q2',Bool.and_self,if_true,xZK]
  rw [this];simp [xZZ]
theorem qBJ (xt:Addr->Option Value) (h:Hp) (m:Mp) (ha:m.At xt h) (r c:Int) {K:CR->Hp->Prop} (hk: ∀n,h.n<n->K (.ret (.val (.bool (m.inside r c)))) (h.up n)):FnA (SE xt) 36 [m.av,iv r,iv c] h K:=by
 refine xZC ?_ hk;clear hk K;refine xZD (sok xt) (ft89 xt) rfl 19 rfl ?_;obtain ⟨o1,o2,o3,o4⟩:=ha.ones;have hlc:=ha.lc;have hw:IntKind.i64.wrap ((m.cells.length:Int) - 1)=m.R - 1:=by rw [jF _ (by omega) (by omega)];rfl
 have hWl:m.W<=9223372036854775807:=by
  show (m.cells.headD []).length<=_;cases q:m.cells with
  |nil=>simp
  |cons l ls=>exact ha.lr l (by rw [q];exact List.mem_cons_self)
 have hw2:IntKind.i64.wrap ((m.W:Int) - 1)=m.C - 1:=by rw [jF _ (by omega) (by omega)];rfl
 refine qA fun K hn hp=> ?_;simp only [sw.1,rE,reduceIte,rL,rA,rM,rD,syw.1,qE,qP,qI,qD,qC,o1,o2,o3,o4];apply hn;obtain ⟨h1,hh1⟩: ∃h1:Hp,h1=h.new (.cells m.cs 27):=⟨_,rfl⟩;rw [<-hh1];have nh1:h1.n=h.n+1:=by rw [hh1];rfl
 have sh1:h1.t.get h.n=some (.cells m.cs 27):=by rw [hh1];exact jO _ _
 have kh1: ∀k,k<h.n->h1.t.get k=h.t.get k:=fun k hk=>by rw [hh1];exact zW _ _ hk
 have fbh1:Fr h.n h h1:=by rw [hh1];exact (xZB (xZY _)).new _
 have fh1:=fbh1;have ha1:=ha.fr fh1 (xZY _);refine qA fun K hn hp=> ?_;simp only [sw.1,rE,reduceIte,rL,rA,rM,rD,syw.1,qE,qP,qI,qD,qC,o1,o2,o3,o4,sh1,nh1];refine qB (sok xt) (qBK xt h1 m ha1 fun n1 hn1=> ?_);have hn1:=xZR hn1;simp only [sw.1,rE,reduceIte,rL,rA,rM,rD,syw.1,qE,qP,qI,qD,qC,o1,o2,o3,o4,sh1,nh1,hw];refine qB (sok xt) (wQ xt _ _ _ _ fun n2 hn2=> ?_);have hn2:=xZR hn2;simp only [xZS] at hn2;cases q1:(decide (0<=r) && decide (r<=m.R - 1))
 ·simp only [sw.1,rE,reduceIte,rL,rA,rM,rD,syw.1,qE,qP,qI,qD,qC,o1,o2,o3,o4,sh1,nh1,q1,xZX];refine hn _ _ (qJ (jB res89 ⟨?_,fh1.up (by omega)⟩));simp [xZZ,Mp.inside,inB,q1]
 ·simp only [sw.1,rE,reduceIte,rL,rA,rM,rD,syw.1,qE,qP,qI,qD,qC,o1,o2,o3,o4,sh1,nh1,q1,xZX];refine qB (sok xt) (qB9 xt _ m (ha1.up (by omega)) fun n3 hn3=> ?_);have hn3:=xZR hn3;simp only [xZS] at hn3;simp only [sw.1,rE,reduceIte,rL,rA,rM,rD,syw.1,qE,qP,qI,qD,qC,o1,o2,o3,o4,sh1,nh1,hw2,xZX];refine qB (sok xt) (wQ xt _ _ _ _ fun n4 hn4=> ?_);have hn4:=xZR hn4;simp only [xZS] at hn4;simp only [sw.1,rE,reduceIte,rL,rA,rM,rD,syw.1,qE,qP,qI,qD,qC,o1,o2,o3,o4,sh1,nh1,xZX];refine hn _ _ (qJ (jB res89 ⟨?_,fh1.up (by omega)⟩));simp [xZZ,Mp.inside,inB,q1]
end Go.Proofs.Kn
namespace Go.Proofs.Kn
open Go Go.Ev
set_option maxRecDepth 100000
set_option maxHeartbeats 4000000
theorem ft39 (xt:Addr->Option Value):(SE xt).ft.get 9=some Tryz.f9:=by kernel_rfl
theorem res39:Tryz.f9.results.toList=[.tmp 2]:=by kernel_rfl
theorem Mp.row_no {m:Mp} {r:Nat} (hr:r<m.cells.length) (h:m.rowOk (m.cells.getD r [])=false):m.ok=false:=by
 have:m.cells.all m.rowOk=false:=by
  rw [List.all_eq_false];exact ⟨_,xZU (getD_some [] hr),by rw [h];exact xZO⟩
 simp only [Mp.ok,this,xZV,xZW]
theorem Mp.rest_no {m:Mp} (h:m.restOk=false):m.ok=false:=by simp only [Mp.ok,h,xZW]
theorem qAj {α:Type} {p:α->Bool} {l:List α} {x:α} (hx:x∈l) (h:p x=true):l.any p=true:=List.any_eq_true.2 ⟨x,hx,h⟩
theorem Mp.g_no {m:Mp} {x:Int×Int×Int×Int} (hx:x∈m.gs) (h:m.badG x=true):m.ok=false:=m.rest_no (by
 have:m.gs.any m.badG=true:=qAj hx h;simp only [Mp.restOk,this,xZG,xZV,xZW])
theorem Mp.k_no {m:Mp} {x:Int×Int×Bool} (hx:x∈m.ks) (h:m.badK x=true):m.ok=false:=m.rest_no (by
 have:m.ks.any m.badK=true:=qAj hx h;simp only [Mp.restOk,this,xZG,xZV,xZW])
theorem Mp.p_no {m:Mp} {x:Int×Int} (hx:x∈m.ps) (h:m.is x.1 x.2 2=false):m.ok=false:=m.rest_no (by
 have:m.ps.any (fun p=> !m.is p.1 p.2 2)=true:=qAj hx (by rw [h];rfl);simp only [Mp.restOk,this,xZG,xZW])
theorem Mp.rc_in {m:Mp} (hr:m.Rect) (r c:Int):m.rc r c=if m.inside r c then m.kind r c else 1:=by
 have hrow: ∀i,i<m.cells.length->(m.cells.getD i []).length=m.W:=fun i hi=>hr _ (xZU (getD_some [] hi));have hWC:(m.W:Int)=m.C:=rfl;simp only [Mp.rc];by_cases h1:0<=r/\r<m.R
 ·obtain ⟨i,rfl⟩: ∃i:Nat,r=i:=⟨r.toNat,by omega⟩;have hi:i<m.cells.length:=by have:=h1.2;unfold Mp.R at this;omega
  have e1:inB (i:Int) 0 (m.R - 1)=true:=y5.2 ⟨by omega,by omega⟩;rw [e1,Bool.true_and,xZK,hrow i hi];by_cases h2:0<=c/\c<m.C
  ·have e2:inB c 0 ((m.W:Int) - 1)=true:=y5.2 ⟨by omega,by omega⟩;have e3:m.inside i c=true:=Mp.inside_iff.2 ⟨h1,h2⟩;rw [e2,e3,if_pos rfl,if_pos rfl];have hc:c.toNat<(m.cells.getD i []).length:=by rw [hrow i hi];omega
   have hg:(m.cells[i]?).getD []=m.cells.getD i []:=by rw [xZP]
   simp only [Mp.kind,xZK,hg];rw [getD_some 0 hc];rfl
  ·have e2:inB c 0 ((m.W:Int) - 1)=false:=by
    rw [xZL];intro h;have:=y5.1 h;exact h2 ⟨this.1,by omega⟩
   have e3:m.inside i c=false:=by rw [xZL];intro h;exact h2 (Mp.inside_iff.1 h).2
   rw [e2,e3];rfl
 ·have e1:inB r 0 (m.R - 1)=false:=by
   rw [xZL];intro h;have:=y5.1 h;exact h1 ⟨this.1,by omega⟩
  have e3:m.inside r c=false:=by rw [xZL];intro h;exact h1 (Mp.inside_iff.1 h).1
  rw [e1,e3];rfl
theorem Mp.badG_rc {m:Mp} (hr:m.Rect) (x:Int×Int×Int×Int):m.badG x=(decide (m.rc x.1 x.2.1=1) || (!inB x.2.2.1 0 60 || !inB x.2.2.2 0 9)):=by
 rw [Mp.rc_in hr];simp only [Mp.badG,Mp.is];cases m.inside x.1 x.2.1<;>simp
theorem Mp.is_rc {m:Mp} (hr:m.Rect) (r c:Int):m.is r c 2=decide (m.rc r c=2):=by
 rw [Mp.rc_in hr];simp only [Mp.is];cases m.inside r c<;>simp
theorem rmap_c (xt:Addr->Option Value) (h:Hp) (m:Mp) (ha:m.At xt h) {K:CR->Hp->Prop} (hk: ∀n,h.n<n->K (.ret (.val (.bool m.ok))) (h.up n)):FnA (SE xt) 9 [m.av] h K:=by
 refine xZC ?_ hk;clear hk K;refine xZD (sok xt) (ft39 xt) rfl 192 rfl ?_;obtain ⟨o1,o2,o3,o4⟩:=ha.ones;have hl23:=fun h':Hp=>(ha.gs).len (h':=h') wY rfl;have hl24:=fun h':Hp=>(ha.ks).len (h':=h') wX rfl;have hl25:=fun h':Hp=>(ha.ps).len (h':=h') wW rfl;simp only [List.length_map] at hl23 hl24 hl25;refine qA fun K hn hp=> ?_;simp only [sw.1,rE,reduceIte,rL,rA,rM,rD,syw.1,qE,qP,qI,qU,qD,qC,o1,o2,o3,o4,qG,hl23,hl24,hl25];apply hn;clear hn hp K;obtain ⟨h1,hh1⟩: ∃h1:Hp,h1=h.new (.cells m.cs 27):=⟨_,rfl⟩;rw [<-hh1];have nh1:h1.n=h.n+1:=by rw [hh1];rfl
 have sh1:h1.t.get h.n=some (.cells m.cs 27):=by rw [hh1];exact jO _ _
 have kh1: ∀k,k<h.n->h1.t.get k=h.t.get k:=fun k hk=>by rw [hh1];exact zW _ _ hk
 have fbh1:Fr h.n h h1:=by rw [hh1];exact (xZB (xZY _)).new _
 have fh1:=fbh1;have ha1:=ha.fr fh1 (xZY _);have retF: ∀(n:Nat) (tm:T AV),h1.n<=n->tm.get 2=some (.val (.bool false))->m.ok=false->uU (SE xt) Tryz.f9 (fun r h'=>r= .ret (.val (.bool m.ok))/\Fr h.n h h') .ret ⟨tm,192,h1.up n,[]⟩:=fun n tm hn g hm=>jB res39 ⟨by simp [g,hm],fh1.up hn⟩;refine qL ?_;refine qA fun K hn hp=> ?_;simp only [sw.1,rE,reduceIte,rL,rA,rM,rD,syw.1,qE,qP,qI,qU,qD,qC,o1,o2,o3,o4,qG,hl23,hl24,hl25,sh1,nh1];refine qB (sok xt) (qBK xt h1 m ha1 fun n1 hn1=> ?_);simp only [sw.1,rE,reduceIte,rL,rA,rM,rD,syw.1,qE,qP,qI,qU,qD,qC,o1,o2,o3,o4,qG,hl23,hl24,hl25,sh1,nh1];refine qB (sok xt) (wQ xt _ _ _ _ fun n2 hn2=> ?_);simp only [xZS] at hn2;cases b1:inB m.cells.length 1 6
 ·have b1':=b1;unfold inB at b1';simp only [sw.1,rE,reduceIte,rL,rA,rM,rD,syw.1,qE,qP,qI,qU,qD,qC,o1,o2,o3,o4,qG,hl23,hl24,hl25,sh1,nh1,b1',xZX];apply hn;clear hn hp K;refine qF true (by simp only [sw.1,rE,reduceIte,rL,rA,rM,rD,syw.1,qE,qP,qI,qU,qD,qC,o1,o2,o3,o4,qG,hl23,hl24,hl25,sh1,nh1]) (fun _=> ?_) (fun hx=>by cases hx);refine qL ?_;refine qA fun K hn hp=> ?_;simp only [sw.1,rE,reduceIte,rL,rA,rM,rD,syw.1,qE,qP,qI,qU,qD,qC,o1,o2,o3,o4,qG,hl23,hl24,hl25,sh1,nh1];apply hn;clear hn hp K;refine zF (retF _ _ (by omega) (by simp [xZZ]) (by simp only [Mp.ok,Mp.R,b1,xZV]))
 have b1':=b1;unfold inB at b1';simp only [sw.1,rE,reduceIte,rL,rA,rM,rD,syw.1,qE,qP,qI,qU,qD,qC,o1,o2,o3,o4,qG,hl23,hl24,hl25,sh1,nh1,b1',xZX];refine qB (sok xt) (qB9 xt _ m (ha1.up (by omega)) fun n3 hn3=> ?_);simp only [xZS] at hn3;simp only [sw.1,rE,reduceIte,rL,rA,rM,rD,syw.1,qE,qP,qI,qU,qD,qC,o1,o2,o3,o4,qG,hl23,hl24,hl25,sh1,nh1,xZX];refine qB (sok xt) (wQ xt _ _ _ _ fun n4 hn4=> ?_);simp only [xZS] at hn4;have hpos:0<m.cells.length:=by have:=y5.1 b1;omega
 cases b2:inB m.W 1 8
 ·have b2':=b2;unfold inB at b2';simp only [sw.1,rE,reduceIte,rL,rA,rM,rD,syw.1,qE,qP,qI,qU,qD,qC,o1,o2,o3,o4,qG,hl23,hl24,hl25,sh1,nh1,b2',xZX];apply hn;clear hn hp K;refine qF true (by simp only [sw.1,rE,reduceIte,rL,rA,rM,rD,syw.1,qE,qP,qI,qU,qD,qC,o1,o2,o3,o4,qG,hl23,hl24,hl25,sh1,nh1]) (fun _=> ?_) (fun hx=>by cases hx);refine qL ?_;refine qA fun K hn hp=> ?_;simp only [sw.1,rE,reduceIte,rL,rA,rM,rD,syw.1,qE,qP,qI,qU,qD,qC,o1,o2,o3,o4,qG,hl23,hl24,hl25,sh1,nh1];apply hn;clear hn hp K;refine zF (retF _ _ (by omega) (by simp [xZZ]) (Mp.row_no hpos ?_));have e0:m.cells.getD 0 []=m.cells.headD []:=by cases m.cells<;>rfl
  simp only [Mp.rowOk,e0];have b2:inB (m.cells.headD []).length 1 8=false:=b2;simp only [b2,xZV,xZW]
 have b2':=b2;unfold inB at b2';simp only [sw.1,rE,reduceIte,rL,rA,rM,rD,syw.1,qE,qP,qI,qU,qD,qC,o1,o2,o3,o4,qG,hl23,hl24,hl25,sh1,nh1,b2',xZX];refine qB (sok xt) (wQ xt _ _ _ _ fun n5 hn5=> ?_);simp only [xZS] at hn5;cases b3:inB m.T 0 9
 ·have b3':=b3;unfold inB at b3';simp only [sw.1,rE,reduceIte,rL,rA,rM,rD,syw.1,qE,qP,qI,qU,qD,qC,o1,o2,o3,o4,qG,hl23,hl24,hl25,sh1,nh1,b3',xZX];apply hn;clear hn hp K;refine qF true (by simp only [sw.1,rE,reduceIte,rL,rA,rM,rD,syw.1,qE,qP,qI,qU,qD,qC,o1,o2,o3,o4,qG,hl23,hl24,hl25,sh1,nh1]) (fun _=> ?_) (fun hx=>by cases hx);refine qL ?_;refine qA fun K hn hp=> ?_;simp only [sw.1,rE,reduceIte,rL,rA,rM,rD,syw.1,qE,qP,qI,qU,qD,qC,o1,o2,o3,o4,qG,hl23,hl24,hl25,sh1,nh1];apply hn;clear hn hp K;refine zF (retF _ _ (by omega) (by simp [xZZ]) (Mp.rest_no (by simp only [Mp.restOk,b3,xZV])))
 have b3':=b3;unfold inB at b3';simp only [sw.1,rE,reduceIte,rL,rA,rM,rD,syw.1,qE,qP,qI,qU,qD,qC,o1,o2,o3,o4,qG,hl23,hl24,hl25,sh1,nh1,b3',xZX];refine qB (sok xt) (wQ xt _ _ _ _ fun n6 hn6=> ?_);simp only [xZS] at hn6;cases b4:inB m.H 0 3
 ·have b4':=b4;unfold inB at b4';simp only [sw.1,rE,reduceIte,rL,rA,rM,rD,syw.1,qE,qP,qI,qU,qD,qC,o1,o2,o3,o4,qG,hl23,hl24,hl25,sh1,nh1,b4',xZX];apply hn;clear hn hp K;refine qF true (by simp only [sw.1,rE,reduceIte,rL,rA,rM,rD,syw.1,qE,qP,qI,qU,qD,qC,o1,o2,o3,o4,qG,hl23,hl24,hl25,sh1,nh1]) (fun _=> ?_) (fun hx=>by cases hx);refine qL ?_;refine qA fun K hn hp=> ?_;simp only [sw.1,rE,reduceIte,rL,rA,rM,rD,syw.1,qE,qP,qI,qU,qD,qC,o1,o2,o3,o4,qG,hl23,hl24,hl25,sh1,nh1];apply hn;clear hn hp K;refine zF (retF _ _ (by omega) (by simp [xZZ]) (Mp.rest_no (by simp only [Mp.restOk,b4,xZV,xZW])))
 have b4':=b4;unfold inB at b4';cases b5:decide ((8:Int)<m.gs.length)
 rotate_left
 ·simp only [sw.1,rE,reduceIte,rL,rA,rM,rD,syw.1,qE,qP,qI,qU,qD,qC,o1,o2,o3,o4,qG,hl23,hl24,hl25,sh1,nh1,b4',xZX,b5];apply hn;clear hn hp K;refine qF true (by simp only [sw.1,rE,reduceIte,rL,rA,rM,rD,syw.1,qE,qP,qI,qU,qD,qC,o1,o2,o3,o4,qG,hl23,hl24,hl25,sh1,nh1]) (fun _=> ?_) (fun hx=>by cases hx);refine qL ?_;refine qA fun K hn hp=> ?_;simp only [sw.1,rE,reduceIte,rL,rA,rM,rD,syw.1,qE,qP,qI,qU,qD,qC,o1,o2,o3,o4,qG,hl23,hl24,hl25,sh1,nh1];apply hn;clear hn hp K;have b5':decide ((m.gs.length:Int)<=8)=false:=decide_eq_false (by have:=of_decide_eq_true b5;omega);refine zF (retF _ _ (by omega) (by simp [xZZ]) (Mp.rest_no (by simp only [Mp.restOk,b5',xZV,xZW])))
 have b5':decide ((m.gs.length:Int)<=8)=true:=decide_eq_true (by have:=of_decide_eq_false b5;omega);cases b6:decide ((8:Int)<m.ks.length)
 rotate_left
 ·simp only [sw.1,rE,reduceIte,rL,rA,rM,rD,syw.1,qE,qP,qI,qU,qD,qC,o1,o2,o3,o4,qG,hl23,hl24,hl25,sh1,nh1,b4',xZX,b5,b6];apply hn;clear hn hp K;refine qF true (by simp only [sw.1,rE,reduceIte,rL,rA,rM,rD,syw.1,qE,qP,qI,qU,qD,qC,o1,o2,o3,o4,qG,hl23,hl24,hl25,sh1,nh1]) (fun _=> ?_) (fun hx=>by cases hx);refine qL ?_;refine qA fun K hn hp=> ?_;simp only [sw.1,rE,reduceIte,rL,rA,rM,rD,syw.1,qE,qP,qI,qU,qD,qC,o1,o2,o3,o4,qG,hl23,hl24,hl25,sh1,nh1];apply hn;clear hn hp K;have b6':decide ((m.ks.length:Int)<=8)=false:=decide_eq_false (by have:=of_decide_eq_true b6;omega);refine zF (retF _ _ (by omega) (by simp [xZZ]) (Mp.rest_no (by simp only [Mp.restOk,b6',xZV,xZW])))
 have b6':decide ((m.ks.length:Int)<=8)=true:=decide_eq_true (by have:=of_decide_eq_false b6;omega);cases b7:decide ((12:Int)<m.ps.length)
 rotate_left
 ·simp only [sw.1,rE,reduceIte,rL,rA,rM,rD,syw.1,qE,qP,qI,qU,qD,qC,o1,o2,o3,o4,qG,hl23,hl24,hl25,sh1,nh1,b4',xZX,b5,b6,b7];apply hn;clear hn hp K;refine qF true (by simp only [sw.1,rE,reduceIte,rL,rA,rM,rD,syw.1,qE,qP,qI,qU,qD,qC,o1,o2,o3,o4,qG,hl23,hl24,hl25,sh1,nh1]) (fun _=> ?_) (fun hx=>by cases hx);refine qL ?_;refine qA fun K hn hp=> ?_;simp only [sw.1,rE,reduceIte,rL,rA,rM,rD,syw.1,qE,qP,qI,qU,qD,qC,o1,o2,o3,o4,qG,hl23,hl24,hl25,sh1,nh1];apply hn;clear hn hp K;have b7':decide ((m.ps.length:Int)<=12)=false:=decide_eq_false (by have:=of_decide_eq_true b7;omega);refine zF (retF _ _ (by omega) (by simp [xZZ]) (Mp.rest_no (by simp only [Mp.restOk,b7',xZV,xZW])))
 have b7':decide ((m.ps.length:Int)<=12)=true:=decide_eq_true (by have:=of_decide_eq_false b7;omega);simp only [sw.1,rE,reduceIte,rL,rA,rM,rD,syw.1,qE,qP,qI,qU,qD,qC,o1,o2,o3,o4,qG,hl23,hl24,hl25,sh1,nh1,b4',xZX,b5,b6,b7];apply hn;clear hn hp K;refine qF false (by simp only [sw.1,rE,reduceIte,rL,rA,rM,rD,syw.1,qE,qP,qI,qU,qD,qC,o1,o2,o3,o4,qG,hl23,hl24,hl25,sh1,nh1]) (fun hx=>by cases hx) (fun _=> ?_);refine qV ?_;refine qL ?_;refine qA fun K hn hp=> ?_;simp only [sw.1,rE,reduceIte,rL,rA,rM,rD,syw.1,qE,qP,qI,qU,qD,qC,o1,o2,o3,o4,qG,hl23,hl24,hl25,sh1,nh1];apply hn;clear hn hp K;have hRb:=y5.1 b1;have hWb:=y5.1 b2;have hlc:=ha.lc;refine qO fun KA A1 A2 A3 A4 A5=> ?_;refine jD (sok xt) (fun st=> ∃(r:Nat) (n:Nat) (tm:T AV),st=⟨tm,192,h1.up n,[]⟩/\r<=m.cells.length/\tm.get 1=some (.ptr h.n 0)/\tm.get 3=some (iv r)/\h1.n<=n/\ ∀j,j<r->m.rowOk (m.cells.getD j [])=true) (fun st=>m.cells.length - (match st.tm.get 3 with|some (.val (.int _ n))=>n.toNat|_=>0)) ?_ ?_
 ·rintro st ⟨r,n,tm,rfl,hkA,g1,g3,hna,hrows⟩;have muA:=g3;refine qL ?_;refine qA fun K hn hp=> ?_;simp only [sw.1,rE,reduceIte,rL,rA,rM,rD,syw.1,qE,qP,qI,qU,qD,qC,o1,o2,o3,o4,qG,hl23,hl24,hl25,sh1,nh1,g1,g3];refine qB (sok xt) (qBK xt _ m (ha1.up hna) fun n7 hn7=> ?_);simp only [xZS] at hn7;simp only [sw.1,rE,reduceIte,rL,rA,rM,rD,syw.1,qE,qP,qI,qU,qD,qC,o1,o2,o3,o4,qG,hl23,hl24,hl25,sh1,nh1,g1,g3,xZX];apply hn;clear hn hp K;by_cases hr:r<m.cells.length
  ·refine qF true (by simp only [sw.1,rE,reduceIte,rL,rA,rM,rD,syw.1,qE,qP,qI,qU,qD,qC,o1,o2,o3,o4,qG,hl23,hl24,hl25,sh1,nh1,g1,g3,hr]) (fun _=> ?_) (fun hx=>by cases hx);obtain ⟨v,i1,i2,i3,i4⟩:=ha.rowF hr;have i2:=i2 h1 fh1;obtain ⟨l,hl⟩: ∃l,l=m.cells.getD r []:=⟨_,rfl⟩;rw [<-hl] at i3 i4;refine qV ?_;refine qO fun KB B1 B2 B3 B4 B5=> ?_;refine qL ?_;refine seq_regW (sok xt) 0 0 9 [(1,1),(4,1),(5,1)] (by kernel_rfl) fun K hn hp=> ?_;simp only [sw.1,rE,reduceIte,rL,rA,rM,rD,syw.1,qE,qP,qI,qU,qD,qC,o1,o2,o3,o4,qG,hl23,hl24,hl25,sh1,nh1,g1,g3,i1,i2,i4];refine qB (sok xt) (qB9 xt _ m (ha1.up (by omega)) fun n8 hn8=> ?_);simp only [xZS] at hn8;simp only [sw.1,rE,reduceIte,rL,rA,rM,rD,syw.1,qE,qP,qI,qU,qD,qC,o1,o2,o3,o4,qG,hl23,hl24,hl25,sh1,nh1,g1,g3,i1,i2,i4,hn8,xZX];apply hn;clear hn hp K;cases q:decide ((l.length:Int)=m.W)
   ·refine qF true (by simp only [sw.1,rE,reduceIte,rL,rA,rM,rD,syw.1,qE,qP,qI,qU,qD,qC,o1,o2,o3,o4,qG,hl23,hl24,hl25,sh1,nh1,g1,g3,i1,i2,i4,q]) (fun _=> ?_) (fun hx=>by cases hx);refine qL ?_;refine qA fun K hn hp=> ?_;simp only [sw.1,rE,reduceIte,rL,rA,rM,rD,syw.1,qE,qP,qI,qU,qD,qC,o1,o2,o3,o4,qG,hl23,hl24,hl25,sh1,nh1,g1,g3,i1,i2,i4];apply hn;clear hn hp K;refine zF (B4 _ (A4 _ (retF _ _ (by omega) (by simp [xZZ]) (Mp.row_no hr ?_))));rw [<-hl];have q:decide ((l.length:Int)=m.C)=false:=q;simp only [Mp.rowOk,q,xZV]
   refine qF false (by simp only [sw.1,rE,reduceIte,rL,rA,rM,rD,syw.1,qE,qP,qI,qU,qD,qC,o1,o2,o3,o4,qG,hl23,hl24,hl25,sh1,nh1,g1,g3,i1,i2,i4,q]) (fun hx=>by cases hx) (fun _=> ?_);refine qV ?_;refine qA fun K hn hp=> ?_;simp only [sw.1,rE,reduceIte,rL,rA,rM,rD,syw.1,qE,qP,qI,qU,qD,qC,o1,o2,o3,o4,qG,hl23,hl24,hl25,sh1,nh1,g1,g3,i1,i2,i4];apply hn;clear hn hp K;have hlW:l.length=m.W:=by have:=of_decide_eq_true q;omega
   refine zQ fun KD D1 D2 D3 D4 D5=> ?_;refine jD (sok xt) (fun st=> ∃(c:Nat) (nc:Nat) (tm:T AV),st=⟨tm,192,h1.up nc,[]⟩/\c<=m.W/\tm.get 1=some (.ptr h.n 0)/\tm.get 3=some (iv r)/\tm.get 4=some (iv c)/\h1.n<=nc/\ ∀j,j<c->zK (l.getD j 0)=false) (fun st=>m.W - (match st.tm.get 4 with|some (.val (.int _ n))=>n.toNat|_=>0)) ?_ ?_
   ·rintro st ⟨c,nc,tm,rfl,hkD,g1,g3,g4,hnc,hcols⟩;have muD:=g4;refine qL ?_;refine qA fun K hn hp=> ?_;simp only [sw.1,rE,reduceIte,rL,rA,rM,rD,syw.1,qE,qP,qI,qU,qD,qC,o1,o2,o3,o4,qG,hl23,hl24,hl25,sh1,nh1,g1,g3,i1,i2,i4,g4];refine qB (sok xt) (qB9 xt _ m (ha1.up hnc) fun n9 hn9=> ?_);simp only [xZS] at hn9;simp only [sw.1,rE,reduceIte,rL,rA,rM,rD,syw.1,qE,qP,qI,qU,qD,qC,o1,o2,o3,o4,qG,hl23,hl24,hl25,sh1,nh1,g1,g3,i1,i2,i4,g4,xZX];apply hn;clear hn hp K;by_cases hc:c<m.W
    ·refine qF true (by simp only [sw.1,rE,reduceIte,rL,rA,rM,rD,syw.1,qE,qP,qI,qU,qD,qC,o1,o2,o3,o4,qG,hl23,hl24,hl25,sh1,nh1,g1,g3,i1,i2,i4,g4,hc]) (fun _=> ?_) (fun hx=>by cases hx);obtain ⟨x1,x2⟩:=(i3.fr fh1 (xZY _)).m58 (k:=c) (by omega);have no:zK (l.getD c 0)=true->m.ok=false:=fun hb=>Mp.row_no hr (by
      rw [<-hl];have:l.any zK=true:=qAj (xZU (getD_some 0 (show c<l.length by omega))) hb;simp only [Mp.rowOk,this,xZG,xZW])
     refine qV ?_;refine qO fun KE E1 E2 E3 E4 E5=> ?_;cases q1:decide (l.getD c 0<1)
     ·cases q2:decide (3<l.getD c 0)
      ·refine qA fun K hn hp=> ?_;simp only [sw.1,rE,reduceIte,rL,rA,rM,rD,syw.1,qE,qP,qI,qU,qD,qC,o1,o2,o3,o4,qG,hl23,hl24,hl25,sh1,nh1,g1,g3,i1,i2,i4,g4,x1,x2,q1,q2];apply hn;clear hn hp K;refine qT false (by simp only [sw.1,rE,reduceIte,rL,rA,rM,rD,syw.1,qE,qP,qI,qU,qD,qC,o1,o2,o3,o4,qG,hl23,hl24,hl25,sh1,nh1,g1,g3,i1,i2,i4,g4,x1,x2]) (fun hx=>by cases hx) (fun _=> ?_);refine jY (E1 _ ?_);refine reg fun K hn hp=> ?_;simp only [sw.1,rE,reduceIte,rL,rA,rM,rD,syw.1,qE,qP,qI,qU,qD,qC,o1,o2,o3,o4,qG,hl23,hl24,hl25,sh1,nh1,g1,g3,i1,i2,i4,g4,x1,x2,jE hc (show m.W<=9223372036854775807 by omega)];apply hn;clear hn hp K;refine ⟨⟨c+1,n9,_,rfl,by omega,(by simp [xZZ,g1,g3,g4]),(by simp [xZZ,g1,g3,g4]),(by simp [xZZ,g1,g3,g4]),by omega,fun j hj=> ?_⟩,by simpa [xZZ,muD] using (by omega:m.W - (c+1)<m.W - c)⟩;by_cases e:j=c
       ·rw [e];simp only [zK,q1,q2];rfl
       ·exact hcols j (by omega)
      ·refine qA fun K hn hp=> ?_;simp only [sw.1,rE,reduceIte,rL,rA,rM,rD,syw.1,qE,qP,qI,qU,qD,qC,o1,o2,o3,o4,qG,hl23,hl24,hl25,sh1,nh1,g1,g3,i1,i2,i4,g4,x1,x2,q1,q2];apply hn;clear hn hp K;refine qT true (by simp only [sw.1,rE,reduceIte,rL,rA,rM,rD,syw.1,qE,qP,qI,qU,qD,qC,o1,o2,o3,o4,qG,hl23,hl24,hl25,sh1,nh1,g1,g3,i1,i2,i4,g4,x1,x2]) (fun _=> ?_) (fun hx=>by cases hx);refine qA fun K hn hp=> ?_;simp only [sw.1,rE,reduceIte,rL,rA,rM,rD,syw.1,qE,qP,qI,qU,qD,qC,o1,o2,o3,o4,qG,hl23,hl24,hl25,sh1,nh1,g1,g3,i1,i2,i4,g4,x1,x2];apply hn;clear hn hp K;refine qJ (E4 _ (D4 _ (B4 _ (A4 _ (retF _ _ (by omega) (by simp [xZZ]) (no (by simp only [zK,q1,q2];rfl)))))))
     ·refine qA fun K hn hp=> ?_;simp only [sw.1,rE,reduceIte,rL,rA,rM,rD,syw.1,qE,qP,qI,qU,qD,qC,o1,o2,o3,o4,qG,hl23,hl24,hl25,sh1,nh1,g1,g3,i1,i2,i4,g4,x1,x2,q1];apply hn;clear hn hp K;refine qT true (by simp only [sw.1,rE,reduceIte,rL,rA,rM,rD,syw.1,qE,qP,qI,qU,qD,qC,o1,o2,o3,o4,qG,hl23,hl24,hl25,sh1,nh1,g1,g3,i1,i2,i4,g4,x1,x2]) (fun _=> ?_) (fun hx=>by cases hx);refine qA fun K hn hp=> ?_;simp only [sw.1,rE,reduceIte,rL,rA,rM,rD,syw.1,qE,qP,qI,qU,qD,qC,o1,o2,o3,o4,qG,hl23,hl24,hl25,sh1,nh1,g1,g3,i1,i2,i4,g4,x1,x2];apply hn;clear hn hp K;refine qJ (E4 _ (D4 _ (B4 _ (A4 _ (retF _ _ (by omega) (by simp [xZZ]) (no (by simp only [zK,q1];rfl)))))))
    ·refine qF false (by simp only [sw.1,rE,reduceIte,rL,rA,rM,rD,syw.1,qE,qP,qI,qU,qD,qC,o1,o2,o3,o4,qG,hl23,hl24,hl25,sh1,nh1,g1,g3,i1,i2,i4,g4,hc]) (fun hx=>by cases hx) (fun _=> ?_);refine jA (D2 _ (B1 _ ?_));refine reg fun K hn hp=> ?_;simp only [sw.1,rE,reduceIte,rL,rA,rM,rD,syw.1,qE,qP,qI,qU,qD,qC,o1,o2,o3,o4,qG,hl23,hl24,hl25,sh1,nh1,g1,g3,i1,i2,i4,g4,jE hr hlc];apply hn;clear hn hp K;refine ⟨⟨r+1,n9,_,rfl,by omega,(by simp [xZZ,g1,g3]),(by simp [xZZ,g1,g3]),by omega,fun j hj=> ?_⟩,by simpa [xZZ,muA] using (by omega:m.cells.length - (r+1)<m.cells.length - r)⟩;by_cases e:j=r
     ·rw [e,<-hl];have h1:decide ((l.length:Int)=m.C)=true:=decide_eq_true (by rw [hlW];rfl);have h2:inB l.length 1 8=true:=by rw [hlW];exact b2
      have h3:l.any zK=false:=by
       rw [xZM];intro x hx;obtain ⟨j,hj,rfl⟩:=xZA hx;have:=hcols j (by omega);rw [xZP,xZT hj] at this;simpa using this
      simp only [Mp.rowOk,h1,h2,h3];rfl
     ·exact hrows j (by omega)
   ·exact ⟨0,n8,_,rfl,(by omega),(by simp [xZZ,g1,g3]),(by simp [xZZ,g1,g3]),(by simp [xZZ,g1,g3]),by omega,fun j hj=>absurd hj (Nat.not_lt_zero _)⟩
  ·refine qF false (by simp only [sw.1,rE,reduceIte,rL,rA,rM,rD,syw.1,qE,qP,qI,qU,qD,qC,o1,o2,o3,o4,qG,hl23,hl24,hl25,sh1,nh1,g1,g3,hr]) (fun hx=>by cases hx) (fun _=> ?_);have hall:m.cells.all m.rowOk=true:=by
    rw [xYY];intro l hl;obtain ⟨j,hj,rfl⟩:=xZA hl;have:=hrows j (by omega)
    rwa [xZP,xZT hj] at this
   have hrect:m.Rect:=fun l hl=>by
    have:=xYY.1 hall l hl;simp only [Mp.rowOk,Bool.and_eq_true,decide_eq_true_eq] at this;have h1:(l.length:Int)=(m.cells.headD []).length:=this.1;omega
   refine jA (A2 _ ?_);refine qL ?_;refine qA fun K hn hp=> ?_;simp only [sw.1,rE,reduceIte,rL,rA,rM,rD,syw.1,qE,qP,qI,qU,qD,qC,o1,o2,o3,o4,qG,hl23,hl24,hl25,sh1,nh1,g1,g3];apply hn;clear hn hp K;refine qO fun KG G1 G2 G3 G4 G5=> ?_;refine jD (sok xt) (fun st=> ∃(i:Nat) (hg:Hp) (tm:T AV),st=⟨tm,192,hg,[]⟩/\i<=m.gs.length/\tm.get 1=some (.ptr h.n 0)/\tm.get 5=some (iv i)/\Fr h1.n h1 hg/\ ∀x∈m.gs.take i,m.badG x=false) (fun st=>m.gs.length - (match st.tm.get 5 with|some (.val (.int _ n))=>n.toNat|_=>0)) ?_ ?_
   ·rintro st ⟨i,hg,tm,rfl,hkG,g1,g5,fg,hallg⟩;have muG:=g5;have fgh:=fh1.trans fg (by omega);have q1:=(fg.at_ h.n (.inl (by omega))).trans sh1;refine qL ?_;refine qA fun K hn hp=> ?_;simp only [sw.1,rE,reduceIte,rL,rA,rM,rD,syw.1,qE,qP,qI,qU,qD,qC,o1,o2,o3,o4,qG,hl23,hl24,hl25,nh1,g1,g3,g5,q1];apply hn;clear hn hp K;by_cases hi:i<m.gs.length
    ·refine qF true (by simp only [sw.1,rE,reduceIte,rL,rA,rM,rD,syw.1,qE,qP,qI,qU,qD,qC,o1,o2,o3,o4,qG,hl23,hl24,hl25,nh1,g1,g3,g5,hi]) (fun _=> ?_) (fun hx=>by cases hx);have hag:=ha.fr fgh (xZY _);obtain ⟨x,hx⟩: ∃x,m.gs[i]? =some x:=⟨_,xZT hi⟩;have i1:=hag.gs.idx wY rfl uE rfl (i:=i) (by simpa using hi) (k:= .i64);have i2:=hag.gs.loadA uE rfl rfl (i:=i) (c:=Kn.g4 x) (by rw [xZN,hx];rfl);have hbad:=m.badG_rc hrect x;have gno:m.badG x=true->m.ok=false:=fun hb=>Mp.g_no (xZU hx) hb;have gyes:m.badG x=false-> ∀y∈m.gs.take (i+1),m.badG y=false:=fun hb=>by
      rw [xZE,hx];intro y hy;simp only [xZI,xZF,xZH] at hy;rcases hy with hy|rfl
      ·exact hallg y hy
      ·exact hb
     obtain ⟨xr,xc,xs,xo⟩:=x;simp only [Kn.g4,List.map_cons,List.map_nil] at i2 hbad;refine qV ?_;refine qO fun KH H1 H2 H3 H4 H5=> ?_;refine qA fun K hn hp=> ?_;simp only [sw.1,rE,reduceIte,rL,rA,rM,rD,syw.1,qE,qP,qI,qU,qD,qC,o1,o2,o3,o4,qG,hl23,hl24,hl25,nh1,g1,g3,g5,i1,i2,q1];apply hn;clear hn hp K;obtain ⟨h9,hh9⟩: ∃h9:Hp,h9=(hg.new (.cells [iv 0,iv 0,iv 0,iv 0] 87)).set hg.n (.cells [iv xr,iv xc,iv xs,iv xo] 87):=⟨_,rfl⟩;have nh9:h9.n=hg.n+1:=by rw [hh9];rfl
     have sh9:h9.t.get hg.n=some (.cells [iv xr,iv xc,iv xs,iv xo] 87):=by rw [hh9,Hp.set_t,xZZ,if_pos rfl]
     have kh9: ∀k,k<hg.n->h9.t.get k=hg.t.get k:=fun k hk=>by rw [hh9];exact yM _ _ _ hk
     have fbh9:Fr hg.n hg h9:=by rw [hh9];exact yN _ _ _
     have fh9:=fbh9;rw [<-hh9];have f9:=fg.trans fbh9 fg.lo;have q9:=(f9.at_ h.n (.inl (by omega))).trans sh1;refine qA fun K hn hp=> ?_;simp only [sw.1,rE,reduceIte,rL,rA,rM,rD,syw.1,qE,qP,qI,qU,qD,qC,o1,o2,o3,o4,qG,hl23,hl24,hl25,nh1,g1,g3,g5,i1,i2,sh9,q9];refine qB (sok xt) (rc_c xt h9 m (ha1.fr f9 (xZY _)) xr xc fun n9 hn9=> ?_);have retG: ∀(n:Nat) (tm:T AV),h9.n<=n->tm.get 2=some (.val (.bool false))->m.badG (xr,xc,xs,xo)=true->uU (SE xt) Tryz.f9 (fun r h'=>r= .ret (.val (.bool m.ok))/\Fr h.n h h') .ret ⟨tm,192,h9.up n,[]⟩:=fun n tm hn g hm=>jB res39 ⟨by simp [g,gno hm],(fh1.trans f9 (by omega)).up hn⟩;by_cases c1:m.rc xr xc=1
     ·simp only [sw.1,rE,reduceIte,rL,rA,rM,rD,syw.1,qE,qP,qI,qU,qD,qC,o1,o2,o3,o4,qG,hl23,hl24,hl25,nh1,g1,g3,g5,i1,i2,sh9,decide_eq_true c1];apply hn;clear hn hp K;refine qT true (by simp only [sw.1,rE,reduceIte,rL,rA,rM,rD,syw.1,qE,qP,qI,qU,qD,qC,o1,o2,o3,o4,qG,hl23,hl24,hl25,nh1,g1,g3,g5,i1,i2,sh9,nh9]) (fun _=> ?_) (fun hx=>by cases hx);refine qA fun K hn hp=> ?_;simp only [sw.1,rE,reduceIte,rL,rA,rM,rD,syw.1,qE,qP,qI,qU,qD,qC,o1,o2,o3,o4,qG,hl23,hl24,hl25,nh1,g1,g3,g5,i1,i2,sh9,nh9];apply hn;clear hn hp K;refine qJ (H4 _ (G4 _ (retG _ _ (by omega) (by simp [xZZ]) (by rw [hbad,decide_eq_true c1];rfl))))
     simp only [sw.1,rE,reduceIte,rL,rA,rM,rD,syw.1,qE,qP,qI,qU,qD,qC,o1,o2,o3,o4,qG,hl23,hl24,hl25,nh1,g1,g3,g5,i1,i2,sh9,decide_eq_false c1];refine qB (sok xt) (wQ xt _ _ _ _ fun n10 hn10=> ?_);simp only [xZS] at hn10;cases c2:inB xs 0 60
     ·have c2':=c2;unfold inB at c2';simp only [sw.1,rE,reduceIte,rL,rA,rM,rD,syw.1,qE,qP,qI,qU,qD,qC,o1,o2,o3,o4,qG,hl23,hl24,hl25,nh1,g1,g3,g5,i1,i2,sh9,c2',xZX];apply hn;clear hn hp K;refine qT true (by simp only [sw.1,rE,reduceIte,rL,rA,rM,rD,syw.1,qE,qP,qI,qU,qD,qC,o1,o2,o3,o4,qG,hl23,hl24,hl25,nh1,g1,g3,g5,i1,i2,sh9,nh9]) (fun _=> ?_) (fun hx=>by cases hx);refine qA fun K hn hp=> ?_;simp only [sw.1,rE,reduceIte,rL,rA,rM,rD,syw.1,qE,qP,qI,qU,qD,qC,o1,o2,o3,o4,qG,hl23,hl24,hl25,nh1,g1,g3,g5,i1,i2,sh9,nh9];apply hn;clear hn hp K;refine qJ (H4 _ (G4 _ (retG _ _ (by omega) (by simp [xZZ]) (by rw [hbad,c2];simp))))
     have c2':=c2;unfold inB at c2';simp only [sw.1,rE,reduceIte,rL,rA,rM,rD,syw.1,qE,qP,qI,qU,qD,qC,o1,o2,o3,o4,qG,hl23,hl24,hl25,nh1,g1,g3,g5,i1,i2,sh9,c2',xZX];refine qB (sok xt) (wQ xt _ _ _ _ fun n11 hn11=> ?_);simp only [xZS] at hn11;cases c3:inB xo 0 9
     ·have c3':=c3;unfold inB at c3';simp only [sw.1,rE,reduceIte,rL,rA,rM,rD,syw.1,qE,qP,qI,qU,qD,qC,o1,o2,o3,o4,qG,hl23,hl24,hl25,nh1,g1,g3,g5,i1,i2,sh9,c3',xZX];apply hn;clear hn hp K;refine qT true (by simp only [sw.1,rE,reduceIte,rL,rA,rM,rD,syw.1,qE,qP,qI,qU,qD,qC,o1,o2,o3,o4,qG,hl23,hl24,hl25,nh1,g1,g3,g5,i1,i2,sh9,nh9]) (fun _=> ?_) (fun hx=>by cases hx);refine qA fun K hn hp=> ?_;simp only [sw.1,rE,reduceIte,rL,rA,rM,rD,syw.1,qE,qP,qI,qU,qD,qC,o1,o2,o3,o4,qG,hl23,hl24,hl25,nh1,g1,g3,g5,i1,i2,sh9,nh9];apply hn;clear hn hp K;refine qJ (H4 _ (G4 _ (retG _ _ (by omega) (by simp [xZZ]) (by rw [hbad,c3];simp))))
     have c3':=c3;unfold inB at c3';simp only [sw.1,rE,reduceIte,rL,rA,rM,rD,syw.1,qE,qP,qI,qU,qD,qC,o1,o2,o3,o4,qG,hl23,hl24,hl25,nh1,g1,g3,g5,i1,i2,sh9,c3',xZX];apply hn;clear hn hp K;refine qT false (by simp only [sw.1,rE,reduceIte,rL,rA,rM,rD,syw.1,qE,qP,qI,qU,qD,qC,o1,o2,o3,o4,qG,hl23,hl24,hl25,nh1,g1,g3,g5,i1,i2,sh9,nh9]) (fun hx=>by cases hx) (fun _=> ?_);refine jY (H1 _ ?_);refine reg fun K hn hp=> ?_;simp only [sw.1,rE,reduceIte,rL,rA,rM,rD,syw.1,qE,qP,qI,qU,qD,qC,o1,o2,o3,o4,qG,hl23,hl24,hl25,nh1,g1,g3,g5,i1,i2,sh9,nh9,jE hi ha.lg];apply hn;clear hn hp K;refine ⟨⟨i+1,_,_,rfl,by omega,(by simp [xZZ,g1,g5]),(by simp [xZZ,g1,g5]),f9.up (by omega),gyes (by rw [hbad,decide_eq_false c1,c2,c3];rfl)⟩,by simpa [xZZ,muG] using (by omega:m.gs.length - (i+1)<m.gs.length - i)⟩
    ·refine qF false (by simp only [sw.1,rE,reduceIte,rL,rA,rM,rD,syw.1,qE,qP,qI,qU,qD,qC,o1,o2,o3,o4,qG,hl23,hl24,hl25,nh1,g1,g3,g5,hi]) (fun hx=>by cases hx) (fun _=> ?_);rw [xZJ (by omega)] at hallg;refine jA (G2 _ ?_);refine qL ?_;refine qA fun K hn hp=> ?_;simp only [sw.1,rE,reduceIte,rL,rA,rM,rD,syw.1,qE,qP,qI,qU,qD,qC,o1,o2,o3,o4,qG,hl23,hl24,hl25,sh1,nh1,g1,g3,g5];apply hn;clear hn hp K;refine qO fun KP P1 P2 P3 P4 P5=> ?_;refine jD (sok xt) (fun st=> ∃(i:Nat) (hk:Hp) (tm:T AV),st=⟨tm,192,hk,[]⟩/\i<=m.ks.length/\tm.get 1=some (.ptr h.n 0)/\tm.get 7=some (iv i)/\Fr h1.n h1 hk/\ ∀x∈m.ks.take i,m.badK x=false) (fun st=>m.ks.length - (match st.tm.get 7 with|some (.val (.int _ n))=>n.toNat|_=>0)) ?_ ?_
     ·rintro st ⟨i,hk,tm,rfl,hkP,g1,g7,fk,hallk⟩;have muP:=g7;have fkh:=fh1.trans fk (by omega);have q1:=(fk.at_ h.n (.inl (by omega))).trans sh1;refine qL ?_;refine qA fun K hn hp=> ?_;simp only [sw.1,rE,reduceIte,rL,rA,rM,rD,syw.1,qE,qP,qI,qU,qD,qC,o1,o2,o3,o4,qG,hl23,hl24,hl25,nh1,g1,g3,g5,g7,q1];apply hn;clear hn hp K;by_cases hi:i<m.ks.length
      ·refine qF true (by simp only [sw.1,rE,reduceIte,rL,rA,rM,rD,syw.1,qE,qP,qI,qU,qD,qC,o1,o2,o3,o4,qG,hl23,hl24,hl25,nh1,g1,g3,g5,g7,hi]) (fun _=> ?_) (fun hx=>by cases hx);have hag:=ha.fr fkh (xZY _);obtain ⟨x,hx⟩: ∃x,m.ks[i]? =some x:=⟨_,xZT hi⟩;have i1:=hag.ks.idx wX rfl uJ rfl (i:=i) (by simpa using hi) (k:= .i64);have i2:=hag.ks.loadA uJ rfl rfl (i:=i) (c:=Kn.k3 x) (by rw [xZN,hx];rfl);have kno:m.badK x=true->m.ok=false:=fun hb=>Mp.k_no (xZU hx) hb;have kyes:m.badK x=false-> ∀y∈m.ks.take (i+1),m.badK y=false:=fun hb=>by
        rw [xZE,hx];intro y hy;simp only [xZI,xZF,xZH] at hy;rcases hy with hy|rfl
        ·exact hallk y hy
        ·exact hb
       obtain ⟨xr,xc,xd⟩:=x;simp only [Kn.k3,List.map_cons,List.map_nil] at i2;refine qV ?_;refine qO fun KH H1 H2 H3 H4 H5=> ?_;refine qA fun K hn hp=> ?_;simp only [sw.1,rE,reduceIte,rL,rA,rM,rD,syw.1,qE,qP,qI,qU,qD,qC,o1,o2,o3,o4,qG,hl23,hl24,hl25,nh1,g1,g3,g5,g7,i1,i2,q1];apply hn;clear hn hp K;obtain ⟨h9,hh9⟩: ∃h9:Hp,h9=(hk.new (.cells [iv 0,iv 0,.val (.bool false)] 90)).set hk.n (.cells [iv xr,iv xc,.val (.bool xd)] 90):=⟨_,rfl⟩;have nh9:h9.n=hk.n+1:=by rw [hh9];rfl
       have sh9:h9.t.get hk.n=some (.cells [iv xr,iv xc,.val (.bool xd)] 90):=by rw [hh9,Hp.set_t,xZZ,if_pos rfl]
       have kh9: ∀k,k<hk.n->h9.t.get k=hk.t.get k:=fun k hk=>by rw [hh9];exact yM _ _ _ hk
       have fbh9:Fr hk.n hk h9:=by rw [hh9];exact yN _ _ _
       have fh9:=fbh9;rw [<-hh9];have f9:=fk.trans fbh9 fk.lo;have q9:=(f9.at_ h.n (.inl (by omega))).trans sh1;have retK: ∀(n:Nat) (tm:T AV),h9.n<=n->tm.get 2=some (.val (.bool false))->m.badK (xr,xc,xd)=true->uU (SE xt) Tryz.f9 (fun r h'=>r= .ret (.val (.bool m.ok))/\Fr h.n h h') .ret ⟨tm,192,h9.up n,[]⟩:=fun n tm hn g hm=>jB res39 ⟨by simp [g,kno hm],(fh1.trans f9 (by omega)).up hn⟩;refine qA fun K hn hp=> ?_;simp only [sw.1,rE,reduceIte,rL,rA,rM,rD,syw.1,qE,qP,qI,qU,qD,qC,o1,o2,o3,o4,qG,hl23,hl24,hl25,nh1,g1,g3,g5,g7,i1,i2,sh9,q9];refine qB (sok xt) (qBJ xt h9 m (ha1.fr f9 (xZY _)) xr xc fun n9 hn9=> ?_);cases c1:m.inside xr xc
       ·simp only [sw.1,rE,reduceIte,rL,rA,rM,rD,syw.1,qE,qP,qI,qU,qD,qC,o1,o2,o3,o4,qG,hl23,hl24,hl25,nh1,g1,g3,g5,g7,i1,i2,sh9,c1];apply hn;clear hn hp K;refine qT true (by simp only [sw.1,rE,reduceIte,rL,rA,rM,rD,syw.1,qE,qP,qI,qU,qD,qC,o1,o2,o3,o4,qG,hl23,hl24,hl25,nh1,g1,g3,g5,g7,i1,i2,sh9,nh9]) (fun _=> ?_) (fun hx=>by cases hx);refine qA fun K hn hp=> ?_;simp only [sw.1,rE,reduceIte,rL,rA,rM,rD,syw.1,qE,qP,qI,qU,qD,qC,o1,o2,o3,o4,qG,hl23,hl24,hl25,nh1,g1,g3,g5,g7,i1,i2,sh9,nh9];apply hn;clear hn hp K;refine qJ (H4 _ (P4 _ (retK _ _ (by omega) (by simp [xZZ]) (by simp only [Mp.badK,c1];rfl))))
       cases xd with
       |false=>
        simp only [sw.1,rE,reduceIte,rL,rA,rM,rD,syw.1,qE,qP,qI,qU,qD,qC,o1,o2,o3,o4,qG,hl23,hl24,hl25,nh1,g1,g3,g5,g7,i1,i2,sh9,c1,q9];refine qB (sok xt) (qBJ xt (h9.up n9) m ((ha1.fr f9 (xZY _)).up (by omega)) xr (IntKind.i64.wrap (xc+1)) fun n10 hn10=> ?_);simp only [xZS] at hn10;cases c2:m.inside xr (IntKind.i64.wrap (xc+1))
        ·simp only [sw.1,rE,reduceIte,rL,rA,rM,rD,syw.1,qE,qP,qI,qU,qD,qC,o1,o2,o3,o4,qG,hl23,hl24,hl25,nh1,g1,g3,g5,g7,i1,i2,sh9,c2,xZX];apply hn;clear hn hp K;refine qT true (by simp only [sw.1,rE,reduceIte,rL,rA,rM,rD,syw.1,qE,qP,qI,qU,qD,qC,o1,o2,o3,o4,qG,hl23,hl24,hl25,nh1,g1,g3,g5,g7,i1,i2,sh9,nh9]) (fun _=> ?_) (fun hx=>by cases hx);refine qA fun K hn hp=> ?_;simp only [sw.1,rE,reduceIte,rL,rA,rM,rD,syw.1,qE,qP,qI,qU,qD,qC,o1,o2,o3,o4,qG,hl23,hl24,hl25,nh1,g1,g3,g5,g7,i1,i2,sh9,nh9];apply hn;clear hn hp K;refine qJ (H4 _ (P4 _ (retK _ _ (by omega) (by simp [xZZ]) (by simp only [Mp.badK,beyR,beyC,c1,c2,xYZ,if_false];rfl))))
        ·simp only [sw.1,rE,reduceIte,rL,rA,rM,rD,syw.1,qE,qP,qI,qU,qD,qC,o1,o2,o3,o4,qG,hl23,hl24,hl25,nh1,g1,g3,g5,g7,i1,i2,sh9,c2,xZX];apply hn;clear hn hp K;refine qT false (by simp only [sw.1,rE,reduceIte,rL,rA,rM,rD,syw.1,qE,qP,qI,qU,qD,qC,o1,o2,o3,o4,qG,hl23,hl24,hl25,nh1,g1,g3,g5,g7,i1,i2,sh9,nh9]) (fun hx=>by cases hx) (fun _=> ?_);refine jY (H1 _ ?_);refine reg fun K hn hp=> ?_;simp only [sw.1,rE,reduceIte,rL,rA,rM,rD,syw.1,qE,qP,qI,qU,qD,qC,o1,o2,o3,o4,qG,hl23,hl24,hl25,nh1,g1,g3,g5,g7,i1,i2,sh9,nh9,jE hi ha.lk];apply hn;clear hn hp K;refine ⟨⟨i+1,_,_,rfl,by omega,(by simp [xZZ,g1,g7]),(by simp [xZZ,g1,g7]),f9.up (by omega),kyes (by simp only [Mp.badK,beyR,beyC,c1,c2,xYZ,if_false];rfl)⟩,by simpa [xZZ,muP] using (by omega:m.ks.length - (i+1)<m.ks.length - i)⟩
       |true=>
        simp only [sw.1,rE,reduceIte,rL,rA,rM,rD,syw.1,qE,qP,qI,qU,qD,qC,o1,o2,o3,o4,qG,hl23,hl24,hl25,nh1,g1,g3,g5,g7,i1,i2,sh9,c1,q9];refine qB (sok xt) (qBJ xt (h9.up n9) m ((ha1.fr f9 (xZY _)).up (by omega)) (IntKind.i64.wrap (xr+1)) xc fun n10 hn10=> ?_);simp only [xZS] at hn10;cases c2:m.inside (IntKind.i64.wrap (xr+1)) xc
        ·simp only [sw.1,rE,reduceIte,rL,rA,rM,rD,syw.1,qE,qP,qI,qU,qD,qC,o1,o2,o3,o4,qG,hl23,hl24,hl25,nh1,g1,g3,g5,g7,i1,i2,sh9,c2,xZX];apply hn;clear hn hp K;refine qT true (by simp only [sw.1,rE,reduceIte,rL,rA,rM,rD,syw.1,qE,qP,qI,qU,qD,qC,o1,o2,o3,o4,qG,hl23,hl24,hl25,nh1,g1,g3,g5,g7,i1,i2,sh9,nh9]) (fun _=> ?_) (fun hx=>by cases hx);refine qA fun K hn hp=> ?_;simp only [sw.1,rE,reduceIte,rL,rA,rM,rD,syw.1,qE,qP,qI,qU,qD,qC,o1,o2,o3,o4,qG,hl23,hl24,hl25,nh1,g1,g3,g5,g7,i1,i2,sh9,nh9];apply hn;clear hn hp K;refine qJ (H4 _ (P4 _ (retK _ _ (by omega) (by simp [xZZ]) (by simp only [Mp.badK,beyR,beyC,c1,c2,if_true];rfl))))
        ·simp only [sw.1,rE,reduceIte,rL,rA,rM,rD,syw.1,qE,qP,qI,qU,qD,qC,o1,o2,o3,o4,qG,hl23,hl24,hl25,nh1,g1,g3,g5,g7,i1,i2,sh9,c2,xZX];apply hn;clear hn hp K;refine qT false (by simp only [sw.1,rE,reduceIte,rL,rA,rM,rD,syw.1,qE,qP,qI,qU,qD,qC,o1,o2,o3,o4,qG,hl23,hl24,hl25,nh1,g1,g3,g5,g7,i1,i2,sh9,nh9]) (fun hx=>by cases hx) (fun _=> ?_);refine jY (H1 _ ?_);refine reg fun K hn hp=> ?_;simp only [sw.1,rE,reduceIte,rL,rA,rM,rD,syw.1,qE,qP,qI,qU,qD,qC,o1,o2,o3,o4,qG,hl23,hl24,hl25,nh1,g1,g3,g5,g7,i1,i2,sh9,nh9,jE hi ha.lk];apply hn;clear hn hp K;refine ⟨⟨i+1,_,_,rfl,by omega,(by simp [xZZ,g1,g7]),(by simp [xZZ,g1,g7]),f9.up (by omega),kyes (by simp only [Mp.badK,beyR,beyC,c1,c2,if_true];rfl)⟩,by simpa [xZZ,muP] using (by omega:m.ks.length - (i+1)<m.ks.length - i)⟩
      ·refine qF false (by simp only [sw.1,rE,reduceIte,rL,rA,rM,rD,syw.1,qE,qP,qI,qU,qD,qC,o1,o2,o3,o4,qG,hl23,hl24,hl25,nh1,g1,g3,g5,g7,hi]) (fun hx=>by cases hx) (fun _=> ?_);rw [xZJ (by omega)] at hallk;refine jA (P2 _ ?_);refine qL ?_;refine qA fun K hn hp=> ?_;simp only [sw.1,rE,reduceIte,rL,rA,rM,rD,syw.1,qE,qP,qI,qU,qD,qC,o1,o2,o3,o4,qG,hl23,hl24,hl25,sh1,nh1,g1,g3,g5,g7];apply hn;clear hn hp K;refine qO fun KQ Q1 Q2 Q3 Q4 Q5=> ?_;refine jD (sok xt) (fun st=> ∃(i:Nat) (hz:Hp) (tm:T AV),st=⟨tm,192,hz,[]⟩/\i<=m.ps.length/\tm.get 1=some (.ptr h.n 0)/\tm.get 9=some (iv i)/\Fr h1.n h1 hz/\ ∀x∈m.ps.take i,m.is x.1 x.2 2=true) (fun st=>m.ps.length - (match st.tm.get 9 with|some (.val (.int _ n))=>n.toNat|_=>0)) ?_ ?_
       ·rintro st ⟨i,hz,tm,rfl,hkQ,g1,g9,fz,hallp⟩;have muQ:=g9;have fzh:=fh1.trans fz (by omega);have q1:=(fz.at_ h.n (.inl (by omega))).trans sh1;refine qL ?_;refine qA fun K hn hp=> ?_;simp only [sw.1,rE,reduceIte,rL,rA,rM,rD,syw.1,qE,qP,qI,qU,qD,qC,o1,o2,o3,o4,qG,hl23,hl24,hl25,nh1,g1,g3,g5,g7,g9,q1];apply hn;clear hn hp K;by_cases hi:i<m.ps.length
        ·refine qF true (by simp only [sw.1,rE,reduceIte,rL,rA,rM,rD,syw.1,qE,qP,qI,qU,qD,qC,o1,o2,o3,o4,qG,hl23,hl24,hl25,nh1,g1,g3,g5,g7,g9,hi]) (fun _=> ?_) (fun hx=>by cases hx);have hag:=ha.fr fzh (xZY _);obtain ⟨x,hx⟩: ∃x,m.ps[i]? =some x:=⟨_,xZT hi⟩;have hne:m.ps.map p2≠[]:=fun hq=>by
          have:m.ps.length=0:=by simpa using congrArg List.length hq
          omega
         have i1:=hag.ps.idx wW rfl kW rfl (i:=i) (by simpa using hi) (k:= .i64);have i2:=hag.ps.fa hne kW rfl (f:=0) (o:=0) (s:=0) (ft:=3) rfl (i*2);have i3:=hag.ps.fa hne kW rfl (f:=1) (o:=1) (s:=0) (ft:=3) rfl (i*2);have i4:=hag.ps.load tg3 rfl (i:=i) (j:=0) (c:=p2 x) (u:= .int .i64 x.1) (by rw [xZN,hx];rfl) rfl;have i5:=hag.ps.load tg3 rfl (i:=i) (j:=1) (c:=p2 x) (u:= .int .i64 x.2) (by rw [xZN,hx];rfl) rfl;simp only [Nat.add_zero] at i2 i4;have hbad:=m.is_rc hrect x.1 x.2;refine qV ?_;refine qO fun KH H1 H2 H3 H4 H5=> ?_;refine kX (sok xt) 13 (by kernel_rfl) fun K hn hp=> ?_;simp only [sw.1,rE,reduceIte,rL,rA,rM,rD,syw.1,qE,qP,qI,qU,qD,qC,o1,o2,o3,o4,qG,hl23,hl24,hl25,nh1,g1,g3,g5,g7,g9,i1,i2,i3,i4,i5,q1];refine qB (sok xt) (rc_c xt hz m (ha1.fr fz (xZY _)) x.1 x.2 fun n9 hn9=> ?_);by_cases c1:m.rc x.1 x.2=2
         ·simp only [sw.1,rE,reduceIte,rL,rA,rM,rD,syw.1,qE,qP,qI,qU,qD,qC,o1,o2,o3,o4,qG,hl23,hl24,hl25,nh1,g1,g3,g5,g7,g9,i1,i2,i3,i4,i5,decide_eq_true c1];apply hn;clear hn hp K;refine qT false (by simp only [sw.1,rE,reduceIte,rL,rA,rM,rD,syw.1,qE,qP,qI,qU,qD,qC,o1,o2,o3,o4,qG,hl23,hl24,hl25,nh1,g1,g3,g5,g7,g9,i1,i2,i3,i4,i5]) (fun hx=>by cases hx) (fun _=> ?_);refine jY (H1 _ ?_);refine reg fun K hn hp=> ?_;simp only [sw.1,rE,reduceIte,rL,rA,rM,rD,syw.1,qE,qP,qI,qU,qD,qC,o1,o2,o3,o4,qG,hl23,hl24,hl25,nh1,g1,g3,g5,g7,g9,i1,i2,i3,i4,i5,jE hi ha.lp];apply hn;clear hn hp K;refine ⟨⟨i+1,_,_,rfl,by omega,(by simp [xZZ,g1,g9]),(by simp [xZZ,g1,g9]),fz.up (by omega),?_⟩,by simpa [xZZ,muQ] using (by omega:m.ps.length - (i+1)<m.ps.length - i)⟩;rw [xZE,hx];intro y hy;simp only [xZI,xZF,xZH] at hy;rcases hy with hy|rfl
          ·exact hallp y hy
          ·rw [hbad,decide_eq_true c1]
         ·simp only [sw.1,rE,reduceIte,rL,rA,rM,rD,syw.1,qE,qP,qI,qU,qD,qC,o1,o2,o3,o4,qG,hl23,hl24,hl25,nh1,g1,g3,g5,g7,g9,i1,i2,i3,i4,i5,decide_eq_false c1];apply hn;clear hn hp K;refine qT true (by simp only [sw.1,rE,reduceIte,rL,rA,rM,rD,syw.1,qE,qP,qI,qU,qD,qC,o1,o2,o3,o4,qG,hl23,hl24,hl25,nh1,g1,g3,g5,g7,g9,i1,i2,i3,i4,i5]) (fun _=> ?_) (fun hx=>by cases hx);refine qA fun K hn hp=> ?_;simp only [sw.1,rE,reduceIte,rL,rA,rM,rD,syw.1,qE,qP,qI,qU,qD,qC,o1,o2,o3,o4,qG,hl23,hl24,hl25,nh1,g1,g3,g5,g7,g9,i1,i2,i3,i4,i5];apply hn;clear hn hp K;refine qJ (H4 _ (Q4 _ (jB res39 ⟨?_,fzh.up (by omega)⟩)));have:m.ok=false:=Mp.p_no (xZU hx) (by rw [hbad,decide_eq_false c1]);simp [xZZ,this]
        ·refine qF false (by simp only [sw.1,rE,reduceIte,rL,rA,rM,rD,syw.1,qE,qP,qI,qU,qD,qC,o1,o2,o3,o4,qG,hl23,hl24,hl25,nh1,g1,g3,g5,g7,g9,hi]) (fun hx=>by cases hx) (fun _=> ?_);rw [xZJ (by omega)] at hallp;refine jA (Q2 _ ?_);refine qA fun K hn hp=> ?_;simp only [sw.1,rE,reduceIte,rL,rA,rM,rD,syw.1,qE,qP,qI,qU,qD,qC,o1,o2,o3,o4,qG,hl23,hl24,hl25,sh1,nh1,g1,g3,g5,g7,g9];apply hn;clear hn hp K;refine qJ (jB res39 ⟨?_,fzh⟩);have e1:m.gs.any m.badG=false:=by rw [xZM];intro x hx;rw [hallg x hx];exact xZO
         have e2:m.ks.any m.badK=false:=by rw [xZM];intro x hx;rw [hallk x hx];exact xZO
         have e3:m.ps.any (fun p=> !m.is p.1 p.2 2)=false:=by rw [xZM];intro x hx;rw [hallp x hx];exact xZO
         have e4:inB m.R 1 6=true:=b1;have:m.ok=true:=by
          simp only [Mp.ok,Mp.restOk,e4,hall,b3,b4,b5',b6',b7',e1,e2,e3];rfl
         simp [xZZ,this]
       ·exact ⟨0,_,_,rfl,(by omega),(by simp [xZZ,g1,g3,g5,g7]),(by simp [xZZ,g1,g3,g5,g7]),fk,fun x hx=>by simp at hx⟩
     ·exact ⟨0,_,_,rfl,(by omega),(by simp [xZZ,g1,g3,g5]),(by simp [xZZ,g1,g3,g5]),fg,fun x hx=>by simp at hx⟩
   ·exact ⟨0,h1.up n7,_,rfl,(by omega),(by simp [xZZ,g1,g3]),(by simp [xZZ,g1,g3]),(xZB (xZY _)).up (by omega),fun x hx=>by simp at hx⟩
 ·exact ⟨0,n6,_,rfl,(by omega),(by simp [xZZ]),(by simp [xZZ]),by omega,fun j hj=>absurd hj (Nat.not_lt_zero _)⟩
end Go.Proofs.Kn
