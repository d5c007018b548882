/- Parts. -/
import Derived.Test.YthimlgffanlomaaGreatDoorQC
import Derived.Test.YthimlgffanlomaaGreatDoorQB
import Derived.Test.YthimlgffanlomaaGreatDoorQI
import Derived.Test.YthimlgffanlomaaGreatDoorQK
set_option linter.all false
open Nat renaming reduceEqDiff → rE, reduceLeDiff → rD, reduceAdd → rA, reduceMul → rM, reduceLT → rL
open Go.Ev.T renaming get_put → xZZ
open Go.Ev.Hp renaming set_n → xZY, set_t → xZX
open And renaming intro → xZW
open Bool renaming and_eq_true → xZV
open List renaming mem_of_getElem? → xZU
open Nat renaming le_refl → xZT
noncomputable section
namespace Go.Ev
open Classical in
def qAD (r:Option Nat) (c:Code) (st:St) (p:Ex×St):zF:=fun r' c' st'=>if r'=r/\c'=c/\st'=st then some p else none
def orC (f g:zF):zF:=fun r c st=>match f r c st with
 |some p=>some p
 |none=>g r c st
def rcv:Ex->Option AV
 | .normal=>some (.val .nilIface)
 | .ret=>some (.val .nilIface)
 | .panic v=>some v
 |_=>none
section
variable {E:Env}
theorem qEl {r:Option Nat} {c:Code} {st:St} {x:Ex} {st':St} (h:SemC E r c st x st'):zN E (qAD r c st (x,st')):=by
 intro r1 c1 s1 x1 s1' he;unfold qAD at he;split at he
 ·rename_i hq;obtain ⟨rfl,rfl,rfl⟩:=hq;cases he;exact h
 ·cases he
theorem orC_ok {f g:zF} (hf:zN E f) (hg:zN E g):zN E (orC f g):=by
 intro r c st x st' he;unfold orC at he;split at he
 ·rename_i p hp;cases he;exact hf _ _ _ _ _ hp
 ·exact hg _ _ _ _ _ he
theorem qBj {r:Option Nat} {c:Code} {st:St} {p:Ex×St}:qAD r c st p r c st=some p:=by simp [qAD]
theorem oneC_ne {r r':Option Nat} {c c':Code} {st st':St} {p:Ex×St} (h:c'≠c):qAD r c st p r' c' st'=none:=by simp [qAD,h]
theorem FnA.dfr (ok:SyOk E) {f:FuncId} {D:Dfr} (hD:IsDfr E.P f D) (hft:E.ft.get f=some D.fn) (hne:D.c≠D.a) {args:List AV} (nt ng:Nat) (hnt:args.length+(D.fn.ntmps - args.length)=nt) (hng:D.caps.toList.length+(D.fng.ntmps - D.caps.toList.length)=ng) (hd:D.d<nt) (hrd:D.rd<ng) {h:Hp} {K:KP}
  (hw:wpc E none D.a ⟨argsTo args 0 .e,nt,h,[]⟩ (fun x sA=>x= .normal/\sA.mks=[]/\sA.nt=nt/\wpc E none D.c ⟨sA.tm.put (some (.fn (.func D.g) [] (D.caps.toList.map (qH sA.tm)))) D.d,nt,sA.h,[]⟩ (fun x sC=>sC.mks=[]/\ ∃v,rcv x=some v/\
   wpc E none D.rest ⟨(argsTo (D.caps.toList.map (qH sA.tm)) 0 .e).put (some v) D.rd,ng,sC.h,[]⟩ (fun y sE=>(y= .normal\/y= .ret)/\sE.mks=[]/\ ∃vs,vO E sC.tm sE.h D.fn.results.toList=some vs/\K (.ret (zJ vs)) sE.h)))):FnA E f args h K:=by
 obtain ⟨x,sA,hA,rfl,mA,nA,hw⟩:=wpc.ok ok.tb _ _ _ hw;obtain ⟨x,sC,hC,mC,v,hv,hw⟩:=wpc.ok ok.tb _ _ _ hw;obtain ⟨y,sE,hE,hy,mE,vs,hr,hK⟩:=wpc.ok ok.tb _ _ _ hw;refine ⟨.ret (zJ vs),sE.h,?_,hK⟩;obtain ⟨tmA,ntA,hpA,mkA⟩:=sA;simp only at mA nA hC;subst mA nA;have he:evDfr E (orC (qAD none D.a ⟨argsTo args 0 .e,ntA,h,[]⟩ (.normal,⟨tmA,ntA,hpA,[]⟩)) (qAD none D.c ⟨tmA.put (some (.fn (.func D.g) [] (D.caps.toList.map (qH tmA)))) D.d,ntA,hpA,[]⟩ (x,sC))) (qAD none D.rest ⟨(argsTo (D.caps.toList.map (qH tmA)) 0 .e).put (some v) D.rd,ng,sC.h,[]⟩ (y,sE)) D args h=some (.ret (zJ vs),sE.h):=by
  unfold evDfr;rw [hnt];have e1:orC (qAD none D.a ⟨argsTo args 0 .e,ntA,h,[]⟩ (.normal,⟨tmA,ntA,hpA,[]⟩)) (qAD none D.c ⟨tmA.put (some (.fn (.func D.g) [] (D.caps.toList.map (qH tmA)))) D.d,ntA,hpA,[]⟩ (x,sC)) none D.a ⟨argsTo args 0 .e,ntA,h,[]⟩=some (.normal,⟨tmA,ntA,hpA,[]⟩):=by
   unfold orC;rw [qBj]
  have e2:orC (qAD none D.a ⟨argsTo args 0 .e,ntA,h,[]⟩ (.normal,⟨tmA,ntA,hpA,[]⟩)) (qAD none D.c ⟨tmA.put (some (.fn (.func D.g) [] (D.caps.toList.map (qH tmA)))) D.d,ntA,hpA,[]⟩ (x,sC)) none D.c ⟨tmA.put (some (.fn (.func D.g) [] (D.caps.toList.map (qH tmA)))) D.d,ntA,hpA,[]⟩=some (x,sC):=by
   unfold orC;rw [oneC_ne hne,qBj]
  rw [e1];simp only;have e3:Nat.blt D.d ntA=true:=by rw [Nat.blt_eq];exact hd
  rw [e3];simp only [cond_true];rw [e2];have hlen:(D.caps.toList.map (qH tmA)).length+(D.fng.ntmps - (D.caps.toList.map (qH tmA)).length)=ng:=by rw [List.length_map];exact hng
  have e4:Nat.blt D.rd ng=true:=by rw [Nat.blt_eq];exact hrd
  have hend:gN E (qAD none D.rest ⟨(argsTo (D.caps.toList.map (qH tmA)) 0 .e).put (some v) D.rd,ng,sC.h,[]⟩ (y,sE)) D sC v (D.caps.toList.map (qH tmA))=some (.ret (zJ vs),sE.h):=by
   unfold gN;rw [hlen,e4];simp only [cond_true];rw [qBj];simp only [mE];rcases hy with rfl|rfl<;>simp only [hr]
  unfold dfrMid;simp only [mC];cases x<;>simp only [rcv,Option.some.injEq,reduceCtorEq] at hv<;>subst hv<;>exact hend
 obtain ⟨n1,s1⟩:=dfr_ok ok.tb (orC_ok (qEl hA) (qEl hC)) (qEl hE) hD he;exact ⟨n1,⟨D.fn,hft,by rw [hD.fb];rfl⟩,s1⟩
end
end Go.Ev
end
namespace Go.Ev
theorem FnA.dfr2 {E:Env} (ok:SyOk E) {f:FuncId} {D:Dfr} (hD:IsDfr E.P f D) {fn fng:Func} (hft:E.ft.get f=some fn) (hfn:D.fn=fn) (hfng:D.fng=fng) {a c rest:Code} {id idr:Nat} {o1 o2 orr:Oper} (hb:fn.body=some (.seq a (.seq (.region id #[o1,o2] false) c))) (hbg:fng.body=some (.seq (.region idr #[orr] false) rest)) (hne:c≠a) {args:List AV} (nt ng d rd g:Nat) (caps:List Operand) (hdd:D.d=d) (hrr:D.rd=rd) (hgg:D.g=g) (hcc:D.caps.toList=caps) (hnt:args.length+(fn.ntmps - args.length)=nt) (hng:caps.length+(fng.ntmps - caps.length)=ng) (hd:d<nt) (hrd:rd<ng) {h:Hp} {K:KP}
  (hw:wpc E none a ⟨argsTo args 0 .e,nt,h,[]⟩ (fun x sA=>x= .normal/\sA.mks=[]/\sA.nt=nt/\wpc E none c ⟨sA.tm.put (some (.fn (.func g) [] (caps.map (qH sA.tm)))) d,nt,sA.h,[]⟩ (fun x sC=>sC.mks=[]/\ ∃v,rcv x=some v/\
   wpc E none rest ⟨(argsTo (caps.map (qH sA.tm)) 0 .e).put (some v) rd,ng,sC.h,[]⟩ (fun y sE=>(y= .normal\/y= .ret)/\sE.mks=[]/\ ∃vs,vO E sC.tm sE.h fn.results.toList=some vs/\K (.ret (zJ vs)) sE.h)))):FnA E f args h K:=by
 have h1:=hD.fb;have h2:=hD.gb;rw [hfn,hb] at h1;rw [hfng,hbg] at h2;simp only [Option.some.injEq,Code.seq.injEq,Code.region.injEq] at h1 h2;obtain ⟨q1,_,q2⟩:=h1;obtain ⟨_,q3⟩:=h2;subst hfn hfng hdd hrr hgg hcc;exact FnA.dfr ok hD hft (by rw [<-q1,<-q2];exact hne) nt ng hnt hng hd hrd (by rw [<-q1,<-q2,<-q3];exact hw)
end Go.Ev
namespace Go.Proofs.Kn
open Go Go.Ev
set_option maxRecDepth 100000
theorem ft135 (xt:Xt):(SE xt).ft.get 84=some Tryz.f84:=by kernel_rfl
theorem ty_nil:pQ Tryz.prog tb .eql 20 (.tmp 5) (.const .nilIface) (.val .nilIface) (.val .nilIface)=some (.val (.bool true)):=by kernel_rfl
theorem ty_ag (a b:Int):pQ Tryz.prog tb .eql 20 (.tmp 5) (.const .nilIface) (.ifc 200 (.agg [iv a,iv b])) (.val .nilIface)=some (.val (.bool false)):=by kernel_rfl
theorem as_ag (v:AV):yD tb (.ifc 200 v) 200 true=some (.tup [v,.val (.bool true)]):=by kernel_rfl
theorem qDh {E:Env} {tm:T AV} {h:Hp} {K:OR->Prop} {dst:Option Tmp} {ty:TypeId} {ps:String} {af:Array Edge} {g:Option (Nat×Bool)} {x:Operand} {t t':TypeId} {ok:Bool}:WOp E ⟨dst,.typeAssert x t' t ok,ty,ps,af,g⟩ tm h K=bX h (yD E.tb (qH tm x) t ok) K:=by simp only [WOp,zA,aop,vP]
theorem resOf_c {E:Env} {tm:T AV} {h:Hp} {t:Tmp} {ty:TypeId} {v:AV} (h2:qO E.tb E.xt h ty ((tm.get t).getD default)=some v):vO E tm h [.cell t ty]=some [v]:=by
 have e1:(match tm.get t with|some a=>a|none=>default)=(tm.get t).getD default:=by cases tm.get t<;>rfl
 show (match qO E.tb E.xt h ty (match tm.get t with|some a=>a|none=>default) with|none=>none|some v=>match vO E tm h [] with|none=>none|some l=>some (v::l))=_;rw [e1,h2];rfl
theorem res135:Tryz.f84.results.toList=[.cell 2 38]:=by kernel_rfl
theorem aext0 (a b:AV):vQ (.tup [a,b]) 0=some a:=rfl
theorem aext1 (a b:AV):vQ (.tup [a,b]) 1=some b:=rfl
noncomputable def sv:=PLift.up (xZW syw.1 (xZW @al27 (xZW @al48 (xZW @al225 (xZW @al50 (xZW @aext0 @aext1))))))
theorem try_c (xt:Xt) (h:Hp) (fv:AV) {KK:KP} (hdo:CallA (SE xt) fv [] (h.new (.cells [iv 0] 38)) (fun res h'=>h'.t.get h.n=some (.cells [iv 0] 38)/\h.n<h'.n/\((∃x,res= .ret x)\/ ∃a b,res= .pan (.ifc 200 (.agg [iv a,iv b])))/\KK res h')):
  FnA (SE xt) 84 [fv] h (fun r h''=> ∃res h',KK res h'/\(∀k,k≠h.n->k<h'.n\/h''.n<=k->h''.t.get k=h'.t.get k)/\h'.n<=h''.n/\(((∃x,res= .ret x)/\r= .ret (iv 0))\/(∃x,res= .pan (.ifc 200 x))/\r= .ret (iv 7))):=by
 refine FnA.dfr2 (sok xt) (D:=D135) (fng:=Tryz.f133) d135_is (ft135 xt) (by kernel_rfl) (by kernel_rfl) rfl rfl (fun h=>by cases h) 6 14 3 5 133 [.tmp 2] (by kernel_rfl) (by kernel_rfl) (by kernel_rfl) (by kernel_rfl) rfl rfl (by omega) (by omega) ?_;refine reg fun K hn hp=> ?_;simp only [sw.1,rL];refine hn _ _ ⟨rfl,rfl,rfl,?_⟩;refine qA fun K hn hp=> ?_;simp only [sy.1,rE,reduceIte,rL,List.map];refine hdo.mono fun res h' hres=> ?_;obtain ⟨q1,q2,q3,q4⟩:=hres;rcases q3 with ⟨x,rfl⟩|⟨a,b,rfl⟩
 ·simp only [sy.1,rL];apply hn;refine qA fun K hn hp=> ?_;simp only [sw.1,rE,reduceIte,q1];apply hn;refine qD ⟨rfl,_,rfl,?_⟩;simp only [sw.1,rE,reduceIte,List.map];refine qY fun K k1 k2 k3 k4 k5=> ?_;refine qA fun K hn hp=> ?_;simp only [sy.1,rE,reduceIte,rL,ty_nil];apply hn;refine wcT (by simp only [sy.1,rE,reduceIte]) ?_;refine reg fun K hn hp=> ?_;simp only [sy.1,rE,reduceIte,rL];apply hn;refine k1 _ ⟨.inl rfl,rfl,[iv 0],?_,_,h',q4,fun k hk _=> ?_,xZT _,.inl ⟨⟨_,rfl⟩,rfl⟩⟩
  ·rw [res135];refine resOf_c ?_;simp only [sy.1,rE,reduceIte]
  ·rw [xZX,xZZ,if_neg hk]
 ·simp only [sy.1];refine hp _ _ _ ⟨rfl,_,rfl,?_⟩;simp only [sw.1,rE,reduceIte,List.map];refine qY fun K k1 k2 k3 k4 k5=> ?_;refine qA fun K hn hp=> ?_;simp only [sy.1,rE,reduceIte,rL,ty_ag];apply hn;refine wcF (by simp only [sy.1,rE,reduceIte]) ?_;refine qA fun K hn hp=> ?_;simp only [sy.1,rE,reduceIte,rL,as_ag,qDh,aext0,aext1];apply hn;refine wcT (by simp only [sy.1,rE,reduceIte]) ?_;refine qA fun K hn hp=> ?_;simp only [sw.1,rE,reduceIte,rL,rA,al225];apply hn;obtain ⟨h2,hh2,nh2,_,kh2,fbh2⟩:=nwS h' (.cells [iv 0,iv 0] 200) (.cells [iv a,iv b] 200);rw [<-hh2];have q5:=(kh2 h.n q2).trans q1;refine reg fun K hn hp=> ?_;simp only [sw.1,rE,reduceIte,q5];apply hn;refine k1 _ ⟨.inl rfl,rfl,[iv 7],?_,_,h',q4,fun k hk hk2=> ?_,?_,.inr ⟨⟨_,rfl⟩,rfl⟩⟩
  ·rw [res135];refine resOf_c ?_;simp only [sy.1,rE,reduceIte,q5]
  ·simp only [xZY] at hk2;rw [xZX,xZZ,if_neg hk];exact fbh2.at_ k hk2
  ·simp only [xZY];omega
end Go.Proofs.Kn
namespace Go.Proofs.Kn
open Go Go.Ev
set_option maxRecDepth 100000
abbrev Mp.W (m:Mp):Nat:=(m.cells.headD []).length
theorem Mp.ok_is {m:Mp} (h:m.ok=true):m.Is m.cells.length m.W:=by
 simp only [Mp.ok,Mp.restOk,xZV,decide_eq_true_eq,inB,Mp.R,Bool.not_eq_true',List.any_eq_false] at h;obtain ⟨⟨r1,r2⟩,hrow,⟨t1,t2⟩,_,g8,k8,p12,hg,hk,hp⟩:=h;have hall: ∀l∈m.cells,l.length=m.W/\1<=l.length/\l.length<=8:=fun l hl=>by
  have:=List.all_eq_true.1 hrow l hl;simp only [Mp.rowOk,xZV,decide_eq_true_eq,inB,Mp.C] at this;obtain ⟨q1,⟨q2,q3⟩,_⟩:=this;have q1:(l.length:Int)=(m.cells.headD []).length:=by simpa using q1
  exact ⟨by show l.length=(m.cells.headD []).length;omega,by omega,by omega⟩
 have hrow': ∀r,r<m.cells.length->(m.cells.getD r []).length=m.W:=fun r hr=>(hall _ (xZU (getD_some [] hr))).1;have r1:(1:Int)<=m.cells.length:=of_decide_eq_true r1;have r2:(m.cells.length:Int)<=6:=of_decide_eq_true r2;have h0:0<m.cells.length:=by omega
 have hw0:=hall _ (xZU (getD_some [] h0));refine ⟨rfl,hrow',h0,by omega,by omega,by omega,fun x hx=> ?_,⟨t1,t2⟩⟩;have:=hg x hx;simp only [Mp.badG,Bool.not_eq_true,Bool.or_eq_false_iff,Bool.not_eq_false',Mp.inside,inB,xZV,decide_eq_true_eq,Mp.R,Mp.C] at this;obtain ⟨⟨⟨a1,a2⟩,a3,a4⟩,_,⟨a5,a6⟩,a7,a8⟩:=this;have a2:x.1<=(m.cells.length:Int) - 1:=of_decide_eq_true a2;have a4:x.2.1<=(m.W:Int) - 1:=of_decide_eq_true a4;have hr:x.1.toNat<m.cells.length:=by omega
 have hx2:=hrow' _ hr;exact ⟨⟨a1,hr⟩,⟨a3,by omega⟩,⟨a5,a6⟩,a7,a8⟩
theorem ft142 (xt:Xt):(SE xt).ft.get 91=some Tryz.f91:=by kernel_rfl
theorem res142:Tryz.f91.results.toList=[]:=by kernel_rfl
def BcR (h:Hp) (w:Wk) (R C bb:Nat) (res:CR) (h':Hp):Prop:=(∀k,k≠bb->k<h.n\/h'.n<=k->h'.t.get k=h.t.get k)/\h.n<=h'.n/\match Th.boundP w.m.T w.m.J (C - 1) w.m.F0 (w.m.gs.map gg) R with
 |some G=> ∃v M,(∃x,res= .ret x)/\h'.t.get bb=some (.cells (w.bc v) 85)/\SG h' (h.n+4) M v R C G/\h.n+4<=M/\M<=h'.n
 |none=>h'.t.get bb=h.t.get bb/\ ∃a b:Int,res= .pan (.ifc 200 (.agg [iv a,iv b]))
theorem bclo_c (xt:Xt) (h:Hp) (w:Wk) (ha:w.At xt h) (R C:Nat) (hm:w.m.Is R C) (bw bb:Nat) (hw:bw<h.n) (hb:bb<h.n) (q1:h.t.get bw=some (.cells w.cs 30)) (z:List AV) (hz:z.length=9) (q2:h.t.get bb=some (.cells z 85)):FnA (SE xt) 91 [.ptr bw 0,.ptr bb 0] h (BcR h w R C bb):=by
 refine FnA.walk (sok xt) (ft142 xt) rfl 4 rfl ?_;obtain ⟨o1,o2,o3,o4,o5⟩:=ha.ones;refine reg fun K hn hp=> ?_;simp only [sw.1,rE,reduceIte,rL,rA,q1];refine cAS (FnA.mono (bound_c xt h w ha R C hm) fun res h' hres=> ?_);obtain ⟨fr,hres⟩:=hres;have q3:=(fr.at_ bb (.inl hb)).trans q2;cases hq:Th.boundP w.m.T w.m.J (C - 1) w.m.F0 (w.m.gs.map gg) R with
 |none=>
  rw [hq] at hres;obtain ⟨a,b,rfl⟩:=hres;simp only [sy.1];refine hp _ _ _ ⟨h',rfl,fun k _ hk=>fr.at_ k hk,fr.le,?_⟩;rw [hq];exact ⟨fr.at_ bb (.inl hb),a,b,rfl⟩
 |some G=>
  rw [hq] at hres;obtain ⟨v,M,rfl,sg,m1,m2⟩:=hres;have onev:=sg.one;have px:jG 9 h' bb 0 (.agg (w.bc v)) (some (.cells z 85))=some (h'.set bb (.cells (w.bc v) 85)):=by
   rw [kF,if_pos ⟨rfl,by omega,by simp [yC,o1,o2,o3,o4,o5,onev,qAC]⟩];have:z.drop (0+9)=[]:=List.drop_eq_nil_of_le (by omega);rw [this];rfl
  simp only [sy.1,rE,reduceIte,rL,q3,px];refine hn _ _ ⟨_,[],rfl,by rw [res142];rfl,fun k hk hk2=> ?_,fr.le,?_⟩
  ·rw [xZX,xZZ,if_neg hk];exact fr.at_ k hk2
  ·rw [hq];refine ⟨v,M,⟨_,rfl⟩,by rw [xZX,xZZ,if_pos rfl],sg.keep fun k hk _=> ?_,m1,m2⟩;rw [xZX,xZZ,if_neg (by omega)]
theorem ft72 (xt:Xt):(SE xt).ft.get 34=some Tryz.f34:=by kernel_rfl
theorem res72:Tryz.f34.results.toList=[.cell 2 85,.tmp 3]:=by kernel_rfl
abbrev p9:List AV:=[.val (.slice none 0 0),iv 0,iv 0,.val (.slice none 0 0),.val (.slice none 0 0),.val (.slice none 0 0),.val (.slice none 0 0),iv 0,.val (.slice none 0 0)]
def BsR (h:Hp) (w:Wk) (R C:Nat) (res:CR) (h':Hp):Prop:=Fr h.n h h'/\match Th.boundP w.m.T w.m.J (C - 1) w.m.F0 (w.m.gs.map gg) R with
 |some G=> ∃v M,res= .ret (.tup [.agg (w.bc v),iv 0])/\SG h' h.n M v R C G/\h.n<=M/\M<=h'.n
 |none=>res= .ret (.tup [.agg p9,iv 7])
theorem SG.lower {h:Hp} {N N' M R C:Nat} {v:AV} {F:Nat->Nat->Int×Int} (s:SG h N M v R C F) (hN:N'<=N):SG h N' M v R C F:=by
 obtain ⟨bs,h1,h2,h3⟩:=s;refine ⟨bs,fun r hr=>⟨Nat.le_trans hN (h1 r hr).1,(h1 r hr).2⟩,h2,?_⟩;rcases h3 with h3|⟨B,q1,q2,q3,q4,q5⟩
 ·exact .inl h3
 ·exact .inr ⟨B,q1,Nat.le_trans hN q2,q3,q4,q5⟩
theorem bd121z:vN tb 85 []=some (.agg p9):=by kernel_rfl
theorem d70:decide ((7:Int)=0)=false:=by decide
theorem qFX (xt:Xt) (h:Hp) (w:Wk) (ha:w.At xt h) (R C:Nat) (hm:w.m.Is R C):FnA (SE xt) 34 [w.av] h (BsR h w R C):=by
 refine FnA.walk (sok xt) (ft72 xt) rfl 13 rfl ?_;obtain ⟨o1,o2,o3,o4,o5⟩:=ha.ones;refine qA fun K hn hp=> ?_;simp only [sw.1,reduceIte,rL];apply hn;obtain ⟨h1,hh1,nh1,sh1,_,fbh1⟩:=nwE h (.cells w.cs 30);rw [<-hh1];have fh1:=fbh1;obtain ⟨h2,hh2,nh2,sh2,kh2,fbh2⟩:=nwE h1 (.cells p9 85);rw [<-hh2];have fh2:Fr h.n h h2:=fh1.trans fbh2 (by omega);simp only [nh1,Nat.add_assoc,rA] at nh2 sh2 kh2;refine qA fun K hn hp=> ?_;simp only [sy.1,rL,nh2];apply hn;obtain ⟨h3,hh3,nh3,sh3,kh3,fbh3⟩:=nwE h2 (.cells p9 85);rw [<-hh3];have fh3:Fr h.n h h3:=fh2.trans fbh3 (by omega);simp only [nh2,Nat.add_assoc,rA] at nh3 sh3 kh3;have s1:=(kh3 h.n (by omega)).trans ((kh2 h.n (by omega)).trans sh1);have s2:=(kh3 (h.n+1) (by omega)).trans sh2;refine qB fun K hn hp=> ?_;simp only [sy.1,rE,reduceIte,rL];obtain ⟨h4,hh4⟩: ∃h4:Hp,h4=h3.new (.cells [iv 0] 38):=⟨_,rfl⟩;have n4:h4.n=h.n+4:=by rw [hh4,Hp.new_n,nh3]
 have k4: ∀k,k<h.n+3->h4.t.get k=h3.t.get k:=fun k hk=>by rw [hh4];exact gH _ _ (by omega)
 have s4:h4.t.get h3.n=some (.cells [iv 0] 38):=by rw [hh4];exact uI _ _
 have f4:Fr h.n h h4:=by rw [hh4];exact fh3.new _
 refine cAS (FnA.mono (try_c xt h3 (.fn (.func 91) [] [.ptr h.n 0,.ptr (h.n+2) 0]) (KK:=BcR h4 w R C (h.n+2)) ?_) fun res h5 hres=> ?_)
 ·rw [<-hh4];refine xI (sok xt) (FnA.mono (bclo_c xt h4 w (ha.fr f4 (xZT _)) R C hm h.n (h.n+2) (by omega) (by omega) (by rw [k4 _ (by omega)];exact s1) p9 rfl (by rw [k4 _ (by omega)];exact sh3)) fun res h' hres=> ?_);have hk:=hres;obtain ⟨q1,q2,q3⟩:=hres;refine ⟨by rw [q1 _ (by omega) (.inl (by omega))];exact s4,by omega,?_,hk⟩;split at q3
  ·obtain ⟨v,M,hx,_⟩:=q3;exact .inl hx
  ·exact .inr q3.2
 obtain ⟨res',h',⟨q1,q2,q3⟩,q4,q5,q6⟩:=hres;have fr5: ∀k,k<h.n\/h5.n<=k->h5.t.get k=h.t.get k:=fun k hk=>by
  rw [q4 k (by omega) (by omega),q1 k (by omega) (by omega)];exact f4.at_ k (by omega)
 cases hq:Th.boundP w.m.T w.m.J (C - 1) w.m.F0 (w.m.gs.map gg) R with
 |none=>
  rw [hq] at q3;obtain ⟨b1,a,b,rfl⟩:=q3;rcases q6 with ⟨⟨x,hx⟩,_⟩|⟨_,rfl⟩
  ·cases hx
  have b2:h5.t.get (h.n+1)=some (.cells p9 85):=by rw [q4 _ (by omega) (by omega),q1 _ (by omega) (.inl (by omega)),k4 _ (by omega)];exact s2
  simp only [sy.1,rE,reduceIte,rL];apply hn;refine qB fun K hn hp=> ?_;simp only [sy.1,rE,reduceIte,rL];apply hn;refine qX (by simp only [sy.1,rE,reduceIte,d70]) ?_;refine qB fun K hn hp=> ?_;simp only [sw.1,rE,reduceIte,rL,rA,bd121z,b2];apply hn;refine qS (end_c1 (v:= .agg p9) res72 ?_ ⟨?_,?_⟩)
  ·simp only [sy.1,rE,reduceIte,rA]
  ·refine ⟨by rw [xZY];omega,by rw [xZY];omega,fun k hk=> ?_⟩;simp only [xZY] at hk;rw [xZX,xZZ,if_neg (by omega)];exact fr5 k hk
  ·rw [hq];simp [xZZ]
 |some G=>
  rw [hq] at q3;obtain ⟨v,M,⟨x,rfl⟩,b1,sg,m1,m2⟩:=q3;rcases q6 with ⟨_,rfl⟩|⟨⟨x,hx⟩,_⟩
  rotate_left
  ·cases hx
  have b2:h5.t.get (h.n+1)=some (.cells p9 85):=by rw [q4 _ (by omega) (by omega),q1 _ (by omega) (.inl (by omega)),k4 _ (by omega)];exact s2
  have b3:h5.t.get (h.n+2)=some (.cells (w.bc v) 85):=by rw [q4 _ (by omega) (by omega)];exact b1
  have onev:=sg.one;simp only [sy.1,rE,reduceIte,rL];apply hn;refine qB fun K hn hp=> ?_;simp only [sy.1,rE,reduceIte,rL];apply hn;refine jL (by simp only [sy.1,rE,reduceIte]) ?_;have px:jG 9 h5 (h.n+1) 0 (.agg (w.bc v)) (some (.cells p9 85))=some (h5.set (h.n+1) (.cells (w.bc v) 85)):=by
   rw [kF,if_pos ⟨rfl,xZT 9,by simp [yC,o1,o2,o3,o4,o5,onev,qAC]⟩];rfl
  refine qA fun K hn hp=> ?_;simp only [sy.1,rE,reduceIte,rL,rA,b2,b3,px];refine hn _ _ (qD (end_c1 (v:= .agg (w.bc v)) res72 ?_ ⟨?_,?_⟩))
  ·simp only [sy.1,rE,reduceIte,rA]
  ·refine ⟨by rw [xZY];omega,by rw [xZY];omega,fun k hk=> ?_⟩;simp only [xZY] at hk;rw [xZX,xZZ,if_neg (by omega)];exact fr5 k hk
  ·rw [hq];refine ⟨v,M,by simp [xZZ],SG.lower (sg.keep fun k hk hk2=> ?_) (show h.n<=h4.n+4 by omega),by omega,by rw [xZY];omega⟩;rw [xZX,xZZ,if_neg (by omega),q4 k (by omega) (.inl (by omega))]
end Go.Proofs.Kn
