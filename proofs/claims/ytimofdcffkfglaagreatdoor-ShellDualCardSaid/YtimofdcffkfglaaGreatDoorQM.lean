/- Parts. -/
import Derived.WideShapes
import Derived.Test.YtimofdcffkfglaaGreatDoorQC
import Derived.Test.YtimofdcffkfglaaGreatDoorQB
import Derived.Test.YtimofdcffkfglaaGreatDoorQD
import Derived.Test.YtimofdcffkfglaaGreatDoorQK
import Derived.Test.YtimofdcffkfglaaGreatDoorQXKnKnown
set_option linter.all false
open Nat renaming reduceEqDiff → rE, reduceLeDiff → rD, reduceAdd → rA, reduceMul → rM, reduceLT → rL
open Go.Ev.T renaming get_put → xZZ
open Nat renaming le_refl → xZY, le_of_lt → xZB
open List renaming mem_of_getElem? → xZX, getElem?_eq_getElem → xZV, getElem?_map → xZS, getD_eq_getElem?_getD → xZR, all_eq_true → xZP, getElem?_range → xZO, any_eq_false → xZL, mem_map → xZI, mem_range → xZH, take_of_length_le → xZD, mem_singleton → xYY, mem_append → xYV, length_map → xYU, take_succ → xYR, map_cons → xYQ, map_map → xYP, getElem?_eq_none → xYO, mem_map_of_mem → xYN, getElem_of_mem → xYM, all_eq_false → xYJ
open Go.Ev.Hp renaming up_up → xZW, up_n → xZN, set_n → xZC, set_t → xZA
open Bool renaming false_and → xZU, and_false → xZT, and_eq_true → xZQ, false_ne_true → xZM, and_eq_true_iff → xZJ, eq_false_iff → xZG, not_true → xZE, not_eq_false' → xYL, false_eq_true → xYK, not_eq_true' → xYI
open Int renaming toNat_natCast → xZK
open Option renaming map_eq_some_iff → xZF, toList_some → xYZ, bind_eq_some_iff → xYS
open Go.Ev.FnA renaming walk → xYX, calm → xYT
open And renaming intro → xYW
noncomputable section
namespace Go.Ev
open Classical in
def qAz (r:Option Nat) (c:Code) (st:St) (p:Ex×St):j8:=fun r' c' st'=>if r'=r/\c'=c/\st'=st then some p else none
def orC (f g:j8):j8:=fun r c st=>match f r c st with
 |some p=>some p
 |none=>g r c st
def rcv:Ex->Option AV
 | .normal=>some (.val .nilIface)
 | .ret=>some (.val .nilIface)
 | .panic v=>some v
 |_=>none
section
variable {E:Env}
theorem qEo {r:Option Nat} {c:Code} {st:St} {x:Ex} {st':St} (h:SemC E r c st x st'):zK E (qAz r c st (x,st')):=by
 intro r1 c1 s1 x1 s1' he;unfold qAz at he;split at he
 ·rename_i hq;obtain ⟨rfl,rfl,rfl⟩:=hq;cases he;exact h
 ·cases he
theorem orC_ok {f g:j8} (hf:zK E f) (hg:zK E g):zK E (orC f g):=by
 intro r c st x st' he;unfold orC at he;split at he
 ·rename_i p hp;cases he;exact hf _ _ _ _ _ hp
 ·exact hg _ _ _ _ _ he
theorem qBe {r:Option Nat} {c:Code} {st:St} {p:Ex×St}:qAz r c st p r c st=some p:=by simp [qAz]
theorem oneC_ne {r r':Option Nat} {c c':Code} {st st':St} {p:Ex×St} (h:c'≠c):qAz r c st p r' c' st'=none:=by simp [qAz,h]
theorem FnA.dfr (ok:SyOk E) {f:FuncId} {D:Dfr} (hD:IsDfr E.P f D) (hft:E.ft.get f=some D.fn) (hne:D.c≠D.a) {args:List AV} (nt ng:Nat) (hnt:args.length+(D.fn.ntmps - args.length)=nt) (hng:D.caps.toList.length+(D.fng.ntmps - D.caps.toList.length)=ng) (hd:D.d<nt) (hrd:D.rd<ng) {h:Hp} {K:KP}
  (hw:wpc E none D.a ⟨argsTo args 0 .e,nt,h,[]⟩ (fun x sA=>x= .normal/\sA.mks=[]/\sA.nt=nt/\wpc E none D.c ⟨sA.tm.put (some (.fn (.func D.g) [] (D.caps.toList.map (qE sA.tm)))) D.d,nt,sA.h,[]⟩ (fun x sC=>sC.mks=[]/\ ∃v,rcv x=some v/\
   wpc E none D.rest ⟨(argsTo (D.caps.toList.map (qE sA.tm)) 0 .e).put (some v) D.rd,ng,sC.h,[]⟩ (fun y sE=>(y= .normal\/y= .ret)/\sE.mks=[]/\ ∃vs,vI E sC.tm sE.h D.fn.results.toList=some vs/\K (.ret (zH vs)) sE.h)))):FnA E f args h K:=by
 obtain ⟨x,sA,hA,rfl,mA,nA,hw⟩:=wpc.ok ok.tb _ _ _ hw;obtain ⟨x,sC,hC,mC,v,hv,hw⟩:=wpc.ok ok.tb _ _ _ hw;obtain ⟨y,sE,hE,hy,mE,vs,hr,hK⟩:=wpc.ok ok.tb _ _ _ hw;refine ⟨.ret (zH vs),sE.h,?_,hK⟩;obtain ⟨tmA,ntA,hpA,mkA⟩:=sA;simp only at mA nA hC;subst mA nA;have he:evDfr E (orC (qAz none D.a ⟨argsTo args 0 .e,ntA,h,[]⟩ (.normal,⟨tmA,ntA,hpA,[]⟩)) (qAz none D.c ⟨tmA.put (some (.fn (.func D.g) [] (D.caps.toList.map (qE tmA)))) D.d,ntA,hpA,[]⟩ (x,sC))) (qAz none D.rest ⟨(argsTo (D.caps.toList.map (qE tmA)) 0 .e).put (some v) D.rd,ng,sC.h,[]⟩ (y,sE)) D args h=some (.ret (zH vs),sE.h):=by
  unfold evDfr;rw [hnt];have e1:orC (qAz none D.a ⟨argsTo args 0 .e,ntA,h,[]⟩ (.normal,⟨tmA,ntA,hpA,[]⟩)) (qAz none D.c ⟨tmA.put (some (.fn (.func D.g) [] (D.caps.toList.map (qE tmA)))) D.d,ntA,hpA,[]⟩ (x,sC)) none D.a ⟨argsTo args 0 .e,ntA,h,[]⟩=some (.normal,⟨tmA,ntA,hpA,[]⟩):=by
   unfold orC;rw [qBe]
  have e2:orC (qAz none D.a ⟨argsTo args 0 .e,ntA,h,[]⟩ (.normal,⟨tmA,ntA,hpA,[]⟩)) (qAz none D.c ⟨tmA.put (some (.fn (.func D.g) [] (D.caps.toList.map (qE tmA)))) D.d,ntA,hpA,[]⟩ (x,sC)) none D.c ⟨tmA.put (some (.fn (.func D.g) [] (D.caps.toList.map (qE tmA)))) D.d,ntA,hpA,[]⟩=some (x,sC):=by
   unfold orC;rw [oneC_ne hne,qBe]
  rw [e1];simp only;have e3:Nat.blt D.d ntA=true:=by rw [Nat.blt_eq];exact hd
  rw [e3];simp only [cond_true];rw [e2];have hlen:(D.caps.toList.map (qE tmA)).length+(D.fng.ntmps - (D.caps.toList.map (qE tmA)).length)=ng:=by rw [xYU];exact hng
  have e4:Nat.blt D.rd ng=true:=by rw [Nat.blt_eq];exact hrd
  have hend:p9 E (qAz none D.rest ⟨(argsTo (D.caps.toList.map (qE tmA)) 0 .e).put (some v) D.rd,ng,sC.h,[]⟩ (y,sE)) D sC v (D.caps.toList.map (qE tmA))=some (.ret (zH vs),sE.h):=by
   unfold p9;rw [hlen,e4];simp only [cond_true];rw [qBe];simp only [mE];rcases hy with rfl|rfl<;>simp only [hr]
  unfold dfrMid;simp only [mC];cases x<;>simp only [rcv,Option.some.injEq,reduceCtorEq] at hv<;>subst hv<;>exact hend
 obtain ⟨n1,s1⟩:=dfr_ok ok.tb (orC_ok (qEo hA) (qEo hC)) (qEo hE) hD he;exact ⟨n1,⟨D.fn,hft,by rw [hD.fb];rfl⟩,s1⟩
end
end Go.Ev
end
namespace Go.Ev
theorem FnA.dfr2 {E:Env} (ok:SyOk E) {f:FuncId} {D:Dfr} (hD:IsDfr E.P f D) {fn fng:Func} (hft:E.ft.get f=some fn) (hfn:D.fn=fn) (hfng:D.fng=fng) {a c rest:Code} {id idr:Nat} {o1 o2 orr:Oper} (hb:fn.body=some (.seq a (.seq (.region id #[o1,o2] false) c))) (hbg:fng.body=some (.seq (.region idr #[orr] false) rest)) (hne:c≠a) {args:List AV} (nt ng d rd g:Nat) (caps:List Operand) (hdd:D.d=d) (hrr:D.rd=rd) (hgg:D.g=g) (hcc:D.caps.toList=caps) (hnt:args.length+(fn.ntmps - args.length)=nt) (hng:caps.length+(fng.ntmps - caps.length)=ng) (hd:d<nt) (hrd:rd<ng) {h:Hp} {K:KP}
  (hw:wpc E none a ⟨argsTo args 0 .e,nt,h,[]⟩ (fun x sA=>x= .normal/\sA.mks=[]/\sA.nt=nt/\wpc E none c ⟨sA.tm.put (some (.fn (.func g) [] (caps.map (qE sA.tm)))) d,nt,sA.h,[]⟩ (fun x sC=>sC.mks=[]/\ ∃v,rcv x=some v/\
   wpc E none rest ⟨(argsTo (caps.map (qE sA.tm)) 0 .e).put (some v) rd,ng,sC.h,[]⟩ (fun y sE=>(y= .normal\/y= .ret)/\sE.mks=[]/\ ∃vs,vI E sC.tm sE.h fn.results.toList=some vs/\K (.ret (zH vs)) sE.h)))):FnA E f args h K:=by
 have h1:=hD.fb;have h2:=hD.gb;rw [hfn,hb] at h1;rw [hfng,hbg] at h2;simp only [Option.some.injEq,Code.seq.injEq,Code.region.injEq] at h1 h2;obtain ⟨q1,_,q2⟩:=h1;obtain ⟨_,q3⟩:=h2;subst hfn hfng hdd hrr hgg hcc;exact FnA.dfr ok hD hft (by rw [<-q1,<-q2];exact hne) nt ng hnt hng hd hrd (by rw [<-q1,<-q2,<-q3];exact hw)
end Go.Ev
namespace Go.Proofs.Kn
open Go Go.Ev
set_option maxRecDepth 100000
theorem ft135 (xt:Xt):(SE xt).ft.get 135=some Tryz.f135:=by kernel_rfl
theorem ty_nil:pF Tryz.prog tb .eql 20 (.tmp 5) (.const .nilIface) (.val .nilIface) (.val .nilIface)=some (.val (.bool true)):=by kernel_rfl
theorem ty_ag (a b:Int):pF Tryz.prog tb .eql 20 (.tmp 5) (.const .nilIface) (.ifc 226 (.agg [iv a,iv b])) (.val .nilIface)=some (.val (.bool false)):=by kernel_rfl
theorem as_ag (v:AV):kP tb (.ifc 226 v) 226 true=some (.tup [v,.val (.bool true)]):=by kernel_rfl
theorem qDi {E:Env} {tm:T AV} {h:Hp} {K:OR->Prop} {dst:Option Tmp} {ty:TypeId} {ps:String} {af:Array Edge} {g:Option (Nat×Bool)} {x:Operand} {t t':TypeId} {ok:Bool}:WOp E ⟨dst,.typeAssert x t' t ok,ty,ps,af,g⟩ tm h K=pQ h (kP E.tb (qE tm x) t ok) K:=by simp only [WOp,jR,aop,zZ]
theorem resOf_c {E:Env} {tm:T AV} {h:Hp} {t:Tmp} {ty:TypeId} {v:AV} (h2:qN E.tb E.xt h ty ((tm.get t).getD default)=some v):vI E tm h [.cell t ty]=some [v]:=by
 have e1:(match tm.get t with|some a=>a|none=>default)=(tm.get t).getD default:=by cases tm.get t<;>rfl
 show (match qN E.tb E.xt h ty (match tm.get t with|some a=>a|none=>default) with|none=>none|some v=>match vI E tm h [] with|none=>none|some l=>some (v::l))=_;rw [e1,h2];rfl
theorem res135:Tryz.f135.results.toList=[.cell 2 34]:=by kernel_rfl
theorem aext0 (a b:AV):vJ (.tup [a,b]) 0=some a:=rfl
theorem aext1 (a b:AV):vJ (.tup [a,b]) 1=some b:=rfl
noncomputable def sv:=PLift.up (xYW syw.1 (xYW @al27 (xYW @al48 (xYW @al225 (xYW @al50 (xYW @aext0 @aext1))))))
theorem try_c (xt:Xt) (h:Hp) (fv:AV) {KK:KP} (hdo:CallA (SE xt) fv [] (h.new (.cells [iv 0] 34)) (fun res h'=>h'.t.get h.n=some (.cells [iv 0] 34)/\h.n<h'.n/\((∃x,res= .ret x)\/ ∃a b,res= .pan (.ifc 226 (.agg [iv a,iv b])))/\KK res h')):
  FnA (SE xt) 135 [fv] h (fun r h''=> ∃res h',KK res h'/\(∀k,k≠h.n->k<h'.n\/h''.n<=k->h''.t.get k=h'.t.get k)/\h'.n<=h''.n/\(((∃x,res= .ret x)/\r= .ret (iv 0))\/(∃x,res= .pan (.ifc 226 x))/\r= .ret (iv 7))):=by
 refine FnA.dfr2 (sok xt) (D:=D135) (fng:=Tryz.f176) d135_is (ft135 xt) (by kernel_rfl) (by kernel_rfl) rfl rfl (fun h=>by cases h) 6 14 3 5 176 [.tmp 2] (by kernel_rfl) (by kernel_rfl) (by kernel_rfl) (by kernel_rfl) rfl rfl (by omega) (by omega) ?_;refine reg fun K hn hp=> ?_;simp only [sw.1,rL];refine hn _ _ ⟨rfl,rfl,rfl,?_⟩;refine qA fun K hn hp=> ?_;simp only [sy.1,rE,reduceIte,rL,List.map];refine hdo.mono fun res h' hres=> ?_;obtain ⟨q1,q2,q3,q4⟩:=hres;rcases q3 with ⟨x,rfl⟩|⟨a,b,rfl⟩
 ·simp only [sy.1,rL];apply hn;refine qA fun K hn hp=> ?_;simp only [sw.1,rE,reduceIte,q1];apply hn;refine qC ⟨rfl,_,rfl,?_⟩;simp only [sw.1,rE,reduceIte,List.map];refine qZ fun K k1 k2 k3 k4 k5=> ?_;refine qA fun K hn hp=> ?_;simp only [sy.1,rE,reduceIte,rL,ty_nil];apply hn;refine wcT (by simp only [sy.1,rE,reduceIte]) ?_;refine reg fun K hn hp=> ?_;simp only [sy.1,rE,reduceIte,rL];apply hn;refine k1 _ ⟨.inl rfl,rfl,[iv 0],?_,_,h',q4,fun k hk _=> ?_,xZY _,.inl ⟨⟨_,rfl⟩,rfl⟩⟩
  ·rw [res135];refine resOf_c ?_;simp only [sy.1,rE,reduceIte]
  ·rw [xZA,xZZ,if_neg hk]
 ·simp only [sy.1];refine hp _ _ _ ⟨rfl,_,rfl,?_⟩;simp only [sw.1,rE,reduceIte,List.map];refine qZ fun K k1 k2 k3 k4 k5=> ?_;refine qA fun K hn hp=> ?_;simp only [sy.1,rE,reduceIte,rL,ty_ag];apply hn;refine wcF (by simp only [sy.1,rE,reduceIte]) ?_;refine qA fun K hn hp=> ?_;simp only [sy.1,rE,reduceIte,rL,as_ag,qDi,aext0,aext1];apply hn;refine wcT (by simp only [sy.1,rE,reduceIte]) ?_;refine qA fun K hn hp=> ?_;simp only [sw.1,rE,reduceIte,rL,rA,al225];apply hn;obtain ⟨h2,hh2,nh2,_,kh2,fbh2⟩:=nwS h' (.cells [iv 0,iv 0] 226) (.cells [iv a,iv b] 226);rw [<-hh2];have q5:=(kh2 h.n q2).trans q1;refine reg fun K hn hp=> ?_;simp only [sw.1,rE,reduceIte,q5];apply hn;refine k1 _ ⟨.inl rfl,rfl,[iv 7],?_,_,h',q4,fun k hk hk2=> ?_,?_,.inr ⟨⟨_,rfl⟩,rfl⟩⟩
  ·rw [res135];refine resOf_c ?_;simp only [sy.1,rE,reduceIte,q5]
  ·simp only [xZC] at hk2;rw [xZA,xZZ,if_neg hk];exact fbh2.at_ k hk2
  ·simp only [xZC];omega
end Go.Proofs.Kn
namespace Go.Proofs.Kn
open Go Go.Ev
set_option maxRecDepth 100000
set_option maxHeartbeats 4000000
abbrev Mp.W (m:Mp):Nat:=(m.cells.headD []).length
theorem Mp.ok_is {m:Mp} (h:m.ok=true):m.Is m.cells.length m.W:=by
 simp only [Mp.ok,Mp.restOk,xZQ,decide_eq_true_eq,inB,Mp.R,xYI,xZL] at h;obtain ⟨⟨r1,r2⟩,hrow,⟨t1,t2⟩,_,g8,k8,p12,hg,hk,hp⟩:=h;have hall: ∀l∈m.cells,l.length=m.W/\1<=l.length/\l.length<=8:=fun l hl=>by
  have:=xZP.1 hrow l hl;simp only [Mp.rowOk,xZQ,decide_eq_true_eq,inB,Mp.C] at this;obtain ⟨q1,⟨q2,q3⟩,_⟩:=this;have q1:(l.length:Int)=(m.cells.headD []).length:=by simpa using q1
  exact ⟨by show l.length=(m.cells.headD []).length;omega,by omega,by omega⟩
 have hrow': ∀r,r<m.cells.length->(m.cells.getD r []).length=m.W:=fun r hr=>(hall _ (xZX (getD_some [] hr))).1;have r1:(1:Int)<=m.cells.length:=of_decide_eq_true r1;have r2:(m.cells.length:Int)<=6:=of_decide_eq_true r2;have h0:0<m.cells.length:=by omega
 have hw0:=hall _ (xZX (getD_some [] h0));refine ⟨rfl,hrow',h0,by omega,by omega,by omega,fun x hx=> ?_,⟨t1,t2⟩⟩;have:=hg x hx;simp only [Mp.badG,Bool.not_eq_true,Bool.or_eq_false_iff,xYL,Mp.inside,inB,xZQ,decide_eq_true_eq,Mp.R,Mp.C] at this;obtain ⟨⟨⟨a1,a2⟩,a3,a4⟩,_,⟨a5,a6⟩,a7,a8⟩:=this;have a2:x.1<=(m.cells.length:Int) - 1:=of_decide_eq_true a2;have a4:x.2.1<=(m.W:Int) - 1:=of_decide_eq_true a4;have hr:x.1.toNat<m.cells.length:=by omega
 have hx2:=hrow' _ hr;exact ⟨⟨a1,hr⟩,⟨a3,by omega⟩,⟨a5,a6⟩,a7,a8⟩
theorem ft142 (xt:Xt):(SE xt).ft.get 142=some Tryz.f142:=by kernel_rfl
theorem res142:Tryz.f142.results.toList=[]:=by kernel_rfl
def BcR (h:Hp) (w:Wk) (R C bb:Nat) (res:CR) (h':Hp):Prop:=(∀k,k≠bb->k<h.n\/h'.n<=k->h'.t.get k=h.t.get k)/\h.n<=h'.n/\match Th.boundP w.m.T w.m.J (C - 1) w.m.F0 (w.m.gs.map gg) R with
 |some G=> ∃v M,(∃x,res= .ret x)/\h'.t.get bb=some (.cells (w.bc v) 120)/\SG h' (h.n+4) M v R C G/\h.n+4<=M/\M<=h'.n
 |none=>h'.t.get bb=h.t.get bb/\ ∃a b:Int,res= .pan (.ifc 226 (.agg [iv a,iv b]))
theorem bclo_c (xt:Xt) (h:Hp) (w:Wk) (ha:w.At xt h) (R C:Nat) (hm:w.m.Is R C) (bw bb:Nat) (hw:bw<h.n) (hb:bb<h.n) (q1:h.t.get bw=some (.cells w.cs 30)) (z:List AV) (hz:z.length=9) (q2:h.t.get bb=some (.cells z 120)):FnA (SE xt) 142 [.ptr bw 0,.ptr bb 0] h (BcR h w R C bb):=by
 refine xYX (sok xt) (ft142 xt) rfl 4 rfl ?_;obtain ⟨o1,o2,o3,o4,o5⟩:=ha.ones;refine reg fun K hn hp=> ?_;simp only [sw.1,rE,reduceIte,rL,rA,q1];refine cAS (FnA.mono (bound_c xt h w ha R C hm) fun res h' hres=> ?_);obtain ⟨fr,hres⟩:=hres;have q3:=(fr.at_ bb (.inl hb)).trans q2;cases hq:Th.boundP w.m.T w.m.J (C - 1) w.m.F0 (w.m.gs.map gg) R with
 |none=>
  rw [hq] at hres;obtain ⟨a,b,rfl⟩:=hres;simp only [sy.1];refine hp _ _ _ ⟨h',rfl,fun k _ hk=>fr.at_ k hk,fr.le,?_⟩;rw [hq];exact ⟨fr.at_ bb (.inl hb),a,b,rfl⟩
 |some G=>
  rw [hq] at hres;obtain ⟨v,M,rfl,sg,m1,m2⟩:=hres;have onev:=sg.one;have px:qX 9 h' bb 0 (.agg (w.bc v)) (some (.cells z 120))=some (h'.set bb (.cells (w.bc v) 120)):=by
   rw [yD,if_pos ⟨rfl,by omega,by simp [uL,o1,o2,o3,o4,o5,onev,qAy]⟩];have:z.drop (0+9)=[]:=List.drop_eq_nil_of_le (by omega);rw [this];rfl
  simp only [sy.1,rE,reduceIte,rL,q3,px];refine hn _ _ ⟨_,[],rfl,by rw [res142];rfl,fun k hk hk2=> ?_,fr.le,?_⟩
  ·rw [xZA,xZZ,if_neg hk];exact fr.at_ k hk2
  ·rw [hq];refine ⟨v,M,⟨_,rfl⟩,by rw [xZA,xZZ,if_pos rfl],sg.keep fun k hk _=> ?_,m1,m2⟩;rw [xZA,xZZ,if_neg (by omega)]
theorem ft72 (xt:Xt):(SE xt).ft.get 72=some Tryz.f72:=by kernel_rfl
theorem res72:Tryz.f72.results.toList=[.cell 2 120,.tmp 3]:=by kernel_rfl
abbrev xR:List AV:=[.val (.slice none 0 0),iv 0,iv 0,.val (.slice none 0 0),.val (.slice none 0 0),.val (.slice none 0 0),.val (.slice none 0 0),iv 0,.val (.slice none 0 0)]
def BsR (h:Hp) (w:Wk) (R C:Nat) (res:CR) (h':Hp):Prop:=Fr h.n h h'/\match Th.boundP w.m.T w.m.J (C - 1) w.m.F0 (w.m.gs.map gg) R with
 |some G=> ∃v M,res= .ret (.tup [.agg (w.bc v),iv 0])/\SG h' h.n M v R C G/\h.n<=M/\M<=h'.n
 |none=>res= .ret (.tup [.agg xR,iv 7])
theorem SG.lower {h:Hp} {N N' M R C:Nat} {v:AV} {F:Nat->Nat->Int×Int} (s:SG h N M v R C F) (hN:N'<=N):SG h N' M v R C F:=by
 obtain ⟨bs,h1,h2,h3⟩:=s;refine ⟨bs,fun r hr=>⟨Nat.le_trans hN (h1 r hr).1,(h1 r hr).2⟩,h2,?_⟩;rcases h3 with h3|⟨B,q1,q2,q3,q4,q5⟩
 ·exact .inl h3
 ·exact .inr ⟨B,q1,Nat.le_trans hN q2,q3,q4,q5⟩
theorem bd121z:zE tb 120 []=some (.agg xR):=by kernel_rfl
theorem d70:decide ((7:Int)=0)=false:=by decide
theorem qAY (xt:Xt) (h:Hp) (w:Wk) (ha:w.At xt h) (R C:Nat) (hm:w.m.Is R C):FnA (SE xt) 72 [w.av] h (BsR h w R C):=by
 refine xYX (sok xt) (ft72 xt) rfl 13 rfl ?_;obtain ⟨o1,o2,o3,o4,o5⟩:=ha.ones;refine qA fun K hn hp=> ?_;simp only [sw.1,reduceIte,rL];apply hn;obtain ⟨h1,hh1,nh1,sh1,_,fbh1⟩:=nwE h (.cells w.cs 30);rw [<-hh1];have fh1:=fbh1;obtain ⟨h2,hh2,nh2,sh2,kh2,fbh2⟩:=nwE h1 (.cells xR 120);rw [<-hh2];have fh2:Fr h.n h h2:=fh1.trans fbh2 (by omega);simp only [nh1,Nat.add_assoc,rA] at nh2 sh2 kh2;refine qA fun K hn hp=> ?_;simp only [sy.1,rL,nh2];apply hn;obtain ⟨h3,hh3,nh3,sh3,kh3,fbh3⟩:=nwE h2 (.cells xR 120);rw [<-hh3];have fh3:Fr h.n h h3:=fh2.trans fbh3 (by omega);simp only [nh2,Nat.add_assoc,rA] at nh3 sh3 kh3;have s1:=(kh3 h.n (by omega)).trans ((kh2 h.n (by omega)).trans sh1);have s2:=(kh3 (h.n+1) (by omega)).trans sh2;refine qB fun K hn hp=> ?_;simp only [sy.1,rE,reduceIte,rL];obtain ⟨h4,hh4⟩: ∃h4:Hp,h4=h3.new (.cells [iv 0] 34):=⟨_,rfl⟩;have n4:h4.n=h.n+4:=by rw [hh4,Hp.new_n,nh3]
 have k4: ∀k,k<h.n+3->h4.t.get k=h3.t.get k:=fun k hk=>by rw [hh4];exact pR _ _ (by omega)
 have s4:h4.t.get h3.n=some (.cells [iv 0] 34):=by rw [hh4];exact pT _ _
 have f4:Fr h.n h h4:=by rw [hh4];exact fh3.new _
 refine cAS (FnA.mono (try_c xt h3 (.fn (.func 142) [] [.ptr h.n 0,.ptr (h.n+2) 0]) (KK:=BcR h4 w R C (h.n+2)) ?_) fun res h5 hres=> ?_)
 ·rw [<-hh4];refine vE (sok xt) (FnA.mono (bclo_c xt h4 w (ha.fr f4 (xZY _)) R C hm h.n (h.n+2) (by omega) (by omega) (by rw [k4 _ (by omega)];exact s1) xR rfl (by rw [k4 _ (by omega)];exact sh3)) fun res h' hres=> ?_);have hk:=hres;obtain ⟨q1,q2,q3⟩:=hres;refine ⟨by rw [q1 _ (by omega) (.inl (by omega))];exact s4,by omega,?_,hk⟩;split at q3
  ·obtain ⟨v,M,hx,_⟩:=q3;exact .inl hx
  ·exact .inr q3.2
 obtain ⟨res',h',⟨q1,q2,q3⟩,q4,q5,q6⟩:=hres;have fr5: ∀k,k<h.n\/h5.n<=k->h5.t.get k=h.t.get k:=fun k hk=>by
  rw [q4 k (by omega) (by omega),q1 k (by omega) (by omega)];exact f4.at_ k (by omega)
 cases hq:Th.boundP w.m.T w.m.J (C - 1) w.m.F0 (w.m.gs.map gg) R with
 |none=>
  rw [hq] at q3;obtain ⟨b1,a,b,rfl⟩:=q3;rcases q6 with ⟨⟨x,hx⟩,_⟩|⟨_,rfl⟩
  ·cases hx
  have b2:h5.t.get (h.n+1)=some (.cells xR 120):=by rw [q4 _ (by omega) (by omega),q1 _ (by omega) (.inl (by omega)),k4 _ (by omega)];exact s2
  simp only [sy.1,rE,reduceIte,rL];apply hn;refine qB fun K hn hp=> ?_;simp only [sy.1,rE,reduceIte,rL];apply hn;refine qW (by simp only [sy.1,rE,reduceIte,d70]) ?_;refine qB fun K hn hp=> ?_;simp only [sw.1,rE,reduceIte,rL,rA,bd121z,b2];apply hn;refine qQ (qBo (v:= .agg xR) res72 ?_ ⟨?_,?_⟩)
  ·simp only [sy.1,rE,reduceIte,rA]
  ·refine ⟨by rw [xZC];omega,by rw [xZC];omega,fun k hk=> ?_⟩;simp only [xZC] at hk;rw [xZA,xZZ,if_neg (by omega)];exact fr5 k hk
  ·rw [hq];simp [xZZ]
 |some G=>
  rw [hq] at q3;obtain ⟨v,M,⟨x,rfl⟩,b1,sg,m1,m2⟩:=q3;rcases q6 with ⟨_,rfl⟩|⟨⟨x,hx⟩,_⟩
  rotate_left
  ·cases hx
  have b2:h5.t.get (h.n+1)=some (.cells xR 120):=by rw [q4 _ (by omega) (by omega),q1 _ (by omega) (.inl (by omega)),k4 _ (by omega)];exact s2
  have b3:h5.t.get (h.n+2)=some (.cells (w.bc v) 120):=by rw [q4 _ (by omega) (by omega)];exact b1
  have onev:=sg.one;simp only [sy.1,rE,reduceIte,rL];apply hn;refine qB fun K hn hp=> ?_;simp only [sy.1,rE,reduceIte,rL];apply hn;refine jB (by simp only [sy.1,rE,reduceIte]) ?_;have px:qX 9 h5 (h.n+1) 0 (.agg (w.bc v)) (some (.cells xR 120))=some (h5.set (h.n+1) (.cells (w.bc v) 120)):=by
   rw [yD,if_pos ⟨rfl,xZY 9,by simp [uL,o1,o2,o3,o4,o5,onev,qAy]⟩];rfl
  refine qA fun K hn hp=> ?_;simp only [sy.1,rE,reduceIte,rL,rA,b2,b3,px];refine hn _ _ (qC (qBo (v:= .agg (w.bc v)) res72 ?_ ⟨?_,?_⟩))
  ·simp only [sy.1,rE,reduceIte,rA]
  ·refine ⟨by rw [xZC];omega,by rw [xZC];omega,fun k hk=> ?_⟩;simp only [xZC] at hk;rw [xZA,xZZ,if_neg (by omega)];exact fr5 k hk
  ·rw [hq];refine ⟨v,M,by simp [xZZ],SG.lower (sg.keep fun k hk hk2=> ?_) (show h.n<=h4.n+4 by omega),by omega,by rw [xZC];omega⟩;rw [xZA,xZZ,if_neg (by omega),q4 k (by omega) (.inl (by omega))]
abbrev Mp.wk (m:Mp):Wk:=⟨m,.val (.slice none 0 0),[],0⟩
theorem Mp.At.wk {m:Mp} {xt:Xt} {h:Hp} (a:m.At xt h):m.wk.At xt h:=⟨a,⟨by simp,by omega,.inl ⟨rfl,rfl⟩⟩,by simp⟩
def Mp.bnd (m:Mp):Option Th.Grid:=Th.boundP m.T m.J (m.W - 1) m.F0 (m.gs.map gg) m.cells.length
abbrev jV:AV:= .val (.slice none 0 0)
theorem ft27 (xt:Xt):(SE xt).ft.get 27=some Tryz.f27:=by kernel_rfl
theorem res27:Tryz.f27.results.toList=[.tmp 2]:=by kernel_rfl
theorem ft84 (xt:Xt):(SE xt).ft.get 84=some Tryz.f84:=by kernel_rfl
theorem res84:Tryz.f84.results.toList=[.tmp 2]:=by kernel_rfl
theorem pO (xt:Xt) (h:Hp) (m:Mp) (ha:m.At xt h) {K:KP} (hk: ∀n,h.n<n->K (.ret (iv m.cells.length)) (h.up n)):FnA (SE xt) 27 [m.av] h K:=by
 refine xYT ?_ hk;clear hk K;refine xYX (sok xt) (ft27 xt) rfl 6 rfl ?_;obtain ⟨o1,o2,o3,o4,o5⟩:=ha.wk.ones;have hlen:=ha.len;refine qA fun K hn hp=> ?_;simp only [sw.1,reduceIte,rL];apply hn;obtain ⟨h1,hh1,_,sh1,_,fbh1⟩:=nwE h (.cells m.cs 27);rw [<-hh1];have fh1:=fbh1;refine qA fun K hn hp=> ?_;simp only [sy.1,rE,reduceIte,rL,syw.1,hlen,sh1];apply hn;refine qC (qH res27 ⟨?_,fh1⟩);simp [xZZ]
theorem qBs (xt:Xt) (h:Hp) (m:Mp) (ha:m.At xt h) {K:KP} (hk: ∀n,h.n<n->K (.ret (iv m.W)) (h.up n)):FnA (SE xt) 84 [m.av] h K:=by
 refine xYT ?_ hk;clear hk K;refine xYX (sok xt) (ft84 xt) rfl 12 rfl ?_;obtain ⟨o1,o2,o3,o4,o5⟩:=ha.wk.ones;have hlen:=ha.len;refine qA fun K hn hp=> ?_;simp only [sw.1,reduceIte,rL];apply hn;obtain ⟨h1,hh1,nh1,sh1,kh1,fbh1⟩:=nwE h (.cells m.cs 27);rw [<-hh1];have fh1:=fbh1;refine jK ?_;cases q:m.cells with
 |nil=>
  have ql:m.cells.length=0:=by rw [q];rfl
  rw [ql] at hlen;refine qA fun K hn hp=> ?_;simp only [sy.1,rE,reduceIte,rL,syw.1,hlen,sh1];apply hn;refine qW (by simp only [sy.1,rE,reduceIte,Int.natCast_zero]) ?_;refine qB fun K hn hp=> ?_;simp only [sy.1,rL];apply hn;refine qQ (qH res84 ⟨?_,fh1⟩);simp [xZZ,Mp.W,q]
 |cons l ls=>
  have hl0:0<m.cells.length:=by rw [q];simp
  have hd:decide ((m.cells.length:Int)=0)=false:=decide_eq_false (by omega);have hW:m.W=(m.cells.getD 0 []).length:=by simp [Mp.W,q]
  obtain ⟨v,i1,i2,i3,i4⟩:=(ha.fr fh1 (xZY _)).rowD hl0;refine qA fun K hn hp=> ?_;simp only [sy.1,rE,reduceIte,rL,syw.1,hlen,sh1,hd];apply hn;refine jB (by simp only [sy.1,rE,reduceIte]) ?_;have i1:qK tb 22 m.vc (iv 0)=some (elp m.vc 0):=i1;refine qA fun K hn hp=> ?_;simp only [sy.1,rE,reduceIte,rL,syw.1,sh1,i1,i2,i4];apply hn;refine qC (qH res84 ⟨?_,fh1⟩);rw [hW];simp [xZZ]
theorem ft87 (xt:Xt):(SE xt).ft.get 87=some Tryz.f87:=by kernel_rfl
theorem res87:Tryz.f87.results.toList=[.tmp 6]:=by kernel_rfl
theorem ft89 (xt:Xt):(SE xt).ft.get 89=some Tryz.f89:=by kernel_rfl
theorem res89:Tryz.f89.results.toList=[.tmp 6]:=by kernel_rfl
def Mp.rc (m:Mp) (r c:Int):Int:=if inB r 0 (m.R - 1) && inB c 0 ((m.cells.getD r.toNat []).length - 1) then (m.cells.getD r.toNat []).getD c.toNat 0 else 1
theorem rc_c (xt:Xt) (h:Hp) (m:Mp) (ha:m.At xt h) (r c:Int) {K:KP} (hk: ∀n,h.n<n->K (.ret (iv (m.rc r c))) (h.up n)):FnA (SE xt) 87 [m.av,iv r,iv c] h K:=by
 refine xYT ?_ hk;clear hk K;refine xYX (sok xt) (ft87 xt) rfl 33 rfl ?_;obtain ⟨o1,o2,o3,o4,o5⟩:=ha.wk.ones;have hlc:=ha.lc;have hw:IntKind.i64.wrap ((m.cells.length:Int) - 1)=m.R - 1:=by rw [qG _ (by omega) (by omega)];rfl
 refine qA fun K hn hp=> ?_;simp only [sw.1,rE,reduceIte,rL,rA];apply hn;obtain ⟨h1,hh1,nh1,sh1,_,fbh1⟩:=nwE h (.cells m.cs 27);rw [<-hh1];have fh1:=fbh1;have ha1:=ha.fr fh1 (xZY _);refine qB fun K hn hp=> ?_;simp only [sy.1,rE,reduceIte,rL,rA,sh1];refine cAS (pO xt h1 m ha1 fun n1 hn1=> ?_);simp only [sy.1,rE,reduceIte,rL,hw];refine cAS (kZ xt _ _ _ _ fun n2 hn2=> ?_);have hn2:=xZB hn2;simp only [xZN] at hn2;cases q1:(decide (0<=r) && decide (r<=m.R - 1))
 ·simp only [sy.1,rE,reduceIte,rL,xZW];apply hn;refine qW (by simp only [sy.1,rE,reduceIte]) ?_;refine qB fun K hn hp=> ?_;simp only [sy.1,rL];apply hn;refine qQ (qH res87 ⟨?_,fh1.up (by omega)⟩);have:m.rc r c=1:=by
   have q1:inB r 0 (m.R - 1)=false:=q1;simp [Mp.rc,q1]
  simp [xZZ,this]
 have q1':inB r 0 (m.R - 1)=true:=q1;obtain ⟨r',rfl⟩: ∃r':Nat,r=r':=by
  obtain ⟨z1,z2⟩:=xZJ.1 q1;have z1:=of_decide_eq_true z1;exact ⟨r.toNat,by omega⟩
 have hr':r'<m.cells.length:=by
  obtain ⟨z1,z2⟩:=xZJ.1 q1;have z2:=of_decide_eq_true z2;simp only [Mp.R] at z2;omega
 obtain ⟨v,i1,i2,i3,i4⟩:=ha.rowF hr';have i2:=i2 h1 fh1;have hll:=ha.lr _ (xZX (getD_some [] hr'));have hw2:IntKind.i64.wrap (((m.cells.getD r' []).length:Int) - 1)=((m.cells.getD r' []).length:Int) - 1:=qG _ (by omega) (by omega);simp only [sy.1,rE,reduceIte,rL,syw.1,sh1,i1,i2,i4,xZW,hw2];refine cAS (kZ xt _ _ _ _ fun n3 hn3=> ?_);have hn3:=xZB hn3;simp only [xZN] at hn3;have erow:m.cells.getD ((r':Int)).toNat []=m.cells.getD r' []:=by rw [xZK]
 cases q2:(decide (0<=c) && decide (c<=((m.cells.getD r' []).length:Int) - 1))
 ·simp only [sy.1,rE,reduceIte,rL,xZW];apply hn;refine qW (by simp only [sy.1,rE,reduceIte]) ?_;refine qB fun K hn hp=> ?_;simp only [sy.1,rL];apply hn;refine qQ (qH res87 ⟨?_,fh1.up (by omega)⟩);have:m.rc r' c=1:=by
   have q2:inB c 0 (((m.cells.getD r' []).length:Int) - 1)=false:=q2;simp only [Mp.rc,erow,q2,xZT];simp
  simp [xZZ,this]
 ·have q2':inB c 0 (((m.cells.getD r' []).length:Int) - 1)=true:=q2;obtain ⟨c',rfl⟩: ∃c':Nat,c=c':=by
   obtain ⟨z1,z2⟩:=xZJ.1 q2;have z1:=of_decide_eq_true z1;exact ⟨c.toNat,by omega⟩
  have hc':c'<(m.cells.getD r' []).length:=by
   obtain ⟨z1,z2⟩:=xZJ.1 q2;have z2:=of_decide_eq_true z2;omega
  simp only [sy.1,rE,reduceIte,rL,xZW];apply hn;refine jB (by simp only [sy.1,rE,reduceIte]) ?_;obtain ⟨x1,x2⟩:=(i3.fr fh1 (xZY _)).m58 hc';refine qA fun K hn hp=> ?_;simp only [sy.1,rE,reduceIte,rL,syw.1,sh1,i1,i2,x1,x2];apply hn;refine qC (qH res87 ⟨?_,fh1.up (by omega)⟩);have:m.rc r' c'=(m.cells.getD r' []).getD c' 0:=by
   simp only [Mp.rc,q1',q2',Bool.and_self,if_true,xZK]
  rw [this];simp [xZZ]
theorem qEg (xt:Xt) (h:Hp) (m:Mp) (ha:m.At xt h) (r c:Int) {K:KP} (hk: ∀n,h.n<n->K (.ret (.val (.bool (m.inside r c)))) (h.up n)):FnA (SE xt) 89 [m.av,iv r,iv c] h K:=by
 refine xYT ?_ hk;clear hk K;refine xYX (sok xt) (ft89 xt) rfl 19 rfl ?_;obtain ⟨o1,o2,o3,o4,o5⟩:=ha.wk.ones;have hlc:=ha.lc;have hw:IntKind.i64.wrap ((m.cells.length:Int) - 1)=m.R - 1:=by rw [qG _ (by omega) (by omega)];rfl
 have hWl:m.W<=9223372036854775807:=by
  show (m.cells.headD []).length<=_;cases q:m.cells with
  |nil=>simp
  |cons l ls=>exact ha.lr l (by rw [q];exact List.mem_cons_self)
 have hw2:IntKind.i64.wrap ((m.W:Int) - 1)=m.C - 1:=by rw [qG _ (by omega) (by omega)];rfl
 refine qA fun K hn hp=> ?_;simp only [sw.1,rE,reduceIte,rL,rA];apply hn;obtain ⟨h1,hh1,nh1,sh1,_,fbh1⟩:=nwE h (.cells m.cs 27);rw [<-hh1];have fh1:=fbh1;have ha1:=ha.fr fh1 (xZY _);refine qA fun K hn hp=> ?_;simp only [sy.1,rE,reduceIte,rL,rA,sh1];refine cAS (pO xt h1 m ha1 fun n1 hn1=> ?_);simp only [sy.1,rE,reduceIte,rL,hw];refine cAS (kZ xt _ _ _ _ fun n2 hn2=> ?_);have hn2:=xZB hn2;simp only [xZN] at hn2;cases q1:(decide (0<=r) && decide (r<=m.R - 1))
 ·simp only [sy.1,rE,reduceIte,rL,xZW];refine hn _ _ (qC (qH res89 ⟨?_,fh1.up (by omega)⟩));simp [xZZ,Mp.inside,inB,q1]
 ·simp only [sy.1,rE,reduceIte,rL,rA,sh1,xZW];refine cAS (qBs xt _ m (ha1.up (by omega)) fun n3 hn3=> ?_);have hn3:=xZB hn3;simp only [xZN] at hn3;simp only [sy.1,rE,reduceIte,rL,hw2,xZW];refine cAS (kZ xt _ _ _ _ fun n4 hn4=> ?_);have hn4:=xZB hn4;simp only [xZN] at hn4;simp only [sy.1,rE,reduceIte,rL,xZW];refine hn _ _ (qC (qH res89 ⟨?_,fh1.up (by omega)⟩));simp [xZZ,Mp.inside,inB,q1]
def Gr.sz (g:Gr) (m:Mp):Bool:=(List.range g.ll.length).all (fun r=>decide (((g.ll.getD r []).length:Int)=m.W)) && decide ((g.ll.length:Int)=m.cells.length)
theorem wA {p:Nat->Bool} {n k:Nat} (hk:k<n) (h:p k=false):(List.range n).all p=false:=by
 rw [xYJ];exact ⟨k,xZH.2 hk,by rw [h];exact xZM⟩
theorem gP {p:Nat->Bool} {n:Nat} (h: ∀k,k<n->p k=true):(List.range n).all p=true:=by
 rw [xZP];exact fun c hc=>h c (xZH.1 hc)
def rfitAt (m:Mp) (t:List Int) (r c:Nat):Bool:=
 if m.rc r c=1 then decide (t.getD c 0=0) else inB (t.getD c 0) 0 60 && !(!decide (m.rc r (c+1:Nat)=1) && !inB (t.getD (c+1) 0) (t.getD c 0 - m.T) (t.getD c 0))
def qFp (g:Gr) (x:Int×Int×Int×Int):Bool:=inB (g.cell x.1 x.2.1) (x.2.2.1 - x.2.2.2) (x.2.2.1+x.2.2.2)
def rfitRow (m:Mp) (g:Gr) (r:Nat):Bool:=(List.range m.W).all (rfitAt m (g.ll.getD r []) r)
def rfitsB (m:Mp) (g:Gr):Bool:=(List.range m.cells.length).all (rfitRow m g) && m.gs.all (qFp g)
theorem rc_at {m:Mp} {R C:Nat} (hm:m.Is R C) {r c:Nat} (hr:r<R):m.rc r c=if c<C then m.cell r c else 1:=by
 have h1:=hm.hR;have h2:=hm.hC r hr;simp only [Mp.rc,xZK,h2,inB,Mp.R,h1,Mp.cell];have e1:decide ((0:Int)<=(r:Int))=true:=decide_eq_true (by omega);have e2:decide ((r:Int)<=(R:Int) - 1)=true:=decide_eq_true (by omega);have e3:decide ((0:Int)<=(c:Int))=true:=decide_eq_true (by omega);rw [e1,e2,e3];by_cases hc:c<C
 ·have e4:decide ((c:Int)<=(C:Int) - 1)=true:=decide_eq_true (by omega);rw [e4,if_pos hc];rfl
 ·have e4:decide ((c:Int)<=(C:Int) - 1)=false:=decide_eq_false (by omega);rw [e4,if_neg hc];rfl
theorem ft39 (xt:Xt):(SE xt).ft.get 39=some Tryz.f39:=by kernel_rfl
theorem res39:Tryz.f39.results.toList=[.tmp 2]:=by kernel_rfl
theorem Mp.row_no {m:Mp} {r:Nat} (hr:r<m.cells.length) (h:m.rowOk (m.cells.getD r [])=false):m.ok=false:=by
 have:m.cells.all m.rowOk=false:=by
  rw [xYJ];exact ⟨_,xZX (getD_some [] hr),by rw [h];exact xZM⟩
 simp only [Mp.ok,this,xZU,xZT]
theorem Mp.rest_no {m:Mp} (h:m.restOk=false):m.ok=false:=by simp only [Mp.ok,h,xZT]
theorem qCf {α:Type} {p:α->Bool} {l:List α} {x:α} (hx:x∈l) (h:p x=true):l.any p=true:=List.any_eq_true.2 ⟨x,hx,h⟩
theorem Mp.g_no {m:Mp} {x:Int×Int×Int×Int} (hx:x∈m.gs) (h:m.badG x=true):m.ok=false:=m.rest_no (by
 have:m.gs.any m.badG=true:=qCf hx h;simp only [Mp.restOk,this,xZE,xZU,xZT])
theorem Mp.k_no {m:Mp} {x:Int×Int×Bool} (hx:x∈m.ks) (h:m.badK x=true):m.ok=false:=m.rest_no (by
 have:m.ks.any m.badK=true:=qCf hx h;simp only [Mp.restOk,this,xZE,xZU,xZT])
theorem Mp.p_no {m:Mp} {x:Int×Int} (hx:x∈m.ps) (h:m.is x.1 x.2 2=false):m.ok=false:=m.rest_no (by
 have:m.ps.any (fun p=> !m.is p.1 p.2 2)=true:=qCf hx (by rw [h];rfl);simp only [Mp.restOk,this,xZE,xZT])
theorem Mp.rc_in {m:Mp} (hr:m.Rect) (r c:Int):m.rc r c=if m.inside r c then m.kind r c else 1:=by
 have hrow: ∀i,i<m.cells.length->(m.cells.getD i []).length=m.W:=fun i hi=>hr _ (xZX (getD_some [] hi));have hWC:(m.W:Int)=m.C:=rfl;simp only [Mp.rc];by_cases h1:0<=r/\r<m.R
 ·obtain ⟨i,rfl⟩: ∃i:Nat,r=i:=⟨r.toNat,by omega⟩;have hi:i<m.cells.length:=by have:=h1.2;unfold Mp.R at this;omega
  have e1:inB (i:Int) 0 (m.R - 1)=true:=xK.2 ⟨by omega,by omega⟩;rw [e1,Bool.true_and,xZK,hrow i hi];by_cases h2:0<=c/\c<m.C
  ·have e2:inB c 0 ((m.W:Int) - 1)=true:=xK.2 ⟨by omega,by omega⟩;have e3:m.inside i c=true:=Mp.inside_iff.2 ⟨h1,h2⟩;rw [e2,e3,if_pos rfl,if_pos rfl];have hc:c.toNat<(m.cells.getD i []).length:=by rw [hrow i hi];omega
   have hg:(m.cells[i]?).getD []=m.cells.getD i []:=by rw [xZR]
   simp only [Mp.kind,xZK,hg];rw [getD_some 0 hc];rfl
  ·have e2:inB c 0 ((m.W:Int) - 1)=false:=by
    rw [xZG];intro h;have:=xK.1 h;exact h2 ⟨this.1,by omega⟩
   have e3:m.inside i c=false:=by rw [xZG];intro h;exact h2 (Mp.inside_iff.1 h).2
   rw [e2,e3];rfl
 ·have e1:inB r 0 (m.R - 1)=false:=by
   rw [xZG];intro h;have:=xK.1 h;exact h1 ⟨this.1,by omega⟩
  have e3:m.inside r c=false:=by rw [xZG];intro h;exact h1 (Mp.inside_iff.1 h).1
  rw [e1,e3];rfl
theorem Mp.badG_rc {m:Mp} (hr:m.Rect) (x:Int×Int×Int×Int):m.badG x=(decide (m.rc x.1 x.2.1=1) || (!inB x.2.2.1 0 60 || !inB x.2.2.2 0 9)):=by
 rw [Mp.rc_in hr];simp only [Mp.badG,Mp.is];cases m.inside x.1 x.2.1<;>simp
theorem Mp.is_rc {m:Mp} (hr:m.Rect) (r c:Int):m.is r c 2=decide (m.rc r c=2):=by
 rw [Mp.rc_in hr];simp only [Mp.is];cases m.inside r c<;>simp
theorem rmap_c (xt:Xt) (h:Hp) (m:Mp) (ha:m.At xt h) {K:KP} (hk: ∀n,h.n<n->K (.ret (.val (.bool m.ok))) (h.up n)):FnA (SE xt) 39 [m.av] h K:=by
 refine xYT ?_ hk;clear hk K;refine xYX (sok xt) (ft39 xt) rfl 192 rfl ?_;obtain ⟨o1,o2,o3,o4,o5⟩:=ha.wk.ones;have hl23:=fun h':Hp=>(ha.gs).len (h':=h') tg23 rfl;have hl24:=fun h':Hp=>(ha.ks).len (h':=h') tg24 rfl;have hl25:=fun h':Hp=>(ha.ps).len (h':=h') tg25 rfl;simp only [xYU] at hl23 hl24 hl25;refine qA fun K hn hp=> ?_;simp only [sw.1,reduceIte,rL];apply hn;clear hn hp K;obtain ⟨h1,hh1,nh1,sh1,_,fbh1⟩:=nwE h (.cells m.cs 27);rw [<-hh1];have fh1:=fbh1;have ha1:=ha.fr fh1 (xZY _);have retF: ∀(n:Nat) (tm:T AV),h1.n<=n->tm.get 2=some (.val (.bool false))->m.ok=false->xX (SE xt) Tryz.f39 (fun r h'=>r= .ret (.val (.bool m.ok))/\Fr h.n h h') .ret ⟨tm,192,h1.up n,[]⟩:=fun n tm hn g hm=>qH res39 ⟨by simp [g,hm],fh1.up hn⟩;refine qB fun K hn hp=> ?_;simp only [sy.1,rE,reduceIte,rL,rA,sh1];refine cAS (pO xt h1 m ha1 fun n1 hn1=> ?_);simp only [sy.1,rE,reduceIte,rL];refine cAS (kZ xt _ _ _ _ fun n2 hn2=> ?_);simp only [xZN] at hn2;cases b1:inB m.cells.length 1 6
 ·have b1':=b1;unfold inB at b1';simp only [sy.1,rE,reduceIte,rL,b1',xZW];apply hn;clear hn hp K;refine qW (by simp only [sy.1,rE,reduceIte]) ?_;refine qB fun K hn hp=> ?_;simp only [sy.1,rL];apply hn;clear hn hp K;refine qQ (retF _ _ (by omega) (by simp [xZZ]) (by simp only [Mp.ok,Mp.R,b1,xZU]))
 have b1':=b1;unfold inB at b1';simp only [sy.1,rE,reduceIte,rL,rA,sh1,b1',xZW];refine cAS (qBs xt _ m (ha1.up (by omega)) fun n3 hn3=> ?_);simp only [xZN] at hn3;simp only [sy.1,rE,reduceIte,rL,xZW];refine cAS (kZ xt _ _ _ _ fun n4 hn4=> ?_);simp only [xZN] at hn4;have hpos:0<m.cells.length:=by have:=xK.1 b1;omega
 cases b2:inB m.W 1 8
 ·have b2':=b2;unfold inB at b2';simp only [sy.1,rE,reduceIte,rL,b2',xZW];apply hn;clear hn hp K;refine qW (by simp only [sy.1,rE,reduceIte]) ?_;refine qB fun K hn hp=> ?_;simp only [sy.1,rL];apply hn;clear hn hp K;refine qQ (retF _ _ (by omega) (by simp [xZZ]) (Mp.row_no hpos ?_));have e0:m.cells.getD 0 []=m.cells.headD []:=by cases m.cells<;>rfl
  simp only [Mp.rowOk,e0];have b2:inB (m.cells.headD []).length 1 8=false:=b2;simp only [b2,xZU,xZT]
 have b2':=b2;unfold inB at b2';simp only [sy.1,rE,reduceIte,rL,sh1,b2',xZW];refine cAS (kZ xt _ _ _ _ fun n5 hn5=> ?_);simp only [xZN] at hn5;cases b3:inB m.T 0 9
 ·have b3':=b3;unfold inB at b3';simp only [sy.1,rE,reduceIte,rL,b3',xZW];apply hn;clear hn hp K;refine qW (by simp only [sy.1,rE,reduceIte]) ?_;refine qB fun K hn hp=> ?_;simp only [sy.1,rL];apply hn;clear hn hp K;refine qQ (retF _ _ (by omega) (by simp [xZZ]) (Mp.rest_no (by simp only [Mp.restOk,b3,xZU])))
 have b3':=b3;unfold inB at b3';simp only [sy.1,rE,reduceIte,rL,sh1,b3',xZW];refine cAS (kZ xt _ _ _ _ fun n6 hn6=> ?_);simp only [xZN] at hn6;cases b4:inB m.H 0 3
 ·have b4':=b4;unfold inB at b4';simp only [sy.1,rE,reduceIte,rL,b4',xZW];apply hn;clear hn hp K;refine qW (by simp only [sy.1,rE,reduceIte]) ?_;refine qB fun K hn hp=> ?_;simp only [sy.1,rL];apply hn;clear hn hp K;refine qQ (retF _ _ (by omega) (by simp [xZZ]) (Mp.rest_no (by simp only [Mp.restOk,b4,xZU,xZT])))
 have b4':=b4;unfold inB at b4';cases b5:decide ((8:Int)<m.gs.length)
 rotate_left
 ·simp only [sy.1,rE,reduceIte,rL,syw.1,hl23,sh1,b4',xZW,b5];apply hn;clear hn hp K;refine qW (by simp only [sy.1,rE,reduceIte]) ?_;refine qB fun K hn hp=> ?_;simp only [sy.1,rL];apply hn;clear hn hp K;have b5':decide ((m.gs.length:Int)<=8)=false:=decide_eq_false (by have:=of_decide_eq_true b5;omega);refine qQ (retF _ _ (by omega) (by simp [xZZ]) (Mp.rest_no (by simp only [Mp.restOk,b5',xZU,xZT])))
 have b5':decide ((m.gs.length:Int)<=8)=true:=decide_eq_true (by have:=of_decide_eq_false b5;omega);cases b6:decide ((8:Int)<m.ks.length)
 rotate_left
 ·simp only [sy.1,rE,reduceIte,rL,syw.1,hl23,hl24,sh1,b4',xZW,b5,b6];apply hn;clear hn hp K;refine qW (by simp only [sy.1,rE,reduceIte]) ?_;refine qB fun K hn hp=> ?_;simp only [sy.1,rL];apply hn;clear hn hp K;have b6':decide ((m.ks.length:Int)<=8)=false:=decide_eq_false (by have:=of_decide_eq_true b6;omega);refine qQ (retF _ _ (by omega) (by simp [xZZ]) (Mp.rest_no (by simp only [Mp.restOk,b6',xZU,xZT])))
 have b6':decide ((m.ks.length:Int)<=8)=true:=decide_eq_true (by have:=of_decide_eq_false b6;omega);cases b7:decide ((12:Int)<m.ps.length)
 rotate_left
 ·simp only [sy.1,rE,reduceIte,rL,syw.1,hl23,hl24,hl25,sh1,b4',xZW,b5,b6,b7];apply hn;clear hn hp K;refine qW (by simp only [sy.1,rE,reduceIte]) ?_;refine qB fun K hn hp=> ?_;simp only [sy.1,rL];apply hn;clear hn hp K;have b7':decide ((m.ps.length:Int)<=12)=false:=decide_eq_false (by have:=of_decide_eq_true b7;omega);refine qQ (retF _ _ (by omega) (by simp [xZZ]) (Mp.rest_no (by simp only [Mp.restOk,b7',xZU,xZT])))
 have b7':decide ((m.ps.length:Int)<=12)=true:=decide_eq_true (by have:=of_decide_eq_false b7;omega);simp only [sy.1,rE,reduceIte,rL,syw.1,hl23,hl24,hl25,sh1,b4',xZW,b5,b6,b7];apply hn;clear hn hp K;refine jB (by simp only [sy.1,rE,reduceIte]) ?_;refine qB fun K hn hp=> ?_;simp only [sy.1,rL];apply hn;clear hn hp K;have hRb:=xK.1 b1;have hWb:=xK.1 b2;have hlc:=ha.lc;refine qD fun KA A1 A2 A3 A4 A5=> ?_;refine qM (sok xt) (fun st=> ∃(r:Nat) (n:Nat) (tm:T AV),st=⟨tm,192,h1.up n,[]⟩/\r<=m.cells.length/\tm.get 1=some (.ptr h.n 0)/\tm.get 3=some (iv r)/\h1.n<=n/\ ∀j,j<r->m.rowOk (m.cells.getD j [])=true) (fun st=>m.cells.length - (match st.tm.get 3 with|some (.val (.int _ n))=>n.toNat|_=>0)) ?_ ?_
 ·rintro st ⟨r,n,tm,rfl,hkA,g1,g3,hna,hrows⟩;have muA:=g3;refine qB fun K hn hp=> ?_;simp only [sy.1,rE,reduceIte,rL,rA,sh1,g1,g3];refine cAS (pO xt _ m (ha1.up hna) fun n7 hn7=> ?_);simp only [xZN] at hn7;simp only [sy.1,rE,reduceIte,rL,qV,xZW];apply hn;clear hn hp K;by_cases hr:r<m.cells.length
  ·refine qW (by simp only [sy.1,rE,reduceIte,hr]) ?_;obtain ⟨v,i1,i2,i3,i4⟩:=ha.rowF hr;have i2:=i2 h1 fh1;obtain ⟨l,hl⟩: ∃l,l=m.cells.getD r []:=⟨_,rfl⟩;rw [<-hl] at i3 i4;refine vH ?_;refine qD fun KB B1 B2 B3 B4 B5=> ?_;refine jK ?_;refine jL (sok xt) 0 0 9 [(1,1),(4,1),(5,1)] (by kernel_rfl) fun K hn hp=> ?_;simp only [sy.1,rE,reduceIte,rL,rA,syw.1,sh1,g1,g3,i1,i2,i4];refine cAS (qBs xt _ m (ha1.up (by omega)) fun n8 hn8=> ?_);simp only [xZN] at hn8;simp only [sy.1,rE,reduceIte,rL,rA,syw.1,sh1,i2,i4,hn8,xZW];apply hn;clear hn hp K;cases q:decide ((l.length:Int)=m.W)
   ·refine qW (by simp only [sy.1,rE,reduceIte]) ?_;refine qB fun K hn hp=> ?_;simp only [sy.1,rL];apply hn;clear hn hp K;refine qQ (B4 _ (A4 _ (retF _ _ (by omega) (by simp [xZZ]) (Mp.row_no hr ?_))));rw [<-hl];have q:decide ((l.length:Int)=m.C)=false:=q;simp only [Mp.rowOk,q,xZU]
   refine jB (by simp only [sy.1,rE,reduceIte]) ?_;refine qA fun K hn hp=> ?_;simp only [sy.1,rL];apply hn;clear hn hp K;have hlW:l.length=m.W:=by have:=of_decide_eq_true q;omega
   refine qZ fun KD D1 D2 D3 D4 D5=> ?_;refine qM (sok xt) (fun st=> ∃(c:Nat) (nc:Nat) (tm:T AV),st=⟨tm,192,h1.up nc,[]⟩/\c<=m.W/\tm.get 1=some (.ptr h.n 0)/\tm.get 3=some (iv r)/\tm.get 4=some (iv c)/\h1.n<=nc/\ ∀j,j<c->zX (l.getD j 0)=false) (fun st=>m.W - (match st.tm.get 4 with|some (.val (.int _ n))=>n.toNat|_=>0)) ?_ ?_
   ·rintro st ⟨c,nc,tm,rfl,hkD,g1,g3,g4,hnc,hcols⟩;have muD:=g4;refine qB fun K hn hp=> ?_;simp only [sy.1,rE,reduceIte,rL,rA,sh1,g1,g4];refine cAS (qBs xt _ m (ha1.up hnc) fun n9 hn9=> ?_);simp only [xZN] at hn9;simp only [sy.1,rE,reduceIte,rL,qV,xZW];apply hn;clear hn hp K;by_cases hc:c<m.W
    ·refine qW (by simp only [sy.1,rE,reduceIte,hc]) ?_;obtain ⟨x1,x2⟩:=(i3.fr fh1 (xZY _)).m58 (k:=c) (by omega);have no:zX (l.getD c 0)=true->m.ok=false:=fun hb=>Mp.row_no hr (by
      rw [<-hl];have:l.any zX=true:=qCf (xZX (getD_some 0 (show c<l.length by omega))) hb;simp only [Mp.rowOk,this,xZE,xZT])
     refine vH ?_;refine qD fun KE E1 E2 E3 E4 E5=> ?_;cases q1:decide (l.getD c 0<1)
     ·cases q2:decide (3<l.getD c 0)
      ·refine qA fun K hn hp=> ?_;simp only [sy.1,rE,reduceIte,rL,syw.1,sh1,g1,g3,i1,i2,g4,x1,x2,q1,q2];apply hn;clear hn hp K;refine wcF (by simp only [sy.1,rE,reduceIte]) ?_;refine qR (E1 _ ?_);refine reg fun K hn hp=> ?_;simp only [sy.1,rE,reduceIte,rL,g4,qF hc (show m.W<=9223372036854775807 by omega)];apply hn;clear hn hp K;refine ⟨⟨c+1,n9,_,rfl,by omega,(by simp [xZZ,g1]),(by simp [xZZ,g3]),(by simp [xZZ]),by omega,fun j hj=> ?_⟩,by simpa [xZZ,muD] using (by omega:m.W - (c+1)<m.W - c)⟩;by_cases e:j=c
       ·rw [e];simp only [zX,q1,q2];rfl
       ·exact hcols j (by omega)
      ·refine qA fun K hn hp=> ?_;simp only [sy.1,rE,reduceIte,rL,syw.1,sh1,g1,g3,i1,i2,g4,x1,x2,q1,q2];apply hn;clear hn hp K;refine wcT (by simp only [sy.1,rE,reduceIte]) ?_;refine qA fun K hn hp=> ?_;simp only [sy.1,rL];apply hn;clear hn hp K;refine qC (E4 _ (D4 _ (B4 _ (A4 _ (retF _ _ (by omega) (by simp [xZZ]) (no (by simp only [zX,q1,q2];rfl)))))))
     ·refine qA fun K hn hp=> ?_;simp only [sy.1,rE,reduceIte,rL,syw.1,sh1,g1,g3,i1,i2,g4,x1,x2,q1];apply hn;clear hn hp K;refine wcT (by simp only [sy.1,rE,reduceIte]) ?_;refine qA fun K hn hp=> ?_;simp only [sy.1,rL];apply hn;clear hn hp K;refine qC (E4 _ (D4 _ (B4 _ (A4 _ (retF _ _ (by omega) (by simp [xZZ]) (no (by simp only [zX,q1];rfl)))))))
    ·refine jD (by simp only [sy.1,rE,reduceIte,hc]) ?_;refine qL (D2 _ (B1 _ ?_));refine reg fun K hn hp=> ?_;simp only [sy.1,rE,reduceIte,rL,g3,qF hr hlc];apply hn;clear hn hp K;refine ⟨⟨r+1,n9,_,rfl,by omega,(by simp [xZZ,g1]),(by simp [xZZ]),by omega,fun j hj=> ?_⟩,by simpa [xZZ,muA] using (by omega:m.cells.length - (r+1)<m.cells.length - r)⟩;by_cases e:j=r
     ·rw [e,<-hl];have h1:decide ((l.length:Int)=m.C)=true:=decide_eq_true (by rw [hlW];rfl);have h2:inB l.length 1 8=true:=by rw [hlW];exact b2
      have h3:l.any zX=false:=by
       rw [xZL];intro x hx;obtain ⟨j,hj,rfl⟩:=xYM hx;have:=hcols j (by omega);rw [xZR,xZV hj] at this;simpa using this
      simp only [Mp.rowOk,h1,h2,h3];rfl
     ·exact hrows j (by omega)
   ·exact ⟨0,n8,_,rfl,(by omega),(by simp [xZZ,g1]),(by simp [xZZ,g3]),(by simp [xZZ]),by omega,fun j hj=>absurd hj (Nat.not_lt_zero _)⟩
  ·refine jD (by simp only [sy.1,rE,reduceIte,hr]) ?_;have hall:m.cells.all m.rowOk=true:=by
    rw [xZP];intro l hl;obtain ⟨j,hj,rfl⟩:=xYM hl;have:=hrows j (by omega)
    rwa [xZR,xZV hj] at this
   have hrect:m.Rect:=fun l hl=>by
    have:=xZP.1 hall l hl;simp only [Mp.rowOk,xZQ,decide_eq_true_eq] at this;have h1:(l.length:Int)=(m.cells.headD []).length:=this.1;omega
   refine qL (A2 _ ?_);refine qB fun K hn hp=> ?_;simp only [sy.1,rL];apply hn;clear hn hp K;refine qD fun KG G1 G2 G3 G4 G5=> ?_;refine qM (sok xt) (fun st=> ∃(i:Nat) (hg:Hp) (tm:T AV),st=⟨tm,192,hg,[]⟩/\i<=m.gs.length/\tm.get 1=some (.ptr h.n 0)/\tm.get 5=some (iv i)/\Fr h1.n h1 hg/\ ∀x∈m.gs.take i,m.badG x=false) (fun st=>m.gs.length - (match st.tm.get 5 with|some (.val (.int _ n))=>n.toNat|_=>0)) ?_ ?_
   ·rintro st ⟨i,hg,tm,rfl,hkG,g1,g5,fg,hallg⟩;have muG:=g5;have fgh:=fh1.trans fg (by omega);have q1:=(fg.at_ h.n (.inl (by omega))).trans sh1;refine qB fun K hn hp=> ?_;simp only [sy.1,rE,reduceIte,rL,syw.1,qV,hl23,g1,g5,q1];apply hn;clear hn hp K;by_cases hi:i<m.gs.length
    ·refine qW (by simp only [sy.1,rE,reduceIte,hi]) ?_;have hag:=ha.fr fgh (xZY _);obtain ⟨x,hx⟩: ∃x,m.gs[i]? =some x:=⟨_,xZV hi⟩;have i1:=hag.gs.idx tg23 rfl qA9 rfl (i:=i) (by simpa using hi) (k:= .i64);have i2:=hag.gs.loadA qA9 rfl rfl (i:=i) (c:=Kn.g4 x) (by rw [xZS,hx];rfl);have hbad:=m.badG_rc hrect x;have gno:m.badG x=true->m.ok=false:=fun hb=>Mp.g_no (xZX hx) hb;have gyes:m.badG x=false-> ∀y∈m.gs.take (i+1),m.badG y=false:=fun hb=>by
      rw [xYR,hx];intro y hy;simp only [xYZ,xYV,xYY] at hy;rcases hy with hy|rfl
      ·exact hallg y hy
      ·exact hb
     obtain ⟨xr,xc,xs,xo⟩:=x;simp only [Kn.g4,xYQ,List.map_nil] at i2 hbad;refine vH ?_;refine qD fun KH H1 H2 H3 H4 H5=> ?_;refine qA fun K hn hp=> ?_;simp only [sw.1,rE,reduceIte,rL,rA,al48,g1,g5,i1,i2,q1];apply hn;clear hn hp K;obtain ⟨h9,hh9,nh9,sh9,_,fbh9⟩:=nwS hg (.cells [iv 0,iv 0,iv 0,iv 0] 48) (.cells [iv xr,iv xc,iv xs,iv xo] 48);rw [<-hh9];have f9:=fg.trans fbh9 fg.lo;have q9:=(f9.at_ h.n (.inl (by omega))).trans sh1;refine qA fun K hn hp=> ?_;simp only [sy.1,rE,reduceIte,rL,rA,g1,sh9,q9];refine cAS (rc_c xt h9 m (ha1.fr f9 (xZY _)) xr xc fun n9 hn9=> ?_);have retG: ∀(n:Nat) (tm:T AV),h9.n<=n->tm.get 2=some (.val (.bool false))->m.badG (xr,xc,xs,xo)=true->xX (SE xt) Tryz.f39 (fun r h'=>r= .ret (.val (.bool m.ok))/\Fr h.n h h') .ret ⟨tm,192,h9.up n,[]⟩:=fun n tm hn g hm=>qH res39 ⟨by simp [g,gno hm],(fh1.trans f9 (by omega)).up hn⟩;by_cases c1:m.rc xr xc=1
     ·simp only [sy.1,rE,reduceIte,rL,decide_eq_true c1];apply hn;clear hn hp K;refine wcT (by simp only [sy.1,rE,reduceIte]) ?_;refine qA fun K hn hp=> ?_;simp only [sy.1,rL];apply hn;clear hn hp K;refine qC (H4 _ (G4 _ (retG _ _ (by omega) (by simp [xZZ]) (by rw [hbad,decide_eq_true c1];rfl))))
     simp only [sy.1,rE,reduceIte,rL,sh9,decide_eq_false c1];refine cAS (kZ xt _ _ _ _ fun n10 hn10=> ?_);simp only [xZN] at hn10;cases c2:inB xs 0 60
     ·have c2':=c2;unfold inB at c2';simp only [sy.1,rE,reduceIte,rL,c2',xZW];apply hn;clear hn hp K;refine wcT (by simp only [sy.1,rE,reduceIte]) ?_;refine qA fun K hn hp=> ?_;simp only [sy.1,rL];apply hn;clear hn hp K;refine qC (H4 _ (G4 _ (retG _ _ (by omega) (by simp [xZZ]) (by rw [hbad,c2];simp))))
     have c2':=c2;unfold inB at c2';simp only [sy.1,rE,reduceIte,rL,sh9,c2',xZW];refine cAS (kZ xt _ _ _ _ fun n11 hn11=> ?_);simp only [xZN] at hn11;cases c3:inB xo 0 9
     ·have c3':=c3;unfold inB at c3';simp only [sy.1,rE,reduceIte,rL,c3',xZW];apply hn;clear hn hp K;refine wcT (by simp only [sy.1,rE,reduceIte]) ?_;refine qA fun K hn hp=> ?_;simp only [sy.1,rL];apply hn;clear hn hp K;refine qC (H4 _ (G4 _ (retG _ _ (by omega) (by simp [xZZ]) (by rw [hbad,c3];simp))))
     have c3':=c3;unfold inB at c3';simp only [sy.1,rE,reduceIte,rL,c3',xZW];apply hn;clear hn hp K;refine wcF (by simp only [sy.1,rE,reduceIte]) ?_;refine qR (H1 _ ?_);refine reg fun K hn hp=> ?_;simp only [sy.1,rE,reduceIte,rL,g5,qF hi ha.lg];apply hn;clear hn hp K;refine ⟨⟨i+1,_,_,rfl,by omega,(by simp [xZZ,g1]),(by simp [xZZ]),f9.up (by omega),gyes (by rw [hbad,decide_eq_false c1,c2,c3];rfl)⟩,by simpa [xZZ,muG] using (by omega:m.gs.length - (i+1)<m.gs.length - i)⟩
    ·refine jD (by simp only [sy.1,rE,reduceIte,hi]) ?_;rw [xZD (by omega)] at hallg;refine qL (G2 _ ?_);refine qB fun K hn hp=> ?_;simp only [sy.1,rL];apply hn;clear hn hp K;refine qD fun KP P1 P2 P3 P4 P5=> ?_;refine qM (sok xt) (fun st=> ∃(i:Nat) (hk:Hp) (tm:T AV),st=⟨tm,192,hk,[]⟩/\i<=m.ks.length/\tm.get 1=some (.ptr h.n 0)/\tm.get 7=some (iv i)/\Fr h1.n h1 hk/\ ∀x∈m.ks.take i,m.badK x=false) (fun st=>m.ks.length - (match st.tm.get 7 with|some (.val (.int _ n))=>n.toNat|_=>0)) ?_ ?_
     ·rintro st ⟨i,hk,tm,rfl,hkP,g1,g7,fk,hallk⟩;have muP:=g7;have fkh:=fh1.trans fk (by omega);have q1:=(fk.at_ h.n (.inl (by omega))).trans sh1;refine qB fun K hn hp=> ?_;simp only [sy.1,rE,reduceIte,rL,syw.1,qV,hl24,g1,g7,q1];apply hn;clear hn hp K;by_cases hi:i<m.ks.length
      ·refine qW (by simp only [sy.1,rE,reduceIte,hi]) ?_;have hag:=ha.fr fkh (xZY _);obtain ⟨x,hx⟩: ∃x,m.ks[i]? =some x:=⟨_,xZV hi⟩;have i1:=hag.ks.idx tg24 rfl qBW rfl (i:=i) (by simpa using hi) (k:= .i64);have i2:=hag.ks.loadA qBW rfl rfl (i:=i) (c:=Kn.k3 x) (by rw [xZS,hx];rfl);have kno:m.badK x=true->m.ok=false:=fun hb=>Mp.k_no (xZX hx) hb;have kyes:m.badK x=false-> ∀y∈m.ks.take (i+1),m.badK y=false:=fun hb=>by
        rw [xYR,hx];intro y hy;simp only [xYZ,xYV,xYY] at hy;rcases hy with hy|rfl
        ·exact hallk y hy
        ·exact hb
       obtain ⟨xr,xc,xd⟩:=x;simp only [Kn.k3,xYQ,List.map_nil] at i2;refine vH ?_;refine qD fun KH H1 H2 H3 H4 H5=> ?_;refine qA fun K hn hp=> ?_;simp only [sw.1,rE,reduceIte,rL,rA,al50,g1,g7,i1,i2,q1];apply hn;clear hn hp K;obtain ⟨h9,hh9,nh9,sh9,_,fbh9⟩:=nwS hk (.cells [iv 0,iv 0,.val (.bool false)] 50) (.cells [iv xr,iv xc,.val (.bool xd)] 50);rw [<-hh9];have f9:=fk.trans fbh9 fk.lo;have q9:=(f9.at_ h.n (.inl (by omega))).trans sh1;have retK: ∀(n:Nat) (tm:T AV),h9.n<=n->tm.get 2=some (.val (.bool false))->m.badK (xr,xc,xd)=true->xX (SE xt) Tryz.f39 (fun r h'=>r= .ret (.val (.bool m.ok))/\Fr h.n h h') .ret ⟨tm,192,h9.up n,[]⟩:=fun n tm hn g hm=>qH res39 ⟨by simp [g,kno hm],(fh1.trans f9 (by omega)).up hn⟩;refine qA fun K hn hp=> ?_;simp only [sy.1,rE,reduceIte,rL,rA,g1,sh9,q9];refine cAS (qEg xt h9 m (ha1.fr f9 (xZY _)) xr xc fun n9 hn9=> ?_);cases c1:m.inside xr xc
       ·simp only [sy.1,rE,reduceIte,rL,syw.1];apply hn;clear hn hp K;refine wcT (by simp only [sy.1,rE,reduceIte]) ?_;refine qA fun K hn hp=> ?_;simp only [sy.1,rL];apply hn;clear hn hp K;refine qC (H4 _ (P4 _ (retK _ _ (by omega) (by simp [xZZ]) (by simp only [Mp.badK,c1];rfl))))
       cases xd with
       |false=>
        simp only [sy.1,rE,reduceIte,rL,rA,g1,sh9,q9];refine cAS (qEg xt (h9.up n9) m ((ha1.fr f9 (xZY _)).up (by omega)) xr (IntKind.i64.wrap (xc+1)) fun n10 hn10=> ?_);simp only [xZN] at hn10;cases c2:m.inside xr (IntKind.i64.wrap (xc+1))
        ·simp only [sy.1,rE,reduceIte,rL,xZW];apply hn;clear hn hp K;refine wcT (by simp only [sy.1,rE,reduceIte]) ?_;refine qA fun K hn hp=> ?_;simp only [sy.1,rL];apply hn;clear hn hp K;refine qC (H4 _ (P4 _ (retK _ _ (by omega) (by simp [xZZ]) (by simp only [Mp.badK,bK,bL,c1,c2,xYK,if_false];rfl))))
        ·simp only [sy.1,rE,reduceIte,rL,xZW];apply hn;clear hn hp K;refine wcF (by simp only [sy.1,rE,reduceIte]) ?_;refine qR (H1 _ ?_);refine reg fun K hn hp=> ?_;simp only [sy.1,rE,reduceIte,rL,g7,qF hi ha.lk];apply hn;clear hn hp K;refine ⟨⟨i+1,_,_,rfl,by omega,(by simp [xZZ,g1]),(by simp [xZZ]),f9.up (by omega),kyes (by simp only [Mp.badK,bK,bL,c1,c2,xYK,if_false];rfl)⟩,by simpa [xZZ,muP] using (by omega:m.ks.length - (i+1)<m.ks.length - i)⟩
       |true=>
        simp only [sy.1,rE,reduceIte,rL,rA,g1,sh9,q9];refine cAS (qEg xt (h9.up n9) m ((ha1.fr f9 (xZY _)).up (by omega)) (IntKind.i64.wrap (xr+1)) xc fun n10 hn10=> ?_);simp only [xZN] at hn10;cases c2:m.inside (IntKind.i64.wrap (xr+1)) xc
        ·simp only [sy.1,rE,reduceIte,rL,syw.1,xZW];apply hn;clear hn hp K;refine wcT (by simp only [sy.1,rE,reduceIte]) ?_;refine qA fun K hn hp=> ?_;simp only [sy.1,rL];apply hn;clear hn hp K;refine qC (H4 _ (P4 _ (retK _ _ (by omega) (by simp [xZZ]) (by simp only [Mp.badK,bK,bL,c1,c2,if_true];rfl))))
        ·simp only [sy.1,rE,reduceIte,rL,sh9,xZW];apply hn;clear hn hp K;refine wcF (by simp only [sy.1,rE,reduceIte]) ?_;refine qR (H1 _ ?_);refine reg fun K hn hp=> ?_;simp only [sy.1,rE,reduceIte,rL,g7,qF hi ha.lk];apply hn;clear hn hp K;refine ⟨⟨i+1,_,_,rfl,by omega,(by simp [xZZ,g1]),(by simp [xZZ]),f9.up (by omega),kyes (by simp only [Mp.badK,bK,bL,c1,c2,if_true];rfl)⟩,by simpa [xZZ,muP] using (by omega:m.ks.length - (i+1)<m.ks.length - i)⟩
      ·refine jD (by simp only [sy.1,rE,reduceIte,hi]) ?_;rw [xZD (by omega)] at hallk;refine qL (P2 _ ?_);refine qB fun K hn hp=> ?_;simp only [sy.1,rL];apply hn;clear hn hp K;refine qD fun KQ Q1 Q2 Q3 Q4 Q5=> ?_;refine qM (sok xt) (fun st=> ∃(i:Nat) (hz:Hp) (tm:T AV),st=⟨tm,192,hz,[]⟩/\i<=m.ps.length/\tm.get 1=some (.ptr h.n 0)/\tm.get 9=some (iv i)/\Fr h1.n h1 hz/\ ∀x∈m.ps.take i,m.is x.1 x.2 2=true) (fun st=>m.ps.length - (match st.tm.get 9 with|some (.val (.int _ n))=>n.toNat|_=>0)) ?_ ?_
       ·rintro st ⟨i,hz,tm,rfl,hkQ,g1,g9,fz,hallp⟩;have muQ:=g9;have fzh:=fh1.trans fz (by omega);have q1:=(fz.at_ h.n (.inl (by omega))).trans sh1;refine qB fun K hn hp=> ?_;simp only [sy.1,rE,reduceIte,rL,syw.1,qV,hl25,g1,g9,q1];apply hn;clear hn hp K;by_cases hi:i<m.ps.length
        ·refine qW (by simp only [sy.1,rE,reduceIte,hi]) ?_;have hag:=ha.fr fzh (xZY _);obtain ⟨x,hx⟩: ∃x,m.ps[i]? =some x:=⟨_,xZV hi⟩;have hne:m.ps.map p2≠[]:=fun hq=>by
          have:m.ps.length=0:=by simpa using congrArg List.length hq
          omega
         have i1:=hag.ps.idx tg25 rfl qAo rfl (i:=i) (by simpa using hi) (k:= .i64);have i2:=hag.ps.fa hne qAo rfl (f:=0) (o:=0) (s:=0) (ft:=3) rfl (i*2);have i3:=hag.ps.fa hne qAo rfl (f:=1) (o:=1) (s:=0) (ft:=3) rfl (i*2);have i4:=hag.ps.load tg3 rfl (i:=i) (j:=0) (c:=p2 x) (u:= .int .i64 x.1) (by rw [xZS,hx];rfl) rfl;have i5:=hag.ps.load tg3 rfl (i:=i) (j:=1) (c:=p2 x) (u:= .int .i64 x.2) (by rw [xZS,hx];rfl) rfl;simp only [Nat.add_zero] at i2 i4;have hbad:=m.is_rc hrect x.1 x.2;refine vH ?_;refine qD fun KH H1 H2 H3 H4 H5=> ?_;refine zM (sok xt) 13 (by kernel_rfl) fun K hn hp=> ?_;simp only [sy.1,rE,reduceIte,rL,rA,g1,g9,i1,i2,i3,i4,i5,q1];refine cAS (rc_c xt hz m (ha1.fr fz (xZY _)) x.1 x.2 fun n9 hn9=> ?_);by_cases c1:m.rc x.1 x.2=2
         ·simp only [sy.1,rE,reduceIte,rL,decide_eq_true c1];apply hn;clear hn hp K;refine wcF (by simp only [sy.1,rE,reduceIte]) ?_;refine qR (H1 _ ?_);refine reg fun K hn hp=> ?_;simp only [sy.1,rE,reduceIte,rL,g9,qF hi ha.lp];apply hn;clear hn hp K;refine ⟨⟨i+1,_,_,rfl,by omega,(by simp [xZZ,g1]),(by simp [xZZ]),fz.up (by omega),?_⟩,by simpa [xZZ,muQ] using (by omega:m.ps.length - (i+1)<m.ps.length - i)⟩;rw [xYR,hx];intro y hy;simp only [xYZ,xYV,xYY] at hy;rcases hy with hy|rfl
          ·exact hallp y hy
          ·rw [hbad,decide_eq_true c1]
         ·simp only [sy.1,rE,reduceIte,rL,decide_eq_false c1];apply hn;clear hn hp K;refine wcT (by simp only [sy.1,rE,reduceIte]) ?_;refine qA fun K hn hp=> ?_;simp only [sy.1,rL];apply hn;clear hn hp K;refine qC (H4 _ (Q4 _ (qH res39 ⟨?_,fzh.up (by omega)⟩)));have:m.ok=false:=Mp.p_no (xZX hx) (by rw [hbad,decide_eq_false c1]);simp [xZZ,this]
        ·refine jD (by simp only [sy.1,rE,reduceIte,hi]) ?_;rw [xZD (by omega)] at hallp;refine qL (Q2 _ ?_);refine qA fun K hn hp=> ?_;simp only [sy.1,rL];apply hn;clear hn hp K;refine qC (qH res39 ⟨?_,fzh⟩);have e1:m.gs.any m.badG=false:=by rw [xZL];intro x hx;rw [hallg x hx];exact xZM
         have e2:m.ks.any m.badK=false:=by rw [xZL];intro x hx;rw [hallk x hx];exact xZM
         have e3:m.ps.any (fun p=> !m.is p.1 p.2 2)=false:=by rw [xZL];intro x hx;rw [hallp x hx];exact xZM
         have e4:inB m.R 1 6=true:=b1;have:m.ok=true:=by
          simp only [Mp.ok,Mp.restOk,e4,hall,b3,b4,b5',b6',b7',e1,e2,e3];rfl
         simp [xZZ,this]
       ·exact ⟨0,_,_,rfl,(by omega),(by simp [xZZ,g1]),(by simp [xZZ]),fk,fun x hx=>by simp at hx⟩
     ·exact ⟨0,_,_,rfl,(by omega),(by simp [xZZ,g1]),(by simp [xZZ]),fg,fun x hx=>by simp at hx⟩
   ·exact ⟨0,h1.up n7,_,rfl,(by omega),(by simp [xZZ,g1]),(by simp [xZZ]),(Fr.refl (xZY _)).up (by omega),fun x hx=>by simp at hx⟩
 ·exact ⟨0,n6,_,rfl,(by omega),(by simp [xZZ]),(by simp [xZZ]),by omega,fun j hj=>absurd hj (Nat.not_lt_zero _)⟩
def Bw (F:Nat->Nat->Int×Int):Prop:= ∀r c,(0<=(F r c).1/\(F r c).1<=60)/\0<=(F r c).2/\(F r c).2<=60
theorem Bw.F0 (m:Mp):Bw m.F0:=fun r c=>by simp only [Mp.F0];split<;>simp
theorem Bw.put {F:Nat->Nat->Int×Int} (h:Bw F) {r c:Nat} {s:Int×Int} (h1:s.1<=60) (h2:0<=s.2):Bw (Th.putRow F r (Th.put (F r) c (Th.nar (F r c) s))):=fun x y=>by
 have h0:=h r c;by_cases e:x=r
 ·subst e;rw [Th.putRow_at];by_cases e:y=c
  ·subst e;rw [Th.put_at];simp only [Th.nar];omega
  ·rw [Th.put_ne _ _ e];exact h x y
 ·rw [Th.putRow_ne _ _ e];exact h x y
structure TInv (h:Hp) (m:Mp) (C:Nat) (hc:Hp) (v:AV) (M R:Nat) (F:Nat->Nat->Int×Int):Prop where
 fr:Fr h.n h hc
 b0:hc.t.get h.n=some (.cells m.cs 27)
 sg:SG hc (h.n+1) M v R C F
 le:h.n+1<=M
 hi:M<=hc.n
theorem TInv.keep {h hc hd:Hp} {m:Mp} {C:Nat} {v:AV} {M R:Nat} {F:Nat->Nat->Int×Int} (b:TInv h m C hc v M R F) {n:Nat} (f:Fr n hc hd) (hn:M<=n):TInv h m C hd v M R F:=by
 have h1:=b.le;have h2:=b.hi;have h3:=f.le;exact ⟨b.fr.trans f (by omega),by rw [f.at_ _ (by omega)];exact b.b0,b.sg.fr f hn,b.le,by omega⟩
theorem TInv.frR {h hc hd:Hp} {m:Mp} {C:Nat} {v:AV} {M R:Nat} {F G:Nat->Nat->Int×Int} (b:TInv h m C hc v M R F) (f:FrR (h.n+1) M hc hd) (hs:SG hd (h.n+1) M v R C G):TInv h m C hd v M R G:=by
 have h1:=b.le;have h2:=b.hi;have h3:=f.le;exact ⟨b.fr.trans (f.fr (by omega)) (by omega),by rw [f.at_ _ (by omega)];exact b.b0,hs,b.le,by omega⟩
theorem qBL {t:T AO} {n:Nat} {o:AO} {os:List AO}:vK t n (o::os)=(vK t (n+1) os).put (some o) n:=rfl
def endOf (hi:Bool) (x:Int×Int):Int:=if hi then x.2 else x.1
def endL (hi:Bool) (F:Nat->Nat->Int×Int) (R C:Nat):List (List Int):=(List.range R).map fun r=>(List.range C).map fun c=>endOf hi (F r c)
theorem bs75 (h:Hp) (n:Int):jN tb h 75 1 [(0,iv n)]=some (.sl h.n 0 1 1,h.new (.cells [iv n] 3)):=by kernel_rfl
def ivs (l:List Int):List AV:=l.map fun x=>iv x
theorem qEz (l:List Int):ivs l=((l.map Kn.c1).flatten).map .val:=by
 induction l with
 |nil=>rfl
 |cons x l ih=>simp only [ivs,xYQ] at ih ⊢;rw [ih];rfl
theorem qEn {xt:Xt} {h:Hp} {N:Nat} {v:AV} {l:List Int} (o:OwnSl h N 1 3 v l.length (ivs l)):RowAt xt h 1 v (l.map Kn.c1):=by
 rw [qEz] at o;exact OwnSl.row (N:=N) (e:=3) (fun c hc=>by obtain ⟨x,_,rfl⟩:=xZI.1 hc;rfl) (by omega) (by rw [xYU];exact o)
end Go.Proofs.Kn
noncomputable section
namespace Go.Ev
theorem zL {P:Program} {α β:Type}: ∀(s:Sem α) (f:α->Sem β),qO P (s>>=f)=(qO P s).bind (fun a=>qO P (f a))
 | .pure a,f=>rfl
 | .program k,f=>by show qO P ((k P)>>=f)=_;rw [zL (k P) f];rfl
 | .mark m k,f=>by show qO P (k>>=f)=_;rw [zL k f];rfl
 | .load _ _ _,_=>rfl
 | .store _ _ _ _,_=>rfl
 | .new _ _,_=>rfl
 | .shape _ _,_=>rfl
 | .freeze _ _ _,_=>rfl
 | .frozen _ _,_=>rfl
 | .getObj _ _,_=>rfl
 | .setObj _ _ _,_=>rfl
 | .choose _ _,_=>rfl
 | .sys _ _,_=>rfl
 | .halt _,_=>rfl
theorem jY {P:Program} {α:Type} (a:α):qO P (pure a:Sem α)=some a:=rfl
theorem yY {P:Program} {α:Type} (c:Prop) [Decidable c] (a b:Sem α):qO P (if c then a else b)=if c then qO P a else qO P b:=by split<;>rfl
theorem pH {P:Program}:qO P program=some P:=rfl
end Go.Ev
namespace Go.Proofs.Kn
open Go Go.Ev
theorem eqib (d:Nat) (t:TypeId) (ht:qO Tryz.prog (underlying t)=some .bool) (a b:Bool):qO Tryz.prog (Op.equalIn (d+1) t (.bool a) (.bool b))=some (a==b):=by
 rw [Op.equalIn];simp only [zL,ht,Option.bind_some,jY]
end Go.Proofs.Kn
end
namespace Go.Proofs.Kn
open Go Go.Ev
set_option maxRecDepth 100000
set_option maxHeartbeats 4000000
theorem _root_.Go.Ev.FnA.inc {E:Env} {f:FuncId} {args:List AV} {h:Hp} {K:KP} (hc:FnA E f args h (fun r h'=>K r (h'.up (h'.n+1)))):FnA E f args h K:=by
 obtain ⟨r,h',h1,h2⟩:=hc;exact ⟨r,_,h1.bump (Nat.le_succ _),h2⟩
theorem endL_row (b:Bool) (F:Nat->Nat->Int×Int) {R C r:Nat} (hr:r<R):(endL b F R C).getD r []=(List.range C).map fun c=>endOf b (F r c):=by
 rw [xZR,endL,xZS,xZO hr];rfl
def Mp.rthick (m:Mp):Th.Grid:=Th.thickR m.T m.J (m.W - 1) m.F0 (m.gs.map gg) m.cells.length (m.W+1)
def Mp.rposs (m:Mp):Bool:=rfitsB m ⟨default,endL false m.rthick m.cells.length m.W⟩
structure Mp.Truth (m:Mp) (R C:Nat) (t:Nat->Nat->Int):Prop where
 cell: ∀r,r<R-> ∀c,c<C->(m.cell r c=1->t r c=0)/\(¬m.cell r c=1->0<=t r c/\t r c<=60)
 row: ∀r,r<R->Th.True1 m.T (m.J r) (t r) (C - 1)
 gs: ∀x∈m.gs,x.2.2.1 - x.2.2.2<=t x.1.toNat x.2.1.toNat/\t x.1.toNat x.2.1.toNat<=x.2.2.1+x.2.2.2
def Gr.t (g:Gr):Nat->Nat->Int:=fun r c=>(g.ll.getD r []).getD c 0
theorem yQ {p:Nat->Bool} {n:Nat}:(List.range n).all p=true↔ ∀k,k<n->p k=true:=by
 rw [xZP];exact ⟨fun h k hk=>h k (xZH.2 hk),fun h k hk=>h k (xZH.1 hk)⟩
theorem J_iff {m:Mp} {r c:Nat}:m.J r c=true↔ ¬m.cell r c=1/\ ¬m.cell r (c+1)=1:=by
 simp [Mp.J]
theorem qGp {m:Mp} {R C:Nat} (hm:m.Is R C) (hW:m.W=C) (g:Gr):rfitsB m g=true↔m.Truth R C g.t:=by
 have hR:=hm.hR;simp only [rfitsB,xZQ,rfitRow,yQ,xZP (l:=m.gs)];rw [hR,hW];have key: ∀r,r<R->((∀c,c<C->rfitAt m (g.ll.getD r []) r c=true)↔(∀c,c<C->(m.cell r c=1->g.t r c=0)/\(¬m.cell r c=1->0<=g.t r c/\g.t r c<=60))/\Th.True1 m.T (m.J r) (g.t r) (C - 1)):=fun r hr=>by
  have e: ∀c,c<C->(rfitAt m (g.ll.getD r []) r c=true↔(m.cell r c=1->g.t r c=0)/\(¬m.cell r c=1->(0<=g.t r c/\g.t r c<=60)/\(c+1<C-> ¬m.cell r (c+1)=1->g.t r c - m.T<=g.t r (c+1)/\g.t r (c+1)<=g.t r c))):=fun c hc=>by
   show (if m.rc r c=1 then decide (g.t r c=0) else inB (g.t r c) 0 60 && !(!decide (m.rc r (c+1:Nat)=1) && !inB (g.t r (c+1)) (g.t r c - m.T) (g.t r c)))=true↔_;rw [rc_at hm hr,rc_at hm hr,if_pos hc];by_cases h1:m.cell r c=1
   ·simp [h1]
   ·rw [if_neg h1];by_cases h2:c+1<C
    ·rw [if_pos h2];simp only [inB,xZQ,xYI,Bool.and_eq_false_iff,decide_eq_true_eq,xYL,h1,h2,not_false_iff,true_imp_iff,false_imp_iff,true_and];by_cases h3:m.cell r (c+1)=1<;>simp only [h3,not_true,not_false_iff,true_or,false_or,true_imp_iff,false_imp_iff,and_true]<;>omega
    ·rw [if_neg h2];simp only [inB,decide_true,xZE,xZU,Bool.not_false,Bool.and_true,xZQ,decide_eq_true_eq,h1,h2,not_false_iff,true_imp_iff,false_imp_iff,true_and,and_true]
  constructor
  ·intro h;refine ⟨fun c hc=> ?_,fun c hc hj=> ?_⟩
   ·have:=(e c hc).1 (h c hc);exact ⟨this.1,fun q=>(this.2 q).1⟩
   ·have hj:=J_iff.1 hj;exact (((e c (by omega)).1 (h c (by omega))).2 hj.1).2 (by omega) hj.2
  ·rintro ⟨h1,h2⟩ c hc;refine (e c hc).2 ⟨(h1 c hc).1,fun q=>⟨(h1 c hc).2 q,fun h3 h4=> ?_⟩⟩;exact h2 c (by omega) (J_iff.2 ⟨q,h4⟩)
 have kg: ∀x:Int×Int×Int×Int,qFp g x=true↔x.2.2.1 - x.2.2.2<=g.t x.1.toNat x.2.1.toNat/\g.t x.1.toNat x.2.1.toNat<=x.2.2.1+x.2.2.2:=fun x=>by
  show inB (g.t x.1.toNat x.2.1.toNat) _ _=true↔_;rw [xK]
 constructor
 ·rintro ⟨h1,h2⟩;exact ⟨fun r hr=>((key r hr).1 (h1 r hr)).1,fun r hr=>((key r hr).1 (h1 r hr)).2,fun x hx=>(kg x).1 (h2 x hx)⟩
 ·rintro ⟨h1,h2,h3⟩;exact ⟨fun r hr=>(key r hr).2 ⟨h1 r hr,h2 r hr⟩,fun x hx=>(kg x).2 (h3 x hx)⟩
theorem endL_t (v:AV) (b:Bool) (G:Th.Grid) {R C r c:Nat} (hr:r<R) (hc:c<C):(⟨v,endL b G R C⟩:Gr).t r c=endOf b (G r c):=by
 show ((endL b G R C).getD r []).getD c 0=_;rw [endL_row _ _ hr,xZR,xZS,xZO hc];rfl
theorem Mp.Truth.congr {m:Mp} {R C:Nat} {t t':Nat->Nat->Int} (hm:m.Is R C) (h:m.Truth R C t) (he: ∀r,r<R-> ∀c,c<C->t' r c=t r c):m.Truth R C t':=by
 have hC0:=hm.c0;refine ⟨fun r hr c hc=>by rw [he r hr c hc];exact h.cell r hr c hc,fun r hr c hc hj=> ?_,fun x hx=> ?_⟩
 ·rw [he r hr c (by omega),he r hr (c+1) (by omega)];exact h.row r hr c hc hj
 ·obtain ⟨⟨_,q1⟩,⟨_,q2⟩,_⟩:=hm.gs x hx;rw [hm.hR] at q1;rw [he _ q1 _ (by have:=hm.hC _ q1;omega)];exact h.gs x hx
theorem F0_ok (m:Mp):Th.Ok m.F0:=fun r c=>by simp only [Mp.F0];split<;>simp
theorem qF4 {m:Mp} (hm:m.Is m.cells.length m.W) {G:Th.Grid} (h:m.bnd=some G):m.rthick=G/\Th.Ok G/\Th.SubG G m.F0/\m.Truth m.cells.length m.W (fun r c=>(G r c).1)/\m.Truth m.cells.length m.W (fun r c=>(G r c).2):=by
 have hC0:=hm.c0;obtain ⟨h1,h2,h3,_,h5,h6⟩:=Th.bound_ok m.T m.J (m.W - 1) hm.T.1 (F0_ok m) h (m:=m.W+1) (by omega);have hcell: ∀r c,(m.cell r c=1->(G r c).1=0/\(G r c).2=0)/\(¬m.cell r c=1->0<=(G r c).1/\(G r c).2<=60):=fun r c=>by
  have q1:=h2 r c;have q2:=h3 r c;refine ⟨fun q=> ?_,fun q=> ?_⟩
  ·simp only [Mp.F0,q,if_true] at q1;omega
  ·simp only [Mp.F0,q,if_false] at q1;omega
 refine ⟨h1,h3,h2,⟨fun r _ c _=> ?_,h5.row,fun x hx=>h5.gs (gg x) (xYN hx)⟩,⟨fun r _ c _=> ?_,h6.row,fun x hx=>h6.gs (gg x) (xYN hx)⟩⟩
 ·have:=h3 r c;exact ⟨fun q=>((hcell r c).1 q).1,fun q=>by have:=(hcell r c).2 q;omega⟩
 ·have:=h3 r c;exact ⟨fun q=>((hcell r c).1 q).2,fun q=>by have:=(hcell r c).2 q;omega⟩
theorem truth_bnd {m:Mp} (hm:m.Is m.cells.length m.W) {t:Nat->Nat->Int} (h:m.Truth m.cells.length m.W t): ∃G,m.bnd=some G/\ ∀r,r<m.cells.length-> ∀c,c<m.W->(G r c).1<=t r c/\t r c<=(G r c).2:=by
 let t':Nat->Nat->Int:=fun r c=>if r<m.cells.length/\c<m.W then t r c else (m.F0 r c).1
 have h':m.Truth m.cells.length m.W t':=h.congr hm fun r hr c hc=>by simp only [t'];rw [if_pos ⟨hr,hc⟩]
 have hin:Th.InG t' m.F0:=fun r c=>by
  by_cases q:r<m.cells.length/\c<m.W
  ·have:=h'.cell r q.1 c q.2;by_cases q1:m.cell r c=1
   ·have:=this.1 q1;simp only [Mp.F0,q1,if_true];omega
   ·have:=this.2 q1;simp only [Mp.F0,q1,if_false];omega
  ·simp only [t'];rw [if_neg q];have:=F0_ok m r c;exact ⟨Int.le_refl _,this⟩
 obtain ⟨G,hG,hi⟩:=Th.bound_in m.T m.J (m.W - 1) (gs:=m.gs.map gg) (R:=m.cells.length) ⟨h'.row,fun g hg=>by
  obtain ⟨x,hx,rfl⟩:=xZI.1 hg;exact h'.gs x hx⟩ hin
 refine ⟨G,hG,fun r hr c hc=> ?_⟩;have:=hi r c;simp only [t'] at this
 rwa [if_pos ⟨hr,hc⟩] at this
theorem qDL {m:Mp} (hm:m.Is m.cells.length m.W):m.rposs=m.bnd.isSome:=by
 rw [Bool.eq_iff_iff,Mp.rposs,qGp hm rfl];constructor
 ·intro h;obtain ⟨G,hG,_⟩:=truth_bnd hm h;rw [hG];rfl
 ·intro h;obtain ⟨G,hG⟩:=Option.isSome_iff_exists.1 h;obtain ⟨h1,_,_,h4,_⟩:=qF4 hm hG;rw [h1];exact h4.congr hm fun r hr c hc=>endL_t _ false G hr hc
theorem ft16s (xt:Xt):(SE xt).ft.get 16=some Tryz.f16:=by kernel_rfl
theorem xJ (xt:Xt) (h:Hp) {K:KP} (hk: ∀n,h.n<n->K (.ret (.val (.bool true))) (h.up n)):FnA (SE xt) 16 [] h K:=by
 refine xYT (v:= .ret (.val (.bool true))) ⟨_,h,⟨xZY _,⟨_,ft16s xt,rfl⟩,fun lim _ c w args' g hxt ha=> ?_⟩,rfl,Fr.refl (xZY _)⟩ hk;have:args'=[]:=by simpa [RL] using ha
 subst this;refine (callsIn_wide.2 (known_ok w)).mono fun e w' ⟨h1,h2⟩=>⟨c,Stp.below g h2,_,h1,by simp only [R]⟩
theorem d22:decide ((2:Int)=2)=true:=by decide
def xD (r:CR) (_:Hp):Prop:=r= .ret (.val (.bool true))
end Go.Proofs.Kn
noncomputable section
namespace Go.Ev
open Go Go.RowKit
section
variable {H:Type} {enc:TypeId×Value->H} {P:Program} {w:World} {base:Nat} {sp:Nat->Bool} {held:Bool}
theorem cells?_at {a:Addr} {n:Nat} {cs:List Value} (h:w.cells? base a n=some cs):cs.length=n/\ ∀(j:Nat) (u:Value),cs[j]? =some u->w.cell? (a.add j)=some u:=by
 unfold World.cells? at h;split at h
 ·have hl:=mapM_some_length h;simp only [List.length_range] at hl;refine ⟨hl,fun j u hu=> ?_⟩;have hj:=(List.getElem?_eq_some_iff.1 hu).1;have hjn:j<n:=by omega
  have:=mapM_some_get h j j (by rw [xZO hjn]);rw [hu] at this;exact this
 ·cases h
theorem kH {α:Type} [Inhabited α] (f:α->List Value) {sz:Nat} {t e:TypeId} {fuel:Nat} {cs:List Value} {x:DataW H×List MemPlace} (ht:P.underlying t=some (.slice e)) (hc:P.cellsOf e=sz) (h0:0<sz) (h:DataW.trod enc P w base sp held fuel t cs=some x)
  (hf: ∀a,(f a).length=sz) (hdec: ∀(n:Nat) (c:List Value) (y:DataW H×List MemPlace),DataW.trod enc P w base sp held n e c=some y-> ∃a,c=f a) (h':Hp):
  ∃(v:Value) (l:List α),cs=[v]/\l.length<=9223372036854775807/\RowAt w.cell? h' sz (.val v) (l.map f):=by
 rcases DataW.trod_slice ht h with ⟨rfl,_⟩|⟨a,len,cap,elems,rest,n,_,rfl,_,_,hlc,hcm,hel,hat,_⟩
 ·exact ⟨_,[],rfl,by simp,by simp,h0,.inl ⟨rfl,rfl⟩⟩
 have hx: ∀i,i<len-> ∃b:α,w.cells? base (a.add (i*sz)) sz=some (f b):=fun i hi=>by
  have:=hat i hi;rw [xZV (by omega)] at this;obtain ⟨c,h1,h2⟩:=xYS.1 this;obtain ⟨b,rfl⟩:=hdec _ _ _ h2;rw [hc] at h1;exact ⟨b,h1⟩
 let g:Nat->α:=fun i=>if hi:i<len then Classical.choose (hx i hi) else default
 have hg: ∀i,i<len->w.cells? base (a.add (i*sz)) sz=some (f (g i)):=fun i hi=>by
  simp only [g,dif_pos hi];exact Classical.choose_spec (hx i hi)
 have hm:maxLen=9223372036854775807:=rfl;refine ⟨_,(List.range len).map g,rfl,by simp;omega,fun c hc'=> ?_,h0,.inr (.inl ⟨a,cap,by simp,fun i c hi j u hu=> ?_⟩)⟩
 ·simp only [xYP,xZI,Function.comp] at hc';obtain ⟨i,_,rfl⟩:=hc';exact hf _
 ·simp only [xZS,xZF] at hi;obtain ⟨b,⟨k,hk,rfl⟩,rfl⟩:=hi;have hkl:i<len/\k=i:=by
   by_cases hil:i<len
   ·rw [xZO hil] at hk;exact ⟨hil,by simpa using hk.symm⟩
   ·rw [xYO (by simp;omega)] at hk;cases hk
  obtain ⟨hil,rfl⟩:=hkl;have:=(cells?_at (hg k hil)).2 j u hu;rw [qA2] at this;exact this
theorem qY {t ty off:Nat} {fs:Array Field} {fuel:Nat} {cs:List Value} {x:DataW H×List MemPlace} (ht:P.underlying t=some (.struct fs)) (h:DataW.trod enc P w base sp held fuel t cs=some x) (i:Nat) (hf:(fs[i]?).map (fun f=>(f.type,f.offset))=some (ty,off)):
  ∃n y,DataW.trod enc P w base sp held n ty ((cs.drop off).take (P.cellsOf ty))=some y:=by
 obtain ⟨xs,n,_,_,_,hlen,hat⟩:=DataW.trod_struct ht h;cases hfi:fs[i]? with
 |none=>rw [hfi] at hf;cases hf
 |some f=>
  rw [hfi] at hf;simp only [Option.map_some,Option.some.injEq,Prod.mk.injEq] at hf;obtain ⟨rfl,rfl⟩:=hf;have hi:i<xs.length:=by rw [hlen];exact (Array.getElem?_eq_some_iff.1 hfi).1
  exact ⟨n,xs[i],by rw [hat i f hfi];exact xZV hi⟩
theorem vP {t:Nat} {fs:Array Field} {fuel:Nat} {cs:List Value} {x:DataW H×List MemPlace} (ht:P.underlying t=some (.struct fs)) (h:DataW.trod enc P w base sp held fuel t cs=some x):cs.length=P.cellsOf t:=by
 obtain ⟨_,_,_,_,h1,_⟩:=DataW.trod_struct ht h;exact h1
end
def extCtx (w:World):Ctx:=⟨fun _=>False,fun _=>0,fun _=>0,w.cell?⟩
theorem qFP (lim:Nat) (w:World):Good lim (extCtx w) {t:= .e,n:=0} w:=
 ⟨fun _ _ _ h=>h,fun _ _ h=>by simp at h,fun _ _ _ _ h=>by simp at h,fun _ _ h=>⟨h,fun _ _ h=>by simp at h⟩⟩
end Go.Ev
namespace Go.Proofs.Kn
open Go Go.Ev Go.RowKit
theorem law_run {f:FuncId} {xs:List AV} {args':List Value} {w:World} (hc:FnA (SE w.cell?) f xs {t:= .e,n:=0} xD) (ha:RL (extCtx w) xs args'):
  Calls Tryz.prog f args'.toArray w fun e w'=>e= .returned (.bool true)/\Below w.heap.size w w':=by
 obtain ⟨res,h',⟨n1,_,s1⟩,rfl⟩:=hc;refine callsIn_wide.1 ((s1 h'.n (xZY _) (extCtx w) w args' (qFP _ w) (fun _ _ h=>h) ha).mono ?_);rintro e w' ⟨c',hst,y,rfl,hy⟩;refine ⟨?_,⟨hst.os,hst.tape,hst.output,hst.size,fun k hk=>hst.fr k hk (fun _ _ h=>by simp at h)⟩⟩;simp only [R] at hy;rw [hy]
end Go.Proofs.Kn
end
noncomputable section
namespace Go.Ev
open Go Go.RowKit
section
variable {H:Type} {enc:TypeId×Value->H} {P:Program} {w:World} {base:Nat} {sp:Nat->Bool} {held:Bool}
theorem qBI {α:Type} [Inhabited α] (f:α->List Value) (Q:α->Prop) {sz:Nat} {t e:TypeId} {fuel:Nat} {cs:List Value} {x:DataW H×List MemPlace} (ht:P.underlying t=some (.slice e)) (hc:P.cellsOf e=sz) (h0:0<sz) (h:DataW.trod enc P w base sp held fuel t cs=some x)
  (hf: ∀a,(f a).length=sz) (hdec: ∀(n:Nat) (c:List Value) (y:DataW H×List MemPlace),DataW.trod enc P w base sp held n e c=some y-> ∃a,c=f a/\Q a) (h':Hp):
  ∃(v:Value) (l:List α),cs=[v]/\l.length<=9223372036854775807/\RowAt w.cell? h' sz (.val v) (l.map f)/\ ∀a∈l,Q a:=by
 rcases DataW.trod_slice ht h with ⟨rfl,_⟩|⟨a,len,cap,elems,rest,n,_,rfl,_,_,hlc,hcm,hel,hat,_⟩
 ·exact ⟨_,[],rfl,by simp,⟨by simp,h0,.inl ⟨rfl,rfl⟩⟩,by simp⟩
 have hx: ∀i,i<len-> ∃b:α,w.cells? base (a.add (i*sz)) sz=some (f b)/\Q b:=fun i hi=>by
  have:=hat i hi;rw [xZV (by omega)] at this;obtain ⟨c,h1,h2⟩:=xYS.1 this;obtain ⟨b,rfl,hq⟩:=hdec _ _ _ h2;rw [hc] at h1;exact ⟨b,h1,hq⟩
 let g:Nat->α:=fun i=>if hi:i<len then Classical.choose (hx i hi) else default
 have hg: ∀i,i<len->w.cells? base (a.add (i*sz)) sz=some (f (g i))/\Q (g i):=fun i hi=>by
  simp only [g,dif_pos hi];exact Classical.choose_spec (hx i hi)
 have hm:maxLen=9223372036854775807:=rfl;refine ⟨_,(List.range len).map g,rfl,by simp;omega,⟨fun c hc'=> ?_,h0,.inr (.inl ⟨a,cap,by simp,fun i c hi j u hu=> ?_⟩)⟩,fun b hb=> ?_⟩
 ·simp only [xYP,xZI,Function.comp] at hc';obtain ⟨i,_,rfl⟩:=hc';exact hf _
 ·simp only [xZS,xZF] at hi;obtain ⟨b,⟨k,hk,rfl⟩,rfl⟩:=hi;have hkl:i<len/\k=i:=by
   by_cases hil:i<len
   ·rw [xZO hil] at hk;exact ⟨hil,by simpa using hk.symm⟩
   ·rw [xYO (by simp;omega)] at hk;cases hk
  obtain ⟨hil,rfl⟩:=hkl;have:=(cells?_at (hg k hil).1).2 j u hu;rw [qA2] at this;exact this
 ·simp only [xZI,xZH] at hb;obtain ⟨i,hi,rfl⟩:=hb;exact (hg i hi).2
theorem read_grid {t e ee:TypeId} {fuel:Nat} {cs:List Value} {x:DataW H×List MemPlace} (ht:P.underlying t=some (.slice e)) (hc:P.cellsOf e=1) (he:P.underlying e=some (.slice ee)) (hce:P.cellsOf ee=1) (h:DataW.trod enc P w base sp held fuel t cs=some x)
  (hdec: ∀(n:Nat) (c:List Value) (y:DataW H×List MemPlace),DataW.trod enc P w base sp held n ee c=some y-> ∃a:Int,c=[.int .i64 a]) (h':Hp):
  ∃(v:Value) (ll:List (List Int)),cs=[v]/\ll.length<=9223372036854775807/\(∀l∈ll,l.length<=9223372036854775807)/\GridAt w.cell? h' 1 (.val v) (ll.map fun l=>l.map fun a=>[.int .i64 a]):=by
 obtain ⟨v,l,e1,e2,e3,e4⟩:=qBI (α:=Value×List Int) (fun a=>[a.1]) (fun a=>a.2.length<=9223372036854775807/\RowAt w.cell? h' 1 (.val a.1) (a.2.map fun x=>[.int .i64 x])) ht hc (by omega) h (fun _=>rfl) (fun n c y hy=>by
  obtain ⟨v,l,q1,q2,q3⟩:=kH (fun a:Int=>[.int .i64 a]) he hce (by omega) hy (fun _=>rfl) hdec h';exact ⟨(v,l),q1,q2,q3⟩) h'
 refine ⟨v,l.map Prod.snd,e1,by simpa using e2,fun k hk=> ?_,.inl ⟨l.map Prod.fst,?_,by simp,fun i k hk=> ?_⟩⟩
 ·obtain ⟨a,ha,rfl⟩:=xZI.1 hk;exact (e4 a ha).1
 ·rw [xYP];exact e3
 ·simp only [xZS,xZF] at hk;obtain ⟨_,⟨a,ha,rfl⟩,rfl⟩:=hk;refine ⟨a.1,by simp [ha],(e4 a (xZX ha)).2⟩
end
end Go.Ev
namespace Go.Proofs.Kn
open Go Go.Ev Go.RowKit Go.ChangeShapes Go.WideShapes Go.ChangeAt
set_option maxRecDepth 100000
noncomputable def qT (t:TypeId):Array Field:=match Tryz.prog.underlying t with
 |some (.struct fs)=>fs
 |_=> #[]
theorem und3:Tryz.prog.underlying 3=some (.int .i64):=by kernel_rfl
theorem und4:Tryz.prog.underlying 4=some .bool:=by kernel_rfl
theorem und136:Tryz.prog.underlying 137=some (.int .i64):=by kernel_rfl
theorem und22:Tryz.prog.underlying 22=some (.slice 58):=by kernel_rfl
theorem und58:Tryz.prog.underlying 58=some (.slice 137):=by kernel_rfl
theorem und75:Tryz.prog.underlying 75=some (.slice 3):=by kernel_rfl
theorem und23:Tryz.prog.underlying 23=some (.slice 48):=by kernel_rfl
theorem und24:Tryz.prog.underlying 24=some (.slice 50):=by kernel_rfl
theorem und25:Tryz.prog.underlying 25=some (.slice 142):=by kernel_rfl
theorem qCh:Tryz.prog.underlying 27=some (.struct (qT 27)):=by kernel_rfl
theorem und48:Tryz.prog.underlying 48=some (.struct (qT 48)):=by kernel_rfl
theorem und50:Tryz.prog.underlying 50=some (.struct (qT 50)):=by kernel_rfl
theorem und141:Tryz.prog.underlying 142=some (.struct (qT 142)):=by kernel_rfl
theorem co3:Tryz.prog.cellsOf 3=1:=by kernel_rfl
theorem co4:Tryz.prog.cellsOf 4=1:=by kernel_rfl
theorem co136:Tryz.prog.cellsOf 137=1:=by kernel_rfl
theorem co22:Tryz.prog.cellsOf 22=1:=by kernel_rfl
theorem co58:Tryz.prog.cellsOf 58=1:=by kernel_rfl
theorem co75:Tryz.prog.cellsOf 75=1:=by kernel_rfl
theorem co23:Tryz.prog.cellsOf 23=1:=by kernel_rfl
theorem co24:Tryz.prog.cellsOf 24=1:=by kernel_rfl
theorem co25:Tryz.prog.cellsOf 25=1:=by kernel_rfl
theorem co27:Tryz.prog.cellsOf 27=6:=by kernel_rfl
theorem co48:Tryz.prog.cellsOf 48=4:=by kernel_rfl
theorem co50:Tryz.prog.cellsOf 50=3:=by kernel_rfl
theorem co141:Tryz.prog.cellsOf 142=2:=by kernel_rfl
theorem f27_0:((qT 27)[0]?).map (fun f=>(f.type,f.offset))=some (22,0):=by kernel_rfl
theorem f27_1:((qT 27)[1]?).map (fun f=>(f.type,f.offset))=some (3,1):=by kernel_rfl
theorem f27_2:((qT 27)[2]?).map (fun f=>(f.type,f.offset))=some (3,2):=by kernel_rfl
theorem f27_3:((qT 27)[3]?).map (fun f=>(f.type,f.offset))=some (23,3):=by kernel_rfl
theorem f27_4:((qT 27)[4]?).map (fun f=>(f.type,f.offset))=some (24,4):=by kernel_rfl
theorem f27_5:((qT 27)[5]?).map (fun f=>(f.type,f.offset))=some (25,5):=by kernel_rfl
theorem f48_0:((qT 48)[0]?).map (fun f=>(f.type,f.offset))=some (3,0):=by kernel_rfl
theorem f48_1:((qT 48)[1]?).map (fun f=>(f.type,f.offset))=some (3,1):=by kernel_rfl
theorem f48_2:((qT 48)[2]?).map (fun f=>(f.type,f.offset))=some (3,2):=by kernel_rfl
theorem f48_3:((qT 48)[3]?).map (fun f=>(f.type,f.offset))=some (3,3):=by kernel_rfl
theorem f50_0:((qT 50)[0]?).map (fun f=>(f.type,f.offset))=some (3,0):=by kernel_rfl
theorem f50_1:((qT 50)[1]?).map (fun f=>(f.type,f.offset))=some (3,1):=by kernel_rfl
theorem f50_2:((qT 50)[2]?).map (fun f=>(f.type,f.offset))=some (4,2):=by kernel_rfl
theorem f141_0:((qT 142)[0]?).map (fun f=>(f.type,f.offset))=some (3,0):=by kernel_rfl
theorem f141_1:((qT 142)[1]?).map (fun f=>(f.type,f.offset))=some (3,1):=by kernel_rfl
section
variable {H:Type} {enc:TypeId×Value->H} {w:World} {base:Nat} {sp:Nat->Bool} {held:Bool}
theorem zN {n:Nat} {c:List Value} {y:DataW H×List MemPlace} (h:DataW.trod enc Tryz.prog w base sp held n 3 c=some y): ∃a:Int,c=[.int .i64 a]:=by
 obtain ⟨k,e1,_⟩:=DataW.trod_int und3 h;exact ⟨k,e1⟩
theorem dec_cell {n:Nat} {c:List Value} {y:DataW H×List MemPlace} (h:DataW.trod enc Tryz.prog w base sp held n 137 c=some y): ∃a:Int,c=[.int .i64 a]:=by
 obtain ⟨k,e1,_⟩:=DataW.trod_int und136 h;exact ⟨k,e1⟩
theorem dec_bool {n:Nat} {c:List Value} {y:DataW H×List MemPlace} (h:DataW.trod enc Tryz.prog w base sp held n 4 c=some y): ∃a:Bool,c=[.bool a]:=by
 obtain ⟨k,e1,_⟩:=DataW.trod_bool und4 h;exact ⟨k,e1⟩
theorem dec_gauge {n:Nat} {c:List Value} {y:DataW H×List MemPlace} (h:DataW.trod enc Tryz.prog w base sp held n 48 c=some y): ∃a:Int×Int×Int×Int,c=g4 a:=by
 have hl:=vP und48 h;rw [co48] at hl;obtain ⟨_,_,h0⟩:=qY und48 h 0 f48_0;obtain ⟨_,_,h1⟩:=qY und48 h 1 f48_1;obtain ⟨_,_,h2⟩:=qY und48 h 2 f48_2;obtain ⟨_,_,h3⟩:=qY und48 h 3 f48_3;obtain ⟨a,e0⟩:=zN h0;obtain ⟨b,e1⟩:=zN h1;obtain ⟨d,e2⟩:=zN h2;obtain ⟨e,e3⟩:=zN h3;rw [co3] at e0 e1 e2 e3
 match c,hl with
 |[x,y,z,u],_=>
  simp at e0 e1 e2 e3;exact ⟨(a,b,d,e),by simp [g4,e0,e1,e2,e3]⟩
theorem dec_crack {n:Nat} {c:List Value} {y:DataW H×List MemPlace} (h:DataW.trod enc Tryz.prog w base sp held n 50 c=some y): ∃a:Int×Int×Bool,c=k3 a:=by
 have hl:=vP und50 h;rw [co50] at hl;obtain ⟨_,_,h0⟩:=qY und50 h 0 f50_0;obtain ⟨_,_,h1⟩:=qY und50 h 1 f50_1;obtain ⟨_,_,h2⟩:=qY und50 h 2 f50_2;obtain ⟨a,e0⟩:=zN h0;obtain ⟨b,e1⟩:=zN h1;obtain ⟨d,e2⟩:=dec_bool h2;rw [co3] at e0 e1;rw [co4] at e2
 match c,hl with
 |[x,y,z],_=>
  simp at e0 e1 e2;exact ⟨(a,b,d),by simp [k3,e0,e1,e2]⟩
theorem dec_place {n:Nat} {c:List Value} {y:DataW H×List MemPlace} (h:DataW.trod enc Tryz.prog w base sp held n 142 c=some y): ∃a:Int×Int,c=p2 a:=by
 have hl:=vP und141 h;rw [co141] at hl;obtain ⟨_,_,h0⟩:=qY und141 h 0 f141_0;obtain ⟨_,_,h1⟩:=qY und141 h 1 f141_1;obtain ⟨a,e0⟩:=zN h0;obtain ⟨b,e1⟩:=zN h1;rw [co3] at e0 e1
 match c,hl with
 |[x,y],_=>
  simp at e0 e1;exact ⟨(a,b),by simp [p2,e0,e1]⟩
theorem read_mapc {fuel:Nat} {cs:List Value} {x:DataW H×List MemPlace} (hf:DataW.trod enc Tryz.prog w base sp held fuel 27 cs=some x) (h':Hp): ∃(m:Mp) (v1 v2 v3 v4:Value),m.At w.cell? h'/\m.vc= .val v1/\m.vg= .val v2/\m.vk= .val v3/\m.vp= .val v4/\cs=[v1,.int .i64 m.T,.int .i64 m.H,v2,v3,v4]:=by
 have hl:=vP qCh hf;rw [co27] at hl;obtain ⟨_,_,h0⟩:=qY qCh hf 0 f27_0;obtain ⟨_,_,h1⟩:=qY qCh hf 1 f27_1;obtain ⟨_,_,h2⟩:=qY qCh hf 2 f27_2;obtain ⟨_,_,h3⟩:=qY qCh hf 3 f27_3;obtain ⟨_,_,h4⟩:=qY qCh hf 4 f27_4;obtain ⟨_,_,h5⟩:=qY qCh hf 5 f27_5;obtain ⟨v1,ll,e0,hl0,hr0,hg0⟩:=read_grid und22 co58 und58 co136 h0 (fun _ _ _ h=>dec_cell h) h';obtain ⟨a,e1⟩:=zN h1;obtain ⟨b,e2⟩:=zN h2;obtain ⟨v2,l2,e3,hl2,hr2⟩:=kH g4 und23 co48 (by omega) h3 (fun _=>rfl) (fun _ _ _ h=>dec_gauge h) h';obtain ⟨v3,l3,e4,hl3,hr3⟩:=kH k3 und24 co50 (by omega) h4 (fun _=>rfl) (fun _ _ _ h=>dec_crack h) h';obtain ⟨v4,l4,e5,hl4,hr4⟩:=kH p2 und25 co141 (by omega) h5 (fun _=>rfl) (fun _ _ _ h=>dec_place h) h';rw [co22] at e0;rw [co3] at e1 e2;rw [co23] at e3;rw [co24] at e4;rw [co25] at e5;refine ⟨{vc:= .val v1,vg:= .val v2,vk:= .val v3,vp:= .val v4,cells:=ll,T:=a,H:=b,gs:=l2,ks:=l3,ps:=l4},v1,v2,v3,v4,⟨hg0,hr2,hr3,hr4,hl0,hr0,hl2,hl3,hl4⟩,rfl,rfl,rfl,rfl,?_⟩
 match hq:cs,hl with
 |[x0,x1,x2,x3,x4,x5],_=>
  simp at e0 e1 e2 e3 e4 e5;simp [e0,e1,e2,e3,e4,e5]
end
theorem kids:Kids Tryz.prog (· <Tryz.prog.types.size):=kids_rows (by kernel_rfl) (by kernel_rfl)
theorem full: ∀t e,t<Tryz.prog.types.size->Tryz.prog.underlying t=some (.slice e)->0<Tryz.prog.cellsOf e:=slices_full_of _ (by kernel_rfl)
theorem ownK:ownKnob Tryz.prog.godebug=none:=by kernel_rfl
end Go.Proofs.Kn
end
