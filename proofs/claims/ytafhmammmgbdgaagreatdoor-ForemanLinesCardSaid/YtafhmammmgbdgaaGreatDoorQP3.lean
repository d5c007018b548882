/- Parts of the proof, joined by a program. -/
import Derived.Test.YtafhmammmgbdgaaGreatDoorQP2
import Derived.Test.YtafhmammmgbdgaaGreatDoorQS5
import Derived.Test.YtafhmammmgbdgaaGreatDoorQK
set_option linter.all false
open Nat renaming reduceEqDiff → rE, reduceLeDiff → rD, reduceAdd → rA, reduceMul → rM, reduceLT → rL
namespace Go.Ev
theorem FnA.dfr2 {E:Env} (ok:SyOk E) {f:FuncId} {D:Dfr} (hD:IsDfr E.P f D) {fn fng:Func} (hft:E.ft.get f=some fn) (hfn:D.fn=fn) (hfng:D.fng=fng) {a c rest:Code} {id idr:Nat} {o1 o2 orr:Oper} (hb:fn.body=some (.seq a (.seq (.region id #[o1,o2] false) c))) (hbg:fng.body=some (.seq (.region idr #[orr] false) rest)) (hne:c≠a) {args:List AV} (nt ng d rd g:Nat) (caps:List Operand) (hdd:D.d=d) (hrr:D.rd=rd) (hgg:D.g=g) (hcc:D.caps.toList=caps) (hnt:args.length+(fn.ntmps - args.length)=nt) (hng:caps.length+(fng.ntmps - caps.length)=ng) (hd:d<nt) (hrd:rd<ng) {h:Hp} {K:CR→Hp→Prop}
  (hw:wpc E none a ⟨argsTo args 0 .e,nt,h,[]⟩ (fun x sA=>x= .normal∧sA.mks=[]∧sA.nt=nt∧wpc E none c ⟨sA.tm.put (some (.fn (.func g) [] (caps.map (aeval sA.tm)))) d,nt,sA.h,[]⟩ (fun x sC=>sC.mks=[]∧ ∃v,rcv x=some v∧
   wpc E none rest ⟨(argsTo (caps.map (aeval sA.tm)) 0 .e).put (some v) rd,ng,sC.h,[]⟩ (fun y sE=>(y= .normal∨y= .ret)∧sE.mks=[]∧ ∃vs,resOf E sC.tm sE.h fn.results.toList=some vs∧K (.ret (resVal vs)) sE.h)))):FnA E f args h K:=by
 have h1:=hD.fb;have h2:=hD.gb;rw [hfn,hb] at h1;rw [hfng,hbg] at h2;simp only [Option.some.injEq,Code.seq.injEq,Code.region.injEq] at h1 h2;obtain ⟨q1,_,q2⟩:=h1;obtain ⟨_,q3⟩:=h2;subst hfn hfng hdd hrr hgg hcc;exact FnA.dfr ok hD hft (by rw [←q1,←q2];exact hne) nt ng hnt hng hd hrd (by rw [←q1,←q2,←q3];exact hw)
end Go.Ev
namespace Go.Proofs.Kn
open Go Go.Ev
set_option maxRecDepth 100000
set_option maxHeartbeats 4000000
theorem ft44s (xt:Addr→Option Value):(SE xt).ft.get 44=some Tryz.f44:=by kernel_rfl
def numsP:List (List UInt8)→Option (List Int)
 |[]=>some []
 |x::xs=>match numP x with
  |none=>none
  |some n=>(numsP xs).map ((n:Int):: ·)
theorem numsP_len: ∀(ws:List (List UInt8)) (ns:List Int),numsP ws=some ns→ns.length=ws.length
 |[],ns,h=>by simp [numsP] at h;simp [h]
 |x::xs,ns,h=>by
  rw [numsP] at h;split at h
  ·cases h
  ·cases hq:numsP xs with
   |none=>rw [hq] at h;cases h
   |some l=>rw [hq] at h;cases h;simp [numsP_len xs l hq]
def rowIs (ws:List (List UInt8)) (r:RWt):Bool:=decide (r.2.1=ws.headD []) && decide (r.2.2.1=((ws.length - 1:Nat):Int))
def parsedP (s:List UInt8):Option (RWt×List Int):=
 match RW.find? (rowIs (spl 32 s)) with
 |none=>none
 |some r=>(numsP (spl 32 s).tail).map fun ns=>(r,ns)
def parsedR (h:Hp) (o:Option (RWt×List Int)) (res:CR) (h':Hp):Prop:=
 match o with
 |none=>res= .ret (.tup [.val .nilIface,nilV,.val (.bool false)])
 |some (r,ns)=> ∃u,res= .ret (.tup [rowV r,u,.val (.bool true)])∧OwnSl h' h.n 1 3 u ns.length (ns.map iv)
theorem ty_nil:abin Tryz.prog tb .eql 20 (.tmp 6) (.const .nilIface) (.val .nilIface) (.val .nilIface)=some (.val (.bool true)):=by kernel_rfl
theorem ty_no (y:List UInt8):abin Tryz.prog tb .eql 20 (.tmp 6) (.const .nilIface) (.ifc 162 (.agg [sv y])) (.val .nilIface)=some (.val (.bool false)):=by kernel_rfl
theorem as_n (v:AV):atypeAssert tb (.ifc 162 v) 162 true=some (.tup [v,.val (.bool true)]):=by kernel_rfl
theorem al162 (h:Hp):aoAlloc tb h 162=some (.ptr h.n 0,h.new (.cells [sv []] 162)):=al_of (zs:=[.string (bs [])]) tg162 rfl
theorem ia111 (L o n k:Nat) (hk:k<n):aindexAddr tb 111 (.sl L o n 1) (.val (.int .i64 (k:Int)))=some (.ptr L (o+k)):=by
 have e1:aint (.val (.int .i64 (k:Int)))=some (Int.ofNat k):=rfl;have e3:te9.size=1:=rfl;have e4:Nat.blt k n=true:=by rw [Nat.blt_eq];exact hk
 simp only [aindexAddr,tg111,tg9,e1,d111,e3,e4];show some (AV.ptr L (o+k*1))=_;rw [Nat.mul_one]
theorem ia1110 (L n:Nat) (hk:0<n):aindexAddr tb 111 (.sl L 0 n 1) (.val (.int .i64 0))=some (.ptr L 0):=ia111 L 0 n 0 hk
theorem len111 (h:Hp) (b o n s:Nat):alen tb h 111 (.sl b o n s)=some n:=by simp only [alen,tg111,d111]
theorem sl_1n (h':Hp) (b n:Nat) (hn:1≤n):aslice tb h' 111 (.sl b 0 n 1) (some (.val (.int .i64 1))) none=some (.sl b 1 (n - 1) 1):=by
 have e1:abound 0 (some (.val (.int .i64 1)))=some 1:=rfl;have e2:abound n none=some n:=rfl;have e3:(Nat.ble 1 n && (Nat.ble n n && Nat.beq 1 te9.size))=true:=by
  rw [Bool.and_eq_true,Bool.and_eq_true];exact ⟨by rw [Nat.ble_eq];omega,by rw [Nat.ble_eq];omega,rfl⟩
 simp only [aslice,tg111,d111,tg9,e1,e2];simp only [e3,cond_true]
 try simp [show te9.size=1 from rfl]
theorem res44s:Tryz.f44.results.toList=[.cell 2 76,.cell 3 23,.cell 4 4]:=by kernel_rfl
theorem resOf_3 {E:Env} {tm:T AV} {h:Hp} {a b c:Tmp} {ta tb' tc:TypeId} {x y z:AV} (h1:aload E.tb E.xt h ta ((tm.get a).getD default)=some x) (h2:aload E.tb E.xt h tb' ((tm.get b).getD default)=some y) (h3:aload E.tb E.xt h tc ((tm.get c).getD default)=some z):resOf E tm h [.cell a ta,.cell b tb',.cell c tc]=some [x,y,z]:=by
 have e: ∀t:Tmp,(match tm.get t with|some a=>a|none=>default)=(tm.get t).getD default:=fun t=>by cases tm.get t<;>rfl
 show (match aload E.tb E.xt h ta (match tm.get a with|some a=>a|none=>default) with|none=>none|some v=>match resOf E tm h [.cell b tb',.cell c tc] with|none=>none|some l=>some (v::l))=_;rw [e,h1];show (match (match aload E.tb E.xt h tb' (match tm.get b with|some a=>a|none=>default) with|none=>none|some v=>match resOf E tm h [.cell c tc] with|none=>none|some l=>some (v::l)) with|none=>none|some l=>some (x::l))=_;rw [e,h2];show (match (match (match aload E.tb E.xt h tc (match tm.get c with|some a=>a|none=>default) with|none=>none|some v=>match resOf E tm h [] with|none=>none|some l=>some (v::l)) with|none=>none|some l=>some (y::l)) with|none=>none|some l=>some (x::l))=_;rw [e,h3];rfl
theorem spl_len (c:UInt8): ∀s:List UInt8,(spl c s).length≤s.length+1
 |[]=>by simp [spl]
 |x::l=>by
  have ih:=spl_len c l;simp only [spl];split
  ·simp;omega
  ·cases hq:spl c l with
   |nil=>simp [pre1]
   |cons p r=>rw [hq] at ih;simp [pre1] at ih ⊢;omega
theorem spl_each (c:UInt8): ∀(s:List UInt8),∀x∈spl c s,x.length≤s.length
 |[],x,hx=>by simp [spl] at hx;simp [hx]
 |y::l,x,hx=>by
  have ih:=spl_each c l;simp only [spl] at hx;split at hx
  ·rcases List.mem_cons.1 hx with rfl|hx
   ·simp
   ·have:=ih x hx;simp;omega
  ·cases hq:spl c l with
   |nil=>exact absurd hq (spl_ne c l)
   |cons p r=>
    rw [hq] at hx ih;simp only [pre1] at hx;rcases List.mem_cons.1 hx with rfl|hx
    ·have:=ih p List.mem_cons_self;simp;omega
    ·have:=ih x (List.mem_cons_of_mem _ hx);simp;omega
theorem spl_pos (c:UInt8) (s:List UInt8):0<(spl c s).length:=List.length_pos_iff.2 (spl_ne c s)
theorem nic:cellsOf (.val .nilIface)=[.val .nilIface]:=rfl
theorem nio:Go.Ev.one (.val .nilIface)=true:=rfl
theorem row_cells (r:RWt):cellsOf (rowV r)=[rowV r]:=rfl
theorem own_set {h:Hp} {N sz n Mb:Nat} {e:TypeId} {v:AV} {cs:List AV} (o:OwnSl h N sz e v n cs) (hM:Mb<N) (x:AO):OwnSl (h.set Mb x) N sz e v n cs:=by
 rcases o with o|⟨b,o1,o2,o3,o4,o5⟩
 ·exact .inl o
 ·exact .inr ⟨b,o1,o2,o3,by rw [Hp.set_t,T.get_put,if_neg (by omega)];exact o4,o5⟩
theorem own_lower {h:Hp} {N M sz n:Nat} {e:TypeId} {v:AV} {cs:List AV} (o:OwnSl h N sz e v n cs) (hM:M≤N):OwnSl h M sz e v n cs:=by
 rcases o with o|⟨b,o1,o2,o3,o4,o5⟩
 ·exact .inl o
 ·exact .inr ⟨b,o1,by omega,o3,o4,o5⟩
theorem find_at {p:RWt→Bool}: ∀(L:List RWt) (i:Nat) (r:RWt),(∀j,j<i→ ∀x,L[j]? =some x→p x=false)→L[i]? =some r→p r=true→L.find? p=some r
 |[],i,r,_,h,_=>by simp at h
 |x::L,0,r,_,h,hp=>by
  simp only [List.getElem?_cons_zero,Option.some.injEq] at h;subst h;rw [List.find?_cons,hp]
 |x::L,i+1,r,hno,h,hp=>by
  rw [List.find?_cons,hno 0 (by omega) x rfl];exact find_at L i r (fun j hj y hy=>hno (j+1) (by omega) y (by simpa using hy)) (by simpa using h) hp
theorem wpc_at {E:Env} {r:Option Nat} {c a b:Code} {st:St} {Q:Ex→St→Prop} (h:c= .seq a b) (hw:wpc E r (.seq a b) st Q):wpc E r c st Q:=by rw [h];exact hw
noncomputable def bodyOf:Option Code→Code
 |some c=>c
 |none=> .skip
noncomputable def c44:Code:=seqR (seqR (bodyOf Tryz.f44.body))
theorem parsed_body (xt:Addr→Option Value) (hx:Lx xt) (s:List UInt8) (hs:s.length≤1000) (B:Nat) (h3:Hp) (n3:h3.n=B+3) (b0:h3.t.get B=some (.cells [.val .nilIface] 76)) (b1:h3.t.get (B+1)=some (.cells [nilV] 23)) (b2:h3.t.get (B+2)=some (.cells [.val (.bool false)] 4))
  (tm:T AV) (g0:tm.get 0=some (sv s)) (g2:tm.get 2=some (.ptr B 0)) (g3:tm.get 3=some (.ptr (B+1) 0)) (g4:tm.get 4=some (.ptr (B+2) 0)) {Q:Ex→St→Prop}
  (fOK: ∀(tm:T AV) (h':Hp) (r:RWt) (ns:List Int) (u:AV),parsedP s=some (r,ns)→tm.get 2=some (.ptr B 0)→tm.get 3=some (.ptr (B+1) 0)→tm.get 4=some (.ptr (B+2) 0)→Fr B h3 h'→h'.t.get B=some (.cells [rowV r] 76)→h'.t.get (B+1)=some (.cells [u] 23)→h'.t.get (B+2)=some (.cells [.val (.bool true)] 4)→OwnSl h' (B+3) 1 3 u ns.length (ns.map iv)→Q .ret ⟨tm,51,h',[]⟩)
  (fNo: ∀(tm:T AV) (h':Hp),parsedP s=none→tm.get 2=some (.ptr B 0)→tm.get 3=some (.ptr (B+1) 0)→tm.get 4=some (.ptr (B+2) 0)→Fr B h3 h'→h'.t.get B=some (.cells [.val .nilIface] 76)→h'.t.get (B+1)=some (.cells [nilV] 23)→h'.t.get (B+2)=some (.cells [.val (.bool false)] 4)→Q .ret ⟨tm,51,h',[]⟩)
  (fPan: ∀(tm:T AV) (h':Hp) (y:List UInt8) (u:AV),parsedP s=none→tm.get 2=some (.ptr B 0)→tm.get 3=some (.ptr (B+1) 0)→tm.get 4=some (.ptr (B+2) 0)→Fr B h3 h'→h'.t.get B=some (.cells [.val .nilIface] 76)→h'.t.get (B+1)=some (.cells [u] 23)→h'.t.get (B+2)=some (.cells [.val (.bool false)] 4)→Q (.panic (noneV y)) ⟨tm,51,h',[]⟩):
  wpc (SE xt) none c44 ⟨tm,51,h3,[]⟩ Q:=by
 refine wpc_at rfl ?_;obtain ⟨ws,hws⟩: ∃ws,ws=spl 32 s:=⟨_,rfl⟩;have hw0:0<ws.length:=by rw [hws];exact spl_pos _ _
 have hwl:ws.length≤1001:=by
  have:=spl_len 32 s;rw [←hws] at this;omega
 have hP:parsedP s=match RW.find? (rowIs ws) with|none=>none|some r=>(numsP ws.tail).map fun ns=>(r,ns):=by rw [parsedP,hws]
 refine seq_reg fun K hn hp=> ?_;simp only [sw.down,rE,reduceIte,rL,rA,rM,rD,svn.down,syw.down,aext0,aext1,g0];refine callA_func (sok xt) (split_c xt hx h3 s (by omega) 32 ?_);rw [←hws];simp only [sw.down,rE,reduceIte,rL,rA,rM,rD,svn.down,syw.down,aext0,aext1];refine hn _ _ ?_;clear hn hp K;obtain ⟨h4,hh4,n4,s4,k4,f4⟩:=newE h3 (.cells (ws.map sv) 9);rw [←hh4];clear hh4;refine seq_seq ?_;refine seq_reg fun K hn hp=> ?_;simp only [sw.down,rE,reduceIte,rL,rA,rM,rD,svn.down,syw.down,aext0,aext1];refine callA_func (sok xt) ((rows_c xt h4).mono fun r h5 ⟨hr,hh5⟩=> ?_);subst hr;have n5:h5.n=h4.n+1:=by rw [hh5];rfl
 have s5:h5.t.get h4.n=some (.cells (RW.map rowV) 76):=by rw [hh5];exact new_at _ _
 have k5: ∀k,k<h4.n→h5.t.get k=h4.t.get k:=fun k hk=>by rw [hh5];exact new_lt _ _ hk
 have f5:Fr h4.n h4 h5:=by rw [hh5];exact (Fr.refl (Nat.le_refl _)).new _
 clear hh5;have q5:h5.t.get h3.n=some (.cells (ws.map sv) 9):=(k5 _ (by omega)).trans s4;have a0:h5.t.get B=some (.cells [.val .nilIface] 76):=((k5 _ (by omega)).trans (k4 _ (by omega))).trans b0;have a1:h5.t.get (B+1)=some (.cells [nilV] 23):=((k5 _ (by omega)).trans (k4 _ (by omega))).trans b1;have a2:h5.t.get (B+2)=some (.cells [.val (.bool false)] 4):=((k5 _ (by omega)).trans (k4 _ (by omega))).trans b2;have fr5:Fr B h3 h5:=(f4.trans f5 (by omega)).lower (by omega);simp only [sw.down,rE,reduceIte,rL,rA,rM,rD,svn.down,syw.down,aext0,aext1,len73];refine hn _ _ ?_;clear hn hp K;refine seq_block fun KA A1 A2 A3 A4 A5=> ?_;refine wpc_loop (sok xt) (fun st=> ∃(i:Nat) (m:Nat) (tm:T AV),st=⟨tm,51,h5.up m,[]⟩∧i≤16∧tm.get 0=some (sv s)∧tm.get 2=some (.ptr B 0)∧tm.get 3=some (.ptr (B+1) 0)∧tm.get 4=some (.ptr (B+2) 0)∧tm.get 5=some (.sl h3.n 0 ws.length 1)∧tm.get 14=some (.sl h4.n 0 16 1)∧tm.get 15=some (iv 16)∧tm.get 16=some (iv i)∧h5.n≤m∧ ∀j,j<i→ ∀r,RW[j]? =some r→rowIs ws r=false) (fun st=>16 - (match st.tm.get 16 with|some (.val (.int _ n))=>n.toNat|_=>0)) ?_ ?_
 ·rintro st ⟨i,m,tm,rfl,hkA,g0,g2,g3,g4,g5,g14,g15,g16,hm,hno⟩;have muA:=g16;have q:decide ((i:Int)<(16:Int))=decide (i<16):=lt_dec _ 16;refine seq_reg fun K hn hp=> ?_;simp only [sw.down,rE,reduceIte,rL,rA,rM,rD,svn.down,syw.down,aext0,aext1,g0,g2,g3,g4,g5,g14,g15,g16,q];refine hn _ _ ?_;clear hn hp K;by_cases hlt:i<16
  ·refine seq_cond true (by simp only [sw.down,rE,reduceIte,rL,rA,rM,rD,svn.down,syw.down,aext0,aext1,g0,g2,g3,g4,g5,g14,g15,g16,hlt]) (fun _=> ?_) (fun hx=>by cases hx);refine seq_skip ?_;obtain ⟨r,hr,hl2⟩:=row_get hlt;have i1:=ia73 h4.n i hlt;have w1:=wrap_succ (k:=i) (n:=16) hlt (by omega);obtain ⟨w0,hw0e⟩: ∃w0,w0=ws.headD []:=⟨_,rfl⟩;have hwm:(ws.map sv)[0]? =some (sv w0):=by
    rw [hw0e];cases hq:ws with
    |nil=>rw [hq] at hw0;simp at hw0
    |cons x l=>rfl
   have ia0:=ia1110 h3.n ws.length hw0;obtain ⟨M,hM⟩: ∃M,M=ws.length - 1:=⟨_,rfl⟩;have w2:IntKind.i64.wrap ((ws.length:Int) - 1)=(M:Int):=by rw [wrap_i64 _ (by omega) (by omega)];omega
   have hrow:rowIs ws r=(decide (r.2.1=w0) && decide (r.2.2.1=(M:Int))):=by rw [rowIs,hw0e,hM]
   have hro:=row_one r;refine seq_block fun K2 e1 e2 e3 e4 e5=> ?_;refine seq_reg fun K hn hp=> ?_;simp only [sw.down,rE,reduceIte,rL,rA,rM,rD,svn.down,syw.down,aext0,aext1,g0,g2,g3,g4,g5,g14,g15,g16,i1,s5,hl2];refine hn _ _ ?_;clear hn hp K;have next:rowIs ws r=false→ ∀(tm2:T AV) (m2:Nat),m≤m2→tm2.get 0=some (sv s)→tm2.get 2=some (.ptr B 0)→tm2.get 3=some (.ptr (B+1) 0)→tm2.get 4=some (.ptr (B+2) 0)→tm2.get 5=some (.sl h3.n 0 ws.length 1)→tm2.get 14=some (.sl h4.n 0 16 1)→tm2.get 15=some (iv 16)→tm2.get 16=some (iv i)→K2 (.exit 1) ⟨tm2,51,h5.up m2,[]⟩:=fun hno3 tm2 m2 hm2 p0 p2 p3 p4 p5 p14 p15 p16=>by
    refine e2 _ ?_;have hno2: ∀j,j<i+1→ ∀r,RW[j]? =some r→rowIs ws r=false:=fun j hj r2 hr2=>by
     by_cases hji:j=i
     ·subst hji;rw [hr] at hr2;cases hr2;exact hno3
     ·exact hno j (by omega) r2 hr2
    refine reg fun K hn hp=> ?_;simp only [sw.down,rE,reduceIte,rL,rA,rM,rD,svn.down,syw.down,aext0,aext1,p0,p2,p3,p4,p5,p14,p15,p16,w1];refine hn _ _ ?_;clear hn hp K;refine ⟨⟨i+1,m2,_,rfl,by omega,by simp [T.get_put,p0],by simp [T.get_put,p2],by simp [T.get_put,p3],by simp [T.get_put,p4],by simp [T.get_put,p5],by simp [T.get_put,p14],by simp [T.get_put,p15],by simp [T.get_put],by omega,hno2⟩,?_⟩;simp only [muA,T.get_put];simp;omega
   refine seq_seq ?_;refine seq_regD (sok xt) 14 (by kernel_rfl) fun K hn hp=> ?_;simp only [sw.down,rE,reduceIte,rL,rA,rM,rD,svn.down,syw.down,aext0,aext1,g0,g2,g3,g4,g5,g14,g15,g16,WOp_invoke,isCall_inv];refine word_m xt _ r fun m2 hm2=> ?_;simp only [sw.down,rE,reduceIte,rL,rA,rM,rD,svn.down,syw.down,aext0,aext1,g0,g2,g3,g4,g5,g14,g15,g16,Bool.false_eq_true,WOCn_t hm2];rw [Hp.up_n] at hm2;by_cases hA:r.2.1=w0
   ·simp only [sw.down,rE,reduceIte,rL,rA,rM,rD,svn.down,syw.down,aext0,aext1,g0,g2,g3,g4,g5,g14,g15,g16,Hp.up_up,ia0,q5,hwm,decide_eq_true hA,Bool.not_true,WOp_invoke,isCall_inv,Bool.false_eq_true];refine many_m xt _ r fun m3 hm3=> ?_;simp only [sw.down,rE,reduceIte,rL,rA,rM,rD,svn.down,syw.down,aext0,aext1,g0,g2,g3,g4,g5,g14,g15,g16,Bool.false_eq_true,WOCn_t hm3];rw [Hp.up_n] at hm3;by_cases hB:r.2.2.1=(M:Int)
    ·have hyes:rowIs ws r=true:=by rw [hrow,decide_eq_true hA,decide_eq_true hB];rfl
     have hfind:=find_at RW i r hno hr hyes;have hP2:parsedP s=(numsP ws.tail).map fun ns=>(r,ns):=by rw [hP,hfind]
     have slr:=sl_1n (h5.up m3) ws.length (b:=h3.n) hw0;rw [←hM] at slr;simp only [sw.down,rE,reduceIte,rL,rA,rM,rD,svn.down,syw.down,aext0,aext1,g0,g2,g3,g4,g5,g14,g15,g16,Hp.up_up,len111,w2,decide_eq_true hB,Bool.not_true,Bool.false_eq_true];refine hn _ _ ?_;clear hn hp K;refine seq_cond false (by simp only [sw.down,rE,reduceIte,rL,rA,rM,rD,svn.down,syw.down,aext0,aext1,g0,g2,g3,g4,g5,g14,g15,g16]) (fun hx=>by cases hx) (fun _=> ?_);refine seq_skip ?_;refine seq_seq ?_;refine seq_reg fun K hn hp=> ?_;simp only [sw.down,rE,reduceIte,rL,rA,rM,rD,svn.down,syw.down,aext0,aext1,g0,g2,g3,g4,g5,g14,g15,g16,slr,WOp_slice,Option.map_none,len111];refine hn _ _ ?_;clear hn hp K;obtain ⟨wt,hwt⟩: ∃wt,wt=ws.tail:=⟨_,rfl⟩;have hwtl:wt.length=M:=by rw [hwt,List.length_tail,hM]
     have hwk: ∀c,c<M→(ws.map sv)[1+c]? =some (sv (wt.getD c [])):=fun c hc=>by
      have:c<wt.length:=by omega
      rw [List.getD_eq_getElem?_getD,List.getElem?_eq_getElem this,List.getElem?_map];have:ws[1+c]? =wt[c]? :=by rw [hwt,List.getElem?_tail,Nat.add_comm]
      rw [this,List.getElem?_eq_getElem ‹c<wt.length›];rfl
     rw [←hwt] at hP2;clear next;refine seq_block fun KD D1 D2 D3 D4 D5=> ?_;refine wpc_loop (sok xt) (fun st=> ∃(c:Nat) (hk:Hp) (u:AV) (ns:List Int) (tm:T AV),st=⟨tm,51,hk,[]⟩∧c≤M∧tm.get 2=some (.ptr B 0)∧tm.get 3=some (.ptr (B+1) 0)∧tm.get 4=some (.ptr (B+2) 0)∧tm.get 7=some (rowV r)∧tm.get 35=some (.sl h3.n 1 M 1)∧tm.get 36=some (iv M)∧tm.get 37=some (iv c)∧h5.n≤hk.n∧(∀j,j<h5.n→j≠B+1→hk.t.get j=h5.t.get j)∧hk.t.get (B+1)=some (.cells [u] 23)∧OwnSl hk h5.n 1 3 u ns.length (ns.map iv)∧ns.length≤c∧numsP wt=(numsP (wt.drop c)).map (ns++ ·)∧Fr B h3 hk) (fun st=>M - (match st.tm.get 37 with|some (.val (.int _ n))=>n.toNat|_=>0)) ?_ ?_
     ·rintro st ⟨c,hk,u,ns,tm,rfl,hkD,g2,g3,g4,g7,g35,g36,g37,hkn,hkk,hku,hko,hkl,hkp,hkf⟩;have muD:=g37;have q:decide ((c:Int)<(M:Int))=decide (c<M):=lt_dec _ _;refine seq_reg fun K hn hp=> ?_;simp only [sw.down,rE,reduceIte,rL,rA,rM,rD,svn.down,syw.down,aext0,aext1,g0,g2,g3,g4,g5,g14,g15,g16,g7,g35,g36,g37,q];refine hn _ _ ?_;clear hn hp K;have c0:=(hkk B (by omega) (by omega)).trans a0;have c2:=(hkk (B+2) (by omega) (by omega)).trans a2;by_cases hclt:c<M
      ·refine seq_cond true (by simp only [sw.down,rE,reduceIte,rL,rA,rM,rD,svn.down,syw.down,aext0,aext1,g0,g2,g3,g4,g5,g14,g15,g16,g7,g35,g36,g37,hclt]) (fun _=> ?_) (fun hx=>by cases hx);refine seq_skip ?_;have cw:=(hkk h3.n (by omega) (by omega)).trans q5;have ix:=ia111 h3.n 1 M c hclt;have hx2:=hwk c hclt;have w3:=wrap_succ (k:=c) (n:=M) hclt (by omega);have huo:=hko.one;rw [List.drop_eq_getElem_cons (by omega:c<wt.length)] at hkp;have hgd:wt.getD c []=wt[c]:=by rw [List.getD_eq_getElem?_getD,List.getElem?_eq_getElem (by omega:c<wt.length)];rfl
       rw [hgd] at hx2;refine seq_block fun K3 d1 d2 d3 d4 d5=> ?_;refine seq_reg fun K hn hp=> ?_;simp only [sw.down,rE,reduceIte,rL,rA,rM,rD,svn.down,syw.down,aext0,aext1,g0,g2,g3,g4,g5,g14,g15,g16,g7,g35,g36,g37,ix,cw,hx2];refine hn _ _ ?_;clear hn hp K;refine seq_reg fun K hn hp=> ?_;simp only [sw.down,rE,reduceIte,rL,rA,rM,rD,svn.down,syw.down,aext0,aext1,g0,g2,g3,g4,g5,g14,g15,g16,g7,g35,g36,g37];refine callA_func (sok xt) (number_c xt hx hk wt[c] ?_ (fun n hnum n1 hn1=> ?_) (fun hnum n1 hn1=> ?_))
       ·have:=spl_each 32 s wt[c] (by rw [←hws];exact List.mem_of_mem_tail (by rw [←hwt];exact List.getElem_mem _));omega
       ·simp only [sw.down,rE,reduceIte,rL,rA,rM,rD,svn.down,syw.down,aext0,aext1,g0,g2,g3,g4,g5,g14,g15,g16,g7,g35,g36,g37];refine hn _ _ ?_;clear hn hp K;obtain ⟨hu,hhu⟩: ∃hu:Hp,hu=hk.up n1:=⟨_,rfl⟩;have ou:OwnSl hu h5.n 1 3 u ns.length (ns.map iv):=by rw [hhu];exact hko.up (by omega)
        have hun:hk.n≤hu.n:=by rw [hhu,Hp.up_n];omega
        have hut: ∀j,hu.t.get j=hk.t.get j:=fun j=>by rw [hhu];rfl
        have fu:Fr B h3 hu:=by rw [hhu];exact hkf.up (by omega)
        rw [←hhu];clear hhu;obtain ⟨h',p1,p2,p3,p4⟩:=app23 (xt:=xt) (a:=(n:Int)) ou (by omega) (by omega);have hp1:h'.t.get (B+1)=some (.cells [u] 23):=by rw [p3.at_ _ (.inl (by omega)),hut];exact hku
        have hp0:=(hut (B+1)).trans hku;have w4:numsP wt=(numsP (wt.drop (c+1))).map ((ns++[(n:Int)])++ ·):=by
         rw [hkp,numsP,hnum];cases numsP (wt.drop (c+1))<;>simp
        refine reg fun K hn hp=> ?_;simp only [sw.down,rE,reduceIte,rL,rA,rM,rD,svn.down,syw.down,aext0,aext1,g0,g2,g3,g4,g5,g14,g15,g16,g7,g35,g36,g37,hp0,WOp_buildSlice,bs23,p1,hp1];refine hn _ _ ?_;clear hn hp K;refine d1 _ ?_;refine reg fun K hn hp=> ?_;simp only [sw.down,rE,reduceIte,rL,rA,rM,rD,svn.down,syw.down,aext0,aext1,g0,g2,g3,g4,g5,g14,g15,g16,g7,g35,g36,g37,w3];refine hn _ _ ?_;clear hn hp K;have r1: ∀j,j<h5.n→j≠B+1→(h'.set (B+1) (.cells [.sl (hu.n+1) 0 (ns.length+1) 1] 23)).t.get j=h5.t.get j:=fun j hj hne=>by
         rw [Hp.set_t,T.get_put,if_neg hne,p3.at_ _ (.inl hj),hut];exact hkk j hj hne
        have r2:(h'.set (B+1) (.cells [.sl (hu.n+1) 0 (ns.length+1) 1] 23)).t.get (B+1)=some (.cells [.sl (hu.n+1) 0 (ns.length+1) 1] 23):=by rw [Hp.set_t,T.get_put,if_pos rfl]
        have r3:=own_set p2 (show B+1<h5.n by omega) (.cells [.sl (hu.n+1) 0 (ns.length+1) 1] 23);have r4:Fr B h3 (h'.set (B+1) (.cells [.sl (hu.n+1) 0 (ns.length+1) 1] 23)):=(fu.trans (p3.lower (by omega:B≤h5.n)) (Nat.le_refl _)).set (by omega) (by omega) _;refine ⟨⟨c+1,h'.set (B+1) (.cells [.sl (hu.n+1) 0 (ns.length+1) 1] 23),.sl (hu.n+1) 0 (ns.length+1) 1,ns++[(n:Int)],_,rfl,by omega,(by simp [T.get_put,g2,g3,g4,g7,g35,g36,g37]),(by simp [T.get_put,g2,g3,g4,g7,g35,g36,g37]),(by simp [T.get_put,g2,g3,g4,g7,g35,g36,g37]),(by simp [T.get_put,g2,g3,g4,g7,g35,g36,g37]),(by simp [T.get_put,g2,g3,g4,g7,g35,g36,g37]),(by simp [T.get_put,g2,g3,g4,g7,g35,g36,g37]),(by simp [T.get_put,g2,g3,g4,g7,g35,g36,g37]),by rw [Hp.set_n];omega,r1,r2,by simpa using r3,by simp;omega,w4,r4⟩,by simpa [T.get_put,muD] using (by omega:M - (c+1)<M - c)⟩
       ·have hnone:numsP wt=none:=by rw [hkp,numsP,hnum];rfl
        rw [hnone] at hP2;simp only [sw.down,rE,reduceIte,rL,rA,rM,rD,svn.down,syw.down,aext0,aext1,g0,g2,g3,g4,g5,g14,g15,g16,g7,g35,g36,g37,noneV];refine hp _ _ _ (d5 _ _ (D5 _ _ (e5 _ _ (A5 _ _ (fPan _ _ _ u hP2 ?_ ?_ ?_ (hkf.up (by omega)) c0 hku c2)))))
        ·simp [T.get_put,g2]
        ·simp [T.get_put,g3]
        ·simp [T.get_put,g4]
      ·have hcM:c=M:=by omega
       subst hcM;have hfin:numsP wt=some ns:=by rw [hkp,List.drop_of_length_le (by omega)];simp [numsP]
       rw [hfin] at hP2;refine seq_cond false (by simp only [sw.down,rE,reduceIte,rL,rA,rM,rD,svn.down,syw.down,aext0,aext1,g0,g2,g3,g4,g5,g14,g15,g16,g7,g35,g36,g37,hclt]) (fun hx=>by cases hx) (fun _=> ?_);refine seq_exit (D2 _ ?_);have huo:=hko.one;have huc:cellsOf u=[u]:=by rcases hko with ⟨_,_,rfl⟩|⟨b,rfl,_⟩<;>rfl
       have hb1:(B=B+1)=False:=by simp
       have hb2:(B=B+2)=False:=by simp
       have hb3:(B+1=B+2)=False:=by simp
       have hb4:(B+1=B)=False:=by simp
       have hb5:(B+2=B)=False:=by simp
       have hb6:(B+2=B+1)=False:=by simp
       refine seq_regW (sok xt) 0 0 3 [(1,1)] (by kernel_rfl) fun K hn hp=> ?_;simp only [sw.down,rE,reduceIte,rL,rA,rM,rD,svn.down,syw.down,aext0,aext1,g0,g2,g3,g4,g5,g14,g15,g16,g7,g35,g36,g37,c0,hku,c2,row_cells,hro,huc,huo,hb1,hb2,hb3,hb4,hb5,hb6,and_self,Bool.false_eq_true,List.take,List.drop];refine hn _ _ (wpc_ret (e4 _ (A4 _ (fOK _ _ r ns u hP2 ?_ ?_ ?_ (((hkf.set (by omega) (by omega) _).set (by omega) (by rw [Hp.set_n];omega) _).set (by omega) (by rw [Hp.set_n,Hp.set_n];omega) _) ?_ ?_ ?_ ?_))))
       ·simp [T.get_put,g2]
       ·simp [T.get_put,g3]
       ·simp [T.get_put,g4]
       ·simp [T.get_put,Hp.set_t]
       ·simp [T.get_put,Hp.set_t]
       ·simp [T.get_put,Hp.set_t]
       ·exact own_set (own_set (own_set (own_lower hko (by omega)) (by omega) _) (by omega) _) (by omega) _
     ·exact ⟨0,h5.up m3,nilV,[],_,rfl,by omega,by simp [T.get_put,g2],by simp [T.get_put,g3],by simp [T.get_put,g4],by simp [T.get_put],by simp [T.get_put],by simp [T.get_put],by simp [T.get_put],by rw [Hp.up_n];omega,fun _ _ _=>rfl,a1,OwnSl.nil,by simp,by simp,fr5.up (by omega)⟩
    ·simp only [sw.down,rE,reduceIte,rL,rA,rM,rD,svn.down,syw.down,aext0,aext1,g0,g2,g3,g4,g5,g14,g15,g16,Hp.up_up,len111,w2,decide_eq_false hB,Bool.not_false,Bool.false_eq_true];refine hn _ _ ?_;clear hn hp K;refine seq_cond true (by simp only [sw.down,rE,reduceIte,rL,rA,rM,rD,svn.down,syw.down,aext0,aext1,g0,g2,g3,g4,g5,g14,g15,g16]) (fun _=> ?_) (fun hx=>by cases hx);refine seq_exit (next (by rw [hrow,decide_eq_false hB,Bool.and_false]) _ m3 (by omega) ?_ ?_ ?_ ?_ ?_ ?_ ?_ ?_)<;>simp [T.get_put,g0,g2,g3,g4,g5,g14,g15,g16]
   ·simp only [sw.down,rE,reduceIte,rL,rA,rM,rD,svn.down,syw.down,aext0,aext1,g0,g2,g3,g4,g5,g14,g15,g16,Hp.up_up,ia0,q5,hwm,decide_eq_false hA,Bool.not_false,Bool.false_eq_true];refine hn _ _ ?_;clear hn hp K;refine seq_cond true (by simp only [sw.down,rE,reduceIte,rL,rA,rM,rD,svn.down,syw.down,aext0,aext1,g0,g2,g3,g4,g5,g14,g15,g16]) (fun _=> ?_) (fun hx=>by cases hx);refine seq_exit (next (by rw [hrow,decide_eq_false hA];rfl) _ m2 (by omega) ?_ ?_ ?_ ?_ ?_ ?_ ?_ ?_)<;>simp [T.get_put,g0,g2,g3,g4,g5,g14,g15,g16]
  ·refine seq_cond false (by simp only [sw.down,rE,reduceIte,rL,rA,rM,rD,svn.down,syw.down,aext0,aext1,g0,g2,g3,g4,g5,g14,g15,g16,hlt]) (fun hx=>by cases hx) (fun _=> ?_);refine seq_exit (A2 _ ?_);have hi:i=16:=by omega
   subst hi;have hnone:parsedP s=none:=by
    rw [hP,List.find?_eq_none.2];intro r hr;obtain ⟨j,hj,rfl⟩:=List.getElem_of_mem hr;rw [hno j hj _ (List.getElem?_eq_getElem hj)];simp
   have fm:Fr B h3 (h5.up m):=fr5.up hm;have hb1:(B=B+1)=False:=by simp
   have hb2:(B=B+2)=False:=by simp
   have hb3:(B+1=B+2)=False:=by simp
   have hb4:(B+1=B)=False:=by simp
   have hb5:(B+2=B)=False:=by simp
   have hb6:(B+2=B+1)=False:=by simp
   refine seq_reg fun K hn hp=> ?_;simp only [sw.down,rE,reduceIte,rL,rA,rM,rD,svn.down,syw.down,aext0,aext1,g0,g2,g3,g4,g5,g14,g15,g16,a0,a1,a2,nic,nio,hb1,hb2,hb3,hb4,hb5,hb6,and_self];refine hn _ _ ?_;clear hn hp K;refine wpc_ret (fNo _ _ hnone ?_ ?_ ?_ (((fm.set (by omega) (by rw [Hp.up_n];omega) _).set (by omega) (by rw [Hp.set_n,Hp.up_n];omega) _).set (by omega) (by rw [Hp.set_n,Hp.set_n,Hp.up_n];omega) _) ?_ ?_ ?_)<;>simp [T.get_put,g2,g3,g4,Hp.set_t]
 ·exact ⟨0,h5.n,_,rfl,by omega,by simp [T.get_put,g0],by simp [T.get_put,g2],by simp [T.get_put,g3],by simp [T.get_put,g4],by simp [T.get_put],by simp [T.get_put],by simp [T.get_put],by simp [T.get_put],Nat.le_refl _,fun j hj=>by omega⟩
theorem parsed_w (xt:Addr→Option Value) (hx:Lx xt) (h:Hp) (s:List UInt8) (hs:s.length≤1000):FnA (SE xt) 44 [sv s] h (fun res h'=>Fr h.n h h'∧parsedR h (parsedP s) res h'):=by
 refine FnA.dfr2 (sok xt) (D:=D44) (fng:=Tryz.f89) d44_is (ft44s xt) (by kernel_rfl) (by kernel_rfl) rfl rfl (fun h=>by cases h) 51 12 11 6 89 [.tmp 2,.tmp 3,.tmp 4] (by kernel_rfl) (by kernel_rfl) (by kernel_rfl) (by kernel_rfl) rfl rfl (by omega) (by omega) ?_;refine reg fun K hn hp=> ?_;simp only [sw.down,rE,reduceIte,rL,rA,rM,rD,svn.down,syw.down,aext0,aext1];refine hn _ _ ⟨rfl,rfl,rfl,?_⟩;clear hn hp K;obtain ⟨h3,hh3⟩: ∃h3:Hp,h3=((h.new (.cells [.val .nilIface] 76)).new (.cells [nilV] 23)).new (.cells [.val (.bool false)] 4):=⟨_,rfl⟩;have f3:Fr h.n h h3:=by rw [hh3];exact (((Fr.refl (Nat.le_refl _)).new _).new _).new _
 have e0:h3.t.get h.n=some (.cells [.val .nilIface] 76):=by
  rw [hh3,new_lt _ _ (by show h.n<h.n+2;omega),new_lt _ _ (by show h.n<h.n+1;omega)];exact new_at _ _
 have e1:h3.t.get (h.n+1)=some (.cells [nilV] 23):=by
  rw [hh3,new_lt _ _ (by show h.n+1<h.n+2;omega)];exact new_at _ _
 have e2:h3.t.get (h.n+2)=some (.cells [.val (.bool false)] 4):=by
  rw [hh3];exact new_at _ _
 have n3:h3.n=h.n+3:=by rw [hh3];rfl
 have hb1:(h.n=h.n+1)=False:=by simp
 have hb2:(h.n=h.n+2)=False:=by simp
 have hb3:(h.n+1=h.n+2)=False:=by simp
 have hb4:(h.n+1=h.n)=False:=by simp
 have hb5:(h.n+2=h.n)=False:=by simp
 have hb6:(h.n+2=h.n+1)=False:=by simp
 simp only;rw [←hh3];clear hh3;refine parsed_body xt hx s hs h.n _ n3 e0 e1 e2 _ (by simp [T.get_put]) (by simp [T.get_put]) (by simp [T.get_put]) (by simp [T.get_put]) ?_ ?_ ?_
 ·intro tm h' r ns u hp' g2 g3 g4 f b0 b1 b2 o;refine ⟨rfl,_,rfl,?_⟩;simp only [sw.down,rE,reduceIte,rL,rA,rM,rD,svn.down,syw.down,aext0,aext1,List.map];refine wpc_block fun K k1 k2 k3 k4 k5=> ?_;refine seq_reg fun K hn hp=> ?_;simp only [sw.down,rE,reduceIte,rL,rA,rM,rD,svn.down,syw.down,aext0,aext1,ty_nil];refine hn _ _ ?_;clear hn hp K;refine wpc_cond true (by simp only [sw.down,rE,reduceIte,rL,rA,rM,rD,svn.down,syw.down,aext0,aext1]) (fun _=> ?_) (fun hx=>by cases hx);refine reg fun K hn hp=> ?_;simp only [sw.down,rE,reduceIte,rL,rA,rM,rD,svn.down,syw.down,aext0,aext1];refine hn _ _ ?_;clear hn hp K;refine k1 _ ⟨.inl rfl,rfl,[rowV r,u,.val (.bool true)],?_,f3.trans f (Nat.le_refl _),?_⟩
  ·rw [res44s];refine resOf_3 ?_ ?_ ?_
   ·simp only [sw.down,rE,reduceIte,rL,rA,rM,rD,svn.down,syw.down,aext0,aext1,g2,b0]
   ·simp only [sw.down,rE,reduceIte,rL,rA,rM,rD,svn.down,syw.down,aext0,aext1,g3,b1]
   ·simp only [sw.down,rE,reduceIte,rL,rA,rM,rD,svn.down,syw.down,aext0,aext1,g4,b2]
  ·rw [hp'];exact ⟨u,rfl,own_lower o (by omega)⟩
 ·intro tm h' hp' g2 g3 g4 f b0 b1 b2;refine ⟨rfl,_,rfl,?_⟩;simp only [sw.down,rE,reduceIte,rL,rA,rM,rD,svn.down,syw.down,aext0,aext1,List.map];refine wpc_block fun K k1 k2 k3 k4 k5=> ?_;refine seq_reg fun K hn hp=> ?_;simp only [sw.down,rE,reduceIte,rL,rA,rM,rD,svn.down,syw.down,aext0,aext1,ty_nil];refine hn _ _ ?_;clear hn hp K;refine wpc_cond true (by simp only [sw.down,rE,reduceIte,rL,rA,rM,rD,svn.down,syw.down,aext0,aext1]) (fun _=> ?_) (fun hx=>by cases hx);refine reg fun K hn hp=> ?_;simp only [sw.down,rE,reduceIte,rL,rA,rM,rD,svn.down,syw.down,aext0,aext1];refine hn _ _ ?_;clear hn hp K;refine k1 _ ⟨.inl rfl,rfl,[.val .nilIface,nilV,.val (.bool false)],?_,f3.trans f (Nat.le_refl _),?_⟩
  ·rw [res44s];refine resOf_3 ?_ ?_ ?_
   ·simp only [sw.down,rE,reduceIte,rL,rA,rM,rD,svn.down,syw.down,aext0,aext1,g2,b0]
   ·simp only [sw.down,rE,reduceIte,rL,rA,rM,rD,svn.down,syw.down,aext0,aext1,g3,b1]
   ·simp only [sw.down,rE,reduceIte,rL,rA,rM,rD,svn.down,syw.down,aext0,aext1,g4,b2]
  ·rw [hp'];rfl
 ·intro tm h' y u hp' g2 g3 g4 f b0 b1 b2;refine ⟨rfl,_,rfl,?_⟩;simp only [sw.down,rE,reduceIte,rL,rA,rM,rD,svn.down,syw.down,aext0,aext1,List.map,noneV];refine wpc_block fun K k1 k2 k3 k4 k5=> ?_;refine seq_reg fun K hn hp=> ?_;simp only [sw.down,rE,reduceIte,rL,rA,rM,rD,svn.down,syw.down,aext0,aext1,ty_no];refine hn _ _ ?_;clear hn hp K;refine wpc_cond false (by simp only [sw.down,rE,reduceIte,rL,rA,rM,rD,svn.down,syw.down,aext0,aext1]) (fun hx=>by cases hx) (fun _=> ?_);refine seq_reg fun K hn hp=> ?_;simp only [sw.down,rE,reduceIte,rL,rA,rM,rD,svn.down,syw.down,aext0,aext1,as_n,WOp_typeAssert];refine hn _ _ ?_;clear hn hp K;refine wpc_cond true (by simp only [sw.down,rE,reduceIte,rL,rA,rM,rD,svn.down,syw.down,aext0,aext1]) (fun _=> ?_) (fun hx=>by cases hx);refine seq_reg fun K hn hp=> ?_;simp only [sw.down,rE,reduceIte,rL,rA,rM,rD,svn.down,syw.down,aext0,aext1,al162];refine hn _ _ ?_;clear hn hp K;have hle:=f.lo;have hlo:=f.le;obtain ⟨h5,hh5⟩: ∃h5:Hp,h5=(h'.new (.cells [sv []] 162)).set h'.n (.cells [sv y] 162):=⟨_,rfl⟩;have nh5:h5.n=h'.n+1:=by rw [hh5];rfl
  have sh5:h5.t.get h'.n=some (.cells [sv y] 162):=by rw [hh5,Hp.set_t,T.get_put,if_pos rfl]
  have kh5: ∀k,k<h'.n→h5.t.get k=h'.t.get k:=fun k hk=>by rw [hh5];exact newset_lt _ _ _ hk
  have fbh5:Fr h'.n h' h5:=by rw [hh5];exact newset_fr _ _ _
  have fh5:=fbh5;rw [←hh5];have c0:=(kh5 h.n (by omega)).trans b0;have c1':=(kh5 (h.n+1) (by omega)).trans b1;have c2:=(kh5 (h.n+2) (by omega)).trans b2;have f5:Fr h.n h h5:=(f3.trans f (Nat.le_refl _)).trans fbh5 (by omega);refine reg fun K hn hp=> ?_;simp only [sw.down,rE,reduceIte,rL,rA,rM,rD,svn.down,syw.down,aext0,aext1,sh5,nh5,c0,c1',c2,nic,nio,hb1,hb2,hb3,hb4,hb5,hb6,and_self];refine hn _ _ ?_;clear hn hp K;refine k1 _ ⟨.inl rfl,rfl,[.val .nilIface,nilV,.val (.bool false)],?_,((f5.set (by omega) (by omega) _).set (by omega) (by rw [Hp.set_n];omega) _).set (by omega) (by rw [Hp.set_n,Hp.set_n];omega) _,?_⟩
  ·rw [res44s];refine resOf_3 ?_ ?_ ?_
   ·simp only [sw.down,rE,reduceIte,rL,rA,rM,rD,svn.down,syw.down,aext0,aext1,sh5,nh5,g2,hb1,hb2,hb3,hb4,hb5,hb6]
   ·simp only [sw.down,rE,reduceIte,rL,rA,rM,rD,svn.down,syw.down,aext0,aext1,sh5,nh5,g3,hb1,hb2,hb3,hb4,hb5,hb6]
   ·simp only [sw.down,rE,reduceIte,rL,rA,rM,rD,svn.down,syw.down,aext0,aext1,sh5,nh5,g4,hb1,hb2,hb3,hb4,hb5,hb6]
  ·rw [hp'];rfl
end Go.Proofs.Kn
namespace Go.Proofs.Kn
open Go Go.Ev
set_option maxRecDepth 100000
set_option maxHeartbeats 4000000
theorem aex0 (a b c:AV):aextract (.tup [a,b,c]) 0=some a:=rfl
theorem aex1 (a b c:AV):aextract (.tup [a,b,c]) 1=some b:=rfl
theorem aex2 (a b c:AV):aextract (.tup [a,b,c]) 2=some c:=rfl
theorem bd25z:abuildA tb 25 []=some (entA 0 nilV):=by kernel_rfl
theorem bd25 (k:Int) (v:AV) (hv:cellsOf v=[v]):abuildA tb 25 [(0,iv k),(1,v)]=some (entA k v):=by
 have e:tb.get 25=some te25:=tg25;simp only [abuildA,e];rw [show te25.d= .struct [(0,(1,22)),(1,(1,23))] from by kernel_rfl,show te25.zero=[.int .i64 0,.slice none 0 0] from by kernel_rfl];simp [fillA,placeOf,hv,entA];rfl
def parseP (s:List UInt8):Option (Int×List Int):=
 match parsedP s with
 |none=>none
 |some (r,ns)=>bif r.1 then some (r.2.2.2,ns) else none
def ParseR (h:Hp) (s:List UInt8) (res:CR) (h':Hp):Prop:=
 if 60<s.length then res= .ret (.tup [entA 0 nilV,iv 3]) else match parseP s with
  |none=>res= .ret (.tup [entA 0 nilV,iv 4])
  |some (k,ns)=> ∃u,res= .ret (.tup [entA k u,iv 0])∧OwnSl h' h.n 1 3 u ns.length (ns.map iv)
theorem ft12s (xt:Addr→Option Value):(SE xt).ft.get 12=some Tryz.f12:=by kernel_rfl
theorem res12s:Tryz.f12.results.toList=[.cell 2 25,.tmp 3]:=by kernel_rfl
theorem own_cells {h:Hp} {N sz n:Nat} {e:TypeId} {v:AV} {cs:List AV} (o:OwnSl h N sz e v n cs):cellsOf v=[v]:=by
 rcases o with ⟨_,_,rfl⟩|⟨b,rfl,_⟩<;>rfl
theorem Parse_w (xt:Addr→Option Value) (hx:Lx xt) (h:Hp) (s:List UInt8) (hs:s.length≤9223372036854775807):FnA (SE xt) 12 [sv s] h (fun res h'=>Fr h.n h h'∧ParseR h s res h'):=by
 refine FnA.walk (sok xt) (ft12s xt) rfl 33 rfl ?_;refine seq_reg fun K hn hp=> ?_;simp only [sw.down,rE,reduceIte,rL,rA,rM,rD,svn.down,syw.down,aext0,aext1];refine hn _ _ ?_;clear hn hp K;obtain ⟨h1,hh1,n1,s1,k1,f1⟩:=newE h (.cells [iv 0,nilV] 25);rw [←hh1];clear hh1;have lt25:(2≤([iv 0,nilV]:List AV).length)=True:=by simp
 refine seq_seq ?_;by_cases hb:(60:Int)<(s.length:Int)
 ·have hb':60<s.length:=by omega
  refine seq_reg fun K hn hp=> ?_;simp only [sw.down,rE,reduceIte,rL,rA,rM,rD,svn.down,syw.down,aext0,aext1,decide_eq_true hb];refine hn _ _ ?_;clear hn hp K;refine seq_cond true (by simp only [sw.down,rE,reduceIte,rL,rA,rM,rD,svn.down,syw.down,aext0,aext1]) (fun _=> ?_) (fun hx=>by cases hx);refine seq_seq ?_;refine seq_reg fun K hn hp=> ?_;simp only [sw.down,rE,reduceIte,rL,rA,rM,rD,svn.down,syw.down,aext0,aext1,bd25z,ent_cells,s1];refine hn _ _ ?_;clear hn hp K;refine seq_ret (end_c1 res12s (v:=entA 0 nilV) ?_ ⟨f1.set (Nat.le_refl _) (by omega) _,?_⟩)
  ·simp only [sw.down,rE,reduceIte,rL,rA,rM,rD,svn.down,syw.down,aext0,aext1,lt25];rfl
  ·rw [ParseR,if_pos hb'];simp [T.get_put]
 ·have hb': ¬60<s.length:=by omega
  refine seq_reg fun K hn hp=> ?_;simp only [sw.down,rE,reduceIte,rL,rA,rM,rD,svn.down,syw.down,aext0,aext1,decide_eq_false hb];refine hn _ _ ?_;clear hn hp K;refine seq_cond false (by simp only [sw.down,rE,reduceIte,rL,rA,rM,rD,svn.down,syw.down,aext0,aext1]) (fun hx=>by cases hx) (fun _=> ?_);refine seq_skip ?_;refine seq_reg fun K hn hp=> ?_;simp only [sw.down,rE,reduceIte,rL,rA,rM,rD,svn.down,syw.down,aext0,aext1];refine callA_func (sok xt) ((parsed_w xt hx h1 s (by omega)).mono fun res h2 ⟨f2,hres⟩=> ?_);have s2:h2.t.get h.n=some (.cells [iv 0,nilV] 25):=by rw [f2.at_ _ (.inl (by omega))];exact s1
  have fr2:Fr h.n h h2:=f1.trans f2 (by omega);have hl2:=f2.lo;cases hP:parsedP s with
  |none=>
   rw [hP] at hres;have hres:res= .ret (.tup [.val .nilIface,nilV,.val (.bool false)]):=hres;subst hres;have hpn:parseP s=none:=by rw [parseP,hP]
   simp only [sw.down,rE,reduceIte,rL,rA,rM,rD,svn.down,syw.down,aext0,aext1,aex0,aex1,aex2];refine hn _ _ ?_;clear hn hp K;refine seq_seq ?_;refine seq_reg fun K hn hp=> ?_;simp only [sw.down,rE,reduceIte,rL,rA,rM,rD,svn.down,syw.down,aext0,aext1];refine hn _ _ ?_;clear hn hp K;refine seq_cond true (by simp only [sw.down,rE,reduceIte,rL,rA,rM,rD,svn.down,syw.down,aext0,aext1,Bool.not_false]) (fun _=> ?_) (fun hx=>by cases hx);refine seq_seq ?_;refine seq_reg fun K hn hp=> ?_;simp only [sw.down,rE,reduceIte,rL,rA,rM,rD,svn.down,syw.down,aext0,aext1,bd25z,ent_cells,s2];refine hn _ _ ?_;clear hn hp K;refine seq_ret (end_c1 res12s (v:=entA 0 nilV) ?_ ⟨fr2.set (Nat.le_refl _) (by omega) _,?_⟩)
   ·simp only [sw.down,rE,reduceIte,rL,rA,rM,rD,svn.down,syw.down,aext0,aext1,lt25];rfl
   ·rw [ParseR,if_neg hb',hpn];simp [T.get_put]
  |some p=>
   obtain ⟨r,ns⟩:=p;rw [hP] at hres;obtain ⟨u,rfl,o⟩:=hres;have hro:=row_one r;have huo:=o.one;have huc:=own_cells o;simp only [sw.down,rE,reduceIte,rL,rA,rM,rD,svn.down,syw.down,aext0,aext1,aex0,aex1,aex2];refine hn _ _ ?_;clear hn hp K;refine seq_seq ?_;refine seq_reg fun K hn hp=> ?_;simp only [sw.down,rE,reduceIte,rL,rA,rM,rD,svn.down,syw.down,aext0,aext1];refine hn _ _ ?_;clear hn hp K;refine seq_cond false (by simp only [sw.down,rE,reduceIte,rL,rA,rM,rD,svn.down,syw.down,aext0,aext1,Bool.not_true]) (fun hx=>by cases hx) (fun _=> ?_);refine seq_skip ?_;obtain ⟨e,nm,m,kd⟩:=r;cases e with
   |false=>
    refine seq_reg fun K hn hp=> ?_;simp only [sw.down,rE,reduceIte,rL,rA,rM,rD,svn.down,syw.down,aext0,aext1,rowV_f,as106f,WOp_typeAssert,al106,zc106];refine hn _ _ ?_;clear hn hp K;obtain ⟨h3,hh3⟩: ∃h3:Hp,h3=(h2.new (.cells [sv [],iv 0,iv 0] 106)).set h2.n (.cells [sv [],iv 0,iv 0] 106):=⟨_,rfl⟩;have nh3:h3.n=h2.n+1:=by rw [hh3];rfl
    have sh3:h3.t.get h2.n=some (.cells [sv [],iv 0,iv 0] 106):=by rw [hh3,Hp.set_t,T.get_put,if_pos rfl]
    have kh3: ∀k,k<h2.n→h3.t.get k=h2.t.get k:=fun k hk=>by rw [hh3];exact newset_lt _ _ _ hk
    have fbh3:Fr h2.n h2 h3:=by rw [hh3];exact newset_fr _ _ _
    have fh3:=fbh3;rw [←hh3];have hpn:parseP s=none:=by rw [parseP,hP];rfl
    have c0:=(kh3 h.n (by omega)).trans s2;have fr3:=fr2.trans fbh3 (by omega);refine seq_seq ?_;refine seq_reg fun K hn hp=> ?_;simp only [sw.down,rE,reduceIte,rL,rA,rM,rD,svn.down,syw.down,aext0,aext1,sh3,nh3];refine hn _ _ ?_;clear hn hp K;refine seq_cond true (by simp only [sw.down,rE,reduceIte,rL,rA,rM,rD,svn.down,syw.down,aext0,aext1,sh3,nh3,Bool.not_false]) (fun _=> ?_) (fun hx=>by cases hx);refine seq_seq ?_;refine seq_reg fun K hn hp=> ?_;simp only [sw.down,rE,reduceIte,rL,rA,rM,rD,svn.down,syw.down,aext0,aext1,sh3,nh3,bd25z,ent_cells,c0];refine hn _ _ ?_;clear hn hp K;refine seq_ret (end_c1 res12s (v:=entA 0 nilV) ?_ ⟨fr3.set (Nat.le_refl _) (by omega) _,?_⟩)
    ·simp only [sw.down,rE,reduceIte,rL,rA,rM,rD,svn.down,syw.down,aext0,aext1,sh3,nh3,lt25];rfl
    ·rw [ParseR,if_neg hb',hpn];simp [T.get_put]
   |true=>
    refine seq_reg fun K hn hp=> ?_;simp only [sw.down,rE,reduceIte,rL,rA,rM,rD,svn.down,syw.down,aext0,aext1,rowV_t,as106t,WOp_typeAssert,al106];refine hn _ _ ?_;clear hn hp K;obtain ⟨h3,hh3⟩: ∃h3:Hp,h3=(h2.new (.cells [sv [],iv 0,iv 0] 106)).set h2.n (.cells [sv nm,iv m,iv kd] 106):=⟨_,rfl⟩;have nh3:h3.n=h2.n+1:=by rw [hh3];rfl
    have sh3:h3.t.get h2.n=some (.cells [sv nm,iv m,iv kd] 106):=by rw [hh3,Hp.set_t,T.get_put,if_pos rfl]
    have kh3: ∀k,k<h2.n→h3.t.get k=h2.t.get k:=fun k hk=>by rw [hh3];exact newset_lt _ _ _ hk
    have fbh3:Fr h2.n h2 h3:=by rw [hh3];exact newset_fr _ _ _
    have fh3:=fbh3;rw [←hh3];have hpn:parseP s=some (kd,ns):=by rw [parseP,hP];rfl
    have c0:=(kh3 h.n (by omega)).trans s2;have fr3:=fr2.trans fbh3 (by omega);have o3:OwnSl h3 h.n 1 3 u ns.length (ns.map iv):=own_lower (o.fr fbh3 (Nat.le_refl _)) (by omega);have o4:=own_lower (o.fr fbh3 (Nat.le_refl _)) (show h1.n≤h1.n from Nat.le_refl _);have bdk:=bd25 kd u huc;have lt2u:(2≤([iv kd,u]:List AV).length)=True:=by simp
    refine seq_seq ?_;refine seq_reg fun K hn hp=> ?_;simp only [sw.down,rE,reduceIte,rL,rA,rM,rD,svn.down,syw.down,aext0,aext1,sh3,nh3];refine hn _ _ ?_;clear hn hp K;refine seq_cond false (by simp only [sw.down,rE,reduceIte,rL,rA,rM,rD,svn.down,syw.down,aext0,aext1,sh3,nh3,Bool.not_true]) (fun hx=>by cases hx) (fun _=> ?_);refine seq_skip ?_;refine seq_reg fun K hn hp=> ?_;simp only [sw.down,rE,reduceIte,rL,rA,rM,rD,svn.down,syw.down,aext0,aext1,sh3,nh3,bdk,ent_cells,c0,huo];refine hn _ _ ?_;clear hn hp K;refine wpc_ret (end_c1 res12s (v:=entA kd u) ?_ ⟨fr3.set (Nat.le_refl _) (by omega) _,?_⟩)
    ·simp only [sw.down,rE,reduceIte,rL,rA,rM,rD,svn.down,syw.down,aext0,aext1,sh3,nh3,lt2u];rfl
    ·rw [ParseR,if_neg hb',hpn];exact ⟨u,by simp [T.get_put],own_lower (own_set o4 (by omega) _) (by omega)⟩
end Go.Proofs.Kn
