/- Parts. -/
import Derived.Test.YtimofdcffkfglaaGreatDoorQB
set_option linter.all false
open List renaming mem_cons_of_mem → xZZ, mem_cons_self → xZV, all_eq_true → xZT, getElem?_eq_some_iff → xZR, mem_cons → xZP, getElem?_append_left → xZL, take_append_drop → xZJ, length_cons → xZE, getElem?_eq_getElem → xZD, getElem?_cons_zero → xZC, forall_mem_cons → xZA, length_nil → xYZ, length_map → xYY, getElem?_append_right → xYX, getElem?_take → xYW, map_cons → xYU, take_of_length_le → xYS, range' → xYR, flatten_cons → xYP, append_assoc → xYO, eq_nil_of_length_eq_zero → xYN, getD_eq_getElem?_getD → xYL, drop_eq_getElem_cons → xYK, drop_drop → xYJ, getElem?_eq_none → xYH, mem_of_getElem? → xYE, length_append → xYB, getElem?_drop → xYA, getElem?_map → xXY, ext_getElem? → xXX, cons_append → xXV
open Nat renaming le_refl → xZY, eq_of_beq_eq_true → xZX, le_trans → xZU, zero_add → xZN, lt_of_lt_of_le → xZM, le_of_lt → xZK, le_of_ble_eq_true → xZI, blt_eq → xZH, ble_eq → xZG, eq_zero_or_pos → xZF, lt_or_ge → xYV, mul_one → xYT, add_mul → xYQ, add_assoc → xYI, beq_refl → xYF, zero_le → xYD, le_succ → xYC, le_succ_of_le → xXW
open Bool renaming and_eq_true → xZW, or_eq_true → xZB, true_or → xYG, false_eq_true → xXZ
open And renaming intro → xZS
open Array renaming getElem?_eq_getElem → xZQ, getElem?_toList → xZO, getElem?_eq_some_iff → xYM
noncomputable section
namespace Go.Ev
def CallS (E:Env) (fv:AV) (args:List AV) (h:Hp) (res:CR) (h':Hp):Prop:=h.n<=h'.n/\ ∀lim,h'.n<=lim->qBV E.P E.xt lim fv args h res h'
abbrev KP:=CR->Hp->Prop
def CallA (E:Env) (fv:AV) (args:List AV) (h:Hp) (K:KP):Prop:= ∃res h',CallS E fv args h res h'/\K res h'
def W (E:Env) (r:Option Nat) (c:Code) (st:St) (Q:Ex->St->Prop):Prop:= ∃x st',SemC E r c st x st'/\Q x st'
theorem CallA.mono {E:Env} {fv:AV} {args:List AV} {h:Hp} {K K':KP} (hc:CallA E fv args h K) (hk: ∀r h',K r h'->K' r h'):CallA E fv args h K':=by
 obtain ⟨r,h',h1,h2⟩:=hc;exact ⟨r,h',h1,hk _ _ h2⟩
theorem W.mono {E:Env} {r:Option Nat} {c:Code} {st:St} {Q Q':Ex->St->Prop} (hw:W E r c st Q) (hq: ∀x s,Q x s->Q' x s):W E r c st Q':=by
 obtain ⟨x,s,h1,h2⟩:=hw;exact ⟨x,s,h1,hq _ _ h2⟩
open Classical in
def pcall (fv:AV) (args:List AV) (h:Hp) (res:CR) (h':Hp):jE:=fun f a k=>if f=fv/\a=args/\k=h then some (res,h') else none
theorem qFu (fv:AV) (args:List AV) (h:Hp) (res:CR) (h':Hp):pcall fv args h res h' fv args h=some (res,h'):=by simp [pcall]
theorem qFt {E:Env} {fv:AV} {args:List AV} {h h':Hp} {res:CR} (hc:CallS E fv args h res h'):jS E.P E.xt (pcall fv args h res h'):=by
 intro f a k r k' he;unfold pcall at he;split at he
 ·rename_i hq;obtain ⟨rfl,rfl,rfl⟩:=hq;cases he;exact hc
 ·cases he
def qAA:jE:=fun _ _ _=>none
theorem yZ (P:Program) (xt:Xt):jS P xt qAA:=by intro f a k r k' he;cases he
def resK (K:OR->Prop) (res:CR) (h':Hp):Prop:=
 match res with
 | .ret v=>K (.ok v h')
 | .pan v=>K (.pan v h')
def aopK (E:Env) (o:Oper) (tm:T AV) (h:Hp) (K:OR->Prop):Prop:= ∃p,aop E.P E.tb E.xt (qE tm) o.op h=some p/\K (.ok p.1 p.2)
def panK (h:Hp) (a:AV) (K:OR->Prop):Prop:= ∃r,qBl h a=some r/\K r
def calK (E:Env) (o:Oper) (tm:T AV) (h:Hp) (K:OR->Prop) (q:Call):Prop:=
 match q.callee with
 | .value f=>CallA E (qE tm f) (q.args.toList.map (qE tm)) h (resK K)
 | .invoke _ _=>False
 | .builtin _=>aopK E o tm h K
def WOp (E:Env) (o:Oper) (tm:T AV) (h:Hp) (K:OR->Prop):Prop:=
 match o.op with
 | .call q=>calK E o tm h K q
 | .panic x=>panK h (qE tm x) K
 | .defer _=>False
 |_=>aopK E o tm h K
theorem WOp.ev {E:Env} {o:Oper} {tm:T AV} {h:Hp} {K:OR->Prop} (hw:WOp E o tm h K): ∃call r,jS E.P E.xt call/\jQ E.P E.tb E.xt call o tm h=some r/\K r:=by
 have key:aopK E o tm h K-> ∃r,bH (aop E.P E.tb E.xt (qE tm) o.op h)=some r/\K r:=by
  rintro ⟨p,h1,h2⟩;exact ⟨_,by rw [h1];rfl,h2⟩
 unfold WOp at hw;split at hw
 ·rename_i q hq;unfold calK at hw;split at hw
  ·rename_i f hf;obtain ⟨res,h',hc,hk⟩:=hw;refine ⟨pcall (qE tm f) (q.args.toList.map (qE tm)) h res h',?_⟩;cases res with
   |ret v=>exact ⟨.ok v h',qFt hc,by simp [jQ,hq,vC,hf,qFu,uO],hk⟩
   |pan v=>exact ⟨.pan v h',qFt hc,by simp [jQ,hq,vC,hf,qFu,uO],hk⟩
  ·exact hw.elim
  ·rename_i b hb;obtain ⟨r,h1,h2⟩:=key hw;exact ⟨qAA,r,yZ _ _,by simp only [jQ,hq,vC,hb];rw [<-hq];exact h1,h2⟩
 ·rename_i x hx;obtain ⟨r,h1,h2⟩:=hw;exact ⟨qAA,r,yZ _ _,by simp only [jQ,hx];exact h1,h2⟩
 ·exact hw.elim
 ·rename_i n1 n2 n3;obtain ⟨r,h1,h2⟩:=key hw;refine ⟨qAA,r,yZ _ _,?_,h2⟩;unfold jQ;split
  ·rename_i q hq;exact absurd hq (n1 q)
  ·rename_i q hq;exact absurd hq (n2 q)
  ·rename_i q hq;exact absurd hq (n3 q)
  ·exact h1
def putK (nt:Nat) (tm:T AV) (dst:Option Tmp) (v:AV) (K:T AV->Prop):Prop:=
 match dst with
 |none=>K tm
 |some d=>d<nt/\K (tm.put (some v) d)
theorem putK.get {nt:Nat} {tm:T AV} {dst:Option Tmp} {v:AV} {K:T AV->Prop} (h:putK nt tm dst v K): ∃tm',putD nt tm dst v=some tm'/\K tm':=by
 unfold putK at h;split at h
 ·exact ⟨tm,rfl,h⟩
 ·rename_i d;have hb:Nat.blt d nt=true:=by rw [xZH];exact h.1
  exact ⟨_,by simp [putD,hb],h.2⟩
def orK (nt:Nat) (tm:T AV) (dst:Option Tmp) (Q:Ex->T AV->Hp->Prop) (N:T AV->Hp->Prop) (r:OR):Prop:=
 match r with
 | .pan v h'=>Q (.panic v) tm h'
 | .ok v h'=>putK nt tm dst v (fun tm'=>N tm' h')
def WO (E:Env) (nt:Nat) (ops:Array Oper):List Oper->T AV->Hp->(Ex->T AV->Hp->Prop)->Prop
 |[],tm,h,Q=>Q .normal tm h
 |o::ol,tm,h,Q=>jO nt ops o=true/\bif qP ops o tm then WOp E o tm h (orK nt tm o.dst Q (fun tm' h'=>WO E nt ops ol tm' h' Q)) else putK nt tm o.dst default (fun tm'=>WO E nt ops ol tm' h Q)
def OpsS (E:Env) (nt:Nat) (ops:Array Oper) (ol:List Oper) (tm:T AV) (h:Hp) (x:Ex) (tm':T AV) (h':Hp):Prop:=h.n<=h'.n/\ ∀lim,h'.n<=lim-> ∀(l:List Nat) (r:Option Nat),l.map (ops[·]?)=ol.map some-> ∀(c:Ctx) (a:Act) (w:World),Good lim c h w->(∀b v,E.xt b=some v->c.ext b=some v)->TR c nt tm a.tmps->
  ∀Q:Exit->Act->World->Prop,(∀e a' w',Post lim c h w nt a.defers x tm' h' e a' w'->Q e a' w')->wpOpsIn (Wd r) 0 E.P ops Q l a w
theorem WO.ok {E:Env} (htb:Tb E.P E.tb) {nt:Nat} {ops:Array Oper}: ∀(ol:List Oper) (tm:T AV) (h:Hp) (Q:Ex->T AV->Hp->Prop),WO E nt ops ol tm h Q-> ∃x tm' h',OpsS E nt ops ol tm h x tm' h'/\Q x tm' h'
 |[],tm,h,Q,hw=>by
  refine ⟨.normal,tm,h,⟨xZY _,fun lim hl l r hm c a w g hxt ht Q hQ=> ?_⟩,hw⟩;have:l=[]:=by simpa using hm
  subst this;exact hQ _ _ _ ⟨c,Stp.refl g,rfl,ht,rfl⟩
 |o::ol,tm,h,Q,hw=>by
  simp only [WO] at hw;obtain ⟨hgo,hw⟩:=hw;cases haw:qP ops o tm with
  |false=>
   rw [haw] at hw;simp only [cond_false] at hw;obtain ⟨tm1,hp,hk⟩:=hw.get;obtain ⟨x,tm',h',hs,hq⟩:=WO.ok htb ol tm1 h Q hk;refine ⟨x,tm',h',⟨hs.1,fun lim hlim l r hm c a w g hxt ht Q hQ=> ?_⟩,hq⟩;cases l with
   |nil=>simp at hm
   |cons i l=>
    simp only [xYU,List.cons.injEq] at hm;obtain ⟨hi,hl⟩:=hm;have hw:=uC ht ops o (wV hgo);simp only [wpOpsIn,hi,hw,haw,xXZ,if_false];refine ⟨fun _ _=>trivial,?_⟩;refine hs.2 lim hlim l r hl c _ w g hxt (qB1 ht (qAR c) hp) Q ?_;intro e a' w' hpost;rw [xT] at hpost;exact hQ e a' w' hpost
  |true=>
   rw [haw] at hw;simp only [cond_true] at hw;obtain ⟨call,res,hs,hop,hk⟩:=hw.ev;have hn1:=qBk hs hop;cases res with
   |pan v h1=>
    refine ⟨.panic v,tm,h1,⟨hn1,fun lim hlim l r hm c a w g hxt ht Q hQ=> ?_⟩,hk⟩;cases l with
    |nil=>simp at hm
    |cons i l=>
     simp only [xYU,List.cons.injEq] at hm;obtain ⟨hi,hl⟩:=hm;have hw:=uC ht ops o (wV hgo);simp only [wpOpsIn,hi,hw,haw,if_true];refine qAM htb hs hop hlim g hxt ht (fun _ _ _ _ _ e=>by cases e) (fun v' h'' y w' c' e hr hst=> ?_);cases e;exact hQ _ _ _ ⟨c',hst,⟨y,rfl,hr⟩,ht.mono hst.e,rfl⟩
   |ok v h1=>
    obtain ⟨tm1,hp,hk⟩:=putK.get (show putK nt tm o.dst v (fun tm'=>WO E nt ops ol tm' h1 Q) from hk);obtain ⟨x,tm',h',hs2,hq⟩:=WO.ok htb ol tm1 h1 Q hk;refine ⟨x,tm',h',⟨xZU hn1 hs2.1,fun lim hlim l r hm c a w g hxt ht Q hQ=> ?_⟩,hq⟩;cases l with
    |nil=>simp at hm
    |cons i l=>
     simp only [xYU,List.cons.injEq] at hm;obtain ⟨hi,hl⟩:=hm;have hw:=uC ht ops o (wV hgo);simp only [wpOpsIn,hi,hw,haw,if_true];refine qAM htb hs hop (xZU hs2.1 hlim) g hxt ht (fun v' h'' y w' c' e hr hst=> ?_) (fun _ _ _ _ _ e=>by cases e);cases e;refine hs2.2 lim hlim l r hl c' _ w' hst.good (fun b v hb=>hst.e.ext _ _ (hxt b v hb)) (qB1 (ht.mono hst.e) hr hp) Q ?_;intro e a' w'' hpost;rw [xT] at hpost;exact hQ e a' w'' (hpost.trans hst)
def DrwS (E:Env) (nt:Nat) (ops:Array Oper) (tm:T AV) (h:Hp) (x:Ex) (tm':T AV) (h':Hp):Prop:=h.n<=h'.n/\ ∀lim,h'.n<=lim-> ∀c a w r id,Good lim c h w->(∀b v,E.xt b=some v->c.ext b=some v)->TR c nt tm a.tmps->
   ∀Q:Exit->Act->World->Prop,(∀e a' w',Post lim c h w nt a.defers x tm' h' e a' w'->Q e a' w')->(Code.region id ops true).wpIn (Wd r) 0 E.P Q a w
section
variable {E:Env} {r:Option Nat}
theorem SemC.skip {st:St}:SemC E r .skip st .normal st:=⟨xZY _,fun _ _ _ c _ _ s _ _ hQ=>wpIn_skip (hQ _ _ _ ⟨c,Stp.refl s.good,rfl,s⟩)⟩
theorem SemC.label {l:Nat} {st:St}:SemC E r (.label l) st .normal st:=⟨xZY _,fun _ _ _ c _ _ s _ _ hQ=>wpIn_label (hQ _ _ _ ⟨c,Stp.refl s.good,rfl,s⟩)⟩
theorem SemC.exit {id:Nat} {st:St}:SemC E r (.exit id) st (.exit id) st:=⟨xZY _,fun _ _ _ c _ _ s _ _ hQ=>wpIn_exit (hQ _ _ _ ⟨c,Stp.refl s.good,rfl,s⟩)⟩
theorem SemC.ret {st:St}:SemC E r .ret st .ret st:=⟨xZY _,fun _ _ _ c _ _ s _ _ hQ=>wpIn_ret (hQ _ _ _ ⟨c,Stp.refl s.good,rfl,s⟩)⟩
theorem SemC.seqOut {a b:Code} {st st1:St} {x:Ex} (h1:SemC E r a st x st1) (hx:x≠ .normal):SemC E r (.seq a b) st x st1:=by
 refine ⟨h1.1,fun lim hl ds c a w s hr Q hQ=>wpIn_seq (h1.2 lim hl ds c a w s hr _ ?_)⟩;rintro e a' w' ⟨c',t1,t2,t3⟩;have hq:=hQ e a' w' ⟨c',t1,t2,t3⟩;cases x with
 |normal=>exact absurd rfl hx
 |exit id=>cases t2;exact hq
 |goto id=>cases t2;exact hq
 |ret=>cases t2;exact hq
 |panic v=>obtain ⟨y,rfl,_⟩:=t2;exact hq
theorem SemC.cond {q:Operand} {a b:Code} {st st':St} {x:Ex} {t:Bool} (ht:qE st.tm q= .val (.bool t)) (h1:SemC E r (bif t then a else b) st x st'):SemC E r (.cond q a b) st x st':=by
 refine ⟨h1.1,fun lim hl ds c a w s hr Q hQ=> ?_⟩;have hv:=wL (a:=a) s.tr q;rw [ht] at hv;simp only [R] at hv;refine wpIn_cond hv ?_;have:=h1.2 lim hl ds c a w s hr Q hQ;cases t<;>exact this
def qEX (id:Nat):Ex->Ex
 | .exit id'=>bif Nat.beq id' id then .normal else .exit id'
 |x=>x
theorem SemC.block {id:Nat} {b:Code} {st st':St} {x:Ex} (h1:SemC E r b st x st'):SemC E r (.block id b) st (qEX id x) st':=by
 refine ⟨h1.1,fun lim hl ds c a w s hr Q hQ=>wpIn_block (h1.2 lim hl ds c a w s hr _ ?_)⟩;rintro e a' w' ⟨c',t1,t2,t3⟩;have hq:=hQ;cases x with
 |normal=>cases t2;exact hQ _ _ _ ⟨c',t1,rfl,t3⟩
 |exit id'=>
  cases t2;simp only [qEX] at hQ;by_cases he:id'=id
  ·subst he;simp only [Exit.inBlock,if_true];exact hQ _ _ _ ⟨c',t1,by simp [ExR],t3⟩
  ·simp only [Exit.inBlock,if_neg he];refine hQ _ _ _ ⟨c',t1,?_,t3⟩;have:Nat.beq id' id=false:=by cases hb:Nat.beq id' id;rfl;exact absurd (xZX hb) he
   rw [this];rfl
 |goto id=>cases t2;exact hQ _ _ _ ⟨c',t1,rfl,t3⟩
 |ret=>cases t2;exact hQ _ _ _ ⟨c',t1,rfl,t3⟩
 |panic v=>obtain ⟨y,rfl,hy⟩:=t2;exact hQ _ _ _ ⟨c',t1,⟨y,rfl,hy⟩,t3⟩
theorem SemC.scope {b:Code} {st st':St} {x:Ex} (h1:SemC E r b st x st') (hx: ∀l,x≠ .goto l):SemC E r (.scope b) st x st':=by
 refine ⟨h1.1,fun lim hl ds c a w s hr Q hQ=>xG (h1.2 lim hl ds c a w s hr _ ?_)⟩;rintro e a' w' ⟨c',t1,t2,t3⟩;have hq:=hQ e a' w' ⟨c',t1,t2,t3⟩;cases x with
 |normal=>cases t2;exact hq
 |exit id=>cases t2;exact hq
 |goto id=>exact absurd rfl (hx id)
 |ret=>cases t2;exact hq
 |panic v=>obtain ⟨y,rfl,_⟩:=t2;exact hq
theorem SemC.region {id:Nat} {ops:Array Oper} {st:St} {x:Ex} {tm':T AV} {h':Hp} (ho:OpsS E st.nt ops ops.toList st.tm st.h x tm' h'):SemC E r (.region id ops false) st x {st with tm:=tm',h:=h'}:=
 ⟨ho.1,fun lim hl ds c a w s hr Q hQ=>wpIn_region (ho.2 lim hl _ _ (qDR ops) c a w s.good s.ext s.tr _ fun e a' w' p=>hQ _ _ _ (uF s p))⟩
theorem SemC.regionD {id:Nat} {ops:Array Oper} {st:St} {x:Ex} {tm':T AV} {h':Hp} (ho:DrwS E st.nt ops st.tm st.h x tm' h'):SemC E r (.region id ops true) st x {st with tm:=tm',h:=h'}:=
 ⟨ho.1,fun lim hl ds c a w s hr Q hQ=>ho.2 lim hl c a w _ id s.good s.ext s.tr Q fun e a' w' p=>hQ _ _ _ (uF s p)⟩
inductive LoopS (E:Env) (r:Option Nat) (b:Code):St->Ex->St->Prop
 |out {st st':St} {x:Ex}:SemC E r b st x st'->x≠ .normal->LoopS E r b st x st'
 |more {st st1 st':St} {x:Ex}:SemC E r b st .normal st1->LoopS E r b st1 x st'->LoopS E r b st x st'
theorem LoopS.ok {b:Code} {st st':St} {x:Ex} (hL:LoopS E r b st x st'):st.h.n<=st'.h.n/\ ∃m,∀lim,st'.h.n<=lim->
  ∀ds c a w,SR E lim c st a w ds->RoundR c r-> ∀Q:Exit->Act->World->Prop,(∀e a' w',PostC E lim c st.h w x st' ds e a' w'->Q e a' w')->Code.roundsIn (Wd (r.map c.ρ)) 0 E.P b Q m a w:=by
 induction hL with
 |out h1 hne=>
  rename_i st st' x;refine ⟨h1.1,1,fun lim hl ds c a w s hr Q hQ=> ?_⟩;rw [roundsIn_succ];refine h1.2 lim hl ds c a w s hr _ ?_;rintro e a' w' ⟨c',t1,t2,t3⟩;have hq:=hQ e a' w' ⟨c',t1,t2,t3⟩;cases x with
  |normal=>exact absurd rfl hne
  |exit id=>cases t2;exact hq
  |goto id=>cases t2;exact hq
  |ret=>cases t2;exact hq
  |panic v=>obtain ⟨y,rfl,_⟩:=t2;exact hq
 |more h1 h2 ih=>
  obtain ⟨n2,m,s2⟩:=ih;refine ⟨xZU h1.1 n2,m+1,fun lim hl ds c a w s hr Q hQ=> ?_⟩;rw [roundsIn_succ];refine h1.2 lim (xZU n2 hl) ds c a w s hr _ ?_;rintro e a' w' ⟨c',t1,t2,t3⟩;cases t2;have:=s2 lim hl ds c' a' w' t3 (hr.mono t1.e) Q fun e a'' w'' pp=>hQ _ _ _ (pp.trans t1);rw [qBy t1.e hr] at this;exact this
theorem SemC.loop {b:Code} {st st':St} {x:Ex} (hL:LoopS E r b st x st'):SemC E r (.loop b) st x st':=by
 obtain ⟨n,m,s⟩:=hL.ok;exact ⟨n,fun lim hl ds c a w sr hr Q hQ=>wpIn_loop_rounds m (s lim hl ds c a w sr hr Q hQ)⟩
def loopK (I:St->Prop) (μ:St->Nat) (st:St) (Q:Ex->St->Prop):Ex->St->Prop
 | .normal,s=>I s/\μ s<μ st
 |x,s=>Q x s
theorem W.loop (I:St->Prop) (μ:St->Nat) {b:Code} {Q:Ex->St->Prop} (hb: ∀st,I st->W E r b st (loopK I μ st Q)): ∀{st:St},I st->W E r (.loop b) st Q:=by
 have key: ∀n st,μ st<=n->I st-> ∃x st',LoopS E r b st x st'/\Q x st':=by
  intro n;induction n with
  |zero=>
   intro st hm hi;obtain ⟨x,s,h1,h2⟩:=hb st hi;cases x with
   |normal=>have:=h2.2;omega
   |exit id=>exact ⟨_,_,.out h1 (by simp),h2⟩
   |goto id=>exact ⟨_,_,.out h1 (by simp),h2⟩
   |ret=>exact ⟨_,_,.out h1 (by simp),h2⟩
   |panic v=>exact ⟨_,_,.out h1 (by simp),h2⟩
  |succ n ih=>
   intro st hm hi;obtain ⟨x,s,h1,h2⟩:=hb st hi;cases x with
   |normal=>
    obtain ⟨x',s',h3,h4⟩:=ih s (by have:=h2.2;omega) h2.1;exact ⟨x',s',.more h1 h3,h4⟩
   |exit id=>exact ⟨_,_,.out h1 (by simp),h2⟩
   |goto id=>exact ⟨_,_,.out h1 (by simp),h2⟩
   |ret=>exact ⟨_,_,.out h1 (by simp),h2⟩
   |panic v=>exact ⟨_,_,.out h1 (by simp),h2⟩
 intro st hi;obtain ⟨x,s,h1,h2⟩:=key _ st (xZY _) hi;exact ⟨x,s,.loop h1,h2⟩
end
def hH (N:St->Prop) (Q:Ex->St->Prop):Ex->St->Prop
 | .normal,s=>N s
 |x,s=>Q x s
def blockK (id:Nat) (Q:Ex->St->Prop) (x:Ex) (s:St):Prop:=Q (qEX id x) s
def scopeK (Q:Ex->St->Prop):Ex->St->Prop
 | .goto _,_=>False
 |x,s=>Q x s
def condK (a:AV) (A B:Prop):Prop:=
 match a with
 | .val (.bool t)=>(t=true->A)/\(t=false->B)
 |_=>False
def regK (st:St) (Q:Ex->St->Prop) (x:Ex) (tm:T AV) (h:Hp):Prop:=Q x {st with tm:=tm,h:=h}
def wpc (E:Env) (r:Option Nat):Code->St->(Ex->St->Prop)->Prop
 | .skip,st,Q=>Q .normal st
 | .label _,st,Q=>Q .normal st
 | .exit id,st,Q=>Q (.exit id) st
 | .ret,st,Q=>Q .ret st
 | .seq a b,st,Q=>wpc E r a st (hH (fun s=>wpc E r b s Q) Q)
 | .cond q a b,st,Q=>condK (qE st.tm q) (wpc E r a st Q) (wpc E r b st Q)
 | .block id b,st,Q=>wpc E r b st (blockK id Q)
 | .scope b,st,Q=>wpc E r b st (scopeK Q)
 | .region id ops draw,st,Q=>bif draw then W E r (.region id ops true) st Q else WO E st.nt ops ops.toList st.tm st.h (regK st Q)
 |c,st,Q=>W E r c st Q
theorem wpc.ok {E:Env} (htb:Tb E.P E.tb) {r:Option Nat}: ∀(c:Code) (st:St) (Q:Ex->St->Prop),wpc E r c st Q->W E r c st Q:=by
 intro c;induction c with
 |skip=>intro st Q h;exact ⟨_,_,.skip,h⟩
 |label l=>intro st Q h;exact ⟨_,_,.label,h⟩
 |exit id=>intro st Q h;exact ⟨_,_,.exit,h⟩
 |ret=>intro st Q h;exact ⟨_,_,.ret,h⟩
 |seq a b iha ihb=>
  intro st Q h;obtain ⟨x,s,h1,h2⟩:=iha _ _ h;cases x with
  |normal=>obtain ⟨y,s',h3,h4⟩:=ihb _ _ h2;exact ⟨y,s',h1.seq h3,h4⟩
  |exit id=>exact ⟨_,_,h1.seqOut (by simp),h2⟩
  |goto id=>exact ⟨_,_,h1.seqOut (by simp),h2⟩
  |ret=>exact ⟨_,_,h1.seqOut (by simp),h2⟩
  |panic v=>exact ⟨_,_,h1.seqOut (by simp),h2⟩
 |cond q a b iha ihb=>
  intro st Q h;simp only [wpc,condK] at h;split at h
  ·rename_i t ht;cases t with
   |true=>obtain ⟨x,s,h1,h2⟩:=iha _ _ (h.1 rfl);exact ⟨x,s,.cond ht h1,h2⟩
   |false=>obtain ⟨x,s,h1,h2⟩:=ihb _ _ (h.2 rfl);exact ⟨x,s,.cond ht h1,h2⟩
  ·exact h.elim
 |block id b ih=>
  intro st Q h;obtain ⟨x,s,h1,h2⟩:=ih _ _ h;exact ⟨_,_,h1.block,h2⟩
 |scope b ih=>
  intro st Q h;obtain ⟨x,s,h1,h2⟩:=ih _ _ h;cases x with
  |goto id=>exact h2.elim
  |normal=>exact ⟨_,_,h1.scope (by simp),h2⟩
  |exit id=>exact ⟨_,_,h1.scope (by simp),h2⟩
  |ret=>exact ⟨_,_,h1.scope (by simp),h2⟩
  |panic v=>exact ⟨_,_,h1.scope (by simp),h2⟩
 |region id ops draw=>
  intro st Q h;cases draw with
  |true=>exact h
  |false=>obtain ⟨x,tm,hh,h1,h2⟩:=WO.ok htb _ _ _ _ h;exact ⟨_,_,.region h1,h2⟩
 |_=>intro st Q h;exact h
section
variable {E:Env}
def FnS (E:Env) (f:FuncId) (as:List AV) (h:Hp) (res:CR) (h':Hp):Prop:=
 h.n<=h'.n/\(∃fn,E.ft.get f=some fn/\fn.body.isSome=true)/\ ∀lim,h'.n<=lim-> ∀c w args',Good lim c h w->(∀b v,E.xt b=some v->c.ext b=some v)->RL c as args'->
   CallsIn Fence.wide 0 E.P f args'.toArray w fun e w'=> ∃c',Stp lim c h w c' h' w'/\bN c' res e
def FnA (E:Env) (f:FuncId) (as:List AV) (h:Hp) (K:KP):Prop:= ∃res h',FnS E f as h res h'/\K res h'
theorem FnA.mono {f:FuncId} {as:List AV} {h:Hp} {K K':KP} (hc:FnA E f as h K) (hk: ∀r h',K r h'->K' r h'):FnA E f as h K':=by
 obtain ⟨r,h',h1,h2⟩:=hc;exact ⟨r,h',h1,hk _ _ h2⟩
theorem FnS.call (hft:qA5 E) {f:FuncId} {as:List AV} {h h':Hp} {res:CR} (hc:FnS E f as h res h') {fv:AV} {args:List AV} (hcal:callee fv args=some (f,as)):CallS E fv args h res h':=by
 obtain ⟨n1,⟨fn,hfn,hbd⟩,s1⟩:=hc;refine ⟨n1,fun lim hl c w fv' args' g hxt hf ha=> ?_⟩;obtain ⟨as',d,has,hd,hinv⟩:=bC (E:=E) hcal hf ha (hft f fn hfn).1 hbd (hft f fn hfn).2 w;exact ⟨d,hd,.inl ⟨f,as'.toArray,hinv,s1 lim hl c w as' g hxt has⟩⟩
theorem FnA.call (hft:qA5 E) {f:FuncId} {as:List AV} {h:Hp} {K:KP} (hc:FnA E f as h K) {fv:AV} {args:List AV} (hcal:callee fv args=some (f,as)):CallA E fv args h K:=by
 obtain ⟨r,h',h1,h2⟩:=hc;exact ⟨r,h',h1.call hft hcal,h2⟩
def xX (E:Env) (fn:Func) (K:KP) (x:Ex) (st:St):Prop:=
 match x with
 | .normal=> ∃h' vs,vD st.mks st.h=some h'/\vI E st.tm h' fn.results.toList=some vs/\K (.ret (zH vs)) h'
 | .ret=> ∃h' vs,vD st.mks st.h=some h'/\vI E st.tm h' fn.results.toList=some vs/\K (.ret (zH vs)) h'
 | .panic v=> ∃h',vD st.mks st.h=some h'/\K (.pan v) h'
 |_=>False
open Classical in
theorem FnA.enter (hft:qA5 E) (htb:Tb E.P E.tb) {f:FuncId} {fn:Func} {body:Code} (hfn:E.ft.get f=some fn) (hb:fn.body=some body) {args:List AV} {h:Hp} {K:KP}
  (hw:W E none body {tm:=argsTo args 0 .e,nt:=args.length+(fn.ntmps - args.length),h:=h,mks:=[]} (xX E fn K)):FnA E f args h K:=by
 obtain ⟨x,st,hs,hk⟩:=hw
 let code:j8:=fun r c s=>if r=none/\c=body/\s={tm:=argsTo args 0 .e,nt:=args.length+(fn.ntmps - args.length),h:=h,mks:=[]} then some (x,st) else none
 have hc:zK E code:=by
  intro r c s y s' he;simp only [code] at he;split at he
  ·rename_i hq;obtain ⟨rfl,rfl,rfl⟩:=hq;cases he;exact hs
  ·cases he
 have key: ∀res h',yB E code f args h=some (res,h')->K res h'->FnA E f args h K:=fun res h' he hk=>by
  obtain ⟨n1,hx,s1⟩:=wX hft htb hc he;exact ⟨res,h',⟨n1,hx,s1⟩,hk⟩
 cases x with
 |normal=>
  obtain ⟨h',vs,h1,h2,h3⟩:=hk;refine key (.ret (zH vs)) h' ?_ h3;unfold yB;simp only [hfn,hb,code,and_self,if_true,h1,h2]
 |ret=>
  obtain ⟨h',vs,h1,h2,h3⟩:=hk;refine key (.ret (zH vs)) h' ?_ h3;unfold yB;simp only [hfn,hb,code,and_self,if_true,h1,h2]
 |panic v=>
  obtain ⟨h',h1,h3⟩:=hk;refine key (.pan v) h' ?_ h3;unfold yB;simp only [hfn,hb,code,and_self,if_true,h1]
 |exit id=>exact hk.elim
 |goto id=>exact hk.elim
def roundK2 (l:Nat) (K:KP) (x:Ex) (s:St):Prop:=
 ∃j rc2,yA x=some j/\s.mks=[]/\s.h.t.get l=some (.loop rc2)/\K (.ret (.val (.bool j.isNone))) (s.h.set l (.loop {rc2 with state:=if j.isNone then .ready else .done,pending:=j}))
def roundK1 (E:Env) (l:Nat) (body:Code) (K:KP) (x:Ex) (s:St):Prop:=
 x= .normal/\s.mks=[]/\ ∃rc1,s.h.t.get l=some (.loop rc1)/\rc1.state= .ready/\W E (some l) body {s with h:=s.h.set l (.loop {rc1 with state:= .busy})} (roundK2 l K)
open Classical in
theorem CallA.round {l:Nat} {args:List AV} {h:Hp} {K:KP} {rc:ALoop} (hl:h.t.get l=some (.loop rc)) (hs:rc.state= .ready) {tm:T AV} (hp:uN rc.nt rc.params.toList args rc.tmps=some tm)
  (hw:W E (some l) rc.assign {tm:=tm,nt:=rc.nt,h:=h,mks:=[]} (roundK1 E l rc.body K)):CallA E (.yld l) args h K:=by
 obtain ⟨x,st,h1,rfl,hm1,rc1,hl1,hs1,y,st2,h2,j,rc2,hj,hm2,hl2,hk⟩:=hw;obtain ⟨tm1,nt1,hh1,mks1⟩:=st;simp only at hm1 hl1 h2;subst hm1
 let code:j8:=fun r c s=>if r=some l/\c=rc.body/\s={tm:=tm1,nt:=nt1,h:=hh1.set l (.loop {rc1 with state:= .busy}),mks:=[]} then some (y,st2)
  else if r=some l/\c=rc.assign/\s={tm:=tm,nt:=rc.nt,h:=h,mks:=[]} then some (.normal,{tm:=tm1,nt:=nt1,h:=hh1,mks:=[]}) else none
 have hc:zK E code:=by
  intro r c s y s' he;simp only [code] at he;split at he
  ·rename_i hq;obtain ⟨rfl,rfl,rfl⟩:=hq;cases he;exact h2
  ·split at he
   ·rename_i hq;obtain ⟨rfl,rfl,rfl⟩:=hq;cases he;exact h1
   ·cases he
 have hne:({tm:=tm,nt:=rc.nt,h:=h,mks:=[]}:St)≠{tm:=tm1,nt:=nt1,h:=hh1.set l (.loop {rc1 with state:= .busy}),mks:=[]}:=by
  intro he;have e2:h=hh1.set l (.loop {rc1 with state:= .busy}):=congrArg St.h he;rw [e2] at hl;simp only [Hp.set,T.get_put,if_true,Option.some.injEq,AO.loop.injEq] at hl;rw [<-hl] at hs;cases hs
 have he:qAJ code l args h=some (.ret (.val (.bool j.isNone)),st2.h.set l (.loop {rc2 with state:=if j.isNone then .ready else .done,pending:=j})):=by
  unfold qAJ;have c1:code (some l) rc.assign {tm:=tm,nt:=rc.nt,h:=h,mks:=[]}=some (.normal,{tm:=tm1,nt:=nt1,h:=hh1,mks:=[]}):=by
   simp only [code];rw [if_neg (fun q=>hne q.2.2)];simp
  have c2:code (some l) rc.body {tm:=tm1,nt:=nt1,h:=hh1.set l (.loop {rc1 with state:= .busy}),mks:=[]}=some (y,st2):=by simp [code]
  simp only [hl,hs,hp,c1,hl1,hs1,c2,hj,hm2,hl2]
 exact ⟨_,_,qCV hc he,hk⟩
def rangeK (E:Env) (r:Option Nat) (st:St) (l:Nat) (mk1:List Nat) (Q:Ex->St->Prop) (res:CR) (h2:Hp):Prop:=
 match res with
 | .pan v=>Q (.panic v) {st with h:=h2,mks:=mk1}
 | .ret _=> ∃rc,h2.t.get l=some (.loop rc)/\rc.state≠ .busy/\(rc.pending=none->Q .normal {st with h:=h2.set l (.loop {rc with state:= .exhausted}),mks:=mk1})/\
   (∀c,rc.pending=some c->W E r c {st with h:=h2.set l (.loop {rc with state:= .exhausted}),mks:=mk1} Q)
theorem W.range (hft:qA5 E) {r:Option Nat} {f:Operand} {ps:Array Tmp} {assign body:Code} {st:St} {Q:Ex->St->Prop} {l:Nat} {h1:Hp} {mk1:List Nat}
  (hel:kO r st.tm st.nt ps assign body st.h st.mks=some (l,h1,mk1)) {g:FuncId} {as:List AV} (hcal:callee (qE st.tm f) [.yld l]=some (g,as)) (hw:FnA E g as h1 (rangeK E r st l mk1 Q)):
  W E r (.rangeFunc f ps assign body) st Q:=by
 have n0:=bW hel;obtain ⟨res,h2,⟨n1,⟨fn,hfn,hbd⟩,s1⟩,hk⟩:=hw;have key: ∀lim,h2.n<=lim-> ∀ds c a w,SR E lim c st a w ds->RoundR c r-> ∀Q:Exit->Act->World->Prop,
   (∀c2 w2 a2 e,Stp lim c st.h w c2 h2 w2->bN c2 res e->c2.dom l->a2.tmps=a.tmps->a2.defers=yS c2 mk1++ds->(∀d∈mk1,c2.dom d)->TR c2 st.nt st.tm a2.tmps->(∀b v,E.xt b=some v->c2.ext b=some v)->
    rangePost (Wd (r.map c.ρ)) 0 E.P (c2.ρ l) Q a2 e w2)->(Code.rangeFunc f ps assign body).wpIn (Wd (r.map c.ρ)) 0 E.P Q a w:=by
  refine fun lim hl ds c a w s hr Q hQ=>wpIn_rangeFunc fun fnid _=> ?_;obtain ⟨mark,w1,c1,hrun,hst,hdl,hmk,hmd⟩:=qAO hel (xZU n1 hl) s hr fnid;have hfv:=R.mono hst.e _ _ (wL (a:=a) s.tr f);have hya:RL c1 [.yld l] [.func (.yield (c1.ρ l)) #[] #[]]:=RL.cons (by simp only [R];exact ⟨hdl,trivial⟩) RL.nil;obtain ⟨as',d,has,hd,hinv⟩:=bC (E:=E) hcal hfv hya (hft g fn hfn).1 hbd (hft g fn hfn).2 w1;refine ⟨c1.ρ l,mark,w1,d,w1,g,as'.toArray,w1,hrun,?_,fun _ _=>trivial,hinv,by simp [Wd,Fence.wide],w9 ((s1 lim hl c1 w1 as' hst.good (fun b v hb=>hst.e.ext _ _ (s.ext b v hb)) has).mono fun e w2 ⟨c2,t1,t2⟩=> ?_)⟩
  ·show (resolve a.eval (rangeCall f (c1.ρ l)) 0).run E.P w1=_;have e:Array.map a.eval (rangeCall f (c1.ρ l)).args= #[Value.func (.yield (c1.ρ l)) #[] #[]]:=by simp [Act.eval]
   unfold resolve;simp only [e];exact hd
  ·have:=hQ c2 w2 {a with defers:=mark++a.defers} e (hst.trans t1) t2 (t1.e.dom l hdl) rfl (by rw [hmk,y8 t1.e hmd]) (fun d hd=>t1.e.dom d (hmd d hd)) ((s.tr.mono hst.e).mono t1.e) (fun b v hb=>t1.e.ext _ _ (hst.e.ext _ _ (s.ext b v hb)));rw [t1.e.ρ l hdl] at this;exact this
 cases res with
 |pan v=>
  refine ⟨_,_,⟨xZU n0 n1,fun lim hl ds c a w s hr Q hQ=>key lim hl ds c a w s hr Q ?_⟩,hk⟩;intro c2 w2 a2 e t1 t2 t3 t4 t5 t6 t7 t8;obtain ⟨y,rfl,hy⟩:=t2;exact hQ _ _ _ ⟨c2,t1,⟨y,rfl,hy⟩,⟨t7,t1.good,t8,t5,t6⟩⟩
 |ret v=>
  obtain ⟨rc,hrc,hb,hn,hc⟩:=hk;have shut: ∀lim,∀c2 w2,Good lim c2 h2 w2-> ∃w3,(Instr.endLoop (c2.ρ l)).run E.P w2= .ok rc.pending w3/\Stp lim c2 h2 w2 c2 (h2.set l (.loop {rc with state:= .exhausted})) w3:=by
   intro lim c2 w2 g2;obtain ⟨_,o',ho,hro⟩:=g2.live l _ hrc;simp only [RO] at hro;obtain ⟨tmps0,fn0,htr0,hdd,rfl⟩:=hro;refine ⟨_,run_endLoop ho hb,Stp.write g2 _ hrc (.loop {state:= .exhausted,pending:=rc.pending,fn:=fn0,tmps:=tmps0,params:=rc.params,assign:=rc.assign,body:=rc.body,defers:=c2.ρ rc.defers}) ⟨tmps0,fn0,htr0,hdd,rfl⟩ rfl⟩
  cases hpd:rc.pending with
  |none=>
   refine ⟨_,_,⟨xZU n0 n1,fun lim hl ds c a w s hr Q hQ=>key lim hl ds c a w s hr Q ?_⟩,hn hpd⟩;intro c2 w2 a2 e t1 t2 t3 t4 t5 t6 t7 t8;obtain ⟨y,rfl,_⟩:=t2;obtain ⟨w3,hw3,hst3⟩:=shut lim c2 w2 t1.good;refine ⟨rc.pending,w3,hw3,?_⟩;rw [hpd];exact hQ _ _ _ ⟨c2,t1.trans hst3,rfl,⟨t7,hst3.good,t8,t5,t6⟩⟩
  |some cd=>
   obtain ⟨x,st',⟨n2,s2⟩,hq⟩:=hc cd hpd;refine ⟨x,st',⟨xZU (xZU n0 n1) n2,fun lim hl ds c a w s hr Q hQ=>key lim (xZU n2 hl) ds c a w s hr Q ?_⟩,hq⟩;intro c2 w2 a2 e t1 t2 t3 t4 t5 t6 t7 t8;obtain ⟨y,rfl,_⟩:=t2;obtain ⟨w3,hw3,hst3⟩:=shut lim c2 w2 t1.good;refine ⟨rc.pending,w3,hw3,?_⟩;rw [hpd];have:=s2 lim hl ds c2 a2 w3 ⟨t7,hst3.good,t8,t5,t6⟩ (hr.mono t1.e) Q fun e a' w' p=>hQ _ _ _ ((p.trans hst3).trans t1);rw [qBy t1.e hr] at this;exact this
structure Fr (n:Nat) (h h':Hp):Prop where
 lo:n<=h'.n
 le:h.n<=h'.n
 at_: ∀k,(k<n\/h'.n<=k)->h'.t.get k=h.t.get k
theorem Fr.refl {n:Nat} {h:Hp} (hn:n<=h.n):Fr n h h:=⟨hn,xZY _,fun _ _=>rfl⟩
theorem Fr.new {n:Nat} {h h':Hp} (f:Fr n h h') (o:AO):Fr n h (h'.new o):=by
 refine ⟨xXW f.lo,xXW f.le,fun k hk=> ?_⟩;have:=f.lo;simp only [Hp.new] at hk ⊢;rw [T.get_put,if_neg (by omega)];exact f.at_ k (by omega)
theorem Fr.set {n:Nat} {h h':Hp} (f:Fr n h h') {b:Nat} (hb:n<=b) (hb':b<h'.n) (o:AO):Fr n h (h'.set b o):=by
 refine ⟨f.lo,f.le,fun k hk=> ?_⟩;simp only [Hp.set] at hk ⊢;rw [T.get_put,if_neg (by omega)];exact f.at_ k (by omega)
theorem Fr.del {n:Nat} {h h':Hp} (f:Fr n h h') {b:Nat} (hb:n<=b) (hb':b<h'.n):Fr n h (h'.del b):=by
 refine ⟨f.lo,f.le,fun k hk=> ?_⟩;simp only [Hp.del] at hk ⊢;rw [T.get_put,if_neg (by omega)];exact f.at_ k (by omega)
theorem Fr.trans {n m:Nat} {h h1 h2:Hp} (f:Fr n h h1) (g:Fr m h1 h2) (hm:n<=m):Fr n h h2:=by
 refine ⟨xZU hm g.lo,xZU f.le g.le,fun k hk=> ?_⟩;have:=f.lo;have:=g.le;have:=g.lo;rw [g.at_ k (by omega),f.at_ k (by omega)]
def Hp.up (h:Hp) (n:Nat):Hp:={t:=h.t,n:=n}
@[simp] theorem Hp.up_t (h:Hp) (n:Nat):(h.up n).t=h.t:=rfl
@[simp] theorem Hp.up_n (h:Hp) (n:Nat):(h.up n).n=n:=rfl
theorem Fr.up {n m:Nat} {h h':Hp} (f:Fr n h h') (hm:h'.n<=m):Fr n h (h'.up m):=
 ⟨xZU f.lo hm,xZU f.le hm,fun k hk=>f.at_ k (by simp only [Hp.up_n] at hk;omega)⟩
theorem Good.key {lim:Nat} {c:Ctx} {h:Hp} {w:World} (g:Good lim c h w) {k:Nat} {o:AO} (e:h.t.get k=some o):k<h.n\/lim<=k:=by
 rcases xYV k h.n with h1|h1
 ·exact .inl h1
 ·rcases xYV k lim with h2|h2
  ·exact absurd (g.live k o e).1 (g.fresh k h1 h2)
  ·exact .inr h2
theorem FnS.less {f:FuncId} {as:List AV} {h h1 h2:Hp} {res:CR} (hc:FnS E f as h res h1) (hn:h2.n=h1.n) (hs: ∀k o,(k<h.n->h2.t.get k=some o->h1.t.get k=some o)/\(h.n<=k->k<h1.n->h2.t.get k=some o->h1.t.get k=some o)/\(h1.n<=k->h2.t.get k=some o->h1.t.get k=some o)):FnS E f as h res h2:=by
 obtain ⟨n1,hx,s1⟩:=hc;refine ⟨hn▸n1,hx,fun lim hl c w args' g hxt ha=>(s1 lim (hn▸hl) c w args' g hxt ha).mono ?_⟩;rintro e w' ⟨c',s,hr⟩;refine ⟨c',s.less hn (fun k o hk=> ?_),hr⟩;rcases xYV k h.n with h3|h3
 ·exact (hs k o).1 h3 hk
 ·rcases xYV k h1.n with h4|h4
  ·exact (hs k o).2.1 h3 h4 hk
  ·exact (hs k o).2.2 h4 hk
theorem Stp.bump {lim:Nat} {c c':Ctx} {h h':Hp} {w w':World} (s:Stp lim c h w c' h' w') {n:Nat} (hn:h'.n<=n):Stp lim c h w c' (h'.up n) w':=by
 refine ⟨s.e,⟨fun k h1 h2=>s.good.fresh k (xZU hn h1) h2,s.good.live,s.good.inj,s.good.ext⟩,xZU s.n hn,fun k hk=> ?_,s.os,s.tape,s.output,s.size,s.fr,s.img,fun k o hk=> ?_⟩
 ·rcases s.grow k hk with h1|h1
  ·exact .inl h1
  ·exact .inr ⟨h1.1,xZM h1.2 hn⟩
 ·rcases s.sub k o hk with h1|h1
  ·exact .inl h1
  ·exact .inr ⟨h1.1,xZM h1.2 hn⟩
theorem FnS.bump {f:FuncId} {as:List AV} {h h':Hp} {res:CR} (hc:FnS E f as h res h') {n:Nat} (hn:h'.n<=n):FnS E f as h res (h'.up n):=by
 obtain ⟨n1,hx,s1⟩:=hc;refine ⟨xZU n1 hn,hx,fun lim hl c w args' g hxt ha=> ?_⟩;have hl':n<=lim:=hl;refine (s1 lim (xZU hn hl') c w args' g hxt ha).mono ?_;rintro e w' ⟨c',s,hr⟩;exact ⟨c',s.bump hn,hr⟩
theorem FnA.calm {f:FuncId} {as:List AV} {h:Hp} {v:CR} (hc:FnA E f as h (fun r h'=>r=v/\Fr h.n h h')) {K:KP} (hk: ∀n,h.n<n->K v (h.up n)):FnA E f as h K:=by
 obtain ⟨res,h1,hs,rfl,fr⟩:=hc;refine ⟨res,h.up (h1.n+1),?_,hk _ (Nat.lt_succ_of_le fr.le)⟩;have hs':FnS E f as h res (h.up h1.n):=by
  obtain ⟨n1,hx,s1⟩:=hs;refine ⟨n1,hx,fun lim hl c w args' g hxt ha=>(s1 lim hl c w args' g hxt ha).mono ?_⟩;rintro e w' ⟨c',s,hr⟩;refine ⟨c',s.less (h2:=h.up h1.n) rfl (fun k o hk=> ?_),hr⟩;have hk':h.t.get k=some o:=hk;rw [fr.at_ k (by rcases g.key hk' with h3|h3;exact .inl h3;exact .inr (xZU hl h3))];exact hk'
 exact hs'.bump (n:=h1.n+1) (xYC _)
structure SyOk (E:Env):Prop where
 ft:qA5 E
 tb:Tb E.P E.tb
 mixed:E.P.follows .mixedOrders=true
theorem FnA.walk (ok:SyOk E) {f:FuncId} {fn:Func} {body:Code} (hfn:E.ft.get f=some fn) (hb:fn.body=some body) {args:List AV} (nt:Nat) (hnt:args.length+(fn.ntmps - args.length)=nt) {h:Hp} {K:KP}
  (hw:wpc E none body ⟨argsTo args 0 .e,nt,h,[]⟩ (xX E fn K)):FnA E f args h K:=
 FnA.enter ok.ft ok.tb hfn hb (wpc.ok ok.tb _ _ _ (by rw [hnt];exact hw))
end
theorem aeval_tmp (tm:T AV) (t:Tmp):qE tm (.tmp t)=(tm.get t).getD default:=by
 simp only [qE];cases tm.get t<;>rfl
theorem qGf (tm:T AV) (v:Value):qE tm (.const v)= .val v:=rfl
theorem qGO (tm:T AV) (f:FuncId):qE tm (.func f)= .val (.func (.func f) #[] #[]):=rfl
section
variable {P:Program} {tb:T TE} {t:TypeId} {ox oy:Operand}
theorem abin_lss {k:IntKind} (a b:Int):pF P tb .lss t ox oy (.val (.int k a)) (.val (.int k b))=some (.val (.bool (decide (a<b)))):=by
 cases k<;>rfl
theorem abin_leq {k:IntKind} (a b:Int):pF P tb .leq t ox oy (.val (.int k a)) (.val (.int k b))=some (.val (.bool (decide (a<=b)))):=by
 cases k<;>rfl
theorem abin_gtr {k:IntKind} (a b:Int):pF P tb .gtr t ox oy (.val (.int k a)) (.val (.int k b))=some (.val (.bool (decide (b<a)))):=by
 cases k<;>rfl
theorem abin_geq {k:IntKind} (a b:Int):pF P tb .geq t ox oy (.val (.int k a)) (.val (.int k b))=some (.val (.bool (decide (b<=a)))):=by
 cases k<;>rfl
theorem abin_eql {k:IntKind} (a b:Int):pF P tb .eql t ox oy (.val (.int k a)) (.val (.int k b))=some (.val (.bool (decide (a=b)))):=by
 cases k<;>rfl
theorem abin_neq {k:IntKind} (a b:Int):pF P tb .neq t ox oy (.val (.int k a)) (.val (.int k b))=some (.val (.bool (!decide (a=b)))):=by
 cases k<;>rfl
theorem abin_add {k:IntKind} (a b:Int):pF P tb .add t ox oy (.val (.int k a)) (.val (.int k b))=some (.val (.int k (k.wrap (a+b)))):=by
 cases k<;>rfl
theorem abin_sub {k:IntKind} (a b:Int):pF P tb .sub t ox oy (.val (.int k a)) (.val (.int k b))=some (.val (.int k (k.wrap (a - b)))):=by
 cases k<;>rfl
theorem abin_mul {k:IntKind} (a b:Int):pF P tb .mul t ox oy (.val (.int k a)) (.val (.int k b))=some (.val (.int k (k.wrap (a*b)))):=by
 cases k<;>rfl
theorem aun_not (b:Bool):aun P .not (.val (.bool b))=some (.val (.bool (!b))):=rfl
end
section
variable {E:Env} {nt:Nat} {ops:Array Oper} {o:Oper} {ol:List Oper} {tm:T AV} {h h':Hp} {Q:Ex->T AV->Hp->Prop} {K:OR->Prop} {dst:Option Tmp} {ty:TypeId} {ps:String} {af:Array Edge} {g:Option (Nat×Bool)}
def WOn (E:Env) (nt:Nat) (ops:Array Oper) (ol:List Oper) (tm:T AV) (dst:Option Tmp) (Q:Ex->T AV->Hp->Prop):OR->Prop:=orK nt tm dst Q (fun tm' h'=>WO E nt ops ol tm' h' Q)
def gate (gd wt:Bool) (E:Env) (nt:Nat) (ops:Array Oper) (o:Oper) (ol:List Oper) (tm:T AV) (h:Hp) (Q:Ex->T AV->Hp->Prop):Prop:=
 gd=true/\bif wt then WOp E o tm h (WOn E nt ops ol tm o.dst Q) else putK nt tm o.dst default (fun tm'=>WO E nt ops ol tm' h Q)
theorem WO_nil:WO E nt ops [] tm h Q=Q .normal tm h:=rfl
theorem WO_cons:WO E nt ops (o::ol) tm h Q=gate (jO nt ops o) (qP ops o tm) E nt ops o ol tm h Q:=rfl
theorem gate_t:gate true true E nt ops o ol tm h Q=WOp E o tm h (WOn E nt ops ol tm o.dst Q):=by simp [gate]
theorem gate_fs {d:Tmp} {op:Op}:gate true false E nt ops ⟨some d,op,ty,ps,af,g⟩ ol tm h Q=(d<nt/\WO E nt ops ol (tm.put (some default) d) h Q):=by simp [gate,putK]
theorem gate_fn {op:Op}:gate true false E nt ops ⟨none,op,ty,ps,af,g⟩ ol tm h Q=WO E nt ops ol tm h Q:=by simp [gate,putK]
theorem WOn_some {d:Tmp} {v:AV}:WOn E nt ops ol tm (some d) Q (.ok v h')=(d<nt/\WO E nt ops ol (tm.put (some v) d) h' Q):=rfl
theorem WOn_none {v:AV}:WOn E nt ops ol tm none Q (.ok v h')=WO E nt ops ol tm h' Q:=rfl
theorem WOn_pan {v:AV}:WOn E nt ops ol tm dst Q (.pan v h')=Q (.panic v) tm h':=rfl
theorem qEI {op:Op}:jO nt ops ⟨dst,op,ty,ps,af,none⟩=true:=rfl
theorem qEZ {op:Op}:qP ops ⟨dst,op,ty,ps,af,none⟩ tm=true:=rfl
def gdst (nt:Nat):Option Tmp->Bool
 |none=>true
 |some d=>Nat.blt d nt
theorem qEH {op:Op} {j:Nat} {b:Bool}:jO nt ops ⟨dst,op,ty,ps,af,some (j,b)⟩=gdst nt ((ops[j]?).bind (·.dst)):=by
 simp only [jO];cases (ops[j]?).bind (·.dst)<;>rfl
def wnt (want:Bool):Option AV->Bool
 |some (.val (.bool b))=>bif b then want else !want
 |_=>false
def wntd (want:Bool) (tm:T AV):Option Tmp->Bool
 |none=>false
 |some d=>wnt want (tm.get d)
theorem qEY {op:Op} {j:Nat} {b:Bool}:qP ops ⟨dst,op,ty,ps,af,some (j,b)⟩ tm=wntd b tm ((ops[j]?).bind (·.dst)):=by
 simp only [qP];cases (ops[j]?).bind (·.dst) with
 |none=>rfl
 |some d=>rfl
theorem wnt_t {b:Bool}:wnt true (some (.val (.bool b)))=b:=by cases b<;>rfl
theorem wnt_f {b:Bool}:wnt false (some (.val (.bool b)))= !b:=by cases b<;>rfl
theorem gdst_some {d:Nat}:gdst nt (some d)=decide (d<nt):=by
 simp only [gdst];by_cases hd:d<nt
 ·have:Nat.blt d nt=true:=by rw [xZH];exact hd
  simp [this,hd]
 ·have:Nat.blt d nt=false:=by
   cases hb:Nat.blt d nt with
   |false=>rfl
   |true=>rw [xZH] at hb;exact absurd hb hd
  simp [this,hd]
theorem wntd_some {d:Nat} {b:Bool}:wntd b tm (some d)=wnt b (tm.get d):=rfl
def pQ (h:Hp) (x:Option AV) (K:OR->Prop):Prop:=
 match x with
 |some v=>K (.ok v h)
 |none=>False
def optH (x:Option Hp) (K:OR->Prop):Prop:=
 match x with
 |some h'=>K (.ok default h')
 |none=>False
def qAx (x:Option (AV×Hp)) (K:OR->Prop):Prop:=
 match x with
 |some (v,h')=>K (.ok v h')
 |none=>False
theorem optK_some {v:AV}:pQ h (some v) K=K (.ok v h):=rfl
theorem optH_some:optH (some h') K=K (.ok default h'):=rfl
theorem xO {v:AV}:qAx (some (v,h')) K=K (.ok v h'):=rfl
theorem jR:aopK E o tm h K=qAx (aop E.P E.tb E.xt (qE tm) o.op h) K:=by
 unfold aopK qAx;cases aop E.P E.tb E.xt (qE tm) o.op h with
 |none=>simp
 |some p=>simp
theorem zZ {x:Option AV}:qAx (pr1 h x) K=pQ h x K:=by cases x<;>rfl
theorem qFw {x:Option Hp}:qAx (prH x) K=optH x K:=by cases x<;>rfl
theorem WOp_move {x:Operand}:WOp E ⟨dst,.move x,ty,ps,af,g⟩ tm h K=K (.ok (qE tm x) h):=by simp only [WOp,jR,aop,xO]
theorem qGT {x:Operand}:WOp E ⟨dst,.assign x,ty,ps,af,g⟩ tm h K=K (.ok (qE tm x) h):=by simp only [WOp,jR,aop,xO]
theorem WOp_pick {q x y:Operand}:WOp E ⟨dst,.pick q x y,ty,ps,af,g⟩ tm h K=qAx (qE1 h (qE tm q) (qE tm x) (qE tm y)) K:=by simp only [WOp,jR,aop]
theorem aoPick_b {b:Bool} {x y:AV}:qE1 h (.val (.bool b)) x y=some (bif b then x else y,h):=rfl
theorem WOp_box {e:TypeId} {x:Operand}:WOp E ⟨dst,.box e x,ty,ps,af,g⟩ tm h K=K (.ok (.ptr h.n 0) (h.new (.cells (cellsOf (qE tm x)) e))):=by simp only [WOp,jR,aop,xO]
theorem WOp_alloc {e:TypeId}:WOp E ⟨dst,.alloc e,ty,ps,af,g⟩ tm h K=qAx (jP E.tb h e) K:=by simp only [WOp,jR,aop]
theorem WOp_build {t:TypeId} {p:Array (Nat×Operand)}:WOp E ⟨dst,.build t p,ty,ps,af,g⟩ tm h K=pQ h (zE E.tb t (p.toList.map fun p=>(p.1,qE tm p.2))) K:=by simp only [WOp,jR,aop,zZ]
theorem jF {t:TypeId} {n:Nat} {p:Array (Nat×Operand)}:WOp E ⟨dst,.buildSlice t n p,ty,ps,af,g⟩ tm h K=qAx (jN E.tb h t n (p.toList.map fun p=>(p.1,qE tm p.2))) K:=by simp only [WOp,jR,aop]
theorem WOp_load {t:TypeId} {x:Operand}:WOp E ⟨dst,.load t x,ty,ps,af,g⟩ tm h K=pQ h (qN E.tb E.xt h t (qE tm x)) K:=by simp only [WOp,jR,aop,zZ]
theorem WOp_store {t:TypeId} {x y:Operand}:WOp E ⟨dst,.store t x y,ty,ps,af,g⟩ tm h K=optH (jH E.tb h t (qE tm x) (qE tm y)) K:=by simp only [WOp,jR,aop,qFw]
theorem qE9 {x:Operand}:WOp E ⟨dst,.nilCheck x,ty,ps,af,g⟩ tm h K=qAx (bif xP (qE tm x) then some (qE tm x,h) else none) K:=by simp only [WOp,jR,aop]
theorem WOp_bin {op:BinOp} {t t':TypeId} {x y:Operand}:WOp E ⟨dst,.binOp op t x y t',ty,ps,af,g⟩ tm h K=pQ h (pF E.P E.tb op t x y (qE tm x) (qE tm y)) K:=by simp only [WOp,jR,aop,zZ]
theorem WOp_un {op:UnOp} {t:TypeId} {x:Operand}:WOp E ⟨dst,.unOp op t x,ty,ps,af,g⟩ tm h K=pQ h (aun E.P op (qE tm x)) K:=by simp only [WOp,jR,aop,zZ]
theorem qDk {t t':TypeId} {x:Operand}:WOp E ⟨dst,.convert t t' x,ty,ps,af,g⟩ tm h K=pQ h (qBS E.tb h t t' (qE tm x)) K:=by simp only [WOp,jR,aop,zZ]
theorem WOp_iface {t:TypeId} {x:Operand}:WOp E ⟨dst,.makeInterface t x,ty,ps,af,g⟩ tm h K=qAx (qE2 E.tb h t (qE tm x)) K:=by simp only [WOp,jR,aop]
theorem WOp_func {f:Fn} {a b:Array Operand}:WOp E ⟨dst,.makeFunc f a b,ty,ps,af,g⟩ tm h K=K (.ok (.fn f (a.toList.map (qE tm)) (b.toList.map (qE tm))) h):=by simp only [WOp,jR,aop,xO]
theorem WOp_map {t:TypeId}:WOp E ⟨dst,.makeMap t none,ty,ps,af,g⟩ tm h K=K (.ok (.mp h.n) (h.new (.map []))):=by simp only [WOp,jR,aop,qD7,xO]
theorem uQ {t:TypeId} {x y:Operand}:WOp E ⟨dst,.makeSlice t x y,ty,ps,af,g⟩ tm h K=qAx (kQ E.tb h t (qE tm x) (qE tm y)) K:=by simp only [WOp,jR,aop]
theorem kS {t:TypeId} {x:Operand} {lo hi:Option Operand}:WOp E ⟨dst,.slice t x lo hi none,ty,ps,af,g⟩ tm h K=pQ h (j0 E.tb h t (qE tm x) (lo.map (qE tm)) (hi.map (qE tm))) K:=by simp only [WOp,jR,aop,qE0,zZ]
theorem qDz {t:TypeId} {x:Operand} {f:Nat}:WOp E ⟨dst,.fieldAddr t x f,ty,ps,af,g⟩ tm h K=pQ h (qI E.tb t (qE tm x) f) K:=by simp only [WOp,jR,aop,zZ]
theorem WOp_field {t:TypeId} {x:Operand} {f:Nat}:WOp E ⟨dst,.field t x f,ty,ps,af,g⟩ tm h K=pQ h (qDf E.tb t (qE tm x) f) K:=by simp only [WOp,jR,aop,zZ]
theorem qDy {t:TypeId} {x i:Operand}:WOp E ⟨dst,.indexAddr t x i,ty,ps,af,g⟩ tm h K=pQ h (qK E.tb t (qE tm x) (qE tm i)) K:=by simp only [WOp,jR,aop,zZ]
theorem WOp_index {t:TypeId} {x i:Operand}:WOp E ⟨dst,.index t x i,ty,ps,af,g⟩ tm h K=pQ h (qDd E.tb t (qE tm x) (qE tm i)) K:=by simp only [WOp,jR,aop,zZ]
theorem qDj {t:TypeId} {m k:Operand} {ok:Bool}:WOp E ⟨dst,.lookup t m k ok,ty,ps,af,g⟩ tm h K=pQ h (xM E.P E.tb h t (qE tm m) (qE tm k) ok) K:=by simp only [WOp,jR,aop,zZ]
theorem qDx {t:TypeId} {m k v:Operand}:WOp E ⟨dst,.mapUpdate t m k v,ty,ps,af,g⟩ tm h K=optH (zF E.P E.tb h t (qE tm m) (qE tm k) (qE tm v)) K:=by simp only [WOp,jR,aop,qFw]
theorem qGi {x:Operand} {i:Nat}:WOp E ⟨dst,.extract x i,ty,ps,af,g⟩ tm h K=pQ h (vJ (qE tm x) i) K:=by simp only [WOp,jR,aop,zZ]
theorem qGj {b:Builtin} {a:Array Operand} {ts:Array TypeId}:WOp E ⟨dst,.call ⟨.builtin b,a,ts⟩,ty,ps,af,g⟩ tm h K=qAx (qS E.P E.tb E.xt b ts.toList (a.toList.map (qE tm)) h) K:=by
 simp only [WOp,calK,jR,aop,qBw]
theorem WOp_call {f:Operand} {a:Array Operand} {ts:Array TypeId}:WOp E ⟨dst,.call ⟨.value f,a,ts⟩,ty,ps,af,g⟩ tm h K=CallA E (qE tm f) (a.toList.map (qE tm)) h (resK K):=by
 simp only [WOp,calK]
theorem WOp_panic {x:Operand}:WOp E ⟨dst,.panic x,ty,ps,af,g⟩ tm h K=panK h (qE tm x) K:=by simp only [WOp]
theorem panK_ifc {t:TypeId} {v:AV}:panK h (.ifc t v) K=K (.pan (.ifc t v) h):=by simp [panK,qBl]
theorem resK_ret {v:AV}:resK K (.ret v) h=K (.ok v h):=rfl
theorem resK_pan {v:AV}:resK K (.pan v) h=K (.pan v h):=rfl
theorem qE8 {P:Program} {tb:T TE} {xt:Xt} {t:TypeId} {a:AV}:qAx (qS P tb xt .len [t] [a] h) K=pQ h ((zA tb h t a).map fun (n:Nat)=>AV.val (.int .i64 (n:Int))) K:=by
 simp only [qS];cases zA tb h t a<;>rfl
theorem qGM (ok:SyOk E) {f:FuncId} {args:List AV} {K:KP} (hc:FnA E f args h K):CallA E (.val (.func (.func f) #[] #[])) args h K:=hc.call ok.ft (by simp [callee])
theorem vE (ok:SyOk E) {f:FuncId} {fs cs args:List AV} {K:KP} (hc:FnA E f (fs++args++cs) h K):CallA E (.fn (.func f) fs cs) args h K:=hc.call ok.ft (by simp [callee])
end
section
variable {E:Env} {r:Option Nat} {tm:T AV} {nt:Nat} {h:Hp} {mks:List Nat} {Q:Ex->St->Prop}
theorem qA {id:Nat} {ops:Array Oper} {b:Code} (hw: ∀K:Ex->T AV->Hp->Prop,(∀tm h,wpc E r b ⟨tm,nt,h,mks⟩ Q->K .normal tm h)->(∀v tm h,Q (.panic v) ⟨tm,nt,h,mks⟩->K (.panic v) tm h)->WO E nt ops ops.toList tm h K):
  wpc E r (.seq (.region id ops false) b) ⟨tm,nt,h,mks⟩ Q:=by
 show WO E nt ops ops.toList tm h (regK ⟨tm,nt,h,mks⟩ (hH (fun s=>wpc E r b s Q) Q));exact hw _ (fun tm h hh=>hh) (fun v tm h hh=>hh)
theorem reg {id:Nat} {ops:Array Oper} (hw: ∀K:Ex->T AV->Hp->Prop,(∀tm h,Q .normal ⟨tm,nt,h,mks⟩->K .normal tm h)->(∀v tm h,Q (.panic v) ⟨tm,nt,h,mks⟩->K (.panic v) tm h)->WO E nt ops ops.toList tm h K):
  wpc E r (.region id ops false) ⟨tm,nt,h,mks⟩ Q:=by
 show WO E nt ops ops.toList tm h (regK ⟨tm,nt,h,mks⟩ Q);exact hw _ (fun tm h hh=>hh) (fun v tm h hh=>hh)
theorem qAq {a b:Code} {st:St} (hw: ∀K:Ex->St->Prop,(∀s,wpc E r b s Q->K .normal s)->(∀x s,x≠ .normal->Q x s->K x s)->wpc E r a st K):wpc E r (.seq a b) st Q:=
 hw (hH (fun s=>wpc E r b s Q) Q) (fun s hh=>hh) (fun x s hx hh=>by cases x<;>first|exact absurd rfl hx|exact hh)
theorem jK {a b c:Code} {st:St} (hw:wpc E r (.seq a (.seq b c)) st Q):wpc E r (.seq (.seq a b) c) st Q:=by
 have e:(hH (fun s=>wpc E r b s (hH (fun s=>wpc E r c s Q) Q)) (hH (fun s=>wpc E r c s Q) Q))=hH (fun s=>wpc E r b s (hH (fun s=>wpc E r c s Q) Q)) Q:=by
  funext x s;cases x<;>rfl
 show wpc E r a st (hH (fun s=>wpc E r b s (hH (fun s=>wpc E r c s Q) Q)) (hH (fun s=>wpc E r c s Q) Q));rw [e];exact hw
theorem vH {b:Code} {st:St} (hw:wpc E r b st Q):wpc E r (.seq .skip b) st Q:=hw
theorem qL {id:Nat} {b:Code} {st:St} (hw:Q (.exit id) st):wpc E r (.seq (.exit id) b) st Q:=hw
theorem qQ {b:Code} {st:St} (hw:Q .ret st):wpc E r (.seq .ret b) st Q:=hw
theorem qC {st:St} (hq:Q .ret st):wpc E r .ret st Q:=hq
theorem qR {st:St} (hq:Q .normal st):wpc E r .skip st Q:=hq
theorem qFc {q:Operand} {a b:Code} {st:St} (t:Bool) (ht:qE st.tm q= .val (.bool t)) (h1:t=true->wpc E r a st Q) (h2:t=false->wpc E r b st Q):wpc E r (.cond q a b) st Q:=by
 show condK (qE st.tm q) _ _;rw [ht];exact ⟨h1,h2⟩
theorem qFj {q:Operand} {a b c:Code} {st:St} (t:Bool) (ht:qE st.tm q= .val (.bool t)) (h1:t=true->wpc E r (.seq a c) st Q) (h2:t=false->wpc E r (.seq b c) st Q):wpc E r (.seq (.cond q a b) c) st Q:=by
 show condK (qE st.tm q) _ _;rw [ht];exact ⟨h1,h2⟩
theorem qZ {id:Nat} {b:Code} {st:St} (hw: ∀K:Ex->St->Prop,(∀s,Q .normal s->K .normal s)->(∀s,Q .normal s->K (.exit id) s)->(∀id' s,id'≠id->Q (.exit id') s->K (.exit id') s)->(∀s,Q .ret s->K .ret s)->(∀v s,Q (.panic v) s->K (.panic v) s)->wpc E r b st K):
  wpc E r (.block id b) st Q:=by
 refine hw (blockK id Q) (fun s hh=>hh) (fun s hh=> ?_) (fun id' s hne hh=> ?_) (fun s hh=>hh) (fun v s hh=>hh)
 ·show Q (bif Nat.beq id id then .normal else .exit id) s;have:Nat.beq id id=true:=by simp
  rw [this];exact hh
 ·show Q (bif Nat.beq id' id then .normal else .exit id') s;have:Nat.beq id' id=false:=by cases hb:Nat.beq id' id;rfl;exact absurd (xZX hb) hne
  rw [this];exact hh
theorem qD {id:Nat} {b c:Code} {st:St} (hw: ∀K:Ex->St->Prop,(∀s,wpc E r c s Q->K .normal s)->(∀s,wpc E r c s Q->K (.exit id) s)->(∀id' s,id'≠id->Q (.exit id') s->K (.exit id') s)->(∀s,Q .ret s->K .ret s)->(∀v s,Q (.panic v) s->K (.panic v) s)->wpc E r b st K):
  wpc E r (.seq (.block id b) c) st Q:=
 qZ (Q:=hH (fun s=>wpc E r c s Q) Q) hw
theorem qM (ok:SyOk E) {b:Code} (I:St->Prop) (μ:St->Nat) (hb: ∀st,I st->wpc E r b st (loopK I μ st Q)) {st:St} (hi:I st):wpc E r (.loop b) st Q:=
 W.loop I μ (fun s hs=>wpc.ok ok.tb _ _ _ (hb s hs)) hi
theorem qH {fn:Func} {K:KP} {t:Tmp} (h1:fn.results.toList=[.tmp t]) (h3:K (.ret ((tm.get t).getD default)) h):xX E fn K .ret ⟨tm,nt,h,[]⟩:=by
 refine ⟨h,_,rfl,by rw [h1];rfl,?_⟩;have:(match tm.get t with|some a=>a|none=>default)=(tm.get t).getD default:=by cases tm.get t<;>rfl
 show K (.ret (match tm.get t with|some a=>a|none=>default)) h;rw [this];exact h3
theorem qAP {fn:Func} {K:KP} {t u:Tmp} (h1:fn.results.toList=[.tmp t,.tmp u]) (h3:K (.ret (.tup [(tm.get t).getD default,(tm.get u).getD default])) h):xX E fn K .ret ⟨tm,nt,h,[]⟩:=by
 refine ⟨h,_,rfl,by rw [h1];rfl,?_⟩;have e1:(match tm.get t with|some a=>a|none=>default)=(tm.get t).getD default:=by cases tm.get t<;>rfl
 have e2:(match tm.get u with|some a=>a|none=>default)=(tm.get u).getD default:=by cases tm.get u<;>rfl
 show K (.ret (.tup [match tm.get t with|some a=>a|none=>default,match tm.get u with|some a=>a|none=>default])) h;rw [e1,e2];exact h3
theorem end_ret {fn:Func} {K:KP} {h':Hp} {vs:List AV} (h1:vD mks h=some h') (h2:vI E tm h' fn.results.toList=some vs) (h3:K (.ret (zH vs)) h'):xX E fn K .ret ⟨tm,nt,h,mks⟩:=⟨h',vs,h1,h2,h3⟩
end
theorem qW {E:Env} {r:Option Nat} {Q:Ex->St->Prop} {q:Operand} {a b c:Code} {st:St} (ht:qE st.tm q= .val (.bool true)) (h:wpc E r (.seq a c) st Q):wpc E r (.seq (.cond q a b) c) st Q:=qFj true ht (fun _=>h) (fun hx=>by cases hx)
theorem jD {E:Env} {r:Option Nat} {Q:Ex->St->Prop} {q:Operand} {a b c:Code} {st:St} (ht:qE st.tm q= .val (.bool false)) (h:wpc E r (.seq b c) st Q):wpc E r (.seq (.cond q a b) c) st Q:=qFj false ht (fun hx=>by cases hx) (fun _=>h)
theorem jC {E:Env} {r:Option Nat} {Q:Ex->St->Prop} {q:Operand} {b c:Code} {st:St} (ht:qE st.tm q= .val (.bool true)) (h:wpc E r c st Q):wpc E r (.seq (.cond q .skip b) c) st Q:=qW ht h
theorem jB {E:Env} {r:Option Nat} {Q:Ex->St->Prop} {q:Operand} {a c:Code} {st:St} (ht:qE st.tm q= .val (.bool false)) (h:wpc E r c st Q):wpc E r (.seq (.cond q a .skip) c) st Q:=jD ht h
theorem wcT {E:Env} {r:Option Nat} {Q:Ex->St->Prop} {q:Operand} {a b:Code} {st:St} (ht:qE st.tm q= .val (.bool true)) (h:wpc E r a st Q):wpc E r (.cond q a b) st Q:=qFc true ht (fun _=>h) (fun hx=>by cases hx)
theorem wcF {E:Env} {r:Option Nat} {Q:Ex->St->Prop} {q:Operand} {a b:Code} {st:St} (ht:qE st.tm q= .val (.bool false)) (h:wpc E r b st Q):wpc E r (.cond q a b) st Q:=qFc false ht (fun hx=>by cases hx) (fun _=>h)
theorem qB {E:Env} {r:Option Nat} {tm:T AV} {nt:Nat} {h:Hp} {mks:List Nat} {Q:Ex->St->Prop} {id:Nat} {ops:Array Oper} {b c:Code} (hw: ∀K:Ex->T AV->Hp->Prop,(∀tm h,wpc E r (.seq b c) ⟨tm,nt,h,mks⟩ Q->K .normal tm h)->(∀v tm h,Q (.panic v) ⟨tm,nt,h,mks⟩->K (.panic v) tm h)->WO E nt ops ops.toList tm h K):wpc E r (.seq (.seq (.region id ops false) b) c) ⟨tm,nt,h,mks⟩ Q:=jK (qA hw)
end Go.Ev
end
noncomputable section
namespace Go.Ev
open Classical
section
variable {P:Program} {tb:T TE} {xt:Xt} {call:jE} {ops:Array Oper} {s:Sta} {S:Nat->DS} {k:Nat->Kd} {v:Nat->AV} {hp:Nat->Hp}
def DChk (P:Program) (tb:T TE) (xt:Xt) (call:jE) (st:DS) (N:Nat):Prop:=
 ∀r∈st.rs,∀e∈({j:=st.ne,b:=st.b,mj:=st.mj,nx:=N}:BE)::st.bs,e.j=r.ne\/bt r.m e.nx=true\/bt e.mj r.i=true\/ ∃h'',jQ P tb xt call r.o r.tm {t:=ovl (fun f=>bt r.m f && !bt e.mj f) st.fs e.b,n:=r.n}=some (.ok r.v h'')
theorem pZ (htb:Tb P tb) (hs:jS P xt call) {nt:Nat} {ops:Array Oper} {tm:T AV} {h:Hp} {s:Sta} (hsta:sta ops=some s) (hmx:s.mx<=nt) {st:DS}
  (hrun:yP P tb xt call ops ops.toList s.ms {i:=0,tm:=tm,n:=h.n,b:=h.t,mj:=0,dl:=0,ne:=0,fs:=[],bs:=[],rs:=[]}=some st) (hchk:DChk P tb xt call st ops.size):
  h.n<=st.n/\ ∀lim,st.n<=lim-> ∀c a w r t,Good lim c h w->(∀b v,xt b=some v->c.ext b=some v)->TR c nt tm a.tmps->
   ∀Q:Exit->Act->World->Prop,(∀e a' w',Post lim c h w nt a.defers .normal st.tm {t:=ovl (fun f=> !bt st.mj f) st.fs st.b,n:=st.n} e a' w'->Q e a' w')->wpOpsIn (Wd r) 0 P ops Q (Region.linearise .any ops t) a {w with drawn:=w.drawn+1}:=by
 unfold sta at hsta;split at hsta
 ·cases hsta
 rename_i ms hms;split at hsta
 ·cases hsta
 rename_i wr mx hwr;obtain ⟨hlk,hsta⟩:=qU hsta;cases hsta;obtain ⟨M1,_,M3⟩:=pU _ _ _ hms;obtain ⟨_,_,W3,W4⟩:=qEd _ _ _ _ _ _ hwr;have L:=qAc _ _ hlk;obtain ⟨S,k,v,hp,hR,hS0,hSN⟩:=run_of (s:={ms:=ms,wr:=wr,mx:=mx}) rfl hrun;have hfs0:(S 0).fs=[]:=by rw [hS0]
 have hne0:(S 0).ne=0:=by rw [hS0]
 have hget: ∀{i m},ms[i]? =some m->ms.getD i 0=m:=fun h=>by rw [xYL,h];rfl
 have m1: ∀i o,ops[i]? =some o-> ∀e∈o.after,Region.binds .any e=true->e.on<i/\(ms.getD i 0).testBit e.on=true/\ ∀k,(ms.getD e.on 0).testBit k=true->(ms.getD i 0).testBit k=true:=fun i o ho e hee hb=>by
  obtain ⟨m,g1,g2,_⟩:=M3 i o (by simpa using ho);simp only [xYZ,xZN] at g1 g2;obtain ⟨a1,a2,a3⟩:=g2 e hee hb;rw [hget g1];refine ⟨a1,a2,fun k hk=> ?_⟩;cases hme:ms[e.on]? with
  |none=>rw [xYL,hme] at hk;simp at hk
  |some me=>rw [hget hme] at hk;exact a3 me hme k hk
 have m2: ∀i o,ops[i]? =some o-> ∀k,(ms.getD i 0).testBit k=true-> ∃e∈o.after,Region.binds .any e=true/\(k=e.on\/(ms.getD e.on 0).testBit k=true):=fun i o ho k hk=>by
  obtain ⟨m,g1,_,g3⟩:=M3 i o (by simpa using ho);simp only [xYZ,xZN] at g1;rw [hget g1] at hk;obtain ⟨e,a1,a2,a3⟩:=g3 k hk;refine ⟨e,a1,a2,?_⟩;rcases a3 with a3|⟨me,a3,a4⟩
  ·exact .inl a3
  ·exact .inr (by rw [hget a3];exact a4)
 have mlt: ∀i,i<ops.size-> ∀k,(ms.getD i 0).testBit k=true->k<i:=by
  intro i;induction i using Nat.strongRecOn with
  |_ i ih=>
   intro hi k hk;obtain ⟨e,a1,a2,a3⟩:=m2 i _ (xZQ hi) k hk;have b:=(m1 i _ (xZQ hi) e a1 a2).1;rcases a3 with rfl|a3
   ·exact b
   ·have:=ih e.on b (by omega) k a3;omega
 have w1: ∀i o d,ops[i]? =some o->o.dst=some d->wr.get d=some i/\d<nt:=fun i o d ho hd=>by
  obtain ⟨a1,a2⟩:=W3 i o d (by simpa using ho) hd;exact ⟨by simpa using a1,xZM a2 hmx⟩
 have w3: ∀d k,wr.get d=some k-> ∃o,ops[k]? =some o/\o.dst=some d:=fun d k hk=>by
  rcases W4 d k hk with hh|⟨k',o,rfl,ho,hd⟩
  ·simp at hh
  ·exact ⟨o,by simpa using ho,hd⟩
 have effm: ∀d,d<ops.size->k d= .eff->(S (d+1)).ne=(S d).ne+1/\(S (d+1)).mj=ms.getD d 0/\(S (d+1)).b=(hp d).t/\(S (d+1)).n=(hp d).n:=fun d hd hk=>by
  obtain ⟨_,_,h3⟩:=hR.m (xZQ hd);rw [h3,hk];exact ⟨rfl,rfl,rfl,rfl⟩
 let p:=qBc ops {ms:=ms,wr:=wr,mx:=mx} S k v hp
 have hB: ∀{i},i<=ops.size->p.B (S i).ne=(S i).b/\p.md (S i).ne=(S i).mj:=fun hi=>hR.B hi;have hmdd: ∀d,d<p.N->p.k d= .eff->p.md (p.rk d+1)=p.m d:=fun d hd hk=>by
  obtain ⟨e1,e2,_⟩:=effm d hd hk;have:=(hB (i:=d+1) hd).2;rw [e1,e2] at this;exact this
 have hov: ∀i,i<ops.size-> ∀(j N':Nat),N'<=ops.size->i<=N'-> ∀(mj:Nat) (b:T AO),p.OV b (fun f=>(p.m i).testBit f=true/\mj.testBit f=false) (ovl (fun f=>bt (ms.getD i 0) f && !bt mj f) (S N').fs b):=fun i hi j N' hN hiN mj b=>by
  refine hR.ov hs hfs0 hN _ _ b (fun f _=> ?_) (fun f _ hc=> ?_)
  ·rw [xC,xC];show _↔(ms.getD i 0).testBit f=true/\mj.testBit f=false;simp
  ·have:=mlt i hi f hc.1;omega
 have K:p.OK P tb xt call nt ops tm h:=by
  refine {size:=rfl,m1:=m1,m2:=m2,w1:=w1,w2:= ?_,w3:=w3,t1:= ?_,s0:=by show (S 0).n=_;rw [hS0],s1:=fun i hi=>hR.nm hs hi,un:= ?_,new:= ?_,read:= ?_,eff:= ?_,r1:= ?_,r2:= ?_,r4:= ?_,md0:= ?_,b0:= ?_}
  ·intro i o d kk ho hd hk;obtain ⟨m,g1,g2⟩:=L i o (by simpa using ho);simp only [xZN] at g1 g2;have:=g2 d hd;unfold look1 at this;rw [show wr.get d=some kk from hk] at this;simp only [xZB] at this;show (ms.getD i 0).testBit kk=true\/(ms.getD kk 0).testBit i=true;rcases this with t|t
   ·left;rw [hget g1,<-xC];exact t
   ·right
    split at t
    ·rename_i mk hmk;rw [hget hmk,<-xC];exact t
    ·cases t
  ·intro i hi d;show (S i).tm.get d=match wr.get d with|some k=>if k<i then some (v k) else tm.get d|none=>tm.get d
   induction i with
   |zero=>
    rw [hS0];split
    ·rw [if_neg (by omega)]
    ·rfl
   |succ i ih=>
    have hlt:i<ops.size:=by have:i+1<=ops.size:=hi;omega
    obtain ⟨_,_,h3⟩:=hR.m (xZQ hlt);have htm:(S (i+1)).tm=xU (S i).tm ops[i].dst (v i):=by rw [h3];cases k i<;>rfl
    have ih':=ih (xZK hlt);have other:(∀kk,wr.get d=some kk->kk≠i)->(match wr.get d with|some k=>if k<i then some (v k) else tm.get d|none=>tm.get d)=(match wr.get d with|some k=>if k<i+1 then some (v k) else tm.get d|none=>tm.get d):=fun hne=>by
     cases hw:wr.get d with
     |none=>rfl
     |some kk=>
      simp only [];have:=hne kk hw;by_cases hki:kk<i
      ·rw [if_pos hki,if_pos (by omega)]
      ·rw [if_neg hki,if_neg (by omega)]
    rw [htm];unfold xU;cases hds:ops[i].dst with
    |none=>
     simp only [];rw [ih'];refine other fun kk hk hki=> ?_;subst hki;obtain ⟨o',ho',hd'⟩:=w3 d kk hk;rw [xZQ hlt] at ho';cases ho';rw [hds] at hd';cases hd'
    |some d0=>
     simp only [];rw [T.get_put];by_cases hd:d=d0
     ·subst hd;rw [if_pos rfl,(w1 i _ d (xZQ hlt) hds).1];simp
     ·rw [if_neg hd,ih'];refine other fun kk hk hki=> ?_;subst hki;obtain ⟨o',ho',hd'⟩:=w3 d kk hk;rw [xZQ hlt] at ho';cases ho';rw [hds] at hd';cases hd';exact hd rfl
  ·intro i o ho hw;obtain ⟨_,h2,h3⟩:=hR.m ho;have:=qC0 hw h2;injection this with e1 e2
   injection e2 with e2 e3
   refine ⟨e2,?_,e1⟩;show (S (i+1)).n=(S i).n;rw [h3,e1,e3];rfl
  ·intro i o ho hw hk;obtain ⟨_,h2,h3⟩:=hR.m ho;rw [show k i= .new from hk] at h2 h3;have:=qFR hw h2;show jQ P tb xt call o (S i).tm {t:= .e,n:=(S i).n}=some (.ok (v i) {t:=(hp i).t,n:=(S (i+1)).n});rw [this,h3];rfl
  ·intro i o ho hw hk;have hi:i<ops.size:=(xYM.1 ho).1;obtain ⟨_,h2,h3⟩:=hR.m ho;rw [show k i= .read from hk] at h2 h3;obtain ⟨hkd,hev⟩:=qD1 hw h2;refine ⟨by show (S (i+1)).n=(S i).n;rw [h3];rfl,fun j hj hal=> ?_⟩;by_cases hji:j=(S i).ne
   ·subst hji;obtain ⟨e1,e2⟩:=hB (i:=i) (xZK hi);refine ⟨ovl (fun f=>bt (ms.getD i 0) f && !bt (S i).mj f) (S i).fs (S i).b,?_,?_⟩
    ·rw [e1,e2];exact hov i hi 0 i (xZK hi) (xZY _) _ _
    ·have:=gU hkd hev;rw [this] at hev;exact hev
   ·
    have hmem:=(hR.logs ops.size (xZY _)).2 i o hi ho hk;rw [hSN] at hmem;have hc:=hchk _ hmem;have entry: ∀e:BE,(e.j=(S i).ne\/bt (ms.getD i 0) e.nx=true\/bt e.mj i=true\/ ∃h'',jQ P tb xt call o (S i).tm {t:=ovl (fun f=>bt (ms.getD i 0) f && !bt e.mj f) st.fs e.b,n:=(S i).n}=some (.ok (v i) h''))->e.j=j->e.b=p.B j->e.mj=p.md j->(ms.getD i 0).testBit e.nx=false->
      ∃V,p.OV (p.B j) (fun f=>(p.m i).testBit f=true/\(p.md j).testBit f=false) V/\jQ P tb xt call o (p.tm i) {t:=V,n:=p.s i}=some (.ok (p.v i) {t:=V,n:=p.s i}):=fun e hce e1 e2 e3 e4=>by
     rcases hce with hce|hce|hce|⟨h'',hev'⟩
     ·exact absurd (e1.symm.trans hce) hji
     ·rw [xC,e4] at hce;cases hce
     ·rw [xC,e3] at hce;cases j with
      |zero=>
       have:=(hB (i:=0) (xYD _)).2;rw [hne0,hS0] at this;rw [this] at hce;simp at hce
      |succ r=>
       obtain ⟨d,g1,g2,g3⟩:=hR.ranks hne0 ops.size (xZY _) r hj;have g4:=hmdd d g1 g2;have g5:p.rk d=r:=g3;rw [g5] at g4;rw [g4,hal.2 d g1 g2 (by rw [g5])] at hce;cases hce
     ·have hh:=gU hkd hev';rw [hh] at hev';refine ⟨ovl (fun f=>bt (ms.getD i 0) f && !bt e.mj f) st.fs e.b,?_,?_⟩
      ·rw [<-e2,<-e3,<-hSN];exact hov i hi 0 ops.size (xZY _) (xZK hi) _ _
      ·exact hev'
    rcases xYV j (S ops.size).ne with hjl|hjl
    ·obtain ⟨d,g1,g2,g3⟩:=hR.ranks hne0 ops.size (xZY _) j hjl;have hbm:=(hR.logs ops.size (xZY _)).1 d g1 g2;rw [hSN] at hbm;obtain ⟨f1,f2⟩:=hB (i:=d) (xZK g1);rw [g3] at f1 f2;exact entry _ (hc _ (xZZ _ hbm)) g3 f1.symm f2.symm (hal.1 d g1 g2 g3)
    ·have hjM:j=(S ops.size).ne:=Nat.le_antisymm hj hjl;obtain ⟨f1,f2⟩:=hB (i:=ops.size) (xZY _);rw [<-hjM] at f1 f2;refine entry _ (hc _ xZV) (by rw [hjM,hSN]) (by rw [f1,hSN]) (by rw [f2,hSN]) ?_;cases hb:(ms.getD i 0).testBit ops.size with
     |false=>rfl
     |true=>have:=mlt i hi _ hb;omega
  ·intro i o ho hw hk;have hi:i<ops.size:=(xYM.1 ho).1;obtain ⟨_,h2,h3⟩:=hR.m ho;rw [show k i= .eff from hk] at h2;obtain ⟨_,hev⟩:=qAQ h2;refine ⟨hmdd i hi hk,ovl (fun f=>bt (ms.getD i 0) f && !bt (S i).mj f) (S i).fs (S i).b,?_,?_⟩
   rotate_left
   ·show jQ P tb xt call o (S i).tm {t:=_,n:=(S i).n}=some (.ok (v i) {t:=p.B ((S i).ne+1),n:=(S (i+1)).n});obtain ⟨e1,_,e3,e4⟩:=effm i hi hk;have:=(hB (i:=i+1) hi).1;rw [e1] at this;rw [this,e3,e4];exact hev
   ·obtain ⟨e1,e2⟩:=hB (i:=i) (xZK hi);show p.OV (p.B (S i).ne) (fun f=>(p.m i).testBit f=true/\(p.md (S i).ne).testBit f=false) _;rw [e1,e2];exact hov i hi 0 i (xZK hi) (xZY _) _ _
  ·intro i hi hk;have hi':i<ops.size:=hi;obtain ⟨e1,_⟩:=effm i hi' hk;refine ⟨?_,fun r hr=> ?_⟩
   ·show (S i).ne<(S ops.size).ne;have:=(hR.ne_le ops.size (i+1) hi' (xZY _)).1;omega
   ·obtain ⟨_,h2,_⟩:=hR.m (xZQ hi');rw [show k i= .eff from hk] at h2;obtain ⟨hc,_⟩:=qAQ h2;have hr':(S i).ne=r+1:=hr;rcases hR.dl hne0 i (xZK hi') with hz|⟨d1,d2,d3⟩
    ·omega
    ·refine ⟨(S i).dl,by show _<ops.size;omega,d2,by show (S (S i).dl).ne=r;omega,?_⟩;rcases hc with hc|hc
     ·omega
     ·rw [xC] at hc;exact hc
  ·intro i i' hi hi' hk hk' hr;have a1:=(effm i hi hk).1;have a2:=(effm i' hi' hk').1;have hr':(S i).ne=(S i').ne:=hr;have b1:i<ops.size:=hi;have b2:i'<ops.size:=hi';rcases Nat.lt_trichotomy i i' with h|h|h
   ·have:=(hR.ne_le i' (i+1) h (xZK b2)).1;omega
   ·exact h
   ·have:=(hR.ne_le i (i'+1) h (xZK b1)).1;omega
  ·intro r hr;exact hR.ranks hne0 ops.size (xZY _) r hr
  ·have:=(hB (i:=0) (xYD _)).2;rw [hne0,hS0] at this;exact this
  ·have:=(hB (i:=0) (xYD _)).1;rw [hne0,hS0] at this;exact this
 have hfin:p.OV (p.B p.M) (fun f=>(p.md p.M).testBit f=false) (ovl (fun f=> !bt st.mj f) st.fs st.b):=by
  obtain ⟨f1,f2⟩:=hB (i:=ops.size) (xZY _);show p.OV (p.B (S ops.size).ne) (fun f=>(p.md (S ops.size).ne).testBit f=false) _;rw [f1,f2,<-hSN];refine hR.ov hs hfs0 (xZY _) _ _ _ (fun f _=> ?_) (fun f hf _=>hf);rw [xC];simp
 have:=Plan.regionL (p:=p) htb hs K hmdd (h':={t:=ovl (fun f=> !bt st.mj f) st.fs st.b,n:=st.n}) hfin (by show st.n=(S ops.size).n;rw [hSN]);rw [show p.tm p.N=st.tm from by show (S ops.size).tm=_;rw [hSN]] at this;exact this
end
end Go.Ev
end
noncomputable section
namespace Go.Ev
def calm:Op->Bool
 | .move _| .assign _| .pick _ _ _| .load _ _| .nilCheck _| .binOp _ _ _ _ _| .unOp _ _ _| .fieldAddr _ _ _| .field _ _ _| .indexAddr _ _ _| .index _ _ _| .build _ _| .extract _ _| .makeFunc _ _ _| .slice _ _ _ _ none=>true
 | .call q=>match q.callee with
  | .builtin .len=>true
  | .builtin .min=>true
  | .builtin .max=>true
  |_=>false
 |_=>false
def jG:Op->Bool
 | .call q=>match q.callee with
  | .value _=>true
  |_=>false
 |_=>false
section
variable {P:Program} {tb:T TE} {xt:Xt} {ev:Operand->AV} {h h':Hp} {v:AV}
theorem vZ {x:Option AV} (hx:pr1 h x=some (v,h')):x=some v/\h'=h:=by
 cases x with
 |none=>cases hx
 |some y=>cases hx;exact ⟨rfl,rfl⟩
theorem vY {x:Option AV} (hx:x=some v):pr1 h x=some (v,h):=by rw [hx];rfl
theorem qAW {op:Op} (hc:calm op=true) (hk:q8 op= .new) (ha:aop P tb xt ev op h=some (v,h')):h'=h/\ ∀h2,aop P tb xt ev op h2=some (v,h2):=by
 cases op with
 |move x=>simp only [aop] at ha ⊢;cases ha;exact ⟨rfl,fun _=>rfl⟩
 |assign x=>simp only [aop] at ha ⊢;cases ha;exact ⟨rfl,fun _=>rfl⟩
 |pick q x y=>
  simp only [aop,qE1] at ha ⊢;split at ha
  ·cases ha;exact ⟨rfl,fun _=>rfl⟩
  ·cases ha
 |nilCheck x=>
  simp only [aop] at ha ⊢;obtain ⟨h1,h2⟩:=qU ha;cases h2;exact ⟨rfl,fun _=>by rw [h1];rfl⟩
 |binOp o t x y u=>simp only [aop] at ha ⊢;obtain ⟨h1,h2⟩:=vZ ha;exact ⟨h2,fun _=>vY h1⟩
 |unOp o t x=>simp only [aop] at ha ⊢;obtain ⟨h1,h2⟩:=vZ ha;exact ⟨h2,fun _=>vY h1⟩
 |fieldAddr t x f=>simp only [aop] at ha ⊢;obtain ⟨h1,h2⟩:=vZ ha;exact ⟨h2,fun _=>vY h1⟩
 |field t x f=>simp only [aop] at ha ⊢;obtain ⟨h1,h2⟩:=vZ ha;exact ⟨h2,fun _=>vY h1⟩
 |indexAddr t x i=>simp only [aop] at ha ⊢;obtain ⟨h1,h2⟩:=vZ ha;exact ⟨h2,fun _=>vY h1⟩
 |index t x i=>simp only [aop] at ha ⊢;obtain ⟨h1,h2⟩:=vZ ha;exact ⟨h2,fun _=>vY h1⟩
 |build t p=>simp only [aop] at ha ⊢;obtain ⟨h1,h2⟩:=vZ ha;exact ⟨h2,fun _=>vY h1⟩
 |extract x i=>simp only [aop] at ha ⊢;obtain ⟨h1,h2⟩:=vZ ha;exact ⟨h2,fun _=>vY h1⟩
 |makeFunc f a b=>simp only [aop] at ha ⊢;cases ha;exact ⟨rfl,fun _=>rfl⟩
 |load t x=>simp [q8] at hk
 |slice t x l hh m=>simp [q8] at hk
 |call q=>
  simp only [calm] at hc;split at hc
  ·rename_i hq;simp [q8,hq] at hk
  ·rename_i hq;simp only [aop,qBw,hq,qS] at ha ⊢;split at ha
   ·rename_i hm;cases ha;exact ⟨rfl,fun _=>by simp only⟩
   ·cases ha
  ·rename_i hq;simp only [aop,qBw,hq,qS] at ha ⊢;split at ha
   ·rename_i hm;cases ha;exact ⟨rfl,fun _=>by simp only⟩
   ·cases ha
  ·cases hc
 |_=>simp [calm] at hc
theorem calm_read {op:Op} (hc:calm op=true) (hk:q8 op= .read) (ha:aop P tb xt ev op h=some (v,h')):h'=h/\ ∀n,aop P tb xt ev op {t:=h.t,n:=n}=some (v,{t:=h.t,n:=n}):=by
 cases op with
 |load t x=>
  simp only [aop] at ha ⊢;obtain ⟨h1,h2⟩:=vZ ha;exact ⟨h2,fun _=>vY (by rw [<-h1];rfl)⟩
 |slice t x l hh m=>
  cases m with
  |some _=>simp [calm] at hc
  |none=>
   simp only [aop,qE0] at ha ⊢;obtain ⟨h1,h2⟩:=vZ ha;exact ⟨h2,fun _=>vY (by rw [<-h1];rfl)⟩
 |call q=>
  simp only [calm] at hc;split at hc
  ·rename_i hq;simp only [aop,qBw,hq,qS] at ha ⊢;split at ha
   ·rename_i t a ht hm;split at ha
    ·rename_i n hn;cases ha;refine ⟨rfl,fun m=> ?_⟩;have:zA tb {t:=h.t,n:=m} t a=zA tb h t a:=rfl;simp only [this,hn]
    ·cases ha
   ·cases ha
  ·rename_i hq;simp [q8,hq] at hk
  ·rename_i hq;simp [q8,hq] at hk
  ·cases hc
 |_=>first|simp [calm] at hc;done|simp [q8] at hk
theorem gZ {op:Op} (hc:calm op=true):q8 op= .new\/q8 op= .read:=by
 cases op with
 |call q=>
  simp only [calm] at hc;split at hc
  ·rename_i hq;simp [q8,hq]
  ·rename_i hq;simp [q8,hq]
  ·rename_i hq;simp [q8,hq]
  ·cases hc
 |slice t x l hh m=>exact .inr rfl
 |_=>first|simp [calm] at hc;done|simp [q8]
theorem j7 {op:Op} {o:Oper} (ho:o.op=op) (hc:calm op=true) (call:jE) (tm:T AV):jQ P tb xt call o tm h=bH (aop P tb xt (qE tm) op h):=by
 subst ho;unfold jQ;split
 ·rename_i q hq;rw [hq] at hc;simp only [calm] at hc;unfold vC;split at hc
  ·rename_i hb;simp only [hb,hq]
  ·rename_i hb;simp only [hb,hq]
  ·rename_i hb;simp only [hb,hq]
  ·cases hc
 ·rename_i x hx;rw [hx] at hc;simp [calm] at hc
 ·rename_i x hx;rw [hx] at hc;simp [calm] at hc
 ·rfl
end
section
variable {E:Env} {nt:Nat} {ops:Array Oper}
def WOCk (ic:Bool) (nt:Nat) (tm:T AV) (h:Hp) (dst:Option Tmp) (N:T AV->Hp->Prop) (r:OR):Prop:=
 match r with
 | .pan _ _=>False
 | .ok v h'=>(∃n,(ic=true->h.n<n)/\h.n<=n/\h'=h.up n)/\putK nt tm dst v (fun tm'=>N tm' h')
def WOC (E:Env) (nt:Nat) (ops:Array Oper):List Oper->T AV->Hp->(T AV->Hp->Prop)->Prop
 |[],tm,h,Q=>Q tm h
 |o::ol,tm,h,Q=>jO nt ops o=true/\bif qP ops o tm then WOp E o tm h (WOCk (jG o.op) nt tm h o.dst (fun tm' h'=>WOC E nt ops ol tm' h' Q)) else putK nt tm o.dst default (fun tm'=>WOC E nt ops ol tm' h Q)
def yC:List Oper->List Nat->Nat->List Nat->Bool
 |[],_,_,_=>true
 |o::ol,m::ms,i,cs=>bif calm o.op then yC ol ms (i+1) cs else jG o.op && (cs.all (bt m) && yC ol ms (i+1) (i::cs))
 |_::_,[],_,_=>false
def SInv (P:Program) (tb:T TE) (xt:Xt) (t0:T AO) (MS:List Nat) (PR PC:Nat->Prop) (cs:List Nat) (st:DS):Prop:=
 ((st.mj=0\/st.mj∈MS)/\ ∀r∈st.rs,r.m∈MS/\PR r.i)/\st.fs=[]/\st.b=t0/\(∀e∈st.bs,e.b=t0)/\(∀r∈st.rs,∀call,jQ P tb xt call r.o r.tm {t:=t0,n:=r.n}=some (.ok r.v {t:=t0,n:=r.n}))/\(st.ne=0\/(st.dl∈cs/\PC st.dl))
theorem qGG {P:Program} {tb:T TE} {xt:Xt} {call call':jE} {o:Oper} {tm:T AV} {h:Hp} {r:OR} (hcc: ∀fv args r,call fv args h=some r->call' fv args h=some r) (he:jQ P tb xt call o tm h=some r):jQ P tb xt call' o tm h=some r:=by
 cases hop:o.op with
 |call q=>
  simp only [jQ,hop,vC] at he ⊢;cases hf:q.callee with
  |value f=>
   simp only [hf] at he ⊢;cases hc:call (qE tm f) (q.args.toList.map (qE tm)) h with
   |none=>rw [hc] at he;cases he
   |some p=>rw [hc] at he;rw [hcc _ _ _ hc];exact he
  |invoke f nm=>
   simp only [hf] at he ⊢;cases hc:call (.val (.func (.method nm) #[] #[])) (qE tm f::q.args.toList.map (qE tm)) h with
   |none=>rw [hc] at he;cases he
   |some p=>rw [hc] at he;rw [hcc _ _ _ hc];exact he
  |builtin b=>simp only [hf] at he ⊢;exact he
 |_=>simp only [jQ,hop] at he ⊢ <;>exact he
theorem vF {P:Program} {tb:T TE} {xt:Xt} {call call':jE} (hs:jS P xt call): ∀(ol:List Oper) (ms:List Nat) (st st':DS),(∀fv args k r,st.n<=k.n->call fv args k=some r->call' fv args k=some r)->yP P tb xt call ops ol ms st=some st'->yP P tb xt call' ops ol ms st=some st'
 |[],ms,st,st',_,h=>h
 |o::ol,[],st,st',_,h=>by rw [qAe] at h;cases h
 |o::ol,m::ms,st,st',hcc,h=>by
  rw [jA] at h ⊢;have key: ∀r,zT P tb xt call ops o m st=some r->zT P tb xt call' ops o m st=some r:=by
   intro r hr;unfold zT at hr ⊢;cases hw:qP ops o st.tm with
   |false=>rw [hw] at hr;exact hr
   |true=>
    rw [hw] at hr;simp only [cond_true] at hr ⊢;have e1: ∀(t:T AO) x,jQ P tb xt call o st.tm {t:=t,n:=st.n}=some x->jQ P tb xt call' o st.tm {t:=t,n:=st.n}=some x:=fun t x hx=>qGG (fun fv args r hr=>hcc fv args _ r (xZY _) hr) hx;split at hr
    ·split at hr
     ·rename_i v h' he;rw [e1 _ _ he];exact hr
     ·cases hr
    ·split at hr
     ·rename_i v h' he;rw [e1 _ _ he];exact hr
     ·cases hr
    ·obtain ⟨hb,hr⟩:=qU hr;rw [hb];simp only [cond_true];split at hr
     ·rename_i v h' he;rw [e1 _ _ he];exact hr
     ·cases hr
  unfold jJ at h ⊢;cases hd:zT P tb xt call ops o m st with
  |none=>rw [hd] at h;cases h
  |some r=>
   rw [hd] at h;rw [key r hd];obtain ⟨k,v,h'⟩:=r;simp only at h ⊢;have hn:st.n<=(upd o m st v h' k).n:=by
    have:=dres_n hs hd;cases k with
    |new=>exact this
    |read=>exact xZY _
    |eff=>exact this
   exact vF hs ol ms _ st' (fun fv args kk r hk hr=>hcc fv args kk r (xZU hn hk) hr) h
open Classical in
def jX (fv:AV) (args:List AV) (h:Hp) (res:CR) (h':Hp) (call:jE):jE:=fun f a k=>if f=fv/\a=args/\k=h then some (res,h') else call f a k
theorem uU {t0:T AO} {MS:List Nat} {PR PC:Nat->Prop}: ∀(ol:List Oper) (ms:List Nat) (i:Nat) (cs:List Nat) (tm:T AV) (h:Hp) (Q:T AV->Hp->Prop) (st:DS),WOC E nt ops ol tm h Q->yC ol ms i cs=true->(∀m∈ms,m∈MS)->(∀(k:Nat) (o:Oper),ol[k]? =some o->(q8 o.op= .read->PR (i+k))/\(calm o.op=false->PC (i+k)))->st.i=i->st.tm=tm->st.n=h.n->h.t=t0->SInv E.P E.tb E.xt t0 MS PR PC cs st->
  ∃call st' h' cs',jS E.P E.xt call/\((∀fv args k r,call fv args k=some r->h.n<=k.n/\k.n<h'.n)/\h.n<=h'.n)/\yP E.P E.tb E.xt call ops ol ms st=some st'/\SInv E.P E.tb E.xt t0 MS PR PC cs' st'/\st'.n=h'.n/\h'.t=t0/\Q st'.tm h'
 |[],ms,i,cs,tm,h,Q,st,hw,hc,hms,hpr,hi,htm,hn,ht,hI=>⟨qAA,st,h,cs,yZ _ _,⟨(fun _ _ _ _ hx=>by cases hx),xZY _⟩,rfl,hI,hn,ht,by rw [htm];exact hw⟩
 |o::ol,[],i,cs,tm,h,Q,st,hw,hc,hms,hpr,hi,htm,hn,ht,hI=>by simp [yC] at hc
 |o::ol,m::ms,i,cs,tm,h,Q,st,hw,hc,hms,hpr,hi,htm,hn,ht,hI=>by
  simp only [WOC] at hw;obtain ⟨_,hw⟩:=hw;obtain ⟨I0,I1,I2,I3,I4,I5⟩:=hI;have hms': ∀x∈ms,x∈MS:=fun x hx=>hms x (xZZ _ hx);have hmm:m∈MS:=hms m xZV;have hpr': ∀(k:Nat) (o:Oper),ol[k]? =some o->(q8 o.op= .read->PR (i+1+k))/\(calm o.op=false->PC (i+1+k)):=fun k o' ho=>by have:=hpr (k+1) o' (by simpa using ho);rwa [show i+(k+1)=i+1+k by omega] at this
  have hput: ∀{v:AV} {N:T AV->Prop},putK nt tm o.dst v N->N (xU tm o.dst v):=fun {v N} hp=>by
   unfold putK at hp;unfold xU;split at hp
   ·rename_i hd;rw [hd];exact hp
   ·rename_i d hd;rw [hd];exact hp.2
  have heta:({t:=t0,n:=h.n}:Hp)=h:=by rw [<-ht]
  simp only [yC] at hc;cases haw:qP ops o tm with
  |false=>
   rw [haw] at hw;simp only [cond_false] at hw;have hw:=hput hw;have hd: ∀call,jJ E.P E.tb E.xt call ops o m st=some (upd o m st default {t:= .e,n:=st.n} .new):=fun call=>by
    unfold jJ zT;rw [htm,haw];rfl
   have hnext: ∃cs2,yC ol ms (i+1) cs2=true/\ ∀x∈cs,x∈cs2:=by
    cases hcal:calm o.op with
    |true=>rw [hcal] at hc;exact ⟨cs,hc,fun _ h=>h⟩
    |false=>
     rw [hcal] at hc;simp only [cond_false,xZW] at hc;exact ⟨i::cs,hc.2.2,fun _ h=>xZZ _ h⟩
   obtain ⟨cs2,hc2,hsub⟩:=hnext;obtain ⟨call,st',h',cs',r1,r2,r3,r4,r5,r6,r7⟩:=uU (t0:=t0) ol ms (i+1) cs2 _ h Q (upd o m st default {t:= .e,n:=st.n} .new) hw hc2 hms' hpr' (by simp [upd,hi]) (by simp [upd,htm]) (by simp [upd,hn]) ht
    ⟨by simpa [upd] using I0,by simp [upd,I1],by simp [upd,I2],by simpa [upd] using I3,by simpa [upd] using I4,by rcases I5 with h1|h1;exact .inl (by simp [upd,h1]);exact .inr ⟨by simpa [upd] using hsub _ h1.1,by simpa [upd] using h1.2⟩⟩
   exact ⟨call,st',h',cs',r1,r2,by rw [jA,hd];exact r3,r4,r5,r6,r7⟩
  |true=>
   rw [haw] at hw;simp only [cond_true] at hw;cases hcal:calm o.op with
   |true=>
    rw [hcal] at hc;simp only [cond_true] at hc;obtain ⟨call0,res,_,hop,hk⟩:=hw.ev;rw [j7 rfl hcal] at hop;cases ha:aop E.P E.tb E.xt (qE tm) o.op h with
    |none=>rw [ha] at hop;cases hop
    |some p=>
     obtain ⟨v,h1⟩:=p;rw [ha] at hop;simp only [bH,Option.some.injEq] at hop;subst hop;obtain ⟨_,hk⟩:=hk;have hk:=hput hk;rcases gZ hcal with hkd|hkd
     ·obtain ⟨e1,e2⟩:=qAW hcal hkd ha;subst e1;have hd: ∀call,jJ E.P E.tb E.xt call ops o m st=some (upd o m st v {t:= .e,n:=st.n} .new):=fun call=>by
       unfold jJ zT;rw [htm,haw,hkd];simp only [cond_true];rw [j7 rfl hcal,e2];rfl
      obtain ⟨call,st',h',cs',r1,r2,r3,r4,r5,r6,r7⟩:=uU (t0:=t0) ol ms (i+1) cs _ h1 Q (upd o m st v {t:= .e,n:=st.n} .new) hk hc hms' hpr' (by simp [upd,hi]) (by simp [upd,htm]) (by simp [upd,hn]) ht
       ⟨by simpa [upd] using I0,by simp [upd,I1],by simp [upd,I2],by simpa [upd] using I3,by simpa [upd] using I4,by simpa [upd] using I5⟩
      exact ⟨call,st',h',cs',r1,r2,by rw [jA,hd];exact r3,r4,r5,r6,r7⟩
     ·obtain ⟨e1,e2⟩:=calm_read hcal hkd ha;subst e1;have hov: ∀q,({t:=ovl q st.fs st.b,n:=st.n}:Hp)=h1:=fun q=>by rw [I1,I2,hn];exact heta
      have hd: ∀call,jJ E.P E.tb E.xt call ops o m st=some (upd o m st v h1 .read):=fun call=>by
       unfold jJ zT;rw [htm,haw,hkd];simp only [cond_true];rw [hov,j7 rfl hcal,ha];rfl
      obtain ⟨call,st',h',cs',r1,r2,r3,r4,r5,r6,r7⟩:=uU (t0:=t0) ol ms (i+1) cs _ h1 Q (upd o m st v h1 .read) hk hc hms' hpr' (by simp [upd,hi]) (by simp [upd,htm]) (by simp [upd,hn]) ht
       ⟨⟨by simpa [upd] using I0.1,fun r hr=>by
        simp only [upd,xZP] at hr;rcases hr with rfl|hr
        ·exact ⟨hmm,by have:=(hpr 0 o rfl).1 hkd;simpa [hi] using this⟩
        ·exact I0.2 r hr⟩,by simp [upd,I1],by simp [upd,I2],by simpa [upd] using I3,fun r hr call=>by
        simp only [upd,xZP] at hr;rcases hr with rfl|hr
        ·simp only;rw [j7 rfl hcal,htm,hn,<-ht,e2];rfl
        ·exact I4 r hr call,by simpa [upd] using I5⟩
      exact ⟨call,st',h',cs',r1,r2,by rw [jA,hd];exact r3,r4,r5,r6,r7⟩
   |false=>
    rw [hcal] at hc;simp only [cond_false,xZW] at hc;obtain ⟨hc1,hc2,hc3⟩:=hc;unfold jG at hc1;split at hc1
    ·rename_i q hq;split at hc1
     ·rename_i f hf;unfold WOp at hw;simp only [hq,calK,hf] at hw;obtain ⟨res,h1,hcs,hk⟩:=hw;cases res with
      |pan v=>exact hk.elim
      |ret v=>
       obtain ⟨⟨n,hlt,hnn,rfl⟩,hk⟩:=hk;have hlt:h.n<n:=hlt (by simp [jG,hf]);have hk:=hput hk;have hkd:q8 o.op= .eff:=by simp [hq,q8,hf]
       obtain ⟨call,st',h',cs',r1,r2,r3,r4,r5,r6,r7⟩:=uU (t0:=t0) ol ms (i+1) (i::cs) _ (h.up n) Q (upd o m st v (h.up n) .eff) hk hc3 hms' hpr' (by simp [upd,hi]) (by simp [upd,htm]) (by simp [upd]) ht
        ⟨⟨.inr (by simpa [upd] using hmm),by simpa [upd] using I0.2⟩,by simp [upd,I1],by simp [upd,ht],fun e he=>by
         simp only [upd,xZP] at he;rcases he with rfl|he
         ·exact I2
         ·exact I3 e he,by simpa [upd] using I4,.inr ⟨by simp [upd,hi],by have:=(hpr 0 o rfl).2 hcal;simpa [upd,hi] using this⟩⟩
       have hsd:jS E.P E.xt (jX (qE tm f) (q.args.toList.map (qE tm)) h (.ret v) (h.up n) call):=by
        intro fv a k r k' he;unfold jX at he;split at he
        ·rename_i hq;obtain ⟨rfl,rfl,rfl⟩:=hq;cases he;exact hcs
        ·exact r1 _ _ _ _ _ he
       refine ⟨jX (qE tm f) (q.args.toList.map (qE tm)) h (.ret v) (h.up n) call,st',h',cs',hsd,⟨fun fv a k r he=> ?_,xZU hnn r2.2⟩,?_,r4,r5,r6,r7⟩
       ·unfold jX at he;split at he
        ·rename_i hq;rw [hq.2.2];have:=r2.2;simp only [Hp.up_n] at this;exact ⟨xZY _,by omega⟩
        ·have:=r2.1 _ _ _ _ he;simp only [Hp.up_n] at this;omega
       ·have hov: ∀q,({t:=ovl q st.fs st.b,n:=st.n}:Hp)=h:=fun q=>by rw [I1,I2,hn];exact heta
        have hch:(Nat.beq st.ne 0 || bt m st.dl)=true:=by
         rcases I5 with h1|h1
         ·rw [h1];rfl
         ·rw [xZT.1 hc2 _ h1.1];simp
        have hev:jQ E.P E.tb E.xt (jX (qE tm f) (q.args.toList.map (qE tm)) h (.ret v) (h.up n) call) o tm h=some (.ok v (h.up n)):=by
         simp [jQ,hq,vC,hf,jX,uO]
        rw [jA];have hd:jJ E.P E.tb E.xt (jX (qE tm f) (q.args.toList.map (qE tm)) h (.ret v) (h.up n) call) ops o m st=some (upd o m st v (h.up n) .eff):=by
         unfold jJ zT;rw [htm,haw,hkd];simp only [cond_true];rw [hch];simp only [cond_true];rw [hov,hev]
        rw [hd];simp only;refine vF r1 ol ms _ _ (fun fv a k r hk hr=> ?_) r3;unfold jX;rw [if_neg (fun hq=> ?_)]
        ·exact hr
        ·simp only [upd,Hp.up_n] at hk;rw [hq.2.2] at hk;omega
     ·cases hc1
    ·cases hc1
end
def lastF (m:List Oper) (z:Oper):Bool:=
 match qBM (m++[z]) [] with
 |none=>false
 |some ms=>match kK ms with
  |none=>false
  |some (_,mz)=>Nat.beq mz (2 ^ m.length - 1) && (m.all (kE m.length) && kE m.length z)
theorem wB {m:List Oper} {oz:Oper} (h:lastF m oz=true):LastOf ⟨m++[oz]⟩ ⟨m⟩ oz:=by
 unfold lastF at h;split at h
 ·cases h
 rename_i ms hms;split at h
 ·cases h
 rename_i ms' mz hmz;simp only [xZW] at h;have hc:=h;obtain ⟨ops,hops⟩: ∃ops:Array Oper,ops=⟨m++[oz]⟩:=⟨_,rfl⟩;rw [<-hops];have hms:qBM ops.toList []=some ms:=by rw [hops];exact hms
 have hl:ops.toList=m++[oz]:=by rw [hops]
 have hml:=xI _ _ _ hmz;obtain ⟨M1,_,M3⟩:=pU _ _ _ hms;have hsz:ops.size=m.length+1:=by rw [<-Array.length_toList,hl];simp
 have hat: ∀i,i<m.length->ops[i]? =m[i]? :=fun i hi=>by rw [<-xZO,hl,xZL hi]
 have hlast:ops[m.length]? =some oz:=by rw [<-xZO,hl];simp
 have hmzl:ms[m.length]? =some mz:=by
  have:ms'.length=m.length:=by
   rw [hml,hl] at M1;simp at M1;omega
  rw [hml,<-this];simp
 have hmzv:mz=2 ^ m.length - 1:=xZX hc.1;refine {size:=by simpa using hsz,at_:=fun i hi=>by simpa using hat i hi,last:=by simpa using hlast,lt:=fun i o ho e he hb=> ?_,all:=fun D hD hz k hk=> ?_,gd:=fun i o j b ho hg=> ?_}
 ·obtain ⟨mi,g1,g2,_⟩:=M3 i o (by simpa using ho);simpa using (g2 e he hb).1
 ·have hk':k<m.length:=by simpa using hk
  have step: ∀i,i<m.length->D i-> ∀mi,ms[i]? =some mi-> ∀k,mi.testBit k=true->D k:=by
   intro i;induction i using Nat.strongRecOn with
   |_ i ih=>
    intro hi hDi mi hmi k hk;have ho:ops[i]? =some ops[i]:=xZQ (by omega);obtain ⟨mi',g1,g2,g3⟩:=M3 i _ (by rw [xZO];exact ho);simp only [xYZ,xZN] at g1 g2;rw [hmi] at g1;cases g1;obtain ⟨e,he,hb,hk⟩:=g3 k hk;have hDe:D e.on:=hD i _ (by have:=hat i hi;rw [ho] at this;simpa using this.symm) hDi e he hb;rcases hk with rfl|⟨me,hme,hk⟩
    ·exact hDe
    ·have hlt:=(g2 e he hb).1;exact ih e.on hlt (by omega) hDe me hme k hk
  obtain ⟨mz',g1,g2,g3⟩:=M3 m.length oz (by simpa using hlast);simp only [xYZ,xZN] at g1 g2;rw [hmzl] at g1;cases g1;obtain ⟨e,he,hb,hk⟩:=g3 k (by rw [hmzv,Nat.testBit_two_pow_sub_one];simpa using hk');rcases hk with rfl|⟨me,hme,hk⟩
  ·exact hz e he hb
  ·exact step e.on (g2 e he hb).1 (hz e he hb) me hme k hk
 ·have:=xZT.1 hc.2.1 o (xYE (i:=i) (by simpa using ho));unfold kE at this;rw [hg] at this;simpa [xZH] using this
section
variable {E:Env} {nt:Nat}
def DrX (E:Env) (nt:Nat) (ops:Array Oper) (tm:T AV) (h:Hp) (x:Ex) (tm':T AV) (h':Hp):Prop:=h.n<=h'.n/\ ∀lim,h'.n<=lim-> ∀c a w r t,Good lim c h w->(∀b v,E.xt b=some v->c.ext b=some v)->TR c nt tm a.tmps->
   ∀Q:Exit->Act->World->Prop,(∀e a' w',Post lim c h w nt a.defers x tm' h' e a' w'->Q e a' w')->wpOpsIn (Wd r) 0 E.P ops Q (Region.linearise .any ops t) a {w with drawn:=w.drawn+1}
theorem DrX.last {ops ops':Array Oper} {oz:Oper} (L:LastOf ops ops' oz) {tm tm1 tm2:T AV} {h h1 h2:Hp} {x:Ex} (hd:DrX E nt ops' tm h .normal tm1 h1) (ho:OpsS E nt ops [oz] tm1 h1 x tm2 h2):DrX E nt ops tm h x tm2 h2:=by
 refine ⟨xZU hd.1 ho.1,fun lim hl c a w r t g hxt ht Q hQ=> ?_⟩;refine qEw L (hd.2 lim (xZU ho.1 hl) c a w r t g hxt ht _ ?_);rintro e a' w' ⟨c',t1,t2,t3,t4⟩;cases t2;show wpOpsIn (Wd r) 0 E.P ops Q [ops'.size] a' w';refine ho.2 lim hl [ops'.size] r (by simp [L.last]) c' a' w' t1.good (fun b v hb=>t1.e.ext _ _ (hxt b v hb)) t3 Q ?_;rintro e2 a2 w2 ⟨c2,u1,u2,u3,u4⟩;exact hQ _ _ _ ⟨c2,t1.trans u1,u2,u3,u4.trans t4⟩
theorem DrX.out {ops ops':Array Oper} {oz:Oper} (L:LastOf ops ops' oz) {tm tm1:T AV} {h h1:Hp} {x:Ex} (hd:DrX E nt ops' tm h x tm1 h1) (hx:x≠ .normal):DrX E nt ops tm h x tm1 h1:=by
 refine ⟨hd.1,fun lim hl c a w r t g hxt ht Q hQ=> ?_⟩;refine qEw L (hd.2 lim hl c a w r t g hxt ht _ ?_);rintro e a' w' ⟨c',t1,t2,t3,t4⟩;have hq:=hQ e a' w' ⟨c',t1,t2,t3,t4⟩;cases x with
 |normal=>exact absurd rfl hx
 |exit id=>cases t2;exact hq
 |goto id=>cases t2;exact hq
 |ret=>cases t2;exact hq
 |panic v=>obtain ⟨y,rfl,_⟩:=t2;exact hq
theorem WOp.mono {o:Oper} {tm:T AV} {h:Hp} {K K':OR->Prop} (hw:WOp E o tm h K) (hk: ∀r,K r->K' r):WOp E o tm h K':=by
 have ha:aopK E o tm h K->aopK E o tm h K':=fun ⟨p,h1,h2⟩=>⟨p,h1,hk _ h2⟩;unfold WOp at hw ⊢;split at hw
 ·unfold calK at hw ⊢;split at hw
  ·refine hw.mono fun r h' hr=> ?_;cases r<;>exact hk _ hr
  ·exact hw.elim
  ·exact ha hw
 ·obtain ⟨p,h1,h2⟩:=hw;exact ⟨p,h1,hk _ h2⟩
 ·exact hw.elim
 ·exact ha hw
def seqX (N:T AV->Hp->Prop) (Q:Ex->T AV->Hp->Prop):Ex->T AV->Hp->Prop
 | .normal,tm,h=>N tm h
 |x,tm,h=>Q x tm h
theorem WO_split {ops ops':Array Oper} {o:Oper} {ol:List Oper} {tm:T AV} {h:Hp} {Q:Ex->T AV->Hp->Prop} (hg: ∀j w,o.guard=some (j,w)->ops'[j]? =ops[j]?) (hw:WO E nt ops (o::ol) tm h Q):WO E nt ops' [o] tm h (seqX (fun tm h=>WO E nt ops ol tm h Q) Q):=by
 simp only [WO] at hw ⊢;have e1:jO nt ops' o=jO nt ops o:=by
  unfold jO;split
  ·rfl
  ·rename_i j w hgg;rw [hg j w hgg]
 have e2:qP ops' o tm=qP ops o tm:=by
  unfold qP;split
  ·rfl
  ·rename_i j w hgg;rw [hg j w hgg]
 rw [e1,e2];refine ⟨hw.1,?_⟩;have hw:=hw.2;cases haw:qP ops o tm with
 |false=>rw [haw] at hw;exact hw
 |true=>
  rw [haw] at hw;refine WOp.mono hw fun r hr=> ?_;cases r with
  |pan v h'=>exact hr
  |ok v h'=>exact hr
def uG:List Oper->List Oper->Bool
 |_,[]=>true
 |m,z::zs=>lastF m z && uG (m++[z]) zs
theorem lastF_gd {m:List Oper} {z:Oper} (h:lastF m z=true) {j:Nat} {w:Bool} (hg:z.guard=some (j,w)):j<m.length:=by
 unfold lastF at h;split at h
 ·cases h
 split at h
 ·cases h
 simp only [xZW] at h;have:=h.2.2;unfold kE at this;rw [hg] at this;simpa [xZH] using this
theorem DrX.outs {tm tm1:T AV} {h h1:Hp} {x:Ex} (hx:x≠ .normal): ∀(zs m:List Oper),uG m zs=true->DrX E nt ⟨m⟩ tm h x tm1 h1->DrX E nt ⟨m++zs⟩ tm h x tm1 h1
 |[],m,_,hd=>by simpa using hd
 |z::zs,m,hl,hd=>by
  simp only [uG,xZW] at hl;have:=DrX.outs hx zs (m++[z]) hl.2 (DrX.out (wB hl.1) hd hx);simpa using this
theorem DrX.lasts (htb:Tb E.P E.tb) {ops:Array Oper} {tm:T AV} {h:Hp} {Q:Ex->T AV->Hp->Prop}: ∀(zs m:List Oper) (tm1:T AV) (h1:Hp),uG m zs=true->(∀j,j<m.length+zs.length->ops[j]? =(m++zs)[j]?)->DrX E nt ⟨m⟩ tm h .normal tm1 h1->WO E nt ops zs tm1 h1 Q-> ∃x tm' h',DrX E nt ⟨m++zs⟩ tm h x tm' h'/\Q x tm' h'
 |[],m,tm1,h1,_,_,hd,hw=>⟨_,_,_,by simpa using hd,hw⟩
 |z::zs,m,tm1,h1,hl,hat,hd,hw=>by
  simp only [uG,xZW] at hl;have hw1:=WO_split (ops':=⟨m++[z]⟩) (fun j w hg=>by
   have hj:=lastF_gd hl.1 hg;rw [hat j (by simp;omega)];simp [xZL hj]) hw
  obtain ⟨x,tm2,h2,ho,hq⟩:=WO.ok htb _ _ _ _ hw1;cases x with
  |normal=>
   have:=DrX.lasts htb zs (m++[z]) tm2 h2 hl.2 (fun j hj=>by rw [hat j (by simp at hj ⊢;omega)];simp) (DrX.last (wB hl.1) hd ho) hq;simpa using this
  |exit id=>exact ⟨_,_,_,by simpa using DrX.outs (by simp) zs (m++[z]) hl.2 (DrX.last (wB hl.1) hd ho),hq⟩
  |goto id=>exact ⟨_,_,_,by simpa using DrX.outs (by simp) zs (m++[z]) hl.2 (DrX.last (wB hl.1) hd ho),hq⟩
  |ret=>exact ⟨_,_,_,by simpa using DrX.outs (by simp) zs (m++[z]) hl.2 (DrX.last (wB hl.1) hd ho),hq⟩
  |panic v=>exact ⟨_,_,_,by simpa using DrX.outs (by simp) zs (m++[z]) hl.2 (DrX.last (wB hl.1) hd ho),hq⟩
def calmOk (nt:Nat) (ops:Array Oper):Bool:=
 match sta ops with
 |none=>false
 |some s=>Nat.ble s.mx nt && yC ops.toList s.ms 0 []
theorem WOC.ok (htb:Tb E.P E.tb) {ops:Array Oper} (hst:calmOk nt ops=true) {tm:T AV} {h:Hp} {Q:T AV->Hp->Prop} (hw:WOC E nt ops ops.toList tm h Q): ∃tm' h',DrX E nt ops tm h .normal tm' h'/\Q tm' h':=by
 unfold calmOk at hst;split at hst
 ·cases hst
 rename_i s hs;simp only [xZW] at hst;obtain ⟨call,st,h',cs,r1,_,r3,⟨_,I1,I2,I3,I4,_⟩,r5,r6,r7⟩:=uU (t0:=h.t) (MS:=s.ms) ops.toList s.ms 0 [] tm h Q {i:=0,tm:=tm,n:=h.n,b:=h.t,mj:=0,dl:=0,ne:=0,fs:=[],bs:=[],rs:=[]} hw hst.2 (fun _ h=>h) (PR:=fun _=>True) (PC:=fun _=>True) (fun _ _ _=>⟨fun _=>trivial,fun _=>trivial⟩) rfl rfl rfl rfl ⟨⟨.inl rfl,by simp⟩,rfl,rfl,by simp,by simp,.inl rfl⟩;have hchk:DChk E.P E.tb E.xt call st ops.size:=by
  intro r hr e he;refine .inr (.inr (.inr ⟨{t:=h.t,n:=r.n},?_⟩));have hb:e.b=h.t:=by
   rcases xZP.1 he with rfl|he
   ·exact I2
   ·exact I3 e he
  rw [I1];show jQ E.P E.tb E.xt call r.o r.tm {t:=e.b,n:=r.n}=_;rw [hb];exact I4 r hr call
 obtain ⟨n1,s1⟩:=pZ htb r1 hs (xZI hst.1) r3 hchk;have e1:({t:=ovl (fun f=> !bt st.mj f) st.fs st.b,n:=st.n}:Hp)=h':=by
  rw [I1,I2,r5];show ({t:=h.t,n:=h'.n}:Hp)=h';rw [<-r6]
 rw [e1] at s1;rw [r5] at n1 s1;exact ⟨st.tm,h',⟨n1,s1⟩,r7⟩
def qEQ (nt:Nat) (ops:Array Oper) (k:Nat):Bool:=calmOk nt ⟨ops.toList.take k⟩ && (uG (ops.toList.take k) (ops.toList.drop k) && (ops.toList.take k).all (kE k))
theorem qAj {ops ops':Array Oper}: ∀(ol:List Oper) (tm:T AV) (h:Hp) (Q:T AV->Hp->Prop),(∀o∈ol,∀j w,o.guard=some (j,w)->ops'[j]? =ops[j]?)->WOC E nt ops ol tm h Q->WOC E nt ops' ol tm h Q
 |[],tm,h,Q,_,hw=>hw
 |o::ol,tm,h,Q,hg,hw=>by
  simp only [WOC] at hw ⊢;have hgo:=hg o xZV;have e1:jO nt ops' o=jO nt ops o:=by
   unfold jO;split
   ·rfl
   ·rename_i j w hgg;rw [hgo j w hgg]
  have e2:qP ops' o tm=qP ops o tm:=by
   unfold qP;split
   ·rfl
   ·rename_i j w hgg;rw [hgo j w hgg]
  rw [e1,e2];refine ⟨hw.1,?_⟩;have hw:=hw.2;have hput: ∀{v:AV} {N N':T AV->Prop},putK nt tm o.dst v N->(∀t,N t->N' t)->putK nt tm o.dst v N':=fun {v N N'} hp hn=>by
   unfold putK at hp ⊢;split at hp
   ·exact hn _ hp
   ·exact ⟨hp.1,hn _ hp.2⟩
  cases haw:qP ops o tm with
  |false=>
   rw [haw] at hw;simp only [cond_false] at hw ⊢;exact hput hw fun t ht=>qAj ol t h Q (fun o' ho'=>hg o' (xZZ _ ho')) ht
  |true=>
   rw [haw] at hw;refine WOp.mono hw fun r hr=> ?_;cases r with
   |pan v h'=>exact hr
   |ok v h'=>exact ⟨hr.1,hput hr.2 fun t ht=>qAj ol t h' Q (fun o' ho'=>hg o' (xZZ _ ho')) ht⟩
theorem SemC.drawn (htb:Tb E.P E.tb) (hm:E.P.follows .mixedOrders=true) {r:Option Nat} {id:Nat} {ops:Array Oper} (k:Nat) (hst:qEQ nt ops k=true) {tm:T AV} {h:Hp} {mks:List Nat} {Q:Ex->St->Prop}
  (hw:WOC E nt ops (ops.toList.take k) tm h (fun tm1 h1=>WO E nt ops (ops.toList.drop k) tm1 h1 (regK ⟨tm,nt,h,mks⟩ Q))):W E r (.region id ops true) ⟨tm,nt,h,mks⟩ Q:=by
 unfold qEQ at hst;simp only [xZW] at hst;have hw1:=qAj (ops':=⟨ops.toList.take k⟩) _ _ _ _ (fun o ho j w hg=>by
  have:=xZT.1 hst.2.2 o ho;unfold kE at this;rw [hg] at this;simp only [xZH] at this;simp [this]) hw
 obtain ⟨tm1,h1,hd,hq⟩:=WOC.ok htb hst.1 hw1;obtain ⟨x,tm2,h2,hd2,hq2⟩:=DrX.lasts htb _ _ tm1 h1 hst.2.1 (fun j hj=>by rw [xZJ,xZO]) hd hq;rw [xZJ] at hd2;have lift: ∀{a:Act} {w:World} {r:Option Nat} {id:Nat} {Q:Exit->Act->World->Prop},(∀t,wpOpsIn (Wd r) 0 E.P ops Q (Region.linearise .any ops t) a {w with drawn:=w.drawn+1})->(Code.region id ops true).wpIn (Wd r) 0 E.P Q a w:=fun hh=>by
  refine wpIn_region_draw fun t=> ?_;simp only [Region.schedule,hm,xYG,if_true];exact hh t
 have hds:DrwS E nt ops tm h x tm2 h2:=⟨hd2.1,fun lim hl c a w r id g hxt ht Q hQ=>lift fun t=>hd2.2 lim hl c a w r t g hxt ht Q hQ⟩;exact ⟨_,_,.regionD (st:=⟨tm,nt,h,mks⟩) hds,hq2⟩
section
variable {ops:Array Oper} {o:Oper} {ol:List Oper} {tm:T AV} {h h':Hp} {Q:T AV->Hp->Prop} {dst:Option Tmp} {ty:TypeId} {ps:String} {af:Array Edge} {g:Option (Nat×Bool)} {r:Option Nat} {mks:List Nat}
def WOCn (ic:Bool) (E:Env) (nt:Nat) (ops:Array Oper) (ol:List Oper) (tm:T AV) (h:Hp) (dst:Option Tmp) (Q:T AV->Hp->Prop):OR->Prop:=WOCk ic nt tm h dst (fun tm' h'=>WOC E nt ops ol tm' h' Q)
def gateC (gd wt:Bool) (E:Env) (nt:Nat) (ops:Array Oper) (o:Oper) (ol:List Oper) (tm:T AV) (h:Hp) (Q:T AV->Hp->Prop):Prop:=
 gd=true/\bif wt then WOp E o tm h (WOCn (jG o.op) E nt ops ol tm h o.dst Q) else putK nt tm o.dst default (fun tm'=>WOC E nt ops ol tm' h Q)
theorem WOC_nil:WOC E nt ops [] tm h Q=Q tm h:=rfl
theorem WOC_cons:WOC E nt ops (o::ol) tm h Q=gateC (jO nt ops o) (qP ops o tm) E nt ops o ol tm h Q:=rfl
theorem gateC_t:gateC true true E nt ops o ol tm h Q=WOp E o tm h (WOCn (jG o.op) E nt ops ol tm h o.dst Q):=by simp [gateC]
theorem gateC_fs {d:Tmp} {op:Op}:gateC true false E nt ops ⟨some d,op,ty,ps,af,g⟩ ol tm h Q=(d<nt/\WOC E nt ops ol (tm.put (some default) d) h Q):=by simp [gateC,putK]
theorem WOCn_f {d:Tmp} {v:AV}:WOCn false E nt ops ol tm h (some d) Q (.ok v h)=(d<nt/\WOC E nt ops ol (tm.put (some v) d) h Q):=by
 refine propext ⟨fun hh=>hh.2,fun hh=>⟨⟨h.n,by simp,xZY _,rfl⟩,hh⟩⟩
theorem qFH {f:Operand} {a:Array Operand} {ts:Array TypeId}:jG (.call ⟨.value f,a,ts⟩)=true:=rfl
theorem qCK {b:Builtin} {a:Array Operand} {ts:Array TypeId}:jG (.call ⟨.builtin b,a,ts⟩)=false:=rfl
theorem qFF {x:Operand}:jG (.move x)=false:=rfl
theorem qDr {x:Operand}:jG (.assign x)=false:=rfl
theorem qFE {x y z:Operand}:jG (.pick x y z)=false:=rfl
theorem qFG {t:TypeId} {x:Operand}:jG (.load t x)=false:=rfl
theorem qGD {b:BinOp} {t t':TypeId} {x y:Operand}:jG (.binOp b t x y t')=false:=rfl
theorem isCall_un {b:UnOp} {t:TypeId} {x:Operand}:jG (.unOp b t x)=false:=rfl
theorem isCall_fa {t:TypeId} {x:Operand} {f:Nat}:jG (.fieldAddr t x f)=false:=rfl
theorem isCall_f {t:TypeId} {x:Operand} {f:Nat}:jG (.field t x f)=false:=rfl
theorem isCall_ia {t:TypeId} {x y:Operand}:jG (.indexAddr t x y)=false:=rfl
theorem isCall_i {t:TypeId} {x y:Operand}:jG (.index t x y)=false:=rfl
theorem qEF {t:TypeId} {p:Array (Nat×Operand)}:jG (.build t p)=false:=rfl
theorem isCall_ex {x:Operand} {i:Nat}:jG (.extract x i)=false:=rfl
theorem isCall_mf {f:Fn} {a b:Array Operand}:jG (.makeFunc f a b)=false:=rfl
theorem zM (ok:SyOk E) {id:Nat} {b:Code} {Q:Ex->St->Prop} (k:Nat) (hst:qEQ nt ops k=true) (hw: ∀K:Ex->T AV->Hp->Prop,(∀tm h,wpc E r b ⟨tm,nt,h,mks⟩ Q->K .normal tm h)->(∀v tm h,Q (.panic v) ⟨tm,nt,h,mks⟩->K (.panic v) tm h)->WOC E nt ops (ops.toList.take k) tm h (fun tm1 h1=>WO E nt ops (ops.toList.drop k) tm1 h1 K)):
  wpc E r (.seq (.region id ops true) b) ⟨tm,nt,h,mks⟩ Q:=by
 show W E r (.region id ops true) ⟨tm,nt,h,mks⟩ (hH (fun s=>wpc E r b s Q) Q);exact SemC.drawn ok.tb ok.mixed k hst (hw _ (fun tm h hh=>hh) (fun v tm h hh=>hh))
theorem regD (ok:SyOk E) {id:Nat} {Q:Ex->St->Prop} (k:Nat) (hst:qEQ nt ops k=true) (hw: ∀K:Ex->T AV->Hp->Prop,(∀tm h,Q .normal ⟨tm,nt,h,mks⟩->K .normal tm h)->(∀v tm h,Q (.panic v) ⟨tm,nt,h,mks⟩->K (.panic v) tm h)->WOC E nt ops (ops.toList.take k) tm h (fun tm1 h1=>WO E nt ops (ops.toList.drop k) tm1 h1 K)):
  wpc E r (.region id ops true) ⟨tm,nt,h,mks⟩ Q:=by
 show W E r (.region id ops true) ⟨tm,nt,h,mks⟩ Q;exact SemC.drawn ok.tb ok.mixed k hst (hw _ (fun tm h hh=>hh) (fun v tm h hh=>hh))
end
end
theorem xB {P:Program} {tb:T TE} {xt:Xt} {call:jE} {ops:Array Oper}: ∀(l1 l2:List Oper) (ms:List Nat) (st st1:DS),yP P tb xt call ops l1 ms st=some st1->yP P tb xt call ops (l1++l2) ms st=yP P tb xt call ops l2 (ms.drop l1.length) st1
 |[],l2,ms,st,st1,h=>by rw [qFQ] at h;cases h;rfl
 |o::l1,l2,[],st,st1,h=>by rw [qAe] at h;cases h
 |o::l1,l2,m::ms,st,st1,h=>by
  rw [jA] at h;rw [xXV,jA];cases hd:jJ P tb xt call ops o m st with
  |none=>rw [hd] at h;cases h
  |some st'=>rw [hd] at h;exact xB l1 l2 ms st' st1 h
def qB0 (mz:Nat):List Oper->Nat->Bool
 |[],_=>true
 |o::ol,i=>(match q8 o.op with| .new=>true|_=>bt mz i) && qB0 mz ol (i+1)
theorem qCx {mz:Nat}: ∀(ol:List Oper) (i:Nat),qB0 mz ol i=true-> ∀k o,ol[k]? =some o->q8 o.op≠ .new->bt mz (i+k)=true
 |[],i,_,k,o,ho,_=>by simp at ho
 |p::ol,i,h,k,o,ho,hk=>by
  simp only [qB0,xZW] at h;cases k with
  |zero=>
   simp only [xZC,Option.some.injEq] at ho;subst ho;have:=h.1;split at this
   ·rename_i hn;exact absurd hn hk
   ·simpa using this
  |succ k=>
   have:=qCx ol (i+1) h.2 k o (by simpa using ho) hk
   rwa [show i+1+k=i+(k+1) by omega] at this
theorem gC: ∀(ol:List Oper) (ms:List Nat) (i:Nat) (cs:List Nat),yC ol ms i cs=true-> ∀(k:Nat) (o:Oper),ol[k]? =some o->calm o.op=false->q8 o.op≠ .new
 |[],ms,i,cs,_,k,o,ho,_=>by simp at ho
 |p::ol,[],i,cs,h,k,o,ho,_=>by simp [yC] at h
 |p::ol,m::ms,i,cs,h,k,o,ho,hc=>by
  simp only [yC] at h;cases k with
  |zero=>
   simp only [xZC,Option.some.injEq] at ho;subst ho;rw [hc] at h;simp only [cond_false,xZW] at h;have:=h.1;unfold jG at this;split at this
   ·rename_i q hq;split at this
    ·rename_i f hf;simp [hq,q8,hf]
    ·cases this
   ·cases this
  |succ k=>
   cases hp:calm p.op with
   |true=>rw [hp] at h;exact gC ol ms (i+1) cs h k o (by simpa using ho) hc
   |false=>
    rw [hp] at h;simp only [cond_false,xZW] at h;exact gC ol ms (i+1) _ h.2.2 k o (by simpa using ho) hc
def calmOkC (nt:Nat) (l:List Oper) (z:Oper):Bool:=
 match sta ⟨l++[z]⟩ with
 |none=>false
 |some s=>Nat.ble s.mx nt && (yC l s.ms 0 [] && (jG z.op && (match s.ms[l.length]? with|some mz=>qB0 mz l 0|none=>false)))
theorem WOC.okC {E:Env} {nt:Nat} (htb:Tb E.P E.tb) {l:List Oper} {z:Oper} {ops:Array Oper} (hops:ops=⟨l++[z]⟩) (hst:calmOkC nt l z=true) {tm:T AV} {h:Hp} {Q:T AV->Hp->Prop}
  (hw:WOC E nt ops l tm h (fun tm1 h1=>WO E nt ops [z] tm1 h1 (seqX Q (fun _ _ _=>False)))): ∃tm' h',DrX E nt ops tm h .normal tm' h'/\Q tm' h':=by
 have hol:ops.toList=l++[z]:=by rw [hops]
 unfold calmOkC at hst;rw [<-hops] at hst;split at hst
 ·cases hst
 rename_i s hs;simp only [xZW] at hst;obtain ⟨hmx,hch,hic,hrd⟩:=hst;split at hrd
 rotate_left
 ·cases hrd
 rename_i mz hmz;have hrd':=qCx l 0 hrd;simp only [xZN] at hrd';obtain ⟨call,st,h1,cs,r1,r2,r3,⟨⟨I0,I00⟩,I1,I2,I3,I4,I5⟩,r5,r6,hz⟩:=uU (t0:=h.t) (MS:=s.ms) (PR:=fun i=>bt mz i=true) (PC:=fun i=>bt mz i=true) l s.ms 0 [] tm h _ {i:=0,tm:=tm,n:=h.n,b:=h.t,mj:=0,dl:=0,ne:=0,fs:=[],bs:=[],rs:=[]} hw hch (fun _ h=>h)
  (fun k o ho=>⟨fun hk=>by rw [xZN];exact hrd' k o ho (by rw [hk];simp),fun hk=>by rw [xZN];exact hrd' k o ho (gC l s.ms 0 [] hch k o ho hk)⟩) rfl rfl rfl rfl ⟨⟨.inl rfl,by simp⟩,rfl,rfl,by simp,by simp,.inl rfl⟩
 have hlen:l.length<s.ms.length:=(xZR.1 hmz).1;have hm:s.ms.drop l.length=mz::s.ms.drop (l.length+1):=by
  rw [xYK hlen,(xZR.1 hmz).2]
 have heta:({t:=h.t,n:=st.n}:Hp)=h1:=by rw [r5,<-r6]
 have hov: ∀q,({t:=ovl q st.fs st.b,n:=st.n}:Hp)=h1:=fun q=>by rw [I1,I2];exact heta
 simp only [WO] at hz;obtain ⟨_,hz⟩:=hz;have hput: ∀{v:AV} {N:T AV->Prop},putK nt st.tm z.dst v N->N (xU st.tm z.dst v):=fun {v N} hp=>by
  unfold putK at hp;unfold xU;split at hp
  ·rename_i hd;rw [hd];exact hp
  ·rename_i d hd;rw [hd];exact hp.2
 cases haw:qP ops z st.tm with
 |false=>
  rw [haw] at hz;simp only [cond_false] at hz;have hq:=hput hz;have hd:jJ E.P E.tb E.xt call ops z mz st=some (upd z mz st default {t:= .e,n:=st.n} .new):=by
   unfold jJ zT;rw [haw];rfl
  have hrun:yP E.P E.tb E.xt call ops ops.toList s.ms {i:=0,tm:=tm,n:=h.n,b:=h.t,mj:=0,dl:=0,ne:=0,fs:=[],bs:=[],rs:=[]}=some (upd z mz st default {t:= .e,n:=st.n} .new):=by
   rw [hol,xB _ _ _ _ _ r3,hm,jA,hd];rfl
  obtain ⟨st2,hst2⟩: ∃st2,st2=upd z mz st default {t:= .e,n:=st.n} .new:=⟨_,rfl⟩;rw [<-hst2] at hrun;have hfs:st2.fs=[]:=by rw [hst2];simp [upd,I1]
  have hchk:DChk E.P E.tb E.xt call st2 ops.size:=by
   intro r hr e' he';refine .inr (.inr (.inr ⟨{t:=h.t,n:=r.n},?_⟩));have hr':r∈st.rs:=by rw [hst2] at hr;simpa [upd] using hr
   have hb:e'.b=h.t:=by
    rcases xZP.1 he' with rfl|he'
    ·rw [hst2];simpa [upd] using I2
    ·exact I3 e' (by rw [hst2] at he';simpa [upd] using he')
   rw [hfs];show jQ E.P E.tb E.xt call r.o r.tm {t:=e'.b,n:=r.n}=_;rw [hb];exact I4 r hr' call
  obtain ⟨n1,s1⟩:=pZ htb r1 hs (xZI hmx) hrun hchk;have e1:({t:=ovl (fun f=> !bt st2.mj f) st2.fs st2.b,n:=st2.n}:Hp)=h1:=by
   rw [hfs];have eb:st2.b=h.t:=by rw [hst2];simpa [upd] using I2
   have en:st2.n=st.n:=by rw [hst2];rfl
   rw [eb,en];exact heta
  have etm:st2.tm=xU st.tm z.dst default:=by rw [hst2];rfl
  have en:st2.n=h1.n:=by rw [hst2,<-r5];rfl
  rw [e1,etm] at s1;rw [en] at n1 s1;exact ⟨_,_,⟨n1,s1⟩,hq⟩
 |true=>
  rw [haw] at hz;simp only [cond_true] at hz;unfold jG at hic;split at hic
  ·rename_i q hq;split at hic
   ·rename_i f hf;unfold WOp at hz;simp only [hq,calK,hf] at hz;obtain ⟨res,h2,hcs,hk⟩:=hz;cases res with
    |pan v=>exact hk.elim
    |ret v=>
     have hk:=hput (show putK nt st.tm z.dst v (fun tm'=>Q tm' h2) from hk);have hkd:q8 z.op= .eff:=by simp [hq,q8,hf]
     have hsd:jS E.P E.xt (jX (qE st.tm f) (q.args.toList.map (qE st.tm)) h1 (.ret v) h2 call):=by
      intro fv a k r k' he;unfold jX at he;split at he
      ·rename_i hq;obtain ⟨rfl,rfl,rfl⟩:=hq;cases he;exact hcs
      ·exact r1 _ _ _ _ _ he
     have r3':=vF (call':=jX (qE st.tm f) (q.args.toList.map (qE st.tm)) h1 (.ret v) h2 call) r1 l s.ms _ _ (fun fv a k r _ hr=>by
      unfold jX;rw [if_neg (fun hq=>by have:=(r2.1 _ _ _ _ hr).2;rw [hq.2.2] at this;omega)];exact hr) r3
     have hch':(Nat.beq st.ne 0 || bt mz st.dl)=true:=by
      rcases I5 with h1|h1
      ·rw [h1];rfl
      ·rw [h1.2];simp
     have hev:jQ E.P E.tb E.xt (jX (qE st.tm f) (q.args.toList.map (qE st.tm)) h1 (.ret v) h2 call) z st.tm h1=some (.ok v h2):=by
      simp [jQ,hq,vC,hf,jX,uO]
     have hd:jJ E.P E.tb E.xt (jX (qE st.tm f) (q.args.toList.map (qE st.tm)) h1 (.ret v) h2 call) ops z mz st=some (upd z mz st v h2 .eff):=by
      unfold jJ zT;rw [haw,hkd];simp only [cond_true];rw [hch'];simp only [cond_true];rw [hov,hev]
     have hrun:yP E.P E.tb E.xt (jX (qE st.tm f) (q.args.toList.map (qE st.tm)) h1 (.ret v) h2 call) ops ops.toList s.ms {i:=0,tm:=tm,n:=h.n,b:=h.t,mj:=0,dl:=0,ne:=0,fs:=[],bs:=[],rs:=[]}=some (upd z mz st v h2 .eff):=by
      rw [hol,xB _ _ _ _ _ r3',hm,jA,hd];rfl
     obtain ⟨st2,hst2⟩: ∃st2,st2=upd z mz st v h2 .eff:=⟨_,rfl⟩;rw [<-hst2] at hrun;have hfs:st2.fs=[]:=by rw [hst2];simp [upd,I1]
     have hchk:DChk E.P E.tb E.xt (jX (qE st.tm f) (q.args.toList.map (qE st.tm)) h1 (.ret v) h2 call) st2 ops.size:=by
      intro r hr e' he';have hr':r∈st.rs:=by rw [hst2] at hr;simpa [upd] using hr
      rcases xZP.1 he' with rfl|he'
      ·refine .inr (.inr (.inl ?_));have:st2.mj=mz:=by rw [hst2];rfl
       show bt st2.mj r.i=true;rw [this];exact (I00 r hr').2
      ·refine .inr (.inr (.inr ⟨{t:=h.t,n:=r.n},?_⟩));have hb:e'.b=h.t:=by
        rw [hst2] at he';simp only [upd,xZP] at he';rcases he' with rfl|he'
        ·exact I2
        ·exact I3 e' he'
       rw [hfs];show jQ E.P E.tb E.xt _ r.o r.tm {t:=e'.b,n:=r.n}=_;rw [hb];exact I4 r hr' _
     obtain ⟨n1,s1⟩:=pZ htb hsd hs (xZI hmx) hrun hchk;have e1:({t:=ovl (fun f=> !bt st2.mj f) st2.fs st2.b,n:=st2.n}:Hp)=h2:=by
      rw [hfs,hst2];rfl
     have etm:st2.tm=xU st.tm z.dst v:=by rw [hst2];rfl
     have en:st2.n=h2.n:=by rw [hst2];rfl
     rw [e1,etm] at s1;rw [en] at n1 s1;exact ⟨_,_,⟨n1,s1⟩,hk⟩
   ·cases hic
  ·cases hic
structure RdE where
 i:Nat
 o:Oper
 tm:T AV
 n:Nat
 v:AV
def isSt:Op->Bool
 | .store _ _ _=>true
 | .call q=>match q.callee with
  | .builtin .append=>true
  |_=>false
 |_=>false
def zS (o:Op):Bool:=isSt o || jG o
abbrev SRd:=Nat×Nat×Nat
abbrev SVe:=Nat×Nat×Nat
def qA6 (AL:List Nat) (N:Nat):List Oper->List Nat->Nat->Nat->Nat->Nat->List SRd->List SVe->Option (List SRd×List SVe)
 |[],_,_,ne,mj,_,SR,SV=>some (SR,(ne,mj,N)::SV)
 |_::_,[],_,_,_,_,_,_=>none
 |o::ol,m::ms,i,ne,mj,dl,SR,SV=>
  bif calm o.op then
   (match q8 o.op with
   | .read=>bif AL.all (bt m) then qA6 AL N ol ms (i+1) ne mj dl ((i,m,ne)::SR) SV else none
   |_=>qA6 AL N ol ms (i+1) ne mj dl SR SV)
  else bif zS o.op && (Nat.beq ne 0 || bt m dl) && AL.all (bt m) && (match o.guard with|none=>true|some _=>false) then qA6 AL N ol ms (i+1) (ne+1) m i SR ((ne,mj,i)::SV) else none
def ordd (P:List (Nat×Nat)) (r:SRd) (e:SVe):Bool:=Nat.beq e.1 r.2.2 || (bt r.2.1 e.2.2 || (bt e.2.1 r.1 || P.any fun p=>Nat.beq p.1 r.1 && Nat.beq p.2 e.1))
def isAl (nt:Nat) (o:Oper):Bool:=
 match o.op,o.dst,o.guard with
 | .alloc _,some d,none=>Nat.blt d nt
 |_,_,_=>false
section
variable {E:Env} {nt:Nat} {ops:Array Oper}
def qBz (st rd cl:Bool) (nt i ne:Nat) (o:Oper) (tm:T AV) (h:Hp) (R:List RdE) (V:List (Nat×T AO)) (N:Nat->T AV->Hp->List RdE->List (Nat×T AO)->Prop):OR->Prop
 | .pan _ _=>False
 | .ok v h'=>bif st then (h.n<=h'.n/\(cl=true->h.n<h'.n))/\putK nt tm o.dst v (fun tm'=>N (ne+1) tm' h' R ((ne+1,h'.t)::V))
  else h'=h/\putK nt tm o.dst v (fun tm'=>N ne tm' h (bif rd then ⟨i,o,tm,h.n,v⟩::R else R) V)
def zQ (o:Op):Bool:=
 match q8 o with
 | .read=>true
 |_=>false
def WOW (E:Env) (nt:Nat) (ops:Array Oper):List Oper->Nat->Nat->T AV->Hp->List RdE->List (Nat×T AO)->(T AV->Hp->List RdE->List (Nat×T AO)->Prop)->Prop
 |[],_,_,tm,h,R,V,Q=>Q tm h R V
 |o::ol,i,ne,tm,h,R,V,Q=>jO nt ops o=true/\bif qP ops o tm then WOp E o tm h (qBz (zS o.op) (zQ o.op) (jG o.op) nt i ne o tm h R V (fun ne' tm' h' R' V'=>WOW E nt ops ol (i+1) ne' tm' h' R' V' Q)) else putK nt tm o.dst default (fun tm'=>WOW E nt ops ol (i+1) ne tm' h R V Q)
def WOA (E:Env):List Oper->T AV->Nat->List AO->(T AV->List AO->Prop)->Prop
 |[],tm,_,os,Q=>Q tm os
 |o::ol,tm,n,os,Q=>match o.op,o.dst with
  | .alloc e,some d=> ∃te,E.tb.get e=some te/\WOA E ol (tm.put (some (.ptr n 0)) d) (n+1) (os++[.cells (te.zero.map .val) e]) Q
  |_,_=>False
def vK (t:T AO):Nat->List AO->T AO
 |_,[]=>t
 |n,o::os=>(vK t (n+1) os).put (some o) n
structure WInv (E:Env) (AL:List Nat) (h0:T AO) (HA:T AO) (FS:List FE) (i ne mj dl:Nat) (tm:T AV) (h:Hp) (R:List RdE) (V:List (Nat×T AO)) (SR:List SRd) (SV:List SVe) (st:DS):Prop where
 fi:st.i=i
 ftm:st.tm=tm
 fn:st.n=h.n
 fne:st.ne=ne
 fmj:st.mj=mj
 fdl:st.dl=dl\/ne=0
 ffs:st.fs=FS
 fz:ne=0->mj=0/\st.b=h0/\h.t=HA
 fs:0<ne->(∀f∈AL,bt mj f=true)/\st.b=h.t/\(ne,h.t)∈V
 frs: ∀r∈st.rs,(r.i,r.m,r.ne)∈SR/\(∃e∈R,e.i=r.i/\e.o=r.o/\e.tm=r.tm/\e.n=r.n/\e.v=r.v/\calm r.o.op=true)/\((∀f∈AL,bt r.m f=true)\/(r.ne=0/\ ∀f∈AL,bt r.m f=false))
 fbs: ∀e∈st.bs,(e.j,e.mj,e.nx)∈SV/\(e.j=0->e.b=h0/\e.mj=0)/\(0<e.j->(e.j,e.b)∈V/\ ∀f∈AL,bt e.mj f=true)
 fv:(0,HA)∈V
theorem gM {P:Program} {tb:T TE} {xt:Xt} {o:Oper} {tm:T AV} {h:Hp} (hs:isSt o.op=true) (call:jE):jQ P tb xt call o tm h=bH (aop P tb xt (qE tm) o.op h):=by
 cases hop:o.op with
 |store _ _ _=>simp only [jQ,hop]
 |call q=>
  rw [hop] at hs;simp only [isSt] at hs;split at hs
  ·rename_i hc;simp only [jQ,hop,vC,hc]
  ·cases hs
 |_=>rw [hop] at hs;cases hs
theorem qAf {op:Op} (h:calm op=true):zS op=false:=by
 cases op<;>first|rfl|(cases h;done)|skip
 rename_i q;simp only [calm] at h;unfold zS isSt jG;cases hc:q.callee with
 |builtin b=>cases b<;>first|(simp only [hc];rfl)|(rw [hc] at h;simp at h)
 |_=>first|(simp only [hc];rfl)|(rw [hc] at h;simp at h)
theorem wD {op:Op} (h:isSt op=true):q8 op= .eff:=by
 cases op<;>first|rfl|(cases h;done)|skip
 rename_i q;simp only [isSt] at h;split at h
 ·rename_i hc;simp only [q8,hc]
 ·cases h
theorem pA (f:Nat):bt 0 f=false:=by rw [xC];simp
theorem pM {AL:List Nat} {h0 HA:T AO} {FS:List FE} {N:Nat} (hall: ∀q:Nat->Bool,(∀f∈AL,q f=true)->ovl q FS h0=HA) (hno: ∀(q:Nat->Bool) (b:T AO),(∀f∈AL,q f=false)->ovl q FS b=b) {Q:T AV->Hp->List RdE->List (Nat×T AO)->Prop} {SRz:List SRd} {SVz:List SVe}:
  ∀(ol:List Oper) (ms:List Nat) (i ne mj dl:Nat) (tm:T AV) (h:Hp) (R:List RdE) (V:List (Nat×T AO)) (SR:List SRd) (SV:List SVe) (st:DS),WOW E nt ops ol i ne tm h R V Q->qA6 AL N ol ms i ne mj dl SR SV=some (SRz,SVz)->WInv E AL h0 HA FS i ne mj dl tm h R V SR SV st->
  ∃call st' ne' mj' dl' tm' h' R' V' SV',jS E.P E.xt call/\((∀fv args k r,call fv args k=some r->h.n<=k.n/\k.n<h'.n)/\h.n<=h'.n)/\yP E.P E.tb E.xt call ops ol ms st=some st'/\WInv E AL h0 HA FS (i+ol.length) ne' mj' dl' tm' h' R' V' SRz SV' st'/\SVz=(ne',mj',N)::SV'/\Q tm' h' R' V'
 |[],ms,i,ne,mj,dl,tm,h,R,V,SR,SV,st,hw,hc,I=>by
  simp only [qA6,Option.some.injEq,Prod.mk.injEq] at hc;obtain ⟨rfl,rfl⟩:=hc;exact ⟨qAA,st,ne,mj,dl,tm,h,R,V,SV,yZ _ _,⟨fun _ _ _ _ hx=>(by cases hx),xZY _⟩,rfl,I,rfl,hw⟩
 |o::ol,[],i,ne,mj,dl,tm,h,R,V,SR,SV,st,hw,hc,I=>by simp [qA6] at hc
 |o::ol,m::ms,i,ne,mj,dl,tm,h,R,V,SR,SV,st,hw,hc,I=>by
  simp only [WOW] at hw;obtain ⟨_,hw⟩:=hw;have hput: ∀{v:AV} {N:T AV->Prop},putK nt tm o.dst v N->N (xU tm o.dst v):=fun {v N} hp=>by
   unfold putK at hp;unfold xU;split at hp
   ·rename_i hd;rw [hd];exact hp
   ·rename_i d hd;rw [hd];exact hp.2
  have hlen:i+(o::ol).length=(i+1)+ol.length:=by simp;omega
  rw [hlen];simp only [qA6] at hc;cases haw:qP ops o tm with
  |false=>
   rw [haw] at hw;simp only [cond_false] at hw;have hw:=hput hw;have hd: ∀call,jJ E.P E.tb E.xt call ops o m st=some (upd o m st default {t:= .e,n:=st.n} .new):=fun call=>by
    unfold jJ zT;rw [I.ftm,haw];rfl
   have hcal:calm o.op=true:=by
    cases hcal:calm o.op with
    |true=>rfl
    |false=>
     rw [hcal] at hc;simp only [cond_false] at hc;obtain ⟨h1,_⟩:=qU hc;simp only [xZW] at h1;have h2:=h1.2;split at h2
     ·rename_i hg;unfold qP at haw;rw [hg] at haw;cases haw
     ·cases h2
   rw [hcal] at hc;simp only [cond_true] at hc;obtain ⟨SR2,hc2,hsub⟩: ∃SR2,qA6 AL N ol ms (i+1) ne mj dl SR2 SV=some (SRz,SVz)/\ ∀x∈SR,x∈SR2:=by
    split at hc
    ·obtain ⟨_,hc⟩:=qU hc;exact ⟨_,hc,fun x hx=>xZZ _ hx⟩
    ·exact ⟨_,hc,fun x hx=>hx⟩
   obtain ⟨call,st',ne',mj',dl',tm',h',R',V',SV',c1,c2,r1,r2⟩:=pM hall hno ol ms (i+1) ne mj dl _ h R V SR2 SV (upd o m st default {t:= .e,n:=st.n} .new) hw hc2
    ⟨by simp [upd,I.fi],by simp [upd,I.ftm],by simp [upd,I.fn],by simp [upd,I.fne],by simp [upd,I.fmj],by simpa [upd] using I.fdl,by simp [upd,I.ffs],fun hz=>by simpa [upd] using I.fz hz,fun hz=>by simpa [upd] using I.fs hz,fun r hr=>by have:=I.frs r (by simpa [upd] using hr);exact ⟨hsub _ this.1,this.2⟩,fun e he=>I.fbs e (by simpa [upd] using he),I.fv⟩
   exact ⟨call,st',ne',mj',dl',tm',h',R',V',SV',c1,c2,by rw [jA,hd];exact r1,r2⟩
  |true=>
   rw [haw] at hw;simp only [cond_true] at hw;cases hcal:calm o.op with
   |true=>
    rw [hcal] at hc;simp only [cond_true] at hc;obtain ⟨call0,res,_,hop,hk⟩:=hw.ev;rw [j7 rfl hcal] at hop;cases ha:aop E.P E.tb E.xt (qE tm) o.op h with
    |none=>rw [ha] at hop;cases hop
    |some p=>
     obtain ⟨v,h1⟩:=p;rw [ha] at hop;simp only [bH,Option.some.injEq] at hop;subst hop;simp only [qBz,qAf hcal,cond_false] at hk;obtain ⟨rfl,hk⟩:=hk;have hk:=hput hk;rcases gZ hcal with hkd|hkd
     ·obtain ⟨_,e2⟩:=qAW hcal hkd ha;rw [hkd] at hc;simp only at hc;have hrd:zQ o.op=false:=by unfold zQ;rw [hkd]
      rw [hrd] at hk;simp only [cond_false] at hk;have hd: ∀call,jJ E.P E.tb E.xt call ops o m st=some (upd o m st v {t:= .e,n:=st.n} .new):=fun call=>by
       unfold jJ zT;rw [I.ftm,haw,hkd];simp only [cond_true];rw [j7 rfl hcal,e2];rfl
      obtain ⟨call,st',ne',mj',dl',tm',h',R',V',SV',c1,c2,r1,r2⟩:=pM hall hno ol ms (i+1) ne mj dl _ h1 R V SR SV (upd o m st v {t:= .e,n:=st.n} .new) hk hc
       ⟨by simp [upd,I.fi],by simp [upd,I.ftm],by simp [upd,I.fn],by simp [upd,I.fne],by simp [upd,I.fmj],by simpa [upd] using I.fdl,by simp [upd,I.ffs],fun hz=>by simpa [upd] using I.fz hz,fun hz=>by simpa [upd] using I.fs hz,fun r hr=>I.frs r (by simpa [upd] using hr),fun e he=>I.fbs e (by simpa [upd] using he),I.fv⟩
      exact ⟨call,st',ne',mj',dl',tm',h',R',V',SV',c1,c2,by rw [jA,hd];exact r1,r2⟩
     ·rw [hkd] at hc;simp only at hc;obtain ⟨hal,hc⟩:=qU hc;have hal:=xZT.1 hal;have hrd:zQ o.op=true:=by unfold zQ;rw [hkd]
      rw [hrd] at hk;simp only [cond_true] at hk;have hov:({t:=ovl (fun f=>bt m f && !bt st.mj f) st.fs st.b,n:=st.n}:Hp)=h1:=by
       have:ovl (fun f=>bt m f && !bt st.mj f) st.fs st.b=h1.t:=by
        rw [I.ffs];rcases xZF ne with hz|hz
        ·obtain ⟨z1,z2,z3⟩:=I.fz hz;rw [z2,z3];exact hall _ fun f hf=>by rw [I.fmj,z1,hal f hf,pA];rfl
        ·obtain ⟨z1,z2,_⟩:=I.fs hz;rw [z2];exact hno _ _ fun f hf=>by rw [I.fmj,z1 f hf];simp
       rw [this,I.fn]
      have hd: ∀call,jJ E.P E.tb E.xt call ops o m st=some (upd o m st v h1 .read):=fun call=>by
       unfold jJ zT;rw [I.ftm,haw,hkd];simp only [cond_true];rw [hov,j7 rfl hcal,ha];rfl
      obtain ⟨call,st',ne',mj',dl',tm',h',R',V',SV',c1,c2,r1,r2⟩:=pM hall hno ol ms (i+1) ne mj dl _ h1 _ V ((i,m,ne)::SR) SV (upd o m st v h1 .read) hk hc
       ⟨by simp [upd,I.fi],by simp [upd,I.ftm],by simp [upd,I.fn],by simp [upd,I.fne],by simp [upd,I.fmj],by simpa [upd] using I.fdl,by simp [upd,I.ffs],fun hz=>by simpa [upd] using I.fz hz,fun hz=>by simpa [upd] using I.fs hz,fun r hr=>by
        simp only [upd,xZP] at hr;rcases hr with rfl|hr
        ·exact ⟨by simp [I.fi,I.fne],⟨_,xZV,by simp [I.fi,I.ftm,I.fn,hcal]⟩,.inl hal⟩
        ·obtain ⟨q1,⟨e,q2,q3⟩,q4⟩:=I.frs r hr;exact ⟨xZZ _ q1,⟨e,xZZ _ q2,q3⟩,q4⟩,fun e he=>I.fbs e (by simpa [upd] using he),I.fv⟩
      exact ⟨call,st',ne',mj',dl',tm',h',R',V',SV',c1,c2,by rw [jA,hd];exact r1,r2⟩
   |false=>
    rw [hcal] at hc;simp only [cond_false] at hc;obtain ⟨hg,hc⟩:=qU hc;simp only [xZW] at hg;obtain ⟨⟨⟨hst,hch⟩,hal⟩,_⟩:=hg;have hal:=xZT.1 hal;have hov:({t:=ovl (fun f=>bt m f && !bt st.mj f) st.fs st.b,n:=st.n}:Hp)=h:=by
     have:ovl (fun f=>bt m f && !bt st.mj f) st.fs st.b=h.t:=by
      rw [I.ffs];rcases xZF ne with hz|hz
      ·obtain ⟨z1,z2,z3⟩:=I.fz hz;rw [z2,z3];exact hall _ fun f hf=>by rw [I.fmj,z1,hal f hf,pA];rfl
      ·obtain ⟨z1,z2,_⟩:=I.fs hz;rw [z2];exact hno _ _ fun f hf=>by rw [I.fmj,z1 f hf];simp
     rw [this,I.fn]
    have hch2:(Nat.beq st.ne 0 || bt m st.dl)=true:=by
     rw [I.fne];rcases I.fdl with hdl|hdl
     ·rw [hdl];exact hch
     ·rw [hdl];rfl
    have next: ∀(v:AV) (h1:Hp),q8 o.op= .eff->WOW E nt ops ol (i+1) (ne+1) (xU tm o.dst v) h1 R ((ne+1,h1.t)::V) Q->h.n<=h1.n-> ∃call st' ne' mj' dl' tm' h' R' V' SV',jS E.P E.xt call/\((∀fv args k r,call fv args k=some r->h1.n<=k.n/\k.n<h'.n)/\h1.n<=h'.n)/\yP E.P E.tb E.xt call ops ol ms (upd o m st v h1 .eff)=some st'/\WInv E AL h0 HA FS (i+1+ol.length) ne' mj' dl' tm' h' R' V' SRz SV' st'/\SVz=(ne',mj',N)::SV'/\Q tm' h' R' V':=fun v h1 hke hk hle=>by
     exact pM hall hno ol ms (i+1) (ne+1) m i _ h1 R _ SR ((ne,mj,i)::SV) (upd o m st v h1 .eff) hk hc
      ⟨by simp [upd,I.fi],by simp [upd,I.ftm],by simp [upd],by simp [upd,I.fne],by simp [upd],.inl (by simp [upd,I.fi]),by simp [upd,I.ffs],fun hz=>by omega,fun hz=>⟨hal,by simp [upd],xZV⟩,fun r hr=>I.frs r (by simpa [upd] using hr),fun e he=>by
       simp only [upd,xZP] at he;rcases he with rfl|he
       ·refine ⟨by simp [I.fne,I.fmj,I.fi],fun hz=> ?_,fun hz=> ?_⟩
        ·simp only [I.fne] at hz;obtain ⟨z1,z2,z3⟩:=I.fz hz;exact ⟨z2,by simp [I.fmj,z1]⟩
        ·simp only [I.fne] at hz;obtain ⟨z1,z2,z3⟩:=I.fs hz;refine ⟨xZZ _ ?_,by simpa [I.fmj] using z1⟩;simp only [I.fne,z2];exact z3
       ·obtain ⟨q1,q2,q3⟩:=I.fbs e he;exact ⟨xZZ _ q1,q2,fun hz=>⟨xZZ _ (q3 hz).1,(q3 hz).2⟩⟩,xZZ _ I.fv⟩
    cases hso:isSt o.op with
    |true=>
     obtain ⟨call0,res,_,hop,hk⟩:=hw.ev;rw [gM hso] at hop;cases ha:aop E.P E.tb E.xt (qE tm) o.op h with
     |none=>rw [ha] at hop;cases hop
     |some p=>
      obtain ⟨v,h1⟩:=p;rw [ha] at hop;simp only [bH,Option.some.injEq] at hop;subst hop;simp only [qBz,hst,cond_true] at hk;obtain ⟨⟨hn1,_⟩,hk⟩:=hk;have hk:=hput hk;obtain ⟨call,st',ne',mj',dl',tm',h',R',V',SV',c1,c2,r1,r2⟩:=next v h1 (wD hso) hk hn1;have hd:jJ E.P E.tb E.xt call ops o m st=some (upd o m st v h1 .eff):=by
       unfold jJ zT;rw [I.ftm,haw,wD hso];simp only [cond_true];rw [hch2];simp only [cond_true];rw [hov,gM hso,ha];rfl
      exact ⟨call,st',ne',mj',dl',tm',h',R',V',SV',c1,⟨fun fv args k r hr=>by have:=c2.1 fv args k r hr;omega,by have:=c2.2;omega⟩,by rw [jA,hd];exact r1,r2⟩
    |false=>
     have hcl:jG o.op=true:=by
      unfold zS at hst;rw [hso] at hst;simpa using hst
     have hcl2:=hcl;unfold jG at hcl2;split at hcl2
     ·rename_i q hq;split at hcl2
      ·rename_i f hf;unfold WOp at hw;simp only [hq,calK,hf] at hw;obtain ⟨res,h1,hcs,hk⟩:=hw;rw [<-hq] at hk;cases res with
       |pan v=>exact hk.elim
       |ret v=>
        simp only [resK,qBz,hst,cond_true] at hk;obtain ⟨⟨hn1,hlt⟩,hk⟩:=hk;have hlt:=hlt hcl;have hk:=hput hk;have hkd:q8 o.op= .eff:=by simp [hq,q8,hf]
        obtain ⟨call,st',ne',mj',dl',tm',h',R',V',SV',c1,c2,r1,r2⟩:=next v h1 hkd hk hn1;have hsd:jS E.P E.xt (jX (qE tm f) (q.args.toList.map (qE tm)) h (.ret v) h1 call):=by
         intro fv a k r k' he;unfold jX at he;split at he
         ·rename_i hq;obtain ⟨rfl,rfl,rfl⟩:=hq;cases he;exact hcs
         ·exact c1 _ _ _ _ _ he
        have hev:jQ E.P E.tb E.xt (jX (qE tm f) (q.args.toList.map (qE tm)) h (.ret v) h1 call) o tm h=some (.ok v h1):=by
         simp [jQ,hq,vC,hf,jX,uO]
        have hd:jJ E.P E.tb E.xt (jX (qE tm f) (q.args.toList.map (qE tm)) h (.ret v) h1 call) ops o m st=some (upd o m st v h1 .eff):=by
         unfold jJ zT;rw [I.ftm,haw,hkd];simp only [cond_true];rw [hch2];simp only [cond_true];rw [hov,hev]
        refine ⟨jX (qE tm f) (q.args.toList.map (qE tm)) h (.ret v) h1 call,st',ne',mj',dl',tm',h',R',V',SV',hsd,⟨fun fv a k r he=> ?_,by have:=c2.2;omega⟩,?_,r2⟩
        ·unfold jX at he;split at he
         ·rename_i hq;rw [hq.2.2];have:=c2.2;omega
         ·have:=c2.1 _ _ _ _ he;omega
        ·rw [jA,hd];simp only;refine vF c1 ol ms _ _ (fun fv a k r hk hr=> ?_) r1;unfold jX;rw [if_neg (fun hq=> ?_)]
         ·exact hr
         ·simp only [upd] at hk;rw [hq.2.2] at hk;omega
      ·cases hcl2
     ·cases hcl2
theorem yI {v:AV} {tm:T AV} {dst:Option Tmp} {N N':T AV->Prop} (hp:putK nt tm dst v N) (hn: ∀t,N t->N' t):putK nt tm dst v N':=by
 unfold putK at hp ⊢;split at hp
 ·exact hn _ hp
 ·exact ⟨hp.1,hn _ hp.2⟩
theorem qAi {ops':Array Oper}: ∀(ol:List Oper) (i ne:Nat) (tm:T AV) (h:Hp) (R:List RdE) (V:List (Nat×T AO)) (Q Q':T AV->Hp->List RdE->List (Nat×T AO)->Prop),(∀o∈ol,∀j w,o.guard=some (j,w)->ops'[j]? =ops[j]?)->(∀tm h R V,Q tm h R V->Q' tm h R V)->WOW E nt ops ol i ne tm h R V Q->WOW E nt ops' ol i ne tm h R V Q'
 |[],i,ne,tm,h,R,V,Q,Q',_,hq,hw=>hq _ _ _ _ hw
 |o::ol,i,ne,tm,h,R,V,Q,Q',hg,hq,hw=>by
  simp only [WOW] at hw ⊢;have hgo:=hg o xZV;have hrec:=fun ne tm h R V=>qAi ol (i+1) ne tm h R V Q Q' (fun o' ho'=>hg o' (xZZ _ ho')) hq;have e1:jO nt ops' o=jO nt ops o:=by
   unfold jO;split
   ·rfl
   ·rename_i j w hgg;rw [hgo j w hgg]
  have e2:qP ops' o tm=qP ops o tm:=by
   unfold qP;split
   ·rfl
   ·rename_i j w hgg;rw [hgo j w hgg]
  rw [e1,e2];refine ⟨hw.1,?_⟩;have hw:=hw.2;cases haw:qP ops o tm with
  |false=>
   rw [haw] at hw;simp only [cond_false] at hw ⊢;exact yI hw fun t ht=>hrec _ _ _ _ _ ht
  |true=>
   rw [haw] at hw;refine WOp.mono hw fun r hr=> ?_;cases r with
   |pan v h'=>exact hr
   |ok v h'=>
    simp only [qBz] at hr ⊢;cases hso:zS o.op with
    |true=>
     rw [hso] at hr;simp only [cond_true] at hr ⊢;exact ⟨hr.1,yI hr.2 fun t ht=>hrec _ _ _ _ _ ht⟩
    |false=>
     rw [hso] at hr;simp only [cond_false] at hr ⊢;exact ⟨hr.1,yI hr.2 fun t ht=>hrec _ _ _ _ _ ht⟩
def feL:Nat->Nat->List AO->List FE
 |_,_,[]=>[]
 |i,n,o::os=>feL (i+1) (n+1) os++[{f:=i,s:=n,cnt:=1,os:=T.put .e (some o) n}]
theorem wT (q:Nat->Bool): ∀(A B:List FE) (b:T AO),ovl q (A++B) b=ovl q B (ovl q A b)
 |[],B,b=>rfl
 |e::A,B,b=>by
  simp only [xXV,ovl];cases q e.f
  ·simp only [cond_false];exact wT q A B b
  ·simp only [cond_true];exact wT q A B _
theorem qB7 (q:Nat->Bool) (b:T AO): ∀(os:List AO) (i n:Nat),(∀f,i<=f->f<i+os.length->q f=true)->ovl q (feL i n os) b=vK b n os
 |[],i,n,_=>rfl
 |o::os,i,n,h=>by
  simp only [feL,wT,vK];rw [qB7 q b os (i+1) (n+1) (fun f h1 h2=>h f (by omega) (by simp only [xZE];omega))];simp only [ovl,h i (xZY _) (by simp),cond_true,mrg,T.get_put,if_true]
theorem qEO (q:Nat->Bool) (b:T AO): ∀(os:List AO) (i n:Nat),(∀f,i<=f->f<i+os.length->q f=false)->ovl q (feL i n os) b=b
 |[],i,n,_=>rfl
 |o::os,i,n,h=>by
  simp only [feL,wT];rw [qEO q b os (i+1) (n+1) (fun f h1 h2=>h f (by omega) (by simp only [xZE];omega))];simp only [ovl,h i (xZY _) (by simp),cond_false]
theorem qFd {call:jE} {Q:T AV->List AO->Prop}: ∀(ol:List Oper) (ms:List Nat) (tm:T AV) (n:Nat) (os:List AO) (st:DS),WOA E ol tm n os Q->ol.all (isAl nt)=true->ol.length<=ms.length->st.tm=tm->st.n=n->
  ∃st' os' tm',yP E.P E.tb E.xt call ops ol ms st=some st'/\st'={st with i:=st.i+ol.length,tm:=tm',n:=n+ol.length,fs:=feL st.i n os'++st.fs}/\os'.length=ol.length/\Q tm' (os++os')
 |[],ms,tm,n,os,st,hw,_,_,htm,hn=>by
  refine ⟨st,[],tm,rfl,?_,rfl,by rw [List.append_nil];exact hw⟩;subst htm hn;simp [feL]
 |o::ol,[],tm,n,os,st,_,_,hl,_,_=>by simp at hl
 |o::ol,m::ms,tm,n,os,st,hw,ha,hl,htm,hn=>by
  simp only [List.all_cons,xZW] at ha;obtain ⟨ha1,ha2⟩:=ha;obtain ⟨dst,op,ty,ps,af,g⟩:=o;simp only [isAl] at ha1;split at ha1
  ·rename_i e d;simp only [WOA] at hw;obtain ⟨te,hte,hw⟩:=hw;subst htm hn;have hb:Nat.beq (st.n+1) st.n=false:=by
    cases hq:Nat.beq (st.n+1) st.n with
    |false=>rfl
    |true=>have:=xZX hq;omega
   have hd:jJ E.P E.tb E.xt call ops ⟨some d,.alloc e,ty,ps,af,none⟩ m st=some {st with i:=st.i+1,tm:=st.tm.put (some (.ptr st.n 0)) d,n:=st.n+1,fs:={f:=st.i,s:=st.n,cnt:=1,os:=T.put .e (some (.cells (te.zero.map .val) e)) st.n}::st.fs}:=by
    have hev:jQ E.P E.tb E.xt call ⟨some d,.alloc e,ty,ps,af,none⟩ st.tm {t:= .e,n:=st.n}=some (.ok (.ptr st.n 0) (({t:= .e,n:=st.n}:Hp).new (.cells (te.zero.map .val) e))):=by
     simp [jQ,bH,aop,jP,hte]
    unfold jJ zT;have haw:qP ops ⟨some d,.alloc e,ty,ps,af,none⟩ st.tm=true:=rfl;rw [haw];simp only [cond_true,q8];rw [hev];simp [upd,Hp.new,hb,xU]
   obtain ⟨st',os',tm',r1,r2,r3,r4⟩:=qFd ol ms _ (st.n+1) _ {st with i:=st.i+1,tm:=st.tm.put (some (.ptr st.n 0)) d,n:=st.n+1,fs:={f:=st.i,s:=st.n,cnt:=1,os:=T.put .e (some (.cells (te.zero.map .val) e)) st.n}::st.fs} hw ha2 (by simpa using hl) rfl rfl;refine ⟨st',.cells (te.zero.map .val) e::os',tm',by rw [jA,hd];exact r1,?_,by simp [r3],by simpa using r4⟩;rw [r2];simp only [feL,xYO,List.singleton_append,xZE]
   congr 1<;>omega
  ·cases ha1
end
section
variable {E:Env} {nt:Nat} {ops:Array Oper} {r:Option Nat} {mks:List Nat}
def qBT (E:Env) (P:List (Nat×Nat)) (R:List RdE) (V:List (Nat×T AO)):Prop:= ∀r∈R,∀e∈V,(P.any fun p=>Nat.beq p.1 r.i && Nat.beq p.2 e.1)=true->aop E.P E.tb E.xt (qE r.tm) r.o.op {t:=e.2,n:=r.n}=some (r.v,{t:=e.2,n:=r.n})
end
section
variable {E:Env} {nt:Nat} {ops:Array Oper} {o:Oper} {ol:List Oper} {tm:T AV} {h h':Hp} {i ne:Nat} {R:List RdE} {V:List (Nat×T AO)} {Q:T AV->Hp->List RdE->List (Nat×T AO)->Prop} {dst:Option Tmp} {ty:TypeId} {ps:String} {af:Array Edge} {g:Option (Nat×Bool)}
def WOWn (st rd cl:Bool) (E:Env) (nt:Nat) (ops:Array Oper) (ol:List Oper) (i ne:Nat) (o:Oper) (tm:T AV) (h:Hp) (R:List RdE) (V:List (Nat×T AO)) (Q:T AV->Hp->List RdE->List (Nat×T AO)->Prop):OR->Prop:=qBz st rd cl nt i ne o tm h R V (fun ne' tm' h' R' V'=>WOW E nt ops ol (i+1) ne' tm' h' R' V' Q)
def gateW (gd wt:Bool) (E:Env) (nt:Nat) (ops:Array Oper) (o:Oper) (ol:List Oper) (i ne:Nat) (tm:T AV) (h:Hp) (R:List RdE) (V:List (Nat×T AO)) (Q:T AV->Hp->List RdE->List (Nat×T AO)->Prop):Prop:=
 gd=true/\bif wt then WOp E o tm h (WOWn (zS o.op) (zQ o.op) (jG o.op) E nt ops ol i ne o tm h R V Q) else putK nt tm o.dst default (fun tm'=>WOW E nt ops ol (i+1) ne tm' h R V Q)
theorem WOW_nil:WOW E nt ops [] i ne tm h R V Q=Q tm h R V:=rfl
theorem WOW_cons:WOW E nt ops (o::ol) i ne tm h R V Q=gateW (jO nt ops o) (qP ops o tm) E nt ops o ol i ne tm h R V Q:=rfl
theorem gateW_t:gateW true true E nt ops o ol i ne tm h R V Q=WOp E o tm h (WOWn (zS o.op) (zQ o.op) (jG o.op) E nt ops ol i ne o tm h R V Q):=by simp [gateW]
theorem gateW_fs {d:Tmp} {op:Op}:gateW true false E nt ops ⟨some d,op,ty,ps,af,g⟩ ol i ne tm h R V Q=(d<nt/\WOW E nt ops ol (i+1) ne (tm.put (some default) d) h R V Q):=by simp [gateW,putK]
theorem WOWn_c {d:Tmp} {v:AV} {op:Op}:WOWn false false false E nt ops ol i ne ⟨some d,op,ty,ps,af,g⟩ tm h R V Q (.ok v h)=(d<nt/\WOW E nt ops ol (i+1) ne (tm.put (some v) d) h R V Q):=by simp [WOWn,qBz,putK]
theorem WOWn_r {d:Tmp} {v:AV} {op:Op}:WOWn false true false E nt ops ol i ne ⟨some d,op,ty,ps,af,g⟩ tm h R V Q (.ok v h)=(d<nt/\WOW E nt ops ol (i+1) ne (tm.put (some v) d) h (⟨i,⟨some d,op,ty,ps,af,g⟩,tm,h.n,v⟩::R) V Q):=by simp [WOWn,qBz,putK]
theorem WOWn_s {v:AV} {op:Op} {b:Nat} {o':AO}:WOWn true false false E nt ops ol i ne ⟨none,op,ty,ps,af,g⟩ tm h R V Q (.ok v (h.set b o'))=WOW E nt ops ol (i+1) (ne+1) tm (h.set b o') R ((ne+1,(h.set b o').t)::V) Q:=by
 have e:(h.set b o').n=h.n:=rfl;simp [WOWn,qBz,putK,e]
theorem WOWn_k {d:Tmp} {v:AV} {op:Op} (hn:h.n<h'.n):WOWn true false true E nt ops ol i ne ⟨some d,op,ty,ps,af,g⟩ tm h R V Q (.ok v h')=(d<nt/\WOW E nt ops ol (i+1) (ne+1) (tm.put (some v) d) h' R ((ne+1,h'.t)::V) Q):=by
 simp only [WOWn,qBz,putK,cond_true];exact propext ⟨fun hh=>hh.2,fun hh=>⟨⟨xZK hn,fun _=>hn⟩,hh⟩⟩
theorem qGB {t:TypeId} {x y:Operand}:zS (.store t x y)=true:=rfl
theorem qGw {t:TypeId} {x y:Operand}:zQ (.store t x y)=false:=rfl
theorem isEf_load {t:TypeId} {x:Operand}:zS (.load t x)=false:=rfl
theorem isRd_load {t:TypeId} {x:Operand}:zQ (.load t x)=true:=rfl
theorem isEf_move {x:Operand}:zS (.move x)=false:=rfl
theorem isRd_move {x:Operand}:zQ (.move x)=false:=rfl
theorem qFD {x:Operand}:zS (.assign x)=false:=rfl
theorem qFB {x:Operand}:zQ (.assign x)=false:=rfl
theorem isEf_pick {x y z:Operand}:zS (.pick x y z)=false:=rfl
theorem isRd_pick {x y z:Operand}:zQ (.pick x y z)=false:=rfl
theorem isEf_nc {x:Operand}:zS (.nilCheck x)=false:=rfl
theorem isRd_nc {x:Operand}:zQ (.nilCheck x)=false:=rfl
theorem isEf_bin {b:BinOp} {t t':TypeId} {x y:Operand}:zS (.binOp b t x y t')=false:=rfl
theorem isRd_bin {b:BinOp} {t t':TypeId} {x y:Operand}:zQ (.binOp b t x y t')=false:=rfl
theorem isEf_un {b:UnOp} {t:TypeId} {x:Operand}:zS (.unOp b t x)=false:=rfl
theorem isRd_un {b:UnOp} {t:TypeId} {x:Operand}:zQ (.unOp b t x)=false:=rfl
theorem isEf_fa {t:TypeId} {x:Operand} {f:Nat}:zS (.fieldAddr t x f)=false:=rfl
theorem isRd_fa {t:TypeId} {x:Operand} {f:Nat}:zQ (.fieldAddr t x f)=false:=rfl
theorem isEf_f {t:TypeId} {x:Operand} {f:Nat}:zS (.field t x f)=false:=rfl
theorem isRd_f {t:TypeId} {x:Operand} {f:Nat}:zQ (.field t x f)=false:=rfl
theorem isEf_ia {t:TypeId} {x y:Operand}:zS (.indexAddr t x y)=false:=rfl
theorem isRd_ia {t:TypeId} {x y:Operand}:zQ (.indexAddr t x y)=false:=rfl
theorem isEf_i {t:TypeId} {x y:Operand}:zS (.index t x y)=false:=rfl
theorem isRd_i {t:TypeId} {x y:Operand}:zQ (.index t x y)=false:=rfl
theorem qGC {t:TypeId} {p:Array (Nat×Operand)}:zS (.build t p)=false:=rfl
theorem qGx {t:TypeId} {p:Array (Nat×Operand)}:zQ (.build t p)=false:=rfl
theorem isEf_ex {x:Operand} {i:Nat}:zS (.extract x i)=false:=rfl
theorem isRd_ex {x:Operand} {i:Nat}:zQ (.extract x i)=false:=rfl
theorem isEf_call {f:Operand} {a:Array Operand} {ts:Array TypeId}:zS (.call ⟨.value f,a,ts⟩)=true:=rfl
theorem qED {f:Builtin} {a:Array Operand} {ts:Array TypeId}:zS (.call ⟨.builtin f,a,ts⟩)=(match f with| .append=>true|_=>false):=by cases f<;>rfl
theorem isRd_call {f:Operand} {a:Array Operand} {ts:Array TypeId}:zQ (.call ⟨.value f,a,ts⟩)=false:=rfl
theorem qEE {t:TypeId} {x y:Operand}:jG (.store t x y)=false:=rfl
theorem isRd_len {a:Array Operand} {ts:Array TypeId}:zQ (.call ⟨.builtin .len,a,ts⟩)=true:=rfl
theorem isRd_min {a:Array Operand} {ts:Array TypeId}:zQ (.call ⟨.builtin .min,a,ts⟩)=false:=rfl
theorem isRd_max {a:Array Operand} {ts:Array TypeId}:zQ (.call ⟨.builtin .max,a,ts⟩)=false:=rfl
theorem WOA_nil {n:Nat} {os:List AO} {Q:T AV->List AO->Prop}:WOA E [] tm n os Q=Q tm os:=rfl
theorem WOA_cons {n:Nat} {os:List AO} {Q:T AV->List AO->Prop} {e d:Nat} {te:TE} (ht:E.tb.get e=some te):WOA E (⟨some d,.alloc e,ty,ps,af,g⟩::ol) tm n os Q=WOA E ol (tm.put (some (.ptr n 0)) d) (n+1) (os++[.cells (te.zero.map .val) e]) Q:=by
 simp only [WOA];exact propext ⟨fun ⟨te',h1,h2⟩=>by rw [ht] at h1;cases h1;exact h2,fun hh=>⟨te,ht,hh⟩⟩
theorem qEs {K:OR->Prop} {b off:Nat}:qAx (bif xP (.ptr b off) then some (AV.ptr b off,h) else none) K=K (.ok (.ptr b off) h):=rfl
def inP (P:List (Nat×Nat)) (i j:Nat):Bool:=P.any fun p=>Nat.beq p.1 i && Nat.beq p.2 j
theorem inP_nil {i j:Nat}:inP [] i j=false:=rfl
theorem inP_cons {P:List (Nat×Nat)} {a b i j:Nat}:inP ((a,b)::P) i j=if a=i then (if b=j then true else inP P i j) else inP P i j:=by
 unfold inP;rw [List.any_cons];by_cases h1:a=i
 ·subst h1;by_cases h2:b=j
  ·subst h2;simp
  ·have:Nat.beq b j=false:=by cases hq:Nat.beq b j with
    |false=>rfl
    |true=>exact absurd (xZX hq) h2
   simp [this,h2]
 ·have:Nat.beq a i=false:=by cases hq:Nat.beq a i with
   |false=>rfl
   |true=>exact absurd (xZX hq) h1
  simp [this,h1]
def qDo (E:Env) (P:List (Nat×Nat)) (r:RdE) (V:List (Nat×T AO)):Prop:= ∀e∈V,inP P r.i e.1=true->aop E.P E.tb E.xt (qE r.tm) r.o.op {t:=e.2,n:=r.n}=some (r.v,{t:=e.2,n:=r.n})
def bQ (b:Bool) (E:Env) (r:RdE) (t:T AO):Prop:=b=true->aop E.P E.tb E.xt (qE r.tm) r.o.op {t:=t,n:=r.n}=some (r.v,{t:=t,n:=r.n})
theorem SameP_nil {P:List (Nat×Nat)}:qBT E P [] V=True:=by simp [qBT]
theorem qGU {P:List (Nat×Nat)} {r:RdE}:qBT E P (r::R) V=(qDo E P r V/\qBT E P R V):=by simp only [qBT,qDo,inP,xZA]
theorem Same1_nil {P:List (Nat×Nat)} {r:RdE}:qDo E P r []=True:=by simp [qDo]
theorem qGW {P:List (Nat×Nat)} {j:Nat} {t:T AO} {v:AV} {n:Nat}:qDo E P ⟨i,o,tm,n,v⟩ ((j,t)::V)=(bQ (inP P i j) E ⟨i,o,tm,n,v⟩ t/\qDo E P ⟨i,o,tm,n,v⟩ V):=by simp only [qDo,bQ,xZA]
theorem sameQ_f {r:RdE} {t:T AO}:bQ false E r t=True:=by simp [bQ]
theorem sameQ_ld {ty':TypeId} {x:Operand} {t:T AO} {v:AV} {n:Nat}:bQ true E ⟨i,⟨dst,.load ty' x,ty,ps,af,g⟩,tm,n,v⟩ t=(qN E.tb E.xt {t:=t,n:=n} ty' (qE tm x)=some v):=by
 simp only [bQ,aop,true_imp_iff];refine propext ⟨fun hh=> ?_,fun hh=>by rw [hh];rfl⟩;cases hq:qN E.tb E.xt {t:=t,n:=n} ty' (qE tm x) with
 |none=>rw [hq] at hh;cases hh
 |some u=>rw [hq] at hh;simp only [pr1,Option.some.injEq,Prod.mk.injEq,and_true] at hh;rw [hh]
theorem sameQ_len {a:Array Operand} {ts:Array TypeId} {t:T AO} {v:AV} {n:Nat}:bQ true E ⟨i,⟨dst,.call ⟨.builtin .len,a,ts⟩,ty,ps,af,g⟩,tm,n,v⟩ t=(qS E.P E.tb E.xt .len ts.toList (a.toList.map (qE tm)) {t:=t,n:=n}=some (v,{t:=t,n:=n})):=by
 simp only [bQ,aop,true_imp_iff,qBw]
theorem qDw {P:Program} {tb:T TE} {xt:Xt} {t:TypeId} {a:AV} {h:Hp}:qS P tb xt .len [t] [a] h=(zA tb h t a).map fun (n:Nat)=>(AV.val (.int .i64 (n:Int)),h):=by
 simp only [qS];cases zA tb h t a<;>rfl
theorem aload_t (tb:T TE) (xt:Xt) (h:Hp) (n:Nat) (t:TypeId) (a:AV):qN tb xt {t:=h.t,n:=n} t a=qN tb xt h t a:=rfl
theorem isCall_nc {x:Operand}:jG (.nilCheck x)=false:=rfl
theorem qGu {t:T AO} {n:Nat}:vK t n []=t:=rfl
end
end Go.Ev
end
noncomputable section
namespace Go.Ev
def RowAt (xt:Xt) (h:Hp) (sz:Nat) (v:AV) (cs:List (List Value)):Prop:=
 (∀c∈cs,c.length=sz)/\0<sz/\
 ((v= .val (.slice none 0 0)/\cs=[])\/
  (∃ad cap,v= .val (.slice (some ad) cs.length cap)/\ ∀i c,cs[i]? =some c-> ∀j u,c[j]? =some u->xt (ad.add (i*sz+j))=some u)\/
  (∃b off av e,v= .sl b off cs.length sz/\(b<h.n/\off+cs.length*sz<=av.length/\h.t.get b=some (.cells av e))/\ ∀i c,cs[i]? =some c-> ∀j u,c[j]? =some u->av[off+(i*sz+j)]? =some (.val u)))
def elp (v:AV) (k:Nat):AV:=
 match v with
 | .sl b off _ _=> .ptr b (off+k)
 | .val (.slice (some ad) _ _)=> .val (.pointer (some (ad.add k)))
 |_=>default
section
variable {xt:Xt} {h:Hp} {sz:Nat} {v:AV} {cs:List (List Value)} {tb:T TE} {t e:TypeId} {te ee:TE}
theorem RowAt.keep {h':Hp} (r:RowAt xt h sz v cs) (hn:h.n<=h'.n) (hk: ∀b,b<h.n->h'.t.get b=h.t.get b):RowAt xt h' sz v cs:=by
 obtain ⟨h1,h2,h3⟩:=r;refine ⟨h1,h2,?_⟩;rcases h3 with h3|h3|⟨b,off,av,e,hv,⟨hlt,hle,hb⟩,hc⟩
 ·exact .inl h3
 ·exact .inr (.inl h3)
 ·exact .inr (.inr ⟨b,off,av,e,hv,⟨xZM hlt hn,hle,by rw [hk b hlt];exact hb⟩,hc⟩)
theorem RowAt.up (r:RowAt xt h sz v cs) {n:Nat} (hn:h.n<=n):RowAt xt (h.up n) sz v cs:=r.keep hn fun _ _=>rfl
theorem RowAt.new (r:RowAt xt h sz v cs) (o:AO):RowAt xt (h.new o) sz v cs:=r.keep (xYC _) fun b hb=>by
 show (h.t.put (some o) h.n).get b=_;rw [T.get_put,if_neg (by omega)]
theorem RowAt.set (r:RowAt xt h sz v cs) {k:Nat} (hk: ∀off n s,v≠ .sl k off n s) (o:AO):RowAt xt (h.set k o) sz v cs:=by
 obtain ⟨h1,h2,h3⟩:=r;refine ⟨h1,h2,?_⟩;rcases h3 with h3|h3|⟨b,off,av,e,hv,⟨hlt,hle,hb⟩,hc⟩
 ·exact .inl h3
 ·exact .inr (.inl h3)
 ·refine .inr (.inr ⟨b,off,av,e,hv,⟨hlt,hle,?_⟩,hc⟩);show (h.t.put (some o) k).get b=_;rw [T.get_put,if_neg (by rintro rfl;exact hk _ _ _ hv)];exact hb
theorem RowAt.fr (r:RowAt xt h sz v cs) {m:Nat} {h':Hp} (f:Fr m h h') (hm:h.n<=m):RowAt xt h' sz v cs:=r.keep f.le fun b hb=>f.at_ b (.inl (xZM hb hm))
theorem RowAt.one (r:RowAt xt h sz v cs):one v=true:=by
 obtain ⟨_,_,h3⟩:=r;rcases h3 with ⟨rfl,_⟩|⟨_,_,rfl,_⟩|⟨_,_,_,_,rfl,_⟩<;>rfl
theorem RowAt.cells (r:RowAt xt h sz v cs):cellsOf v=[v]:=by
 obtain ⟨_,_,h3⟩:=r;rcases h3 with ⟨rfl,_⟩|⟨_,_,rfl,_⟩|⟨_,_,_,_,rfl,_⟩<;>rfl
theorem RowAt.len (r:RowAt xt h sz v cs) (ht:tb.get t=some te) (hd:te.d= .slice e) {h':Hp}:zA tb h' t v=some cs.length:=by
 obtain ⟨_,_,h3⟩:=r;rcases h3 with ⟨rfl,rfl⟩|⟨ad,cap,rfl,_⟩|⟨b,off,av,e',rfl,_⟩<;>simp [zA,ht,hd]
theorem RowAt.idx (r:RowAt xt h sz v cs) (ht:tb.get t=some te) (hd:te.d= .slice e) (he:tb.get e=some ee) (hs:ee.size=sz) {i:Nat} (hi:i<cs.length) {k:IntKind}:qK tb t v (.val (.int k (i:Int)))=some (elp v (i*sz)):=by
 obtain ⟨_,_,h3⟩:=r;have e1:qA1 (.val (.int k (i:Int)))=some (Int.ofNat i):=rfl;have e2:Nat.blt i cs.length=true:=by rw [xZH];exact hi
 rcases h3 with ⟨rfl,rfl⟩|⟨ad,cap,rfl,_⟩|⟨b,off,av,e',rfl,_⟩
 ·simp at hi
 ·simp [qK,ht,e1,hd,he,e2,hs,elp]
 ·simp [qK,ht,e1,hd,he,e2,hs,elp]
theorem RowAt.load (r:RowAt xt h sz v cs) (ht:tb.get t=some te) (ha:te.agg=false) {i j:Nat} {c:List Value} {u:Value} (hc:cs[i]? =some c) (hu:c[j]? =some u):qN tb xt h t (elp v (i*sz+j))=some (.val u):=by
 obtain ⟨_,_,h3⟩:=r;rcases h3 with ⟨rfl,rfl⟩|⟨ad,cap,rfl,hx⟩|⟨b,off,av,e',rfl,⟨_,_,hb⟩,hx⟩
 ·simp at hc
 ·simp [qN,ht,ha,elp,hx i c hc j u hu]
 ·simp [qN,ht,ha,elp,hb,hx i c hc j u hu]
theorem RowAt.load0 (r:RowAt xt h sz v cs) (ht:tb.get t=some te) (ha:te.agg=false) {i:Nat} {c:List Value} {u:Value} (hc:cs[i]? =some c) (hu:c[0]? =some u):qN tb xt h t (elp v (i*sz))=some (.val u):=r.load ht ha (j:=0) hc hu
theorem pY {ad:Addr}: ∀(n k:Nat) (c:List Value),c.length=n->(∀j u,c[j]? =some u->xt (ad.add (k+j))=some u)->y9 xt ad n k=some c
 |0,k,c,hl,_=>by rw [xYN hl];rfl
 |n+1,k,[],hl,_=>by simp at hl
 |n+1,k,u::c,hl,hx=>by
  have h0:=hx 0 u rfl;simp only [Nat.add_zero] at h0;have:=pY n (k+1) c (by simpa using hl) (fun j u' hj=>by have:=hx (j+1) u' (by simpa using hj);rwa [show k+(j+1)=k+1+j by omega] at this);simp [y9,h0,this]
theorem RowAt.loadA (r:RowAt xt h sz v cs) (ht:tb.get t=some te) (ha:te.agg=true) (hs:te.size=sz) {i:Nat} {c:List Value} (hc:cs[i]? =some c):qN tb xt h t (elp v (i*sz))=some (.agg (c.map .val)):=by
 obtain ⟨h1,h2,h3⟩:=r;have hl:=h1 c (xYE hc);rcases h3 with ⟨rfl,rfl⟩|⟨ad,cap,rfl,hx⟩|⟨b,off,av,e',rfl,⟨_,_,hb⟩,hx⟩
 ·simp at hc
 ·have:=pY (xt:=xt) (ad:=ad.add (i*sz)) te.size 0 c (by rw [hl,hs]) (fun j u hj=>by
   have:=hx i c hc j u hj;have e:(ad.add (i*sz)).add (0+j)=ad.add (i*sz+j):=by
    simp only [Addr.add,xZN];by_cases h1:i*sz=0<;>by_cases h2:j=0<;>simp [h1,h2,xYI]
   rw [e];exact this)
  simp [qN,ht,ha,elp,this]
 ·have hle:off+i*sz+sz<=av.length:=by
   have hlast:=hx i c hc (sz - 1) (c[sz - 1]'(by omega)) (xZD (by omega));have:=(xZR.1 hlast).1;omega
  have e1:(av.drop (off+i*sz)).take sz=c.map .val:=by
   apply xXX
   intro j;by_cases hj:j<sz
   ·rw [xYW,if_pos hj,xYA];have hjc:j<c.length:=by omega
    rw [show off+i*sz+j=off+(i*sz+j) by omega,hx i c hc j c[j] (xZD hjc)];simp [hjc]
   ·rw [xYW,if_neg hj];have:(c.map AV.val)[j]? =none:=xYH (by simp;omega);rw [this]
  have e2:Nat.ble (off+i*sz+sz) av.length=true:=by rw [xZG];exact hle
  simp [qN,ht,ha,elp,hb,e2,hs,e1]
end
end Go.Ev
end
noncomputable section
namespace Go.Ev
theorem qA2 (a:Addr) (m n:Nat):(a.add m).add n=a.add (m+n):=by
 simp only [Addr.add];by_cases h1:m=0<;>by_cases h2:n=0<;>simp [h1,h2,xYI]
theorem RowAt.fa {xt:Xt} {h:Hp} {sz:Nat} {v:AV} {cs:List (List Value)} (r:RowAt xt h sz v cs) (hn:cs≠[]) {tb:T TE} {t:TypeId} {te:TE} {fs:List (Nat×Nat×TypeId)} {f o s:Nat} {ft:TypeId} (ht:tb.get t=some te) (hd:te.d= .struct fs) (hf:fs[f]? =some (o,s+1,ft)) (j:Nat):
  qI tb t (elp v j) f=some (elp v (j+o)):=by
 obtain ⟨_,_,h3⟩:=r;have e:Nat.beq (s+1) 0=false:=rfl;rcases h3 with ⟨_,h3⟩|⟨ad,cap,rfl,_⟩|⟨b,off,av,e',rfl,_,_⟩
 ·exact absurd h3 hn
 ·simp [qI,ht,hd,hf,e,elp,padd,qA2]
 ·simp [qI,ht,hd,hf,e,elp,padd,xYI]
end Go.Ev
end
noncomputable section
namespace Go.Ev
theorem Hp.new_t (h:Hp) (o:AO):(h.new o).t=h.t.put (some o) h.n:=rfl
theorem Hp.new_n (h:Hp) (o:AO):(h.new o).n=h.n+1:=rfl
theorem Hp.set_t (h:Hp) (k:Nat) (o:AO):(h.set k o).t=h.t.put (some o) k:=rfl
theorem Hp.set_n (h:Hp) (k:Nat) (o:AO):(h.set k o).n=h.n:=rfl
theorem Hp.del_t (h:Hp) (k:Nat):(h.del k).t=h.t.put none k:=rfl
theorem Hp.del_n (h:Hp) (k:Nat):(h.del k).n=h.n:=rfl
def jZ:Option AO->Nat->Option AV
 |some (.cells cs _),off=>cs[off]?
 |_,_=>none
def zI (sz:Nat):Option AO->Nat->Option AV
 |some (.cells cs _),off=>if off+sz<=cs.length then some (.agg ((cs.drop off).take sz)) else none
 |_,_=>none
theorem qEV {cs:List AV} {e:TypeId} {off:Nat}:jZ (some (.cells cs e)) off=cs[off]? :=rfl
theorem qAV {sz:Nat} {cs:List AV} {e:TypeId} {off:Nat}:zI sz (some (.cells cs e)) off=if off+sz<=cs.length then some (.agg ((cs.drop off).take sz)) else none:=rfl
def qX (sz:Nat) (h:Hp) (b off:Nat) (v:AV):Option AO->Option Hp
 |some (.cells cs e)=>if (cellsOf v).length=sz/\off+sz<=cs.length/\(cellsOf v).all one=true then some (h.set b (.cells (cs.take off++cellsOf v++cs.drop (off+sz)) e)) else none
 |_=>none
theorem yD {sz:Nat} {h:Hp} {b off:Nat} {v:AV} {cs:List AV} {e:TypeId}:qX sz h b off v (some (.cells cs e))=if (cellsOf v).length=sz/\off+sz<=cs.length/\(cellsOf v).all one=true then some (h.set b (.cells (cs.take off++cellsOf v++cs.drop (off+sz)) e)) else none:=rfl
section
variable {tb:T TE} {xt:Xt} {h:Hp} {t e:TypeId} {te ee:TE} {b off:Nat}
theorem kN (ht:tb.get t=some te) (ha:te.agg=false):qN tb xt h t (.ptr b off)=jZ (h.t.get b) off:=by
 simp only [qN,ht,ha,jZ,cond_false];cases h.t.get b with
 |none=>rfl
 |some o=>cases o<;>rfl
theorem yN {sz:Nat} (ht:tb.get t=some te) (ha:te.agg=true) (hs:te.size=sz):qN tb xt h t (.ptr b off)=zI sz (h.t.get b) off:=by
 simp only [qN,ht,ha,hs,cond_true];cases h.t.get b with
 |none=>rfl
 |some o=>
  cases o with
  |cells cs e=>
   simp only [zI];by_cases hc:off+sz<=cs.length
   ·have:Nat.ble (off+sz) cs.length=true:=by rw [xZG];exact hc
    rw [this,if_pos hc];rfl
   ·have:Nat.ble (off+sz) cs.length=false:=by
     cases hb:Nat.ble (off+sz) cs.length with
     |false=>rfl
     |true=>rw [xZG] at hb;exact absurd hb hc
    rw [this,if_neg hc];rfl
  |_=>rfl
theorem zG {sz:Nat} {v:AV} (ht:tb.get t=some te) (hs:te.size=sz):jH tb h t (.ptr b off) v=qX sz h b off v (h.t.get b):=by
 simp only [jH,ht,hs];cases h.t.get b with
 |none=>rfl
 |some o=>
  cases o with
  |cells cs e=>
   simp only [qX];have hq:(Nat.beq (cellsOf v).length sz && (Nat.ble (off+sz) cs.length && (cellsOf v).all one))=decide ((cellsOf v).length=sz/\off+sz<=cs.length/\(cellsOf v).all one=true):=by
    rw [Bool.eq_iff_iff];simp [xZG]
   rw [hq];by_cases hc:(cellsOf v).length=sz/\off+sz<=cs.length/\(cellsOf v).all one=true
   ·rw [if_pos hc,decide_eq_true hc];rfl
   ·rw [if_neg hc,decide_eq_false hc];rfl
  |_=>rfl
theorem j6 {fs:List (Nat×Nat×TypeId)} {f o sz:Nat} {ft:TypeId} (ht:tb.get t=some te) (hd:te.d= .struct fs) (hf:fs[f]? =some (o,sz+1,ft)):qI tb t (.ptr b off) f=some (.ptr b (off+o)):=by
 simp only [qI,ht,hd,hf];rfl
theorem vU {zs:List Value} (ht:tb.get t=some te) (hz:te.zero=zs):jP tb h t=some (.ptr h.n 0,h.new (.cells (zs.map .val) t)):=by
 simp only [jP,ht,hz]
end
theorem uL (cs:List AV):cellsOf (.agg cs)=cs:=rfl
theorem qF1 (k:IntKind) (n:Int):cellsOf (.val (.int k n))=[.val (.int k n)]:=rfl
theorem qEU (b:Bool):cellsOf (.val (.bool b))=[.val (.bool b)]:=rfl
theorem qET (cs:Array Value):cellsOf (.val (.agg cs))=cs.toList.map .val:=rfl
theorem qF0 (b o:Nat):cellsOf (.ptr b o)=[.ptr b o]:=rfl
theorem qGK (b o n e:Nat):cellsOf (.sl b o n e)=[.sl b o n e]:=rfl
theorem qFZ (a:Option Addr) (n c:Nat):cellsOf (.val (.slice a n c))=[.val (.slice a n c)]:=rfl
theorem qGL (f:Fn) (a b:List AV):cellsOf (.fn f a b)=[.fn f a b]:=rfl
theorem qFY (l:Nat):cellsOf (.yld l)=[.yld l]:=rfl
theorem qAy (k:IntKind) (n:Int):one (.val (.int k n))=true:=rfl
theorem one_bool (b:Bool):one (.val (.bool b))=true:=rfl
theorem one_slv (a:Option Addr) (n c:Nat):one (.val (.slice a n c))=true:=rfl
theorem one_sl (b o n e:Nat):one (.sl b o n e)=true:=rfl
theorem one_ptr (b o:Nat):one (.ptr b o)=true:=rfl
theorem one_fn (f:Fn) (a b:List AV):one (.fn f a b)=true:=rfl
theorem one_yld (l:Nat):one (.yld l)=true:=rfl
theorem qE6 {P:Program} {tb:T TE} {xt:Xt} {ts:List TypeId} {h:Hp} (a b:Int):qS P tb xt .min ts [.val (.int .i64 a),.val (.int .i64 b)] h=some (.val (.int .i64 (min a b)),h):=by
 have:uM P (Builtin.min_ #[] 0) [.val (.int .i64 a),.val (.int .i64 b)]=some (.val (.int .i64 (min a b))):=by
  have e:(Builtin.min_ #[] 0 #[.int .i64 a,.int .i64 b])=pure (.int .i64 (min a b)):=by
   simp [Builtin.min_,Builtin.min2]
   congr 2;omega
  simp only [uM,toVals,toVal,e];rfl
 simp only [qS,this]
theorem qE7 {P:Program} {tb:T TE} {xt:Xt} {ts:List TypeId} {h:Hp} (a b:Int):qS P tb xt .max ts [.val (.int .i64 a),.val (.int .i64 b)] h=some (.val (.int .i64 (max a b)),h):=by
 have:uM P (Builtin.max_ #[] 0) [.val (.int .i64 a),.val (.int .i64 b)]=some (.val (.int .i64 (max a b))):=by
  have e:(Builtin.max_ #[] 0 #[.int .i64 a,.int .i64 b])=pure (.int .i64 (max a b)):=by
   simp [Builtin.max_,Builtin.max2]
   congr 2;omega
  simp only [uM,toVals,toVal,e];rfl
 simp only [qS,this]
end Go.Ev
end
noncomputable section
namespace Go.Ev
theorem Hp.up_up (h:Hp) (n m:Nat):(h.up n).up m=h.up m:=rfl
def kY {α:Type} (p:α->Bool):List α->Nat->Int
 |[],_=> -1
 |c::cs,k=>if p c then (k:Int) else kY p cs (k+1)
theorem wF {α:Type} (p:α->Bool) {cs:List α} {k:Nat} {c:α} (hc:cs[k]? =some c):kY p (cs.drop k) k=if p c then (k:Int) else kY p (cs.drop (k+1)) (k+1):=by
 obtain ⟨hk,rfl⟩:=xZR.1 hc;rw [xYK hk];rfl
theorem wG {α:Type} (p:α->Bool): ∀(cs:List α) (k:Nat),decide (0<=kY p cs k)=cs.any p
 |[],k=>rfl
 |c::cs,k=>by
  simp only [kY,List.any_cons];by_cases hp:p c=true
  ·simp [hp]
  ·have h2:=wG p cs (k+1);simp only [Bool.not_eq_true] at hp;simp only [hp,xXZ,if_false,Bool.false_or];exact h2
theorem qG (x:Int) (h1: -9223372036854775808<=x) (h2:x<=9223372036854775807):IntKind.i64.wrap x=x:=by
 simp only [IntKind.wrap,IntKind.bits,IntKind.signed];simp;omega
end Go.Ev
end
noncomputable section
namespace Go.Ev
theorem bX {E:Env} {fn:Func} {K:KP} {tm:T AV} {nt:Nat} {h:Hp} {t:Tmp} {ty:TypeId} {v:AV} (h1:fn.results.toList=[.cell t ty]) (h2:qN E.tb E.xt h ty ((tm.get t).getD default)=some v) (h3:K (.ret v) h):xX E fn K .ret ⟨tm,nt,h,[]⟩:=by
 refine ⟨h,[v],rfl,?_,h3⟩;have e1:(match tm.get t with|some a=>a|none=>default)=(tm.get t).getD default:=by cases tm.get t<;>rfl
 rw [h1];show (match qN E.tb E.xt h ty (match tm.get t with|some a=>a|none=>default) with|none=>none|some v=>match vI E tm h [] with|none=>none|some l=>some (v::l))=_;rw [e1,h2];rfl
theorem qBo {E:Env} {fn:Func} {K:KP} {tm:T AV} {nt:Nat} {h:Hp} {t u:Tmp} {ty:TypeId} {v:AV} (h1:fn.results.toList=[.cell t ty,.tmp u]) (h2:qN E.tb E.xt h ty ((tm.get t).getD default)=some v) (h3:K (.ret (.tup [v,(tm.get u).getD default])) h):xX E fn K .ret ⟨tm,nt,h,[]⟩:=by
 refine ⟨h,[v,(tm.get u).getD default],rfl,?_,h3⟩;have e1:(match tm.get t with|some a=>a|none=>default)=(tm.get t).getD default:=by cases tm.get t<;>rfl
 have e2:(match tm.get u with|some a=>a|none=>default)=(tm.get u).getD default:=by cases tm.get u<;>rfl
 rw [h1];show (match qN E.tb E.xt h ty (match tm.get t with|some a=>a|none=>default) with|none=>none|some v=>match some [match tm.get u with|some a=>a|none=>default] with|none=>none|some l=>some (v::l))=_;rw [e1,h2,e2]
theorem RowAt.src {xt:Xt} {h:Hp} {v:AV} {xs:List Int} (r:RowAt xt h 1 v (xs.map fun x=>[.int .i64 x])):gH xt h 1 v=some (xs.length,xs.map fun x=> .val (.int .i64 x)):=by
 obtain ⟨h1,h2,h3⟩:=r;rcases h3 with ⟨rfl,hn⟩|⟨ad,cap,rfl,hx⟩|⟨b,off,av,e',rfl,⟨_,hle,hb⟩,hx⟩
 ·have:xs=[]:=by simpa using hn
  subst this;rfl
 ·have hex:=pY (xt:=xt) (ad:=ad) xs.length 0 (xs.map fun x=> .int .i64 x) (by simp) (fun j u hj=>by
   simp only [xXY,Option.map_eq_some_iff] at hj;obtain ⟨x,hj,rfl⟩:=hj;have:=hx j [.int .i64 x] (by simp [hj]) 0 _ rfl;simpa using this)
  simp only [gH,xYY,xYT,hex];have:((xs.map fun x=>Value.int .i64 x).all Value.oneCell')=true:=by simp [Value.oneCell']
  rw [this];simp
 ·have hall: ∀j x,xs[j]? =some x->av[off+j]? =some (.val (.int .i64 x)):=fun j x hj=>by
   have:=hx j [.int .i64 x] (by simp [hj]) 0 _ rfl;simpa using this
  simp only [xYY,xYT] at hle;have e1:(av.drop off).take xs.length=xs.map fun x=> .val (.int .i64 x):=by
   apply xXX
   intro j;by_cases hj:j<xs.length
   ·rw [xYW,if_pos hj,xYA,hall j xs[j] (xZD hj)];simp [hj]
   ·rw [xYW,if_neg hj];have:(xs.map fun x=>AV.val (.int .i64 x))[j]? =none:=xYH (by simp;omega);rw [this]
  have e2:Nat.ble (off+xs.length) av.length=true:=by rw [xZG];exact hle
  have e3:((xs.map fun x=>AV.val (.int .i64 x)).all Go.Ev.one)=true:=by simp [qAy]
  simp only [gH,hb,xYY,xYT,e1,e2,e3];rfl
end Go.Ev
end
noncomputable section
namespace Go.Ev
section
variable {E:Env}
theorem wpc_range (ok:SyOk E) {f:Operand} {ps:Array Tmp} {assign body:Code} {tm:T AV} {nt:Nat} {h:Hp} {mks:List Nat} {Q:Ex->St->Prop} {g:FuncId} {xs:List AV}
  (hcal:callee (qE tm f) [.yld (h.n+1)]=some (g,xs))
  (hw: ∀rc:ALoop,rc.state= .ready->rc.pending=none->rc.tmps=tm->rc.nt=nt->rc.params=ps->rc.assign=assign->rc.body=body->FnA E g xs ((h.new .deferred).new (.loop rc)) (rangeK E none ⟨tm,nt,h,mks⟩ (h.n+1) (h.n::mks) Q)):
  wpc E none (.rangeFunc f ps assign body) ⟨tm,nt,h,mks⟩ Q:=
 W.range (r:=none) (st:=⟨tm,nt,h,mks⟩) ok.ft rfl hcal (hw _ rfl rfl rfl rfl rfl rfl rfl)
theorem end_cd {fn:Func} {K:KP} {tm:T AV} {nt:Nat} {h:Hp} {t:Tmp} {ty:TypeId} {v:AV} {d:Nat} (h1:fn.results.toList=[.cell t ty]) (hd:h.t.get d=some .deferred) (h2:qN E.tb E.xt (h.del d) ty ((tm.get t).getD default)=some v) (h3:K (.ret v) (h.del d)):xX E fn K .ret ⟨tm,nt,h,[d]⟩:=by
 refine ⟨h.del d,[v],?_,?_,h3⟩
 ·show (match h.t.get d with|some .deferred=>vD [] (h.del d)|_=>none)=_;rw [hd];rfl
 have e1:(match tm.get t with|some a=>a|none=>default)=(tm.get t).getD default:=by cases tm.get t<;>rfl
 rw [h1];show (match qN E.tb E.xt (h.del d) ty (match tm.get t with|some a=>a|none=>default) with|none=>none|some v=>match vI E tm (h.del d) [] with|none=>none|some l=>some (v::l))=_;rw [e1,h2];rfl
end
def OwnSl (h:Hp) (N sz:Nat) (e:TypeId) (v:AV) (n:Nat) (cs:List AV):Prop:=
 (n=0/\cs=[]/\v= .val (.slice none 0 0))\/(∃b,v= .sl b 0 n sz/\N<=b/\b<h.n/\h.t.get b=some (.cells cs e)/\cs.length=n*sz)
section
variable {P:Program} {tb:T TE} {xt:Xt} {h:Hp} {N sz n m by_:Nat} {t tx e ex:TypeId} {te xe ee:TE} {v x:AV} {cs cz:List AV}
theorem OwnSl.nil:OwnSl h N sz e (.val (.slice none 0 0)) 0 []:= .inl ⟨rfl,rfl,rfl⟩
theorem OwnSl.keep {h':Hp} (o:OwnSl h N sz e v n cs) (hn:h.n<=h'.n) (hk: ∀k,N<=k->k<h.n->h'.t.get k=h.t.get k):OwnSl h' N sz e v n cs:=by
 rcases o with o|⟨b,h1,h2,h3,h4,h5⟩
 ·exact .inl o
 ·exact .inr ⟨b,h1,h2,xZM h3 hn,by rw [hk b h2 h3];exact h4,h5⟩
theorem OwnSl.fr {h':Hp} {M:Nat} (o:OwnSl h N sz e v n cs) (f:Fr M h h') (hM:h.n<=M):OwnSl h' N sz e v n cs:=o.keep f.le fun k _ hk=>f.at_ k (.inl (xZM hk hM))
theorem OwnSl.new (o:OwnSl h N sz e v n cs) (ob:AO):OwnSl (h.new ob) N sz e v n cs:=o.fr (Fr.new (Fr.refl (xZY _)) ob) (xZY _)
theorem OwnSl.up (o:OwnSl h N sz e v n cs) {k:Nat} (hk:h.n<=k):OwnSl (h.up k) N sz e v n cs:=o.keep hk fun _ _ _=>rfl
theorem OwnSl.one (o:OwnSl h N sz e v n cs):Go.Ev.one v=true:=by
 rcases o with ⟨_,_,rfl⟩|⟨_,rfl,_⟩<;>rfl
theorem OwnSl.cells (o:OwnSl h N sz e v n cs):cellsOf v=[v]:=by
 rcases o with ⟨_,_,rfl⟩|⟨_,rfl,_⟩<;>rfl
theorem OwnSl.len (o:OwnSl h N sz e v n cs) (ht:tb.get t=some te) (hd:te.d= .slice e) {h':Hp}:zA tb h' t v=some n:=by
 rcases o with ⟨rfl,_,rfl⟩|⟨b,rfl,_⟩<;>simp [zA,ht,hd]
theorem OwnSl.idx (o:OwnSl h N sz e v n cs) (ht:tb.get t=some te) (hd:te.d= .slice e) (he:tb.get e=some ee) (hs:ee.size=sz) {i:Nat} (hi:i<n) {k:IntKind}: ∃b,qK tb t v (.val (.int k (i:Int)))=some (.ptr b (i*sz))/\N<=b/\b<h.n/\h.t.get b=some (.cells cs e)/\cs.length=n*sz:=by
 rcases o with ⟨rfl,_,rfl⟩|⟨b,rfl,h2,h3,h4,h5⟩
 ·omega
 ·refine ⟨b,?_,h2,h3,h4,h5⟩;have e1:qA1 (.val (.int k (i:Int)))=some (Int.ofNat i):=rfl;have e2:Nat.blt i n=true:=by rw [xZH];exact hi
  simp [qK,ht,e1,hd,he,e2,hs]
theorem OwnSl.append (o:OwnSl h N sz e v n cs) (hN:N<=h.n) (ht:tb.get t=some te) (hd:te.d= .slice e) (he:tb.get e=some ee) (hs:ee.size=sz) (hby:ee.bytes=by_) (htx:tb.get tx=some xe) (hdx:xe.d= .slice ex)
  (hsrc:gH xt h sz x=some (m,cz)) (hm:0<m) (hcz:cz.length=m*sz) (hl:(n+m)*by_<=140737488355328) (hl2:n+m<=9223372036854775807):
  ∃v' h',qS P tb xt .append [t,tx] [v,x] h=some (v',h')/\OwnSl h' N sz e v' (n+m) (cs++cz)/\Fr N h h'/\h'.n=h.n+1:=by
 have b3:Nat.ble ((n+m)*by_) 140737488355328=true:=by rw [xZG];exact hl
 have b4:Nat.ble (n+m) 9223372036854775807=true:=by rw [xZG];exact hl2
 rcases o with ⟨rfl,rfl,rfl⟩|⟨b,rfl,h2,h3,h4,h5⟩
 ·have b0:Nat.beq m 0=false:=by
   cases hb:Nat.beq m 0 with
   |false=>rfl
   |true=>have:=xZX hb;omega
  rw [xZN] at b3 b4;refine ⟨.sl h.n 0 m sz,h.new (.cells cz e),?_,.inr ⟨h.n,by rw [xZN],hN,by simp [Hp.new_n],by simp [Hp.new_t,T.get_put],by simpa using hcz⟩,Fr.new (Fr.refl hN) _,rfl⟩;have:zJ tb xt h t tx (.val (.slice none 0 0)) x=some (.sl h.n 0 m sz,h.new (.cells cz e)):=by
   unfold zJ;simp only [ht,hd,he,htx,hdx,hs,hsrc,b0,hby,b3,b4];simp
  simp only [qS,this]
 ·have b5:Nat.ble (n*sz) cs.length=true:=by rw [xZG,h5];exact xZY _
  have e1:cs.take (n*sz)=cs:=xYS (by rw [h5];exact xZY _);refine ⟨.sl h.n 0 (n+m) sz,(h.del b).new (.cells (cs++cz) e),?_,.inr ⟨h.n,rfl,hN,by simp [Hp.new_n,Hp.del_n],by simp [Hp.new_t,Hp.del_n,T.get_put],by simp [h5,hcz,xYQ]⟩,Fr.new ((Fr.refl hN).del h2 h3) _,rfl⟩;have:zJ tb xt h t tx (.sl b 0 n sz) x=some (.sl h.n 0 (n+m) sz,(h.del b).new (.cells (cs++cz) e)):=by
   unfold zJ;simp only [ht,hd,he,htx,hdx,hs,hsrc,h4,hby,b3,b4,b5,e1];simp
  simp only [qS,this]
theorem wO {b:Nat} (hb:h.t.get b=some (.cells cz e)) (hl:cz.length=m*sz) (ho:cz.all Go.Ev.one=true):gH xt h sz (.sl b 0 m sz)=some (m,cz):=by
 have b1:Nat.ble (0+m*sz) cz.length=true:=by rw [xZG];omega
 have e1:(cz.drop 0).take (m*sz)=cz:=by rw [List.drop_zero];exact xYS (by rw [hl];exact xZY _)
 have b2:Nat.beq sz sz=true:=by simp
 simp only [gH,hb,b1,b2,e1,ho];rfl
theorem bs_of {parts:List (Nat×AV)} {zs:List Value} {len:Nat} (ht:tb.get t=some te) (hd:te.d= .slice e) (he:tb.get e=some ee) (hs:ee.size=sz) (hz:ee.zero=zs) (h0:0<sz) (hl:len*sz<=16777216) (hf:yH (fun i=>some (i*sz,sz)) parts (jU (zs.map .val) len)=some cs):
  jN tb h t len parts=some (.sl h.n 0 len sz,h.new (.cells cs e)):=by
 have b1:Nat.blt 0 sz=true:=by rw [xZH];exact h0
 have b2:Nat.ble (len*sz) 16777216=true:=by rw [xZG];exact hl
 simp only [jN,ht,hd,he,hs,hz,b1,b2,hf];rfl
theorem qAG {α:Type} {sz:Nat}: ∀(l:List (List α)) (i j:Nat) (c:List α) (u:α),(∀c∈l,c.length=sz)->l[i]? =some c->c[j]? =some u->l.flatten[i*sz+j]? =some u
 |[],i,j,c,u,_,hc,_=>by simp at hc
 |d::l,0,j,c,u,hl,hc,hu=>by
  simp only [xZC,Option.some.injEq] at hc;subst hc;simp only [Nat.zero_mul,xZN,xYP];rw [xZL (xZR.1 hu).1];exact hu
 |d::l,i+1,j,c,u,hl,hc,hu=>by
  simp only [List.getElem?_cons_succ] at hc;have hd:=hl d xZV;rw [xYP,xYX (by rw [hd,xYQ];omega),hd,show (i+1)*sz+j - sz=i*sz+j by rw [xYQ];omega];exact qAG l i j c u (fun c hc=>hl c (xZZ _ hc)) hc hu
theorem qCS {α:Type} {sz:Nat}: ∀(l:List (List α)),(∀c∈l,c.length=sz)->l.flatten.length=l.length*sz
 |[],_=>by simp
 |d::l,hl=>by
  rw [xYP,xYB,qCS l (fun c hc=>hl c (xZZ _ hc)),hl d xZV,xZE,xYQ];omega
theorem OwnSl.row {cl:List (List Value)} (hsz: ∀c∈cl,c.length=sz) (h0:0<sz) (o:OwnSl h N sz e v cl.length (cl.flatten.map .val)):RowAt xt h sz v cl:=by
 refine ⟨hsz,h0,?_⟩;rcases o with ⟨h1,_,rfl⟩|⟨b,rfl,h2,h3,h4,h5⟩
 ·exact .inl ⟨rfl,xYN h1⟩
 ·refine .inr (.inr ⟨b,0,_,e,rfl,⟨h3,by rw [h5];omega,h4⟩,fun i c hc j u hu=> ?_⟩);rw [xZN,xXY,qAG cl i j c u hsz hc hu];rfl
end
section
variable {P:Program} {tb:T TE} {xt:Xt} {h:Hp} {N sz isz n m by_:Nat} {t tx e ex:TypeId} {te xe ee:TE} {v x a:AV} {cs cz:List AV} {rs:List (List Value)} {ll:List (List (List Value))}
theorem OwnSl.append2 (o:OwnSl h N sz e v n cs) (hN:N<=h.n) (ht:tb.get t=some te) (hd:te.d= .slice e) (he:tb.get e=some ee) (hs:ee.size=sz) (hby:ee.bytes=by_) (htx:tb.get tx=some xe) (hdx:xe.d= .slice ex)
  (hsrc:gH xt h sz x=some (m,cz)) (hm:0<m) (hcz:cz.length=m*sz) (hl:(n+m)*by_<=140737488355328) (hl2:n+m<=9223372036854775807):
  ∃h',qS P tb xt .append [t,tx] [v,x] h=some (.sl h.n 0 (n+m) sz,h')/\OwnSl h' N sz e (.sl h.n 0 (n+m) sz) (n+m) (cs++cz)/\Fr N h h'/\h'.n=h.n+1/\ ∀k,k<h.n->(∀off n s,v≠ .sl k off n s)->h'.t.get k=h.t.get k:=by
 have b3:Nat.ble ((n+m)*by_) 140737488355328=true:=by rw [xZG];exact hl
 have b4:Nat.ble (n+m) 9223372036854775807=true:=by rw [xZG];exact hl2
 rcases o with ⟨rfl,rfl,rfl⟩|⟨b,rfl,h2,h3,h4,h5⟩
 ·have b0:Nat.beq m 0=false:=by
   cases hb:Nat.beq m 0 with
   |false=>rfl
   |true=>have:=xZX hb;omega
  rw [xZN] at b3 b4 ⊢;refine ⟨h.new (.cells cz e),?_,.inr ⟨h.n,rfl,hN,by simp [Hp.new_n],by simp [Hp.new_t,T.get_put],by simpa using hcz⟩,Fr.new (Fr.refl hN) _,rfl,fun k hk _=>by simp only [Hp.new_t,T.get_put];rw [if_neg (by omega)]⟩;have:zJ tb xt h t tx (.val (.slice none 0 0)) x=some (.sl h.n 0 m sz,h.new (.cells cz e)):=by
   unfold zJ;simp only [ht,hd,he,htx,hdx,hs,hsrc,b0,hby,b3,b4];simp
  simp only [qS,this]
 ·have b5:Nat.ble (n*sz) cs.length=true:=by rw [xZG,h5];exact xZY _
  have e1:cs.take (n*sz)=cs:=xYS (by rw [h5];exact xZY _);refine ⟨(h.del b).new (.cells (cs++cz) e),?_,.inr ⟨h.n,rfl,hN,by simp [Hp.new_n,Hp.del_n],by simp [Hp.new_t,Hp.del_n,T.get_put],by simp [h5,hcz,xYQ]⟩,Fr.new ((Fr.refl hN).del h2 h3) _,rfl,fun k hk hv=> ?_⟩
  ·have:zJ tb xt h t tx (.sl b 0 n sz) x=some (.sl h.n 0 (n+m) sz,(h.del b).new (.cells (cs++cz) e)):=by
    unfold zJ;simp only [ht,hd,he,htx,hdx,hs,hsrc,h4,hby,b3,b4,b5,e1];simp
   simp only [qS,this]
  ·simp only [Hp.new_t,Hp.del_t,Hp.del_n,T.get_put];rw [if_neg (by omega),if_neg (by rintro rfl;exact hv 0 n sz rfl)]
theorem qF9 (ht:tb.get t=some te) (hd:te.d= .slice e) (he:tb.get e=some ee) (hs:ee.size=sz) (htx:tb.get tx=some xe) (hdx:xe.d= .slice ex) (hsrc:gH xt h sz x=some (0,[])):
  qS P tb xt .append [t,tx] [.val (.slice none 0 0),x] h=some (.val (.slice none 0 0),h):=by
 have:zJ tb xt h t tx (.val (.slice none 0 0)) x=some (.val (.slice none 0 0),h):=by
  unfold zJ;simp only [ht,hd,he,htx,hdx,hs,hsrc];simp
 simp only [qS,this]
theorem RowAt.keepB {h':Hp} (r:RowAt xt h isz v rs) (hn:h.n<=h'.n) (hk: ∀b off n s,v= .sl b off n s->b<h.n->h'.t.get b=h.t.get b):RowAt xt h' isz v rs:=by
 obtain ⟨h1,h2,h3⟩:=r;refine ⟨h1,h2,?_⟩;rcases h3 with h3|h3|⟨b,off,av,e,hv,⟨hlt,hle,hb⟩,hc⟩
 ·exact .inl h3
 ·exact .inr (.inl h3)
 ·exact .inr (.inr ⟨b,off,av,e,hv,⟨xZM hlt hn,hle,by rw [hk b _ _ _ hv hlt];exact hb⟩,hc⟩)
theorem RowAt.lt (r:RowAt xt h isz v rs) {b off n s:Nat} (hv:v= .sl b off n s):b<h.n:=by
 obtain ⟨_,_,h3⟩:=r;rcases h3 with ⟨rfl,_⟩|⟨_,_,rfl,_⟩|⟨b',_,_,_,rfl,⟨h1,_⟩,_⟩
 ·cases hv
 ·cases hv
 ·cases hv;exact h1
def wN (v a:AV):Prop:= ∀b off n s,a= .sl b off n s-> ∀off n s,v≠ .sl b off n s
def LRows (xt:Xt) (h:Hp) (N isz:Nat) (e:TypeId) (v:AV) (ll:List (List (List Value))):Prop:=
 ∃avs:List AV,OwnSl h N 1 e v ll.length avs/\ ∀(i:Nat) (l:List (List Value)),ll[i]? =some l-> ∃a,avs[i]? =some a/\RowAt xt h isz a l/\wN v a
theorem LRows.lt (r:LRows xt h N isz e v ll) {b off n s:Nat} (hv:v= .sl b off n s):N<=b/\b<h.n:=by
 obtain ⟨_,h1,_⟩:=r;rcases h1 with ⟨_,_,rfl⟩|⟨b',rfl,h2,h3,_⟩
 ·cases hv
 ·cases hv;exact ⟨h2,h3⟩
theorem Fr.lower {n m:Nat} {h h':Hp} (f:Fr n h h') (hm:m<=n):Fr m h h':=⟨xZU hm f.lo,f.le,fun k hk=>f.at_ k (by omega)⟩
theorem LRows.nil:LRows xt h N isz e (.val (.slice none 0 0)) []:=⟨[],OwnSl.nil,fun i l hl=>by simp at hl⟩
theorem LRows.fr {h':Hp} {M:Nat} (r:LRows xt h N isz e v ll) (f:Fr M h h') (hM:h.n<=M):LRows xt h' N isz e v ll:=by
 obtain ⟨avs,h1,h2⟩:=r;exact ⟨avs,h1.fr f hM,fun i l hl=>by obtain ⟨a,q1,q2,q3⟩:=h2 i l hl;exact ⟨a,q1,q2.fr f hM,q3⟩⟩
theorem LRows.up (r:LRows xt h N isz e v ll) {k:Nat} (hk:h.n<=k):LRows xt (h.up k) N isz e v ll:=r.fr (Fr.up (Fr.refl (xZY _)) hk) (xZY _)
theorem LRows.new (r:LRows xt h N isz e v ll) (o:AO):LRows xt (h.new o) N isz e v ll:=r.fr (Fr.new (Fr.refl (xZY _)) o) (xZY _)
theorem LRows.len (r:LRows xt h N isz e v ll) (ht:tb.get t=some te) (hd:te.d= .slice e) {h':Hp}:zA tb h' t v=some ll.length:=by
 obtain ⟨avs,h1,_⟩:=r;exact h1.len ht hd
theorem LRows.one (r:LRows xt h N isz e v ll):Go.Ev.one v=true:=by obtain ⟨_,h1,_⟩:=r;exact h1.one
theorem LRows.cells (r:LRows xt h N isz e v ll):cellsOf v=[v]:=by obtain ⟨_,h1,_⟩:=r;exact h1.cells
theorem LRows.at_ (r:LRows xt h N isz e v ll) (ht:tb.get t=some te) (hd:te.d= .slice e) (he:tb.get e=some ee) (hs:ee.size=1) {i:Nat} {l:List (List Value)} (hl:ll[i]? =some l) {k:IntKind}:
  ∃b a cs,qK tb t v (.val (.int k (i:Int)))=some (.ptr b i)/\h.t.get b=some (.cells cs e)/\cs[i]? =some a/\RowAt xt h isz a l/\b<h.n/\N<=b/\v= .sl b 0 ll.length 1:=by
 obtain ⟨avs,h1,h2⟩:=r;have hi:=(xZR.1 hl).1;obtain ⟨a,q1,q2,q3⟩:=h2 i l hl;obtain ⟨b,p1,p2,p3,p4,p5⟩:=h1.idx ht hd he hs hi (k:=k);rw [xYT] at p1;refine ⟨b,a,avs,p1,p4,q1,q2,p3,p2,?_⟩;rcases h1 with ⟨h0,_⟩|⟨b',rfl,_⟩
 ·rw [h0] at hi;exact absurd hi (Nat.not_lt_zero _)
 ·have e1:qA1 (.val (.int k (i:Int)))=some (Int.ofNat i):=rfl;have e2:Nat.blt i ll.length=true:=by rw [xZH];exact hi
  simp [qK,ht,e1,hd,he,e2,hs] at p1;rw [p1]
theorem LRows.append {l:List (List Value)} (r:LRows xt h N isz e v ll) (hN:N<=h.n) (ht:tb.get t=some te) (hd:te.d= .slice e) (he:tb.get e=some ee) (hs:ee.size=1) (hby:ee.bytes=by_) (htx:tb.get tx=some xe) (hdx:xe.d= .slice ex)
  (hsrc:gH xt h 1 x=some (1,[a])) (ha:RowAt xt h isz a l) (hap:wN v a) (hl:(ll.length+1)*by_<=140737488355328) (hl2:ll.length+1<=9223372036854775807):
  ∃v' h',qS P tb xt .append [t,tx] [v,x] h=some (v',h')/\LRows xt h' N isz e v' (ll++[l])/\Fr N h h'/\h'.n=h.n+1/\v'= .sl h.n 0 (ll.length+1) 1/\ ∀k,k<h.n->(∀off n s,v≠ .sl k off n s)->h'.t.get k=h.t.get k:=by
 obtain ⟨avs,h1,h2⟩:=r;have hlen:avs.length=ll.length:=by
  rcases h1 with ⟨p1,rfl,_⟩|⟨b,_,_,_,_,p5⟩
  ·rw [p1];rfl
  ·simpa using p5
 obtain ⟨h',p1,p2,p3,p4,p5⟩:=h1.append2 (P:=P) (m:=1) (cz:=[a]) hN ht hd he hs hby htx hdx hsrc (by omega) rfl hl hl2;refine ⟨_,h',p1,⟨avs++[a],by simpa using p2,fun i l' hl'=> ?_⟩,p3,p4,rfl,p5⟩;have keep: ∀{a':AV} {rs:List (List Value)},RowAt xt h isz a' rs->wN v a'->RowAt xt h' isz a' rs/\wN (.sl h.n 0 (ll.length+1) 1) a':=fun {a' rs} hr hp=>by
  refine ⟨hr.keepB (by omega) fun b off n s hv hb=>p5 b hb fun off' n' s' hq=>hp b off n s hv off' n' s' hq,fun b off n s hv off' n' s' hq=> ?_⟩;have:=hr.lt hv;cases hq;omega
 rcases xYV i ll.length with hi|hi
 ·rw [xZL hi] at hl';obtain ⟨a',q1,q2,q3⟩:=h2 i l' hl';exact ⟨a',by rw [xZL (by omega)];exact q1,keep q2 q3⟩
 ·have hi2:i=ll.length:=by
   have:=(xZR.1 hl').1;simp only [xYB,xZE,xYZ] at this;omega
  subst hi2;rw [xYX (xZY _),Nat.sub_self] at hl';simp only [xZC,Option.some.injEq] at hl';subst hl';exact ⟨a,by rw [<-hlen,xYX (xZY _),Nat.sub_self];rfl,keep ha hap⟩
end
def GridAt (xt:Xt) (h:Hp) (isz:Nat) (v:AV) (ll:List (List (List Value))):Prop:=
 (∃vs:List Value,RowAt xt h 1 v (vs.map fun u=>[u])/\vs.length=ll.length/\ ∀(i:Nat) (l:List (List Value)),ll[i]? =some l-> ∃u,vs[i]? =some u/\RowAt xt h isz (.val u) l)\/
 (∃(b off:Nat) (avs:List AV) (e:TypeId),v= .sl b off ll.length 1/\(b<h.n/\off+ll.length<=avs.length/\h.t.get b=some (.cells avs e))/\ ∀(i:Nat) (l:List (List Value)),ll[i]? =some l-> ∃a,avs[off+i]? =some a/\RowAt xt h isz a l)
section
variable {xt:Xt} {h:Hp} {isz:Nat} {v:AV} {ll:List (List (List Value))} {tb:T TE} {t e:TypeId} {te ee:TE} {N:Nat}
theorem GridAt.keep {h':Hp} (r:GridAt xt h isz v ll) (hn:h.n<=h'.n) (hk: ∀b,b<h.n->h'.t.get b=h.t.get b):GridAt xt h' isz v ll:=by
 rcases r with ⟨vs,r1,r2,r3⟩|⟨b,off,avs,e,rfl,⟨q1,q2,q3⟩,r3⟩
 ·exact .inl ⟨vs,r1.keep hn hk,r2,fun i l hl=>by obtain ⟨u,p1,p2⟩:=r3 i l hl;exact ⟨u,p1,p2.keep hn hk⟩⟩
 ·exact .inr ⟨b,off,avs,e,rfl,⟨xZM q1 hn,q2,by rw [hk b q1];exact q3⟩,fun i l hl=>by obtain ⟨u,p1,p2⟩:=r3 i l hl;exact ⟨u,p1,p2.keep hn hk⟩⟩
theorem GridAt.fr {h':Hp} {m:Nat} (r:GridAt xt h isz v ll) (f:Fr m h h') (hm:h.n<=m):GridAt xt h' isz v ll:=r.keep f.le fun b hb=>f.at_ b (.inl (xZM hb hm))
theorem GridAt.up (r:GridAt xt h isz v ll) {n:Nat} (hn:h.n<=n):GridAt xt (h.up n) isz v ll:=r.keep hn fun _ _=>rfl
theorem GridAt.new (r:GridAt xt h isz v ll) (o:AO):GridAt xt (h.new o) isz v ll:=r.keep (xYC _) fun b hb=>by
 show (h.t.put (some o) h.n).get b=_;rw [T.get_put,if_neg (by omega)]
theorem GridAt.one (r:GridAt xt h isz v ll):Go.Ev.one v=true:=by
 rcases r with ⟨vs,r1,_⟩|⟨b,off,avs,e,rfl,_⟩
 ·exact r1.one
 ·rfl
theorem GridAt.cells (r:GridAt xt h isz v ll):cellsOf v=[v]:=by
 rcases r with ⟨vs,r1,_⟩|⟨b,off,avs,e,rfl,_⟩
 ·exact r1.cells
 ·rfl
theorem GridAt.len (r:GridAt xt h isz v ll) (ht:tb.get t=some te) (hd:te.d= .slice e) {h':Hp}:zA tb h' t v=some ll.length:=by
 rcases r with ⟨vs,r1,r2,_⟩|⟨b,off,avs,e,rfl,_⟩
 ·rw [r1.len ht hd,xYY,r2]
 ·simp [zA,ht,hd]
theorem GridAt.at_ (r:GridAt xt h isz v ll) (ht:tb.get t=some te) (hd:te.d= .slice e) (he:tb.get e=some ee) (hs:ee.size=1) (ha:ee.agg=false) {i:Nat} {l:List (List Value)} (hl:ll[i]? =some l):
  ∃a,(∀k:IntKind,qK tb t v (.val (.int k (i:Int)))=some (elp v i))/\qN tb xt h e (elp v i)=some a/\RowAt xt h isz a l:=by
 have hi:=(xZR.1 hl).1;rcases r with ⟨vs,r1,r2,r3⟩|⟨b,off,avs,e',rfl,⟨q1,q2,q3⟩,r3⟩
 ·obtain ⟨u,p1,p2⟩:=r3 i l hl;refine ⟨.val u,fun k=> ?_,?_,p2⟩
  ·have:=r1.idx ht hd he hs (i:=i) (by rw [xYY,r2];exact hi) (k:=k)
   rwa [xYT] at this
  ·have:=r1.load0 he ha (i:=i) (c:=[u]) (u:=u) (by simp [p1]) rfl
   rwa [xYT] at this
 ·obtain ⟨a,p1,p2⟩:=r3 i l hl;refine ⟨a,fun k=> ?_,?_,p2⟩
  ·have e1:qA1 (.val (.int k (i:Int)))=some (Int.ofNat i):=rfl;have e2:Nat.blt i ll.length=true:=by rw [xZH];exact hi
   simp [qK,ht,e1,hd,he,e2,hs,elp]
  ·simp [qN,he,ha,elp,q3,p1]
theorem LRows.grid (r:LRows xt h N isz e v ll):GridAt xt h isz v ll:=by
 obtain ⟨avs,h1,h2⟩:=r;rcases h1 with ⟨p1,rfl,rfl⟩|⟨b,rfl,p2,p3,p4,p5⟩
 ·have hn:ll=[]:=List.length_eq_zero_iff.1 p1;subst hn;exact .inl ⟨[],⟨(by simp),Nat.one_pos,.inl ⟨rfl,rfl⟩⟩,rfl,fun i l hl=>by simp at hl⟩
 ·refine .inr ⟨b,0,avs,e,rfl,⟨p3,by simp at p5;omega,p4⟩,fun i l hl=> ?_⟩;obtain ⟨a,q1,q2,_⟩:=h2 i l hl;exact ⟨a,by rw [xZN];exact q1,q2⟩
end
def pG (AL:List Nat) (N:Nat):List Oper->List Nat->Nat->Nat->Nat->Nat->List SRd->List SVe->Option (List (List SRd×List SVe))
 |[],_,_,ne,mj,_,SR,SV=>some [(SR,(ne,mj,N)::SV)]
 |_::_,[],_,_,_,_,_,_=>none
 |o::ol,m::ms,i,ne,mj,dl,SR,SV=>
  bif calm o.op then
   (match q8 o.op with
   | .read=>bif AL.all (bt m) then pG AL N ol ms (i+1) ne mj dl ((i,m,ne)::SR) SV else none
   |_=>pG AL N ol ms (i+1) ne mj dl SR SV)
  else bif zS o.op && (Nat.beq ne 0 || bt m dl) && AL.all (bt m) then
   (match o.guard with
   |none=>pG AL N ol ms (i+1) (ne+1) m i SR ((ne,mj,i)::SV)
   |some _=>match pG AL N ol ms (i+1) ne mj dl SR SV with
    |none=>none
    |some a=>match pG AL N ol ms (i+1) (ne+1) m i SR ((ne,mj,i)::SV) with
     |none=>none
     |some b=>some (a++b))
   else none
section
variable {E:Env} {nt:Nat} {ops:Array Oper}
theorem uR {AL:List Nat} {h0 HA:T AO} {FS:List FE} {N:Nat} (hall: ∀q:Nat->Bool,(∀f∈AL,q f=true)->ovl q FS h0=HA) (hno: ∀(q:Nat->Bool) (b:T AO),(∀f∈AL,q f=false)->ovl q FS b=b) {Q:T AV->Hp->List RdE->List (Nat×T AO)->Prop}:
  ∀(ol:List Oper) (ms:List Nat) (i ne mj dl:Nat) (tm:T AV) (h:Hp) (R:List RdE) (V:List (Nat×T AO)) (SR:List SRd) (SV:List SVe) (st:DS) (L:List (List SRd×List SVe)),WOW E nt ops ol i ne tm h R V Q->pG AL N ol ms i ne mj dl SR SV=some L->WInv E AL h0 HA FS i ne mj dl tm h R V SR SV st->
  ∃p∈L,∃call st' ne' mj' dl' tm' h' R' V' SV',jS E.P E.xt call/\((∀fv args k r,call fv args k=some r->h.n<=k.n/\k.n<h'.n)/\h.n<=h'.n)/\yP E.P E.tb E.xt call ops ol ms st=some st'/\WInv E AL h0 HA FS (i+ol.length) ne' mj' dl' tm' h' R' V' p.1 SV' st'/\p.2=(ne',mj',N)::SV'/\Q tm' h' R' V'
 |[],ms,i,ne,mj,dl,tm,h,R,V,SR,SV,st,L,hw,hc,I=>by
  simp only [pG,Option.some.injEq] at hc;subst hc;exact ⟨(SR,(ne,mj,N)::SV),xZV,qAA,st,ne,mj,dl,tm,h,R,V,SV,yZ _ _,⟨fun _ _ _ _ hx=>(by cases hx),xZY _⟩,rfl,I,rfl,hw⟩
 |o::ol,[],i,ne,mj,dl,tm,h,R,V,SR,SV,st,L,hw,hc,I=>by simp [pG] at hc
 |o::ol,m::ms,i,ne,mj,dl,tm,h,R,V,SR,SV,st,L,hw,hc,I=>by
  simp only [WOW] at hw;obtain ⟨_,hw⟩:=hw;have hput: ∀{v:AV} {N:T AV->Prop},putK nt tm o.dst v N->N (xU tm o.dst v):=fun {v N} hp=>by
   unfold putK at hp;unfold xU;split at hp
   ·rename_i hd;rw [hd];exact hp
   ·rename_i d hd;rw [hd];exact hp.2
  have hlen:i+(o::ol).length=(i+1)+ol.length:=by simp;omega
  rw [hlen];simp only [pG] at hc;cases haw:qP ops o tm with
  |false=>
   rw [haw] at hw;simp only [cond_false] at hw;have hw:=hput hw;have hd: ∀call,jJ E.P E.tb E.xt call ops o m st=some (upd o m st default {t:= .e,n:=st.n} .new):=fun call=>by
    unfold jJ zT;rw [I.ftm,haw];rfl
   obtain ⟨SR2,L2,hc2,hsub,hLs⟩: ∃SR2 L2,pG AL N ol ms (i+1) ne mj dl SR2 SV=some L2/\(∀x∈SR,x∈SR2)/\ ∀x∈L2,x∈L:=by
    cases hcal:calm o.op with
    |true=>
     rw [hcal] at hc;simp only [cond_true] at hc;split at hc
     ·obtain ⟨_,hc⟩:=qU hc;exact ⟨_,_,hc,fun x hx=>xZZ _ hx,fun x hx=>hx⟩
     ·exact ⟨_,_,hc,fun x hx=>hx,fun x hx=>hx⟩
    |false=>
     rw [hcal] at hc;simp only [cond_false] at hc;obtain ⟨_,hc⟩:=qU hc;split at hc
     ·rename_i hg;unfold qP at haw;rw [hg] at haw;cases haw
     ·split at hc
      ·cases hc
      ·rename_i a ha;split at hc
       ·cases hc
       ·rename_i b hb;simp only [Option.some.injEq] at hc;subst hc;exact ⟨_,_,ha,fun x hx=>hx,fun x hx=>List.mem_append_left _ hx⟩
   obtain ⟨p,hpL,call,st',ne',mj',dl',tm',h',R',V',SV',c1,c2,r1,r2⟩:=uR hall hno ol ms (i+1) ne mj dl _ h R V SR2 SV (upd o m st default {t:= .e,n:=st.n} .new) _ hw hc2
    ⟨by simp [upd,I.fi],by simp [upd,I.ftm],by simp [upd,I.fn],by simp [upd,I.fne],by simp [upd,I.fmj],by simpa [upd] using I.fdl,by simp [upd,I.ffs],fun hz=>by simpa [upd] using I.fz hz,fun hz=>by simpa [upd] using I.fs hz,fun r hr=>by have:=I.frs r (by simpa [upd] using hr);exact ⟨hsub _ this.1,this.2⟩,fun e he=>I.fbs e (by simpa [upd] using he),I.fv⟩
   exact ⟨p,hLs p hpL,call,st',ne',mj',dl',tm',h',R',V',SV',c1,c2,by rw [jA,hd];exact r1,r2⟩
  |true=>
   rw [haw] at hw;simp only [cond_true] at hw;cases hcal:calm o.op with
   |true=>
    rw [hcal] at hc;simp only [cond_true] at hc;obtain ⟨call0,res,_,hop,hk⟩:=hw.ev;rw [j7 rfl hcal] at hop;cases ha:aop E.P E.tb E.xt (qE tm) o.op h with
    |none=>rw [ha] at hop;cases hop
    |some p=>
     obtain ⟨v,h1⟩:=p;rw [ha] at hop;simp only [bH,Option.some.injEq] at hop;subst hop;simp only [qBz,qAf hcal,cond_false] at hk;obtain ⟨rfl,hk⟩:=hk;have hk:=hput hk;rcases gZ hcal with hkd|hkd
     ·obtain ⟨_,e2⟩:=qAW hcal hkd ha;rw [hkd] at hc;simp only at hc;have hrd:zQ o.op=false:=by unfold zQ;rw [hkd]
      rw [hrd] at hk;simp only [cond_false] at hk;have hd: ∀call,jJ E.P E.tb E.xt call ops o m st=some (upd o m st v {t:= .e,n:=st.n} .new):=fun call=>by
       unfold jJ zT;rw [I.ftm,haw,hkd];simp only [cond_true];rw [j7 rfl hcal,e2];rfl
      obtain ⟨p,hpL,call,st',ne',mj',dl',tm',h',R',V',SV',c1,c2,r1,r2⟩:=uR hall hno ol ms (i+1) ne mj dl _ h1 R V SR SV (upd o m st v {t:= .e,n:=st.n} .new) _ hk hc
       ⟨by simp [upd,I.fi],by simp [upd,I.ftm],by simp [upd,I.fn],by simp [upd,I.fne],by simp [upd,I.fmj],by simpa [upd] using I.fdl,by simp [upd,I.ffs],fun hz=>by simpa [upd] using I.fz hz,fun hz=>by simpa [upd] using I.fs hz,fun r hr=>I.frs r (by simpa [upd] using hr),fun e he=>I.fbs e (by simpa [upd] using he),I.fv⟩
      exact ⟨p,hpL,call,st',ne',mj',dl',tm',h',R',V',SV',c1,c2,by rw [jA,hd];exact r1,r2⟩
     ·rw [hkd] at hc;simp only at hc;obtain ⟨hal,hc⟩:=qU hc;have hal:=xZT.1 hal;have hrd:zQ o.op=true:=by unfold zQ;rw [hkd]
      rw [hrd] at hk;simp only [cond_true] at hk;have hov:({t:=ovl (fun f=>bt m f && !bt st.mj f) st.fs st.b,n:=st.n}:Hp)=h1:=by
       have:ovl (fun f=>bt m f && !bt st.mj f) st.fs st.b=h1.t:=by
        rw [I.ffs];rcases xZF ne with hz|hz
        ·obtain ⟨z1,z2,z3⟩:=I.fz hz;rw [z2,z3];exact hall _ fun f hf=>by rw [I.fmj,z1,hal f hf,pA];rfl
        ·obtain ⟨z1,z2,_⟩:=I.fs hz;rw [z2];exact hno _ _ fun f hf=>by rw [I.fmj,z1 f hf];simp
       rw [this,I.fn]
      have hd: ∀call,jJ E.P E.tb E.xt call ops o m st=some (upd o m st v h1 .read):=fun call=>by
       unfold jJ zT;rw [I.ftm,haw,hkd];simp only [cond_true];rw [hov,j7 rfl hcal,ha];rfl
      obtain ⟨p,hpL,call,st',ne',mj',dl',tm',h',R',V',SV',c1,c2,r1,r2⟩:=uR hall hno ol ms (i+1) ne mj dl _ h1 _ V ((i,m,ne)::SR) SV (upd o m st v h1 .read) _ hk hc
       ⟨by simp [upd,I.fi],by simp [upd,I.ftm],by simp [upd,I.fn],by simp [upd,I.fne],by simp [upd,I.fmj],by simpa [upd] using I.fdl,by simp [upd,I.ffs],fun hz=>by simpa [upd] using I.fz hz,fun hz=>by simpa [upd] using I.fs hz,fun r hr=>by
        simp only [upd,xZP] at hr;rcases hr with rfl|hr
        ·exact ⟨by simp [I.fi,I.fne],⟨_,xZV,by simp [I.fi,I.ftm,I.fn,hcal]⟩,.inl hal⟩
        ·obtain ⟨q1,⟨e,q2,q3⟩,q4⟩:=I.frs r hr;exact ⟨xZZ _ q1,⟨e,xZZ _ q2,q3⟩,q4⟩,fun e he=>I.fbs e (by simpa [upd] using he),I.fv⟩
      exact ⟨p,hpL,call,st',ne',mj',dl',tm',h',R',V',SV',c1,c2,by rw [jA,hd];exact r1,r2⟩
   |false=>
    rw [hcal] at hc;simp only [cond_false] at hc;obtain ⟨hg,hc⟩:=qU hc;simp only [xZW] at hg;obtain ⟨⟨hst,hch⟩,hal⟩:=hg;obtain ⟨L2,hcE,hLs⟩: ∃L2,pG AL N ol ms (i+1) (ne+1) m i SR ((ne,mj,i)::SV)=some L2/\ ∀x∈L2,x∈L:=by
     split at hc
     ·exact ⟨_,hc,fun x hx=>hx⟩
     ·split at hc
      ·cases hc
      ·rename_i a ha;split at hc
       ·cases hc
       ·rename_i b hb;simp only [Option.some.injEq] at hc;subst hc;exact ⟨_,hb,fun x hx=>List.mem_append_right _ hx⟩
    have hal:=xZT.1 hal;have hov:({t:=ovl (fun f=>bt m f && !bt st.mj f) st.fs st.b,n:=st.n}:Hp)=h:=by
     have:ovl (fun f=>bt m f && !bt st.mj f) st.fs st.b=h.t:=by
      rw [I.ffs];rcases xZF ne with hz|hz
      ·obtain ⟨z1,z2,z3⟩:=I.fz hz;rw [z2,z3];exact hall _ fun f hf=>by rw [I.fmj,z1,hal f hf,pA];rfl
      ·obtain ⟨z1,z2,_⟩:=I.fs hz;rw [z2];exact hno _ _ fun f hf=>by rw [I.fmj,z1 f hf];simp
     rw [this,I.fn]
    have hch2:(Nat.beq st.ne 0 || bt m st.dl)=true:=by
     rw [I.fne];rcases I.fdl with hdl|hdl
     ·rw [hdl];exact hch
     ·rw [hdl];rfl
    have next: ∀(v:AV) (h1:Hp),q8 o.op= .eff->WOW E nt ops ol (i+1) (ne+1) (xU tm o.dst v) h1 R ((ne+1,h1.t)::V) Q->h.n<=h1.n-> ∃p∈L,∃call st' ne' mj' dl' tm' h' R' V' SV',jS E.P E.xt call/\((∀fv args k r,call fv args k=some r->h1.n<=k.n/\k.n<h'.n)/\h1.n<=h'.n)/\yP E.P E.tb E.xt call ops ol ms (upd o m st v h1 .eff)=some st'/\WInv E AL h0 HA FS (i+1+ol.length) ne' mj' dl' tm' h' R' V' p.1 SV' st'/\p.2=(ne',mj',N)::SV'/\Q tm' h' R' V':=fun v h1 hke hk hle=>by
     exact Exists.imp (fun _ hp=>⟨hLs _ hp.1,hp.2⟩)<|uR hall hno ol ms (i+1) (ne+1) m i _ h1 R _ SR ((ne,mj,i)::SV) (upd o m st v h1 .eff) _ hk hcE
      ⟨by simp [upd,I.fi],by simp [upd,I.ftm],by simp [upd],by simp [upd,I.fne],by simp [upd],.inl (by simp [upd,I.fi]),by simp [upd,I.ffs],fun hz=>by omega,fun hz=>⟨hal,by simp [upd],xZV⟩,fun r hr=>I.frs r (by simpa [upd] using hr),fun e he=>by
       simp only [upd,xZP] at he;rcases he with rfl|he
       ·refine ⟨by simp [I.fne,I.fmj,I.fi],fun hz=> ?_,fun hz=> ?_⟩
        ·simp only [I.fne] at hz;obtain ⟨z1,z2,z3⟩:=I.fz hz;exact ⟨z2,by simp [I.fmj,z1]⟩
        ·simp only [I.fne] at hz;obtain ⟨z1,z2,z3⟩:=I.fs hz;refine ⟨xZZ _ ?_,by simpa [I.fmj] using z1⟩;simp only [I.fne,z2];exact z3
       ·obtain ⟨q1,q2,q3⟩:=I.fbs e he;exact ⟨xZZ _ q1,q2,fun hz=>⟨xZZ _ (q3 hz).1,(q3 hz).2⟩⟩,xZZ _ I.fv⟩
    cases hso:isSt o.op with
    |true=>
     obtain ⟨call0,res,_,hop,hk⟩:=hw.ev;rw [gM hso] at hop;cases ha:aop E.P E.tb E.xt (qE tm) o.op h with
     |none=>rw [ha] at hop;cases hop
     |some p=>
      obtain ⟨v,h1⟩:=p;rw [ha] at hop;simp only [bH,Option.some.injEq] at hop;subst hop;simp only [qBz,hst,cond_true] at hk;obtain ⟨⟨hn1,_⟩,hk⟩:=hk;have hk:=hput hk;obtain ⟨p,hpL,call,st',ne',mj',dl',tm',h',R',V',SV',c1,c2,r1,r2⟩:=next v h1 (wD hso) hk hn1;have hd:jJ E.P E.tb E.xt call ops o m st=some (upd o m st v h1 .eff):=by
       unfold jJ zT;rw [I.ftm,haw,wD hso];simp only [cond_true];rw [hch2];simp only [cond_true];rw [hov,gM hso,ha];rfl
      exact ⟨p,hpL,call,st',ne',mj',dl',tm',h',R',V',SV',c1,⟨fun fv args k r hr=>by have:=c2.1 fv args k r hr;omega,by have:=c2.2;omega⟩,by rw [jA,hd];exact r1,r2⟩
    |false=>
     have hcl:jG o.op=true:=by
      unfold zS at hst;rw [hso] at hst;simpa using hst
     have hcl2:=hcl;unfold jG at hcl2;split at hcl2
     ·rename_i q hq;split at hcl2
      ·rename_i f hf;unfold WOp at hw;simp only [hq,calK,hf] at hw;obtain ⟨res,h1,hcs,hk⟩:=hw;rw [<-hq] at hk;cases res with
       |pan v=>exact hk.elim
       |ret v=>
        simp only [resK,qBz,hst,cond_true] at hk;obtain ⟨⟨hn1,hlt⟩,hk⟩:=hk;have hlt:=hlt hcl;have hk:=hput hk;have hkd:q8 o.op= .eff:=by simp [hq,q8,hf]
        obtain ⟨p,hpL,call,st',ne',mj',dl',tm',h',R',V',SV',c1,c2,r1,r2⟩:=next v h1 hkd hk hn1;have hsd:jS E.P E.xt (jX (qE tm f) (q.args.toList.map (qE tm)) h (.ret v) h1 call):=by
         intro fv a k r k' he;unfold jX at he;split at he
         ·rename_i hq;obtain ⟨rfl,rfl,rfl⟩:=hq;cases he;exact hcs
         ·exact c1 _ _ _ _ _ he
        have hev:jQ E.P E.tb E.xt (jX (qE tm f) (q.args.toList.map (qE tm)) h (.ret v) h1 call) o tm h=some (.ok v h1):=by
         simp [jQ,hq,vC,hf,jX,uO]
        have hd:jJ E.P E.tb E.xt (jX (qE tm f) (q.args.toList.map (qE tm)) h (.ret v) h1 call) ops o m st=some (upd o m st v h1 .eff):=by
         unfold jJ zT;rw [I.ftm,haw,hkd];simp only [cond_true];rw [hch2];simp only [cond_true];rw [hov,hev]
        refine ⟨p,hpL,jX (qE tm f) (q.args.toList.map (qE tm)) h (.ret v) h1 call,st',ne',mj',dl',tm',h',R',V',SV',hsd,⟨fun fv a k r he=> ?_,by have:=c2.2;omega⟩,?_,r2⟩
        ·unfold jX at he;split at he
         ·rename_i hq;rw [hq.2.2];have:=c2.2;omega
         ·have:=c2.1 _ _ _ _ he;omega
        ·rw [jA,hd];simp only;refine vF c1 ol ms _ _ (fun fv a k r hk hr=> ?_) r1;unfold jX;rw [if_neg (fun hq=> ?_)]
         ·exact hr
         ·simp only [upd] at hk;rw [hq.2.2] at hk;omega
      ·cases hcl2
     ·cases hcl2
def qCb (nt:Nat) (ops:Array Oper) (k1 k2 k3:Nat) (P:List (Nat×Nat)):Bool:=
 let L:=ops.toList
 let l:=L.take k1
 let aos:=(L.drop k1).take k2
 let l2:=(L.drop (k1+k2)).take k3
 let pre:=l++(aos++l2)
 match sta ⟨pre⟩ with
 |none=>false
 |some s=>Nat.ble s.mx nt && (l.all (fun o=>calm o.op) && (aos.all (isAl nt) && (Nat.beq aos.length k2 && (Nat.beq l.length k1 && (Nat.ble (k1+k2) s.ms.length &&
   ((s.ms.take k1).all (fun m=>(xYR k1 k2).all fun f=> !bt m f) &&
   (match qA6 [] pre.length l s.ms 0 0 0 0 [] [] with
   |none=>false
   |some (SRA,_)=>(match pG (xYR k1 k2) pre.length l2 (s.ms.drop (k1+k2)) (k1+k2) 0 0 0 SRA [] with
    |none=>false
    |some LL=>LL.all fun p=>p.1.all fun r=>p.2.all (ordd P r))) &&
   (uG pre (L.drop (k1+k2+k3)) && pre.all (kE pre.length))))))))
end
section
variable {E:Env} {nt:Nat} {ops:Array Oper} {r:Option Nat} {mks:List Nat}
theorem SemC.drawnL (htb:Tb E.P E.tb) (hm:E.P.follows .mixedOrders=true) {id:Nat} (k1 k2 k3:Nat) (P:List (Nat×Nat)) (hst:qCb nt ops k1 k2 k3 P=true) {tm:T AV} {h:Hp} {Q:Ex->St->Prop}
  (hw:WOW E nt ops (ops.toList.take k1) 0 0 tm h [] [(0,h.t)] (fun tm1 h1 R1 _=>WOA E ((ops.toList.drop k1).take k2) tm1 h1.n [] (fun tm2 os=>WOW E nt ops ((ops.toList.drop (k1+k2)).take k3) (k1+k2) 0 tm2 {t:=vK h1.t h1.n os,n:=h1.n+k2} R1 [(0,vK h1.t h1.n os)] (fun tm3 h3 R V=>qBT E P R V/\WO E nt ops (ops.toList.drop (k1+k2+k3)) tm3 h3 (regK ⟨tm,nt,h,mks⟩ Q))))):W E r (.region id ops true) ⟨tm,nt,h,mks⟩ Q:=by
 unfold qCb at hst;simp only at hst;obtain ⟨l,hl⟩: ∃l,l=ops.toList.take k1:=⟨_,rfl⟩;obtain ⟨aos,has⟩: ∃aos,aos=(ops.toList.drop k1).take k2:=⟨_,rfl⟩;obtain ⟨l2,hl2⟩: ∃l2,l2=(ops.toList.drop (k1+k2)).take k3:=⟨_,rfl⟩;obtain ⟨rest,hrest⟩: ∃rest,rest=ops.toList.drop (k1+k2+k3):=⟨_,rfl⟩;have hall:l++(aos++l2)++rest=ops.toList:=by
  have a3:ops.toList.drop (k1+k2+k3)=(ops.toList.drop (k1+k2)).drop k3:=by rw [xYJ]
  have a2:ops.toList.drop (k1+k2)=(ops.toList.drop k1).drop k2:=by rw [xYJ]
  rw [hl,has,hl2,hrest,a3,xYO,xYO,xZJ,a2,xZJ,xZJ]
 rw [<-hl,<-has,<-hl2,<-hrest] at hst hw;cases hs:sta ⟨l++(aos++l2)⟩ with
 |none=>rw [hs] at hst;cases hst
 |some s=>
 rw [hs] at hst;simp only [xZW] at hst;obtain ⟨hmx,hcalm,hisal,hask,hlk,hms,⟨hnb,hw2⟩,hlast,hgl⟩:=hst;have hask:=xZX hask;have hlk:=xZX hlk;have hms:k1+k2<=s.ms.length:=xZI hms;obtain ⟨pre,hpre⟩: ∃pre,pre=l++(aos++l2):=⟨_,rfl⟩;rw [<-hpre] at hs hw2 hlast hgl hall;have hgd: ∀o∈pre,∀j w,o.guard=some (j,w)->(⟨pre⟩:Array Oper)[j]? =ops[j]? :=fun o ho j w hg=>by
  have:=xZT.1 hgl o ho;unfold kE at this;rw [hg] at this;simp only [xZH] at this;rw [<-xZO,<-xZO,<-hall];simp [xZL this]
 have hgl1: ∀o∈l,∀j w,o.guard=some (j,w)->(⟨pre⟩:Array Oper)[j]? =ops[j]? :=fun o ho=>hgd o (by rw [hpre];simp [ho]);have hgl2: ∀o∈l2,∀j w,o.guard=some (j,w)->(⟨pre⟩:Array Oper)[j]? =ops[j]? :=fun o ho=>hgd o (by rw [hpre];simp [ho]);split at hw2
 ·cases hw2
 rename_i SRA SVA hsa;split at hw2
 ·cases hw2
 rename_i LL hsc;have hall2:=xZT.1 hw2;have hw1:=qAi (ops':=⟨pre⟩) l 0 0 tm h [] [(0,h.t)] _ _ hgl1 (fun _ _ _ _ hh=>hh) hw;obtain ⟨call1,st1,ne1,mj1,dl1,tm1,h1,R1,V1,SV1,cs1,cr1,run1,I1,eSV,hq1⟩:=pM (AL:=[]) (h0:=h.t) (HA:=h.t) (FS:=[]) (fun _ _=>rfl) (fun _ _ _=>rfl) l s.ms 0 0 0 0 tm h [] [(0,h.t)] [] [] {i:=0,tm:=tm,n:=h.n,b:=h.t,mj:=0,dl:=0,ne:=0,fs:=[],bs:=[],rs:=[]} hw1 hsa
  ⟨rfl,rfl,rfl,rfl,rfl,.inr rfl,rfl,fun _=>⟨rfl,rfl,rfl⟩,fun hz=>absurd hz (Nat.lt_irrefl _),by simp,by simp,by simp⟩
 have hcal0: ∀(l:List Oper) (ms:List Nat) (i ne mj dl:Nat) (SR:List SRd) (SV:List SVe) (SRz:List SRd) (SVz:List SVe),l.all (fun o=>calm o.op)=true->qA6 [] pre.length l ms i ne mj dl SR SV=some (SRz,SVz)->SVz=(ne,mj,pre.length)::SV/\ ∀x∈SRz,x∈SR\/x.2.2=ne/\x.2.1∈ms.take l.length:=by
  intro l;induction l with
  |nil=>
   intro ms i ne mj dl SR SV SRz SVz _ hx;simp only [qA6,Option.some.injEq,Prod.mk.injEq] at hx;exact ⟨hx.2.symm,fun x hx'=> .inl (by rw [hx.1];exact hx')⟩
  |cons o l ih=>
   intro ms i ne mj dl SR SV SRz SVz hc hx;simp only [List.all_cons,xZW] at hc;cases ms with
   |nil=>simp [qA6] at hx
   |cons m ms=>
    simp only [qA6,hc.1,cond_true] at hx;split at hx
    ·obtain ⟨_,hx⟩:=qU hx;obtain ⟨q1,q2⟩:=ih ms _ _ _ _ _ _ _ _ hc.2 hx;refine ⟨q1,fun x hx'=> ?_⟩;rcases q2 x hx' with h3|h3
     ·rcases xZP.1 h3 with rfl|h3
      ·exact .inr ⟨rfl,by simp⟩
      ·exact .inl h3
     ·exact .inr ⟨h3.1,by simp [h3.2]⟩
    ·obtain ⟨q1,q2⟩:=ih ms _ _ _ _ _ _ _ _ hc.2 hx;refine ⟨q1,fun x hx'=> ?_⟩;rcases q2 x hx' with h3|h3
     ·exact .inl h3
     ·exact .inr ⟨h3.1,by simp [h3.2]⟩
 obtain ⟨eSVA,hSRA⟩:=hcal0 l s.ms 0 0 0 0 [] [] SRA SVA hcalm hsa;rw [eSV] at eSVA;simp only [List.cons.injEq,Prod.mk.injEq] at eSVA;obtain ⟨⟨rfl,rfl,_⟩,rfl⟩:=eSVA;rw [xZN] at I1;obtain ⟨z1,z2,z3⟩:=I1.fz rfl;have hbs1:st1.bs=[]:=by
  cases hb:st1.bs with
  |nil=>rfl
  |cons e _=>have:=(I1.fbs e (by rw [hb];exact xZV)).1;simp at this
 obtain ⟨st2,os,tm2,run2,est2,hosl,hq2⟩:=qFd (nt:=nt) (ops:=⟨pre⟩) (call:=qAA) aos (s.ms.drop l.length) tm1 h1.n [] st1 hq1 hisal (by rw [List.length_drop];omega) I1.ftm I1.fn;rw [List.nil_append] at hq2;have hfs2:st2.fs=feL k1 h1.n os:=by rw [est2];simp [I1.ffs,I1.fi,hlk]
 have hAL: ∀(q:Nat->Bool) (b:Bool),(∀f∈xYR k1 k2,q f=b)-> ∀f,k1<=f->f<k1+os.length->q f=b:=fun q b hq f h1 h2=>hq f (List.mem_range'_1.2 ⟨h1,by omega⟩);have hw3:=qAi (ops':=⟨pre⟩) l2 (k1+k2) 0 tm2 _ R1 _ _ _ hgl2 (fun _ _ _ _ hh=>hh) hq2;obtain ⟨⟨SR,SV⟩,hpL,call3,st3,ne3,mj3,dl3,tm3,h3,R3,V3,SV3,cs3,cr3,run3,I3,eSV3,hsame,hq3⟩:=uR (AL:=xYR k1 k2) (h0:=h.t) (HA:=vK h1.t h1.n os) (FS:=feL k1 h1.n os)
  (fun q hq=>by rw [z3];exact qB7 q _ os k1 h1.n (hAL q true hq)) (fun q b hq=>qEO q b os k1 h1.n (hAL q false hq)) l2 (s.ms.drop (k1+k2)) (k1+k2) 0 0 0 tm2 {t:=vK h1.t h1.n os,n:=h1.n+k2} R1 [(0,vK h1.t h1.n os)] SRA [] st2 _ hw3 hsc
  ⟨by rw [est2];simp [I1.fi,hlk,hask],by rw [est2],by rw [est2];simp [hask],by rw [est2];exact I1.fne,by rw [est2];exact I1.fmj,.inr rfl,hfs2,fun _=>⟨rfl,by rw [est2];exact z2,rfl⟩,fun hz=>absurd hz (Nat.lt_irrefl _),fun r hr=>by
   have hr1:r∈st1.rs:=by rw [est2] at hr;exact hr
   obtain ⟨q1,q2,_⟩:=I1.frs r hr1;refine ⟨q1,q2,.inr ?_⟩;rcases hSRA _ q1 with h4|h4
   ·simp at h4
   ·refine ⟨h4.1,fun f hf=> ?_⟩;have hm1:r.m∈s.ms.take k1:=by rw [<-hlk];exact h4.2
    have:=xZT.1 (xZT.1 hnb _ hm1) f hf;simpa using this,fun e he=>by
   rw [est2] at he;rw [show ({st1 with i:=st1.i+aos.length,tm:=tm2,n:=h1.n+aos.length,fs:=feL st1.i h1.n os++st1.fs}:DS).bs=st1.bs from rfl,hbs1] at he;simp at he,by simp⟩
 have hpair:=fun r hr e he=>xZT.1 (xZT.1 (hall2 _ hpL) r hr) e he;have eSV3:SV=_:=eSV3;obtain ⟨callm,hcm⟩: ∃callm:jE,callm=fun f a k=>match call3 f a k with|some r=>some r|none=>call1 f a k:=⟨_,rfl⟩
 have csm:jS E.P E.xt callm:=by
  intro f a k r k' he;rw [hcm] at he;simp only at he;split at he
  ·rename_i r' hr';cases he;exact cs3 _ _ _ _ _ hr'
  ·exact cs1 _ _ _ _ _ he
 have run1:=vF (call':=callm) cs1 _ _ _ _ (fun fv a k r _ hr=>by
  rw [hcm];simp only;cases hc3:call3 fv a k with
  |none=>exact hr
  |some r'=>
   have b1:=cr1.1 _ _ _ _ hr;have b2:=cr3.1 _ _ _ _ hc3;simp only at b2;omega) run1
 have run2:=vF (call':=callm) (yZ E.P E.xt) _ _ _ _ (fun fv a k r _ hr=>by cases hr) run2;have run3:=vF (call':=callm) cs3 _ _ _ _ (fun fv a k r _ hr=>by rw [hcm];simp only [hr]) run3;have hrun:yP E.P E.tb E.xt callm ⟨pre⟩ (⟨pre⟩:Array Oper).toList s.ms {i:=0,tm:=tm,n:=h.n,b:=h.t,mj:=0,dl:=0,ne:=0,fs:=[],bs:=[],rs:=[]}=some st3:=by
  have e0:yP E.P E.tb E.xt callm ⟨pre⟩ (l++(aos++l2)) s.ms {i:=0,tm:=tm,n:=h.n,b:=h.t,mj:=0,dl:=0,ne:=0,fs:=[],bs:=[],rs:=[]}=some st3:=by
   rw [xB _ _ _ _ _ run1,xB _ _ _ _ _ run2,xYJ,hlk,hask];exact run3
  rw [<-hpre] at e0;exact e0
 have hchk:DChk E.P E.tb E.xt callm st3 (⟨pre⟩:Array Oper).size:=by
  intro r hr e he;obtain ⟨q1,⟨re,p1,p2,p3,p4,p5,p6,p7⟩,q3⟩:=I3.frs r hr;obtain ⟨e1,e2,e3⟩:(e.j,e.mj,e.nx)∈SV/\(e.j=0->e.b=h.t/\e.mj=0)/\(0<e.j->(e.j,e.b)∈V3/\ ∀f∈xYR k1 k2,bt e.mj f=true):=by
   rcases xZP.1 he with rfl|he
   ·refine ⟨by rw [eSV3];simp [I3.fne,I3.fmj],fun hz=> ?_,fun hz=> ?_⟩
    ·simp only [I3.fne] at hz;have:=I3.fz hz;exact ⟨this.2.1,by simp [I3.fmj,this.1]⟩
    ·simp only [I3.fne] at hz;have:=I3.fs hz;exact ⟨by simp only [I3.fne,this.2.1];exact this.2.2,by simpa [I3.fmj] using this.1⟩
   ·have:=I3.fbs e he;exact ⟨by rw [eSV3];exact xZZ _ this.1,this.2⟩
  have ho:=hpair _ q1 _ e1;unfold ordd at ho;simp only [xZB] at ho;rcases ho with ho|ho|ho|ho
  ·exact .inl (xZX ho)
  ·exact .inr (.inl ho)
  ·exact .inr (.inr (.inl ho))
  have key: ∀t,(e.j,t)∈V3->ovl (fun f=>bt r.m f && !bt e.mj f) st3.fs e.b=t-> ∃h'',jQ E.P E.tb E.xt callm r.o r.tm {t:=ovl (fun f=>bt r.m f && !bt e.mj f) st3.fs e.b,n:=r.n}=some (.ok r.v h''):=fun t ht heq=>by
   have:=hsame re p1 (e.j,t) ht (by rw [p2];exact ho);rw [p3,p4,p5,p6] at this;rw [heq,j7 rfl p7,this];exact ⟨_,rfl⟩
  rcases xZF e.j with hz|hz
  ·obtain ⟨e4,e5⟩:=e2 hz;rcases q3 with q3|q3
   ·refine .inr (.inr (.inr (key (vK h1.t h1.n os) (by rw [hz];exact I3.fv) ?_)));rw [I3.ffs,e4,z3];exact qB7 _ _ os k1 h1.n (hAL _ true fun f hf=>by rw [q3 f hf,e5,pA];rfl)
   ·exact .inl (by rw [hz,q3.1])
  ·obtain ⟨e4,e5⟩:=e3 hz;refine .inr (.inr (.inr (key e.b e4 ?_)));rw [I3.ffs];exact qEO _ _ os k1 h1.n (hAL _ false fun f hf=>by rw [e5 f hf];simp)
 obtain ⟨n1,s1⟩:=pZ htb csm hs (xZI hmx) hrun hchk;have e1:({t:=ovl (fun f=> !bt st3.mj f) st3.fs st3.b,n:=st3.n}:Hp)=h3:=by
  have:ovl (fun f=> !bt st3.mj f) st3.fs st3.b=h3.t:=by
   rw [I3.ffs];rcases xZF ne3 with hz|hz
   ·obtain ⟨y1,y2,y3⟩:=I3.fz hz;rw [y2,y3,z3];exact qB7 _ _ os k1 h1.n (hAL _ true fun f hf=>by rw [I3.fmj,y1,pA];rfl)
   ·obtain ⟨y1,y2,_⟩:=I3.fs hz;rw [y2];exact qEO _ _ os k1 h1.n (hAL _ false fun f hf=>by rw [I3.fmj,y1 f hf];rfl)
  rw [this,I3.fn]
 rw [e1] at s1;rw [I3.fn] at n1 s1;rw [I3.ftm] at s1;have hd:DrX E nt ⟨pre⟩ tm h .normal tm3 h3:=⟨n1,s1⟩;obtain ⟨x,tm4,h4,hd2,hq4⟩:=DrX.lasts htb rest pre tm3 h3 hlast (fun j hj=>by rw [hall,xZO]) hd hq3;rw [hall] at hd2;have lift: ∀{a:Act} {w:World} {r:Option Nat} {id:Nat} {Q:Exit->Act->World->Prop},(∀t,wpOpsIn (Wd r) 0 E.P ops Q (Region.linearise .any ops t) a {w with drawn:=w.drawn+1})->(Code.region id ops true).wpIn (Wd r) 0 E.P Q a w:=fun hh=>by
  refine wpIn_region_draw fun t=> ?_;simp only [Region.schedule,hm,xYG,if_true];exact hh t
 have hds:DrwS E nt ops tm h x tm4 h4:=⟨hd2.1,fun lim hl c a w r id g hxt ht Q hQ=>lift fun t=>hd2.2 lim hl c a w r t g hxt ht Q hQ⟩;exact ⟨_,_,.regionD (st:=⟨tm,nt,h,mks⟩) hds,hq4⟩
theorem jL (ok:SyOk E) {id:Nat} {b:Code} {tm:T AV} {h:Hp} {Q:Ex->St->Prop} (k1 k2 k3:Nat) (P:List (Nat×Nat)) (hst:qCb nt ops k1 k2 k3 P=true) (hw: ∀K:Ex->T AV->Hp->Prop,(∀tm h,wpc E r b ⟨tm,nt,h,mks⟩ Q->K .normal tm h)->(∀v tm h,Q (.panic v) ⟨tm,nt,h,mks⟩->K (.panic v) tm h)->WOW E nt ops (ops.toList.take k1) 0 0 tm h [] [(0,h.t)] (fun tm1 h1 R1 _=>WOA E ((ops.toList.drop k1).take k2) tm1 h1.n [] (fun tm2 os=>WOW E nt ops ((ops.toList.drop (k1+k2)).take k3) (k1+k2) 0 tm2 {t:=vK h1.t h1.n os,n:=h1.n+k2} R1 [(0,vK h1.t h1.n os)] (fun tm3 h3 R V=>qBT E P R V/\WO E nt ops (ops.toList.drop (k1+k2+k3)) tm3 h3 K)))):
  wpc E r (.seq (.region id ops true) b) ⟨tm,nt,h,mks⟩ Q:=by
 show W E r (.region id ops true) ⟨tm,nt,h,mks⟩ (hH (fun s=>wpc E r b s Q) Q);exact SemC.drawnL ok.tb ok.mixed k1 k2 k3 P hst (hw _ (fun tm h hh=>hh) (fun v tm h hh=>hh))
theorem regL (ok:SyOk E) {id:Nat} {tm:T AV} {h:Hp} {Q:Ex->St->Prop} (k1 k2 k3:Nat) (P:List (Nat×Nat)) (hst:qCb nt ops k1 k2 k3 P=true) (hw: ∀K:Ex->T AV->Hp->Prop,(∀tm h,Q .normal ⟨tm,nt,h,mks⟩->K .normal tm h)->(∀v tm h,Q (.panic v) ⟨tm,nt,h,mks⟩->K (.panic v) tm h)->WOW E nt ops (ops.toList.take k1) 0 0 tm h [] [(0,h.t)] (fun tm1 h1 R1 _=>WOA E ((ops.toList.drop k1).take k2) tm1 h1.n [] (fun tm2 os=>WOW E nt ops ((ops.toList.drop (k1+k2)).take k3) (k1+k2) 0 tm2 {t:=vK h1.t h1.n os,n:=h1.n+k2} R1 [(0,vK h1.t h1.n os)] (fun tm3 h3 R V=>qBT E P R V/\WO E nt ops (ops.toList.drop (k1+k2+k3)) tm3 h3 K)))):
  wpc E r (.region id ops true) ⟨tm,nt,h,mks⟩ Q:=by
 show W E r (.region id ops true) ⟨tm,nt,h,mks⟩ Q;exact SemC.drawnL ok.tb ok.mixed k1 k2 k3 P hst (hw _ (fun tm h hh=>hh) (fun v tm h hh=>hh))
end
structure FrM (M:Nat->Prop) (n:Nat) (h h':Hp):Prop where
 lo:n<=h'.n
 le:h.n<=h'.n
 at_: ∀k,(k<n\/h'.n<=k)-> ¬M k->h'.t.get k=h.t.get k
section
variable {M:Nat->Prop} {n m:Nat} {h h1 h2:Hp}
theorem FrM.refl (hn:n<=h.n):FrM M n h h:=⟨hn,xZY _,fun _ _ _=>rfl⟩
theorem FrM.of (f:Fr n h h1):FrM M n h h1:=⟨f.lo,f.le,fun k hk _=>f.at_ k hk⟩
theorem FrM.trans (f:FrM M n h h1) (g:FrM M m h1 h2) (hm:n<=m):FrM M n h h2:=by
 refine ⟨xZU hm g.lo,xZU f.le g.le,fun k hk hM=> ?_⟩;have:=f.lo;have:=g.le;have:=g.lo;rw [g.at_ k (by omega) hM,f.at_ k (by omega) hM]
theorem FrM.fr (f:FrM M n h h1) (g:Fr m h1 h2) (hm:n<=m):FrM M n h h2:=f.trans (FrM.of g) hm
theorem FrM.new (f:FrM M n h h1) (o:AO):FrM M n h (h1.new o):=f.fr (Fr.new (Fr.refl f.lo) o) (xZY _)
theorem FrM.up (f:FrM M n h h1) (hm:h1.n<=m):FrM M n h (h1.up m):=f.fr (Fr.up (Fr.refl f.lo) hm) (xZY _)
theorem FrM.set (f:FrM M n h h1) {b:Nat} (hb:(n<=b/\b<h1.n)\/M b) (o:AO):FrM M n h (h1.set b o):=by
 refine ⟨f.lo,f.le,fun k hk hM=> ?_⟩;simp only [Hp.set_t,Hp.set_n] at hk ⊢;rw [T.get_put,if_neg (by rintro rfl;rcases hb with hb|hb;omega;exact hM hb)];exact f.at_ k hk hM
theorem FrM.del (f:FrM M n h h1) {b:Nat} (hb:n<=b) (hb':b<h1.n):FrM M n h (h1.del b):=by
 refine ⟨f.lo,f.le,fun k hk hM=> ?_⟩;simp only [Hp.del_t,Hp.del_n] at hk ⊢;rw [T.get_put,if_neg (by omega)];exact f.at_ k hk hM
theorem FrM.toFr (f:FrM M m h1 h2) (g:Fr n h h1) (hn:n<=m) (hM: ∀k,M k->n<=k/\k<h1.n):Fr n h h2:=by
 have a:=g.lo;have b:=f.le;have c:=f.lo;have d:=g.le;refine ⟨by omega,by omega,fun k hk=> ?_⟩;rw [f.at_ k (by omega) (fun hm=>by have:=hM k hm;omega),g.at_ k (by omega)]
theorem FrM.get (f:FrM M n h h1) {k:Nat} (hk:k<n) (hM: ¬M k):h1.t.get k=h.t.get k:=f.at_ k (.inl hk) hM
theorem RowAt.frM {xt:Xt} {sz:Nat} {v:AV} {cs:List (List Value)} (r:RowAt xt h sz v cs) (f:FrM M n h h1) (hn:h.n<=n) (hM: ∀k,k<h.n-> ¬M k):RowAt xt h1 sz v cs:=r.keep f.le fun b hb=>f.get (by omega) (hM b hb)
end
theorem vQ (h:Hp) (o:AO): ∃h1:Hp,h1=h.new o/\h1.n=h.n+1/\h1.t.get h.n=some o/\(∀k,k<h.n->h1.t.get k=h.t.get k)/\Fr h.n h h1:=
 ⟨_,rfl,rfl,by simp [Hp.new_t,T.get_put],fun k hk=>by simp only [Hp.new_t];rw [T.get_put,if_neg (by omega)],(Fr.refl (xZY _)).new _⟩
theorem yJ {h0 h:Hp} {n:Nat} (f:Fr h0.n h0 h) (hn:h.n=h0.n+n) (o:AO): ∃h1:Hp,h1=h.new o/\h1.n=h0.n+(n+1)/\h1.t.get (h0.n+n)=some o/\(∀k,k<h0.n+n->h1.t.get k=h.t.get k)/\Fr h0.n h0 h1:=by
 obtain ⟨h1,e1,e2,e3,e4,e5⟩:=vQ h o;rw [hn] at e2 e3 e4;exact ⟨h1,e1,by omega,e3,e4,f.trans e5 (by omega)⟩
theorem nsE (h:Hp) (z o:AO): ∃h1:Hp,h1=(h.new z).set h.n o/\h1.n=h.n+1/\h1.t.get h.n=some o/\(∀k,k<h.n->h1.t.get k=h.t.get k)/\Fr h.n h h1:=
 ⟨_,rfl,rfl,by simp [Hp.set_t,T.get_put],fun k hk=>by simp only [Hp.set_t,Hp.new_t];rw [T.get_put,if_neg (by omega),T.get_put,if_neg (by omega)],((Fr.refl (xZY _)).new _).set (xZY _) (Nat.lt_succ_self _) _⟩
theorem nsF {h0 h:Hp} {n:Nat} (f:Fr h0.n h0 h) (hn:h.n=h0.n+n) (z o:AO): ∃h1:Hp,h1=(h.new z).set h.n o/\h1.n=h0.n+(n+1)/\h1.t.get (h0.n+n)=some o/\(∀k,k<h0.n+n->h1.t.get k=h.t.get k)/\Fr h0.n h0 h1:=by
 obtain ⟨h1,e1,e2,e3,e4,e5⟩:=nsE h z o;rw [hn] at e2 e3 e4;exact ⟨h1,e1,by omega,e3,e4,f.trans e5 (by omega)⟩
abbrev LH (h:Hp) (rc:ALoop):Hp:=(h.new .deferred).new (.loop rc)
theorem vV (h:Hp) (rc:ALoop) {k:Nat} (hk:k<h.n):(LH h rc).t.get k=h.t.get k:=by
 simp only [LH,Hp.new_t,Hp.new_n];rw [T.get_put,if_neg (by omega),T.get_put,if_neg (by omega)]
theorem LH_l (h:Hp) (rc:ALoop):(LH h rc).t.get (h.n+1)=some (.loop rc):=by simp [LH,Hp.new_t,Hp.new_n,T.get_put]
theorem LH_d (h:Hp) (rc:ALoop):(LH h rc).t.get h.n=some .deferred:=by simp [LH,Hp.new_t,Hp.new_n,T.get_put]
theorem gJ (h:Hp) (rc:ALoop):Fr h.n h (LH h rc):=((Fr.refl (xZY _)).new _).new _
theorem FrM.sub {M M':Nat->Prop} {n:Nat} {h h1:Hp} (f:FrM M n h h1) (hm: ∀k,M k->M' k):FrM M' n h h1:=⟨f.lo,f.le,fun k hk hM=>f.at_ k hk fun e=>hM (hm k e)⟩
theorem end_1d {E:Env} {fn:Func} {K:KP} {tm:T AV} {nt:Nat} {h:Hp} {t:Tmp} {d:Nat} (h1:fn.results.toList=[.tmp t]) (hd:h.t.get d=some .deferred) (h3:K (.ret ((tm.get t).getD default)) (h.del d)):xX E fn K .ret ⟨tm,nt,h,[d]⟩:=by
 have e1:(match tm.get t with|some a=>a|none=>default)=(tm.get t).getD default:=by cases tm.get t<;>rfl
 refine ⟨h.del d,[(tm.get t).getD default],?_,?_,h3⟩
 ·show (match h.t.get d with|some .deferred=>vD [] (h.del d)|_=>none)=_;rw [hd];rfl
 ·rw [h1,<-e1];rfl
def qCg (E:Env) (yv:AV) (args:List AV) (A B S:Hp->Prop):Prop:= ∀h,A h->CallA E yv args h fun res h2=>(res= .ret (.val (.bool true))/\B h2)\/(res= .ret (.val (.bool false))/\S h2)
abbrev ALoop.busy (rc:ALoop):ALoop:={rc with state:= .busy}
abbrev ALoop.left (rc:ALoop) (c:Code):ALoop:={rc with state:= .done,pending:=some c}
def bodyK (l:Nat) (rc:ALoop) (B:Hp->Prop) (S:Ex->Hp->Prop) (x:Ex) (s:St):Prop:=
 s.mks=[]/\s.h.t.get l=some (.loop rc.busy)/\((x= .normal/\B (s.h.set l (.loop rc)))\/(∃c,yA x=some (some c)/\S x (s.h.set l (.loop (rc.left c)))))
def assignK (E:Env) (l:Nat) (rc:ALoop) (h:Hp) (cb:Code) (B:Hp->Prop) (S:Ex->Hp->Prop) (x:Ex) (s:St):Prop:=
 x= .normal/\s.mks=[]/\s.h=h/\wpc E (some l) cb ⟨s.tm,s.nt,h.set l (.loop rc.busy),[]⟩ (bodyK l rc B S)
theorem SemC.goto {E:Env} {r:Option Nat} {t:Nat} {st:St}:SemC E r (.goto t) st (.goto t) st:=⟨xZY _,fun _ _ _ c _ _ s _ _ hQ=>wpIn_goto (hQ _ _ _ ⟨c,Stp.refl s.good,rfl,s⟩)⟩
theorem yW {E:Env} (ok:SyOk E) {l:Nat} {rc:ALoop} (c1:rc.state= .ready) (c2:rc.pending=none) {tm0:T AV} {nt:Nat} {ps:Array Tmp} {ca cb:Code} (c3:rc.tmps=tm0) (c4:rc.nt=nt) (c5:rc.params=ps) (c6:rc.assign=ca) (c7:rc.body=cb) {args:List AV} {A B:Hp->Prop} {S:Ex->Hp->Prop}
  (hA: ∀h,A h->h.t.get l=some (.loop rc)) (hb: ∀h,A h-> ∃tm1,uN nt ps.toList args tm0=some tm1/\wpc E (some l) ca ⟨tm1,nt,h,[]⟩ (assignK E l rc h cb B S)):
  qCg E (.yld l) args A B (fun h2=> ∃x,S x h2):=by
 intro h ha;obtain ⟨tm1,hp,hw⟩:=hb h ha;refine CallA.round (hA h ha) c1 (by rw [c3,c4,c5];exact hp) ?_;rw [c4,c6,c7];refine (wpc.ok ok.tb _ _ _ hw).mono ?_;rintro x ⟨tm1,nt1,hh1,mk1⟩ ⟨q1,q2,q3,q5⟩;simp only at q2 q3 q5;subst q2;subst q3;refine ⟨q1,rfl,rc,hA _ ha,c1,(wpc.ok ok.tb _ _ _ q5).mono ?_⟩;rintro y ⟨tm2,nt2,hh2,mk2⟩ ⟨r1,r2,r3⟩;simp only at r1 r2 r3;subst r1;rcases r3 with ⟨rfl,hB⟩|⟨c,hj,hS⟩
 ·refine ⟨none,_,rfl,rfl,r2,.inl ⟨rfl,?_⟩⟩;have e:({rc.busy with state:= .ready,pending:=none}:ALoop)=rc:=by
   cases rc;simp only at c1 c2;subst c1;subst c2;rfl
  simp only [Option.isNone_none,if_true];rw [e];exact hB
 ·exact ⟨some c,_,hj,rfl,r2,.inr ⟨rfl,y,hS⟩⟩
theorem kL {E:Env} (ok:SyOk E) {f:Operand} {ps:Array Tmp} {ca cb:Code} {tm:T AV} {nt:Nat} {h:Hp} {mks:List Nat} {Q:Ex->St->Prop} {g:FuncId} {xs:List AV} {S:ALoop->Ex->Hp->Prop} {Z:ALoop->Hp->Prop}
  (hcal:callee (qE tm f) [.yld (h.n+1)]=some (g,xs))
  (hgen: ∀rc:ALoop,rc.state= .ready->rc.pending=none->rc.tmps=tm->rc.nt=nt->rc.params=ps->rc.assign=ca->rc.body=cb->FnA E g xs ((h.new .deferred).new (.loop rc)) (fun res h'=>(∃v,res= .ret v)/\(Z rc h'\/ ∃x,S rc x h')))
  (hz: ∀rc h',rc.state= .ready->rc.pending=none->Z rc h'->h'.t.get (h.n+1)=some (.loop rc)/\Q .normal ⟨tm,nt,h'.set (h.n+1) (.loop {rc with state:= .exhausted}),h.n::mks⟩)
  (hs: ∀rc x h',S rc x h'-> ∃c,yA x=some (some c)/\h'.t.get (h.n+1)=some (.loop (rc.left c))/\Q x ⟨tm,nt,h'.set (h.n+1) (.loop {rc.left c with state:= .exhausted}),h.n::mks⟩):
  wpc E none (.rangeFunc f ps ca cb) ⟨tm,nt,h,mks⟩ Q:=by
 refine wpc_range ok hcal fun rc c1 c2 c3 c4 c5 c6 c7=>(hgen rc c1 c2 c3 c4 c5 c6 c7).mono ?_;rintro res h' ⟨⟨v,rfl⟩,hzs⟩;rcases hzs with hZ|⟨x,hS⟩
 ·obtain ⟨p1,p2⟩:=hz rc h' c1 c2 hZ;exact ⟨rc,p1,by rw [c1];simp,fun _=>p2,fun c hc=>by rw [c2] at hc;cases hc⟩
 ·obtain ⟨c,hj,p1,p2⟩:=hs rc x h' hS;refine ⟨rc.left c,p1,by simp,fun hc=>by simp at hc,fun c' hc=> ?_⟩;simp only [Option.some.injEq] at hc;subst hc;cases x with
  |normal=>simp [yA] at hj
  |panic v=>simp [yA] at hj
  |ret=>simp only [yA,Option.some.injEq] at hj;subst hj;exact ⟨_,_,SemC.ret,p2⟩
  |exit id=>simp only [yA,Option.some.injEq] at hj;subst hj;exact ⟨_,_,SemC.exit,p2⟩
  |goto id=>simp only [yA,Option.some.injEq] at hj;subst hj;exact ⟨_,_,SemC.goto,p2⟩
section
variable {E:Env} {nt:Nat} {ops:Array Oper}
end
section
variable {E:Env} {nt:Nat} {ops:Array Oper} {r:Option Nat} {mks:List Nat}
end
abbrev Fs:=List (Nat×Nat×AO)
def toFE (fs:Fs):List FE:=fs.map fun x=>{f:=x.1,s:=x.2.1,cnt:=1,os:=T.put .e (some x.2.2) x.2.1}
def inL (f:Nat):List Nat->Bool
 |[]=>false
 |a::l=>Nat.beq a f || inL f l
def jT (i:Nat):List (Nat×List Nat)->List Nat
 |[]=>[]
 |x::r=>bif Nat.beq x.1 i then x.2 else jT i r
def vL (p inc:List Nat):Fs->T AO->T AO
 |[],b=>b
 |x::fs,b=>bif inL x.1 p && !inL x.1 inc then vL p inc fs (b.put (some x.2.2) x.2.1) else vL p inc fs b
theorem qA3 {q:Nat->Bool} {p inc:List Nat}: ∀(fs:Fs) (b:T AO),(∀x∈fs,q x.1=(inL x.1 p && !inL x.1 inc))->ovl q (toFE fs) b=vL p inc fs b
 |[],_,_=>rfl
 |x::fs,b,h=>by
  have h1:=h x xZV;have h2:=fun b=>qA3 fs b fun y hy=>h y (xZZ _ hy);simp only [toFE,xYU,ovl,vL] at h2 ⊢;rw [h1];cases inL x.1 p && !inL x.1 inc
  ·simp only [cond_false];exact h2 b
  ·simp only [cond_true,mrg,T.get_put,if_true];exact h2 _
abbrev VeG:=List (Nat×List Nat×T AO)
def kU:Op->Bool
 | .alloc _=>true
 | .buildSlice _ _ _=>true
 |_=>false
def qBi (N:Nat):List Oper->List Nat->Nat->Nat->Nat->Nat->List SRd->List SVe->Option (List SRd×List SVe)
 |[],_,_,ne,mj,_,SR,SV=>some (SR,(ne,mj,N)::SV)
 |_::_,[],_,_,_,_,_,_=>none
 |o::ol,m::ms,i,ne,mj,dl,SR,SV=>
  bif calm o.op then
   (match q8 o.op with
   | .read=>qBi N ol ms (i+1) ne mj dl ((i,m,ne)::SR) SV
   |_=>qBi N ol ms (i+1) ne mj dl SR SV)
  else bif kU o.op && (match o.guard with|none=>true|some _=>false) then qBi N ol ms (i+1) ne mj dl SR SV
  else bif zS o.op && (Nat.beq ne 0 || bt m dl) && (match o.guard with|none=>true|some _=>false) then qBi N ol ms (i+1) (ne+1) m i SR ((ne,mj,i)::SV) else none
section
variable {E:Env} {nt:Nat} {ops:Array Oper}
def frK (nt:Nat) (tm:T AV) (dst:Option Tmp) (n:Nat) (N:T AV->AO->Prop):OR->Prop
 | .pan _ _=>False
 | .ok v h'=> ∃o',h'=({t:= .e,n:=n}:Hp).new o'/\putK nt tm dst v (fun tm'=>N tm' o')
def efK (cl:Bool) (nt:Nat) (tm:T AV) (dst:Option Tmp) (n:Nat) (N:T AV->Hp->Prop):OR->Prop
 | .pan _ _=>False
 | .ok v h'=>(n<=h'.n/\(cl=true->n<h'.n))/\putK nt tm dst v (fun tm'=>N tm' h')
def rdK (nt:Nat) (tm:T AV) (dst:Option Tmp) (h:Hp) (N:T AV->AV->Prop):OR->Prop
 | .pan _ _=>False
 | .ok v h'=>h'=h/\putK nt tm dst v (fun tm'=>N tm' v)
def WOG (E:Env) (nt:Nat) (ops:Array Oper) (PL:List (Nat×List Nat)):List Oper->Nat->Nat->T AV->Nat->T AO->List Nat->Fs->List RdE->VeG->(T AV->Nat->T AO->List Nat->Fs->List RdE->VeG->Prop)->Prop
 |[],_,_,tm,n,b,inc,fs,R,V,Q=>Q tm n b inc fs R V
 |o::ol,i,ne,tm,n,b,inc,fs,R,V,Q=>jO nt ops o=true/\bif qP ops o tm then
   (bif kU o.op then WOp E o tm {t:= .e,n:=n} (frK nt tm o.dst n (fun tm' o'=>WOG E nt ops PL ol (i+1) ne tm' (n+1) b inc ((i,n,o')::fs) R V Q))
   else bif zS o.op then WOp E o tm {t:=vL (jT i PL) inc fs b,n:=n} (efK (jG o.op) nt tm o.dst n (fun tm' h'=>WOG E nt ops PL ol (i+1) (ne+1) tm' h'.n h'.t (jT i PL) fs R ((ne+1,jT i PL,h'.t)::V) Q))
   else WOp E o tm {t:=vL (jT i PL) inc fs b,n:=n} (rdK nt tm o.dst {t:=vL (jT i PL) inc fs b,n:=n} (fun tm' v=>WOG E nt ops PL ol (i+1) ne tm' n b inc fs (bif zQ o.op then ⟨i,o,tm,n,v⟩::R else R) V Q)))
  else putK nt tm o.dst default (fun tm'=>WOG E nt ops PL ol (i+1) ne tm' n b inc fs R V Q)
structure GI (FI:List Nat) (PL:List (Nat×List Nat)) (i ne mj dl:Nat) (tm:T AV) (n:Nat) (b:T AO) (inc:List Nat) (fs:Fs) (R:List RdE) (V:VeG) (SR:List SRd) (SV:List SVe) (st:DS):Prop where
 fi:st.i=i
 ftm:st.tm=tm
 fn:st.n=n
 fne:st.ne=ne
 fmj:st.mj=mj
 fdl:st.dl=dl\/ne=0
 ffs:st.fs=toFE fs
 fb:st.b=b
 finc: ∀f∈FI,bt mj f=inL f inc
 ffi: ∀x∈fs,x.1∈FI
 frs: ∀r∈st.rs,(r.i,r.m,r.ne)∈SR/\(∃e∈R,e.i=r.i/\e.o=r.o/\e.tm=r.tm/\e.n=r.n/\e.v=r.v/\calm r.o.op=true)/\ ∀f∈FI,bt r.m f=inL f (jT r.i PL)
 fbs: ∀e∈st.bs,(e.j,e.mj,e.nx)∈SV/\ ∃inc',(e.j,inc',e.b)∈V/\ ∀f∈FI,bt e.mj f=inL f inc'
 fv:(ne,inc,b)∈V
theorem fr_evOp {P:Program} {tb:T TE} {xt:Xt} {o:Oper} {tm:T AV} {h:Hp} (hs:kU o.op=true) (call:jE):jQ P tb xt call o tm h=bH (aop P tb xt (qE tm) o.op h):=by
 cases hop:o.op with
 |alloc _=>simp only [jQ,hop]
 |buildSlice _ _ _=>simp only [jQ,hop]
 |_=>rw [hop] at hs;cases hs
theorem isFr_kind {op:Op} (h:kU op=true):q8 op= .new:=by cases op<;>first|rfl|cases h
theorem isFr_calm {op:Op} (h:calm op=true):kU op=false:=by cases op<;>first|rfl|cases h
theorem isFr_ef {op:Op} (h:zS op=true):kU op=false:=by cases op<;>first|rfl|cases h
theorem uS {FI:List Nat} {PL:List (Nat×List Nat)} {N:Nat} {Q:T AV->Nat->T AO->List Nat->Fs->List RdE->VeG->Prop} {SRz:List SRd} {SVz:List SVe}:
  ∀(ol:List Oper) (ms:List Nat) (i ne mj dl:Nat) (tm:T AV) (n:Nat) (b:T AO) (inc:List Nat) (fs:Fs) (R:List RdE) (V:VeG) (SR:List SRd) (SV:List SVe) (st:DS),WOG E nt ops PL ol i ne tm n b inc fs R V Q->qBi N ol ms i ne mj dl SR SV=some (SRz,SVz)->
  (∀(k:Nat) (o:Oper) (m:Nat),ol[k]? =some o->ms[k]? =some m->(zQ o.op || zS o.op)=true-> ∀f∈FI,bt m f=inL f (jT (i+k) PL))->(∀(k:Nat) (o:Oper),ol[k]? =some o->kU o.op=true->i+k∈FI)->GI FI PL i ne mj dl tm n b inc fs R V SR SV st->
  ∃call st' ne' mj' dl' tm' n' b' inc' fs' R' V' SV',jS E.P E.xt call/\((∀fv args k r,call fv args k=some r->n<=k.n/\k.n<n')/\n<=n')/\yP E.P E.tb E.xt call ops ol ms st=some st'/\GI FI PL (i+ol.length) ne' mj' dl' tm' n' b' inc' fs' R' V' SRz SV' st'/\SVz=(ne',mj',N)::SV'/\Q tm' n' b' inc' fs' R' V'
 |[],ms,i,ne,mj,dl,tm,n,b,inc,fs,R,V,SR,SV,st,hw,hc,_,_,I=>by
  simp only [qBi,Option.some.injEq,Prod.mk.injEq] at hc;obtain ⟨rfl,rfl⟩:=hc;exact ⟨qAA,st,ne,mj,dl,tm,n,b,inc,fs,R,V,SV,yZ _ _,⟨fun _ _ _ _ hx=>(by cases hx),xZY _⟩,rfl,I,rfl,hw⟩
 |o::ol,[],i,ne,mj,dl,tm,n,b,inc,fs,R,V,SR,SV,st,hw,hc,_,_,I=>by simp [qBi] at hc
 |o::ol,m::ms,i,ne,mj,dl,tm,n,b,inc,fs,R,V,SR,SV,st,hw,hc,hpl,hfi,I=>by
  simp only [WOG] at hw;obtain ⟨_,hw⟩:=hw;have hput: ∀{v:AV} {N:T AV->Prop},putK nt tm o.dst v N->N (xU tm o.dst v):=fun {v N} hp=>by
   unfold putK at hp;unfold xU;split at hp
   ·rename_i hd;rw [hd];exact hp
   ·rename_i d hd;rw [hd];exact hp.2
  have hlen:i+(o::ol).length=(i+1)+ol.length:=by simp;omega
  rw [hlen];have hpl': ∀(k:Nat) (o:Oper) (m:Nat),ol[k]? =some o->ms[k]? =some m->(zQ o.op || zS o.op)=true-> ∀f∈FI,bt m f=inL f (jT (i+1+k) PL):=fun k o' m' ho hm hr=>by
   have:=hpl (k+1) o' m' (by simpa using ho) (by simpa using hm) hr
   rwa [show i+(k+1)=i+1+k by omega] at this
  have hfi': ∀(k:Nat) (o:Oper),ol[k]? =some o->kU o.op=true->i+1+k∈FI:=fun k o' ho hr=>by
   have:=hfi (k+1) o' (by simpa using ho) hr
   rwa [show i+(k+1)=i+1+k by omega] at this
  simp only [qBi] at hc;have hov:(zQ o.op || zS o.op)=true->({t:=ovl (fun f=>bt m f && !bt st.mj f) st.fs st.b,n:=st.n}:Hp)={t:=vL (jT i PL) inc fs b,n:=n}:=fun hr=>by
   rw [I.ffs,I.fb,I.fn,qA3 fs b fun x hx=> ?_];have h1:=hpl 0 o m rfl rfl hr x.1 (I.ffi x hx);have h2:=I.finc x.1 (I.ffi x hx);rw [Nat.add_zero] at h1;rw [I.fmj,h1,h2]
  cases haw:qP ops o tm with
  |false=>
   rw [haw] at hw;simp only [cond_false] at hw;have hw:=hput hw;have hd: ∀call,jJ E.P E.tb E.xt call ops o m st=some (upd o m st default {t:= .e,n:=st.n} .new):=fun call=>by
    unfold jJ zT;rw [I.ftm,haw];rfl
   obtain ⟨SR2,hc2,hsub⟩: ∃SR2,qBi N ol ms (i+1) ne mj dl SR2 SV=some (SRz,SVz)/\ ∀x∈SR,x∈SR2:=by
    have hng:o.guard≠none:=fun hg=>by unfold qP at haw;rw [hg] at haw;cases haw
    cases hcal:calm o.op with
    |true=>
     rw [hcal] at hc;simp only [cond_true] at hc;split at hc
     ·exact ⟨_,hc,fun x hx=>xZZ _ hx⟩
     ·exact ⟨_,hc,fun x hx=>hx⟩
    |false=>
     rw [hcal] at hc;simp only [cond_false] at hc;have hg2:(match o.guard with|none=>true|some _=>false)=false:=by
      cases hg:o.guard with
      |none=>exact absurd hg hng
      |some _=>rfl
     rw [hg2] at hc;simp at hc
   obtain ⟨call,st',ne',mj',dl',tm',n',b',inc',fs',R',V',SV',c1,c2,r1,r2⟩:=uS ol ms (i+1) ne mj dl _ n b inc fs R V SR2 SV (upd o m st default {t:= .e,n:=st.n} .new) hw hc2 hpl' hfi'
    ⟨by simp [upd,I.fi],by simp [upd,I.ftm],by simp [upd,I.fn],by simp [upd,I.fne],by simp [upd,I.fmj],by simpa [upd] using I.fdl,by simp [upd,I.ffs],by simp [upd,I.fb],I.finc,I.ffi,fun r hr=>by have:=I.frs r (by simpa [upd] using hr);exact ⟨hsub _ this.1,this.2⟩,fun e he=>I.fbs e (by simpa [upd] using he),I.fv⟩
   exact ⟨call,st',ne',mj',dl',tm',n',b',inc',fs',R',V',SV',c1,c2,by rw [jA,hd];exact r1,r2⟩
  |true=>
   rw [haw] at hw;simp only [cond_true] at hw;cases hcal:calm o.op with
   |true=>
    rw [hcal] at hc;simp only [cond_true] at hc;rw [isFr_calm hcal,qAf hcal] at hw;simp only [cond_false] at hw;obtain ⟨call0,res,_,hop,hk⟩:=hw.ev;rw [j7 rfl hcal] at hop;cases ha:aop E.P E.tb E.xt (qE tm) o.op {t:=vL (jT i PL) inc fs b,n:=n} with
    |none=>rw [ha] at hop;cases hop
    |some p=>
     obtain ⟨v,h1⟩:=p;rw [ha] at hop;simp only [bH,Option.some.injEq] at hop;subst hop;obtain ⟨rfl,hk⟩:=hk;have hk:=hput hk;rcases gZ hcal with hkd|hkd
     ·obtain ⟨_,e2⟩:=qAW hcal hkd ha;rw [hkd] at hc;simp only at hc;have hrd:zQ o.op=false:=by unfold zQ;rw [hkd]
      rw [hrd] at hk;simp only [cond_false] at hk;have hd: ∀call,jJ E.P E.tb E.xt call ops o m st=some (upd o m st v {t:= .e,n:=st.n} .new):=fun call=>by
       unfold jJ zT;rw [I.ftm,haw,hkd];simp only [cond_true];rw [j7 rfl hcal,e2];rfl
      obtain ⟨call,st',ne',mj',dl',tm',n',b',inc',fs',R',V',SV',c1,c2,r1,r2⟩:=uS ol ms (i+1) ne mj dl _ n b inc fs R V SR SV (upd o m st v {t:= .e,n:=st.n} .new) hk hc hpl' hfi'
       ⟨by simp [upd,I.fi],by simp [upd,I.ftm],by simp [upd,I.fn],by simp [upd,I.fne],by simp [upd,I.fmj],by simpa [upd] using I.fdl,by simp [upd,I.ffs],by simp [upd,I.fb],I.finc,I.ffi,fun r hr=>I.frs r (by simpa [upd] using hr),fun e he=>I.fbs e (by simpa [upd] using he),I.fv⟩
      exact ⟨call,st',ne',mj',dl',tm',n',b',inc',fs',R',V',SV',c1,c2,by rw [jA,hd];exact r1,r2⟩
     ·rw [hkd] at hc;simp only at hc;have hrd:zQ o.op=true:=by unfold zQ;rw [hkd]
      rw [hrd] at hk;simp only [cond_true] at hk;have hd: ∀call,jJ E.P E.tb E.xt call ops o m st=some (upd o m st v {t:=vL (jT i PL) inc fs b,n:=n} .read):=fun call=>by
       unfold jJ zT;rw [I.ftm,haw,hkd];simp only [cond_true];rw [hov (by rw [hrd];rfl),j7 rfl hcal,ha];rfl
      obtain ⟨call,st',ne',mj',dl',tm',n',b',inc',fs',R',V',SV',c1,c2,r1,r2⟩:=uS ol ms (i+1) ne mj dl _ n b inc fs _ V ((i,m,ne)::SR) SV (upd o m st v {t:=vL (jT i PL) inc fs b,n:=n} .read) hk hc hpl' hfi'
       ⟨by simp [upd,I.fi],by simp [upd,I.ftm],by simp [upd,I.fn],by simp [upd,I.fne],by simp [upd,I.fmj],by simpa [upd] using I.fdl,by simp [upd,I.ffs],by simp [upd,I.fb],I.finc,I.ffi,fun r hr=>by
        simp only [upd,xZP] at hr;rcases hr with rfl|hr
        ·refine ⟨by simp [I.fi,I.fne],⟨_,xZV,by simp [I.fi,I.ftm,I.fn,hcal]⟩,fun f hf=> ?_⟩;have h1:=hpl 0 o m rfl rfl (by rw [hrd];rfl) f hf;simpa [I.fi] using h1
        ·obtain ⟨q1,⟨e,q2,q3⟩,q4⟩:=I.frs r hr;exact ⟨xZZ _ q1,⟨e,xZZ _ q2,q3⟩,q4⟩,fun e he=>I.fbs e (by simpa [upd] using he),I.fv⟩
      exact ⟨call,st',ne',mj',dl',tm',n',b',inc',fs',R',V',SV',c1,c2,by rw [jA,hd];exact r1,r2⟩
   |false=>
    rw [hcal] at hc;simp only [cond_false] at hc;cases hfr:kU o.op with
    |true=>
     rw [hfr] at hw hc;simp only [cond_true,Bool.true_and] at hw hc;have hgn:o.guard=none:=by
      cases hg:o.guard with
      |none=>rfl
      |some _=>
       rw [hg] at hc;have hne:zS o.op=false:=by
        cases he:zS o.op with
        |false=>rfl
        |true=>rw [isFr_ef he] at hfr;cases hfr
       simp [hne] at hc
     rw [hgn] at hc;simp only [cond_true] at hc;obtain ⟨call0,res,_,hop,hk⟩:=hw.ev;rw [fr_evOp hfr] at hop;cases ha:aop E.P E.tb E.xt (qE tm) o.op {t:= .e,n:=n} with
     |none=>rw [ha] at hop;cases hop
     |some p=>
      obtain ⟨v,h1⟩:=p;rw [ha] at hop;simp only [bH,Option.some.injEq] at hop;subst hop;obtain ⟨o',rfl,hk⟩:=hk;have hk:=hput hk;have hd: ∀call,jJ E.P E.tb E.xt call ops o m st=some (upd o m st v (({t:= .e,n:=n}:Hp).new o') .new):=fun call=>by
       unfold jJ zT;rw [I.ftm,haw,isFr_kind hfr];simp only [cond_true];rw [fr_evOp hfr,I.fn,ha];rfl
      have hbq:Nat.beq (n+1) n=false:=by
       cases hq:Nat.beq (n+1) n with
       |false=>rfl
       |true=>have:=xZX hq;omega
      have hmem:i∈FI:=by have:=hfi 0 o rfl hfr;simpa using this
      obtain ⟨call,st',ne',mj',dl',tm',n',b',inc',fs',R',V',SV',c1,c2,r1,r2⟩:=uS ol ms (i+1) ne mj dl _ (n+1) b inc ((i,n,o')::fs) R V SR SV (upd o m st v (({t:= .e,n:=n}:Hp).new o') .new) hk hc hpl' hfi'
       ⟨by simp [upd,I.fi],by simp [upd,I.ftm],by simp [upd,Hp.new],by simp [upd,I.fne],by simp [upd,I.fmj],by simpa [upd] using I.fdl,by
        simp only [upd,Hp.new,I.fn,hbq,cond_false,I.fi,I.ffs,toFE,xYU];have:n+1 - n=1:=by omega
        rw [this],by simp [upd,I.fb],I.finc,fun x hx=>by
        rcases xZP.1 hx with rfl|hx
        ·exact hmem
        ·exact I.ffi x hx,fun r hr=>I.frs r (by simpa [upd] using hr),fun e he=>I.fbs e (by simpa [upd] using he),I.fv⟩
      exact ⟨call,st',ne',mj',dl',tm',n',b',inc',fs',R',V',SV',c1,⟨fun fv args k r hr=>by have:=c2.1 fv args k r hr;omega,by have:=c2.2;omega⟩,by rw [jA,hd];exact r1,r2⟩
    |false=>
     rw [hfr] at hw hc;simp only [cond_false,Bool.false_and] at hw hc;obtain ⟨hg,hc⟩:=qU hc;simp only [xZW] at hg;obtain ⟨⟨hst,hch⟩,hgd⟩:=hg;rw [hst] at hw;simp only [cond_true] at hw;have hov:=hov (by rw [hst,Bool.or_true]);have hch2:(Nat.beq st.ne 0 || bt m st.dl)=true:=by
      rw [I.fne];rcases I.fdl with hdl|hdl
      ·rw [hdl];exact hch
      ·rw [hdl];rfl
     have hplm: ∀f∈FI,bt m f=inL f (jT i PL):=fun f hf=>by
      have:=hpl 0 o m rfl rfl (by rw [hst,Bool.or_true]) f hf;simpa using this
     have next: ∀(v:AV) (h1:Hp),WOG E nt ops PL ol (i+1) (ne+1) (xU tm o.dst v) h1.n h1.t (jT i PL) fs R ((ne+1,jT i PL,h1.t)::V) Q-> ∃call st' ne' mj' dl' tm' n' b' inc' fs' R' V' SV',jS E.P E.xt call/\((∀fv args k r,call fv args k=some r->h1.n<=k.n/\k.n<n')/\h1.n<=n')/\yP E.P E.tb E.xt call ops ol ms (upd o m st v h1 .eff)=some st'/\GI FI PL (i+1+ol.length) ne' mj' dl' tm' n' b' inc' fs' R' V' SRz SV' st'/\SVz=(ne',mj',N)::SV'/\Q tm' n' b' inc' fs' R' V':=fun v h1 hk=>
      uS ol ms (i+1) (ne+1) m i _ h1.n h1.t (jT i PL) fs R _ SR ((ne,mj,i)::SV) (upd o m st v h1 .eff) hk hc hpl' hfi'
       ⟨by simp [upd,I.fi],by simp [upd,I.ftm],by simp [upd],by simp [upd,I.fne],by simp [upd],.inl (by simp [upd,I.fi]),by simp [upd,I.ffs],by simp [upd],hplm,I.ffi,fun r hr=>I.frs r (by simpa [upd] using hr),fun e he=>by
        simp only [upd,xZP] at he;rcases he with rfl|he
        ·refine ⟨by simp [I.fne,I.fmj,I.fi],inc,?_,fun f hf=> ?_⟩
         ·simp only [I.fne,I.fb];exact xZZ _ I.fv
         ·simp only [I.fmj];exact I.finc f hf
        ·obtain ⟨q1,inc',q2,q3⟩:=I.fbs e he;exact ⟨xZZ _ q1,inc',xZZ _ q2,q3⟩,xZV⟩
     cases hso:isSt o.op with
     |true=>
      obtain ⟨call0,res,_,hop,hk⟩:=hw.ev;rw [gM hso] at hop;cases ha:aop E.P E.tb E.xt (qE tm) o.op {t:=vL (jT i PL) inc fs b,n:=n} with
      |none=>rw [ha] at hop;cases hop
      |some p=>
       obtain ⟨v,h1⟩:=p;rw [ha] at hop;simp only [bH,Option.some.injEq] at hop;subst hop;obtain ⟨⟨hn1,_⟩,hk⟩:=hk;have hk:=hput hk;obtain ⟨call,st',ne',mj',dl',tm',n',b',inc',fs',R',V',SV',c1,c2,r1,r2⟩:=next v h1 hk;have hd:jJ E.P E.tb E.xt call ops o m st=some (upd o m st v h1 .eff):=by
        unfold jJ zT;rw [I.ftm,haw,wD hso];simp only [cond_true];rw [hch2];simp only [cond_true];rw [hov,gM hso,ha];rfl
       exact ⟨call,st',ne',mj',dl',tm',n',b',inc',fs',R',V',SV',c1,⟨fun fv args k r hr=>by have:=c2.1 fv args k r hr;omega,by have:=c2.2;omega⟩,by rw [jA,hd];exact r1,r2⟩
     |false=>
      have hcl:jG o.op=true:=by
       unfold zS at hst;rw [hso] at hst;simpa using hst
      have hcl2:=hcl;unfold jG at hcl2;split at hcl2
      ·rename_i q hq;split at hcl2
       ·rename_i f hf;unfold WOp at hw;simp only [hq,calK,hf] at hw;obtain ⟨res,h1,hcs,hk⟩:=hw;rw [<-hq] at hk;cases res with
        |pan v=>exact hk.elim
        |ret v=>
         obtain ⟨⟨hn1,hlt⟩,hk⟩:=hk;have hlt:=hlt hcl;have hk:=hput hk;have hkd:q8 o.op= .eff:=by simp [hq,q8,hf]
         obtain ⟨hh,hhh⟩: ∃hh:Hp,hh={t:=vL (jT i PL) inc fs b,n:=n}:=⟨_,rfl⟩;have hhn:hh.n=n:=by rw [hhh]
         rw [<-hhh] at hcs hov;obtain ⟨call,st',ne',mj',dl',tm',n',b',inc',fs',R',V',SV',c1,c2,r1,r2⟩:=next v h1 hk;have hsd:jS E.P E.xt (jX (qE tm f) (q.args.toList.map (qE tm)) hh (.ret v) h1 call):=by
          intro fv a k r k' he;unfold jX at he;split at he
          ·rename_i hq;obtain ⟨rfl,rfl,rfl⟩:=hq;cases he;exact hcs
          ·exact c1 _ _ _ _ _ he
         have hev:jQ E.P E.tb E.xt (jX (qE tm f) (q.args.toList.map (qE tm)) hh (.ret v) h1 call) o tm hh=some (.ok v h1):=by
          simp [jQ,hq,vC,hf,jX,uO]
         have hd:jJ E.P E.tb E.xt (jX (qE tm f) (q.args.toList.map (qE tm)) hh (.ret v) h1 call) ops o m st=some (upd o m st v h1 .eff):=by
          unfold jJ zT;rw [I.ftm,haw,hkd];simp only [cond_true];rw [hch2];simp only [cond_true];rw [hov,hev]
         refine ⟨jX (qE tm f) (q.args.toList.map (qE tm)) hh (.ret v) h1 call,st',ne',mj',dl',tm',n',b',inc',fs',R',V',SV',hsd,⟨fun fv a k r he=> ?_,by have:=c2.2;omega⟩,?_,r2⟩
         ·unfold jX at he;split at he
          ·rename_i hq;rw [hq.2.2,hhn];have:=c2.2;omega
          ·have:=c2.1 _ _ _ _ he;omega
         ·rw [jA,hd];simp only;refine vF c1 ol ms _ _ (fun fv a k r hk hr=> ?_) r1;unfold jX;rw [if_neg (fun hq=> ?_)]
          ·exact hr
          ·simp only [upd] at hk;rw [hq.2.2,hhn] at hk;omega
       ·cases hcl2
      ·cases hcl2
def qCc (nt:Nat) (ops:Array Oper) (k:Nat) (FI:List Nat) (PL:List (Nat×List Nat)) (P:List (Nat×Nat)):Bool:=
 let pre:=ops.toList.take k
 match sta ⟨pre⟩ with
 |none=>false
 |some s=>Nat.ble s.mx nt &&
   ((match qBi pre.length pre s.ms 0 0 0 0 [] [] with
   |none=>false
   |some (SR,SV)=>SR.all fun r=>SV.all (ordd P r)) &&
   ((List.range pre.length).all (fun i=>match pre[i]?,s.ms[i]? with
     |some o,some m=>(!(zQ o.op || zS o.op) || FI.all fun f=>bt m f==inL f (jT i PL)) && (!kU o.op || inL i FI)
     |_,_=>true) &&
   (uG pre (ops.toList.drop k) && pre.all (kE pre.length))))
def qBU (E:Env) (P:List (Nat×Nat)) (PL:List (Nat×List Nat)) (fs:Fs) (R:List RdE) (V:VeG):Prop:= ∀r∈R,∀e∈V,(P.any fun p=>Nat.beq p.1 r.i && Nat.beq p.2 e.1)=true->aop E.P E.tb E.xt (qE r.tm) r.o.op {t:=vL (jT r.i PL) e.2.1 fs e.2.2,n:=r.n}=some (r.v,{t:=vL (jT r.i PL) e.2.1 fs e.2.2,n:=r.n})
theorem inL_mem {f:Nat}: ∀{l:List Nat},inL f l=true->f∈l
 |[],h=>by cases h
 |a::l,h=>by
  simp only [inL,xZB] at h;rcases h with h|h
  ·rw [xZX h];exact xZV
  ·exact xZZ _ (inL_mem h)
theorem mem_inL {f:Nat}: ∀{l:List Nat},f∈l->inL f l=true
 |[],h=>by cases h
 |a::l,h=>by
  simp only [inL,xZB];rcases xZP.1 h with rfl|h
  ·exact .inl (xYF _)
  ·exact .inr (mem_inL h)
end
section
variable {E:Env} {nt:Nat} {ops:Array Oper} {r:Option Nat} {mks:List Nat}
theorem qDl {ops':Array Oper} {PL:List (Nat×List Nat)}: ∀(ol:List Oper) (i ne:Nat) (tm:T AV) (n:Nat) (b:T AO) (inc:List Nat) (fs:Fs) (R:List RdE) (V:VeG) (Q:T AV->Nat->T AO->List Nat->Fs->List RdE->VeG->Prop),(∀o∈ol,∀j w,o.guard=some (j,w)->ops'[j]? =ops[j]?)->WOG E nt ops PL ol i ne tm n b inc fs R V Q->WOG E nt ops' PL ol i ne tm n b inc fs R V Q
 |[],_,_,_,_,_,_,_,_,_,_,_,h=>h
 |o::ol,i,ne,tm,n,b,inc,fs,R,V,Q,hg,h=>by
  have ih:=fun i ne tm n b inc fs R V=>qDl (ops':=ops') (PL:=PL) ol i ne tm n b inc fs R V Q fun o ho=>hg o (xZZ _ ho);simp only [WOG] at h ⊢;obtain ⟨h1,h2⟩:=h;have e1:jO nt ops' o=jO nt ops o:=by
   unfold jO;cases hq:o.guard with
   |none=>rfl
   |some p=>obtain ⟨j,w⟩:=p;simp only;rw [hg o xZV j w hq]
  have e2:qP ops' o tm=qP ops o tm:=by
   unfold qP;cases hq:o.guard with
   |none=>rfl
   |some p=>obtain ⟨j,w⟩:=p;simp only;rw [hg o xZV j w hq]
  rw [e1,e2];refine ⟨h1,?_⟩;cases haw:qP ops o tm with
  |false=>
   rw [haw] at h2;simp only [cond_false] at h2 ⊢;exact yI h2 fun t ht=>ih _ _ _ _ _ _ _ _ _ ht
  |true=>
   rw [haw] at h2;simp only [cond_true] at h2 ⊢;cases hfr:kU o.op with
   |true=>
    rw [hfr] at h2;simp only [cond_true] at h2 ⊢;refine h2.mono fun res hr=> ?_;cases res with
    |pan _ _=>exact hr
    |ok v h'=>
     obtain ⟨o',q1,q2⟩:=hr;exact ⟨o',q1,yI q2 fun t ht=>ih _ _ _ _ _ _ _ _ _ ht⟩
   |false=>
    rw [hfr] at h2;simp only [cond_false] at h2 ⊢;cases hef:zS o.op with
    |true=>
     rw [hef] at h2;simp only [cond_true] at h2 ⊢;refine h2.mono fun res hr=> ?_;cases res with
     |pan _ _=>exact hr
     |ok v h'=>exact ⟨hr.1,yI hr.2 fun t ht=>ih _ _ _ _ _ _ _ _ _ ht⟩
    |false=>
     rw [hef] at h2;simp only [cond_false] at h2 ⊢;refine h2.mono fun res hr=> ?_;cases res with
     |pan _ _=>exact hr
     |ok v h'=>exact ⟨hr.1,yI hr.2 fun t ht=>ih _ _ _ _ _ _ _ _ _ ht⟩
theorem SemC.drawnG (htb:Tb E.P E.tb) (hm:E.P.follows .mixedOrders=true) {id:Nat} (k:Nat) (FI:List Nat) (PL:List (Nat×List Nat)) (P:List (Nat×Nat)) (hst:qCc nt ops k FI PL P=true) {tm:T AV} {h:Hp} {Q:Ex->St->Prop}
  (hw:WOG E nt ops PL (ops.toList.take k) 0 0 tm h.n h.t [] [] [] [(0,[],h.t)] (fun tm1 n b inc fs R V=>qBU E P PL fs R V/\WO E nt ops (ops.toList.drop k) tm1 {t:=vL FI inc fs b,n:=n} (regK ⟨tm,nt,h,mks⟩ Q))):W E r (.region id ops true) ⟨tm,nt,h,mks⟩ Q:=by
 unfold qCc at hst;simp only at hst;obtain ⟨pre,hpre⟩: ∃pre,pre=ops.toList.take k:=⟨_,rfl⟩;obtain ⟨rest,hrest⟩: ∃rest,rest=ops.toList.drop k:=⟨_,rfl⟩;have hall:pre++rest=ops.toList:=by rw [hpre,hrest,xZJ]
 rw [<-hpre,<-hrest] at hst hw;cases hs:sta ⟨pre⟩ with
 |none=>rw [hs] at hst;cases hst
 |some s=>
 rw [hs] at hst;simp only [xZW] at hst;obtain ⟨hmx,hord,hpl,hlast,hgl⟩:=hst;split at hord
 ·cases hord
 rename_i SR SV hgs;have hord:=xZT.1 hord;have hgd: ∀o∈pre,∀j w,o.guard=some (j,w)->(⟨pre⟩:Array Oper)[j]? =ops[j]? :=fun o ho j w hg=>by
  have:=xZT.1 hgl o ho;unfold kE at this;rw [hg] at this;simp only [xZH] at this;rw [<-xZO,<-xZO,<-hall];simp [xZL this]
 have hplan: ∀(i:Nat) (o:Oper),pre[i]? =some o-> ∀m,s.ms[i]? =some m->((zQ o.op || zS o.op)=true-> ∀f∈FI,bt m f=inL f (jT i PL))/\(kU o.op=true->i∈FI):=fun i o ho m hm=>by
  have:=xZT.1 hpl i (List.mem_range.2 (xZR.1 ho).1);rw [ho,hm] at this;simp only [xZW,xZB,Bool.not_eq_true'] at this;obtain ⟨q1,q2⟩:=this;refine ⟨fun hr f hf=> ?_,fun hr=> ?_⟩
  ·rcases q1 with q1|q1
   ·simp only [Bool.or_eq_false_iff] at q1;rcases Bool.or_eq_true_iff.1 hr with hr|hr
    ·rw [q1.1] at hr;cases hr
    ·rw [q1.2] at hr;cases hr
   ·simpa using xZT.1 q1 f hf
  ·rcases q2 with q2|q2
   ·rw [q2] at hr;cases hr
   ·exact inL_mem q2
 have hmsl: ∀(l:List Oper) (ms:List Nat) (i ne mj dl:Nat) (SR:List SRd) (SV:List SVe) (z:List SRd×List SVe),qBi pre.length l ms i ne mj dl SR SV=some z->l.length<=ms.length:=by
  intro l;induction l with
  |nil=>intros;simp
  |cons o l ih=>
   intro ms i ne mj dl SR SV z hx;cases ms with
   |nil=>simp [qBi] at hx
   |cons m ms=>
    simp only [qBi] at hx;simp only [xZE];have:l.length<=ms.length:=by
     cases hc:calm o.op with
     |true=>
      rw [hc] at hx;simp only [cond_true] at hx;split at hx
      ·exact ih _ _ _ _ _ _ _ _ hx
      ·exact ih _ _ _ _ _ _ _ _ hx
     |false=>
      rw [hc] at hx;simp only [cond_false] at hx;cases hf:(kU o.op && (match o.guard with|none=>true|some _=>false)) with
      |true=>rw [hf] at hx;simp only [cond_true] at hx;exact ih _ _ _ _ _ _ _ _ hx
      |false=>
       rw [hf] at hx;simp only [cond_false] at hx;obtain ⟨_,hx⟩:=qU hx;exact ih _ _ _ _ _ _ _ _ hx
    omega
 have hms:=hmsl _ _ _ _ _ _ _ _ _ hgs;have hw1:=qDl (ops':=⟨pre⟩) pre 0 0 tm h.n h.t [] [] [] _ _ hgd hw;obtain ⟨call,st,ne1,mj1,dl1,tm1,n1,b1,inc1,fs1,R1,V1,SV1,cs1,cr1,run1,I,eSV,hsame,hq1⟩:=uS (FI:=FI) (PL:=PL) pre s.ms 0 0 0 0 tm h.n h.t [] [] [] [(0,[],h.t)] [] [] {i:=0,tm:=tm,n:=h.n,b:=h.t,mj:=0,dl:=0,ne:=0,fs:=[],bs:=[],rs:=[]} hw1 hgs
  (fun k o m ho hm hr=>by rw [xZN];exact (hplan k o ho m hm).1 hr)
  (fun k o ho hr=>by
   rw [xZN];have hk:=(xZR.1 ho).1;obtain ⟨m,hm⟩: ∃m,s.ms[k]? =some m:=⟨_,xZD (by omega)⟩;exact (hplan k o ho m hm).2 hr)
  ⟨rfl,rfl,rfl,rfl,rfl,.inr rfl,rfl,rfl,fun f _=>by rw [pA];rfl,by simp,by simp,by simp,by simp⟩
 have hchk:DChk E.P E.tb E.xt call st (⟨pre⟩:Array Oper).size:=by
  intro r hr e he;obtain ⟨q1,⟨re,p1,p2,p3,p4,p5,p6,p7⟩,q3⟩:=I.frs r hr;obtain ⟨e1,inc',e2,e3⟩:(e.j,e.mj,e.nx)∈SV/\ ∃inc',(e.j,inc',e.b)∈V1/\ ∀f∈FI,bt e.mj f=inL f inc':=by
   rcases xZP.1 he with rfl|he
   ·refine ⟨by rw [eSV];simp [I.fne,I.fmj],inc1,by simp only [I.fne,I.fb];exact I.fv,fun f hf=>by simp only [I.fmj];exact I.finc f hf⟩
   ·obtain ⟨y1,inc',y2,y3⟩:=I.fbs e he;exact ⟨by rw [eSV];exact xZZ _ y1,inc',y2,y3⟩
  have ho:=xZT.1 (hord _ q1) _ e1;unfold ordd at ho;simp only [xZB] at ho;rcases ho with ho|ho|ho|ho
  ·exact .inl (xZX ho)
  ·exact .inr (.inl ho)
  ·exact .inr (.inr (.inl ho))
  refine .inr (.inr (.inr ?_));have:=hsame re p1 (e.j,inc',e.b) e2 (by rw [p2];exact ho);rw [p3,p4,p5,p6,p2] at this;rw [I.ffs,qA3 fs1 e.b (p:=jT r.i PL) (inc:=inc') fun x hx=>by rw [q3 _ (I.ffi x hx),e3 _ (I.ffi x hx)],j7 rfl p7,this];exact ⟨_,rfl⟩
 obtain ⟨n2,s1⟩:=pZ htb cs1 hs (xZI hmx) run1 hchk;have e1:({t:=ovl (fun f=> !bt st.mj f) st.fs st.b,n:=st.n}:Hp)={t:=vL FI inc1 fs1 b1,n:=n1}:=by
  rw [I.ffs,I.fb,I.fn,qA3 fs1 b1 (p:=FI) (inc:=inc1) fun x hx=>by
   rw [mem_inL (I.ffi x hx),I.fmj,I.finc _ (I.ffi x hx)];rfl]
 rw [e1] at s1;rw [I.fn] at n2 s1;rw [I.ftm] at s1;have hd:DrX E nt ⟨pre⟩ tm h .normal tm1 {t:=vL FI inc1 fs1 b1,n:=n1}:=⟨n2,s1⟩;obtain ⟨x,tm4,h4,hd2,hq4⟩:=DrX.lasts htb rest pre _ _ hlast (fun j hj=>by rw [hall,xZO]) hd hq1;rw [hall] at hd2;have lift: ∀{a:Act} {w:World} {r:Option Nat} {id:Nat} {Q:Exit->Act->World->Prop},(∀t,wpOpsIn (Wd r) 0 E.P ops Q (Region.linearise .any ops t) a {w with drawn:=w.drawn+1})->(Code.region id ops true).wpIn (Wd r) 0 E.P Q a w:=fun hh=>by
  refine wpIn_region_draw fun t=> ?_;simp only [Region.schedule,hm,xYG,if_true];exact hh t
 have hds:DrwS E nt ops tm h x tm4 h4:=⟨hd2.1,fun lim hl c a w r id g hxt ht Q hQ=>lift fun t=>hd2.2 lim hl c a w r t g hxt ht Q hQ⟩;exact ⟨_,_,.regionD (st:=⟨tm,nt,h,mks⟩) hds,hq4⟩
theorem seq_regG (ok:SyOk E) {id:Nat} {b:Code} {tm:T AV} {h:Hp} {Q:Ex->St->Prop} (k:Nat) (FI:List Nat) (PL:List (Nat×List Nat)) (P:List (Nat×Nat)) (hst:qCc nt ops k FI PL P=true) (hw: ∀K:Ex->T AV->Hp->Prop,(∀tm h,wpc E r b ⟨tm,nt,h,mks⟩ Q->K .normal tm h)->(∀v tm h,Q (.panic v) ⟨tm,nt,h,mks⟩->K (.panic v) tm h)->WOG E nt ops PL (ops.toList.take k) 0 0 tm h.n h.t [] [] [] [(0,[],h.t)] (fun tm1 n b inc fs R V=>qBU E P PL fs R V/\WO E nt ops (ops.toList.drop k) tm1 {t:=vL FI inc fs b,n:=n} K)):
  wpc E r (.seq (.region id ops true) b) ⟨tm,nt,h,mks⟩ Q:=by
 show W E r (.region id ops true) ⟨tm,nt,h,mks⟩ (hH (fun s=>wpc E r b s Q) Q);exact SemC.drawnG ok.tb ok.mixed k FI PL P hst (hw _ (fun tm h hh=>hh) (fun v tm h hh=>hh))
theorem regG (ok:SyOk E) {id:Nat} {tm:T AV} {h:Hp} {Q:Ex->St->Prop} (k:Nat) (FI:List Nat) (PL:List (Nat×List Nat)) (P:List (Nat×Nat)) (hst:qCc nt ops k FI PL P=true) (hw: ∀K:Ex->T AV->Hp->Prop,(∀tm h,Q .normal ⟨tm,nt,h,mks⟩->K .normal tm h)->(∀v tm h,Q (.panic v) ⟨tm,nt,h,mks⟩->K (.panic v) tm h)->WOG E nt ops PL (ops.toList.take k) 0 0 tm h.n h.t [] [] [] [(0,[],h.t)] (fun tm1 n b inc fs R V=>qBU E P PL fs R V/\WO E nt ops (ops.toList.drop k) tm1 {t:=vL FI inc fs b,n:=n} K)):
  wpc E r (.region id ops true) ⟨tm,nt,h,mks⟩ Q:=by
 show W E r (.region id ops true) ⟨tm,nt,h,mks⟩ Q;exact SemC.drawnG ok.tb ok.mixed k FI PL P hst (hw _ (fun tm h hh=>hh) (fun v tm h hh=>hh))
end
section
variable {E:Env} {nt:Nat} {ops:Array Oper} {PL:List (Nat×List Nat)} {o:Oper} {ol:List Oper} {i ne n:Nat} {tm:T AV} {b:T AO} {inc p:List Nat} {fs:Fs} {R:List RdE} {V:VeG} {Q:T AV->Nat->T AO->List Nat->Fs->List RdE->VeG->Prop}
def stepG (fr ef rd cl:Bool) (E:Env) (nt:Nat) (ops:Array Oper) (PL:List (Nat×List Nat)) (o:Oper) (ol:List Oper) (i ne:Nat) (tm:T AV) (n:Nat) (b:T AO) (inc:List Nat) (fs:Fs) (R:List RdE) (V:VeG) (Q:T AV->Nat->T AO->List Nat->Fs->List RdE->VeG->Prop):Prop:=
 bif fr then WOp E o tm {t:= .e,n:=n} (frK nt tm o.dst n (fun tm' o'=>WOG E nt ops PL ol (i+1) ne tm' (n+1) b inc ((i,n,o')::fs) R V Q))
 else bif ef then WOp E o tm {t:=vL (jT i PL) inc fs b,n:=n} (efK cl nt tm o.dst n (fun tm' h'=>WOG E nt ops PL ol (i+1) (ne+1) tm' h'.n h'.t (jT i PL) fs R ((ne+1,jT i PL,h'.t)::V) Q))
 else WOp E o tm {t:=vL (jT i PL) inc fs b,n:=n} (rdK nt tm o.dst {t:=vL (jT i PL) inc fs b,n:=n} (fun tm' v=>WOG E nt ops PL ol (i+1) ne tm' n b inc fs (bif rd then ⟨i,o,tm,n,v⟩::R else R) V Q))
def gateG (gd wt:Bool) (E:Env) (nt:Nat) (ops:Array Oper) (PL:List (Nat×List Nat)) (o:Oper) (ol:List Oper) (i ne:Nat) (tm:T AV) (n:Nat) (b:T AO) (inc:List Nat) (fs:Fs) (R:List RdE) (V:VeG) (Q:T AV->Nat->T AO->List Nat->Fs->List RdE->VeG->Prop):Prop:=
 gd=true/\bif wt then stepG (kU o.op) (zS o.op) (zQ o.op) (jG o.op) E nt ops PL o ol i ne tm n b inc fs R V Q else putK nt tm o.dst default (fun tm'=>WOG E nt ops PL ol (i+1) ne tm' n b inc fs R V Q)
theorem WOG_nil:WOG E nt ops PL [] i ne tm n b inc fs R V Q=Q tm n b inc fs R V:=rfl
theorem WOG_cons:WOG E nt ops PL (o::ol) i ne tm n b inc fs R V Q=gateG (jO nt ops o) (qP ops o tm) E nt ops PL o ol i ne tm n b inc fs R V Q:=rfl
theorem gateG_t:gateG true true E nt ops PL o ol i ne tm n b inc fs R V Q=stepG (kU o.op) (zS o.op) (zQ o.op) (jG o.op) E nt ops PL o ol i ne tm n b inc fs R V Q:=by simp [gateG]
theorem gateG_fs {d:Tmp} {op:Op} {ty:TypeId} {ps:String} {af:Array Edge} {g:Option (Nat×Bool)}:gateG true false E nt ops PL ⟨some d,op,ty,ps,af,g⟩ ol i ne tm n b inc fs R V Q=(d<nt/\WOG E nt ops PL ol (i+1) ne (tm.put (some default) d) n b inc fs R V Q):=by simp [gateG,putK]
theorem stepG_f {ef rd cl:Bool}:stepG true ef rd cl E nt ops PL o ol i ne tm n b inc fs R V Q=WOp E o tm {t:= .e,n:=n} (frK nt tm o.dst n (fun tm' o'=>WOG E nt ops PL ol (i+1) ne tm' (n+1) b inc ((i,n,o')::fs) R V Q)):=rfl
theorem stepG_e {rd cl:Bool}:stepG false true rd cl E nt ops PL o ol i ne tm n b inc fs R V Q=WOp E o tm {t:=vL (jT i PL) inc fs b,n:=n} (efK cl nt tm o.dst n (fun tm' h'=>WOG E nt ops PL ol (i+1) (ne+1) tm' h'.n h'.t (jT i PL) fs R ((ne+1,jT i PL,h'.t)::V) Q)):=rfl
theorem stepG_r {cl:Bool}:stepG false false true cl E nt ops PL o ol i ne tm n b inc fs R V Q=WOp E o tm {t:=vL (jT i PL) inc fs b,n:=n} (rdK nt tm o.dst {t:=vL (jT i PL) inc fs b,n:=n} (fun tm' v=>WOG E nt ops PL ol (i+1) ne tm' n b inc fs (⟨i,o,tm,n,v⟩::R) V Q)):=rfl
theorem stepG_c {cl:Bool}:stepG false false false cl E nt ops PL o ol i ne tm n b inc fs R V Q=WOp E o tm {t:=vL (jT i PL) inc fs b,n:=n} (rdK nt tm o.dst {t:=vL (jT i PL) inc fs b,n:=n} (fun tm' _=>WOG E nt ops PL ol (i+1) ne tm' n b inc fs R V Q)):=rfl
theorem frK_new {d:Tmp} {N:T AV->AO->Prop} {v:AV} {o':AO}:frK nt tm (some d) n N (.ok v (Hp.new {t:= .e,n:=n} o'))=(d<nt/\N (tm.put (some v) d) o'):=by
 apply propext
 constructor
 ·rintro ⟨o2,h1,h2⟩;have:o'=o2:=by
   have:=congrArg (fun h:Hp=>h.t.get n) h1;simpa [Hp.new,T.get_put] using this
  subst this;exact h2
 ·intro h;exact ⟨_,rfl,h⟩
theorem wI {d:Tmp} {N:T AV->Hp->Prop} {v:AV} {h':Hp} (hn:n<h'.n):efK true nt tm (some d) n N (.ok v h')=(d<nt/\N (tm.put (some v) d) h'):=by
 simp [efK,hn,xZK hn,putK]
theorem rdK_ok {d:Tmp} {N:T AV->AV->Prop} {v:AV} {h:Hp}:rdK nt tm (some d) h N (.ok v h)=(d<nt/\N (tm.put (some v) d) v):=by simp [rdK,putK]
theorem addF_nil:vL p inc [] b=b:=rfl
theorem addF_cons {f s:Nat} {o':AO}:vL p inc ((f,s,o')::fs) b=if inL f p=true then (if inL f inc=true then vL p inc fs b else vL p inc fs (b.put (some o') s)) else vL p inc fs b:=by
 simp only [vL];cases inL f p<;>cases inL f inc<;>rfl
theorem inL_nil {f:Nat}:inL f []=false:=rfl
theorem inL_cons {f a:Nat} {l:List Nat}:inL f (a::l)=if a=f then true else inL f l:=by
 simp only [inL];by_cases h:a=f
 ·rw [if_pos h,h,xYF];rfl
 ·rw [if_neg h];cases hb:Nat.beq a f with
  |false=>rfl
  |true=>exact absurd (xZX hb) h
theorem lookP_nil:jT i []=[]:=rfl
theorem qGv {a:Nat} {l:List Nat} {r:List (Nat×List Nat)}:jT i ((a,l)::r)=if a=i then l else jT i r:=by
 simp only [jT];by_cases h:a=i
 ·rw [if_pos h,h,xYF];rfl
 ·rw [if_neg h];cases hb:Nat.beq a i with
  |false=>rfl
  |true=>exact absurd (xZX hb) h
def qAk (E:Env) (P:List (Nat×Nat)) (PL:List (Nat×List Nat)) (fs:Fs) (r:RdE) (V:VeG):Prop:= ∀e∈V,inP P r.i e.1=true->aop E.P E.tb E.xt (qE r.tm) r.o.op {t:=vL (jT r.i PL) e.2.1 fs e.2.2,n:=r.n}=some (r.v,{t:=vL (jT r.i PL) e.2.1 fs e.2.2,n:=r.n})
theorem SameG_nil {P:List (Nat×Nat)}:qBU E P PL fs [] V=True:=by simp [qBU]
theorem qGV {P:List (Nat×Nat)} {r:RdE}:qBU E P PL fs (r::R) V=(qAk E P PL fs r V/\qBU E P PL fs R V):=by simp only [qBU,qAk,inP,xZA]
theorem qGX {P:List (Nat×Nat)} {r:RdE}:qAk E P PL fs r []=True:=by simp [qAk]
theorem qGk {P:List (Nat×Nat)} {j n':Nat} {t:T AO} {v:AV} {inc':List Nat} {tm':T AV} {o':Oper}:qAk E P PL fs ⟨i,o',tm',n',v⟩ ((j,inc',t)::V)=(bQ (inP P i j) E ⟨i,o',tm',n',v⟩ (vL (jT i PL) inc' fs t)/\qAk E P PL fs ⟨i,o',tm',n',v⟩ V):=by
 simp only [qAk,bQ,xZA]
theorem qGA {t:TypeId}:kU (.alloc t)=true:=rfl
theorem isFr_bs {t:TypeId} {k:Nat} {p:Array (Nat×Operand)}:kU (.buildSlice t k p)=true:=rfl
theorem isFr_load {t:TypeId} {x:Operand}:kU (.load t x)=false:=rfl
theorem isFr_move {x:Operand}:kU (.move x)=false:=rfl
theorem qFC {x:Operand}:kU (.assign x)=false:=rfl
theorem isFr_pick {x y z:Operand}:kU (.pick x y z)=false:=rfl
theorem isFr_bin {b:BinOp} {t t':TypeId} {x y:Operand}:kU (.binOp b t x y t')=false:=rfl
theorem isFr_un {b:UnOp} {t:TypeId} {x:Operand}:kU (.unOp b t x)=false:=rfl
theorem isFr_fa {t:TypeId} {x:Operand} {f:Nat}:kU (.fieldAddr t x f)=false:=rfl
theorem isFr_ia {t:TypeId} {x y:Operand}:kU (.indexAddr t x y)=false:=rfl
theorem qGz {t:TypeId} {p:Array (Nat×Operand)}:kU (.build t p)=false:=rfl
theorem isFr_ex {x:Operand} {i:Nat}:kU (.extract x i)=false:=rfl
theorem isFr_call {q:Call}:kU (.call q)=false:=rfl
theorem qGy {t:TypeId} {x y:Operand}:kU (.store t x y)=false:=rfl
theorem isFr_mf {f:Fn} {a b:Array Operand}:kU (.makeFunc f a b)=false:=rfl
theorem isCall_fr {t:TypeId}:jG (.alloc t)=false:=rfl
theorem isCall_cv {f:Operand} {a:Array Operand} {ts:Array TypeId}:jG (.call ⟨.value f,a,ts⟩)=true:=rfl
noncomputable def syg:=PLift.up (xZS @WOG_nil (xZS @WOG_cons (xZS @gateG_t (xZS @gateG_fs (xZS @stepG_f (xZS @stepG_e (xZS @stepG_r (xZS @stepG_c (xZS @frK_new (xZS @rdK_ok (xZS @addF_nil (xZS @addF_cons (xZS @inL_nil (xZS @inL_cons (xZS @lookP_nil (xZS @qGv (xZS @SameG_nil (xZS @qGV (xZS @qGX (xZS @qGk (xZS @qGA (xZS @isFr_bs (xZS @isFr_load (xZS @isFr_move (xZS @qFC (xZS @isFr_pick (xZS @isFr_bin (xZS @isFr_un (xZS @isFr_fa (xZS @isFr_ia (xZS @qGz (xZS @isFr_ex (xZS @isFr_call (xZS @qGy (xZS @isFr_mf (xZS @isCall_fr @isCall_cv))))))))))))))))))))))))))))))))))))
end
end Go.Ev
end
