/- Parts. -/
import Derived.Test.YthimlgffanlomaaGreatDoorQB
set_option linter.all false
open List renaming mem_cons_of_mem → xZZ, all_eq_true → xZV, mem_cons_self → xZS, mem_cons → xZQ, take_append_drop → xZO, getElem?_eq_some_iff → xZK, getElem?_append_left → xZJ, getElem?_take → xZF, append_assoc → xZE, drop_eq_getElem_cons → xZD, getElem?_eq_getElem → xZC, getElem?_cons_zero → xZB, length_cons → xZA, singleton_append → xYZ, length_nil → xYY, range' → xYW, flatten_cons → xYV, eq_nil_of_length_eq_zero → xYU, length_map → xYT, getD_eq_getElem?_getD → xYQ, drop_drop → xYP, map_cons → xYO, take_of_length_le → xYM, getElem?_eq_none → xYL, mem_of_getElem? → xYJ, forall_mem_cons → xYI, getElem?_drop → xYF, getElem?_map → xYD, ext_getElem? → xYC, length_drop → xYA, cons_append → xXZ
open Nat renaming le_refl → xZY, le_trans → xZW, eq_of_beq_eq_true → xZU, zero_add → xZP, lt_of_lt_of_le → xZN, le_of_lt → xZM, le_of_ble_eq_true → xZL, blt_eq → xZI, eq_zero_or_pos → xZH, ble_eq → xZG, lt_or_ge → xYX, add_mul → xYR, add_assoc → xYN, zero_le → xYH, mul_one → xYG, le_succ_of_le → xYB
open Bool renaming and_eq_true → xZX, true_or → xYK, false_eq_true → xYE
open Array renaming getElem?_eq_getElem → xZT, getElem?_toList → xZR, getElem?_eq_some_iff → xYS
noncomputable section
namespace Go.Ev
def CallS (E:Env) (fv:AV) (args:List AV) (h:Hp) (res:CR) (h':Hp):Prop:=h.n<=h'.n/\ ∀lim,h'.n<=lim->qBX E.P E.xt lim fv args h res h'
abbrev KP:=CR->Hp->Prop
def CallA (E:Env) (fv:AV) (args:List AV) (h:Hp) (K:KP):Prop:= ∃res h',CallS E fv args h res h'/\K res h'
def W (E:Env) (r:Option Nat) (c:Code) (st:St) (Q:Ex->St->Prop):Prop:= ∃x st',SemC E r c st x st'/\Q x st'
theorem CallA.mono {E:Env} {fv:AV} {args:List AV} {h:Hp} {K K':KP} (hc:CallA E fv args h K) (hk: ∀r h',K r h'->K' r h'):CallA E fv args h K':=by
 obtain ⟨r,h',h1,h2⟩:=hc;exact ⟨r,h',h1,hk _ _ h2⟩
theorem W.mono {E:Env} {r:Option Nat} {c:Code} {st:St} {Q Q':Ex->St->Prop} (hw:W E r c st Q) (hq: ∀x s,Q x s->Q' x s):W E r c st Q':=by
 obtain ⟨x,s,h1,h2⟩:=hw;exact ⟨x,s,h1,hq _ _ h2⟩
open Classical in
def pcall (fv:AV) (args:List AV) (h:Hp) (res:CR) (h':Hp):jK:=fun f a k=>if f=fv/\a=args/\k=h then some (res,h') else none
theorem qFp (fv:AV) (args:List AV) (h:Hp) (res:CR) (h':Hp):pcall fv args h res h' fv args h=some (res,h'):=by simp [pcall]
theorem qFo {E:Env} {fv:AV} {args:List AV} {h h':Hp} {res:CR} (hc:CallS E fv args h res h'):jY E.P E.xt (pcall fv args h res h'):=by
 intro f a k r k' he;unfold pcall at he;split at he
 ·rename_i hq;obtain ⟨rfl,rfl,rfl⟩:=hq;cases he;exact hc
 ·cases he
def qAE:jK:=fun _ _ _=>none
theorem xC (P:Program) (xt:Xt):jY P xt qAE:=by intro f a k r k' he;cases he
def resK (K:OR->Prop) (res:CR) (h':Hp):Prop:=
 match res with
 | .ret v=>K (.ok v h')
 | .pan v=>K (.pan v h')
def aopK (E:Env) (o:Oper) (tm:T AV) (h:Hp) (K:OR->Prop):Prop:= ∃p,aop E.P E.tb E.xt (qH tm) o.op h=some p/\K (.ok p.1 p.2)
def panK (h:Hp) (a:AV) (K:OR->Prop):Prop:= ∃r,qBs h a=some r/\K r
def calK (E:Env) (o:Oper) (tm:T AV) (h:Hp) (K:OR->Prop) (q:Call):Prop:=
 match q.callee with
 | .value f=>CallA E (qH tm f) (q.args.toList.map (qH tm)) h (resK K)
 | .invoke _ _=>False
 | .builtin _=>aopK E o tm h K
def WOp (E:Env) (o:Oper) (tm:T AV) (h:Hp) (K:OR->Prop):Prop:=
 match o.op with
 | .call q=>calK E o tm h K q
 | .panic x=>panK h (qH tm x) K
 | .defer _=>False
 |_=>aopK E o tm h K
theorem WOp.ev {E:Env} {o:Oper} {tm:T AV} {h:Hp} {K:OR->Prop} (hw:WOp E o tm h K): ∃call r,jY E.P E.xt call/\jU E.P E.tb E.xt call o tm h=some r/\K r:=by
 have key:aopK E o tm h K-> ∃r,gG (aop E.P E.tb E.xt (qH tm) o.op h)=some r/\K r:=by
  rintro ⟨p,h1,h2⟩;exact ⟨_,by rw [h1];rfl,h2⟩
 unfold WOp at hw;split at hw
 ·rename_i q hq;unfold calK at hw;split at hw
  ·rename_i f hf;obtain ⟨res,h',hc,hk⟩:=hw;refine ⟨pcall (qH tm f) (q.args.toList.map (qH tm)) h res h',?_⟩;cases res with
   |ret v=>exact ⟨.ok v h',qFo hc,by simp [jU,hq,vI,hf,qFp,u9],hk⟩
   |pan v=>exact ⟨.pan v h',qFo hc,by simp [jU,hq,vI,hf,qFp,u9],hk⟩
  ·exact hw.elim
  ·rename_i b hb;obtain ⟨r,h1,h2⟩:=key hw;exact ⟨qAE,r,xC _ _,by simp only [jU,hq,vI,hb];rw [<-hq];exact h1,h2⟩
 ·rename_i x hx;obtain ⟨r,h1,h2⟩:=hw;exact ⟨qAE,r,xC _ _,by simp only [jU,hx];exact h1,h2⟩
 ·exact hw.elim
 ·rename_i n1 n2 n3;obtain ⟨r,h1,h2⟩:=key hw;refine ⟨qAE,r,xC _ _,?_,h2⟩;unfold jU;split
  ·rename_i q hq;exact absurd hq (n1 q)
  ·rename_i q hq;exact absurd hq (n2 q)
  ·rename_i q hq;exact absurd hq (n3 q)
  ·exact h1
def putK (nt:Nat) (tm:T AV) (dst:Option Tmp) (v:AV) (K:T AV->Prop):Prop:=
 match dst with
 |none=>K tm
 |some d=>d<nt/\K (tm.put (some v) d)
theorem putK.get {nt:Nat} {tm:T AV} {dst:Option Tmp} {v:AV} {K:T AV->Prop} (h:putK nt tm dst v K): ∃tm',putD nt tm dst v=some tm'/\K tm':=by
 unfold putK at h;split at h
 ·exact ⟨tm,rfl,h⟩
 ·rename_i d;have hb:Nat.blt d nt=true:=by rw [xZI];exact h.1
  exact ⟨_,by simp [putD,hb],h.2⟩
def orK (nt:Nat) (tm:T AV) (dst:Option Tmp) (Q:Ex->T AV->Hp->Prop) (N:T AV->Hp->Prop) (r:OR):Prop:=
 match r with
 | .pan v h'=>Q (.panic v) tm h'
 | .ok v h'=>putK nt tm dst v (fun tm'=>N tm' h')
def WO (E:Env) (nt:Nat) (ops:Array Oper):List Oper->T AV->Hp->(Ex->T AV->Hp->Prop)->Prop
 |[],tm,h,Q=>Q .normal tm h
 |o::ol,tm,h,Q=>jV nt ops o=true/\bif qP ops o tm then WOp E o tm h (orK nt tm o.dst Q (fun tm' h'=>WO E nt ops ol tm' h' Q)) else putK nt tm o.dst default (fun tm'=>WO E nt ops ol tm' h Q)
def OpsS (E:Env) (nt:Nat) (ops:Array Oper) (ol:List Oper) (tm:T AV) (h:Hp) (x:Ex) (tm':T AV) (h':Hp):Prop:=h.n<=h'.n/\ ∀lim,h'.n<=lim-> ∀(l:List Nat) (r:Option Nat),l.map (ops[·]?)=ol.map some-> ∀(c:Ctx) (a:Act) (w:World),Good lim c h w->(∀b v,E.xt b=some v->c.ext b=some v)->TR c nt tm a.tmps->
  ∀Q:Exit->Act->World->Prop,(∀e a' w',Post lim c h w nt a.defers x tm' h' e a' w'->Q e a' w')->wpOpsIn (Wd r) 0 E.P ops Q l a w
theorem WO.ok {E:Env} (htb:Tb E.P E.tb) {nt:Nat} {ops:Array Oper}: ∀(ol:List Oper) (tm:T AV) (h:Hp) (Q:Ex->T AV->Hp->Prop),WO E nt ops ol tm h Q-> ∃x tm' h',OpsS E nt ops ol tm h x tm' h'/\Q x tm' h'
 |[],tm,h,Q,hw=>by
  refine ⟨.normal,tm,h,⟨xZY _,fun lim hl l r hm c a w g hxt ht Q hQ=> ?_⟩,hw⟩;have:l=[]:=by simpa using hm
  subst this;exact hQ _ _ _ ⟨c,Stp.refl g,rfl,ht,rfl⟩
 |o::ol,tm,h,Q,hw=>by
  simp only [WO] at hw;obtain ⟨hgo,hw⟩:=hw;cases haw:qP ops o tm with
  |false=>
   rw [haw] at hw;simp only [cond_false] at hw;obtain ⟨tm1,hp,hk⟩:=hw.get;obtain ⟨x,tm',h',hs,hq⟩:=WO.ok htb ol tm1 h Q hk;refine ⟨x,tm',h',⟨hs.1,fun lim hlim l r hm c a w g hxt ht Q hQ=> ?_⟩,hq⟩;cases l with
   |nil=>simp at hm
   |cons i l=>
    simp only [xYO,List.cons.injEq] at hm;obtain ⟨hi,hl⟩:=hm;have hw:=uO ht ops o (pA hgo);simp only [wpOpsIn,hi,hw,haw,xYE,if_false];refine ⟨fun _ _=>trivial,?_⟩;refine hs.2 lim hlim l r hl c _ w g hxt (qB4 ht (qAV c) hp) Q ?_;intro e a' w' hpost;rw [uG] at hpost;exact hQ e a' w' hpost
  |true=>
   rw [haw] at hw;simp only [cond_true] at hw;obtain ⟨call,res,hs,hop,hk⟩:=hw.ev;have hn1:=qBr hs hop;cases res with
   |pan v h1=>
    refine ⟨.panic v,tm,h1,⟨hn1,fun lim hlim l r hm c a w g hxt ht Q hQ=> ?_⟩,hk⟩;cases l with
    |nil=>simp at hm
    |cons i l=>
     simp only [xYO,List.cons.injEq] at hm;obtain ⟨hi,hl⟩:=hm;have hw:=uO ht ops o (pA hgo);simp only [wpOpsIn,hi,hw,haw,if_true];refine qAQ htb hs hop hlim g hxt ht (fun _ _ _ _ _ e=>by cases e) (fun v' h'' y w' c' e hr hst=> ?_);cases e;exact hQ _ _ _ ⟨c',hst,⟨y,rfl,hr⟩,ht.mono hst.e,rfl⟩
   |ok v h1=>
    obtain ⟨tm1,hp,hk⟩:=putK.get (show putK nt tm o.dst v (fun tm'=>WO E nt ops ol tm' h1 Q) from hk);obtain ⟨x,tm',h',hs2,hq⟩:=WO.ok htb ol tm1 h1 Q hk;refine ⟨x,tm',h',⟨xZW hn1 hs2.1,fun lim hlim l r hm c a w g hxt ht Q hQ=> ?_⟩,hq⟩;cases l with
    |nil=>simp at hm
    |cons i l=>
     simp only [xYO,List.cons.injEq] at hm;obtain ⟨hi,hl⟩:=hm;have hw:=uO ht ops o (pA hgo);simp only [wpOpsIn,hi,hw,haw,if_true];refine qAQ htb hs hop (xZW hs2.1 hlim) g hxt ht (fun v' h'' y w' c' e hr hst=> ?_) (fun _ _ _ _ _ e=>by cases e);cases e;refine hs2.2 lim hlim l r hl c' _ w' hst.good (fun b v hb=>hst.e.ext _ _ (hxt b v hb)) (qB4 (ht.mono hst.e) hr hp) Q ?_;intro e a' w'' hpost;rw [uG] at hpost;exact hQ e a' w'' (hpost.trans hst)
def DrwS (E:Env) (nt:Nat) (ops:Array Oper) (tm:T AV) (h:Hp) (x:Ex) (tm':T AV) (h':Hp):Prop:=h.n<=h'.n/\ ∀lim,h'.n<=lim-> ∀c a w r id,Good lim c h w->(∀b v,E.xt b=some v->c.ext b=some v)->TR c nt tm a.tmps->
   ∀Q:Exit->Act->World->Prop,(∀e a' w',Post lim c h w nt a.defers x tm' h' e a' w'->Q e a' w')->(Code.region id ops true).wpIn (Wd r) 0 E.P Q a w
section
variable {E:Env} {r:Option Nat}
theorem SemC.skip {st:St}:SemC E r .skip st .normal st:=⟨xZY _,fun _ _ _ c _ _ s _ _ hQ=>wpIn_skip (hQ _ _ _ ⟨c,Stp.refl s.good,rfl,s⟩)⟩
theorem SemC.label {l:Nat} {st:St}:SemC E r (.label l) st .normal st:=⟨xZY _,fun _ _ _ c _ _ s _ _ hQ=>wpIn_label (hQ _ _ _ ⟨c,Stp.refl s.good,rfl,s⟩)⟩
theorem SemC.exit {id:Nat} {st:St}:SemC E r (.exit id) st (.exit id) st:=⟨xZY _,fun _ _ _ c _ _ s _ _ hQ=>wpIn_exit (hQ _ _ _ ⟨c,Stp.refl s.good,rfl,s⟩)⟩
theorem SemC.ret {st:St}:SemC E r .ret st .ret st:=⟨xZY _,fun _ _ _ c _ _ s _ _ hQ=>wpIn_ret (hQ _ _ _ ⟨c,Stp.refl s.good,rfl,s⟩)⟩
theorem SemC.seqOut {a b:Code} {st st1:St} {x:Ex} (h1:SemC E r a st x st1) (hx:x≠ .normal):SemC E r (.seq a b) st x st1:=by
 refine ⟨h1.1,fun lim hl ds c a w s hr Q hQ=>wpIn_seq (h1.2 lim hl ds c a w s hr _ ?_)⟩;rintro e a' w' ⟨c',t1,t2,t3⟩;have hq:=hQ e a' w' ⟨c',t1,t2,t3⟩;cases x with
 |normal=>exact absurd rfl hx
 |exit id=>cases t2;exact hq
 |goto id=>cases t2;exact hq
 |ret=>cases t2;exact hq
 |panic v=>obtain ⟨y,rfl,_⟩:=t2;exact hq
theorem SemC.cond {q:Operand} {a b:Code} {st st':St} {x:Ex} {t:Bool} (ht:qH st.tm q= .val (.bool t)) (h1:SemC E r (bif t then a else b) st x st'):SemC E r (.cond q a b) st x st':=by
 refine ⟨h1.1,fun lim hl ds c a w s hr Q hQ=> ?_⟩;have hv:=wT (a:=a) s.tr q;rw [ht] at hv;simp only [R] at hv;refine wpIn_cond hv ?_;have:=h1.2 lim hl ds c a w s hr Q hQ;cases t<;>exact this
def qEQ (id:Nat):Ex->Ex
 | .exit id'=>bif Nat.beq id' id then .normal else .exit id'
 |x=>x
theorem SemC.block {id:Nat} {b:Code} {st st':St} {x:Ex} (h1:SemC E r b st x st'):SemC E r (.block id b) st (qEQ id x) st':=by
 refine ⟨h1.1,fun lim hl ds c a w s hr Q hQ=>wpIn_block (h1.2 lim hl ds c a w s hr _ ?_)⟩;rintro e a' w' ⟨c',t1,t2,t3⟩;have hq:=hQ;cases x with
 |normal=>cases t2;exact hQ _ _ _ ⟨c',t1,rfl,t3⟩
 |exit id'=>
  cases t2;simp only [qEQ] at hQ;by_cases he:id'=id
  ·subst he;simp only [Exit.inBlock,if_true];exact hQ _ _ _ ⟨c',t1,by simp [ExR],t3⟩
  ·simp only [Exit.inBlock,if_neg he];refine hQ _ _ _ ⟨c',t1,?_,t3⟩;have:Nat.beq id' id=false:=by cases hb:Nat.beq id' id;rfl;exact absurd (xZU hb) he
   rw [this];rfl
 |goto id=>cases t2;exact hQ _ _ _ ⟨c',t1,rfl,t3⟩
 |ret=>cases t2;exact hQ _ _ _ ⟨c',t1,rfl,t3⟩
 |panic v=>obtain ⟨y,rfl,hy⟩:=t2;exact hQ _ _ _ ⟨c',t1,⟨y,rfl,hy⟩,t3⟩
theorem SemC.scope {b:Code} {st st':St} {x:Ex} (h1:SemC E r b st x st') (hx: ∀l,x≠ .goto l):SemC E r (.scope b) st x st':=by
 refine ⟨h1.1,fun lim hl ds c a w s hr Q hQ=>xO (h1.2 lim hl ds c a w s hr _ ?_)⟩;rintro e a' w' ⟨c',t1,t2,t3⟩;have hq:=hQ e a' w' ⟨c',t1,t2,t3⟩;cases x with
 |normal=>cases t2;exact hq
 |exit id=>cases t2;exact hq
 |goto id=>exact absurd rfl (hx id)
 |ret=>cases t2;exact hq
 |panic v=>obtain ⟨y,rfl,_⟩:=t2;exact hq
theorem SemC.region {id:Nat} {ops:Array Oper} {st:St} {x:Ex} {tm':T AV} {h':Hp} (ho:OpsS E st.nt ops ops.toList st.tm st.h x tm' h'):SemC E r (.region id ops false) st x {st with tm:=tm',h:=h'}:=
 ⟨ho.1,fun lim hl ds c a w s hr Q hQ=>wpIn_region (ho.2 lim hl _ _ (qDT ops) c a w s.good s.ext s.tr _ fun e a' w' p=>hQ _ _ _ (uR s p))⟩
theorem SemC.regionD {id:Nat} {ops:Array Oper} {st:St} {x:Ex} {tm':T AV} {h':Hp} (ho:DrwS E st.nt ops st.tm st.h x tm' h'):SemC E r (.region id ops true) st x {st with tm:=tm',h:=h'}:=
 ⟨ho.1,fun lim hl ds c a w s hr Q hQ=>ho.2 lim hl c a w _ id s.good s.ext s.tr Q fun e a' w' p=>hQ _ _ _ (uR s p)⟩
inductive LoopS (E:Env) (r:Option Nat) (b:Code):St->Ex->St->Prop
 |out {st st':St} {x:Ex}:SemC E r b st x st'->x≠ .normal->LoopS E r b st x st'
 |more {st st1 st':St} {x:Ex}:SemC E r b st .normal st1->LoopS E r b st1 x st'->LoopS E r b st x st'
theorem LoopS.ok {b:Code} {st st':St} {x:Ex} (hL:LoopS E r b st x st'):st.h.n<=st'.h.n/\ ∃m,∀lim,st'.h.n<=lim->
  ∀ds c a w,SR E lim c st a w ds->RoundR c r-> ∀Q:Exit->Act->World->Prop,(∀e a' w',PostC E lim c st.h w x st' ds e a' w'->Q e a' w')->Code.roundsIn (Wd (r.map c.ρ)) 0 E.P b Q m a w:=by
 induction hL with
 |out h1 hne=>
  rename_i st st' x;refine ⟨h1.1,1,fun lim hl ds c a w s hr Q hQ=> ?_⟩;rw [roundsIn_succ];refine h1.2 lim hl ds c a w s hr _ ?_;rintro e a' w' ⟨c',t1,t2,t3⟩;have hq:=hQ e a' w' ⟨c',t1,t2,t3⟩;cases x with
  |normal=>exact absurd rfl hne
  |exit id=>cases t2;exact hq
  |goto id=>cases t2;exact hq
  |ret=>cases t2;exact hq
  |panic v=>obtain ⟨y,rfl,_⟩:=t2;exact hq
 |more h1 h2 ih=>
  obtain ⟨n2,m,s2⟩:=ih;refine ⟨xZW h1.1 n2,m+1,fun lim hl ds c a w s hr Q hQ=> ?_⟩;rw [roundsIn_succ];refine h1.2 lim (xZW n2 hl) ds c a w s hr _ ?_;rintro e a' w' ⟨c',t1,t2,t3⟩;cases t2;have:=s2 lim hl ds c' a' w' t3 (hr.mono t1.e) Q fun e a'' w'' pp=>hQ _ _ _ (pp.trans t1);rw [qBD t1.e hr] at this;exact this
theorem SemC.loop {b:Code} {st st':St} {x:Ex} (hL:LoopS E r b st x st'):SemC E r (.loop b) st x st':=by
 obtain ⟨n,m,s⟩:=hL.ok;exact ⟨n,fun lim hl ds c a w sr hr Q hQ=>wpIn_loop_rounds m (s lim hl ds c a w sr hr Q hQ)⟩
def loopK (I:St->Prop) (μ:St->Nat) (st:St) (Q:Ex->St->Prop):Ex->St->Prop
 | .normal,s=>I s/\μ s<μ st
 |x,s=>Q x s
theorem W.loop (I:St->Prop) (μ:St->Nat) {b:Code} {Q:Ex->St->Prop} (hb: ∀st,I st->W E r b st (loopK I μ st Q)): ∀{st:St},I st->W E r (.loop b) st Q:=by
 have key: ∀n st,μ st<=n->I st-> ∃x st',LoopS E r b st x st'/\Q x st':=by
  intro n;induction n with
  |zero=>
   intro st hm hi;obtain ⟨x,s,h1,h2⟩:=hb st hi;cases x with
   |normal=>have:=h2.2;omega
   |exit id=>exact ⟨_,_,.out h1 (by simp),h2⟩
   |goto id=>exact ⟨_,_,.out h1 (by simp),h2⟩
   |ret=>exact ⟨_,_,.out h1 (by simp),h2⟩
   |panic v=>exact ⟨_,_,.out h1 (by simp),h2⟩
  |succ n ih=>
   intro st hm hi;obtain ⟨x,s,h1,h2⟩:=hb st hi;cases x with
   |normal=>
    obtain ⟨x',s',h3,h4⟩:=ih s (by have:=h2.2;omega) h2.1;exact ⟨x',s',.more h1 h3,h4⟩
   |exit id=>exact ⟨_,_,.out h1 (by simp),h2⟩
   |goto id=>exact ⟨_,_,.out h1 (by simp),h2⟩
   |ret=>exact ⟨_,_,.out h1 (by simp),h2⟩
   |panic v=>exact ⟨_,_,.out h1 (by simp),h2⟩
 intro st hi;obtain ⟨x,s,h1,h2⟩:=key _ st (xZY _) hi;exact ⟨x,s,.loop h1,h2⟩
end
def bW (N:St->Prop) (Q:Ex->St->Prop):Ex->St->Prop
 | .normal,s=>N s
 |x,s=>Q x s
def blockK (id:Nat) (Q:Ex->St->Prop) (x:Ex) (s:St):Prop:=Q (qEQ id x) s
def scopeK (Q:Ex->St->Prop):Ex->St->Prop
 | .goto _,_=>False
 |x,s=>Q x s
def condK (a:AV) (A B:Prop):Prop:=
 match a with
 | .val (.bool t)=>(t=true->A)/\(t=false->B)
 |_=>False
def regK (st:St) (Q:Ex->St->Prop) (x:Ex) (tm:T AV) (h:Hp):Prop:=Q x {st with tm:=tm,h:=h}
def wpc (E:Env) (r:Option Nat):Code->St->(Ex->St->Prop)->Prop
 | .skip,st,Q=>Q .normal st
 | .label _,st,Q=>Q .normal st
 | .exit id,st,Q=>Q (.exit id) st
 | .ret,st,Q=>Q .ret st
 | .seq a b,st,Q=>wpc E r a st (bW (fun s=>wpc E r b s Q) Q)
 | .cond q a b,st,Q=>condK (qH st.tm q) (wpc E r a st Q) (wpc E r b st Q)
 | .block id b,st,Q=>wpc E r b st (blockK id Q)
 | .scope b,st,Q=>wpc E r b st (scopeK Q)
 | .region id ops draw,st,Q=>bif draw then W E r (.region id ops true) st Q else WO E st.nt ops ops.toList st.tm st.h (regK st Q)
 |c,st,Q=>W E r c st Q
theorem wpc.ok {E:Env} (htb:Tb E.P E.tb) {r:Option Nat}: ∀(c:Code) (st:St) (Q:Ex->St->Prop),wpc E r c st Q->W E r c st Q:=by
 intro c;induction c with
 |skip=>intro st Q h;exact ⟨_,_,.skip,h⟩
 |label l=>intro st Q h;exact ⟨_,_,.label,h⟩
 |exit id=>intro st Q h;exact ⟨_,_,.exit,h⟩
 |ret=>intro st Q h;exact ⟨_,_,.ret,h⟩
 |seq a b iha ihb=>
  intro st Q h;obtain ⟨x,s,h1,h2⟩:=iha _ _ h;cases x with
  |normal=>obtain ⟨y,s',h3,h4⟩:=ihb _ _ h2;exact ⟨y,s',h1.seq h3,h4⟩
  |exit id=>exact ⟨_,_,h1.seqOut (by simp),h2⟩
  |goto id=>exact ⟨_,_,h1.seqOut (by simp),h2⟩
  |ret=>exact ⟨_,_,h1.seqOut (by simp),h2⟩
  |panic v=>exact ⟨_,_,h1.seqOut (by simp),h2⟩
 |cond q a b iha ihb=>
  intro st Q h;simp only [wpc,condK] at h;split at h
  ·rename_i t ht;cases t with
   |true=>obtain ⟨x,s,h1,h2⟩:=iha _ _ (h.1 rfl);exact ⟨x,s,.cond ht h1,h2⟩
   |false=>obtain ⟨x,s,h1,h2⟩:=ihb _ _ (h.2 rfl);exact ⟨x,s,.cond ht h1,h2⟩
  ·exact h.elim
 |block id b ih=>
  intro st Q h;obtain ⟨x,s,h1,h2⟩:=ih _ _ h;exact ⟨_,_,h1.block,h2⟩
 |scope b ih=>
  intro st Q h;obtain ⟨x,s,h1,h2⟩:=ih _ _ h;cases x with
  |goto id=>exact h2.elim
  |normal=>exact ⟨_,_,h1.scope (by simp),h2⟩
  |exit id=>exact ⟨_,_,h1.scope (by simp),h2⟩
  |ret=>exact ⟨_,_,h1.scope (by simp),h2⟩
  |panic v=>exact ⟨_,_,h1.scope (by simp),h2⟩
 |region id ops draw=>
  intro st Q h;cases draw with
  |true=>exact h
  |false=>obtain ⟨x,tm,hh,h1,h2⟩:=WO.ok htb _ _ _ _ h;exact ⟨_,_,.region h1,h2⟩
 |_=>intro st Q h;exact h
section
variable {E:Env}
def FnS (E:Env) (f:FuncId) (as:List AV) (h:Hp) (res:CR) (h':Hp):Prop:=
 h.n<=h'.n/\(∃fn,E.ft.get f=some fn/\fn.body.isSome=true)/\ ∀lim,h'.n<=lim-> ∀c w args',Good lim c h w->(∀b v,E.xt b=some v->c.ext b=some v)->RL c as args'->
   CallsIn Fence.wide 0 E.P f args'.toArray w fun e w'=> ∃c',Stp lim c h w c' h' w'/\hH c' res e
def FnA (E:Env) (f:FuncId) (as:List AV) (h:Hp) (K:KP):Prop:= ∃res h',FnS E f as h res h'/\K res h'
theorem FnA.mono {f:FuncId} {as:List AV} {h:Hp} {K K':KP} (hc:FnA E f as h K) (hk: ∀r h',K r h'->K' r h'):FnA E f as h K':=by
 obtain ⟨r,h',h1,h2⟩:=hc;exact ⟨r,h',h1,hk _ _ h2⟩
theorem FnS.call (hft:qBb E) {f:FuncId} {as:List AV} {h h':Hp} {res:CR} (hc:FnS E f as h res h') {fv:AV} {args:List AV} (hcal:callee fv args=some (f,as)):CallS E fv args h res h':=by
 obtain ⟨n1,⟨fn,hfn,hbd⟩,s1⟩:=hc;refine ⟨n1,fun lim hl c w fv' args' g hxt hf ha=> ?_⟩;obtain ⟨as',d,has,hd,hinv⟩:=bO (E:=E) hcal hf ha (hft f fn hfn).1 hbd (hft f fn hfn).2 w;exact ⟨d,hd,.inl ⟨f,as'.toArray,hinv,s1 lim hl c w as' g hxt has⟩⟩
theorem FnA.call (hft:qBb E) {f:FuncId} {as:List AV} {h:Hp} {K:KP} (hc:FnA E f as h K) {fv:AV} {args:List AV} (hcal:callee fv args=some (f,as)):CallA E fv args h K:=by
 obtain ⟨r,h',h1,h2⟩:=hc;exact ⟨r,h',h1.call hft hcal,h2⟩
def xX (E:Env) (fn:Func) (K:KP) (x:Ex) (st:St):Prop:=
 match x with
 | .normal=> ∃h' vs,vK st.mks st.h=some h'/\vO E st.tm h' fn.results.toList=some vs/\K (.ret (zJ vs)) h'
 | .ret=> ∃h' vs,vK st.mks st.h=some h'/\vO E st.tm h' fn.results.toList=some vs/\K (.ret (zJ vs)) h'
 | .panic v=> ∃h',vK st.mks st.h=some h'/\K (.pan v) h'
 |_=>False
open Classical in
theorem FnA.enter (hft:qBb E) (htb:Tb E.P E.tb) {f:FuncId} {fn:Func} {body:Code} (hfn:E.ft.get f=some fn) (hb:fn.body=some body) {args:List AV} {h:Hp} {K:KP}
  (hw:W E none body {tm:=argsTo args 0 .e,nt:=args.length+(fn.ntmps - args.length),h:=h,mks:=[]} (xX E fn K)):FnA E f args h K:=by
 obtain ⟨x,st,hs,hk⟩:=hw
 let code:zF:=fun r c s=>if r=none/\c=body/\s={tm:=argsTo args 0 .e,nt:=args.length+(fn.ntmps - args.length),h:=h,mks:=[]} then some (x,st) else none
 have hc:zN E code:=by
  intro r c s y s' he;simp only [code] at he;split at he
  ·rename_i hq;obtain ⟨rfl,rfl,rfl⟩:=hq;cases he;exact hs
  ·cases he
 have key: ∀res h',yM E code f args h=some (res,h')->K res h'->FnA E f args h K:=fun res h' he hk=>by
  obtain ⟨n1,hx,s1⟩:=pE hft htb hc he;exact ⟨res,h',⟨n1,hx,s1⟩,hk⟩
 cases x with
 |normal=>
  obtain ⟨h',vs,h1,h2,h3⟩:=hk;refine key (.ret (zJ vs)) h' ?_ h3;unfold yM;simp only [hfn,hb,code,and_self,if_true,h1,h2]
 |ret=>
  obtain ⟨h',vs,h1,h2,h3⟩:=hk;refine key (.ret (zJ vs)) h' ?_ h3;unfold yM;simp only [hfn,hb,code,and_self,if_true,h1,h2]
 |panic v=>
  obtain ⟨h',h1,h3⟩:=hk;refine key (.pan v) h' ?_ h3;unfold yM;simp only [hfn,hb,code,and_self,if_true,h1]
 |exit id=>exact hk.elim
 |goto id=>exact hk.elim
def roundK2 (l:Nat) (K:KP) (x:Ex) (s:St):Prop:=
 ∃j rc2,yL x=some j/\s.mks=[]/\s.h.t.get l=some (.loop rc2)/\K (.ret (.val (.bool j.isNone))) (s.h.set l (.loop {rc2 with state:=if j.isNone then .ready else .done,pending:=j}))
def roundK1 (E:Env) (l:Nat) (body:Code) (K:KP) (x:Ex) (s:St):Prop:=
 x= .normal/\s.mks=[]/\ ∃rc1,s.h.t.get l=some (.loop rc1)/\rc1.state= .ready/\W E (some l) body {s with h:=s.h.set l (.loop {rc1 with state:= .busy})} (roundK2 l K)
open Classical in
theorem CallA.round {l:Nat} {args:List AV} {h:Hp} {K:KP} {rc:ALoop} (hl:h.t.get l=some (.loop rc)) (hs:rc.state= .ready) {tm:T AV} (hp:wY rc.nt rc.params.toList args rc.tmps=some tm)
  (hw:W E (some l) rc.assign {tm:=tm,nt:=rc.nt,h:=h,mks:=[]} (roundK1 E l rc.body K)):CallA E (.yld l) args h K:=by
 obtain ⟨x,st,h1,rfl,hm1,rc1,hl1,hs1,y,st2,h2,j,rc2,hj,hm2,hl2,hk⟩:=hw;obtain ⟨tm1,nt1,hh1,mks1⟩:=st;simp only at hm1 hl1 h2;subst hm1
 let code:zF:=fun r c s=>if r=some l/\c=rc.body/\s={tm:=tm1,nt:=nt1,h:=hh1.set l (.loop {rc1 with state:= .busy}),mks:=[]} then some (y,st2)
  else if r=some l/\c=rc.assign/\s={tm:=tm,nt:=rc.nt,h:=h,mks:=[]} then some (.normal,{tm:=tm1,nt:=nt1,h:=hh1,mks:=[]}) else none
 have hc:zN E code:=by
  intro r c s y s' he;simp only [code] at he;split at he
  ·rename_i hq;obtain ⟨rfl,rfl,rfl⟩:=hq;cases he;exact h2
  ·split at he
   ·rename_i hq;obtain ⟨rfl,rfl,rfl⟩:=hq;cases he;exact h1
   ·cases he
 have hne:({tm:=tm,nt:=rc.nt,h:=h,mks:=[]}:St)≠{tm:=tm1,nt:=nt1,h:=hh1.set l (.loop {rc1 with state:= .busy}),mks:=[]}:=by
  intro he;have e2:h=hh1.set l (.loop {rc1 with state:= .busy}):=congrArg St.h he;rw [e2] at hl;simp only [Hp.set,T.get_put,if_true,Option.some.injEq,AO.loop.injEq] at hl;rw [<-hl] at hs;cases hs
 have he:qAN code l args h=some (.ret (.val (.bool j.isNone)),st2.h.set l (.loop {rc2 with state:=if j.isNone then .ready else .done,pending:=j})):=by
  unfold qAN;have c1:code (some l) rc.assign {tm:=tm,nt:=rc.nt,h:=h,mks:=[]}=some (.normal,{tm:=tm1,nt:=nt1,h:=hh1,mks:=[]}):=by
   simp only [code];rw [if_neg (fun q=>hne q.2.2)];simp
  have c2:code (some l) rc.body {tm:=tm1,nt:=nt1,h:=hh1.set l (.loop {rc1 with state:= .busy}),mks:=[]}=some (y,st2):=by simp [code]
  simp only [hl,hs,hp,c1,hl1,hs1,c2,hj,hm2,hl2]
 exact ⟨_,_,qCX hc he,hk⟩
def rangeK (E:Env) (r:Option Nat) (st:St) (l:Nat) (mk1:List Nat) (Q:Ex->St->Prop) (res:CR) (h2:Hp):Prop:=
 match res with
 | .pan v=>Q (.panic v) {st with h:=h2,mks:=mk1}
 | .ret _=> ∃rc,h2.t.get l=some (.loop rc)/\rc.state≠ .busy/\(rc.pending=none->Q .normal {st with h:=h2.set l (.loop {rc with state:= .exhausted}),mks:=mk1})/\
   (∀c,rc.pending=some c->W E r c {st with h:=h2.set l (.loop {rc with state:= .exhausted}),mks:=mk1} Q)
theorem W.range (hft:qBb E) {r:Option Nat} {f:Operand} {ps:Array Tmp} {assign body:Code} {st:St} {Q:Ex->St->Prop} {l:Nat} {h1:Hp} {mk1:List Nat}
  (hel:yA r st.tm st.nt ps assign body st.h st.mks=some (l,h1,mk1)) {g:FuncId} {as:List AV} (hcal:callee (qH st.tm f) [.yld l]=some (g,as)) (hw:FnA E g as h1 (rangeK E r st l mk1 Q)):
  W E r (.rangeFunc f ps assign body) st Q:=by
 have n0:=qAd hel;obtain ⟨res,h2,⟨n1,⟨fn,hfn,hbd⟩,s1⟩,hk⟩:=hw;have key: ∀lim,h2.n<=lim-> ∀ds c a w,SR E lim c st a w ds->RoundR c r-> ∀Q:Exit->Act->World->Prop,
   (∀c2 w2 a2 e,Stp lim c st.h w c2 h2 w2->hH c2 res e->c2.dom l->a2.tmps=a.tmps->a2.defers=yZ c2 mk1++ds->(∀d∈mk1,c2.dom d)->TR c2 st.nt st.tm a2.tmps->(∀b v,E.xt b=some v->c2.ext b=some v)->
    rangePost (Wd (r.map c.ρ)) 0 E.P (c2.ρ l) Q a2 e w2)->(Code.rangeFunc f ps assign body).wpIn (Wd (r.map c.ρ)) 0 E.P Q a w:=by
  refine fun lim hl ds c a w s hr Q hQ=>wpIn_rangeFunc fun fnid _=> ?_;obtain ⟨mark,w1,c1,hrun,hst,hdl,hmk,hmd⟩:=qAS hel (xZW n1 hl) s hr fnid;have hfv:=R.mono hst.e _ _ (wT (a:=a) s.tr f);have hya:RL c1 [.yld l] [.func (.yield (c1.ρ l)) #[] #[]]:=RL.cons (by simp only [R];exact ⟨hdl,trivial⟩) RL.nil;obtain ⟨as',d,has,hd,hinv⟩:=bO (E:=E) hcal hfv hya (hft g fn hfn).1 hbd (hft g fn hfn).2 w1;refine ⟨c1.ρ l,mark,w1,d,w1,g,as'.toArray,w1,hrun,?_,fun _ _=>trivial,hinv,by simp [Wd,Fence.wide],pN ((s1 lim hl c1 w1 as' hst.good (fun b v hb=>hst.e.ext _ _ (s.ext b v hb)) has).mono fun e w2 ⟨c2,t1,t2⟩=> ?_)⟩
  ·show (resolve a.eval (rangeCall f (c1.ρ l)) 0).run E.P w1=_;have e:Array.map a.eval (rangeCall f (c1.ρ l)).args= #[Value.func (.yield (c1.ρ l)) #[] #[]]:=by simp [Act.eval]
   unfold resolve;simp only [e];exact hd
  ·have:=hQ c2 w2 {a with defers:=mark++a.defers} e (hst.trans t1) t2 (t1.e.dom l hdl) rfl (by rw [hmk,xD t1.e hmd]) (fun d hd=>t1.e.dom d (hmd d hd)) ((s.tr.mono hst.e).mono t1.e) (fun b v hb=>t1.e.ext _ _ (hst.e.ext _ _ (s.ext b v hb)));rw [t1.e.ρ l hdl] at this;exact this
 cases res with
 |pan v=>
  refine ⟨_,_,⟨xZW n0 n1,fun lim hl ds c a w s hr Q hQ=>key lim hl ds c a w s hr Q ?_⟩,hk⟩;intro c2 w2 a2 e t1 t2 t3 t4 t5 t6 t7 t8;obtain ⟨y,rfl,hy⟩:=t2;exact hQ _ _ _ ⟨c2,t1,⟨y,rfl,hy⟩,⟨t7,t1.good,t8,t5,t6⟩⟩
 |ret v=>
  obtain ⟨rc,hrc,hb,hn,hc⟩:=hk;have shut: ∀lim,∀c2 w2,Good lim c2 h2 w2-> ∃w3,(Instr.endLoop (c2.ρ l)).run E.P w2= .ok rc.pending w3/\Stp lim c2 h2 w2 c2 (h2.set l (.loop {rc with state:= .exhausted})) w3:=by
   intro lim c2 w2 g2;obtain ⟨_,o',ho,hro⟩:=g2.live l _ hrc;simp only [RO] at hro;obtain ⟨tmps0,fn0,htr0,hdd,rfl⟩:=hro;refine ⟨_,run_endLoop ho hb,Stp.write g2 _ hrc (.loop {state:= .exhausted,pending:=rc.pending,fn:=fn0,tmps:=tmps0,params:=rc.params,assign:=rc.assign,body:=rc.body,defers:=c2.ρ rc.defers}) ⟨tmps0,fn0,htr0,hdd,rfl⟩ rfl⟩
  cases hpd:rc.pending with
  |none=>
   refine ⟨_,_,⟨xZW n0 n1,fun lim hl ds c a w s hr Q hQ=>key lim hl ds c a w s hr Q ?_⟩,hn hpd⟩;intro c2 w2 a2 e t1 t2 t3 t4 t5 t6 t7 t8;obtain ⟨y,rfl,_⟩:=t2;obtain ⟨w3,hw3,hst3⟩:=shut lim c2 w2 t1.good;refine ⟨rc.pending,w3,hw3,?_⟩;rw [hpd];exact hQ _ _ _ ⟨c2,t1.trans hst3,rfl,⟨t7,hst3.good,t8,t5,t6⟩⟩
  |some cd=>
   obtain ⟨x,st',⟨n2,s2⟩,hq⟩:=hc cd hpd;refine ⟨x,st',⟨xZW (xZW n0 n1) n2,fun lim hl ds c a w s hr Q hQ=>key lim (xZW n2 hl) ds c a w s hr Q ?_⟩,hq⟩;intro c2 w2 a2 e t1 t2 t3 t4 t5 t6 t7 t8;obtain ⟨y,rfl,_⟩:=t2;obtain ⟨w3,hw3,hst3⟩:=shut lim c2 w2 t1.good;refine ⟨rc.pending,w3,hw3,?_⟩;rw [hpd];have:=s2 lim hl ds c2 a2 w3 ⟨t7,hst3.good,t8,t5,t6⟩ (hr.mono t1.e) Q fun e a' w' p=>hQ _ _ _ ((p.trans hst3).trans t1);rw [qBD t1.e hr] at this;exact this
structure Fr (n:Nat) (h h':Hp):Prop where
 lo:n<=h'.n
 le:h.n<=h'.n
 at_: ∀k,(k<n\/h'.n<=k)->h'.t.get k=h.t.get k
theorem Fr.refl {n:Nat} {h:Hp} (hn:n<=h.n):Fr n h h:=⟨hn,xZY _,fun _ _=>rfl⟩
theorem Fr.new {n:Nat} {h h':Hp} (f:Fr n h h') (o:AO):Fr n h (h'.new o):=by
 refine ⟨xYB f.lo,xYB f.le,fun k hk=> ?_⟩;have:=f.lo;simp only [Hp.new] at hk ⊢;rw [T.get_put,if_neg (by omega)];exact f.at_ k (by omega)
theorem Fr.set {n:Nat} {h h':Hp} (f:Fr n h h') {b:Nat} (hb:n<=b) (hb':b<h'.n) (o:AO):Fr n h (h'.set b o):=by
 refine ⟨f.lo,f.le,fun k hk=> ?_⟩;simp only [Hp.set] at hk ⊢;rw [T.get_put,if_neg (by omega)];exact f.at_ k (by omega)
theorem Fr.del {n:Nat} {h h':Hp} (f:Fr n h h') {b:Nat} (hb:n<=b) (hb':b<h'.n):Fr n h (h'.del b):=by
 refine ⟨f.lo,f.le,fun k hk=> ?_⟩;simp only [Hp.del] at hk ⊢;rw [T.get_put,if_neg (by omega)];exact f.at_ k (by omega)
theorem Fr.trans {n m:Nat} {h h1 h2:Hp} (f:Fr n h h1) (g:Fr m h1 h2) (hm:n<=m):Fr n h h2:=by
 refine ⟨xZW hm g.lo,xZW f.le g.le,fun k hk=> ?_⟩;have:=f.lo;have:=g.le;have:=g.lo;rw [g.at_ k (by omega),f.at_ k (by omega)]
def Hp.up (h:Hp) (n:Nat):Hp:={t:=h.t,n:=n}
@[simp] theorem Hp.up_t (h:Hp) (n:Nat):(h.up n).t=h.t:=rfl
@[simp] theorem Hp.up_n (h:Hp) (n:Nat):(h.up n).n=n:=rfl
theorem Fr.up {n m:Nat} {h h':Hp} (f:Fr n h h') (hm:h'.n<=m):Fr n h (h'.up m):=
 ⟨xZW f.lo hm,xZW f.le hm,fun k hk=>f.at_ k (by simp only [Hp.up_n] at hk;omega)⟩
theorem Good.key {lim:Nat} {c:Ctx} {h:Hp} {w:World} (g:Good lim c h w) {k:Nat} {o:AO} (e:h.t.get k=some o):k<h.n\/lim<=k:=by
 rcases xYX k h.n with h1|h1
 ·exact .inl h1
 ·rcases xYX k lim with h2|h2
  ·exact absurd (g.live k o e).1 (g.fresh k h1 h2)
  ·exact .inr h2
theorem FnS.less {f:FuncId} {as:List AV} {h h1 h2:Hp} {res:CR} (hc:FnS E f as h res h1) (hn:h2.n=h1.n) (hs: ∀k o,(k<h.n->h2.t.get k=some o->h1.t.get k=some o)/\(h.n<=k->k<h1.n->h2.t.get k=some o->h1.t.get k=some o)/\(h1.n<=k->h2.t.get k=some o->h1.t.get k=some o)):FnS E f as h res h2:=by
 obtain ⟨n1,hx,s1⟩:=hc;refine ⟨hn▸n1,hx,fun lim hl c w args' g hxt ha=>(s1 lim (hn▸hl) c w args' g hxt ha).mono ?_⟩;rintro e w' ⟨c',s,hr⟩;refine ⟨c',s.less hn (fun k o hk=> ?_),hr⟩;rcases xYX k h.n with h3|h3
 ·exact (hs k o).1 h3 hk
 ·rcases xYX k h1.n with h4|h4
  ·exact (hs k o).2.1 h3 h4 hk
  ·exact (hs k o).2.2 h4 hk
theorem Stp.bump {lim:Nat} {c c':Ctx} {h h':Hp} {w w':World} (s:Stp lim c h w c' h' w') {n:Nat} (hn:h'.n<=n):Stp lim c h w c' (h'.up n) w':=by
 refine ⟨s.e,⟨fun k h1 h2=>s.good.fresh k (xZW hn h1) h2,s.good.live,s.good.inj,s.good.ext⟩,xZW s.n hn,fun k hk=> ?_,s.os,s.tape,s.output,s.size,s.fr,s.img,fun k o hk=> ?_⟩
 ·rcases s.grow k hk with h1|h1
  ·exact .inl h1
  ·exact .inr ⟨h1.1,xZN h1.2 hn⟩
 ·rcases s.sub k o hk with h1|h1
  ·exact .inl h1
  ·exact .inr ⟨h1.1,xZN h1.2 hn⟩
theorem FnS.bump {f:FuncId} {as:List AV} {h h':Hp} {res:CR} (hc:FnS E f as h res h') {n:Nat} (hn:h'.n<=n):FnS E f as h res (h'.up n):=by
 obtain ⟨n1,hx,s1⟩:=hc;refine ⟨xZW n1 hn,hx,fun lim hl c w args' g hxt ha=> ?_⟩;have hl':n<=lim:=hl;refine (s1 lim (xZW hn hl') c w args' g hxt ha).mono ?_;rintro e w' ⟨c',s,hr⟩;exact ⟨c',s.bump hn,hr⟩
theorem FnA.calm {f:FuncId} {as:List AV} {h:Hp} {v:CR} (hc:FnA E f as h (fun r h'=>r=v/\Fr h.n h h')) {K:KP} (hk: ∀n,h.n<n->K v (h.up n)):FnA E f as h K:=by
 obtain ⟨res,h1,hs,rfl,fr⟩:=hc;refine ⟨res,h.up (h1.n+1),?_,hk _ (Nat.lt_succ_of_le fr.le)⟩;have hs':FnS E f as h res (h.up h1.n):=by
  obtain ⟨n1,hx,s1⟩:=hs;refine ⟨n1,hx,fun lim hl c w args' g hxt ha=>(s1 lim hl c w args' g hxt ha).mono ?_⟩;rintro e w' ⟨c',s,hr⟩;refine ⟨c',s.less (h2:=h.up h1.n) rfl (fun k o hk=> ?_),hr⟩;have hk':h.t.get k=some o:=hk;rw [fr.at_ k (by rcases g.key hk' with h3|h3;exact .inl h3;exact .inr (xZW hl h3))];exact hk'
 exact hs'.bump (n:=h1.n+1) (Nat.le_succ _)
structure SyOk (E:Env):Prop where
 ft:qBb E
 tb:Tb E.P E.tb
 mixed:E.P.follows .mixedOrders=true
theorem FnA.walk (ok:SyOk E) {f:FuncId} {fn:Func} {body:Code} (hfn:E.ft.get f=some fn) (hb:fn.body=some body) {args:List AV} (nt:Nat) (hnt:args.length+(fn.ntmps - args.length)=nt) {h:Hp} {K:KP}
  (hw:wpc E none body ⟨argsTo args 0 .e,nt,h,[]⟩ (xX E fn K)):FnA E f args h K:=
 FnA.enter ok.ft ok.tb hfn hb (wpc.ok ok.tb _ _ _ (by rw [hnt];exact hw))
end
theorem aeval_tmp (tm:T AV) (t:Tmp):qH tm (.tmp t)=(tm.get t).getD default:=by
 simp only [qH];cases tm.get t<;>rfl
theorem qGa (tm:T AV) (v:Value):qH tm (.const v)= .val v:=rfl
theorem qGN (tm:T AV) (f:FuncId):qH tm (.func f)= .val (.func (.func f) #[] #[]):=rfl
section
variable {P:Program} {tb:T TE} {t:TypeId} {ox oy:Operand}
theorem abin_lss {k:IntKind} (a b:Int):pQ P tb .lss t ox oy (.val (.int k a)) (.val (.int k b))=some (.val (.bool (decide (a<b)))):=by
 cases k<;>rfl
theorem abin_leq {k:IntKind} (a b:Int):pQ P tb .leq t ox oy (.val (.int k a)) (.val (.int k b))=some (.val (.bool (decide (a<=b)))):=by
 cases k<;>rfl
theorem abin_gtr {k:IntKind} (a b:Int):pQ P tb .gtr t ox oy (.val (.int k a)) (.val (.int k b))=some (.val (.bool (decide (b<a)))):=by
 cases k<;>rfl
theorem abin_geq {k:IntKind} (a b:Int):pQ P tb .geq t ox oy (.val (.int k a)) (.val (.int k b))=some (.val (.bool (decide (b<=a)))):=by
 cases k<;>rfl
theorem abin_eql {k:IntKind} (a b:Int):pQ P tb .eql t ox oy (.val (.int k a)) (.val (.int k b))=some (.val (.bool (decide (a=b)))):=by
 cases k<;>rfl
theorem abin_neq {k:IntKind} (a b:Int):pQ P tb .neq t ox oy (.val (.int k a)) (.val (.int k b))=some (.val (.bool (!decide (a=b)))):=by
 cases k<;>rfl
theorem abin_add {k:IntKind} (a b:Int):pQ P tb .add t ox oy (.val (.int k a)) (.val (.int k b))=some (.val (.int k (k.wrap (a+b)))):=by
 cases k<;>rfl
theorem abin_sub {k:IntKind} (a b:Int):pQ P tb .sub t ox oy (.val (.int k a)) (.val (.int k b))=some (.val (.int k (k.wrap (a - b)))):=by
 cases k<;>rfl
theorem abin_mul {k:IntKind} (a b:Int):pQ P tb .mul t ox oy (.val (.int k a)) (.val (.int k b))=some (.val (.int k (k.wrap (a*b)))):=by
 cases k<;>rfl
theorem aun_not (b:Bool):aun P .not (.val (.bool b))=some (.val (.bool (!b))):=rfl
end
section
variable {E:Env} {nt:Nat} {ops:Array Oper} {o:Oper} {ol:List Oper} {tm:T AV} {h h':Hp} {Q:Ex->T AV->Hp->Prop} {K:OR->Prop} {dst:Option Tmp} {ty:TypeId} {ps:String} {af:Array Edge} {g:Option (Nat×Bool)}
def WOn (E:Env) (nt:Nat) (ops:Array Oper) (ol:List Oper) (tm:T AV) (dst:Option Tmp) (Q:Ex->T AV->Hp->Prop):OR->Prop:=orK nt tm dst Q (fun tm' h'=>WO E nt ops ol tm' h' Q)
def gate (gd wt:Bool) (E:Env) (nt:Nat) (ops:Array Oper) (o:Oper) (ol:List Oper) (tm:T AV) (h:Hp) (Q:Ex->T AV->Hp->Prop):Prop:=
 gd=true/\bif wt then WOp E o tm h (WOn E nt ops ol tm o.dst Q) else putK nt tm o.dst default (fun tm'=>WO E nt ops ol tm' h Q)
theorem WO_nil:WO E nt ops [] tm h Q=Q .normal tm h:=rfl
theorem WO_cons:WO E nt ops (o::ol) tm h Q=gate (jV nt ops o) (qP ops o tm) E nt ops o ol tm h Q:=rfl
theorem gate_t:gate true true E nt ops o ol tm h Q=WOp E o tm h (WOn E nt ops ol tm o.dst Q):=by simp [gate]
theorem gate_fs {d:Tmp} {op:Op}:gate true false E nt ops ⟨some d,op,ty,ps,af,g⟩ ol tm h Q=(d<nt/\WO E nt ops ol (tm.put (some default) d) h Q):=by simp [gate,putK]
theorem gate_fn {op:Op}:gate true false E nt ops ⟨none,op,ty,ps,af,g⟩ ol tm h Q=WO E nt ops ol tm h Q:=by simp [gate,putK]
theorem WOn_some {d:Tmp} {v:AV}:WOn E nt ops ol tm (some d) Q (.ok v h')=(d<nt/\WO E nt ops ol (tm.put (some v) d) h' Q):=rfl
theorem WOn_none {v:AV}:WOn E nt ops ol tm none Q (.ok v h')=WO E nt ops ol tm h' Q:=rfl
theorem WOn_pan {v:AV}:WOn E nt ops ol tm dst Q (.pan v h')=Q (.panic v) tm h':=rfl
theorem qAH {op:Op}:jV nt ops ⟨dst,op,ty,ps,af,none⟩=true:=rfl
theorem qA5 {op:Op}:qP ops ⟨dst,op,ty,ps,af,none⟩ tm=true:=rfl
def gdst (nt:Nat):Option Tmp->Bool
 |none=>true
 |some d=>Nat.blt d nt
theorem qEA {op:Op} {j:Nat} {b:Bool}:jV nt ops ⟨dst,op,ty,ps,af,some (j,b)⟩=gdst nt ((ops[j]?).bind (·.dst)):=by
 simp only [jV];cases (ops[j]?).bind (·.dst)<;>rfl
def wnt (want:Bool):Option AV->Bool
 |some (.val (.bool b))=>bif b then want else !want
 |_=>false
def wntd (want:Bool) (tm:T AV):Option Tmp->Bool
 |none=>false
 |some d=>wnt want (tm.get d)
theorem qET {op:Op} {j:Nat} {b:Bool}:qP ops ⟨dst,op,ty,ps,af,some (j,b)⟩ tm=wntd b tm ((ops[j]?).bind (·.dst)):=by
 simp only [qP];cases (ops[j]?).bind (·.dst) with
 |none=>rfl
 |some d=>rfl
theorem wnt_t {b:Bool}:wnt true (some (.val (.bool b)))=b:=by cases b<;>rfl
theorem wnt_f {b:Bool}:wnt false (some (.val (.bool b)))= !b:=by cases b<;>rfl
theorem gdst_some {d:Nat}:gdst nt (some d)=decide (d<nt):=by
 simp only [gdst];by_cases hd:d<nt
 ·have:Nat.blt d nt=true:=by rw [xZI];exact hd
  simp [this,hd]
 ·have:Nat.blt d nt=false:=by
   cases hb:Nat.blt d nt with
   |false=>rfl
   |true=>rw [xZI] at hb;exact absurd hb hd
  simp [this,hd]
theorem wntd_some {d:Nat} {b:Bool}:wntd b tm (some d)=wnt b (tm.get d):=rfl
def bX (h:Hp) (x:Option AV) (K:OR->Prop):Prop:=
 match x with
 |some v=>K (.ok v h)
 |none=>False
def optH (x:Option Hp) (K:OR->Prop):Prop:=
 match x with
 |some h'=>K (.ok default h')
 |none=>False
def qAB (x:Option (AV×Hp)) (K:OR->Prop):Prop:=
 match x with
 |some (v,h')=>K (.ok v h')
 |none=>False
theorem optK_some {v:AV}:bX h (some v) K=K (.ok v h):=rfl
theorem optH_some:optH (some h') K=K (.ok default h'):=rfl
theorem wH {v:AV}:qAB (some (v,h')) K=K (.ok v h'):=rfl
theorem zA:aopK E o tm h K=qAB (aop E.P E.tb E.xt (qH tm) o.op h) K:=by
 unfold aopK qAB;cases aop E.P E.tb E.xt (qH tm) o.op h with
 |none=>simp
 |some p=>simp
theorem vP {x:Option AV}:qAB (pr1 h x) K=bX h x K:=by cases x<;>rfl
theorem optP_prH {x:Option Hp}:qAB (prH x) K=optH x K:=by cases x<;>rfl
theorem WOp_move {x:Operand}:WOp E ⟨dst,.move x,ty,ps,af,g⟩ tm h K=K (.ok (qH tm x) h):=by simp only [WOp,zA,aop,wH]
theorem qGS {x:Operand}:WOp E ⟨dst,.assign x,ty,ps,af,g⟩ tm h K=K (.ok (qH tm x) h):=by simp only [WOp,zA,aop,wH]
theorem WOp_pick {q x y:Operand}:WOp E ⟨dst,.pick q x y,ty,ps,af,g⟩ tm h K=qAB (qEV h (qH tm q) (qH tm x) (qH tm y)) K:=by simp only [WOp,zA,aop]
theorem aoPick_b {b:Bool} {x y:AV}:qEV h (.val (.bool b)) x y=some (bif b then x else y,h):=rfl
theorem WOp_box {e:TypeId} {x:Operand}:WOp E ⟨dst,.box e x,ty,ps,af,g⟩ tm h K=K (.ok (.ptr h.n 0) (h.new (.cells (cellsOf (qH tm x)) e))):=by simp only [WOp,zA,aop,wH]
theorem qEc {e:TypeId}:WOp E ⟨dst,.alloc e,ty,ps,af,g⟩ tm h K=qAB (jT E.tb h e) K:=by simp only [WOp,zA,aop]
theorem WOp_build {t:TypeId} {p:Array (Nat×Operand)}:WOp E ⟨dst,.build t p,ty,ps,af,g⟩ tm h K=bX h (vN E.tb t (p.toList.map fun p=>(p.1,qH tm p.2))) K:=by simp only [WOp,zA,aop,vP]
theorem jJ {t:TypeId} {n:Nat} {p:Array (Nat×Operand)}:WOp E ⟨dst,.buildSlice t n p,ty,ps,af,g⟩ tm h K=qAB (j0 E.tb h t n (p.toList.map fun p=>(p.1,qH tm p.2))) K:=by simp only [WOp,zA,aop]
theorem WOp_load {t:TypeId} {x:Operand}:WOp E ⟨dst,.load t x,ty,ps,af,g⟩ tm h K=bX h (qO E.tb E.xt h t (qH tm x)) K:=by simp only [WOp,zA,aop,vP]
theorem WOp_store {t:TypeId} {x y:Operand}:WOp E ⟨dst,.store t x y,ty,ps,af,g⟩ tm h K=optH (jS E.tb h t (qH tm x) (qH tm y)) K:=by simp only [WOp,zA,aop,optP_prH]
theorem qE4 {x:Operand}:WOp E ⟨dst,.nilCheck x,ty,ps,af,g⟩ tm h K=qAB (bif uC (qH tm x) then some (qH tm x,h) else none) K:=by simp only [WOp,zA,aop]
theorem WOp_bin {op:BinOp} {t t':TypeId} {x y:Operand}:WOp E ⟨dst,.binOp op t x y t',ty,ps,af,g⟩ tm h K=bX h (pQ E.P E.tb op t x y (qH tm x) (qH tm y)) K:=by simp only [WOp,zA,aop,vP]
theorem WOp_un {op:UnOp} {t:TypeId} {x:Operand}:WOp E ⟨dst,.unOp op t x,ty,ps,af,g⟩ tm h K=bX h (aun E.P op (qH tm x)) K:=by simp only [WOp,zA,aop,vP]
theorem qDi {t t':TypeId} {x:Operand}:WOp E ⟨dst,.convert t t' x,ty,ps,af,g⟩ tm h K=bX h (qBV E.tb h t t' (qH tm x)) K:=by simp only [WOp,zA,aop,vP]
theorem WOp_iface {t:TypeId} {x:Operand}:WOp E ⟨dst,.makeInterface t x,ty,ps,af,g⟩ tm h K=qAB (qEW E.tb h t (qH tm x)) K:=by simp only [WOp,zA,aop]
theorem WOp_func {f:Fn} {a b:Array Operand}:WOp E ⟨dst,.makeFunc f a b,ty,ps,af,g⟩ tm h K=K (.ok (.fn f (a.toList.map (qH tm)) (b.toList.map (qH tm))) h):=by simp only [WOp,zA,aop,wH]
theorem zP {t:TypeId} {x y:Operand}:WOp E ⟨dst,.makeSlice t x y,ty,ps,af,g⟩ tm h K=qAB (zO E.tb h t (qH tm x) (qH tm y)) K:=by simp only [WOp,zA,aop]
theorem uD {t:TypeId} {x:Operand} {lo hi:Option Operand}:WOp E ⟨dst,.slice t x lo hi none,ty,ps,af,g⟩ tm h K=bX h (vS E.tb h t (qH tm x) (lo.map (qH tm)) (hi.map (qH tm))) K:=by simp only [WOp,zA,aop,qEU,vP]
theorem qDy {t:TypeId} {x:Operand} {f:Nat}:WOp E ⟨dst,.fieldAddr t x f,ty,ps,af,g⟩ tm h K=bX h (qL E.tb t (qH tm x) f) K:=by simp only [WOp,zA,aop,vP]
theorem WOp_field {t:TypeId} {x:Operand} {f:Nat}:WOp E ⟨dst,.field t x f,ty,ps,af,g⟩ tm h K=bX h (qDf E.tb t (qH tm x) f) K:=by simp only [WOp,zA,aop,vP]
theorem qDx {t:TypeId} {x i:Operand}:WOp E ⟨dst,.indexAddr t x i,ty,ps,af,g⟩ tm h K=bX h (qM E.tb t (qH tm x) (qH tm i)) K:=by simp only [WOp,zA,aop,vP]
theorem WOp_index {t:TypeId} {x i:Operand}:WOp E ⟨dst,.index t x i,ty,ps,af,g⟩ tm h K=bX h (qDd E.tb t (qH tm x) (qH tm i)) K:=by simp only [WOp,zA,aop,vP]
theorem qGf {x:Operand} {i:Nat}:WOp E ⟨dst,.extract x i,ty,ps,af,g⟩ tm h K=bX h (vQ (qH tm x) i) K:=by simp only [WOp,zA,aop,vP]
theorem qGg {b:Builtin} {a:Array Operand} {ts:Array TypeId}:WOp E ⟨dst,.call ⟨.builtin b,a,ts⟩,ty,ps,af,g⟩ tm h K=qAB (qT E.P E.tb E.xt b ts.toList (a.toList.map (qH tm)) h) K:=by
 simp only [WOp,calK,zA,aop,qBB]
theorem WOp_call {f:Operand} {a:Array Operand} {ts:Array TypeId}:WOp E ⟨dst,.call ⟨.value f,a,ts⟩,ty,ps,af,g⟩ tm h K=CallA E (qH tm f) (a.toList.map (qH tm)) h (resK K):=by
 simp only [WOp,calK]
theorem WOp_panic {x:Operand}:WOp E ⟨dst,.panic x,ty,ps,af,g⟩ tm h K=panK h (qH tm x) K:=by simp only [WOp]
theorem panK_ifc {t:TypeId} {v:AV}:panK h (.ifc t v) K=K (.pan (.ifc t v) h):=by simp [panK,qBs]
theorem resK_ret {v:AV}:resK K (.ret v) h=K (.ok v h):=rfl
theorem resK_pan {v:AV}:resK K (.pan v) h=K (.pan v h):=rfl
theorem qE2 {P:Program} {tb:T TE} {xt:Xt} {t:TypeId} {a:AV}:qAB (qT P tb xt .len [t] [a] h) K=bX h ((zI tb h t a).map fun (n:Nat)=>AV.val (.int .i64 (n:Int))) K:=by
 simp only [qT];cases zI tb h t a<;>rfl
theorem qGL (ok:SyOk E) {f:FuncId} {args:List AV} {K:KP} (hc:FnA E f args h K):CallA E (.val (.func (.func f) #[] #[])) args h K:=hc.call ok.ft (by simp [callee])
theorem xI (ok:SyOk E) {f:FuncId} {fs cs args:List AV} {K:KP} (hc:FnA E f (fs++args++cs) h K):CallA E (.fn (.func f) fs cs) args h K:=hc.call ok.ft (by simp [callee])
end
section
variable {E:Env} {r:Option Nat} {tm:T AV} {nt:Nat} {h:Hp} {mks:List Nat} {Q:Ex->St->Prop}
theorem qA {id:Nat} {ops:Array Oper} {b:Code} (hw: ∀K:Ex->T AV->Hp->Prop,(∀tm h,wpc E r b ⟨tm,nt,h,mks⟩ Q->K .normal tm h)->(∀v tm h,Q (.panic v) ⟨tm,nt,h,mks⟩->K (.panic v) tm h)->WO E nt ops ops.toList tm h K):
  wpc E r (.seq (.region id ops false) b) ⟨tm,nt,h,mks⟩ Q:=by
 show WO E nt ops ops.toList tm h (regK ⟨tm,nt,h,mks⟩ (bW (fun s=>wpc E r b s Q) Q));exact hw _ (fun tm h hh=>hh) (fun v tm h hh=>hh)
theorem reg {id:Nat} {ops:Array Oper} (hw: ∀K:Ex->T AV->Hp->Prop,(∀tm h,Q .normal ⟨tm,nt,h,mks⟩->K .normal tm h)->(∀v tm h,Q (.panic v) ⟨tm,nt,h,mks⟩->K (.panic v) tm h)->WO E nt ops ops.toList tm h K):
  wpc E r (.region id ops false) ⟨tm,nt,h,mks⟩ Q:=by
 show WO E nt ops ops.toList tm h (regK ⟨tm,nt,h,mks⟩ Q);exact hw _ (fun tm h hh=>hh) (fun v tm h hh=>hh)
theorem wU {a b:Code} {st:St} (hw: ∀K:Ex->St->Prop,(∀s,wpc E r b s Q->K .normal s)->(∀x s,x≠ .normal->Q x s->K x s)->wpc E r a st K):wpc E r (.seq a b) st Q:=
 hw (bW (fun s=>wpc E r b s Q) Q) (fun s hh=>hh) (fun x s hx hh=>by cases x<;>first|exact absurd rfl hx|exact hh)
theorem jP {a b c:Code} {st:St} (hw:wpc E r (.seq a (.seq b c)) st Q):wpc E r (.seq (.seq a b) c) st Q:=by
 have e:(bW (fun s=>wpc E r b s (bW (fun s=>wpc E r c s Q) Q)) (bW (fun s=>wpc E r c s Q) Q))=bW (fun s=>wpc E r b s (bW (fun s=>wpc E r c s Q) Q)) Q:=by
  funext x s;cases x<;>rfl
 show wpc E r a st (bW (fun s=>wpc E r b s (bW (fun s=>wpc E r c s Q) Q)) (bW (fun s=>wpc E r c s Q) Q));rw [e];exact hw
theorem zD {b:Code} {st:St} (hw:wpc E r b st Q):wpc E r (.seq .skip b) st Q:=hw
theorem qG {id:Nat} {b:Code} {st:St} (hw:Q (.exit id) st):wpc E r (.seq (.exit id) b) st Q:=hw
theorem qS {b:Code} {st:St} (hw:Q .ret st):wpc E r (.seq .ret b) st Q:=hw
theorem qD {st:St} (hq:Q .ret st):wpc E r .ret st Q:=hq
theorem qN {st:St} (hq:Q .normal st):wpc E r .skip st Q:=hq
theorem qE7 {q:Operand} {a b:Code} {st:St} (t:Bool) (ht:qH st.tm q= .val (.bool t)) (h1:t=true->wpc E r a st Q) (h2:t=false->wpc E r b st Q):wpc E r (.cond q a b) st Q:=by
 show condK (qH st.tm q) _ _;rw [ht];exact ⟨h1,h2⟩
theorem qFc {q:Operand} {a b c:Code} {st:St} (t:Bool) (ht:qH st.tm q= .val (.bool t)) (h1:t=true->wpc E r (.seq a c) st Q) (h2:t=false->wpc E r (.seq b c) st Q):wpc E r (.seq (.cond q a b) c) st Q:=by
 show condK (qH st.tm q) _ _;rw [ht];exact ⟨h1,h2⟩
theorem qY {id:Nat} {b:Code} {st:St} (hw: ∀K:Ex->St->Prop,(∀s,Q .normal s->K .normal s)->(∀s,Q .normal s->K (.exit id) s)->(∀id' s,id'≠id->Q (.exit id') s->K (.exit id') s)->(∀s,Q .ret s->K .ret s)->(∀v s,Q (.panic v) s->K (.panic v) s)->wpc E r b st K):
  wpc E r (.block id b) st Q:=by
 refine hw (blockK id Q) (fun s hh=>hh) (fun s hh=> ?_) (fun id' s hne hh=> ?_) (fun s hh=>hh) (fun v s hh=>hh)
 ·show Q (bif Nat.beq id id then .normal else .exit id) s;have:Nat.beq id id=true:=by simp
  rw [this];exact hh
 ·show Q (bif Nat.beq id' id then .normal else .exit id') s;have:Nat.beq id' id=false:=by cases hb:Nat.beq id' id;rfl;exact absurd (xZU hb) hne
  rw [this];exact hh
theorem qC {id:Nat} {b c:Code} {st:St} (hw: ∀K:Ex->St->Prop,(∀s,wpc E r c s Q->K .normal s)->(∀s,wpc E r c s Q->K (.exit id) s)->(∀id' s,id'≠id->Q (.exit id') s->K (.exit id') s)->(∀s,Q .ret s->K .ret s)->(∀v s,Q (.panic v) s->K (.panic v) s)->wpc E r b st K):
  wpc E r (.seq (.block id b) c) st Q:=
 qY (Q:=bW (fun s=>wpc E r c s Q) Q) hw
theorem qI (ok:SyOk E) {b:Code} (I:St->Prop) (μ:St->Nat) (hb: ∀st,I st->wpc E r b st (loopK I μ st Q)) {st:St} (hi:I st):wpc E r (.loop b) st Q:=
 W.loop I μ (fun s hs=>wpc.ok ok.tb _ _ _ (hb s hs)) hi
theorem qK {fn:Func} {K:KP} {t:Tmp} (h1:fn.results.toList=[.tmp t]) (h3:K (.ret ((tm.get t).getD default)) h):xX E fn K .ret ⟨tm,nt,h,[]⟩:=by
 refine ⟨h,_,rfl,by rw [h1];rfl,?_⟩;have:(match tm.get t with|some a=>a|none=>default)=(tm.get t).getD default:=by cases tm.get t<;>rfl
 show K (.ret (match tm.get t with|some a=>a|none=>default)) h;rw [this];exact h3
theorem wP {fn:Func} {K:KP} {t u:Tmp} (h1:fn.results.toList=[.tmp t,.tmp u]) (h3:K (.ret (.tup [(tm.get t).getD default,(tm.get u).getD default])) h):xX E fn K .ret ⟨tm,nt,h,[]⟩:=by
 refine ⟨h,_,rfl,by rw [h1];rfl,?_⟩;have e1:(match tm.get t with|some a=>a|none=>default)=(tm.get t).getD default:=by cases tm.get t<;>rfl
 have e2:(match tm.get u with|some a=>a|none=>default)=(tm.get u).getD default:=by cases tm.get u<;>rfl
 show K (.ret (.tup [match tm.get t with|some a=>a|none=>default,match tm.get u with|some a=>a|none=>default])) h;rw [e1,e2];exact h3
theorem end_ret {fn:Func} {K:KP} {h':Hp} {vs:List AV} (h1:vK mks h=some h') (h2:vO E tm h' fn.results.toList=some vs) (h3:K (.ret (zJ vs)) h'):xX E fn K .ret ⟨tm,nt,h,mks⟩:=⟨h',vs,h1,h2,h3⟩
end
theorem qX {E:Env} {r:Option Nat} {Q:Ex->St->Prop} {q:Operand} {a b c:Code} {st:St} (ht:qH st.tm q= .val (.bool true)) (h:wpc E r (.seq a c) st Q):wpc E r (.seq (.cond q a b) c) st Q:=qFc true ht (fun _=>h) (fun hx=>by cases hx)
theorem qU {E:Env} {r:Option Nat} {Q:Ex->St->Prop} {q:Operand} {a b c:Code} {st:St} (ht:qH st.tm q= .val (.bool false)) (h:wpc E r (.seq b c) st Q):wpc E r (.seq (.cond q a b) c) st Q:=qFc false ht (fun hx=>by cases hx) (fun _=>h)
theorem qV {E:Env} {r:Option Nat} {Q:Ex->St->Prop} {q:Operand} {b c:Code} {st:St} (ht:qH st.tm q= .val (.bool true)) (h:wpc E r c st Q):wpc E r (.seq (.cond q .skip b) c) st Q:=qX ht h
theorem jL {E:Env} {r:Option Nat} {Q:Ex->St->Prop} {q:Operand} {a c:Code} {st:St} (ht:qH st.tm q= .val (.bool false)) (h:wpc E r c st Q):wpc E r (.seq (.cond q a .skip) c) st Q:=qU ht h
theorem wcT {E:Env} {r:Option Nat} {Q:Ex->St->Prop} {q:Operand} {a b:Code} {st:St} (ht:qH st.tm q= .val (.bool true)) (h:wpc E r a st Q):wpc E r (.cond q a b) st Q:=qE7 true ht (fun _=>h) (fun hx=>by cases hx)
theorem wcF {E:Env} {r:Option Nat} {Q:Ex->St->Prop} {q:Operand} {a b:Code} {st:St} (ht:qH st.tm q= .val (.bool false)) (h:wpc E r b st Q):wpc E r (.cond q a b) st Q:=qE7 false ht (fun hx=>by cases hx) (fun _=>h)
theorem qB {E:Env} {r:Option Nat} {tm:T AV} {nt:Nat} {h:Hp} {mks:List Nat} {Q:Ex->St->Prop} {id:Nat} {ops:Array Oper} {b c:Code} (hw: ∀K:Ex->T AV->Hp->Prop,(∀tm h,wpc E r (.seq b c) ⟨tm,nt,h,mks⟩ Q->K .normal tm h)->(∀v tm h,Q (.panic v) ⟨tm,nt,h,mks⟩->K (.panic v) tm h)->WO E nt ops ops.toList tm h K):wpc E r (.seq (.seq (.region id ops false) b) c) ⟨tm,nt,h,mks⟩ Q:=jP (qA hw)
end Go.Ev
end
noncomputable section
namespace Go.Ev
open Classical
section
variable {P:Program} {tb:T TE} {xt:Xt} {call:jK} {ops:Array Oper} {s:Sta} {S:Nat->DS} {k:Nat->Kd} {v:Nat->AV} {hp:Nat->Hp}
def DChk (P:Program) (tb:T TE) (xt:Xt) (call:jK) (st:DS) (N:Nat):Prop:=
 ∀r∈st.rs,∀e∈({j:=st.ne,b:=st.b,mj:=st.mj,nx:=N}:BE)::st.bs,e.j=r.ne\/bt r.m e.nx=true\/bt e.mj r.i=true\/ ∃h'',jU P tb xt call r.o r.tm {t:=ovl (fun f=>bt r.m f && !bt e.mj f) st.fs e.b,n:=r.n}=some (.ok r.v h'')
theorem wQ (htb:Tb P tb) (hs:jY P xt call) {nt:Nat} {ops:Array Oper} {tm:T AV} {h:Hp} {s:Sta} (hsta:sta ops=some s) (hmx:s.mx<=nt) {st:DS}
  (hrun:yN P tb xt call ops ops.toList s.ms {i:=0,tm:=tm,n:=h.n,b:=h.t,mj:=0,dl:=0,ne:=0,fs:=[],bs:=[],rs:=[]}=some st) (hchk:DChk P tb xt call st ops.size):
  h.n<=st.n/\ ∀lim,st.n<=lim-> ∀c a w r t,Good lim c h w->(∀b v,xt b=some v->c.ext b=some v)->TR c nt tm a.tmps->
   ∀Q:Exit->Act->World->Prop,(∀e a' w',Post lim c h w nt a.defers .normal st.tm {t:=ovl (fun f=> !bt st.mj f) st.fs st.b,n:=st.n} e a' w'->Q e a' w')->wpOpsIn (Wd r) 0 P ops Q (Region.linearise .any ops t) a {w with drawn:=w.drawn+1}:=by
 unfold sta at hsta;split at hsta
 ·cases hsta
 rename_i ms hms;split at hsta
 ·cases hsta
 rename_i wr mx hwr;obtain ⟨hlk,hsta⟩:=qZ hsta;cases hsta;obtain ⟨M1,_,M3⟩:=gI _ _ _ hms;obtain ⟨_,_,W3,W4⟩:=qEd _ _ _ _ _ _ hwr;have L:=qAi _ _ hlk;obtain ⟨S,k,v,hp,hR,hS0,hSN⟩:=run_of (s:={ms:=ms,wr:=wr,mx:=mx}) rfl hrun;have hfs0:(S 0).fs=[]:=by rw [hS0]
 have hne0:(S 0).ne=0:=by rw [hS0]
 have hget: ∀{i m},ms[i]? =some m->ms.getD i 0=m:=fun h=>by rw [xYQ,h];rfl
 have m1: ∀i o,ops[i]? =some o-> ∀e∈o.after,Region.binds .any e=true->e.on<i/\(ms.getD i 0).testBit e.on=true/\ ∀k,(ms.getD e.on 0).testBit k=true->(ms.getD i 0).testBit k=true:=fun i o ho e hee hb=>by
  obtain ⟨m,g1,g2,_⟩:=M3 i o (by simpa using ho);simp only [xYY,xZP] at g1 g2;obtain ⟨a1,a2,a3⟩:=g2 e hee hb;rw [hget g1];refine ⟨a1,a2,fun k hk=> ?_⟩;cases hme:ms[e.on]? with
  |none=>rw [xYQ,hme] at hk;simp at hk
  |some me=>rw [hget hme] at hk;exact a3 me hme k hk
 have m2: ∀i o,ops[i]? =some o-> ∀k,(ms.getD i 0).testBit k=true-> ∃e∈o.after,Region.binds .any e=true/\(k=e.on\/(ms.getD e.on 0).testBit k=true):=fun i o ho k hk=>by
  obtain ⟨m,g1,_,g3⟩:=M3 i o (by simpa using ho);simp only [xYY,xZP] at g1;rw [hget g1] at hk;obtain ⟨e,a1,a2,a3⟩:=g3 k hk;refine ⟨e,a1,a2,?_⟩;rcases a3 with a3|⟨me,a3,a4⟩
  ·exact .inl a3
  ·exact .inr (by rw [hget a3];exact a4)
 have mlt: ∀i,i<ops.size-> ∀k,(ms.getD i 0).testBit k=true->k<i:=by
  intro i;induction i using Nat.strongRecOn with
  |_ i ih=>
   intro hi k hk;obtain ⟨e,a1,a2,a3⟩:=m2 i _ (xZT hi) k hk;have b:=(m1 i _ (xZT hi) e a1 a2).1;rcases a3 with rfl|a3
   ·exact b
   ·have:=ih e.on b (by omega) k a3;omega
 have w1: ∀i o d,ops[i]? =some o->o.dst=some d->wr.get d=some i/\d<nt:=fun i o d ho hd=>by
  obtain ⟨a1,a2⟩:=W3 i o d (by simpa using ho) hd;exact ⟨by simpa using a1,xZN a2 hmx⟩
 have w3: ∀d k,wr.get d=some k-> ∃o,ops[k]? =some o/\o.dst=some d:=fun d k hk=>by
  rcases W4 d k hk with hh|⟨k',o,rfl,ho,hd⟩
  ·simp at hh
  ·exact ⟨o,by simpa using ho,hd⟩
 have effm: ∀d,d<ops.size->k d= .eff->(S (d+1)).ne=(S d).ne+1/\(S (d+1)).mj=ms.getD d 0/\(S (d+1)).b=(hp d).t/\(S (d+1)).n=(hp d).n:=fun d hd hk=>by
  obtain ⟨_,_,h3⟩:=hR.m (xZT hd);rw [h3,hk];exact ⟨rfl,rfl,rfl,rfl⟩
 let p:=qBi ops {ms:=ms,wr:=wr,mx:=mx} S k v hp
 have hB: ∀{i},i<=ops.size->p.B (S i).ne=(S i).b/\p.md (S i).ne=(S i).mj:=fun hi=>hR.B hi;have hmdd: ∀d,d<p.N->p.k d= .eff->p.md (p.rk d+1)=p.m d:=fun d hd hk=>by
  obtain ⟨e1,e2,_⟩:=effm d hd hk;have:=(hB (i:=d+1) hd).2;rw [e1,e2] at this;exact this
 have hov: ∀i,i<ops.size-> ∀(j N':Nat),N'<=ops.size->i<=N'-> ∀(mj:Nat) (b:T AO),p.OV b (fun f=>(p.m i).testBit f=true/\mj.testBit f=false) (ovl (fun f=>bt (ms.getD i 0) f && !bt mj f) (S N').fs b):=fun i hi j N' hN hiN mj b=>by
  refine hR.ov hs hfs0 hN _ _ b (fun f _=> ?_) (fun f _ hc=> ?_)
  ·rw [yR,yR];show _↔(ms.getD i 0).testBit f=true/\mj.testBit f=false;simp
  ·have:=mlt i hi f hc.1;omega
 have K:p.OK P tb xt call nt ops tm h:=by
  refine {size:=rfl,m1:=m1,m2:=m2,w1:=w1,w2:= ?_,w3:=w3,t1:= ?_,s0:=by show (S 0).n=_;rw [hS0],s1:=fun i hi=>hR.nm hs hi,un:= ?_,new:= ?_,read:= ?_,eff:= ?_,r1:= ?_,r2:= ?_,r4:= ?_,md0:= ?_,b0:= ?_}
  ·intro i o d kk ho hd hk;obtain ⟨m,g1,g2⟩:=L i o (by simpa using ho);simp only [xZP] at g1 g2;have:=g2 d hd;unfold look1 at this;rw [show wr.get d=some kk from hk] at this;simp only [Bool.or_eq_true] at this;show (ms.getD i 0).testBit kk=true\/(ms.getD kk 0).testBit i=true;rcases this with t|t
   ·left;rw [hget g1,<-yR];exact t
   ·right
    split at t
    ·rename_i mk hmk;rw [hget hmk,<-yR];exact t
    ·cases t
  ·intro i hi d;show (S i).tm.get d=match wr.get d with|some k=>if k<i then some (v k) else tm.get d|none=>tm.get d
   induction i with
   |zero=>
    rw [hS0];split
    ·rw [if_neg (by omega)]
    ·rfl
   |succ i ih=>
    have hlt:i<ops.size:=by have:i+1<=ops.size:=hi;omega
    obtain ⟨_,_,h3⟩:=hR.m (xZT hlt);have htm:(S (i+1)).tm=uH (S i).tm ops[i].dst (v i):=by rw [h3];cases k i<;>rfl
    have ih':=ih (xZM hlt);have other:(∀kk,wr.get d=some kk->kk≠i)->(match wr.get d with|some k=>if k<i then some (v k) else tm.get d|none=>tm.get d)=(match wr.get d with|some k=>if k<i+1 then some (v k) else tm.get d|none=>tm.get d):=fun hne=>by
     cases hw:wr.get d with
     |none=>rfl
     |some kk=>
      simp only [];have:=hne kk hw;by_cases hki:kk<i
      ·rw [if_pos hki,if_pos (by omega)]
      ·rw [if_neg hki,if_neg (by omega)]
    rw [htm];unfold uH;cases hds:ops[i].dst with
    |none=>
     simp only [];rw [ih'];refine other fun kk hk hki=> ?_;subst hki;obtain ⟨o',ho',hd'⟩:=w3 d kk hk;rw [xZT hlt] at ho';cases ho';rw [hds] at hd';cases hd'
    |some d0=>
     simp only [];rw [T.get_put];by_cases hd:d=d0
     ·subst hd;rw [if_pos rfl,(w1 i _ d (xZT hlt) hds).1];simp
     ·rw [if_neg hd,ih'];refine other fun kk hk hki=> ?_;subst hki;obtain ⟨o',ho',hd'⟩:=w3 d kk hk;rw [xZT hlt] at ho';cases ho';rw [hds] at hd';cases hd';exact hd rfl
  ·intro i o ho hw;obtain ⟨_,h2,h3⟩:=hR.m ho;have:=qC4 hw h2;injection this with e1 e2
   injection e2 with e2 e3
   refine ⟨e2,?_,e1⟩;show (S (i+1)).n=(S i).n;rw [h3,e1,e3];rfl
  ·intro i o ho hw hk;obtain ⟨_,h2,h3⟩:=hR.m ho;rw [show k i= .new from hk] at h2 h3;have:=qFN hw h2;show jU P tb xt call o (S i).tm {t:= .e,n:=(S i).n}=some (.ok (v i) {t:=(hp i).t,n:=(S (i+1)).n});rw [this,h3];rfl
  ·intro i o ho hw hk;have hi:i<ops.size:=(xYS.1 ho).1;obtain ⟨_,h2,h3⟩:=hR.m ho;rw [show k i= .read from hk] at h2 h3;obtain ⟨hkd,hev⟩:=qD1 hw h2;refine ⟨by show (S (i+1)).n=(S i).n;rw [h3];rfl,fun j hj hal=> ?_⟩;by_cases hji:j=(S i).ne
   ·subst hji;obtain ⟨e1,e2⟩:=hB (i:=i) (xZM hi);refine ⟨ovl (fun f=>bt (ms.getD i 0) f && !bt (S i).mj f) (S i).fs (S i).b,?_,?_⟩
    ·rw [e1,e2];exact hov i hi 0 i (xZM hi) (xZY _) _ _
    ·have:=bF hkd hev;rw [this] at hev;exact hev
   ·
    have hmem:=(hR.logs ops.size (xZY _)).2 i o hi ho hk;rw [hSN] at hmem;have hc:=hchk _ hmem;have entry: ∀e:BE,(e.j=(S i).ne\/bt (ms.getD i 0) e.nx=true\/bt e.mj i=true\/ ∃h'',jU P tb xt call o (S i).tm {t:=ovl (fun f=>bt (ms.getD i 0) f && !bt e.mj f) st.fs e.b,n:=(S i).n}=some (.ok (v i) h''))->e.j=j->e.b=p.B j->e.mj=p.md j->(ms.getD i 0).testBit e.nx=false->
      ∃V,p.OV (p.B j) (fun f=>(p.m i).testBit f=true/\(p.md j).testBit f=false) V/\jU P tb xt call o (p.tm i) {t:=V,n:=p.s i}=some (.ok (p.v i) {t:=V,n:=p.s i}):=fun e hce e1 e2 e3 e4=>by
     rcases hce with hce|hce|hce|⟨h'',hev'⟩
     ·exact absurd (e1.symm.trans hce) hji
     ·rw [yR,e4] at hce;cases hce
     ·rw [yR,e3] at hce;cases j with
      |zero=>
       have:=(hB (i:=0) (xYH _)).2;rw [hne0,hS0] at this;rw [this] at hce;simp at hce
      |succ r=>
       obtain ⟨d,g1,g2,g3⟩:=hR.ranks hne0 ops.size (xZY _) r hj;have g4:=hmdd d g1 g2;have g5:p.rk d=r:=g3;rw [g5] at g4;rw [g4,hal.2 d g1 g2 (by rw [g5])] at hce;cases hce
     ·have hh:=bF hkd hev';rw [hh] at hev';refine ⟨ovl (fun f=>bt (ms.getD i 0) f && !bt e.mj f) st.fs e.b,?_,?_⟩
      ·rw [<-e2,<-e3,<-hSN];exact hov i hi 0 ops.size (xZY _) (xZM hi) _ _
      ·exact hev'
    rcases xYX j (S ops.size).ne with hjl|hjl
    ·obtain ⟨d,g1,g2,g3⟩:=hR.ranks hne0 ops.size (xZY _) j hjl;have hbm:=(hR.logs ops.size (xZY _)).1 d g1 g2;rw [hSN] at hbm;obtain ⟨f1,f2⟩:=hB (i:=d) (xZM g1);rw [g3] at f1 f2;exact entry _ (hc _ (xZZ _ hbm)) g3 f1.symm f2.symm (hal.1 d g1 g2 g3)
    ·have hjM:j=(S ops.size).ne:=Nat.le_antisymm hj hjl;obtain ⟨f1,f2⟩:=hB (i:=ops.size) (xZY _);rw [<-hjM] at f1 f2;refine entry _ (hc _ xZS) (by rw [hjM,hSN]) (by rw [f1,hSN]) (by rw [f2,hSN]) ?_;cases hb:(ms.getD i 0).testBit ops.size with
     |false=>rfl
     |true=>have:=mlt i hi _ hb;omega
  ·intro i o ho hw hk;have hi:i<ops.size:=(xYS.1 ho).1;obtain ⟨_,h2,h3⟩:=hR.m ho;rw [show k i= .eff from hk] at h2;obtain ⟨_,hev⟩:=qAT h2;refine ⟨hmdd i hi hk,ovl (fun f=>bt (ms.getD i 0) f && !bt (S i).mj f) (S i).fs (S i).b,?_,?_⟩
   rotate_left
   ·show jU P tb xt call o (S i).tm {t:=_,n:=(S i).n}=some (.ok (v i) {t:=p.B ((S i).ne+1),n:=(S (i+1)).n});obtain ⟨e1,_,e3,e4⟩:=effm i hi hk;have:=(hB (i:=i+1) hi).1;rw [e1] at this;rw [this,e3,e4];exact hev
   ·obtain ⟨e1,e2⟩:=hB (i:=i) (xZM hi);show p.OV (p.B (S i).ne) (fun f=>(p.m i).testBit f=true/\(p.md (S i).ne).testBit f=false) _;rw [e1,e2];exact hov i hi 0 i (xZM hi) (xZY _) _ _
  ·intro i hi hk;have hi':i<ops.size:=hi;obtain ⟨e1,_⟩:=effm i hi' hk;refine ⟨?_,fun r hr=> ?_⟩
   ·show (S i).ne<(S ops.size).ne;have:=(hR.ne_le ops.size (i+1) hi' (xZY _)).1;omega
   ·obtain ⟨_,h2,_⟩:=hR.m (xZT hi');rw [show k i= .eff from hk] at h2;obtain ⟨hc,_⟩:=qAT h2;have hr':(S i).ne=r+1:=hr;rcases hR.dl hne0 i (xZM hi') with hz|⟨d1,d2,d3⟩
    ·omega
    ·refine ⟨(S i).dl,by show _<ops.size;omega,d2,by show (S (S i).dl).ne=r;omega,?_⟩;rcases hc with hc|hc
     ·omega
     ·rw [yR] at hc;exact hc
  ·intro i i' hi hi' hk hk' hr;have a1:=(effm i hi hk).1;have a2:=(effm i' hi' hk').1;have hr':(S i).ne=(S i').ne:=hr;have b1:i<ops.size:=hi;have b2:i'<ops.size:=hi';rcases Nat.lt_trichotomy i i' with h|h|h
   ·have:=(hR.ne_le i' (i+1) h (xZM b2)).1;omega
   ·exact h
   ·have:=(hR.ne_le i (i'+1) h (xZM b1)).1;omega
  ·intro r hr;exact hR.ranks hne0 ops.size (xZY _) r hr
  ·have:=(hB (i:=0) (xYH _)).2;rw [hne0,hS0] at this;exact this
  ·have:=(hB (i:=0) (xYH _)).1;rw [hne0,hS0] at this;exact this
 have hfin:p.OV (p.B p.M) (fun f=>(p.md p.M).testBit f=false) (ovl (fun f=> !bt st.mj f) st.fs st.b):=by
  obtain ⟨f1,f2⟩:=hB (i:=ops.size) (xZY _);show p.OV (p.B (S ops.size).ne) (fun f=>(p.md (S ops.size).ne).testBit f=false) _;rw [f1,f2,<-hSN];refine hR.ov hs hfs0 (xZY _) _ _ _ (fun f _=> ?_) (fun f hf _=>hf);rw [yR];simp
 have:=Plan.regionL (p:=p) htb hs K hmdd (h':={t:=ovl (fun f=> !bt st.mj f) st.fs st.b,n:=st.n}) hfin (by show st.n=(S ops.size).n;rw [hSN]);rw [show p.tm p.N=st.tm from by show (S ops.size).tm=_;rw [hSN]] at this;exact this
end
end Go.Ev
end
noncomputable section
namespace Go.Ev
def calm:Op->Bool
 | .move _| .assign _| .pick _ _ _| .load _ _| .nilCheck _| .binOp _ _ _ _ _| .unOp _ _ _| .fieldAddr _ _ _| .field _ _ _| .indexAddr _ _ _| .index _ _ _| .build _ _| .extract _ _| .makeFunc _ _ _| .slice _ _ _ _ none=>true
 | .call q=>match q.callee with
  | .builtin .len=>true
  | .builtin .min=>true
  | .builtin .max=>true
  |_=>false
 |_=>false
def jO:Op->Bool
 | .call q=>match q.callee with
  | .value _=>true
  |_=>false
 |_=>false
section
variable {P:Program} {tb:T TE} {xt:Xt} {ev:Operand->AV} {h h':Hp} {v:AV}
theorem kO {x:Option AV} (hx:pr1 h x=some (v,h')):x=some v/\h'=h:=by
 cases x with
 |none=>cases hx
 |some y=>cases hx;exact ⟨rfl,rfl⟩
theorem kN {x:Option AV} (hx:x=some v):pr1 h x=some (v,h):=by rw [hx];rfl
theorem qAZ {op:Op} (hc:calm op=true) (hk:jH op= .new) (ha:aop P tb xt ev op h=some (v,h')):h'=h/\ ∀h2,aop P tb xt ev op h2=some (v,h2):=by
 cases op with
 |move x=>simp only [aop] at ha ⊢;cases ha;exact ⟨rfl,fun _=>rfl⟩
 |assign x=>simp only [aop] at ha ⊢;cases ha;exact ⟨rfl,fun _=>rfl⟩
 |pick q x y=>
  simp only [aop,qEV] at ha ⊢;split at ha
  ·cases ha;exact ⟨rfl,fun _=>rfl⟩
  ·cases ha
 |nilCheck x=>
  simp only [aop] at ha ⊢;obtain ⟨h1,h2⟩:=qZ ha;cases h2;exact ⟨rfl,fun _=>by rw [h1];rfl⟩
 |binOp o t x y u=>simp only [aop] at ha ⊢;obtain ⟨h1,h2⟩:=kO ha;exact ⟨h2,fun _=>kN h1⟩
 |unOp o t x=>simp only [aop] at ha ⊢;obtain ⟨h1,h2⟩:=kO ha;exact ⟨h2,fun _=>kN h1⟩
 |fieldAddr t x f=>simp only [aop] at ha ⊢;obtain ⟨h1,h2⟩:=kO ha;exact ⟨h2,fun _=>kN h1⟩
 |field t x f=>simp only [aop] at ha ⊢;obtain ⟨h1,h2⟩:=kO ha;exact ⟨h2,fun _=>kN h1⟩
 |indexAddr t x i=>simp only [aop] at ha ⊢;obtain ⟨h1,h2⟩:=kO ha;exact ⟨h2,fun _=>kN h1⟩
 |index t x i=>simp only [aop] at ha ⊢;obtain ⟨h1,h2⟩:=kO ha;exact ⟨h2,fun _=>kN h1⟩
 |build t p=>simp only [aop] at ha ⊢;obtain ⟨h1,h2⟩:=kO ha;exact ⟨h2,fun _=>kN h1⟩
 |extract x i=>simp only [aop] at ha ⊢;obtain ⟨h1,h2⟩:=kO ha;exact ⟨h2,fun _=>kN h1⟩
 |makeFunc f a b=>simp only [aop] at ha ⊢;cases ha;exact ⟨rfl,fun _=>rfl⟩
 |load t x=>simp [jH] at hk
 |slice t x l hh m=>simp [jH] at hk
 |call q=>
  simp only [calm] at hc;split at hc
  ·rename_i hq;simp [jH,hq] at hk
  ·rename_i hq;simp only [aop,qBB,hq,qT] at ha ⊢;split at ha
   ·rename_i hm;cases ha;exact ⟨rfl,fun _=>by simp only⟩
   ·cases ha
  ·rename_i hq;simp only [aop,qBB,hq,qT] at ha ⊢;split at ha
   ·rename_i hm;cases ha;exact ⟨rfl,fun _=>by simp only⟩
   ·cases ha
  ·cases hc
 |_=>simp [calm] at hc
theorem calm_read {op:Op} (hc:calm op=true) (hk:jH op= .read) (ha:aop P tb xt ev op h=some (v,h')):h'=h/\ ∀n,aop P tb xt ev op {t:=h.t,n:=n}=some (v,{t:=h.t,n:=n}):=by
 cases op with
 |load t x=>
  simp only [aop] at ha ⊢;obtain ⟨h1,h2⟩:=kO ha;exact ⟨h2,fun _=>kN (by rw [<-h1];rfl)⟩
 |slice t x l hh m=>
  cases m with
  |some _=>simp [calm] at hc
  |none=>
   simp only [aop,qEU] at ha ⊢;obtain ⟨h1,h2⟩:=kO ha;exact ⟨h2,fun _=>kN (by rw [<-h1];rfl)⟩
 |call q=>
  simp only [calm] at hc;split at hc
  ·rename_i hq;simp only [aop,qBB,hq,qT] at ha ⊢;split at ha
   ·rename_i t a ht hm;split at ha
    ·rename_i n hn;cases ha;refine ⟨rfl,fun m=> ?_⟩;have:zI tb {t:=h.t,n:=m} t a=zI tb h t a:=rfl;simp only [this,hn]
    ·cases ha
   ·cases ha
  ·rename_i hq;simp [jH,hq] at hk
  ·rename_i hq;simp [jH,hq] at hk
  ·cases hc
 |_=>first|simp [calm] at hc;done|simp [jH] at hk
theorem bN {op:Op} (hc:calm op=true):jH op= .new\/jH op= .read:=by
 cases op with
 |call q=>
  simp only [calm] at hc;split at hc
  ·rename_i hq;simp [jH,hq]
  ·rename_i hq;simp [jH,hq]
  ·rename_i hq;simp [jH,hq]
  ·cases hc
 |slice t x l hh m=>exact .inr rfl
 |_=>first|simp [calm] at hc;done|simp [jH]
theorem zE {op:Op} {o:Oper} (ho:o.op=op) (hc:calm op=true) (call:jK) (tm:T AV):jU P tb xt call o tm h=gG (aop P tb xt (qH tm) op h):=by
 subst ho;unfold jU;split
 ·rename_i q hq;rw [hq] at hc;simp only [calm] at hc;unfold vI;split at hc
  ·rename_i hb;simp only [hb,hq]
  ·rename_i hb;simp only [hb,hq]
  ·rename_i hb;simp only [hb,hq]
  ·cases hc
 ·rename_i x hx;rw [hx] at hc;simp [calm] at hc
 ·rename_i x hx;rw [hx] at hc;simp [calm] at hc
 ·rfl
end
section
variable {E:Env} {nt:Nat} {ops:Array Oper}
def WOCk (ic:Bool) (nt:Nat) (tm:T AV) (h:Hp) (dst:Option Tmp) (N:T AV->Hp->Prop) (r:OR):Prop:=
 match r with
 | .pan _ _=>False
 | .ok v h'=>(∃n,(ic=true->h.n<n)/\h.n<=n/\h'=h.up n)/\putK nt tm dst v (fun tm'=>N tm' h')
def WOC (E:Env) (nt:Nat) (ops:Array Oper):List Oper->T AV->Hp->(T AV->Hp->Prop)->Prop
 |[],tm,h,Q=>Q tm h
 |o::ol,tm,h,Q=>jV nt ops o=true/\bif qP ops o tm then WOp E o tm h (WOCk (jO o.op) nt tm h o.dst (fun tm' h'=>WOC E nt ops ol tm' h' Q)) else putK nt tm o.dst default (fun tm'=>WOC E nt ops ol tm' h Q)
def kS:List Oper->List Nat->Nat->List Nat->Bool
 |[],_,_,_=>true
 |o::ol,m::ms,i,cs=>bif calm o.op then kS ol ms (i+1) cs else jO o.op && (cs.all (bt m) && kS ol ms (i+1) (i::cs))
 |_::_,[],_,_=>false
def SInv (P:Program) (tb:T TE) (xt:Xt) (t0:T AO) (MS:List Nat) (PR PC:Nat->Prop) (cs:List Nat) (st:DS):Prop:=
 ((st.mj=0\/st.mj∈MS)/\ ∀r∈st.rs,r.m∈MS/\PR r.i)/\st.fs=[]/\st.b=t0/\(∀e∈st.bs,e.b=t0)/\(∀r∈st.rs,∀call,jU P tb xt call r.o r.tm {t:=t0,n:=r.n}=some (.ok r.v {t:=t0,n:=r.n}))/\(st.ne=0\/(st.dl∈cs/\PC st.dl))
theorem qGE {P:Program} {tb:T TE} {xt:Xt} {call call':jK} {o:Oper} {tm:T AV} {h:Hp} {r:OR} (hcc: ∀fv args r,call fv args h=some r->call' fv args h=some r) (he:jU P tb xt call o tm h=some r):jU P tb xt call' o tm h=some r:=by
 cases hop:o.op with
 |call q=>
  simp only [jU,hop,vI] at he ⊢;cases hf:q.callee with
  |value f=>
   simp only [hf] at he ⊢;cases hc:call (qH tm f) (q.args.toList.map (qH tm)) h with
   |none=>rw [hc] at he;cases he
   |some p=>rw [hc] at he;rw [hcc _ _ _ hc];exact he
  |invoke f nm=>
   simp only [hf] at he ⊢;cases hc:call (.val (.func (.method nm) #[] #[])) (qH tm f::q.args.toList.map (qH tm)) h with
   |none=>rw [hc] at he;cases he
   |some p=>rw [hc] at he;rw [hcc _ _ _ hc];exact he
  |builtin b=>simp only [hf] at he ⊢;exact he
 |_=>simp only [jU,hop] at he ⊢ <;>exact he
theorem vL {P:Program} {tb:T TE} {xt:Xt} {call call':jK} (hs:jY P xt call): ∀(ol:List Oper) (ms:List Nat) (st st':DS),(∀fv args k r,st.n<=k.n->call fv args k=some r->call' fv args k=some r)->yN P tb xt call ops ol ms st=some st'->yN P tb xt call' ops ol ms st=some st'
 |[],ms,st,st',_,h=>h
 |o::ol,[],st,st',_,h=>by rw [pH] at h;cases h
 |o::ol,m::ms,st,st',hcc,h=>by
  rw [jF] at h ⊢;have key: ∀r,zU P tb xt call ops o m st=some r->zU P tb xt call' ops o m st=some r:=by
   intro r hr;unfold zU at hr ⊢;cases hw:qP ops o st.tm with
   |false=>rw [hw] at hr;exact hr
   |true=>
    rw [hw] at hr;simp only [cond_true] at hr ⊢;have e1: ∀(t:T AO) x,jU P tb xt call o st.tm {t:=t,n:=st.n}=some x->jU P tb xt call' o st.tm {t:=t,n:=st.n}=some x:=fun t x hx=>qGE (fun fv args r hr=>hcc fv args _ r (xZY _) hr) hx;split at hr
    ·split at hr
     ·rename_i v h' he;rw [e1 _ _ he];exact hr
     ·cases hr
    ·split at hr
     ·rename_i v h' he;rw [e1 _ _ he];exact hr
     ·cases hr
    ·obtain ⟨hb,hr⟩:=qZ hr;rw [hb];simp only [cond_true];split at hr
     ·rename_i v h' he;rw [e1 _ _ he];exact hr
     ·cases hr
  unfold jN at h ⊢;cases hd:zU P tb xt call ops o m st with
  |none=>rw [hd] at h;cases h
  |some r=>
   rw [hd] at h;rw [key r hd];obtain ⟨k,v,h'⟩:=r;simp only at h ⊢;have hn:st.n<=(upd o m st v h' k).n:=by
    have:=dres_n hs hd;cases k with
    |new=>exact this
    |read=>exact xZY _
    |eff=>exact this
   exact vL hs ol ms _ st' (fun fv args kk r hk hr=>hcc fv args kk r (xZW hn hk) hr) h
open Classical in
def j9 (fv:AV) (args:List AV) (h:Hp) (res:CR) (h':Hp) (call:jK):jK:=fun f a k=>if f=fv/\a=args/\k=h then some (res,h') else call f a k
theorem uF {t0:T AO} {MS:List Nat} {PR PC:Nat->Prop}: ∀(ol:List Oper) (ms:List Nat) (i:Nat) (cs:List Nat) (tm:T AV) (h:Hp) (Q:T AV->Hp->Prop) (st:DS),WOC E nt ops ol tm h Q->kS ol ms i cs=true->(∀m∈ms,m∈MS)->(∀(k:Nat) (o:Oper),ol[k]? =some o->(jH o.op= .read->PR (i+k))/\(calm o.op=false->PC (i+k)))->st.i=i->st.tm=tm->st.n=h.n->h.t=t0->SInv E.P E.tb E.xt t0 MS PR PC cs st->
  ∃call st' h' cs',jY E.P E.xt call/\((∀fv args k r,call fv args k=some r->h.n<=k.n/\k.n<h'.n)/\h.n<=h'.n)/\yN E.P E.tb E.xt call ops ol ms st=some st'/\SInv E.P E.tb E.xt t0 MS PR PC cs' st'/\st'.n=h'.n/\h'.t=t0/\Q st'.tm h'
 |[],ms,i,cs,tm,h,Q,st,hw,hc,hms,hpr,hi,htm,hn,ht,hI=>⟨qAE,st,h,cs,xC _ _,⟨(fun _ _ _ _ hx=>by cases hx),xZY _⟩,rfl,hI,hn,ht,by rw [htm];exact hw⟩
 |o::ol,[],i,cs,tm,h,Q,st,hw,hc,hms,hpr,hi,htm,hn,ht,hI=>by simp [kS] at hc
 |o::ol,m::ms,i,cs,tm,h,Q,st,hw,hc,hms,hpr,hi,htm,hn,ht,hI=>by
  simp only [WOC] at hw;obtain ⟨_,hw⟩:=hw;obtain ⟨I0,I1,I2,I3,I4,I5⟩:=hI;have hms': ∀x∈ms,x∈MS:=fun x hx=>hms x (xZZ _ hx);have hmm:m∈MS:=hms m xZS;have hpr': ∀(k:Nat) (o:Oper),ol[k]? =some o->(jH o.op= .read->PR (i+1+k))/\(calm o.op=false->PC (i+1+k)):=fun k o' ho=>by have:=hpr (k+1) o' (by simpa using ho);rwa [show i+(k+1)=i+1+k by omega] at this
  have hput: ∀{v:AV} {N:T AV->Prop},putK nt tm o.dst v N->N (uH tm o.dst v):=fun {v N} hp=>by
   unfold putK at hp;unfold uH;split at hp
   ·rename_i hd;rw [hd];exact hp
   ·rename_i d hd;rw [hd];exact hp.2
  have heta:({t:=t0,n:=h.n}:Hp)=h:=by rw [<-ht]
  simp only [kS] at hc;cases haw:qP ops o tm with
  |false=>
   rw [haw] at hw;simp only [cond_false] at hw;have hw:=hput hw;have hd: ∀call,jN E.P E.tb E.xt call ops o m st=some (upd o m st default {t:= .e,n:=st.n} .new):=fun call=>by
    unfold jN zU;rw [htm,haw];rfl
   have hnext: ∃cs2,kS ol ms (i+1) cs2=true/\ ∀x∈cs,x∈cs2:=by
    cases hcal:calm o.op with
    |true=>rw [hcal] at hc;exact ⟨cs,hc,fun _ h=>h⟩
    |false=>
     rw [hcal] at hc;simp only [cond_false,xZX] at hc;exact ⟨i::cs,hc.2.2,fun _ h=>xZZ _ h⟩
   obtain ⟨cs2,hc2,hsub⟩:=hnext;obtain ⟨call,st',h',cs',r1,r2,r3,r4,r5,r6,r7⟩:=uF (t0:=t0) ol ms (i+1) cs2 _ h Q (upd o m st default {t:= .e,n:=st.n} .new) hw hc2 hms' hpr' (by simp [upd,hi]) (by simp [upd,htm]) (by simp [upd,hn]) ht
    ⟨by simpa [upd] using I0,by simp [upd,I1],by simp [upd,I2],by simpa [upd] using I3,by simpa [upd] using I4,by rcases I5 with h1|h1;exact .inl (by simp [upd,h1]);exact .inr ⟨by simpa [upd] using hsub _ h1.1,by simpa [upd] using h1.2⟩⟩
   exact ⟨call,st',h',cs',r1,r2,by rw [jF,hd];exact r3,r4,r5,r6,r7⟩
  |true=>
   rw [haw] at hw;simp only [cond_true] at hw;cases hcal:calm o.op with
   |true=>
    rw [hcal] at hc;simp only [cond_true] at hc;obtain ⟨call0,res,_,hop,hk⟩:=hw.ev;rw [zE rfl hcal] at hop;cases ha:aop E.P E.tb E.xt (qH tm) o.op h with
    |none=>rw [ha] at hop;cases hop
    |some p=>
     obtain ⟨v,h1⟩:=p;rw [ha] at hop;simp only [gG,Option.some.injEq] at hop;subst hop;obtain ⟨_,hk⟩:=hk;have hk:=hput hk;rcases bN hcal with hkd|hkd
     ·obtain ⟨e1,e2⟩:=qAZ hcal hkd ha;subst e1;have hd: ∀call,jN E.P E.tb E.xt call ops o m st=some (upd o m st v {t:= .e,n:=st.n} .new):=fun call=>by
       unfold jN zU;rw [htm,haw,hkd];simp only [cond_true];rw [zE rfl hcal,e2];rfl
      obtain ⟨call,st',h',cs',r1,r2,r3,r4,r5,r6,r7⟩:=uF (t0:=t0) ol ms (i+1) cs _ h1 Q (upd o m st v {t:= .e,n:=st.n} .new) hk hc hms' hpr' (by simp [upd,hi]) (by simp [upd,htm]) (by simp [upd,hn]) ht
       ⟨by simpa [upd] using I0,by simp [upd,I1],by simp [upd,I2],by simpa [upd] using I3,by simpa [upd] using I4,by simpa [upd] using I5⟩
      exact ⟨call,st',h',cs',r1,r2,by rw [jF,hd];exact r3,r4,r5,r6,r7⟩
     ·obtain ⟨e1,e2⟩:=calm_read hcal hkd ha;subst e1;have hov: ∀q,({t:=ovl q st.fs st.b,n:=st.n}:Hp)=h1:=fun q=>by rw [I1,I2,hn];exact heta
      have hd: ∀call,jN E.P E.tb E.xt call ops o m st=some (upd o m st v h1 .read):=fun call=>by
       unfold jN zU;rw [htm,haw,hkd];simp only [cond_true];rw [hov,zE rfl hcal,ha];rfl
      obtain ⟨call,st',h',cs',r1,r2,r3,r4,r5,r6,r7⟩:=uF (t0:=t0) ol ms (i+1) cs _ h1 Q (upd o m st v h1 .read) hk hc hms' hpr' (by simp [upd,hi]) (by simp [upd,htm]) (by simp [upd,hn]) ht
       ⟨⟨by simpa [upd] using I0.1,fun r hr=>by
        simp only [upd,xZQ] at hr;rcases hr with rfl|hr
        ·exact ⟨hmm,by have:=(hpr 0 o rfl).1 hkd;simpa [hi] using this⟩
        ·exact I0.2 r hr⟩,by simp [upd,I1],by simp [upd,I2],by simpa [upd] using I3,fun r hr call=>by
        simp only [upd,xZQ] at hr;rcases hr with rfl|hr
        ·simp only;rw [zE rfl hcal,htm,hn,<-ht,e2];rfl
        ·exact I4 r hr call,by simpa [upd] using I5⟩
      exact ⟨call,st',h',cs',r1,r2,by rw [jF,hd];exact r3,r4,r5,r6,r7⟩
   |false=>
    rw [hcal] at hc;simp only [cond_false,xZX] at hc;obtain ⟨hc1,hc2,hc3⟩:=hc;unfold jO at hc1;split at hc1
    ·rename_i q hq;split at hc1
     ·rename_i f hf;unfold WOp at hw;simp only [hq,calK,hf] at hw;obtain ⟨res,h1,hcs,hk⟩:=hw;cases res with
      |pan v=>exact hk.elim
      |ret v=>
       obtain ⟨⟨n,hlt,hnn,rfl⟩,hk⟩:=hk;have hlt:h.n<n:=hlt (by simp [jO,hf]);have hk:=hput hk;have hkd:jH o.op= .eff:=by simp [hq,jH,hf]
       obtain ⟨call,st',h',cs',r1,r2,r3,r4,r5,r6,r7⟩:=uF (t0:=t0) ol ms (i+1) (i::cs) _ (h.up n) Q (upd o m st v (h.up n) .eff) hk hc3 hms' hpr' (by simp [upd,hi]) (by simp [upd,htm]) (by simp [upd]) ht
        ⟨⟨.inr (by simpa [upd] using hmm),by simpa [upd] using I0.2⟩,by simp [upd,I1],by simp [upd,ht],fun e he=>by
         simp only [upd,xZQ] at he;rcases he with rfl|he
         ·exact I2
         ·exact I3 e he,by simpa [upd] using I4,.inr ⟨by simp [upd,hi],by have:=(hpr 0 o rfl).2 hcal;simpa [upd,hi] using this⟩⟩
       have hsd:jY E.P E.xt (j9 (qH tm f) (q.args.toList.map (qH tm)) h (.ret v) (h.up n) call):=by
        intro fv a k r k' he;unfold j9 at he;split at he
        ·rename_i hq;obtain ⟨rfl,rfl,rfl⟩:=hq;cases he;exact hcs
        ·exact r1 _ _ _ _ _ he
       refine ⟨j9 (qH tm f) (q.args.toList.map (qH tm)) h (.ret v) (h.up n) call,st',h',cs',hsd,⟨fun fv a k r he=> ?_,xZW hnn r2.2⟩,?_,r4,r5,r6,r7⟩
       ·unfold j9 at he;split at he
        ·rename_i hq;rw [hq.2.2];have:=r2.2;simp only [Hp.up_n] at this;exact ⟨xZY _,by omega⟩
        ·have:=r2.1 _ _ _ _ he;simp only [Hp.up_n] at this;omega
       ·have hov: ∀q,({t:=ovl q st.fs st.b,n:=st.n}:Hp)=h:=fun q=>by rw [I1,I2,hn];exact heta
        have hch:(Nat.beq st.ne 0 || bt m st.dl)=true:=by
         rcases I5 with h1|h1
         ·rw [h1];rfl
         ·rw [xZV.1 hc2 _ h1.1];simp
        have hev:jU E.P E.tb E.xt (j9 (qH tm f) (q.args.toList.map (qH tm)) h (.ret v) (h.up n) call) o tm h=some (.ok v (h.up n)):=by
         simp [jU,hq,vI,hf,j9,u9]
        rw [jF];have hd:jN E.P E.tb E.xt (j9 (qH tm f) (q.args.toList.map (qH tm)) h (.ret v) (h.up n) call) ops o m st=some (upd o m st v (h.up n) .eff):=by
         unfold jN zU;rw [htm,haw,hkd];simp only [cond_true];rw [hch];simp only [cond_true];rw [hov,hev]
        rw [hd];simp only;refine vL r1 ol ms _ _ (fun fv a k r hk hr=> ?_) r3;unfold j9;rw [if_neg (fun hq=> ?_)]
        ·exact hr
        ·simp only [upd,Hp.up_n] at hk;rw [hq.2.2] at hk;omega
     ·cases hc1
    ·cases hc1
end
def lastF (m:List Oper) (z:Oper):Bool:=
 match qBO (m++[z]) [] with
 |none=>false
 |some ms=>match kY ms with
  |none=>false
  |some (_,mz)=>Nat.beq mz (2 ^ m.length - 1) && (m.all (vV m.length) && vV m.length z)
theorem wI {m:List Oper} {oz:Oper} (h:lastF m oz=true):LastOf ⟨m++[oz]⟩ ⟨m⟩ oz:=by
 unfold lastF at h;split at h
 ·cases h
 rename_i ms hms;split at h
 ·cases h
 rename_i ms' mz hmz;simp only [xZX] at h;have hc:=h;obtain ⟨ops,hops⟩: ∃ops:Array Oper,ops=⟨m++[oz]⟩:=⟨_,rfl⟩;rw [<-hops];have hms:qBO ops.toList []=some ms:=by rw [hops];exact hms
 have hl:ops.toList=m++[oz]:=by rw [hops]
 have hml:=xS _ _ _ hmz;obtain ⟨M1,_,M3⟩:=gI _ _ _ hms;have hsz:ops.size=m.length+1:=by rw [<-Array.length_toList,hl];simp
 have hat: ∀i,i<m.length->ops[i]? =m[i]? :=fun i hi=>by rw [<-xZR,hl,xZJ hi]
 have hlast:ops[m.length]? =some oz:=by rw [<-xZR,hl];simp
 have hmzl:ms[m.length]? =some mz:=by
  have:ms'.length=m.length:=by
   rw [hml,hl] at M1;simp at M1;omega
  rw [hml,<-this];simp
 have hmzv:mz=2 ^ m.length - 1:=xZU hc.1;refine {size:=by simpa using hsz,at_:=fun i hi=>by simpa using hat i hi,last:=by simpa using hlast,lt:=fun i o ho e he hb=> ?_,all:=fun D hD hz k hk=> ?_,gd:=fun i o j b ho hg=> ?_}
 ·obtain ⟨mi,g1,g2,_⟩:=M3 i o (by simpa using ho);simpa using (g2 e he hb).1
 ·have hk':k<m.length:=by simpa using hk
  have step: ∀i,i<m.length->D i-> ∀mi,ms[i]? =some mi-> ∀k,mi.testBit k=true->D k:=by
   intro i;induction i using Nat.strongRecOn with
   |_ i ih=>
    intro hi hDi mi hmi k hk;have ho:ops[i]? =some ops[i]:=xZT (by omega);obtain ⟨mi',g1,g2,g3⟩:=M3 i _ (by rw [xZR];exact ho);simp only [xYY,xZP] at g1 g2;rw [hmi] at g1;cases g1;obtain ⟨e,he,hb,hk⟩:=g3 k hk;have hDe:D e.on:=hD i _ (by have:=hat i hi;rw [ho] at this;simpa using this.symm) hDi e he hb;rcases hk with rfl|⟨me,hme,hk⟩
    ·exact hDe
    ·have hlt:=(g2 e he hb).1;exact ih e.on hlt (by omega) hDe me hme k hk
  obtain ⟨mz',g1,g2,g3⟩:=M3 m.length oz (by simpa using hlast);simp only [xYY,xZP] at g1 g2;rw [hmzl] at g1;cases g1;obtain ⟨e,he,hb,hk⟩:=g3 k (by rw [hmzv,Nat.testBit_two_pow_sub_one];simpa using hk');rcases hk with rfl|⟨me,hme,hk⟩
  ·exact hz e he hb
  ·exact step e.on (g2 e he hb).1 (hz e he hb) me hme k hk
 ·have:=xZV.1 hc.2.1 o (xYJ (i:=i) (by simpa using ho));unfold vV at this;rw [hg] at this;simpa [xZI] using this
section
variable {E:Env} {nt:Nat}
def DrX (E:Env) (nt:Nat) (ops:Array Oper) (tm:T AV) (h:Hp) (x:Ex) (tm':T AV) (h':Hp):Prop:=h.n<=h'.n/\ ∀lim,h'.n<=lim-> ∀c a w r t,Good lim c h w->(∀b v,E.xt b=some v->c.ext b=some v)->TR c nt tm a.tmps->
   ∀Q:Exit->Act->World->Prop,(∀e a' w',Post lim c h w nt a.defers x tm' h' e a' w'->Q e a' w')->wpOpsIn (Wd r) 0 E.P ops Q (Region.linearise .any ops t) a {w with drawn:=w.drawn+1}
theorem DrX.last {ops ops':Array Oper} {oz:Oper} (L:LastOf ops ops' oz) {tm tm1 tm2:T AV} {h h1 h2:Hp} {x:Ex} (hd:DrX E nt ops' tm h .normal tm1 h1) (ho:OpsS E nt ops [oz] tm1 h1 x tm2 h2):DrX E nt ops tm h x tm2 h2:=by
 refine ⟨xZW hd.1 ho.1,fun lim hl c a w r t g hxt ht Q hQ=> ?_⟩;refine qEs L (hd.2 lim (xZW ho.1 hl) c a w r t g hxt ht _ ?_);rintro e a' w' ⟨c',t1,t2,t3,t4⟩;cases t2;show wpOpsIn (Wd r) 0 E.P ops Q [ops'.size] a' w';refine ho.2 lim hl [ops'.size] r (by simp [L.last]) c' a' w' t1.good (fun b v hb=>t1.e.ext _ _ (hxt b v hb)) t3 Q ?_;rintro e2 a2 w2 ⟨c2,u1,u2,u3,u4⟩;exact hQ _ _ _ ⟨c2,t1.trans u1,u2,u3,u4.trans t4⟩
theorem DrX.out {ops ops':Array Oper} {oz:Oper} (L:LastOf ops ops' oz) {tm tm1:T AV} {h h1:Hp} {x:Ex} (hd:DrX E nt ops' tm h x tm1 h1) (hx:x≠ .normal):DrX E nt ops tm h x tm1 h1:=by
 refine ⟨hd.1,fun lim hl c a w r t g hxt ht Q hQ=> ?_⟩;refine qEs L (hd.2 lim hl c a w r t g hxt ht _ ?_);rintro e a' w' ⟨c',t1,t2,t3,t4⟩;have hq:=hQ e a' w' ⟨c',t1,t2,t3,t4⟩;cases x with
 |normal=>exact absurd rfl hx
 |exit id=>cases t2;exact hq
 |goto id=>cases t2;exact hq
 |ret=>cases t2;exact hq
 |panic v=>obtain ⟨y,rfl,_⟩:=t2;exact hq
theorem WOp.mono {o:Oper} {tm:T AV} {h:Hp} {K K':OR->Prop} (hw:WOp E o tm h K) (hk: ∀r,K r->K' r):WOp E o tm h K':=by
 have ha:aopK E o tm h K->aopK E o tm h K':=fun ⟨p,h1,h2⟩=>⟨p,h1,hk _ h2⟩;unfold WOp at hw ⊢;split at hw
 ·unfold calK at hw ⊢;split at hw
  ·refine hw.mono fun r h' hr=> ?_;cases r<;>exact hk _ hr
  ·exact hw.elim
  ·exact ha hw
 ·obtain ⟨p,h1,h2⟩:=hw;exact ⟨p,h1,hk _ h2⟩
 ·exact hw.elim
 ·exact ha hw
def seqX (N:T AV->Hp->Prop) (Q:Ex->T AV->Hp->Prop):Ex->T AV->Hp->Prop
 | .normal,tm,h=>N tm h
 |x,tm,h=>Q x tm h
theorem WO_split {ops ops':Array Oper} {o:Oper} {ol:List Oper} {tm:T AV} {h:Hp} {Q:Ex->T AV->Hp->Prop} (hg: ∀j w,o.guard=some (j,w)->ops'[j]? =ops[j]?) (hw:WO E nt ops (o::ol) tm h Q):WO E nt ops' [o] tm h (seqX (fun tm h=>WO E nt ops ol tm h Q) Q):=by
 simp only [WO] at hw ⊢;have e1:jV nt ops' o=jV nt ops o:=by
  unfold jV;split
  ·rfl
  ·rename_i j w hgg;rw [hg j w hgg]
 have e2:qP ops' o tm=qP ops o tm:=by
  unfold qP;split
  ·rfl
  ·rename_i j w hgg;rw [hg j w hgg]
 rw [e1,e2];refine ⟨hw.1,?_⟩;have hw:=hw.2;cases haw:qP ops o tm with
 |false=>rw [haw] at hw;exact hw
 |true=>
  rw [haw] at hw;refine WOp.mono hw fun r hr=> ?_;cases r with
  |pan v h'=>exact hr
  |ok v h'=>exact hr
def xT:List Oper->List Oper->Bool
 |_,[]=>true
 |m,z::zs=>lastF m z && xT (m++[z]) zs
theorem lastF_gd {m:List Oper} {z:Oper} (h:lastF m z=true) {j:Nat} {w:Bool} (hg:z.guard=some (j,w)):j<m.length:=by
 unfold lastF at h;split at h
 ·cases h
 split at h
 ·cases h
 simp only [xZX] at h;have:=h.2.2;unfold vV at this;rw [hg] at this;simpa [xZI] using this
theorem DrX.outs {tm tm1:T AV} {h h1:Hp} {x:Ex} (hx:x≠ .normal): ∀(zs m:List Oper),xT m zs=true->DrX E nt ⟨m⟩ tm h x tm1 h1->DrX E nt ⟨m++zs⟩ tm h x tm1 h1
 |[],m,_,hd=>by simpa using hd
 |z::zs,m,hl,hd=>by
  simp only [xT,xZX] at hl;have:=DrX.outs hx zs (m++[z]) hl.2 (DrX.out (wI hl.1) hd hx);simpa using this
theorem DrX.lasts (htb:Tb E.P E.tb) {ops:Array Oper} {tm:T AV} {h:Hp} {Q:Ex->T AV->Hp->Prop}: ∀(zs m:List Oper) (tm1:T AV) (h1:Hp),xT m zs=true->(∀j,j<m.length+zs.length->ops[j]? =(m++zs)[j]?)->DrX E nt ⟨m⟩ tm h .normal tm1 h1->WO E nt ops zs tm1 h1 Q-> ∃x tm' h',DrX E nt ⟨m++zs⟩ tm h x tm' h'/\Q x tm' h'
 |[],m,tm1,h1,_,_,hd,hw=>⟨_,_,_,by simpa using hd,hw⟩
 |z::zs,m,tm1,h1,hl,hat,hd,hw=>by
  simp only [xT,xZX] at hl;have hw1:=WO_split (ops':=⟨m++[z]⟩) (fun j w hg=>by
   have hj:=lastF_gd hl.1 hg;rw [hat j (by simp;omega)];simp [xZJ hj]) hw
  obtain ⟨x,tm2,h2,ho,hq⟩:=WO.ok htb _ _ _ _ hw1;cases x with
  |normal=>
   have:=DrX.lasts htb zs (m++[z]) tm2 h2 hl.2 (fun j hj=>by rw [hat j (by simp at hj ⊢;omega)];simp) (DrX.last (wI hl.1) hd ho) hq;simpa using this
  |exit id=>exact ⟨_,_,_,by simpa using DrX.outs (by simp) zs (m++[z]) hl.2 (DrX.last (wI hl.1) hd ho),hq⟩
  |goto id=>exact ⟨_,_,_,by simpa using DrX.outs (by simp) zs (m++[z]) hl.2 (DrX.last (wI hl.1) hd ho),hq⟩
  |ret=>exact ⟨_,_,_,by simpa using DrX.outs (by simp) zs (m++[z]) hl.2 (DrX.last (wI hl.1) hd ho),hq⟩
  |panic v=>exact ⟨_,_,_,by simpa using DrX.outs (by simp) zs (m++[z]) hl.2 (DrX.last (wI hl.1) hd ho),hq⟩
def calmOk (nt:Nat) (ops:Array Oper):Bool:=
 match sta ops with
 |none=>false
 |some s=>Nat.ble s.mx nt && kS ops.toList s.ms 0 []
theorem WOC.ok (htb:Tb E.P E.tb) {ops:Array Oper} (hst:calmOk nt ops=true) {tm:T AV} {h:Hp} {Q:T AV->Hp->Prop} (hw:WOC E nt ops ops.toList tm h Q): ∃tm' h',DrX E nt ops tm h .normal tm' h'/\Q tm' h':=by
 unfold calmOk at hst;split at hst
 ·cases hst
 rename_i s hs;simp only [xZX] at hst;obtain ⟨call,st,h',cs,r1,_,r3,⟨_,I1,I2,I3,I4,_⟩,r5,r6,r7⟩:=uF (t0:=h.t) (MS:=s.ms) ops.toList s.ms 0 [] tm h Q {i:=0,tm:=tm,n:=h.n,b:=h.t,mj:=0,dl:=0,ne:=0,fs:=[],bs:=[],rs:=[]} hw hst.2 (fun _ h=>h) (PR:=fun _=>True) (PC:=fun _=>True) (fun _ _ _=>⟨fun _=>trivial,fun _=>trivial⟩) rfl rfl rfl rfl ⟨⟨.inl rfl,by simp⟩,rfl,rfl,by simp,by simp,.inl rfl⟩;have hchk:DChk E.P E.tb E.xt call st ops.size:=by
  intro r hr e he;refine .inr (.inr (.inr ⟨{t:=h.t,n:=r.n},?_⟩));have hb:e.b=h.t:=by
   rcases xZQ.1 he with rfl|he
   ·exact I2
   ·exact I3 e he
  rw [I1];show jU E.P E.tb E.xt call r.o r.tm {t:=e.b,n:=r.n}=_;rw [hb];exact I4 r hr call
 obtain ⟨n1,s1⟩:=wQ htb r1 hs (xZL hst.1) r3 hchk;have e1:({t:=ovl (fun f=> !bt st.mj f) st.fs st.b,n:=st.n}:Hp)=h':=by
  rw [I1,I2,r5];show ({t:=h.t,n:=h'.n}:Hp)=h';rw [<-r6]
 rw [e1] at s1;rw [r5] at n1 s1;exact ⟨st.tm,h',⟨n1,s1⟩,r7⟩
def qEL (nt:Nat) (ops:Array Oper) (k:Nat):Bool:=calmOk nt ⟨ops.toList.take k⟩ && (xT (ops.toList.take k) (ops.toList.drop k) && (ops.toList.take k).all (vV k))
theorem pR {ops ops':Array Oper}: ∀(ol:List Oper) (tm:T AV) (h:Hp) (Q:T AV->Hp->Prop),(∀o∈ol,∀j w,o.guard=some (j,w)->ops'[j]? =ops[j]?)->WOC E nt ops ol tm h Q->WOC E nt ops' ol tm h Q
 |[],tm,h,Q,_,hw=>hw
 |o::ol,tm,h,Q,hg,hw=>by
  simp only [WOC] at hw ⊢;have hgo:=hg o xZS;have e1:jV nt ops' o=jV nt ops o:=by
   unfold jV;split
   ·rfl
   ·rename_i j w hgg;rw [hgo j w hgg]
  have e2:qP ops' o tm=qP ops o tm:=by
   unfold qP;split
   ·rfl
   ·rename_i j w hgg;rw [hgo j w hgg]
  rw [e1,e2];refine ⟨hw.1,?_⟩;have hw:=hw.2;have hput: ∀{v:AV} {N N':T AV->Prop},putK nt tm o.dst v N->(∀t,N t->N' t)->putK nt tm o.dst v N':=fun {v N N'} hp hn=>by
   unfold putK at hp ⊢;split at hp
   ·exact hn _ hp
   ·exact ⟨hp.1,hn _ hp.2⟩
  cases haw:qP ops o tm with
  |false=>
   rw [haw] at hw;simp only [cond_false] at hw ⊢;exact hput hw fun t ht=>pR ol t h Q (fun o' ho'=>hg o' (xZZ _ ho')) ht
  |true=>
   rw [haw] at hw;refine WOp.mono hw fun r hr=> ?_;cases r with
   |pan v h'=>exact hr
   |ok v h'=>exact ⟨hr.1,hput hr.2 fun t ht=>pR ol t h' Q (fun o' ho'=>hg o' (xZZ _ ho')) ht⟩
theorem qDk {ops:Array Oper} {Q Q':T AV->Hp->Prop}: ∀(ol:List Oper) (tm:T AV) (h:Hp),WOC E nt ops ol tm h Q->(∀tm h,Q tm h->Q' tm h)->WOC E nt ops ol tm h Q'
 |[],tm,h,hw,hq=>hq _ _ hw
 |o::ol,tm,h,hw,hq=>by
  simp only [WOC] at hw ⊢;refine ⟨hw.1,?_⟩;have hw:=hw.2;have hput: ∀{v:AV} {N N':T AV->Prop},putK nt tm o.dst v N->(∀t,N t->N' t)->putK nt tm o.dst v N':=fun {v N N'} hp hn=>by
   unfold putK at hp ⊢;split at hp
   ·exact hn _ hp
   ·exact ⟨hp.1,hn _ hp.2⟩
  cases haw:qP ops o tm with
  |false=>
   rw [haw] at hw;simp only [cond_false] at hw ⊢;exact hput hw fun t ht=>qDk ol t h ht hq
  |true=>
   rw [haw] at hw;refine WOp.mono hw fun r hr=> ?_;cases r with
   |pan v h'=>exact hr
   |ok v h'=>exact ⟨hr.1,hput hr.2 fun t ht=>qDk ol t h' ht hq⟩
theorem SemC.drawn (htb:Tb E.P E.tb) (hm:E.P.follows .mixedOrders=true) {r:Option Nat} {id:Nat} {ops:Array Oper} (k:Nat) (hst:qEL nt ops k=true) {tm:T AV} {h:Hp} {mks:List Nat} {Q:Ex->St->Prop}
  (hw:WOC E nt ops (ops.toList.take k) tm h (fun tm1 h1=>WO E nt ops (ops.toList.drop k) tm1 h1 (regK ⟨tm,nt,h,mks⟩ Q))):W E r (.region id ops true) ⟨tm,nt,h,mks⟩ Q:=by
 unfold qEL at hst;simp only [xZX] at hst;have hw1:=pR (ops':=⟨ops.toList.take k⟩) _ _ _ _ (fun o ho j w hg=>by
  have:=xZV.1 hst.2.2 o ho;unfold vV at this;rw [hg] at this;simp only [xZI] at this;simp [this]) hw
 obtain ⟨tm1,h1,hd,hq⟩:=WOC.ok htb hst.1 hw1;obtain ⟨x,tm2,h2,hd2,hq2⟩:=DrX.lasts htb _ _ tm1 h1 hst.2.1 (fun j hj=>by rw [xZO,xZR]) hd hq;rw [xZO] at hd2;have lift: ∀{a:Act} {w:World} {r:Option Nat} {id:Nat} {Q:Exit->Act->World->Prop},(∀t,wpOpsIn (Wd r) 0 E.P ops Q (Region.linearise .any ops t) a {w with drawn:=w.drawn+1})->(Code.region id ops true).wpIn (Wd r) 0 E.P Q a w:=fun hh=>by
  refine wpIn_region_draw fun t=> ?_;simp only [Region.schedule,hm,xYK,if_true];exact hh t
 have hds:DrwS E nt ops tm h x tm2 h2:=⟨hd2.1,fun lim hl c a w r id g hxt ht Q hQ=>lift fun t=>hd2.2 lim hl c a w r t g hxt ht Q hQ⟩;exact ⟨_,_,.regionD (st:=⟨tm,nt,h,mks⟩) hds,hq2⟩
section
variable {ops:Array Oper} {o:Oper} {ol:List Oper} {tm:T AV} {h h':Hp} {Q:T AV->Hp->Prop} {dst:Option Tmp} {ty:TypeId} {ps:String} {af:Array Edge} {g:Option (Nat×Bool)} {r:Option Nat} {mks:List Nat}
def WOCn (ic:Bool) (E:Env) (nt:Nat) (ops:Array Oper) (ol:List Oper) (tm:T AV) (h:Hp) (dst:Option Tmp) (Q:T AV->Hp->Prop):OR->Prop:=WOCk ic nt tm h dst (fun tm' h'=>WOC E nt ops ol tm' h' Q)
def gateC (gd wt:Bool) (E:Env) (nt:Nat) (ops:Array Oper) (o:Oper) (ol:List Oper) (tm:T AV) (h:Hp) (Q:T AV->Hp->Prop):Prop:=
 gd=true/\bif wt then WOp E o tm h (WOCn (jO o.op) E nt ops ol tm h o.dst Q) else putK nt tm o.dst default (fun tm'=>WOC E nt ops ol tm' h Q)
theorem WOC_nil:WOC E nt ops [] tm h Q=Q tm h:=rfl
theorem WOC_cons:WOC E nt ops (o::ol) tm h Q=gateC (jV nt ops o) (qP ops o tm) E nt ops o ol tm h Q:=rfl
theorem gateC_t:gateC true true E nt ops o ol tm h Q=WOp E o tm h (WOCn (jO o.op) E nt ops ol tm h o.dst Q):=by simp [gateC]
theorem gateC_fs {d:Tmp} {op:Op}:gateC true false E nt ops ⟨some d,op,ty,ps,af,g⟩ ol tm h Q=(d<nt/\WOC E nt ops ol (tm.put (some default) d) h Q):=by simp [gateC,putK]
theorem WOCn_f {d:Tmp} {v:AV}:WOCn false E nt ops ol tm h (some d) Q (.ok v h)=(d<nt/\WOC E nt ops ol (tm.put (some v) d) h Q):=by
 refine propext ⟨fun hh=>hh.2,fun hh=>⟨⟨h.n,by simp,xZY _,rfl⟩,hh⟩⟩
theorem qFF {f:Operand} {a:Array Operand} {ts:Array TypeId}:jO (.call ⟨.value f,a,ts⟩)=true:=rfl
theorem qCO {b:Builtin} {a:Array Operand} {ts:Array TypeId}:jO (.call ⟨.builtin b,a,ts⟩)=false:=rfl
theorem qFD {x:Operand}:jO (.move x)=false:=rfl
theorem qDr {x:Operand}:jO (.assign x)=false:=rfl
theorem qFC {x y z:Operand}:jO (.pick x y z)=false:=rfl
theorem qFE {t:TypeId} {x:Operand}:jO (.load t x)=false:=rfl
theorem qGB {b:BinOp} {t t':TypeId} {x y:Operand}:jO (.binOp b t x y t')=false:=rfl
theorem isCall_un {b:UnOp} {t:TypeId} {x:Operand}:jO (.unOp b t x)=false:=rfl
theorem isCall_fa {t:TypeId} {x:Operand} {f:Nat}:jO (.fieldAddr t x f)=false:=rfl
theorem isCall_f {t:TypeId} {x:Operand} {f:Nat}:jO (.field t x f)=false:=rfl
theorem isCall_ia {t:TypeId} {x y:Operand}:jO (.indexAddr t x y)=false:=rfl
theorem isCall_i {t:TypeId} {x y:Operand}:jO (.index t x y)=false:=rfl
theorem qEy {t:TypeId} {p:Array (Nat×Operand)}:jO (.build t p)=false:=rfl
theorem isCall_ex {x:Operand} {i:Nat}:jO (.extract x i)=false:=rfl
theorem isCall_mf {f:Fn} {a b:Array Operand}:jO (.makeFunc f a b)=false:=rfl
theorem jQ (ok:SyOk E) {id:Nat} {b:Code} {Q:Ex->St->Prop} (k:Nat) (hst:qEL nt ops k=true) (hw: ∀K:Ex->T AV->Hp->Prop,(∀tm h,wpc E r b ⟨tm,nt,h,mks⟩ Q->K .normal tm h)->(∀v tm h,Q (.panic v) ⟨tm,nt,h,mks⟩->K (.panic v) tm h)->WOC E nt ops (ops.toList.take k) tm h (fun tm1 h1=>WO E nt ops (ops.toList.drop k) tm1 h1 K)):
  wpc E r (.seq (.region id ops true) b) ⟨tm,nt,h,mks⟩ Q:=by
 show W E r (.region id ops true) ⟨tm,nt,h,mks⟩ (bW (fun s=>wpc E r b s Q) Q);exact SemC.drawn ok.tb ok.mixed k hst (hw _ (fun tm h hh=>hh) (fun v tm h hh=>hh))
theorem regD (ok:SyOk E) {id:Nat} {Q:Ex->St->Prop} (k:Nat) (hst:qEL nt ops k=true) (hw: ∀K:Ex->T AV->Hp->Prop,(∀tm h,Q .normal ⟨tm,nt,h,mks⟩->K .normal tm h)->(∀v tm h,Q (.panic v) ⟨tm,nt,h,mks⟩->K (.panic v) tm h)->WOC E nt ops (ops.toList.take k) tm h (fun tm1 h1=>WO E nt ops (ops.toList.drop k) tm1 h1 K)):
  wpc E r (.region id ops true) ⟨tm,nt,h,mks⟩ Q:=by
 show W E r (.region id ops true) ⟨tm,nt,h,mks⟩ Q;exact SemC.drawn ok.tb ok.mixed k hst (hw _ (fun tm h hh=>hh) (fun v tm h hh=>hh))
end
end
theorem yB {P:Program} {tb:T TE} {xt:Xt} {call:jK} {ops:Array Oper}: ∀(l1 l2:List Oper) (ms:List Nat) (st st1:DS),yN P tb xt call ops l1 ms st=some st1->yN P tb xt call ops (l1++l2) ms st=yN P tb xt call ops l2 (ms.drop l1.length) st1
 |[],l2,ms,st,st1,h=>by rw [qC3] at h;cases h;rfl
 |o::l1,l2,[],st,st1,h=>by rw [pH] at h;cases h
 |o::l1,l2,m::ms,st,st1,h=>by
  rw [jF] at h;rw [xXZ,jF];cases hd:jN P tb xt call ops o m st with
  |none=>rw [hd] at h;cases h
  |some st'=>rw [hd] at h;exact yB l1 l2 ms st' st1 h
theorem drun_i {P:Program} {tb:T TE} {xt:Xt} {call:jK} {ops:Array Oper}: ∀(l:List Oper) (ms:List Nat) (st st1:DS),yN P tb xt call ops l ms st=some st1->st1.i=st.i+l.length
 |[],ms,st,st1,h=>by rw [qC3] at h;cases h;rfl
 |o::l,[],st,st1,h=>by rw [pH] at h;cases h
 |o::l,m::ms,st,st1,h=>by
  rw [jF] at h;cases hd:jN P tb xt call ops o m st with
  |none=>rw [hd] at h;cases h
  |some st'=>
   rw [hd] at h;have e:=drun_i l ms st' st1 h;unfold jN at hd;cases hr:zU P tb xt call ops o m st with
   |none=>rw [hr] at hd;cases hd
   |some r=>
    obtain ⟨k,v,h'⟩:=r;rw [hr] at hd;cases hd;rw [e];cases k<;>simp [upd]<;>omega
def qEP (nt:Nat) (l:List Oper) (z:Oper):Bool:=
 match sta ⟨l++[z]⟩ with
 |none=>false
 |some s=>Nat.ble s.mx nt && (kS l s.ms 0 [] && (s.ms.all (fun m=> !bt m l.length) && (Nat.blt l.length s.ms.length && (match z.guard with|none=>true|_=>false))))
theorem WOC.okA {E:Env} {nt:Nat} (htb:Tb E.P E.tb) {l:List Oper} {d e:Nat} {ty:TypeId} {ps:String} {af:Array Edge} {z:Oper} (hz:z=⟨some d,.alloc e,ty,ps,af,none⟩) {ops:Array Oper} (hops:ops=⟨l++[z]⟩) (hst:qEP nt l z=true) {tm:T AV} {h:Hp} {Q:T AV->Hp->Prop}
  (hw:WOC E nt ops l tm h (fun tm1 h1=> ∃p,jT E.tb h1 e=some p/\Q (tm1.put (some p.1) d) p.2)): ∃tm' h',DrX E nt ops tm h .normal tm' h'/\Q tm' h':=by
 have hol:ops.toList=l++[z]:=by rw [hops]
 unfold qEP at hst;rw [<-hops] at hst;split at hst
 ·cases hst
 rename_i s hs;simp only [xZX,xZI] at hst;obtain ⟨hmx,hch,hbits,hlen,_⟩:=hst;have hb0: ∀m∈s.ms,bt m l.length=false:=fun m hm=>by have:=xZV.1 hbits m hm;simpa using this
 obtain ⟨call,st,h1,cs,r1,_,r3,⟨⟨I0,I00⟩,I1,I2,I3,I4,_⟩,r5,r6,p,hp,r7⟩:=uF (t0:=h.t) (MS:=s.ms) l s.ms 0 [] tm h _ {i:=0,tm:=tm,n:=h.n,b:=h.t,mj:=0,dl:=0,ne:=0,fs:=[],bs:=[],rs:=[]} hw hch (fun _ h=>h) (PR:=fun _=>True) (PC:=fun _=>True) (fun _ _ _=>⟨fun _=>trivial,fun _=>trivial⟩) rfl rfl rfl rfl ⟨⟨.inl rfl,by simp⟩,rfl,rfl,by simp,by simp,.inl rfl⟩;have hi:st.i=l.length:=by have:=drun_i _ _ _ _ r3;simpa using this
 obtain ⟨m,hm⟩: ∃m,s.ms.drop l.length=m::s.ms.drop (l.length+1):=⟨_,xZD hlen⟩;unfold jT at hp;split at hp
 ·rename_i te hte;cases hp;have hev:jU E.P E.tb E.xt call z st.tm {t:= .e,n:=st.n}=some (.ok (.ptr st.n 0) (({t:= .e,n:=st.n}:Hp).new (.cells (te.zero.map .val) e))):=by
   subst hz;simp [jU,gG,aop,jT,hte]
  have hd:jN E.P E.tb E.xt call ops z m st=some (upd z m st (.ptr st.n 0) (({t:= .e,n:=st.n}:Hp).new (.cells (te.zero.map .val) e)) .new):=by
   unfold jN zU;have:qP ops z st.tm=true:=by subst hz;rfl
   rw [this];have hk:jH z.op= .new:=by subst hz;rfl
   simp only [cond_true,hk];rw [hev]
  have hrun:yN E.P E.tb E.xt call ops ops.toList s.ms {i:=0,tm:=tm,n:=h.n,b:=h.t,mj:=0,dl:=0,ne:=0,fs:=[],bs:=[],rs:=[]}=some (upd z m st (.ptr st.n 0) (({t:= .e,n:=st.n}:Hp).new (.cells (te.zero.map .val) e)) .new):=by
   rw [hol,yB _ _ _ _ _ r3,hm,jF,hd];rfl
  obtain ⟨st2,hst2⟩: ∃st2,st2=upd z m st (.ptr st.n 0) (({t:= .e,n:=st.n}:Hp).new (.cells (te.zero.map .val) e)) .new:=⟨_,rfl⟩;rw [<-hst2] at hrun;have hfs:st2.fs=[{f:=l.length,s:=st.n,cnt:=1,os:=T.put .e (some (.cells (te.zero.map .val) e)) st.n}]:=by
   rw [hst2];have hb:Nat.beq (st.n+1) st.n=false:=by
    cases hq:Nat.beq (st.n+1) st.n with
    |false=>rfl
    |true=>have:=xZU hq;omega
   simp [upd,Hp.new,hb,I1,hi]
  have hchk:DChk E.P E.tb E.xt call st2 ops.size:=by
   intro r hr e' he';refine .inr (.inr (.inr ⟨{t:=h.t,n:=r.n},?_⟩));have hr':r∈st.rs:=by rw [hst2] at hr;simpa [upd] using hr
   have hb:e'.b=h.t:=by
    rcases xZQ.1 he' with rfl|he'
    ·rw [hst2];simpa [upd] using I2
    ·exact I3 e' (by rw [hst2] at he';simpa [upd] using he')
   have hov:ovl (fun f=>bt r.m f && !bt e'.mj f) st2.fs e'.b=h.t:=by
    rw [hfs];simp only [ovl];rw [hb0 _ (I00 r hr').1];exact hb
   rw [hov];exact I4 r hr' call
  obtain ⟨n1,s1⟩:=wQ htb r1 hs (xZL hmx) hrun hchk;have hmj:bt st2.mj l.length=false:=by
   have:st2.mj=st.mj:=by rw [hst2];rfl
   rw [this];rcases I0 with h0|h0
   ·rw [h0];simp [yR]
   ·exact hb0 _ h0
  have e1:({t:=ovl (fun f=> !bt st2.mj f) st2.fs st2.b,n:=st2.n}:Hp)=h1.new (.cells (te.zero.map .val) e):=by
   rw [hfs];simp only [ovl,hmj];have eb:st2.b=h1.t:=by rw [hst2,r6];simpa [upd] using I2
   have en:st2.n=h1.n+1:=by rw [hst2];simp [upd,Hp.new,r5]
   rw [eb,en];simp only [Bool.not_false,cond_true,mrg,Hp.new,r5];rw [T.get_put,if_pos rfl]
  rw [e1] at s1;have en:st2.n=h1.n+1:=by rw [hst2];simp [upd,Hp.new,r5]
  have etm:st2.tm=st.tm.put (some (.ptr h1.n 0)) d:=by rw [hst2,<-r5];subst hz;rfl
  rw [en] at n1 s1;rw [etm] at s1;exact ⟨_,_,⟨n1,s1⟩,r7⟩
 ·cases hp
def qB3 (mz:Nat):List Oper->Nat->Bool
 |[],_=>true
 |o::ol,i=>(match jH o.op with| .new=>true|_=>bt mz i) && qB3 mz ol (i+1)
theorem qCF {mz:Nat}: ∀(ol:List Oper) (i:Nat),qB3 mz ol i=true-> ∀k o,ol[k]? =some o->jH o.op≠ .new->bt mz (i+k)=true
 |[],i,_,k,o,ho,_=>by simp at ho
 |p::ol,i,h,k,o,ho,hk=>by
  simp only [qB3,xZX] at h;cases k with
  |zero=>
   simp only [xZB,Option.some.injEq] at ho;subst ho;have:=h.1;split at this
   ·rename_i hn;exact absurd hn hk
   ·simpa using this
  |succ k=>
   have:=qCF ol (i+1) h.2 k o (by simpa using ho) hk
   rwa [show i+1+k=i+(k+1) by omega] at this
theorem gO: ∀(ol:List Oper) (ms:List Nat) (i:Nat) (cs:List Nat),kS ol ms i cs=true-> ∀(k:Nat) (o:Oper),ol[k]? =some o->calm o.op=false->jH o.op≠ .new
 |[],ms,i,cs,_,k,o,ho,_=>by simp at ho
 |p::ol,[],i,cs,h,k,o,ho,_=>by simp [kS] at h
 |p::ol,m::ms,i,cs,h,k,o,ho,hc=>by
  simp only [kS] at h;cases k with
  |zero=>
   simp only [xZB,Option.some.injEq] at ho;subst ho;rw [hc] at h;simp only [cond_false,xZX] at h;have:=h.1;unfold jO at this;split at this
   ·rename_i q hq;split at this
    ·rename_i f hf;simp [hq,jH,hf]
    ·cases this
   ·cases this
  |succ k=>
   cases hp:calm p.op with
   |true=>rw [hp] at h;exact gO ol ms (i+1) cs h k o (by simpa using ho) hc
   |false=>
    rw [hp] at h;simp only [cond_false,xZX] at h;exact gO ol ms (i+1) _ h.2.2 k o (by simpa using ho) hc
def calmOkC (nt:Nat) (l:List Oper) (z:Oper):Bool:=
 match sta ⟨l++[z]⟩ with
 |none=>false
 |some s=>Nat.ble s.mx nt && (kS l s.ms 0 [] && (jO z.op && (match s.ms[l.length]? with|some mz=>qB3 mz l 0|none=>false)))
theorem WOC.okC {E:Env} {nt:Nat} (htb:Tb E.P E.tb) {l:List Oper} {z:Oper} {ops:Array Oper} (hops:ops=⟨l++[z]⟩) (hst:calmOkC nt l z=true) {tm:T AV} {h:Hp} {Q:T AV->Hp->Prop}
  (hw:WOC E nt ops l tm h (fun tm1 h1=>WO E nt ops [z] tm1 h1 (seqX Q (fun _ _ _=>False)))): ∃tm' h',DrX E nt ops tm h .normal tm' h'/\Q tm' h':=by
 have hol:ops.toList=l++[z]:=by rw [hops]
 unfold calmOkC at hst;rw [<-hops] at hst;split at hst
 ·cases hst
 rename_i s hs;simp only [xZX] at hst;obtain ⟨hmx,hch,hic,hrd⟩:=hst;split at hrd
 rotate_left
 ·cases hrd
 rename_i mz hmz;have hrd':=qCF l 0 hrd;simp only [xZP] at hrd';obtain ⟨call,st,h1,cs,r1,r2,r3,⟨⟨I0,I00⟩,I1,I2,I3,I4,I5⟩,r5,r6,hz⟩:=uF (t0:=h.t) (MS:=s.ms) (PR:=fun i=>bt mz i=true) (PC:=fun i=>bt mz i=true) l s.ms 0 [] tm h _ {i:=0,tm:=tm,n:=h.n,b:=h.t,mj:=0,dl:=0,ne:=0,fs:=[],bs:=[],rs:=[]} hw hch (fun _ h=>h)
  (fun k o ho=>⟨fun hk=>by rw [xZP];exact hrd' k o ho (by rw [hk];simp),fun hk=>by rw [xZP];exact hrd' k o ho (gO l s.ms 0 [] hch k o ho hk)⟩) rfl rfl rfl rfl ⟨⟨.inl rfl,by simp⟩,rfl,rfl,by simp,by simp,.inl rfl⟩
 have hlen:l.length<s.ms.length:=(xZK.1 hmz).1;have hm:s.ms.drop l.length=mz::s.ms.drop (l.length+1):=by
  rw [xZD hlen,(xZK.1 hmz).2]
 have heta:({t:=h.t,n:=st.n}:Hp)=h1:=by rw [r5,<-r6]
 have hov: ∀q,({t:=ovl q st.fs st.b,n:=st.n}:Hp)=h1:=fun q=>by rw [I1,I2];exact heta
 simp only [WO] at hz;obtain ⟨_,hz⟩:=hz;have hput: ∀{v:AV} {N:T AV->Prop},putK nt st.tm z.dst v N->N (uH st.tm z.dst v):=fun {v N} hp=>by
  unfold putK at hp;unfold uH;split at hp
  ·rename_i hd;rw [hd];exact hp
  ·rename_i d hd;rw [hd];exact hp.2
 cases haw:qP ops z st.tm with
 |false=>
  rw [haw] at hz;simp only [cond_false] at hz;have hq:=hput hz;have hd:jN E.P E.tb E.xt call ops z mz st=some (upd z mz st default {t:= .e,n:=st.n} .new):=by
   unfold jN zU;rw [haw];rfl
  have hrun:yN E.P E.tb E.xt call ops ops.toList s.ms {i:=0,tm:=tm,n:=h.n,b:=h.t,mj:=0,dl:=0,ne:=0,fs:=[],bs:=[],rs:=[]}=some (upd z mz st default {t:= .e,n:=st.n} .new):=by
   rw [hol,yB _ _ _ _ _ r3,hm,jF,hd];rfl
  obtain ⟨st2,hst2⟩: ∃st2,st2=upd z mz st default {t:= .e,n:=st.n} .new:=⟨_,rfl⟩;rw [<-hst2] at hrun;have hfs:st2.fs=[]:=by rw [hst2];simp [upd,I1]
  have hchk:DChk E.P E.tb E.xt call st2 ops.size:=by
   intro r hr e' he';refine .inr (.inr (.inr ⟨{t:=h.t,n:=r.n},?_⟩));have hr':r∈st.rs:=by rw [hst2] at hr;simpa [upd] using hr
   have hb:e'.b=h.t:=by
    rcases xZQ.1 he' with rfl|he'
    ·rw [hst2];simpa [upd] using I2
    ·exact I3 e' (by rw [hst2] at he';simpa [upd] using he')
   rw [hfs];show jU E.P E.tb E.xt call r.o r.tm {t:=e'.b,n:=r.n}=_;rw [hb];exact I4 r hr' call
  obtain ⟨n1,s1⟩:=wQ htb r1 hs (xZL hmx) hrun hchk;have e1:({t:=ovl (fun f=> !bt st2.mj f) st2.fs st2.b,n:=st2.n}:Hp)=h1:=by
   rw [hfs];have eb:st2.b=h.t:=by rw [hst2];simpa [upd] using I2
   have en:st2.n=st.n:=by rw [hst2];rfl
   rw [eb,en];exact heta
  have etm:st2.tm=uH st.tm z.dst default:=by rw [hst2];rfl
  have en:st2.n=h1.n:=by rw [hst2,<-r5];rfl
  rw [e1,etm] at s1;rw [en] at n1 s1;exact ⟨_,_,⟨n1,s1⟩,hq⟩
 |true=>
  rw [haw] at hz;simp only [cond_true] at hz;unfold jO at hic;split at hic
  ·rename_i q hq;split at hic
   ·rename_i f hf;unfold WOp at hz;simp only [hq,calK,hf] at hz;obtain ⟨res,h2,hcs,hk⟩:=hz;cases res with
    |pan v=>exact hk.elim
    |ret v=>
     have hk:=hput (show putK nt st.tm z.dst v (fun tm'=>Q tm' h2) from hk);have hkd:jH z.op= .eff:=by simp [hq,jH,hf]
     have hsd:jY E.P E.xt (j9 (qH st.tm f) (q.args.toList.map (qH st.tm)) h1 (.ret v) h2 call):=by
      intro fv a k r k' he;unfold j9 at he;split at he
      ·rename_i hq;obtain ⟨rfl,rfl,rfl⟩:=hq;cases he;exact hcs
      ·exact r1 _ _ _ _ _ he
     have r3':=vL (call':=j9 (qH st.tm f) (q.args.toList.map (qH st.tm)) h1 (.ret v) h2 call) r1 l s.ms _ _ (fun fv a k r _ hr=>by
      unfold j9;rw [if_neg (fun hq=>by have:=(r2.1 _ _ _ _ hr).2;rw [hq.2.2] at this;omega)];exact hr) r3
     have hch':(Nat.beq st.ne 0 || bt mz st.dl)=true:=by
      rcases I5 with h1|h1
      ·rw [h1];rfl
      ·rw [h1.2];simp
     have hev:jU E.P E.tb E.xt (j9 (qH st.tm f) (q.args.toList.map (qH st.tm)) h1 (.ret v) h2 call) z st.tm h1=some (.ok v h2):=by
      simp [jU,hq,vI,hf,j9,u9]
     have hd:jN E.P E.tb E.xt (j9 (qH st.tm f) (q.args.toList.map (qH st.tm)) h1 (.ret v) h2 call) ops z mz st=some (upd z mz st v h2 .eff):=by
      unfold jN zU;rw [haw,hkd];simp only [cond_true];rw [hch'];simp only [cond_true];rw [hov,hev]
     have hrun:yN E.P E.tb E.xt (j9 (qH st.tm f) (q.args.toList.map (qH st.tm)) h1 (.ret v) h2 call) ops ops.toList s.ms {i:=0,tm:=tm,n:=h.n,b:=h.t,mj:=0,dl:=0,ne:=0,fs:=[],bs:=[],rs:=[]}=some (upd z mz st v h2 .eff):=by
      rw [hol,yB _ _ _ _ _ r3',hm,jF,hd];rfl
     obtain ⟨st2,hst2⟩: ∃st2,st2=upd z mz st v h2 .eff:=⟨_,rfl⟩;rw [<-hst2] at hrun;have hfs:st2.fs=[]:=by rw [hst2];simp [upd,I1]
     have hchk:DChk E.P E.tb E.xt (j9 (qH st.tm f) (q.args.toList.map (qH st.tm)) h1 (.ret v) h2 call) st2 ops.size:=by
      intro r hr e' he';have hr':r∈st.rs:=by rw [hst2] at hr;simpa [upd] using hr
      rcases xZQ.1 he' with rfl|he'
      ·refine .inr (.inr (.inl ?_));have:st2.mj=mz:=by rw [hst2];rfl
       show bt st2.mj r.i=true;rw [this];exact (I00 r hr').2
      ·refine .inr (.inr (.inr ⟨{t:=h.t,n:=r.n},?_⟩));have hb:e'.b=h.t:=by
        rw [hst2] at he';simp only [upd,xZQ] at he';rcases he' with rfl|he'
        ·exact I2
        ·exact I3 e' he'
       rw [hfs];show jU E.P E.tb E.xt _ r.o r.tm {t:=e'.b,n:=r.n}=_;rw [hb];exact I4 r hr' _
     obtain ⟨n1,s1⟩:=wQ htb hsd hs (xZL hmx) hrun hchk;have e1:({t:=ovl (fun f=> !bt st2.mj f) st2.fs st2.b,n:=st2.n}:Hp)=h2:=by
      rw [hfs,hst2];rfl
     have etm:st2.tm=uH st.tm z.dst v:=by rw [hst2];rfl
     have en:st2.n=h2.n:=by rw [hst2];rfl
     rw [e1,etm] at s1;rw [en] at n1 s1;exact ⟨_,_,⟨n1,s1⟩,hk⟩
   ·cases hic
  ·cases hic
def qEK (nt:Nat) (ops:Array Oper) (k:Nat):Bool:=
 match ops.toList.drop k with
 |[]=>false
 |z::zs=>(match z with
  |⟨some _,.alloc _,_,_,_,none⟩=>true
  |_=>false) && (qEP nt (ops.toList.take k) z && (xT (ops.toList.take k++[z]) zs && (ops.toList.take k).all (vV k)))
theorem SemC.drawnA {E:Env} {nt:Nat} (htb:Tb E.P E.tb) (hm:E.P.follows .mixedOrders=true) {r:Option Nat} {id:Nat} {ops:Array Oper} (k:Nat) (hst:qEK nt ops k=true) {tm:T AV} {h:Hp} {mks:List Nat} {Q:Ex->St->Prop}
  (hw:WOC E nt ops (ops.toList.take k) tm h (fun tm1 h1=>WO E nt ops (ops.toList.drop k) tm1 h1 (regK ⟨tm,nt,h,mks⟩ Q))):W E r (.region id ops true) ⟨tm,nt,h,mks⟩ Q:=by
 unfold qEK at hst;split at hst
 ·cases hst
 rename_i z zs hz;simp only [xZX] at hst;obtain ⟨hza,hca,hla,hgd⟩:=hst;split at hza
 ·rename_i d e ty ps af;have hall:ops.toList.take k++(⟨some d,.alloc e,ty,ps,af,none⟩:Oper)::zs=ops.toList:=by rw [<-hz];exact xZO _ _
  have hw1:=pR (ops':=⟨ops.toList.take k++[⟨some d,.alloc e,ty,ps,af,none⟩]⟩) _ _ _ _ (fun o ho j w hg=>by
   have:=xZV.1 hgd o ho;unfold vV at this;rw [hg] at this;simp only [xZI] at this;have hlen:(ops.toList.take k).length=k:=by
    have h1:0<(ops.toList.drop k).length:=by rw [hz];simp
    rw [xYA] at h1;rw [List.length_take];omega
   simp only [List.getElem?_toArray];rw [xZJ (by omega),xZF,if_pos this,xZR]) hw
  have key: ∀(tm1:T AV) (h1:Hp),WO E nt ops (ops.toList.drop k) tm1 h1 (regK ⟨tm,nt,h,mks⟩ Q)-> ∃p,jT E.tb h1 e=some p/\(fun tm2 h2=>WO E nt ops zs tm2 h2 (regK ⟨tm,nt,h,mks⟩ Q)) (tm1.put (some p.1) d) p.2:=by
   intro tm1 h1 hx;rw [hz,WO_cons,qAH,qA5,gate_t,qEc] at hx;cases hp:jT E.tb h1 e with
   |none=>rw [hp] at hx;exact hx.elim
   |some p=>rw [hp] at hx;exact ⟨p,rfl,hx.2⟩
  have hw2:WOC E nt ⟨ops.toList.take k++[⟨some d,.alloc e,ty,ps,af,none⟩]⟩ (ops.toList.take k) tm h (fun tm1 h1=> ∃p,jT E.tb h1 e=some p/\(fun tm2 h2=>WO E nt ops zs tm2 h2 (regK ⟨tm,nt,h,mks⟩ Q)) (tm1.put (some p.1) d) p.2):=qDk _ _ _ hw1 key;obtain ⟨tm1,h1,hd,hq⟩:=WOC.okA (Q:=fun tm2 h2=>WO E nt ops zs tm2 h2 (regK ⟨tm,nt,h,mks⟩ Q)) htb rfl rfl hca hw2;obtain ⟨x,tm2,h2,hd2,hq2⟩:=DrX.lasts htb _ _ tm1 h1 hla (fun j hj=>by rw [xZE,xYZ,hall,xZR]) hd hq;rw [xZE,xYZ,hall] at hd2;have lift: ∀{a:Act} {w:World} {r:Option Nat} {id:Nat} {Q:Exit->Act->World->Prop},(∀t,wpOpsIn (Wd r) 0 E.P ops Q (Region.linearise .any ops t) a {w with drawn:=w.drawn+1})->(Code.region id ops true).wpIn (Wd r) 0 E.P Q a w:=fun hh=>by
   refine wpIn_region_draw fun t=> ?_;simp only [Region.schedule,hm,xYK,if_true];exact hh t
  have hds:DrwS E nt ops tm h x tm2 h2:=⟨hd2.1,fun lim hl c a w r id g hxt ht Q hQ=>lift fun t=>hd2.2 lim hl c a w r t g hxt ht Q hQ⟩;exact ⟨_,_,.regionD (st:=⟨tm,nt,h,mks⟩) hds,hq2⟩
 ·cases hza
theorem seq_regDA {E:Env} (ok:SyOk E) {nt:Nat} {ops:Array Oper} {tm:T AV} {h:Hp} {mks:List Nat} {r:Option Nat} {id:Nat} {b:Code} {Q:Ex->St->Prop} (k:Nat) (hst:qEK nt ops k=true) (hw: ∀K:Ex->T AV->Hp->Prop,(∀tm h,wpc E r b ⟨tm,nt,h,mks⟩ Q->K .normal tm h)->(∀v tm h,Q (.panic v) ⟨tm,nt,h,mks⟩->K (.panic v) tm h)->WOC E nt ops (ops.toList.take k) tm h (fun tm1 h1=>WO E nt ops (ops.toList.drop k) tm1 h1 K)):
  wpc E r (.seq (.region id ops true) b) ⟨tm,nt,h,mks⟩ Q:=by
 show W E r (.region id ops true) ⟨tm,nt,h,mks⟩ (bW (fun s=>wpc E r b s Q) Q);exact SemC.drawnA ok.tb ok.mixed k hst (hw _ (fun tm h hh=>hh) (fun v tm h hh=>hh))
structure RdE where
 i:Nat
 o:Oper
 tm:T AV
 n:Nat
 v:AV
def isSt:Op->Bool
 | .store _ _ _=>true
 | .call q=>match q.callee with
  | .builtin .append=>true
  |_=>false
 |_=>false
def zY (o:Op):Bool:=isSt o || jO o
abbrev SRd:=Nat×Nat×Nat
abbrev SVe:=Nat×Nat×Nat
def qBc (AL:List Nat) (N:Nat):List Oper->List Nat->Nat->Nat->Nat->Nat->List SRd->List SVe->Option (List SRd×List SVe)
 |[],_,_,ne,mj,_,SR,SV=>some (SR,(ne,mj,N)::SV)
 |_::_,[],_,_,_,_,_,_=>none
 |o::ol,m::ms,i,ne,mj,dl,SR,SV=>
  bif calm o.op then
   (match jH o.op with
   | .read=>bif AL.all (bt m) then qBc AL N ol ms (i+1) ne mj dl ((i,m,ne)::SR) SV else none
   |_=>qBc AL N ol ms (i+1) ne mj dl SR SV)
  else bif zY o.op && (Nat.beq ne 0 || bt m dl) && AL.all (bt m) && (match o.guard with|none=>true|some _=>false) then qBc AL N ol ms (i+1) (ne+1) m i SR ((ne,mj,i)::SV) else none
def ordd (P:List (Nat×Nat)) (r:SRd) (e:SVe):Bool:=Nat.beq e.1 r.2.2 || (bt r.2.1 e.2.2 || (bt e.2.1 r.1 || P.any fun p=>Nat.beq p.1 r.1 && Nat.beq p.2 e.1))
def isAl (nt:Nat) (o:Oper):Bool:=
 match o.op,o.dst,o.guard with
 | .alloc _,some d,none=>Nat.blt d nt
 |_,_,_=>false
section
variable {E:Env} {nt:Nat} {ops:Array Oper}
def qA9 (st rd cl:Bool) (nt i ne:Nat) (o:Oper) (tm:T AV) (h:Hp) (R:List RdE) (V:List (Nat×T AO)) (N:Nat->T AV->Hp->List RdE->List (Nat×T AO)->Prop):OR->Prop
 | .pan _ _=>False
 | .ok v h'=>bif st then (h.n<=h'.n/\(cl=true->h.n<h'.n))/\putK nt tm o.dst v (fun tm'=>N (ne+1) tm' h' R ((ne+1,h'.t)::V))
  else h'=h/\putK nt tm o.dst v (fun tm'=>N ne tm' h (bif rd then ⟨i,o,tm,h.n,v⟩::R else R) V)
def zT (o:Op):Bool:=
 match jH o with
 | .read=>true
 |_=>false
def WOW (E:Env) (nt:Nat) (ops:Array Oper):List Oper->Nat->Nat->T AV->Hp->List RdE->List (Nat×T AO)->(T AV->Hp->List RdE->List (Nat×T AO)->Prop)->Prop
 |[],_,_,tm,h,R,V,Q=>Q tm h R V
 |o::ol,i,ne,tm,h,R,V,Q=>jV nt ops o=true/\bif qP ops o tm then WOp E o tm h (qA9 (zY o.op) (zT o.op) (jO o.op) nt i ne o tm h R V (fun ne' tm' h' R' V'=>WOW E nt ops ol (i+1) ne' tm' h' R' V' Q)) else putK nt tm o.dst default (fun tm'=>WOW E nt ops ol (i+1) ne tm' h R V Q)
def WOA (E:Env):List Oper->T AV->Nat->List AO->(T AV->List AO->Prop)->Prop
 |[],tm,_,os,Q=>Q tm os
 |o::ol,tm,n,os,Q=>match o.op,o.dst with
  | .alloc e,some d=> ∃te,E.tb.get e=some te/\WOA E ol (tm.put (some (.ptr n 0)) d) (n+1) (os++[.cells (te.zero.map .val) e]) Q
  |_,_=>False
def vG (t:T AO):Nat->List AO->T AO
 |_,[]=>t
 |n,o::os=>(vG t (n+1) os).put (some o) n
structure WInv (E:Env) (AL:List Nat) (h0:T AO) (HA:T AO) (FS:List FE) (i ne mj dl:Nat) (tm:T AV) (h:Hp) (R:List RdE) (V:List (Nat×T AO)) (SR:List SRd) (SV:List SVe) (st:DS):Prop where
 fi:st.i=i
 ftm:st.tm=tm
 fn:st.n=h.n
 fne:st.ne=ne
 fmj:st.mj=mj
 fdl:st.dl=dl\/ne=0
 ffs:st.fs=FS
 fz:ne=0->mj=0/\st.b=h0/\h.t=HA
 fs:0<ne->(∀f∈AL,bt mj f=true)/\st.b=h.t/\(ne,h.t)∈V
 frs: ∀r∈st.rs,(r.i,r.m,r.ne)∈SR/\(∃e∈R,e.i=r.i/\e.o=r.o/\e.tm=r.tm/\e.n=r.n/\e.v=r.v/\calm r.o.op=true)/\((∀f∈AL,bt r.m f=true)\/(r.ne=0/\ ∀f∈AL,bt r.m f=false))
 fbs: ∀e∈st.bs,(e.j,e.mj,e.nx)∈SV/\(e.j=0->e.b=h0/\e.mj=0)/\(0<e.j->(e.j,e.b)∈V/\ ∀f∈AL,bt e.mj f=true)
 fv:(0,HA)∈V
theorem gU {P:Program} {tb:T TE} {xt:Xt} {o:Oper} {tm:T AV} {h:Hp} (hs:isSt o.op=true) (call:jK):jU P tb xt call o tm h=gG (aop P tb xt (qH tm) o.op h):=by
 cases hop:o.op with
 |store _ _ _=>simp only [jU,hop]
 |call q=>
  rw [hop] at hs;simp only [isSt] at hs;split at hs
  ·rename_i hc;simp only [jU,hop,vI,hc]
  ·cases hs
 |_=>rw [hop] at hs;cases hs
theorem qAk {op:Op} (h:calm op=true):zY op=false:=by
 cases op<;>first|rfl|(cases h;done)|skip
 rename_i q;simp only [calm] at h;unfold zY isSt jO;cases hc:q.callee with
 |builtin b=>cases b<;>first|(simp only [hc];rfl)|(rw [hc] at h;simp at h)
 |_=>first|(simp only [hc];rfl)|(rw [hc] at h;simp at h)
theorem wL {op:Op} (h:isSt op=true):jH op= .eff:=by
 cases op<;>first|rfl|(cases h;done)|skip
 rename_i q;simp only [isSt] at h;split at h
 ·rename_i hc;simp only [jH,hc]
 ·cases h
theorem pO (f:Nat):bt 0 f=false:=by rw [yR];simp
theorem gB {AL:List Nat} {h0 HA:T AO} {FS:List FE} {N:Nat} (hall: ∀q:Nat->Bool,(∀f∈AL,q f=true)->ovl q FS h0=HA) (hno: ∀(q:Nat->Bool) (b:T AO),(∀f∈AL,q f=false)->ovl q FS b=b) {Q:T AV->Hp->List RdE->List (Nat×T AO)->Prop} {SRz:List SRd} {SVz:List SVe}:
  ∀(ol:List Oper) (ms:List Nat) (i ne mj dl:Nat) (tm:T AV) (h:Hp) (R:List RdE) (V:List (Nat×T AO)) (SR:List SRd) (SV:List SVe) (st:DS),WOW E nt ops ol i ne tm h R V Q->qBc AL N ol ms i ne mj dl SR SV=some (SRz,SVz)->WInv E AL h0 HA FS i ne mj dl tm h R V SR SV st->
  ∃call st' ne' mj' dl' tm' h' R' V' SV',jY E.P E.xt call/\((∀fv args k r,call fv args k=some r->h.n<=k.n/\k.n<h'.n)/\h.n<=h'.n)/\yN E.P E.tb E.xt call ops ol ms st=some st'/\WInv E AL h0 HA FS (i+ol.length) ne' mj' dl' tm' h' R' V' SRz SV' st'/\SVz=(ne',mj',N)::SV'/\Q tm' h' R' V'
 |[],ms,i,ne,mj,dl,tm,h,R,V,SR,SV,st,hw,hc,I=>by
  simp only [qBc,Option.some.injEq,Prod.mk.injEq] at hc;obtain ⟨rfl,rfl⟩:=hc;exact ⟨qAE,st,ne,mj,dl,tm,h,R,V,SV,xC _ _,⟨fun _ _ _ _ hx=>(by cases hx),xZY _⟩,rfl,I,rfl,hw⟩
 |o::ol,[],i,ne,mj,dl,tm,h,R,V,SR,SV,st,hw,hc,I=>by simp [qBc] at hc
 |o::ol,m::ms,i,ne,mj,dl,tm,h,R,V,SR,SV,st,hw,hc,I=>by
  simp only [WOW] at hw;obtain ⟨_,hw⟩:=hw;have hput: ∀{v:AV} {N:T AV->Prop},putK nt tm o.dst v N->N (uH tm o.dst v):=fun {v N} hp=>by
   unfold putK at hp;unfold uH;split at hp
   ·rename_i hd;rw [hd];exact hp
   ·rename_i d hd;rw [hd];exact hp.2
  have hlen:i+(o::ol).length=(i+1)+ol.length:=by simp;omega
  rw [hlen];simp only [qBc] at hc;cases haw:qP ops o tm with
  |false=>
   rw [haw] at hw;simp only [cond_false] at hw;have hw:=hput hw;have hd: ∀call,jN E.P E.tb E.xt call ops o m st=some (upd o m st default {t:= .e,n:=st.n} .new):=fun call=>by
    unfold jN zU;rw [I.ftm,haw];rfl
   have hcal:calm o.op=true:=by
    cases hcal:calm o.op with
    |true=>rfl
    |false=>
     rw [hcal] at hc;simp only [cond_false] at hc;obtain ⟨h1,_⟩:=qZ hc;simp only [xZX] at h1;have h2:=h1.2;split at h2
     ·rename_i hg;unfold qP at haw;rw [hg] at haw;cases haw
     ·cases h2
   rw [hcal] at hc;simp only [cond_true] at hc;obtain ⟨SR2,hc2,hsub⟩: ∃SR2,qBc AL N ol ms (i+1) ne mj dl SR2 SV=some (SRz,SVz)/\ ∀x∈SR,x∈SR2:=by
    split at hc
    ·obtain ⟨_,hc⟩:=qZ hc;exact ⟨_,hc,fun x hx=>xZZ _ hx⟩
    ·exact ⟨_,hc,fun x hx=>hx⟩
   obtain ⟨call,st',ne',mj',dl',tm',h',R',V',SV',c1,c2,r1,r2⟩:=gB hall hno ol ms (i+1) ne mj dl _ h R V SR2 SV (upd o m st default {t:= .e,n:=st.n} .new) hw hc2
    ⟨by simp [upd,I.fi],by simp [upd,I.ftm],by simp [upd,I.fn],by simp [upd,I.fne],by simp [upd,I.fmj],by simpa [upd] using I.fdl,by simp [upd,I.ffs],fun hz=>by simpa [upd] using I.fz hz,fun hz=>by simpa [upd] using I.fs hz,fun r hr=>by have:=I.frs r (by simpa [upd] using hr);exact ⟨hsub _ this.1,this.2⟩,fun e he=>I.fbs e (by simpa [upd] using he),I.fv⟩
   exact ⟨call,st',ne',mj',dl',tm',h',R',V',SV',c1,c2,by rw [jF,hd];exact r1,r2⟩
  |true=>
   rw [haw] at hw;simp only [cond_true] at hw;cases hcal:calm o.op with
   |true=>
    rw [hcal] at hc;simp only [cond_true] at hc;obtain ⟨call0,res,_,hop,hk⟩:=hw.ev;rw [zE rfl hcal] at hop;cases ha:aop E.P E.tb E.xt (qH tm) o.op h with
    |none=>rw [ha] at hop;cases hop
    |some p=>
     obtain ⟨v,h1⟩:=p;rw [ha] at hop;simp only [gG,Option.some.injEq] at hop;subst hop;simp only [qA9,qAk hcal,cond_false] at hk;obtain ⟨rfl,hk⟩:=hk;have hk:=hput hk;rcases bN hcal with hkd|hkd
     ·obtain ⟨_,e2⟩:=qAZ hcal hkd ha;rw [hkd] at hc;simp only at hc;have hrd:zT o.op=false:=by unfold zT;rw [hkd]
      rw [hrd] at hk;simp only [cond_false] at hk;have hd: ∀call,jN E.P E.tb E.xt call ops o m st=some (upd o m st v {t:= .e,n:=st.n} .new):=fun call=>by
       unfold jN zU;rw [I.ftm,haw,hkd];simp only [cond_true];rw [zE rfl hcal,e2];rfl
      obtain ⟨call,st',ne',mj',dl',tm',h',R',V',SV',c1,c2,r1,r2⟩:=gB hall hno ol ms (i+1) ne mj dl _ h1 R V SR SV (upd o m st v {t:= .e,n:=st.n} .new) hk hc
       ⟨by simp [upd,I.fi],by simp [upd,I.ftm],by simp [upd,I.fn],by simp [upd,I.fne],by simp [upd,I.fmj],by simpa [upd] using I.fdl,by simp [upd,I.ffs],fun hz=>by simpa [upd] using I.fz hz,fun hz=>by simpa [upd] using I.fs hz,fun r hr=>I.frs r (by simpa [upd] using hr),fun e he=>I.fbs e (by simpa [upd] using he),I.fv⟩
      exact ⟨call,st',ne',mj',dl',tm',h',R',V',SV',c1,c2,by rw [jF,hd];exact r1,r2⟩
     ·rw [hkd] at hc;simp only at hc;obtain ⟨hal,hc⟩:=qZ hc;have hal:=xZV.1 hal;have hrd:zT o.op=true:=by unfold zT;rw [hkd]
      rw [hrd] at hk;simp only [cond_true] at hk;have hov:({t:=ovl (fun f=>bt m f && !bt st.mj f) st.fs st.b,n:=st.n}:Hp)=h1:=by
       have:ovl (fun f=>bt m f && !bt st.mj f) st.fs st.b=h1.t:=by
        rw [I.ffs];rcases xZH ne with hz|hz
        ·obtain ⟨z1,z2,z3⟩:=I.fz hz;rw [z2,z3];exact hall _ fun f hf=>by rw [I.fmj,z1,hal f hf,pO];rfl
        ·obtain ⟨z1,z2,_⟩:=I.fs hz;rw [z2];exact hno _ _ fun f hf=>by rw [I.fmj,z1 f hf];simp
       rw [this,I.fn]
      have hd: ∀call,jN E.P E.tb E.xt call ops o m st=some (upd o m st v h1 .read):=fun call=>by
       unfold jN zU;rw [I.ftm,haw,hkd];simp only [cond_true];rw [hov,zE rfl hcal,ha];rfl
      obtain ⟨call,st',ne',mj',dl',tm',h',R',V',SV',c1,c2,r1,r2⟩:=gB hall hno ol ms (i+1) ne mj dl _ h1 _ V ((i,m,ne)::SR) SV (upd o m st v h1 .read) hk hc
       ⟨by simp [upd,I.fi],by simp [upd,I.ftm],by simp [upd,I.fn],by simp [upd,I.fne],by simp [upd,I.fmj],by simpa [upd] using I.fdl,by simp [upd,I.ffs],fun hz=>by simpa [upd] using I.fz hz,fun hz=>by simpa [upd] using I.fs hz,fun r hr=>by
        simp only [upd,xZQ] at hr;rcases hr with rfl|hr
        ·exact ⟨by simp [I.fi,I.fne],⟨_,xZS,by simp [I.fi,I.ftm,I.fn,hcal]⟩,.inl hal⟩
        ·obtain ⟨q1,⟨e,q2,q3⟩,q4⟩:=I.frs r hr;exact ⟨xZZ _ q1,⟨e,xZZ _ q2,q3⟩,q4⟩,fun e he=>I.fbs e (by simpa [upd] using he),I.fv⟩
      exact ⟨call,st',ne',mj',dl',tm',h',R',V',SV',c1,c2,by rw [jF,hd];exact r1,r2⟩
   |false=>
    rw [hcal] at hc;simp only [cond_false] at hc;obtain ⟨hg,hc⟩:=qZ hc;simp only [xZX] at hg;obtain ⟨⟨⟨hst,hch⟩,hal⟩,_⟩:=hg;have hal:=xZV.1 hal;have hov:({t:=ovl (fun f=>bt m f && !bt st.mj f) st.fs st.b,n:=st.n}:Hp)=h:=by
     have:ovl (fun f=>bt m f && !bt st.mj f) st.fs st.b=h.t:=by
      rw [I.ffs];rcases xZH ne with hz|hz
      ·obtain ⟨z1,z2,z3⟩:=I.fz hz;rw [z2,z3];exact hall _ fun f hf=>by rw [I.fmj,z1,hal f hf,pO];rfl
      ·obtain ⟨z1,z2,_⟩:=I.fs hz;rw [z2];exact hno _ _ fun f hf=>by rw [I.fmj,z1 f hf];simp
     rw [this,I.fn]
    have hch2:(Nat.beq st.ne 0 || bt m st.dl)=true:=by
     rw [I.fne];rcases I.fdl with hdl|hdl
     ·rw [hdl];exact hch
     ·rw [hdl];rfl
    have next: ∀(v:AV) (h1:Hp),jH o.op= .eff->WOW E nt ops ol (i+1) (ne+1) (uH tm o.dst v) h1 R ((ne+1,h1.t)::V) Q->h.n<=h1.n-> ∃call st' ne' mj' dl' tm' h' R' V' SV',jY E.P E.xt call/\((∀fv args k r,call fv args k=some r->h1.n<=k.n/\k.n<h'.n)/\h1.n<=h'.n)/\yN E.P E.tb E.xt call ops ol ms (upd o m st v h1 .eff)=some st'/\WInv E AL h0 HA FS (i+1+ol.length) ne' mj' dl' tm' h' R' V' SRz SV' st'/\SVz=(ne',mj',N)::SV'/\Q tm' h' R' V':=fun v h1 hke hk hle=>by
     exact gB hall hno ol ms (i+1) (ne+1) m i _ h1 R _ SR ((ne,mj,i)::SV) (upd o m st v h1 .eff) hk hc
      ⟨by simp [upd,I.fi],by simp [upd,I.ftm],by simp [upd],by simp [upd,I.fne],by simp [upd],.inl (by simp [upd,I.fi]),by simp [upd,I.ffs],fun hz=>by omega,fun hz=>⟨hal,by simp [upd],xZS⟩,fun r hr=>I.frs r (by simpa [upd] using hr),fun e he=>by
       simp only [upd,xZQ] at he;rcases he with rfl|he
       ·refine ⟨by simp [I.fne,I.fmj,I.fi],fun hz=> ?_,fun hz=> ?_⟩
        ·simp only [I.fne] at hz;obtain ⟨z1,z2,z3⟩:=I.fz hz;exact ⟨z2,by simp [I.fmj,z1]⟩
        ·simp only [I.fne] at hz;obtain ⟨z1,z2,z3⟩:=I.fs hz;refine ⟨xZZ _ ?_,by simpa [I.fmj] using z1⟩;simp only [I.fne,z2];exact z3
       ·obtain ⟨q1,q2,q3⟩:=I.fbs e he;exact ⟨xZZ _ q1,q2,fun hz=>⟨xZZ _ (q3 hz).1,(q3 hz).2⟩⟩,xZZ _ I.fv⟩
    cases hso:isSt o.op with
    |true=>
     obtain ⟨call0,res,_,hop,hk⟩:=hw.ev;rw [gU hso] at hop;cases ha:aop E.P E.tb E.xt (qH tm) o.op h with
     |none=>rw [ha] at hop;cases hop
     |some p=>
      obtain ⟨v,h1⟩:=p;rw [ha] at hop;simp only [gG,Option.some.injEq] at hop;subst hop;simp only [qA9,hst,cond_true] at hk;obtain ⟨⟨hn1,_⟩,hk⟩:=hk;have hk:=hput hk;obtain ⟨call,st',ne',mj',dl',tm',h',R',V',SV',c1,c2,r1,r2⟩:=next v h1 (wL hso) hk hn1;have hd:jN E.P E.tb E.xt call ops o m st=some (upd o m st v h1 .eff):=by
       unfold jN zU;rw [I.ftm,haw,wL hso];simp only [cond_true];rw [hch2];simp only [cond_true];rw [hov,gU hso,ha];rfl
      exact ⟨call,st',ne',mj',dl',tm',h',R',V',SV',c1,⟨fun fv args k r hr=>by have:=c2.1 fv args k r hr;omega,by have:=c2.2;omega⟩,by rw [jF,hd];exact r1,r2⟩
    |false=>
     have hcl:jO o.op=true:=by
      unfold zY at hst;rw [hso] at hst;simpa using hst
     have hcl2:=hcl;unfold jO at hcl2;split at hcl2
     ·rename_i q hq;split at hcl2
      ·rename_i f hf;unfold WOp at hw;simp only [hq,calK,hf] at hw;obtain ⟨res,h1,hcs,hk⟩:=hw;rw [<-hq] at hk;cases res with
       |pan v=>exact hk.elim
       |ret v=>
        simp only [resK,qA9,hst,cond_true] at hk;obtain ⟨⟨hn1,hlt⟩,hk⟩:=hk;have hlt:=hlt hcl;have hk:=hput hk;have hkd:jH o.op= .eff:=by simp [hq,jH,hf]
        obtain ⟨call,st',ne',mj',dl',tm',h',R',V',SV',c1,c2,r1,r2⟩:=next v h1 hkd hk hn1;have hsd:jY E.P E.xt (j9 (qH tm f) (q.args.toList.map (qH tm)) h (.ret v) h1 call):=by
         intro fv a k r k' he;unfold j9 at he;split at he
         ·rename_i hq;obtain ⟨rfl,rfl,rfl⟩:=hq;cases he;exact hcs
         ·exact c1 _ _ _ _ _ he
        have hev:jU E.P E.tb E.xt (j9 (qH tm f) (q.args.toList.map (qH tm)) h (.ret v) h1 call) o tm h=some (.ok v h1):=by
         simp [jU,hq,vI,hf,j9,u9]
        have hd:jN E.P E.tb E.xt (j9 (qH tm f) (q.args.toList.map (qH tm)) h (.ret v) h1 call) ops o m st=some (upd o m st v h1 .eff):=by
         unfold jN zU;rw [I.ftm,haw,hkd];simp only [cond_true];rw [hch2];simp only [cond_true];rw [hov,hev]
        refine ⟨j9 (qH tm f) (q.args.toList.map (qH tm)) h (.ret v) h1 call,st',ne',mj',dl',tm',h',R',V',SV',hsd,⟨fun fv a k r he=> ?_,by have:=c2.2;omega⟩,?_,r2⟩
        ·unfold j9 at he;split at he
         ·rename_i hq;rw [hq.2.2];have:=c2.2;omega
         ·have:=c2.1 _ _ _ _ he;omega
        ·rw [jF,hd];simp only;refine vL c1 ol ms _ _ (fun fv a k r hk hr=> ?_) r1;unfold j9;rw [if_neg (fun hq=> ?_)]
         ·exact hr
         ·simp only [upd] at hk;rw [hq.2.2] at hk;omega
      ·cases hcl2
     ·cases hcl2
theorem yU {v:AV} {tm:T AV} {dst:Option Tmp} {N N':T AV->Prop} (hp:putK nt tm dst v N) (hn: ∀t,N t->N' t):putK nt tm dst v N':=by
 unfold putK at hp ⊢;split at hp
 ·exact hn _ hp
 ·exact ⟨hp.1,hn _ hp.2⟩
theorem qAo {ops':Array Oper}: ∀(ol:List Oper) (i ne:Nat) (tm:T AV) (h:Hp) (R:List RdE) (V:List (Nat×T AO)) (Q Q':T AV->Hp->List RdE->List (Nat×T AO)->Prop),(∀o∈ol,∀j w,o.guard=some (j,w)->ops'[j]? =ops[j]?)->(∀tm h R V,Q tm h R V->Q' tm h R V)->WOW E nt ops ol i ne tm h R V Q->WOW E nt ops' ol i ne tm h R V Q'
 |[],i,ne,tm,h,R,V,Q,Q',_,hq,hw=>hq _ _ _ _ hw
 |o::ol,i,ne,tm,h,R,V,Q,Q',hg,hq,hw=>by
  simp only [WOW] at hw ⊢;have hgo:=hg o xZS;have hrec:=fun ne tm h R V=>qAo ol (i+1) ne tm h R V Q Q' (fun o' ho'=>hg o' (xZZ _ ho')) hq;have e1:jV nt ops' o=jV nt ops o:=by
   unfold jV;split
   ·rfl
   ·rename_i j w hgg;rw [hgo j w hgg]
  have e2:qP ops' o tm=qP ops o tm:=by
   unfold qP;split
   ·rfl
   ·rename_i j w hgg;rw [hgo j w hgg]
  rw [e1,e2];refine ⟨hw.1,?_⟩;have hw:=hw.2;cases haw:qP ops o tm with
  |false=>
   rw [haw] at hw;simp only [cond_false] at hw ⊢;exact yU hw fun t ht=>hrec _ _ _ _ _ ht
  |true=>
   rw [haw] at hw;refine WOp.mono hw fun r hr=> ?_;cases r with
   |pan v h'=>exact hr
   |ok v h'=>
    simp only [qA9] at hr ⊢;cases hso:zY o.op with
    |true=>
     rw [hso] at hr;simp only [cond_true] at hr ⊢;exact ⟨hr.1,yU hr.2 fun t ht=>hrec _ _ _ _ _ ht⟩
    |false=>
     rw [hso] at hr;simp only [cond_false] at hr ⊢;exact ⟨hr.1,yU hr.2 fun t ht=>hrec _ _ _ _ _ ht⟩
def feL:Nat->Nat->List AO->List FE
 |_,_,[]=>[]
 |i,n,o::os=>feL (i+1) (n+1) os++[{f:=i,s:=n,cnt:=1,os:=T.put .e (some o) n}]
theorem w9 (q:Nat->Bool): ∀(A B:List FE) (b:T AO),ovl q (A++B) b=ovl q B (ovl q A b)
 |[],B,b=>rfl
 |e::A,B,b=>by
  simp only [xXZ,ovl];cases q e.f
  ·simp only [cond_false];exact w9 q A B b
  ·simp only [cond_true];exact w9 q A B _
theorem qCe (q:Nat->Bool) (b:T AO): ∀(os:List AO) (i n:Nat),(∀f,i<=f->f<i+os.length->q f=true)->ovl q (feL i n os) b=vG b n os
 |[],i,n,_=>rfl
 |o::os,i,n,h=>by
  simp only [feL,w9,vG];rw [qCe q b os (i+1) (n+1) (fun f h1 h2=>h f (by omega) (by simp only [xZA];omega))];simp only [ovl,h i (xZY _) (by simp),cond_true,mrg,T.get_put,if_true]
theorem qEG (q:Nat->Bool) (b:T AO): ∀(os:List AO) (i n:Nat),(∀f,i<=f->f<i+os.length->q f=false)->ovl q (feL i n os) b=b
 |[],i,n,_=>rfl
 |o::os,i,n,h=>by
  simp only [feL,w9];rw [qEG q b os (i+1) (n+1) (fun f h1 h2=>h f (by omega) (by simp only [xZA];omega))];simp only [ovl,h i (xZY _) (by simp),cond_false]
theorem qE8 {call:jK} {Q:T AV->List AO->Prop}: ∀(ol:List Oper) (ms:List Nat) (tm:T AV) (n:Nat) (os:List AO) (st:DS),WOA E ol tm n os Q->ol.all (isAl nt)=true->ol.length<=ms.length->st.tm=tm->st.n=n->
  ∃st' os' tm',yN E.P E.tb E.xt call ops ol ms st=some st'/\st'={st with i:=st.i+ol.length,tm:=tm',n:=n+ol.length,fs:=feL st.i n os'++st.fs}/\os'.length=ol.length/\Q tm' (os++os')
 |[],ms,tm,n,os,st,hw,_,_,htm,hn=>by
  refine ⟨st,[],tm,rfl,?_,rfl,by rw [List.append_nil];exact hw⟩;subst htm hn;simp [feL]
 |o::ol,[],tm,n,os,st,_,_,hl,_,_=>by simp at hl
 |o::ol,m::ms,tm,n,os,st,hw,ha,hl,htm,hn=>by
  simp only [List.all_cons,xZX] at ha;obtain ⟨ha1,ha2⟩:=ha;obtain ⟨dst,op,ty,ps,af,g⟩:=o;simp only [isAl] at ha1;split at ha1
  ·rename_i e d;simp only [WOA] at hw;obtain ⟨te,hte,hw⟩:=hw;subst htm hn;have hb:Nat.beq (st.n+1) st.n=false:=by
    cases hq:Nat.beq (st.n+1) st.n with
    |false=>rfl
    |true=>have:=xZU hq;omega
   have hd:jN E.P E.tb E.xt call ops ⟨some d,.alloc e,ty,ps,af,none⟩ m st=some {st with i:=st.i+1,tm:=st.tm.put (some (.ptr st.n 0)) d,n:=st.n+1,fs:={f:=st.i,s:=st.n,cnt:=1,os:=T.put .e (some (.cells (te.zero.map .val) e)) st.n}::st.fs}:=by
    have hev:jU E.P E.tb E.xt call ⟨some d,.alloc e,ty,ps,af,none⟩ st.tm {t:= .e,n:=st.n}=some (.ok (.ptr st.n 0) (({t:= .e,n:=st.n}:Hp).new (.cells (te.zero.map .val) e))):=by
     simp [jU,gG,aop,jT,hte]
    unfold jN zU;have haw:qP ops ⟨some d,.alloc e,ty,ps,af,none⟩ st.tm=true:=rfl;rw [haw];simp only [cond_true,jH];rw [hev];simp [upd,Hp.new,hb,uH]
   obtain ⟨st',os',tm',r1,r2,r3,r4⟩:=qE8 ol ms _ (st.n+1) _ {st with i:=st.i+1,tm:=st.tm.put (some (.ptr st.n 0)) d,n:=st.n+1,fs:={f:=st.i,s:=st.n,cnt:=1,os:=T.put .e (some (.cells (te.zero.map .val) e)) st.n}::st.fs} hw ha2 (by simpa using hl) rfl rfl;refine ⟨st',.cells (te.zero.map .val) e::os',tm',by rw [jF,hd];exact r1,?_,by simp [r3],by simpa using r4⟩;rw [r2];simp only [feL,xZE,xYZ,xZA]
   congr 1<;>omega
  ·cases ha1
end
section
variable {E:Env} {nt:Nat} {ops:Array Oper} {r:Option Nat} {mks:List Nat}
def qBW (E:Env) (P:List (Nat×Nat)) (R:List RdE) (V:List (Nat×T AO)):Prop:= ∀r∈R,∀e∈V,(P.any fun p=>Nat.beq p.1 r.i && Nat.beq p.2 e.1)=true->aop E.P E.tb E.xt (qH r.tm) r.o.op {t:=e.2,n:=r.n}=some (r.v,{t:=e.2,n:=r.n})
end
section
variable {E:Env} {nt:Nat} {ops:Array Oper} {o:Oper} {ol:List Oper} {tm:T AV} {h h':Hp} {i ne:Nat} {R:List RdE} {V:List (Nat×T AO)} {Q:T AV->Hp->List RdE->List (Nat×T AO)->Prop} {dst:Option Tmp} {ty:TypeId} {ps:String} {af:Array Edge} {g:Option (Nat×Bool)}
def qB1 (st rd cl:Bool) (E:Env) (nt:Nat) (ops:Array Oper) (ol:List Oper) (i ne:Nat) (o:Oper) (tm:T AV) (h:Hp) (R:List RdE) (V:List (Nat×T AO)) (Q:T AV->Hp->List RdE->List (Nat×T AO)->Prop):OR->Prop:=qA9 st rd cl nt i ne o tm h R V (fun ne' tm' h' R' V'=>WOW E nt ops ol (i+1) ne' tm' h' R' V' Q)
def gateW (gd wt:Bool) (E:Env) (nt:Nat) (ops:Array Oper) (o:Oper) (ol:List Oper) (i ne:Nat) (tm:T AV) (h:Hp) (R:List RdE) (V:List (Nat×T AO)) (Q:T AV->Hp->List RdE->List (Nat×T AO)->Prop):Prop:=
 gd=true/\bif wt then WOp E o tm h (qB1 (zY o.op) (zT o.op) (jO o.op) E nt ops ol i ne o tm h R V Q) else putK nt tm o.dst default (fun tm'=>WOW E nt ops ol (i+1) ne tm' h R V Q)
theorem WOW_nil:WOW E nt ops [] i ne tm h R V Q=Q tm h R V:=rfl
theorem WOW_cons:WOW E nt ops (o::ol) i ne tm h R V Q=gateW (jV nt ops o) (qP ops o tm) E nt ops o ol i ne tm h R V Q:=rfl
theorem gateW_t:gateW true true E nt ops o ol i ne tm h R V Q=WOp E o tm h (qB1 (zY o.op) (zT o.op) (jO o.op) E nt ops ol i ne o tm h R V Q):=by simp [gateW]
theorem gateW_fs {d:Tmp} {op:Op}:gateW true false E nt ops ⟨some d,op,ty,ps,af,g⟩ ol i ne tm h R V Q=(d<nt/\WOW E nt ops ol (i+1) ne (tm.put (some default) d) h R V Q):=by simp [gateW,putK]
theorem WOWn_c {d:Tmp} {v:AV} {op:Op}:qB1 false false false E nt ops ol i ne ⟨some d,op,ty,ps,af,g⟩ tm h R V Q (.ok v h)=(d<nt/\WOW E nt ops ol (i+1) ne (tm.put (some v) d) h R V Q):=by simp [qB1,qA9,putK]
theorem WOWn_r {d:Tmp} {v:AV} {op:Op}:qB1 false true false E nt ops ol i ne ⟨some d,op,ty,ps,af,g⟩ tm h R V Q (.ok v h)=(d<nt/\WOW E nt ops ol (i+1) ne (tm.put (some v) d) h (⟨i,⟨some d,op,ty,ps,af,g⟩,tm,h.n,v⟩::R) V Q):=by simp [qB1,qA9,putK]
theorem WOWn_s {v:AV} {op:Op} {b:Nat} {o':AO}:qB1 true false false E nt ops ol i ne ⟨none,op,ty,ps,af,g⟩ tm h R V Q (.ok v (h.set b o'))=WOW E nt ops ol (i+1) (ne+1) tm (h.set b o') R ((ne+1,(h.set b o').t)::V) Q:=by
 have e:(h.set b o').n=h.n:=rfl;simp [qB1,qA9,putK,e]
theorem WOWn_k {d:Tmp} {v:AV} {op:Op} (hn:h.n<h'.n):qB1 true false true E nt ops ol i ne ⟨some d,op,ty,ps,af,g⟩ tm h R V Q (.ok v h')=(d<nt/\WOW E nt ops ol (i+1) (ne+1) (tm.put (some v) d) h' R ((ne+1,h'.t)::V) Q):=by
 simp only [qB1,qA9,putK,cond_true];exact propext ⟨fun hh=>hh.2,fun hh=>⟨⟨xZM hn,fun _=>hn⟩,hh⟩⟩
theorem qGz {t:TypeId} {x y:Operand}:zY (.store t x y)=true:=rfl
theorem qGu {t:TypeId} {x y:Operand}:zT (.store t x y)=false:=rfl
theorem isEf_load {t:TypeId} {x:Operand}:zY (.load t x)=false:=rfl
theorem isRd_load {t:TypeId} {x:Operand}:zT (.load t x)=true:=rfl
theorem isEf_move {x:Operand}:zY (.move x)=false:=rfl
theorem isRd_move {x:Operand}:zT (.move x)=false:=rfl
theorem qFB {x:Operand}:zY (.assign x)=false:=rfl
theorem qFz {x:Operand}:zT (.assign x)=false:=rfl
theorem isEf_pick {x y z:Operand}:zY (.pick x y z)=false:=rfl
theorem isRd_pick {x y z:Operand}:zT (.pick x y z)=false:=rfl
theorem isEf_nc {x:Operand}:zY (.nilCheck x)=false:=rfl
theorem isRd_nc {x:Operand}:zT (.nilCheck x)=false:=rfl
theorem isEf_bin {b:BinOp} {t t':TypeId} {x y:Operand}:zY (.binOp b t x y t')=false:=rfl
theorem isRd_bin {b:BinOp} {t t':TypeId} {x y:Operand}:zT (.binOp b t x y t')=false:=rfl
theorem isEf_un {b:UnOp} {t:TypeId} {x:Operand}:zY (.unOp b t x)=false:=rfl
theorem isRd_un {b:UnOp} {t:TypeId} {x:Operand}:zT (.unOp b t x)=false:=rfl
theorem isEf_fa {t:TypeId} {x:Operand} {f:Nat}:zY (.fieldAddr t x f)=false:=rfl
theorem isRd_fa {t:TypeId} {x:Operand} {f:Nat}:zT (.fieldAddr t x f)=false:=rfl
theorem isEf_f {t:TypeId} {x:Operand} {f:Nat}:zY (.field t x f)=false:=rfl
theorem isRd_f {t:TypeId} {x:Operand} {f:Nat}:zT (.field t x f)=false:=rfl
theorem isEf_ia {t:TypeId} {x y:Operand}:zY (.indexAddr t x y)=false:=rfl
theorem isRd_ia {t:TypeId} {x y:Operand}:zT (.indexAddr t x y)=false:=rfl
theorem isEf_i {t:TypeId} {x y:Operand}:zY (.index t x y)=false:=rfl
theorem isRd_i {t:TypeId} {x y:Operand}:zT (.index t x y)=false:=rfl
theorem qGA {t:TypeId} {p:Array (Nat×Operand)}:zY (.build t p)=false:=rfl
theorem qGv {t:TypeId} {p:Array (Nat×Operand)}:zT (.build t p)=false:=rfl
theorem isEf_ex {x:Operand} {i:Nat}:zY (.extract x i)=false:=rfl
theorem isRd_ex {x:Operand} {i:Nat}:zT (.extract x i)=false:=rfl
theorem isEf_call {f:Operand} {a:Array Operand} {ts:Array TypeId}:zY (.call ⟨.value f,a,ts⟩)=true:=rfl
theorem qEw {f:Builtin} {a:Array Operand} {ts:Array TypeId}:zY (.call ⟨.builtin f,a,ts⟩)=(match f with| .append=>true|_=>false):=by cases f<;>rfl
theorem WOWn_a {d:Tmp} {v:AV} {op:Op} (hn:h.n<=h'.n):qB1 true false false E nt ops ol i ne ⟨some d,op,ty,ps,af,g⟩ tm h R V Q (.ok v h')=(d<nt/\WOW E nt ops ol (i+1) (ne+1) (tm.put (some v) d) h' R ((ne+1,h'.t)::V) Q):=by
 simp only [qB1,qA9,putK,cond_true];exact propext ⟨fun hh=>hh.2,fun hh=>⟨⟨hn,fun e=>by cases e⟩,hh⟩⟩
theorem isRd_call {f:Operand} {a:Array Operand} {ts:Array TypeId}:zT (.call ⟨.value f,a,ts⟩)=false:=rfl
theorem qEx {t:TypeId} {x y:Operand}:jO (.store t x y)=false:=rfl
theorem isRd_len {a:Array Operand} {ts:Array TypeId}:zT (.call ⟨.builtin .len,a,ts⟩)=true:=rfl
theorem isRd_min {a:Array Operand} {ts:Array TypeId}:zT (.call ⟨.builtin .min,a,ts⟩)=false:=rfl
theorem isRd_max {a:Array Operand} {ts:Array TypeId}:zT (.call ⟨.builtin .max,a,ts⟩)=false:=rfl
theorem WOA_nil {n:Nat} {os:List AO} {Q:T AV->List AO->Prop}:WOA E [] tm n os Q=Q tm os:=rfl
theorem qGh {n:Nat} {os:List AO} {Q:T AV->List AO->Prop} {e d:Nat} {te:TE} (ht:E.tb.get e=some te):WOA E (⟨some d,.alloc e,ty,ps,af,g⟩::ol) tm n os Q=WOA E ol (tm.put (some (.ptr n 0)) d) (n+1) (os++[.cells (te.zero.map .val) e]) Q:=by
 simp only [WOA];exact propext ⟨fun ⟨te',h1,h2⟩=>by rw [ht] at h1;cases h1;exact h2,fun hh=>⟨te,ht,hh⟩⟩
theorem qEo {K:OR->Prop} {b off:Nat}:qAB (bif uC (.ptr b off) then some (AV.ptr b off,h) else none) K=K (.ok (.ptr b off) h):=rfl
def inP (P:List (Nat×Nat)) (i j:Nat):Bool:=P.any fun p=>Nat.beq p.1 i && Nat.beq p.2 j
theorem inP_nil {i j:Nat}:inP [] i j=false:=rfl
theorem inP_cons {P:List (Nat×Nat)} {a b i j:Nat}:inP ((a,b)::P) i j=if a=i then (if b=j then true else inP P i j) else inP P i j:=by
 unfold inP;rw [List.any_cons];by_cases h1:a=i
 ·subst h1;by_cases h2:b=j
  ·subst h2;simp
  ·have:Nat.beq b j=false:=by cases hq:Nat.beq b j with
    |false=>rfl
    |true=>exact absurd (xZU hq) h2
   simp [this,h2]
 ·have:Nat.beq a i=false:=by cases hq:Nat.beq a i with
   |false=>rfl
   |true=>exact absurd (xZU hq) h1
  simp [this,h1]
def qDo (E:Env) (P:List (Nat×Nat)) (r:RdE) (V:List (Nat×T AO)):Prop:= ∀e∈V,inP P r.i e.1=true->aop E.P E.tb E.xt (qH r.tm) r.o.op {t:=e.2,n:=r.n}=some (r.v,{t:=e.2,n:=r.n})
def qAb (b:Bool) (E:Env) (r:RdE) (t:T AO):Prop:=b=true->aop E.P E.tb E.xt (qH r.tm) r.o.op {t:=t,n:=r.n}=some (r.v,{t:=t,n:=r.n})
theorem SameP_nil {P:List (Nat×Nat)}:qBW E P [] V=True:=by simp [qBW]
theorem qGT {P:List (Nat×Nat)} {r:RdE}:qBW E P (r::R) V=(qDo E P r V/\qBW E P R V):=by simp only [qBW,qDo,inP,xYI]
theorem Same1_nil {P:List (Nat×Nat)} {r:RdE}:qDo E P r []=True:=by simp [qDo]
theorem qGV {P:List (Nat×Nat)} {j:Nat} {t:T AO} {v:AV} {n:Nat}:qDo E P ⟨i,o,tm,n,v⟩ ((j,t)::V)=(qAb (inP P i j) E ⟨i,o,tm,n,v⟩ t/\qDo E P ⟨i,o,tm,n,v⟩ V):=by simp only [qDo,qAb,xYI]
theorem sameQ_f {r:RdE} {t:T AO}:qAb false E r t=True:=by simp [qAb]
theorem sameQ_ld {ty':TypeId} {x:Operand} {t:T AO} {v:AV} {n:Nat}:qAb true E ⟨i,⟨dst,.load ty' x,ty,ps,af,g⟩,tm,n,v⟩ t=(qO E.tb E.xt {t:=t,n:=n} ty' (qH tm x)=some v):=by
 simp only [qAb,aop,true_imp_iff];refine propext ⟨fun hh=> ?_,fun hh=>by rw [hh];rfl⟩;cases hq:qO E.tb E.xt {t:=t,n:=n} ty' (qH tm x) with
 |none=>rw [hq] at hh;cases hh
 |some u=>rw [hq] at hh;simp only [pr1,Option.some.injEq,Prod.mk.injEq,and_true] at hh;rw [hh]
theorem sameQ_len {a:Array Operand} {ts:Array TypeId} {t:T AO} {v:AV} {n:Nat}:qAb true E ⟨i,⟨dst,.call ⟨.builtin .len,a,ts⟩,ty,ps,af,g⟩,tm,n,v⟩ t=(qT E.P E.tb E.xt .len ts.toList (a.toList.map (qH tm)) {t:=t,n:=n}=some (v,{t:=t,n:=n})):=by
 simp only [qAb,aop,true_imp_iff,qBB]
theorem qDw {P:Program} {tb:T TE} {xt:Xt} {t:TypeId} {a:AV} {h:Hp}:qT P tb xt .len [t] [a] h=(zI tb h t a).map fun (n:Nat)=>(AV.val (.int .i64 (n:Int)),h):=by
 simp only [qT];cases zI tb h t a<;>rfl
theorem aload_t (tb:T TE) (xt:Xt) (h:Hp) (n:Nat) (t:TypeId) (a:AV):qO tb xt {t:=h.t,n:=n} t a=qO tb xt h t a:=rfl
theorem isCall_nc {x:Operand}:jO (.nilCheck x)=false:=rfl
theorem qGr {t:T AO} {n:Nat}:vG t n []=t:=rfl
end
end Go.Ev
end
noncomputable section
namespace Go.Ev
def RowAt (xt:Xt) (h:Hp) (sz:Nat) (v:AV) (cs:List (List Value)):Prop:=
 (∀c∈cs,c.length=sz)/\0<sz/\
 ((v= .val (.slice none 0 0)/\cs=[])\/
  (∃ad cap,v= .val (.slice (some ad) cs.length cap)/\ ∀i c,cs[i]? =some c-> ∀j u,c[j]? =some u->xt (ad.add (i*sz+j))=some u)\/
  (∃b off av e,v= .sl b off cs.length sz/\(b<h.n/\off+cs.length*sz<=av.length/\h.t.get b=some (.cells av e))/\ ∀i c,cs[i]? =some c-> ∀j u,c[j]? =some u->av[off+(i*sz+j)]? =some (.val u)))
def elp (v:AV) (k:Nat):AV:=
 match v with
 | .sl b off _ _=> .ptr b (off+k)
 | .val (.slice (some ad) _ _)=> .val (.pointer (some (ad.add k)))
 |_=>default
section
variable {xt:Xt} {h:Hp} {sz:Nat} {v:AV} {cs:List (List Value)} {tb:T TE} {t e:TypeId} {te ee:TE}
theorem RowAt.keep {h':Hp} (r:RowAt xt h sz v cs) (hn:h.n<=h'.n) (hk: ∀b,b<h.n->h'.t.get b=h.t.get b):RowAt xt h' sz v cs:=by
 obtain ⟨h1,h2,h3⟩:=r;refine ⟨h1,h2,?_⟩;rcases h3 with h3|h3|⟨b,off,av,e,hv,⟨hlt,hle,hb⟩,hc⟩
 ·exact .inl h3
 ·exact .inr (.inl h3)
 ·exact .inr (.inr ⟨b,off,av,e,hv,⟨xZN hlt hn,hle,by rw [hk b hlt];exact hb⟩,hc⟩)
theorem RowAt.up (r:RowAt xt h sz v cs) {n:Nat} (hn:h.n<=n):RowAt xt (h.up n) sz v cs:=r.keep hn fun _ _=>rfl
theorem RowAt.new (r:RowAt xt h sz v cs) (o:AO):RowAt xt (h.new o) sz v cs:=r.keep (Nat.le_succ _) fun b hb=>by
 show (h.t.put (some o) h.n).get b=_;rw [T.get_put,if_neg (by omega)]
theorem RowAt.set (r:RowAt xt h sz v cs) {k:Nat} (hk: ∀off n s,v≠ .sl k off n s) (o:AO):RowAt xt (h.set k o) sz v cs:=by
 obtain ⟨h1,h2,h3⟩:=r;refine ⟨h1,h2,?_⟩;rcases h3 with h3|h3|⟨b,off,av,e,hv,⟨hlt,hle,hb⟩,hc⟩
 ·exact .inl h3
 ·exact .inr (.inl h3)
 ·refine .inr (.inr ⟨b,off,av,e,hv,⟨hlt,hle,?_⟩,hc⟩);show (h.t.put (some o) k).get b=_;rw [T.get_put,if_neg (by rintro rfl;exact hk _ _ _ hv)];exact hb
theorem RowAt.fr (r:RowAt xt h sz v cs) {m:Nat} {h':Hp} (f:Fr m h h') (hm:h.n<=m):RowAt xt h' sz v cs:=r.keep f.le fun b hb=>f.at_ b (.inl (xZN hb hm))
theorem RowAt.one (r:RowAt xt h sz v cs):one v=true:=by
 obtain ⟨_,_,h3⟩:=r;rcases h3 with ⟨rfl,_⟩|⟨_,_,rfl,_⟩|⟨_,_,_,_,rfl,_⟩<;>rfl
theorem RowAt.cells (r:RowAt xt h sz v cs):cellsOf v=[v]:=by
 obtain ⟨_,_,h3⟩:=r;rcases h3 with ⟨rfl,_⟩|⟨_,_,rfl,_⟩|⟨_,_,_,_,rfl,_⟩<;>rfl
theorem RowAt.len (r:RowAt xt h sz v cs) (ht:tb.get t=some te) (hd:te.d= .slice e) {h':Hp}:zI tb h' t v=some cs.length:=by
 obtain ⟨_,_,h3⟩:=r;rcases h3 with ⟨rfl,rfl⟩|⟨ad,cap,rfl,_⟩|⟨b,off,av,e',rfl,_⟩<;>simp [zI,ht,hd]
theorem RowAt.idx (r:RowAt xt h sz v cs) (ht:tb.get t=some te) (hd:te.d= .slice e) (he:tb.get e=some ee) (hs:ee.size=sz) {i:Nat} (hi:i<cs.length) {k:IntKind}:qM tb t v (.val (.int k (i:Int)))=some (elp v (i*sz)):=by
 obtain ⟨_,_,h3⟩:=r;have e1:qAm (.val (.int k (i:Int)))=some (Int.ofNat i):=rfl;have e2:Nat.blt i cs.length=true:=by rw [xZI];exact hi
 rcases h3 with ⟨rfl,rfl⟩|⟨ad,cap,rfl,_⟩|⟨b,off,av,e',rfl,_⟩
 ·simp at hi
 ·simp [qM,ht,e1,hd,he,e2,hs,elp]
 ·simp [qM,ht,e1,hd,he,e2,hs,elp]
theorem RowAt.load (r:RowAt xt h sz v cs) (ht:tb.get t=some te) (ha:te.agg=false) {i j:Nat} {c:List Value} {u:Value} (hc:cs[i]? =some c) (hu:c[j]? =some u):qO tb xt h t (elp v (i*sz+j))=some (.val u):=by
 obtain ⟨_,_,h3⟩:=r;rcases h3 with ⟨rfl,rfl⟩|⟨ad,cap,rfl,hx⟩|⟨b,off,av,e',rfl,⟨_,_,hb⟩,hx⟩
 ·simp at hc
 ·simp [qO,ht,ha,elp,hx i c hc j u hu]
 ·simp [qO,ht,ha,elp,hb,hx i c hc j u hu]
theorem RowAt.load0 (r:RowAt xt h sz v cs) (ht:tb.get t=some te) (ha:te.agg=false) {i:Nat} {c:List Value} {u:Value} (hc:cs[i]? =some c) (hu:c[0]? =some u):qO tb xt h t (elp v (i*sz))=some (.val u):=r.load ht ha (j:=0) hc hu
theorem gK {ad:Addr}: ∀(n k:Nat) (c:List Value),c.length=n->(∀j u,c[j]? =some u->xt (ad.add (k+j))=some u)->xF xt ad n k=some c
 |0,k,c,hl,_=>by rw [xYU hl];rfl
 |n+1,k,[],hl,_=>by simp at hl
 |n+1,k,u::c,hl,hx=>by
  have h0:=hx 0 u rfl;simp only [Nat.add_zero] at h0;have:=gK n (k+1) c (by simpa using hl) (fun j u' hj=>by have:=hx (j+1) u' (by simpa using hj);rwa [show k+(j+1)=k+1+j by omega] at this);simp [xF,h0,this]
theorem RowAt.loadA (r:RowAt xt h sz v cs) (ht:tb.get t=some te) (ha:te.agg=true) (hs:te.size=sz) {i:Nat} {c:List Value} (hc:cs[i]? =some c):qO tb xt h t (elp v (i*sz))=some (.agg (c.map .val)):=by
 obtain ⟨h1,h2,h3⟩:=r;have hl:=h1 c (xYJ hc);rcases h3 with ⟨rfl,rfl⟩|⟨ad,cap,rfl,hx⟩|⟨b,off,av,e',rfl,⟨_,_,hb⟩,hx⟩
 ·simp at hc
 ·have:=gK (xt:=xt) (ad:=ad.add (i*sz)) te.size 0 c (by rw [hl,hs]) (fun j u hj=>by
   have:=hx i c hc j u hj;have e:(ad.add (i*sz)).add (0+j)=ad.add (i*sz+j):=by
    simp only [Addr.add,xZP];by_cases h1:i*sz=0<;>by_cases h2:j=0<;>simp [h1,h2,xYN]
   rw [e];exact this)
  simp [qO,ht,ha,elp,this]
 ·have hle:off+i*sz+sz<=av.length:=by
   have hlast:=hx i c hc (sz - 1) (c[sz - 1]'(by omega)) (xZC (by omega));have:=(xZK.1 hlast).1;omega
  have e1:(av.drop (off+i*sz)).take sz=c.map .val:=by
   apply xYC
   intro j;by_cases hj:j<sz
   ·rw [xZF,if_pos hj,xYF];have hjc:j<c.length:=by omega
    rw [show off+i*sz+j=off+(i*sz+j) by omega,hx i c hc j c[j] (xZC hjc)];simp [hjc]
   ·rw [xZF,if_neg hj];have:(c.map AV.val)[j]? =none:=xYL (by simp;omega);rw [this]
  have e2:Nat.ble (off+i*sz+sz) av.length=true:=by rw [xZG];exact hle
  simp [qO,ht,ha,elp,hb,e2,hs,e1]
end
end Go.Ev
end
noncomputable section
namespace Go.Ev
theorem qCm (a:Addr) (m n:Nat):(a.add m).add n=a.add (m+n):=by
 simp only [Addr.add];by_cases h1:m=0<;>by_cases h2:n=0<;>simp [h1,h2,xYN]
theorem RowAt.fa {xt:Xt} {h:Hp} {sz:Nat} {v:AV} {cs:List (List Value)} (r:RowAt xt h sz v cs) (hn:cs≠[]) {tb:T TE} {t:TypeId} {te:TE} {fs:List (Nat×Nat×TypeId)} {f o s:Nat} {ft:TypeId} (ht:tb.get t=some te) (hd:te.d= .struct fs) (hf:fs[f]? =some (o,s+1,ft)) (j:Nat):
  qL tb t (elp v j) f=some (elp v (j+o)):=by
 obtain ⟨_,_,h3⟩:=r;have e:Nat.beq (s+1) 0=false:=rfl;rcases h3 with ⟨_,h3⟩|⟨ad,cap,rfl,_⟩|⟨b,off,av,e',rfl,_,_⟩
 ·exact absurd h3 hn
 ·simp [qL,ht,hd,hf,e,elp,padd,qCm]
 ·simp [qL,ht,hd,hf,e,elp,padd,xYN]
end Go.Ev
end
noncomputable section
namespace Go.Ev
theorem Hp.new_t (h:Hp) (o:AO):(h.new o).t=h.t.put (some o) h.n:=rfl
theorem Hp.new_n (h:Hp) (o:AO):(h.new o).n=h.n+1:=rfl
theorem Hp.set_t (h:Hp) (k:Nat) (o:AO):(h.set k o).t=h.t.put (some o) k:=rfl
theorem Hp.set_n (h:Hp) (k:Nat) (o:AO):(h.set k o).n=h.n:=rfl
theorem Hp.del_t (h:Hp) (k:Nat):(h.del k).t=h.t.put none k:=rfl
theorem Hp.del_n (h:Hp) (k:Nat):(h.del k).n=h.n:=rfl
def jX:Option AO->Nat->Option AV
 |some (.cells cs _),off=>cs[off]?
 |_,_=>none
def zR (sz:Nat):Option AO->Nat->Option AV
 |some (.cells cs _),off=>if off+sz<=cs.length then some (.agg ((cs.drop off).take sz)) else none
 |_,_=>none
theorem qEO {cs:List AV} {e:TypeId} {off:Nat}:jX (some (.cells cs e)) off=cs[off]? :=rfl
theorem qAY {sz:Nat} {cs:List AV} {e:TypeId} {off:Nat}:zR sz (some (.cells cs e)) off=if off+sz<=cs.length then some (.agg ((cs.drop off).take sz)) else none:=rfl
def jG (sz:Nat) (h:Hp) (b off:Nat) (v:AV):Option AO->Option Hp
 |some (.cells cs e)=>if (cellsOf v).length=sz/\off+sz<=cs.length/\(cellsOf v).all one=true then some (h.set b (.cells (cs.take off++cellsOf v++cs.drop (off+sz)) e)) else none
 |_=>none
theorem kF {sz:Nat} {h:Hp} {b off:Nat} {v:AV} {cs:List AV} {e:TypeId}:jG sz h b off v (some (.cells cs e))=if (cellsOf v).length=sz/\off+sz<=cs.length/\(cellsOf v).all one=true then some (h.set b (.cells (cs.take off++cellsOf v++cs.drop (off+sz)) e)) else none:=rfl
section
variable {tb:T TE} {xt:Xt} {h:Hp} {t e:TypeId} {te ee:TE} {b off:Nat}
theorem xE (ht:tb.get t=some te) (ha:te.agg=false):qO tb xt h t (.ptr b off)=jX (h.t.get b) off:=by
 simp only [qO,ht,ha,jX,cond_false];cases h.t.get b with
 |none=>rfl
 |some o=>cases o<;>rfl
theorem xN {sz:Nat} (ht:tb.get t=some te) (ha:te.agg=true) (hs:te.size=sz):qO tb xt h t (.ptr b off)=zR sz (h.t.get b) off:=by
 simp only [qO,ht,ha,hs,cond_true];cases h.t.get b with
 |none=>rfl
 |some o=>
  cases o with
  |cells cs e=>
   simp only [zR];by_cases hc:off+sz<=cs.length
   ·have:Nat.ble (off+sz) cs.length=true:=by rw [xZG];exact hc
    rw [this,if_pos hc];rfl
   ·have:Nat.ble (off+sz) cs.length=false:=by
     cases hb:Nat.ble (off+sz) cs.length with
     |false=>rfl
     |true=>rw [xZG] at hb;exact absurd hb hc
    rw [this,if_neg hc];rfl
  |_=>rfl
theorem zS {sz:Nat} {v:AV} (ht:tb.get t=some te) (hs:te.size=sz):jS tb h t (.ptr b off) v=jG sz h b off v (h.t.get b):=by
 simp only [jS,ht,hs];cases h.t.get b with
 |none=>rfl
 |some o=>
  cases o with
  |cells cs e=>
   simp only [jG];have hq:(Nat.beq (cellsOf v).length sz && (Nat.ble (off+sz) cs.length && (cellsOf v).all one))=decide ((cellsOf v).length=sz/\off+sz<=cs.length/\(cellsOf v).all one=true):=by
    rw [Bool.eq_iff_iff];simp [xZG]
   rw [hq];by_cases hc:(cellsOf v).length=sz/\off+sz<=cs.length/\(cellsOf v).all one=true
   ·rw [if_pos hc,decide_eq_true hc];rfl
   ·rw [if_neg hc,decide_eq_false hc];rfl
  |_=>rfl
theorem zG {fs:List (Nat×Nat×TypeId)} {f o sz:Nat} {ft:TypeId} (ht:tb.get t=some te) (hd:te.d= .struct fs) (hf:fs[f]? =some (o,sz+1,ft)):qL tb t (.ptr b off) f=some (.ptr b (off+o)):=by
 simp only [qL,ht,hd,hf];rfl
theorem yP {zs:List Value} (ht:tb.get t=some te) (hz:te.zero=zs):jT tb h t=some (.ptr h.n 0,h.new (.cells (zs.map .val) t)):=by
 simp only [jT,ht,hz]
end
theorem yC (cs:List AV):cellsOf (.agg cs)=cs:=rfl
theorem qFV (k:IntKind) (n:Int):cellsOf (.val (.int k n))=[.val (.int k n)]:=rfl
theorem qEN (b:Bool):cellsOf (.val (.bool b))=[.val (.bool b)]:=rfl
theorem qEM (cs:Array Value):cellsOf (.val (.agg cs))=cs.toList.map .val:=rfl
theorem qFU (b o:Nat):cellsOf (.ptr b o)=[.ptr b o]:=rfl
theorem qGJ (b o n e:Nat):cellsOf (.sl b o n e)=[.sl b o n e]:=rfl
theorem qFT (a:Option Addr) (n c:Nat):cellsOf (.val (.slice a n c))=[.val (.slice a n c)]:=rfl
theorem qGK (f:Fn) (a b:List AV):cellsOf (.fn f a b)=[.fn f a b]:=rfl
theorem qFS (l:Nat):cellsOf (.yld l)=[.yld l]:=rfl
theorem qAC (k:IntKind) (n:Int):one (.val (.int k n))=true:=rfl
theorem one_bool (b:Bool):one (.val (.bool b))=true:=rfl
theorem one_slv (a:Option Addr) (n c:Nat):one (.val (.slice a n c))=true:=rfl
theorem one_sl (b o n e:Nat):one (.sl b o n e)=true:=rfl
theorem one_ptr (b o:Nat):one (.ptr b o)=true:=rfl
theorem one_fn (f:Fn) (a b:List AV):one (.fn f a b)=true:=rfl
theorem one_yld (l:Nat):one (.yld l)=true:=rfl
theorem qE0 {P:Program} {tb:T TE} {xt:Xt} {ts:List TypeId} {h:Hp} (a b:Int):qT P tb xt .min ts [.val (.int .i64 a),.val (.int .i64 b)] h=some (.val (.int .i64 (min a b)),h):=by
 have:uZ P (Builtin.min_ #[] 0) [.val (.int .i64 a),.val (.int .i64 b)]=some (.val (.int .i64 (min a b))):=by
  have e:(Builtin.min_ #[] 0 #[.int .i64 a,.int .i64 b])=pure (.int .i64 (min a b)):=by
   simp [Builtin.min_,Builtin.min2]
   congr 2;omega
  simp only [uZ,toVals,toVal,e];rfl
 simp only [qT,this]
theorem qE1 {P:Program} {tb:T TE} {xt:Xt} {ts:List TypeId} {h:Hp} (a b:Int):qT P tb xt .max ts [.val (.int .i64 a),.val (.int .i64 b)] h=some (.val (.int .i64 (max a b)),h):=by
 have:uZ P (Builtin.max_ #[] 0) [.val (.int .i64 a),.val (.int .i64 b)]=some (.val (.int .i64 (max a b))):=by
  have e:(Builtin.max_ #[] 0 #[.int .i64 a,.int .i64 b])=pure (.int .i64 (max a b)):=by
   simp [Builtin.max_,Builtin.max2]
   congr 2;omega
  simp only [uZ,toVals,toVal,e];rfl
 simp only [qT,this]
end Go.Ev
end
noncomputable section
namespace Go.Ev
theorem Hp.up_up (h:Hp) (n m:Nat):(h.up n).up m=h.up m:=rfl
def yI {α:Type} (p:α->Bool):List α->Nat->Int
 |[],_=> -1
 |c::cs,k=>if p c then (k:Int) else yI p cs (k+1)
theorem wM {α:Type} (p:α->Bool) {cs:List α} {k:Nat} {c:α} (hc:cs[k]? =some c):yI p (cs.drop k) k=if p c then (k:Int) else yI p (cs.drop (k+1)) (k+1):=by
 obtain ⟨hk,rfl⟩:=xZK.1 hc;rw [xZD hk];rfl
theorem wN {α:Type} (p:α->Bool): ∀(cs:List α) (k:Nat),decide (0<=yI p cs k)=cs.any p
 |[],k=>rfl
 |c::cs,k=>by
  simp only [yI,List.any_cons];by_cases hp:p c=true
  ·simp [hp]
  ·have h2:=wN p cs (k+1);simp only [Bool.not_eq_true] at hp;simp only [hp,xYE,if_false,Bool.false_or];exact h2
theorem qF (x:Int) (h1: -9223372036854775808<=x) (h2:x<=9223372036854775807):IntKind.i64.wrap x=x:=by
 simp only [IntKind.wrap,IntKind.bits,IntKind.signed];simp;omega
end Go.Ev
end
noncomputable section
namespace Go.Ev
theorem end_c {E:Env} {fn:Func} {K:KP} {tm:T AV} {nt:Nat} {h:Hp} {t:Tmp} {ty:TypeId} {v:AV} (h1:fn.results.toList=[.cell t ty]) (h2:qO E.tb E.xt h ty ((tm.get t).getD default)=some v) (h3:K (.ret v) h):xX E fn K .ret ⟨tm,nt,h,[]⟩:=by
 refine ⟨h,[v],rfl,?_,h3⟩;have e1:(match tm.get t with|some a=>a|none=>default)=(tm.get t).getD default:=by cases tm.get t<;>rfl
 rw [h1];show (match qO E.tb E.xt h ty (match tm.get t with|some a=>a|none=>default) with|none=>none|some v=>match vO E tm h [] with|none=>none|some l=>some (v::l))=_;rw [e1,h2];rfl
theorem end_c1 {E:Env} {fn:Func} {K:KP} {tm:T AV} {nt:Nat} {h:Hp} {t u:Tmp} {ty:TypeId} {v:AV} (h1:fn.results.toList=[.cell t ty,.tmp u]) (h2:qO E.tb E.xt h ty ((tm.get t).getD default)=some v) (h3:K (.ret (.tup [v,(tm.get u).getD default])) h):xX E fn K .ret ⟨tm,nt,h,[]⟩:=by
 refine ⟨h,[v,(tm.get u).getD default],rfl,?_,h3⟩;have e1:(match tm.get t with|some a=>a|none=>default)=(tm.get t).getD default:=by cases tm.get t<;>rfl
 have e2:(match tm.get u with|some a=>a|none=>default)=(tm.get u).getD default:=by cases tm.get u<;>rfl
 rw [h1];show (match qO E.tb E.xt h ty (match tm.get t with|some a=>a|none=>default) with|none=>none|some v=>match some [match tm.get u with|some a=>a|none=>default] with|none=>none|some l=>some (v::l))=_;rw [e1,h2,e2]
theorem RowAt.src {xt:Xt} {h:Hp} {v:AV} {xs:List Int} (r:RowAt xt h 1 v (xs.map fun x=>[.int .i64 x])):gS xt h 1 v=some (xs.length,xs.map fun x=> .val (.int .i64 x)):=by
 obtain ⟨h1,h2,h3⟩:=r;rcases h3 with ⟨rfl,hn⟩|⟨ad,cap,rfl,hx⟩|⟨b,off,av,e',rfl,⟨_,hle,hb⟩,hx⟩
 ·have:xs=[]:=by simpa using hn
  subst this;rfl
 ·have hex:=gK (xt:=xt) (ad:=ad) xs.length 0 (xs.map fun x=> .int .i64 x) (by simp) (fun j u hj=>by
   simp only [xYD,Option.map_eq_some_iff] at hj;obtain ⟨x,hj,rfl⟩:=hj;have:=hx j [.int .i64 x] (by simp [hj]) 0 _ rfl;simpa using this)
  simp only [gS,xYT,xYG,hex];have:((xs.map fun x=>Value.int .i64 x).all Value.oneCell')=true:=by simp [Value.oneCell']
  rw [this];simp
 ·have hall: ∀j x,xs[j]? =some x->av[off+j]? =some (.val (.int .i64 x)):=fun j x hj=>by
   have:=hx j [.int .i64 x] (by simp [hj]) 0 _ rfl;simpa using this
  simp only [xYT,xYG] at hle;have e1:(av.drop off).take xs.length=xs.map fun x=> .val (.int .i64 x):=by
   apply xYC
   intro j;by_cases hj:j<xs.length
   ·rw [xZF,if_pos hj,xYF,hall j xs[j] (xZC hj)];simp [hj]
   ·rw [xZF,if_neg hj];have:(xs.map fun x=>AV.val (.int .i64 x))[j]? =none:=xYL (by simp;omega);rw [this]
  have e2:Nat.ble (off+xs.length) av.length=true:=by rw [xZG];exact hle
  have e3:((xs.map fun x=>AV.val (.int .i64 x)).all Go.Ev.one)=true:=by simp [qAC]
  simp only [gS,hb,xYT,xYG,e1,e2,e3];rfl
end Go.Ev
end
noncomputable section
namespace Go.Ev
section
variable {E:Env}
theorem wpc_range (ok:SyOk E) {f:Operand} {ps:Array Tmp} {assign body:Code} {tm:T AV} {nt:Nat} {h:Hp} {mks:List Nat} {Q:Ex->St->Prop} {g:FuncId} {xs:List AV}
  (hcal:callee (qH tm f) [.yld (h.n+1)]=some (g,xs))
  (hw: ∀rc:ALoop,rc.state= .ready->rc.pending=none->rc.tmps=tm->rc.nt=nt->rc.params=ps->rc.assign=assign->rc.body=body->FnA E g xs ((h.new .deferred).new (.loop rc)) (rangeK E none ⟨tm,nt,h,mks⟩ (h.n+1) (h.n::mks) Q)):
  wpc E none (.rangeFunc f ps assign body) ⟨tm,nt,h,mks⟩ Q:=
 W.range (r:=none) (st:=⟨tm,nt,h,mks⟩) ok.ft rfl hcal (hw _ rfl rfl rfl rfl rfl rfl rfl)
theorem end_cd {fn:Func} {K:KP} {tm:T AV} {nt:Nat} {h:Hp} {t:Tmp} {ty:TypeId} {v:AV} {d:Nat} (h1:fn.results.toList=[.cell t ty]) (hd:h.t.get d=some .deferred) (h2:qO E.tb E.xt (h.del d) ty ((tm.get t).getD default)=some v) (h3:K (.ret v) (h.del d)):xX E fn K .ret ⟨tm,nt,h,[d]⟩:=by
 refine ⟨h.del d,[v],?_,?_,h3⟩
 ·show (match h.t.get d with|some .deferred=>vK [] (h.del d)|_=>none)=_;rw [hd];rfl
 have e1:(match tm.get t with|some a=>a|none=>default)=(tm.get t).getD default:=by cases tm.get t<;>rfl
 rw [h1];show (match qO E.tb E.xt (h.del d) ty (match tm.get t with|some a=>a|none=>default) with|none=>none|some v=>match vO E tm (h.del d) [] with|none=>none|some l=>some (v::l))=_;rw [e1,h2];rfl
end
def OwnSl (h:Hp) (N sz:Nat) (e:TypeId) (v:AV) (n:Nat) (cs:List AV):Prop:=
 (n=0/\cs=[]/\v= .val (.slice none 0 0))\/(∃b,v= .sl b 0 n sz/\N<=b/\b<h.n/\h.t.get b=some (.cells cs e)/\cs.length=n*sz)
section
variable {P:Program} {tb:T TE} {xt:Xt} {h:Hp} {N sz n m by_:Nat} {t tx e ex:TypeId} {te xe ee:TE} {v x:AV} {cs cz:List AV}
theorem OwnSl.nil:OwnSl h N sz e (.val (.slice none 0 0)) 0 []:= .inl ⟨rfl,rfl,rfl⟩
theorem OwnSl.keep {h':Hp} (o:OwnSl h N sz e v n cs) (hn:h.n<=h'.n) (hk: ∀k,N<=k->k<h.n->h'.t.get k=h.t.get k):OwnSl h' N sz e v n cs:=by
 rcases o with o|⟨b,h1,h2,h3,h4,h5⟩
 ·exact .inl o
 ·exact .inr ⟨b,h1,h2,xZN h3 hn,by rw [hk b h2 h3];exact h4,h5⟩
theorem OwnSl.fr {h':Hp} {M:Nat} (o:OwnSl h N sz e v n cs) (f:Fr M h h') (hM:h.n<=M):OwnSl h' N sz e v n cs:=o.keep f.le fun k _ hk=>f.at_ k (.inl (xZN hk hM))
theorem OwnSl.new (o:OwnSl h N sz e v n cs) (ob:AO):OwnSl (h.new ob) N sz e v n cs:=o.fr (Fr.new (Fr.refl (xZY _)) ob) (xZY _)
theorem OwnSl.up (o:OwnSl h N sz e v n cs) {k:Nat} (hk:h.n<=k):OwnSl (h.up k) N sz e v n cs:=o.keep hk fun _ _ _=>rfl
theorem OwnSl.one (o:OwnSl h N sz e v n cs):Go.Ev.one v=true:=by
 rcases o with ⟨_,_,rfl⟩|⟨_,rfl,_⟩<;>rfl
theorem OwnSl.cells (o:OwnSl h N sz e v n cs):cellsOf v=[v]:=by
 rcases o with ⟨_,_,rfl⟩|⟨_,rfl,_⟩<;>rfl
theorem OwnSl.len (o:OwnSl h N sz e v n cs) (ht:tb.get t=some te) (hd:te.d= .slice e) {h':Hp}:zI tb h' t v=some n:=by
 rcases o with ⟨rfl,_,rfl⟩|⟨b,rfl,_⟩<;>simp [zI,ht,hd]
theorem OwnSl.idx (o:OwnSl h N sz e v n cs) (ht:tb.get t=some te) (hd:te.d= .slice e) (he:tb.get e=some ee) (hs:ee.size=sz) {i:Nat} (hi:i<n) {k:IntKind}: ∃b,qM tb t v (.val (.int k (i:Int)))=some (.ptr b (i*sz))/\N<=b/\b<h.n/\h.t.get b=some (.cells cs e)/\cs.length=n*sz:=by
 rcases o with ⟨rfl,_,rfl⟩|⟨b,rfl,h2,h3,h4,h5⟩
 ·omega
 ·refine ⟨b,?_,h2,h3,h4,h5⟩;have e1:qAm (.val (.int k (i:Int)))=some (Int.ofNat i):=rfl;have e2:Nat.blt i n=true:=by rw [xZI];exact hi
  simp [qM,ht,e1,hd,he,e2,hs]
theorem OwnSl.append (o:OwnSl h N sz e v n cs) (hN:N<=h.n) (ht:tb.get t=some te) (hd:te.d= .slice e) (he:tb.get e=some ee) (hs:ee.size=sz) (hby:ee.bytes=by_) (htx:tb.get tx=some xe) (hdx:xe.d= .slice ex)
  (hsrc:gS xt h sz x=some (m,cz)) (hm:0<m) (hcz:cz.length=m*sz) (hl:(n+m)*by_<=140737488355328) (hl2:n+m<=9223372036854775807):
  ∃v' h',qT P tb xt .append [t,tx] [v,x] h=some (v',h')/\OwnSl h' N sz e v' (n+m) (cs++cz)/\Fr N h h'/\h'.n=h.n+1:=by
 have b3:Nat.ble ((n+m)*by_) 140737488355328=true:=by rw [xZG];exact hl
 have b4:Nat.ble (n+m) 9223372036854775807=true:=by rw [xZG];exact hl2
 rcases o with ⟨rfl,rfl,rfl⟩|⟨b,rfl,h2,h3,h4,h5⟩
 ·have b0:Nat.beq m 0=false:=by
   cases hb:Nat.beq m 0 with
   |false=>rfl
   |true=>have:=xZU hb;omega
  rw [xZP] at b3 b4;refine ⟨.sl h.n 0 m sz,h.new (.cells cz e),?_,.inr ⟨h.n,by rw [xZP],hN,by simp [Hp.new_n],by simp [Hp.new_t,T.get_put],by simpa using hcz⟩,Fr.new (Fr.refl hN) _,rfl⟩;have:zM tb xt h t tx (.val (.slice none 0 0)) x=some (.sl h.n 0 m sz,h.new (.cells cz e)):=by
   unfold zM;simp only [ht,hd,he,htx,hdx,hs,hsrc,b0,hby,b3,b4];simp
  simp only [qT,this]
 ·have b5:Nat.ble (n*sz) cs.length=true:=by rw [xZG,h5];exact xZY _
  have e1:cs.take (n*sz)=cs:=xYM (by rw [h5];exact xZY _);refine ⟨.sl h.n 0 (n+m) sz,(h.del b).new (.cells (cs++cz) e),?_,.inr ⟨h.n,rfl,hN,by simp [Hp.new_n,Hp.del_n],by simp [Hp.new_t,Hp.del_n,T.get_put],by simp [h5,hcz,xYR]⟩,Fr.new ((Fr.refl hN).del h2 h3) _,rfl⟩;have:zM tb xt h t tx (.sl b 0 n sz) x=some (.sl h.n 0 (n+m) sz,(h.del b).new (.cells (cs++cz) e)):=by
   unfold zM;simp only [ht,hd,he,htx,hdx,hs,hsrc,h4,hby,b3,b4,b5,e1];simp
  simp only [qT,this]
theorem vU {b:Nat} (hb:h.t.get b=some (.cells cz e)) (hl:cz.length=m*sz) (ho:cz.all Go.Ev.one=true):gS xt h sz (.sl b 0 m sz)=some (m,cz):=by
 have b1:Nat.ble (0+m*sz) cz.length=true:=by rw [xZG];omega
 have e1:(cz.drop 0).take (m*sz)=cz:=by rw [List.drop_zero];exact xYM (by rw [hl];exact xZY _)
 have b2:Nat.beq sz sz=true:=by simp
 simp only [gS,hb,b1,b2,e1,ho];rfl
theorem bs_of {parts:List (Nat×AV)} {zs:List Value} {len:Nat} (ht:tb.get t=some te) (hd:te.d= .slice e) (he:tb.get e=some ee) (hs:ee.size=sz) (hz:ee.zero=zs) (h0:0<sz) (hl:len*sz<=16777216) (hf:uX (fun i=>some (i*sz,sz)) parts (j8 (zs.map .val) len)=some cs):
  j0 tb h t len parts=some (.sl h.n 0 len sz,h.new (.cells cs e)):=by
 have b1:Nat.blt 0 sz=true:=by rw [xZI];exact h0
 have b2:Nat.ble (len*sz) 16777216=true:=by rw [xZG];exact hl
 simp only [j0,ht,hd,he,hs,hz,b1,b2,hf];rfl
theorem qAK {α:Type} {sz:Nat}: ∀(l:List (List α)) (i j:Nat) (c:List α) (u:α),(∀c∈l,c.length=sz)->l[i]? =some c->c[j]? =some u->l.flatten[i*sz+j]? =some u
 |[],i,j,c,u,_,hc,_=>by simp at hc
 |d::l,0,j,c,u,hl,hc,hu=>by
  simp only [xZB,Option.some.injEq] at hc;subst hc;simp only [Nat.zero_mul,xZP,xYV];rw [xZJ (xZK.1 hu).1];exact hu
 |d::l,i+1,j,c,u,hl,hc,hu=>by
  simp only [List.getElem?_cons_succ] at hc;have hd:=hl d xZS;rw [xYV,List.getElem?_append_right (by rw [hd,xYR];omega),hd,show (i+1)*sz+j - sz=i*sz+j by rw [xYR];omega];exact qAK l i j c u (fun c hc=>hl c (xZZ _ hc)) hc hu
theorem qCV {α:Type} {sz:Nat}: ∀(l:List (List α)),(∀c∈l,c.length=sz)->l.flatten.length=l.length*sz
 |[],_=>by simp
 |d::l,hl=>by
  rw [xYV,List.length_append,qCV l (fun c hc=>hl c (xZZ _ hc)),hl d xZS,xZA,xYR];omega
theorem OwnSl.row {cl:List (List Value)} (hsz: ∀c∈cl,c.length=sz) (h0:0<sz) (o:OwnSl h N sz e v cl.length (cl.flatten.map .val)):RowAt xt h sz v cl:=by
 refine ⟨hsz,h0,?_⟩;rcases o with ⟨h1,_,rfl⟩|⟨b,rfl,h2,h3,h4,h5⟩
 ·exact .inl ⟨rfl,xYU h1⟩
 ·refine .inr (.inr ⟨b,0,_,e,rfl,⟨h3,by rw [h5];omega,h4⟩,fun i c hc j u hu=> ?_⟩);rw [xZP,xYD,qAK cl i j c u hsz hc hu];rfl
end
def pU (AL:List Nat) (N:Nat):List Oper->List Nat->Nat->Nat->Nat->Nat->List SRd->List SVe->Option (List (List SRd×List SVe))
 |[],_,_,ne,mj,_,SR,SV=>some [(SR,(ne,mj,N)::SV)]
 |_::_,[],_,_,_,_,_,_=>none
 |o::ol,m::ms,i,ne,mj,dl,SR,SV=>
  bif calm o.op then
   (match jH o.op with
   | .read=>bif AL.all (bt m) then pU AL N ol ms (i+1) ne mj dl ((i,m,ne)::SR) SV else none
   |_=>pU AL N ol ms (i+1) ne mj dl SR SV)
  else bif zY o.op && (Nat.beq ne 0 || bt m dl) && AL.all (bt m) then
   (match o.guard with
   |none=>pU AL N ol ms (i+1) (ne+1) m i SR ((ne,mj,i)::SV)
   |some _=>match pU AL N ol ms (i+1) ne mj dl SR SV with
    |none=>none
    |some a=>match pU AL N ol ms (i+1) (ne+1) m i SR ((ne,mj,i)::SV) with
     |none=>none
     |some b=>some (a++b))
   else none
section
variable {E:Env} {nt:Nat} {ops:Array Oper}
theorem wB {AL:List Nat} {h0 HA:T AO} {FS:List FE} {N:Nat} (hall: ∀q:Nat->Bool,(∀f∈AL,q f=true)->ovl q FS h0=HA) (hno: ∀(q:Nat->Bool) (b:T AO),(∀f∈AL,q f=false)->ovl q FS b=b) {Q:T AV->Hp->List RdE->List (Nat×T AO)->Prop}:
  ∀(ol:List Oper) (ms:List Nat) (i ne mj dl:Nat) (tm:T AV) (h:Hp) (R:List RdE) (V:List (Nat×T AO)) (SR:List SRd) (SV:List SVe) (st:DS) (L:List (List SRd×List SVe)),WOW E nt ops ol i ne tm h R V Q->pU AL N ol ms i ne mj dl SR SV=some L->WInv E AL h0 HA FS i ne mj dl tm h R V SR SV st->
  ∃p∈L,∃call st' ne' mj' dl' tm' h' R' V' SV',jY E.P E.xt call/\((∀fv args k r,call fv args k=some r->h.n<=k.n/\k.n<h'.n)/\h.n<=h'.n)/\yN E.P E.tb E.xt call ops ol ms st=some st'/\WInv E AL h0 HA FS (i+ol.length) ne' mj' dl' tm' h' R' V' p.1 SV' st'/\p.2=(ne',mj',N)::SV'/\Q tm' h' R' V'
 |[],ms,i,ne,mj,dl,tm,h,R,V,SR,SV,st,L,hw,hc,I=>by
  simp only [pU,Option.some.injEq] at hc;subst hc;exact ⟨(SR,(ne,mj,N)::SV),xZS,qAE,st,ne,mj,dl,tm,h,R,V,SV,xC _ _,⟨fun _ _ _ _ hx=>(by cases hx),xZY _⟩,rfl,I,rfl,hw⟩
 |o::ol,[],i,ne,mj,dl,tm,h,R,V,SR,SV,st,L,hw,hc,I=>by simp [pU] at hc
 |o::ol,m::ms,i,ne,mj,dl,tm,h,R,V,SR,SV,st,L,hw,hc,I=>by
  simp only [WOW] at hw;obtain ⟨_,hw⟩:=hw;have hput: ∀{v:AV} {N:T AV->Prop},putK nt tm o.dst v N->N (uH tm o.dst v):=fun {v N} hp=>by
   unfold putK at hp;unfold uH;split at hp
   ·rename_i hd;rw [hd];exact hp
   ·rename_i d hd;rw [hd];exact hp.2
  have hlen:i+(o::ol).length=(i+1)+ol.length:=by simp;omega
  rw [hlen];simp only [pU] at hc;cases haw:qP ops o tm with
  |false=>
   rw [haw] at hw;simp only [cond_false] at hw;have hw:=hput hw;have hd: ∀call,jN E.P E.tb E.xt call ops o m st=some (upd o m st default {t:= .e,n:=st.n} .new):=fun call=>by
    unfold jN zU;rw [I.ftm,haw];rfl
   obtain ⟨SR2,L2,hc2,hsub,hLs⟩: ∃SR2 L2,pU AL N ol ms (i+1) ne mj dl SR2 SV=some L2/\(∀x∈SR,x∈SR2)/\ ∀x∈L2,x∈L:=by
    cases hcal:calm o.op with
    |true=>
     rw [hcal] at hc;simp only [cond_true] at hc;split at hc
     ·obtain ⟨_,hc⟩:=qZ hc;exact ⟨_,_,hc,fun x hx=>xZZ _ hx,fun x hx=>hx⟩
     ·exact ⟨_,_,hc,fun x hx=>hx,fun x hx=>hx⟩
    |false=>
     rw [hcal] at hc;simp only [cond_false] at hc;obtain ⟨_,hc⟩:=qZ hc;split at hc
     ·rename_i hg;unfold qP at haw;rw [hg] at haw;cases haw
     ·split at hc
      ·cases hc
      ·rename_i a ha;split at hc
       ·cases hc
       ·rename_i b hb;simp only [Option.some.injEq] at hc;subst hc;exact ⟨_,_,ha,fun x hx=>hx,fun x hx=>List.mem_append_left _ hx⟩
   obtain ⟨p,hpL,call,st',ne',mj',dl',tm',h',R',V',SV',c1,c2,r1,r2⟩:=wB hall hno ol ms (i+1) ne mj dl _ h R V SR2 SV (upd o m st default {t:= .e,n:=st.n} .new) _ hw hc2
    ⟨by simp [upd,I.fi],by simp [upd,I.ftm],by simp [upd,I.fn],by simp [upd,I.fne],by simp [upd,I.fmj],by simpa [upd] using I.fdl,by simp [upd,I.ffs],fun hz=>by simpa [upd] using I.fz hz,fun hz=>by simpa [upd] using I.fs hz,fun r hr=>by have:=I.frs r (by simpa [upd] using hr);exact ⟨hsub _ this.1,this.2⟩,fun e he=>I.fbs e (by simpa [upd] using he),I.fv⟩
   exact ⟨p,hLs p hpL,call,st',ne',mj',dl',tm',h',R',V',SV',c1,c2,by rw [jF,hd];exact r1,r2⟩
  |true=>
   rw [haw] at hw;simp only [cond_true] at hw;cases hcal:calm o.op with
   |true=>
    rw [hcal] at hc;simp only [cond_true] at hc;obtain ⟨call0,res,_,hop,hk⟩:=hw.ev;rw [zE rfl hcal] at hop;cases ha:aop E.P E.tb E.xt (qH tm) o.op h with
    |none=>rw [ha] at hop;cases hop
    |some p=>
     obtain ⟨v,h1⟩:=p;rw [ha] at hop;simp only [gG,Option.some.injEq] at hop;subst hop;simp only [qA9,qAk hcal,cond_false] at hk;obtain ⟨rfl,hk⟩:=hk;have hk:=hput hk;rcases bN hcal with hkd|hkd
     ·obtain ⟨_,e2⟩:=qAZ hcal hkd ha;rw [hkd] at hc;simp only at hc;have hrd:zT o.op=false:=by unfold zT;rw [hkd]
      rw [hrd] at hk;simp only [cond_false] at hk;have hd: ∀call,jN E.P E.tb E.xt call ops o m st=some (upd o m st v {t:= .e,n:=st.n} .new):=fun call=>by
       unfold jN zU;rw [I.ftm,haw,hkd];simp only [cond_true];rw [zE rfl hcal,e2];rfl
      obtain ⟨p,hpL,call,st',ne',mj',dl',tm',h',R',V',SV',c1,c2,r1,r2⟩:=wB hall hno ol ms (i+1) ne mj dl _ h1 R V SR SV (upd o m st v {t:= .e,n:=st.n} .new) _ hk hc
       ⟨by simp [upd,I.fi],by simp [upd,I.ftm],by simp [upd,I.fn],by simp [upd,I.fne],by simp [upd,I.fmj],by simpa [upd] using I.fdl,by simp [upd,I.ffs],fun hz=>by simpa [upd] using I.fz hz,fun hz=>by simpa [upd] using I.fs hz,fun r hr=>I.frs r (by simpa [upd] using hr),fun e he=>I.fbs e (by simpa [upd] using he),I.fv⟩
      exact ⟨p,hpL,call,st',ne',mj',dl',tm',h',R',V',SV',c1,c2,by rw [jF,hd];exact r1,r2⟩
     ·rw [hkd] at hc;simp only at hc;obtain ⟨hal,hc⟩:=qZ hc;have hal:=xZV.1 hal;have hrd:zT o.op=true:=by unfold zT;rw [hkd]
      rw [hrd] at hk;simp only [cond_true] at hk;have hov:({t:=ovl (fun f=>bt m f && !bt st.mj f) st.fs st.b,n:=st.n}:Hp)=h1:=by
       have:ovl (fun f=>bt m f && !bt st.mj f) st.fs st.b=h1.t:=by
        rw [I.ffs];rcases xZH ne with hz|hz
        ·obtain ⟨z1,z2,z3⟩:=I.fz hz;rw [z2,z3];exact hall _ fun f hf=>by rw [I.fmj,z1,hal f hf,pO];rfl
        ·obtain ⟨z1,z2,_⟩:=I.fs hz;rw [z2];exact hno _ _ fun f hf=>by rw [I.fmj,z1 f hf];simp
       rw [this,I.fn]
      have hd: ∀call,jN E.P E.tb E.xt call ops o m st=some (upd o m st v h1 .read):=fun call=>by
       unfold jN zU;rw [I.ftm,haw,hkd];simp only [cond_true];rw [hov,zE rfl hcal,ha];rfl
      obtain ⟨p,hpL,call,st',ne',mj',dl',tm',h',R',V',SV',c1,c2,r1,r2⟩:=wB hall hno ol ms (i+1) ne mj dl _ h1 _ V ((i,m,ne)::SR) SV (upd o m st v h1 .read) _ hk hc
       ⟨by simp [upd,I.fi],by simp [upd,I.ftm],by simp [upd,I.fn],by simp [upd,I.fne],by simp [upd,I.fmj],by simpa [upd] using I.fdl,by simp [upd,I.ffs],fun hz=>by simpa [upd] using I.fz hz,fun hz=>by simpa [upd] using I.fs hz,fun r hr=>by
        simp only [upd,xZQ] at hr;rcases hr with rfl|hr
        ·exact ⟨by simp [I.fi,I.fne],⟨_,xZS,by simp [I.fi,I.ftm,I.fn,hcal]⟩,.inl hal⟩
        ·obtain ⟨q1,⟨e,q2,q3⟩,q4⟩:=I.frs r hr;exact ⟨xZZ _ q1,⟨e,xZZ _ q2,q3⟩,q4⟩,fun e he=>I.fbs e (by simpa [upd] using he),I.fv⟩
      exact ⟨p,hpL,call,st',ne',mj',dl',tm',h',R',V',SV',c1,c2,by rw [jF,hd];exact r1,r2⟩
   |false=>
    rw [hcal] at hc;simp only [cond_false] at hc;obtain ⟨hg,hc⟩:=qZ hc;simp only [xZX] at hg;obtain ⟨⟨hst,hch⟩,hal⟩:=hg;obtain ⟨L2,hcE,hLs⟩: ∃L2,pU AL N ol ms (i+1) (ne+1) m i SR ((ne,mj,i)::SV)=some L2/\ ∀x∈L2,x∈L:=by
     split at hc
     ·exact ⟨_,hc,fun x hx=>hx⟩
     ·split at hc
      ·cases hc
      ·rename_i a ha;split at hc
       ·cases hc
       ·rename_i b hb;simp only [Option.some.injEq] at hc;subst hc;exact ⟨_,hb,fun x hx=>List.mem_append_right _ hx⟩
    have hal:=xZV.1 hal;have hov:({t:=ovl (fun f=>bt m f && !bt st.mj f) st.fs st.b,n:=st.n}:Hp)=h:=by
     have:ovl (fun f=>bt m f && !bt st.mj f) st.fs st.b=h.t:=by
      rw [I.ffs];rcases xZH ne with hz|hz
      ·obtain ⟨z1,z2,z3⟩:=I.fz hz;rw [z2,z3];exact hall _ fun f hf=>by rw [I.fmj,z1,hal f hf,pO];rfl
      ·obtain ⟨z1,z2,_⟩:=I.fs hz;rw [z2];exact hno _ _ fun f hf=>by rw [I.fmj,z1 f hf];simp
     rw [this,I.fn]
    have hch2:(Nat.beq st.ne 0 || bt m st.dl)=true:=by
     rw [I.fne];rcases I.fdl with hdl|hdl
     ·rw [hdl];exact hch
     ·rw [hdl];rfl
    have next: ∀(v:AV) (h1:Hp),jH o.op= .eff->WOW E nt ops ol (i+1) (ne+1) (uH tm o.dst v) h1 R ((ne+1,h1.t)::V) Q->h.n<=h1.n-> ∃p∈L,∃call st' ne' mj' dl' tm' h' R' V' SV',jY E.P E.xt call/\((∀fv args k r,call fv args k=some r->h1.n<=k.n/\k.n<h'.n)/\h1.n<=h'.n)/\yN E.P E.tb E.xt call ops ol ms (upd o m st v h1 .eff)=some st'/\WInv E AL h0 HA FS (i+1+ol.length) ne' mj' dl' tm' h' R' V' p.1 SV' st'/\p.2=(ne',mj',N)::SV'/\Q tm' h' R' V':=fun v h1 hke hk hle=>by
     exact Exists.imp (fun _ hp=>⟨hLs _ hp.1,hp.2⟩)<|wB hall hno ol ms (i+1) (ne+1) m i _ h1 R _ SR ((ne,mj,i)::SV) (upd o m st v h1 .eff) _ hk hcE
      ⟨by simp [upd,I.fi],by simp [upd,I.ftm],by simp [upd],by simp [upd,I.fne],by simp [upd],.inl (by simp [upd,I.fi]),by simp [upd,I.ffs],fun hz=>by omega,fun hz=>⟨hal,by simp [upd],xZS⟩,fun r hr=>I.frs r (by simpa [upd] using hr),fun e he=>by
       simp only [upd,xZQ] at he;rcases he with rfl|he
       ·refine ⟨by simp [I.fne,I.fmj,I.fi],fun hz=> ?_,fun hz=> ?_⟩
        ·simp only [I.fne] at hz;obtain ⟨z1,z2,z3⟩:=I.fz hz;exact ⟨z2,by simp [I.fmj,z1]⟩
        ·simp only [I.fne] at hz;obtain ⟨z1,z2,z3⟩:=I.fs hz;refine ⟨xZZ _ ?_,by simpa [I.fmj] using z1⟩;simp only [I.fne,z2];exact z3
       ·obtain ⟨q1,q2,q3⟩:=I.fbs e he;exact ⟨xZZ _ q1,q2,fun hz=>⟨xZZ _ (q3 hz).1,(q3 hz).2⟩⟩,xZZ _ I.fv⟩
    cases hso:isSt o.op with
    |true=>
     obtain ⟨call0,res,_,hop,hk⟩:=hw.ev;rw [gU hso] at hop;cases ha:aop E.P E.tb E.xt (qH tm) o.op h with
     |none=>rw [ha] at hop;cases hop
     |some p=>
      obtain ⟨v,h1⟩:=p;rw [ha] at hop;simp only [gG,Option.some.injEq] at hop;subst hop;simp only [qA9,hst,cond_true] at hk;obtain ⟨⟨hn1,_⟩,hk⟩:=hk;have hk:=hput hk;obtain ⟨p,hpL,call,st',ne',mj',dl',tm',h',R',V',SV',c1,c2,r1,r2⟩:=next v h1 (wL hso) hk hn1;have hd:jN E.P E.tb E.xt call ops o m st=some (upd o m st v h1 .eff):=by
       unfold jN zU;rw [I.ftm,haw,wL hso];simp only [cond_true];rw [hch2];simp only [cond_true];rw [hov,gU hso,ha];rfl
      exact ⟨p,hpL,call,st',ne',mj',dl',tm',h',R',V',SV',c1,⟨fun fv args k r hr=>by have:=c2.1 fv args k r hr;omega,by have:=c2.2;omega⟩,by rw [jF,hd];exact r1,r2⟩
    |false=>
     have hcl:jO o.op=true:=by
      unfold zY at hst;rw [hso] at hst;simpa using hst
     have hcl2:=hcl;unfold jO at hcl2;split at hcl2
     ·rename_i q hq;split at hcl2
      ·rename_i f hf;unfold WOp at hw;simp only [hq,calK,hf] at hw;obtain ⟨res,h1,hcs,hk⟩:=hw;rw [<-hq] at hk;cases res with
       |pan v=>exact hk.elim
       |ret v=>
        simp only [resK,qA9,hst,cond_true] at hk;obtain ⟨⟨hn1,hlt⟩,hk⟩:=hk;have hlt:=hlt hcl;have hk:=hput hk;have hkd:jH o.op= .eff:=by simp [hq,jH,hf]
        obtain ⟨p,hpL,call,st',ne',mj',dl',tm',h',R',V',SV',c1,c2,r1,r2⟩:=next v h1 hkd hk hn1;have hsd:jY E.P E.xt (j9 (qH tm f) (q.args.toList.map (qH tm)) h (.ret v) h1 call):=by
         intro fv a k r k' he;unfold j9 at he;split at he
         ·rename_i hq;obtain ⟨rfl,rfl,rfl⟩:=hq;cases he;exact hcs
         ·exact c1 _ _ _ _ _ he
        have hev:jU E.P E.tb E.xt (j9 (qH tm f) (q.args.toList.map (qH tm)) h (.ret v) h1 call) o tm h=some (.ok v h1):=by
         simp [jU,hq,vI,hf,j9,u9]
        have hd:jN E.P E.tb E.xt (j9 (qH tm f) (q.args.toList.map (qH tm)) h (.ret v) h1 call) ops o m st=some (upd o m st v h1 .eff):=by
         unfold jN zU;rw [I.ftm,haw,hkd];simp only [cond_true];rw [hch2];simp only [cond_true];rw [hov,hev]
        refine ⟨p,hpL,j9 (qH tm f) (q.args.toList.map (qH tm)) h (.ret v) h1 call,st',ne',mj',dl',tm',h',R',V',SV',hsd,⟨fun fv a k r he=> ?_,by have:=c2.2;omega⟩,?_,r2⟩
        ·unfold j9 at he;split at he
         ·rename_i hq;rw [hq.2.2];have:=c2.2;omega
         ·have:=c2.1 _ _ _ _ he;omega
        ·rw [jF,hd];simp only;refine vL c1 ol ms _ _ (fun fv a k r hk hr=> ?_) r1;unfold j9;rw [if_neg (fun hq=> ?_)]
         ·exact hr
         ·simp only [upd] at hk;rw [hq.2.2] at hk;omega
      ·cases hcl2
     ·cases hcl2
def qCi (nt:Nat) (ops:Array Oper) (k1 k2 k3:Nat) (P:List (Nat×Nat)):Bool:=
 let L:=ops.toList
 let l:=L.take k1
 let aos:=(L.drop k1).take k2
 let l2:=(L.drop (k1+k2)).take k3
 let pre:=l++(aos++l2)
 match sta ⟨pre⟩ with
 |none=>false
 |some s=>Nat.ble s.mx nt && (l.all (fun o=>calm o.op) && (aos.all (isAl nt) && (Nat.beq aos.length k2 && (Nat.beq l.length k1 && (Nat.ble (k1+k2) s.ms.length &&
   ((s.ms.take k1).all (fun m=>(xYW k1 k2).all fun f=> !bt m f) &&
   (match qBc [] pre.length l s.ms 0 0 0 0 [] [] with
   |none=>false
   |some (SRA,_)=>(match pU (xYW k1 k2) pre.length l2 (s.ms.drop (k1+k2)) (k1+k2) 0 0 0 SRA [] with
    |none=>false
    |some LL=>LL.all fun p=>p.1.all fun r=>p.2.all (ordd P r))) &&
   (xT pre (L.drop (k1+k2+k3)) && pre.all (vV pre.length))))))))
end
section
variable {E:Env} {nt:Nat} {ops:Array Oper} {r:Option Nat} {mks:List Nat}
theorem SemC.drawnL (htb:Tb E.P E.tb) (hm:E.P.follows .mixedOrders=true) {id:Nat} (k1 k2 k3:Nat) (P:List (Nat×Nat)) (hst:qCi nt ops k1 k2 k3 P=true) {tm:T AV} {h:Hp} {Q:Ex->St->Prop}
  (hw:WOW E nt ops (ops.toList.take k1) 0 0 tm h [] [(0,h.t)] (fun tm1 h1 R1 _=>WOA E ((ops.toList.drop k1).take k2) tm1 h1.n [] (fun tm2 os=>WOW E nt ops ((ops.toList.drop (k1+k2)).take k3) (k1+k2) 0 tm2 {t:=vG h1.t h1.n os,n:=h1.n+k2} R1 [(0,vG h1.t h1.n os)] (fun tm3 h3 R V=>qBW E P R V/\WO E nt ops (ops.toList.drop (k1+k2+k3)) tm3 h3 (regK ⟨tm,nt,h,mks⟩ Q))))):W E r (.region id ops true) ⟨tm,nt,h,mks⟩ Q:=by
 unfold qCi at hst;simp only at hst;obtain ⟨l,hl⟩: ∃l,l=ops.toList.take k1:=⟨_,rfl⟩;obtain ⟨aos,has⟩: ∃aos,aos=(ops.toList.drop k1).take k2:=⟨_,rfl⟩;obtain ⟨l2,hl2⟩: ∃l2,l2=(ops.toList.drop (k1+k2)).take k3:=⟨_,rfl⟩;obtain ⟨rest,hrest⟩: ∃rest,rest=ops.toList.drop (k1+k2+k3):=⟨_,rfl⟩;have hall:l++(aos++l2)++rest=ops.toList:=by
  have a3:ops.toList.drop (k1+k2+k3)=(ops.toList.drop (k1+k2)).drop k3:=by rw [xYP]
  have a2:ops.toList.drop (k1+k2)=(ops.toList.drop k1).drop k2:=by rw [xYP]
  rw [hl,has,hl2,hrest,a3,xZE,xZE,xZO,a2,xZO,xZO]
 rw [<-hl,<-has,<-hl2,<-hrest] at hst hw;cases hs:sta ⟨l++(aos++l2)⟩ with
 |none=>rw [hs] at hst;cases hst
 |some s=>
 rw [hs] at hst;simp only [xZX] at hst;obtain ⟨hmx,hcalm,hisal,hask,hlk,hms,⟨hnb,hw2⟩,hlast,hgl⟩:=hst;have hask:=xZU hask;have hlk:=xZU hlk;have hms:k1+k2<=s.ms.length:=xZL hms;obtain ⟨pre,hpre⟩: ∃pre,pre=l++(aos++l2):=⟨_,rfl⟩;rw [<-hpre] at hs hw2 hlast hgl hall;have hgd: ∀o∈pre,∀j w,o.guard=some (j,w)->(⟨pre⟩:Array Oper)[j]? =ops[j]? :=fun o ho j w hg=>by
  have:=xZV.1 hgl o ho;unfold vV at this;rw [hg] at this;simp only [xZI] at this;rw [<-xZR,<-xZR,<-hall];simp [xZJ this]
 have hgl1: ∀o∈l,∀j w,o.guard=some (j,w)->(⟨pre⟩:Array Oper)[j]? =ops[j]? :=fun o ho=>hgd o (by rw [hpre];simp [ho]);have hgl2: ∀o∈l2,∀j w,o.guard=some (j,w)->(⟨pre⟩:Array Oper)[j]? =ops[j]? :=fun o ho=>hgd o (by rw [hpre];simp [ho]);split at hw2
 ·cases hw2
 rename_i SRA SVA hsa;split at hw2
 ·cases hw2
 rename_i LL hsc;have hall2:=xZV.1 hw2;have hw1:=qAo (ops':=⟨pre⟩) l 0 0 tm h [] [(0,h.t)] _ _ hgl1 (fun _ _ _ _ hh=>hh) hw;obtain ⟨call1,st1,ne1,mj1,dl1,tm1,h1,R1,V1,SV1,cs1,cr1,run1,I1,eSV,hq1⟩:=gB (AL:=[]) (h0:=h.t) (HA:=h.t) (FS:=[]) (fun _ _=>rfl) (fun _ _ _=>rfl) l s.ms 0 0 0 0 tm h [] [(0,h.t)] [] [] {i:=0,tm:=tm,n:=h.n,b:=h.t,mj:=0,dl:=0,ne:=0,fs:=[],bs:=[],rs:=[]} hw1 hsa
  ⟨rfl,rfl,rfl,rfl,rfl,.inr rfl,rfl,fun _=>⟨rfl,rfl,rfl⟩,fun hz=>absurd hz (Nat.lt_irrefl _),by simp,by simp,by simp⟩
 have hcal0: ∀(l:List Oper) (ms:List Nat) (i ne mj dl:Nat) (SR:List SRd) (SV:List SVe) (SRz:List SRd) (SVz:List SVe),l.all (fun o=>calm o.op)=true->qBc [] pre.length l ms i ne mj dl SR SV=some (SRz,SVz)->SVz=(ne,mj,pre.length)::SV/\ ∀x∈SRz,x∈SR\/x.2.2=ne/\x.2.1∈ms.take l.length:=by
  intro l;induction l with
  |nil=>
   intro ms i ne mj dl SR SV SRz SVz _ hx;simp only [qBc,Option.some.injEq,Prod.mk.injEq] at hx;exact ⟨hx.2.symm,fun x hx'=> .inl (by rw [hx.1];exact hx')⟩
  |cons o l ih=>
   intro ms i ne mj dl SR SV SRz SVz hc hx;simp only [List.all_cons,xZX] at hc;cases ms with
   |nil=>simp [qBc] at hx
   |cons m ms=>
    simp only [qBc,hc.1,cond_true] at hx;split at hx
    ·obtain ⟨_,hx⟩:=qZ hx;obtain ⟨q1,q2⟩:=ih ms _ _ _ _ _ _ _ _ hc.2 hx;refine ⟨q1,fun x hx'=> ?_⟩;rcases q2 x hx' with h3|h3
     ·rcases xZQ.1 h3 with rfl|h3
      ·exact .inr ⟨rfl,by simp⟩
      ·exact .inl h3
     ·exact .inr ⟨h3.1,by simp [h3.2]⟩
    ·obtain ⟨q1,q2⟩:=ih ms _ _ _ _ _ _ _ _ hc.2 hx;refine ⟨q1,fun x hx'=> ?_⟩;rcases q2 x hx' with h3|h3
     ·exact .inl h3
     ·exact .inr ⟨h3.1,by simp [h3.2]⟩
 obtain ⟨eSVA,hSRA⟩:=hcal0 l s.ms 0 0 0 0 [] [] SRA SVA hcalm hsa;rw [eSV] at eSVA;simp only [List.cons.injEq,Prod.mk.injEq] at eSVA;obtain ⟨⟨rfl,rfl,_⟩,rfl⟩:=eSVA;rw [xZP] at I1;obtain ⟨z1,z2,z3⟩:=I1.fz rfl;have hbs1:st1.bs=[]:=by
  cases hb:st1.bs with
  |nil=>rfl
  |cons e _=>have:=(I1.fbs e (by rw [hb];exact xZS)).1;simp at this
 obtain ⟨st2,os,tm2,run2,est2,hosl,hq2⟩:=qE8 (nt:=nt) (ops:=⟨pre⟩) (call:=qAE) aos (s.ms.drop l.length) tm1 h1.n [] st1 hq1 hisal (by rw [xYA];omega) I1.ftm I1.fn;rw [List.nil_append] at hq2;have hfs2:st2.fs=feL k1 h1.n os:=by rw [est2];simp [I1.ffs,I1.fi,hlk]
 have hAL: ∀(q:Nat->Bool) (b:Bool),(∀f∈xYW k1 k2,q f=b)-> ∀f,k1<=f->f<k1+os.length->q f=b:=fun q b hq f h1 h2=>hq f (List.mem_range'_1.2 ⟨h1,by omega⟩);have hw3:=qAo (ops':=⟨pre⟩) l2 (k1+k2) 0 tm2 _ R1 _ _ _ hgl2 (fun _ _ _ _ hh=>hh) hq2;obtain ⟨⟨SR,SV⟩,hpL,call3,st3,ne3,mj3,dl3,tm3,h3,R3,V3,SV3,cs3,cr3,run3,I3,eSV3,hsame,hq3⟩:=wB (AL:=xYW k1 k2) (h0:=h.t) (HA:=vG h1.t h1.n os) (FS:=feL k1 h1.n os)
  (fun q hq=>by rw [z3];exact qCe q _ os k1 h1.n (hAL q true hq)) (fun q b hq=>qEG q b os k1 h1.n (hAL q false hq)) l2 (s.ms.drop (k1+k2)) (k1+k2) 0 0 0 tm2 {t:=vG h1.t h1.n os,n:=h1.n+k2} R1 [(0,vG h1.t h1.n os)] SRA [] st2 _ hw3 hsc
  ⟨by rw [est2];simp [I1.fi,hlk,hask],by rw [est2],by rw [est2];simp [hask],by rw [est2];exact I1.fne,by rw [est2];exact I1.fmj,.inr rfl,hfs2,fun _=>⟨rfl,by rw [est2];exact z2,rfl⟩,fun hz=>absurd hz (Nat.lt_irrefl _),fun r hr=>by
   have hr1:r∈st1.rs:=by rw [est2] at hr;exact hr
   obtain ⟨q1,q2,_⟩:=I1.frs r hr1;refine ⟨q1,q2,.inr ?_⟩;rcases hSRA _ q1 with h4|h4
   ·simp at h4
   ·refine ⟨h4.1,fun f hf=> ?_⟩;have hm1:r.m∈s.ms.take k1:=by rw [<-hlk];exact h4.2
    have:=xZV.1 (xZV.1 hnb _ hm1) f hf;simpa using this,fun e he=>by
   rw [est2] at he;rw [show ({st1 with i:=st1.i+aos.length,tm:=tm2,n:=h1.n+aos.length,fs:=feL st1.i h1.n os++st1.fs}:DS).bs=st1.bs from rfl,hbs1] at he;simp at he,by simp⟩
 have hpair:=fun r hr e he=>xZV.1 (xZV.1 (hall2 _ hpL) r hr) e he;have eSV3:SV=_:=eSV3;obtain ⟨callm,hcm⟩: ∃callm:jK,callm=fun f a k=>match call3 f a k with|some r=>some r|none=>call1 f a k:=⟨_,rfl⟩
 have csm:jY E.P E.xt callm:=by
  intro f a k r k' he;rw [hcm] at he;simp only at he;split at he
  ·rename_i r' hr';cases he;exact cs3 _ _ _ _ _ hr'
  ·exact cs1 _ _ _ _ _ he
 have run1:=vL (call':=callm) cs1 _ _ _ _ (fun fv a k r _ hr=>by
  rw [hcm];simp only;cases hc3:call3 fv a k with
  |none=>exact hr
  |some r'=>
   have b1:=cr1.1 _ _ _ _ hr;have b2:=cr3.1 _ _ _ _ hc3;simp only at b2;omega) run1
 have run2:=vL (call':=callm) (xC E.P E.xt) _ _ _ _ (fun fv a k r _ hr=>by cases hr) run2;have run3:=vL (call':=callm) cs3 _ _ _ _ (fun fv a k r _ hr=>by rw [hcm];simp only [hr]) run3;have hrun:yN E.P E.tb E.xt callm ⟨pre⟩ (⟨pre⟩:Array Oper).toList s.ms {i:=0,tm:=tm,n:=h.n,b:=h.t,mj:=0,dl:=0,ne:=0,fs:=[],bs:=[],rs:=[]}=some st3:=by
  have e0:yN E.P E.tb E.xt callm ⟨pre⟩ (l++(aos++l2)) s.ms {i:=0,tm:=tm,n:=h.n,b:=h.t,mj:=0,dl:=0,ne:=0,fs:=[],bs:=[],rs:=[]}=some st3:=by
   rw [yB _ _ _ _ _ run1,yB _ _ _ _ _ run2,xYP,hlk,hask];exact run3
  rw [<-hpre] at e0;exact e0
 have hchk:DChk E.P E.tb E.xt callm st3 (⟨pre⟩:Array Oper).size:=by
  intro r hr e he;obtain ⟨q1,⟨re,p1,p2,p3,p4,p5,p6,p7⟩,q3⟩:=I3.frs r hr;obtain ⟨e1,e2,e3⟩:(e.j,e.mj,e.nx)∈SV/\(e.j=0->e.b=h.t/\e.mj=0)/\(0<e.j->(e.j,e.b)∈V3/\ ∀f∈xYW k1 k2,bt e.mj f=true):=by
   rcases xZQ.1 he with rfl|he
   ·refine ⟨by rw [eSV3];simp [I3.fne,I3.fmj],fun hz=> ?_,fun hz=> ?_⟩
    ·simp only [I3.fne] at hz;have:=I3.fz hz;exact ⟨this.2.1,by simp [I3.fmj,this.1]⟩
    ·simp only [I3.fne] at hz;have:=I3.fs hz;exact ⟨by simp only [I3.fne,this.2.1];exact this.2.2,by simpa [I3.fmj] using this.1⟩
   ·have:=I3.fbs e he;exact ⟨by rw [eSV3];exact xZZ _ this.1,this.2⟩
  have ho:=hpair _ q1 _ e1;unfold ordd at ho;simp only [Bool.or_eq_true] at ho;rcases ho with ho|ho|ho|ho
  ·exact .inl (xZU ho)
  ·exact .inr (.inl ho)
  ·exact .inr (.inr (.inl ho))
  have key: ∀t,(e.j,t)∈V3->ovl (fun f=>bt r.m f && !bt e.mj f) st3.fs e.b=t-> ∃h'',jU E.P E.tb E.xt callm r.o r.tm {t:=ovl (fun f=>bt r.m f && !bt e.mj f) st3.fs e.b,n:=r.n}=some (.ok r.v h''):=fun t ht heq=>by
   have:=hsame re p1 (e.j,t) ht (by rw [p2];exact ho);rw [p3,p4,p5,p6] at this;rw [heq,zE rfl p7,this];exact ⟨_,rfl⟩
  rcases xZH e.j with hz|hz
  ·obtain ⟨e4,e5⟩:=e2 hz;rcases q3 with q3|q3
   ·refine .inr (.inr (.inr (key (vG h1.t h1.n os) (by rw [hz];exact I3.fv) ?_)));rw [I3.ffs,e4,z3];exact qCe _ _ os k1 h1.n (hAL _ true fun f hf=>by rw [q3 f hf,e5,pO];rfl)
   ·exact .inl (by rw [hz,q3.1])
  ·obtain ⟨e4,e5⟩:=e3 hz;refine .inr (.inr (.inr (key e.b e4 ?_)));rw [I3.ffs];exact qEG _ _ os k1 h1.n (hAL _ false fun f hf=>by rw [e5 f hf];simp)
 obtain ⟨n1,s1⟩:=wQ htb csm hs (xZL hmx) hrun hchk;have e1:({t:=ovl (fun f=> !bt st3.mj f) st3.fs st3.b,n:=st3.n}:Hp)=h3:=by
  have:ovl (fun f=> !bt st3.mj f) st3.fs st3.b=h3.t:=by
   rw [I3.ffs];rcases xZH ne3 with hz|hz
   ·obtain ⟨y1,y2,y3⟩:=I3.fz hz;rw [y2,y3,z3];exact qCe _ _ os k1 h1.n (hAL _ true fun f hf=>by rw [I3.fmj,y1,pO];rfl)
   ·obtain ⟨y1,y2,_⟩:=I3.fs hz;rw [y2];exact qEG _ _ os k1 h1.n (hAL _ false fun f hf=>by rw [I3.fmj,y1 f hf];rfl)
  rw [this,I3.fn]
 rw [e1] at s1;rw [I3.fn] at n1 s1;rw [I3.ftm] at s1;have hd:DrX E nt ⟨pre⟩ tm h .normal tm3 h3:=⟨n1,s1⟩;obtain ⟨x,tm4,h4,hd2,hq4⟩:=DrX.lasts htb rest pre tm3 h3 hlast (fun j hj=>by rw [hall,xZR]) hd hq3;rw [hall] at hd2;have lift: ∀{a:Act} {w:World} {r:Option Nat} {id:Nat} {Q:Exit->Act->World->Prop},(∀t,wpOpsIn (Wd r) 0 E.P ops Q (Region.linearise .any ops t) a {w with drawn:=w.drawn+1})->(Code.region id ops true).wpIn (Wd r) 0 E.P Q a w:=fun hh=>by
  refine wpIn_region_draw fun t=> ?_;simp only [Region.schedule,hm,xYK,if_true];exact hh t
 have hds:DrwS E nt ops tm h x tm4 h4:=⟨hd2.1,fun lim hl c a w r id g hxt ht Q hQ=>lift fun t=>hd2.2 lim hl c a w r t g hxt ht Q hQ⟩;exact ⟨_,_,.regionD (st:=⟨tm,nt,h,mks⟩) hds,hq4⟩
theorem qW (ok:SyOk E) {id:Nat} {b:Code} {tm:T AV} {h:Hp} {Q:Ex->St->Prop} (k1 k2 k3:Nat) (P:List (Nat×Nat)) (hst:qCi nt ops k1 k2 k3 P=true) (hw: ∀K:Ex->T AV->Hp->Prop,(∀tm h,wpc E r b ⟨tm,nt,h,mks⟩ Q->K .normal tm h)->(∀v tm h,Q (.panic v) ⟨tm,nt,h,mks⟩->K (.panic v) tm h)->WOW E nt ops (ops.toList.take k1) 0 0 tm h [] [(0,h.t)] (fun tm1 h1 R1 _=>WOA E ((ops.toList.drop k1).take k2) tm1 h1.n [] (fun tm2 os=>WOW E nt ops ((ops.toList.drop (k1+k2)).take k3) (k1+k2) 0 tm2 {t:=vG h1.t h1.n os,n:=h1.n+k2} R1 [(0,vG h1.t h1.n os)] (fun tm3 h3 R V=>qBW E P R V/\WO E nt ops (ops.toList.drop (k1+k2+k3)) tm3 h3 K)))):
  wpc E r (.seq (.region id ops true) b) ⟨tm,nt,h,mks⟩ Q:=by
 show W E r (.region id ops true) ⟨tm,nt,h,mks⟩ (bW (fun s=>wpc E r b s Q) Q);exact SemC.drawnL ok.tb ok.mixed k1 k2 k3 P hst (hw _ (fun tm h hh=>hh) (fun v tm h hh=>hh))
theorem regL (ok:SyOk E) {id:Nat} {tm:T AV} {h:Hp} {Q:Ex->St->Prop} (k1 k2 k3:Nat) (P:List (Nat×Nat)) (hst:qCi nt ops k1 k2 k3 P=true) (hw: ∀K:Ex->T AV->Hp->Prop,(∀tm h,Q .normal ⟨tm,nt,h,mks⟩->K .normal tm h)->(∀v tm h,Q (.panic v) ⟨tm,nt,h,mks⟩->K (.panic v) tm h)->WOW E nt ops (ops.toList.take k1) 0 0 tm h [] [(0,h.t)] (fun tm1 h1 R1 _=>WOA E ((ops.toList.drop k1).take k2) tm1 h1.n [] (fun tm2 os=>WOW E nt ops ((ops.toList.drop (k1+k2)).take k3) (k1+k2) 0 tm2 {t:=vG h1.t h1.n os,n:=h1.n+k2} R1 [(0,vG h1.t h1.n os)] (fun tm3 h3 R V=>qBW E P R V/\WO E nt ops (ops.toList.drop (k1+k2+k3)) tm3 h3 K)))):
  wpc E r (.region id ops true) ⟨tm,nt,h,mks⟩ Q:=by
 show W E r (.region id ops true) ⟨tm,nt,h,mks⟩ Q;exact SemC.drawnL ok.tb ok.mixed k1 k2 k3 P hst (hw _ (fun tm h hh=>hh) (fun v tm h hh=>hh))
end
end Go.Ev
end
