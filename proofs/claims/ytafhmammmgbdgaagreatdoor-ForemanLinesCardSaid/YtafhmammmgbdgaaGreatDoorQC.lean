/- Parts of the proof, joined by a program. -/
import Derived.Lib.Strings
import Derived.Test.YtafhmammmgbdgaaGreatDoorQB
set_option linter.all false
noncomputable section
namespace Go.Ev
def CallS (E:Env) (fv:AV) (args:List AV) (h:Hp) (res:CR) (h':Hp):Prop:=h.n≤h'.n∧ ∀lim,h'.n≤lim→SCall E.P E.xt lim fv args h res h'
def CallA (E:Env) (fv:AV) (args:List AV) (h:Hp) (K:CR→Hp→Prop):Prop:= ∃res h',CallS E fv args h res h'∧K res h'
def W (E:Env) (r:Option Nat) (c:Code) (st:St) (Q:Ex→St→Prop):Prop:= ∃x st',SemC E r c st x st'∧Q x st'
theorem CallA.mono {E:Env} {fv:AV} {args:List AV} {h:Hp} {K K':CR→Hp→Prop} (hc:CallA E fv args h K) (hk: ∀r h',K r h'→K' r h'):CallA E fv args h K':=by
 obtain ⟨r,h',h1,h2⟩:=hc;exact ⟨r,h',h1,hk _ _ h2⟩
theorem W.mono {E:Env} {r:Option Nat} {c:Code} {st:St} {Q Q':Ex→St→Prop} (hw:W E r c st Q) (hq: ∀x s,Q x s→Q' x s):W E r c st Q':=by
 obtain ⟨x,s,h1,h2⟩:=hw;exact ⟨x,s,h1,hq _ _ h2⟩
open Classical in
def pcall (fv:AV) (args:List AV) (h:Hp) (res:CR) (h':Hp):CallF:=fun f a k=>if f=fv∧a=args∧k=h then some (res,h') else none
theorem pcall_at (fv:AV) (args:List AV) (h:Hp) (res:CR) (h':Hp):pcall fv args h res h' fv args h=some (res,h'):=by simp [pcall]
theorem pcall_ok {E:Env} {fv:AV} {args:List AV} {h h':Hp} {res:CR} (hc:CallS E fv args h res h'):Sound E.P E.xt (pcall fv args h res h'):=by
 intro f a k r k' he;unfold pcall at he;split at he
 ·rename_i hq;obtain ⟨rfl,rfl,rfl⟩:=hq;cases he;exact hc
 ·cases he
def ncall:CallF:=fun _ _ _=>none
theorem ncall_ok (P:Program) (xt:Addr→Option Value):Sound P xt ncall:=by intro f a k r k' he;cases he
def resK (K:OR→Prop) (res:CR) (h':Hp):Prop:=
 match res with
 | .ret v=>K (.ok v h')
 | .pan v=>K (.pan v h')
def aopK (E:Env) (o:Oper) (tm:T AV) (h:Hp) (K:OR→Prop):Prop:= ∃p,aop E.P E.tb E.xt (aeval tm) o.op h=some p∧K (.ok p.1 p.2)
def panK (h:Hp) (a:AV) (K:OR→Prop):Prop:= ∃r,evOpPanic h a=some r∧K r
def calK (E:Env) (o:Oper) (tm:T AV) (h:Hp) (K:OR→Prop) (q:Call):Prop:=
 match q.callee with
 | .value f=>CallA E (aeval tm f) (q.args.toList.map (aeval tm)) h (resK K)
 | .invoke x nm=>CallA E (.val (.func (.method nm) #[] #[])) (aeval tm x::q.args.toList.map (aeval tm)) h (resK K)
 | .builtin _=>aopK E o tm h K
def WOp (E:Env) (o:Oper) (tm:T AV) (h:Hp) (K:OR→Prop):Prop:=
 match o.op with
 | .call q=>calK E o tm h K q
 | .panic x=>panK h (aeval tm x) K
 | .defer _=>False
 |_=>aopK E o tm h K
theorem WOp.ev {E:Env} {o:Oper} {tm:T AV} {h:Hp} {K:OR→Prop} (hw:WOp E o tm h K): ∃call r,Sound E.P E.xt call∧evOp E.P E.tb E.xt call o tm h=some r∧K r:=by
 have key:aopK E o tm h K→ ∃r,orOk (aop E.P E.tb E.xt (aeval tm) o.op h)=some r∧K r:=by
  rintro ⟨p,h1,h2⟩;exact ⟨_,by rw [h1];rfl,h2⟩
 unfold WOp at hw;split at hw
 ·rename_i q hq;unfold calK at hw;split at hw
  ·rename_i f hf;obtain ⟨res,h',hc,hk⟩:=hw;refine ⟨pcall (aeval tm f) (q.args.toList.map (aeval tm)) h res h',?_⟩;cases res with
   |ret v=>exact ⟨.ok v h',pcall_ok hc,by simp [evOp,hq,evOpCall,hf,pcall_at,orCall],hk⟩
   |pan v=>exact ⟨.pan v h',pcall_ok hc,by simp [evOp,hq,evOpCall,hf,pcall_at,orCall],hk⟩
  ·rename_i f nm hf;obtain ⟨res,h',hc,hk⟩:=hw;refine ⟨pcall (.val (.func (.method nm) #[] #[])) (aeval tm f::q.args.toList.map (aeval tm)) h res h',?_⟩;cases res with
   |ret v=>exact ⟨.ok v h',pcall_ok hc,by simp [evOp,hq,evOpCall,hf,pcall_at,orCall],hk⟩
   |pan v=>exact ⟨.pan v h',pcall_ok hc,by simp [evOp,hq,evOpCall,hf,pcall_at,orCall],hk⟩
  ·rename_i b hb;obtain ⟨r,h1,h2⟩:=key hw;exact ⟨ncall,r,ncall_ok _ _,by simp only [evOp,hq,evOpCall,hb];rw [←hq];exact h1,h2⟩
 ·rename_i x hx;obtain ⟨r,h1,h2⟩:=hw;exact ⟨ncall,r,ncall_ok _ _,by simp only [evOp,hx];exact h1,h2⟩
 ·exact hw.elim
 ·rename_i n1 n2 n3;obtain ⟨r,h1,h2⟩:=key hw;refine ⟨ncall,r,ncall_ok _ _,?_,h2⟩;unfold evOp;split
  ·rename_i q hq;exact absurd hq (n1 q)
  ·rename_i q hq;exact absurd hq (n2 q)
  ·rename_i q hq;exact absurd hq (n3 q)
  ·exact h1
def putK (nt:Nat) (tm:T AV) (dst:Option Tmp) (v:AV) (K:T AV→Prop):Prop:=
 match dst with
 |none=>K tm
 |some d=>d<nt∧K (tm.put (some v) d)
theorem putK.get {nt:Nat} {tm:T AV} {dst:Option Tmp} {v:AV} {K:T AV→Prop} (h:putK nt tm dst v K): ∃tm',putD nt tm dst v=some tm'∧K tm':=by
 unfold putK at h;split at h
 ·exact ⟨tm,rfl,h⟩
 ·rename_i d;have hb:Nat.blt d nt=true:=by rw [Nat.blt_eq];exact h.1
  exact ⟨_,by simp [putD,hb],h.2⟩
def orK (nt:Nat) (tm:T AV) (dst:Option Tmp) (Q:Ex→T AV→Hp→Prop) (N:T AV→Hp→Prop) (r:OR):Prop:=
 match r with
 | .pan v h'=>Q (.panic v) tm h'
 | .ok v h'=>putK nt tm dst v (fun tm'=>N tm' h')
def WO (E:Env) (nt:Nat) (ops:Array Oper):List Oper→T AV→Hp→(Ex→T AV→Hp→Prop)→Prop
 |[],tm,h,Q=>Q .normal tm h
 |o::ol,tm,h,Q=>guardOk nt ops o=true∧bif awanted ops o tm then WOp E o tm h (orK nt tm o.dst Q (fun tm' h'=>WO E nt ops ol tm' h' Q)) else putK nt tm o.dst default (fun tm'=>WO E nt ops ol tm' h Q)
def OpsS (E:Env) (nt:Nat) (ops:Array Oper) (ol:List Oper) (tm:T AV) (h:Hp) (x:Ex) (tm':T AV) (h':Hp):Prop:=h.n≤h'.n∧ ∀lim,h'.n≤lim→ ∀(l:List Nat) (r:Option Nat),l.map (ops[·]?)=ol.map some→ ∀(c:Ctx) (a:Act) (w:World),Good lim c h w→(∀b v,E.xt b=some v→c.ext b=some v)→TR c nt tm a.tmps→
  ∀Q:Exit→Act→World→Prop,(∀e a' w',Post lim c h w nt a.defers x tm' h' e a' w'→Q e a' w')→wpOpsIn (Wd r) 0 E.P ops Q l a w
theorem WO.ok {E:Env} (htb:Tb E.P E.tb) {nt:Nat} {ops:Array Oper}: ∀(ol:List Oper) (tm:T AV) (h:Hp) (Q:Ex→T AV→Hp→Prop),WO E nt ops ol tm h Q→ ∃x tm' h',OpsS E nt ops ol tm h x tm' h'∧Q x tm' h'
 |[],tm,h,Q,hw=>by
  refine ⟨.normal,tm,h,⟨Nat.le_refl _,fun lim hl l r hm c a w g hxt ht Q hQ=> ?_⟩,hw⟩;have:l=[]:=by simpa using hm
  subst this;exact hQ _ _ _ ⟨c,Stp.refl g,rfl,ht,rfl⟩
 |o::ol,tm,h,Q,hw=>by
  simp only [WO] at hw;obtain ⟨hgo,hw⟩:=hw;cases haw:awanted ops o tm with
  |false=>
   rw [haw] at hw;simp only [cond_false] at hw;obtain ⟨tm1,hp,hk⟩:=hw.get;obtain ⟨x,tm',h',hs,hq⟩:=WO.ok htb ol tm1 h Q hk;refine ⟨x,tm',h',⟨hs.1,fun lim hlim l r hm c a w g hxt ht Q hQ=> ?_⟩,hq⟩;cases l with
   |nil=>simp at hm
   |cons i l=>
    simp only [List.map_cons,List.cons.injEq] at hm;obtain ⟨hi,hl⟩:=hm;have hw:=awanted_ok ht ops o (guardOk_ok hgo);simp only [wpOpsIn,hi,hw,haw,Bool.false_eq_true,if_false];refine ⟨fun _ _=>trivial,?_⟩;refine hs.2 lim hlim l r hl c _ w g hxt (putD_ok ht (defaultR c) hp) Q ?_;intro e a' w' hpost;rw [put_defers] at hpost;exact hQ e a' w' hpost
  |true=>
   rw [haw] at hw;simp only [cond_true] at hw;obtain ⟨call,res,hs,hop,hk⟩:=hw.ev;have hn1:=evOp_n hs hop;cases res with
   |pan v h1=>
    refine ⟨.panic v,tm,h1,⟨hn1,fun lim hlim l r hm c a w g hxt ht Q hQ=> ?_⟩,hk⟩;cases l with
    |nil=>simp at hm
    |cons i l=>
     simp only [List.map_cons,List.cons.injEq] at hm;obtain ⟨hi,hl⟩:=hm;have hw:=awanted_ok ht ops o (guardOk_ok hgo);simp only [wpOpsIn,hi,hw,haw,if_true];refine evOp_ok htb hs hop hlim g hxt ht (fun _ _ _ _ _ e=>by cases e) (fun v' h'' y w' c' e hr hst=> ?_);cases e;exact hQ _ _ _ ⟨c',hst,⟨y,rfl,hr⟩,ht.mono hst.e,rfl⟩
   |ok v h1=>
    obtain ⟨tm1,hp,hk⟩:=putK.get (show putK nt tm o.dst v (fun tm'=>WO E nt ops ol tm' h1 Q) from hk);obtain ⟨x,tm',h',hs2,hq⟩:=WO.ok htb ol tm1 h1 Q hk;refine ⟨x,tm',h',⟨Nat.le_trans hn1 hs2.1,fun lim hlim l r hm c a w g hxt ht Q hQ=> ?_⟩,hq⟩;cases l with
    |nil=>simp at hm
    |cons i l=>
     simp only [List.map_cons,List.cons.injEq] at hm;obtain ⟨hi,hl⟩:=hm;have hw:=awanted_ok ht ops o (guardOk_ok hgo);simp only [wpOpsIn,hi,hw,haw,if_true];refine evOp_ok htb hs hop (Nat.le_trans hs2.1 hlim) g hxt ht (fun v' h'' y w' c' e hr hst=> ?_) (fun _ _ _ _ _ e=>by cases e);cases e;refine hs2.2 lim hlim l r hl c' _ w' hst.good (fun b v hb=>hst.e.ext _ _ (hxt b v hb)) (putD_ok (ht.mono hst.e) hr hp) Q ?_;intro e a' w'' hpost;rw [put_defers] at hpost;exact hQ e a' w'' (hpost.trans hst)
def DrwS (E:Env) (nt:Nat) (ops:Array Oper) (tm:T AV) (h:Hp) (x:Ex) (tm':T AV) (h':Hp):Prop:=h.n≤h'.n∧ ∀lim,h'.n≤lim→ ∀c a w r id,Good lim c h w→(∀b v,E.xt b=some v→c.ext b=some v)→TR c nt tm a.tmps→
   ∀Q:Exit→Act→World→Prop,(∀e a' w',Post lim c h w nt a.defers x tm' h' e a' w'→Q e a' w')→(Code.region id ops true).wpIn (Wd r) 0 E.P Q a w
section
variable {E:Env} {r:Option Nat}
theorem SemC.skip {st:St}:SemC E r .skip st .normal st:=⟨Nat.le_refl _,fun _ _ _ c _ _ s _ _ hQ=>wpB_skip (hQ _ _ _ ⟨c,Stp.refl s.good,rfl,s⟩)⟩
theorem SemC.label {l:Nat} {st:St}:SemC E r (.label l) st .normal st:=⟨Nat.le_refl _,fun _ _ _ c _ _ s _ _ hQ=>wpB_label (hQ _ _ _ ⟨c,Stp.refl s.good,rfl,s⟩)⟩
theorem SemC.exit {id:Nat} {st:St}:SemC E r (.exit id) st (.exit id) st:=⟨Nat.le_refl _,fun _ _ _ c _ _ s _ _ hQ=>wpB_exit (hQ _ _ _ ⟨c,Stp.refl s.good,rfl,s⟩)⟩
theorem SemC.ret {st:St}:SemC E r .ret st .ret st:=⟨Nat.le_refl _,fun _ _ _ c _ _ s _ _ hQ=>wpB_ret (hQ _ _ _ ⟨c,Stp.refl s.good,rfl,s⟩)⟩
theorem SemC.seqOut {a b:Code} {st st1:St} {x:Ex} (h1:SemC E r a st x st1) (hx:x≠ .normal):SemC E r (.seq a b) st x st1:=by
 refine ⟨h1.1,fun lim hl ds c a w s hr Q hQ=>wpB_seq (h1.2 lim hl ds c a w s hr _ ?_)⟩;rintro e a' w' ⟨c',t1,t2,t3⟩;have hq:=hQ e a' w' ⟨c',t1,t2,t3⟩;cases x with
 |normal=>exact absurd rfl hx
 |exit id=>cases t2;exact hq
 |goto id=>cases t2;exact hq
 |ret=>cases t2;exact hq
 |panic v=>obtain ⟨y,rfl,_⟩:=t2;exact hq
theorem SemC.cond {q:Operand} {a b:Code} {st st':St} {x:Ex} {t:Bool} (ht:aeval st.tm q= .val (.bool t)) (h1:SemC E r (bif t then a else b) st x st'):SemC E r (.cond q a b) st x st':=by
 refine ⟨h1.1,fun lim hl ds c a w s hr Q hQ=> ?_⟩;have hv:=aeval_ok (a:=a) s.tr q;rw [ht] at hv;simp only [R] at hv;refine wpB_cond hv ?_;have:=h1.2 lim hl ds c a w s hr Q hQ;cases t<;>exact this
def blockEx (id:Nat):Ex→Ex
 | .exit id'=>bif Nat.beq id' id then .normal else .exit id'
 |x=>x
theorem SemC.block {id:Nat} {b:Code} {st st':St} {x:Ex} (h1:SemC E r b st x st'):SemC E r (.block id b) st (blockEx id x) st':=by
 refine ⟨h1.1,fun lim hl ds c a w s hr Q hQ=>wpB_block (h1.2 lim hl ds c a w s hr _ ?_)⟩;rintro e a' w' ⟨c',t1,t2,t3⟩;have hq:=hQ;cases x with
 |normal=>cases t2;exact hQ _ _ _ ⟨c',t1,rfl,t3⟩
 |exit id'=>
  cases t2;simp only [blockEx] at hQ;by_cases he:id'=id
  ·subst he;simp only [Exit.inBlock,if_true];exact hQ _ _ _ ⟨c',t1,by simp [ExR],t3⟩
  ·simp only [Exit.inBlock,if_neg he];refine hQ _ _ _ ⟨c',t1,?_,t3⟩;have:Nat.beq id' id=false:=by cases hb:Nat.beq id' id;rfl;exact absurd (Nat.eq_of_beq_eq_true hb) he
   rw [this];rfl
 |goto id=>cases t2;exact hQ _ _ _ ⟨c',t1,rfl,t3⟩
 |ret=>cases t2;exact hQ _ _ _ ⟨c',t1,rfl,t3⟩
 |panic v=>obtain ⟨y,rfl,hy⟩:=t2;exact hQ _ _ _ ⟨c',t1,⟨y,rfl,hy⟩,t3⟩
theorem SemC.scope {b:Code} {st st':St} {x:Ex} (h1:SemC E r b st x st') (hx: ∀l,x≠ .goto l):SemC E r (.scope b) st x st':=by
 refine ⟨h1.1,fun lim hl ds c a w s hr Q hQ=>wpB_scope (h1.2 lim hl ds c a w s hr _ ?_)⟩;rintro e a' w' ⟨c',t1,t2,t3⟩;have hq:=hQ e a' w' ⟨c',t1,t2,t3⟩;cases x with
 |normal=>cases t2;exact hq
 |exit id=>cases t2;exact hq
 |goto id=>exact absurd rfl (hx id)
 |ret=>cases t2;exact hq
 |panic v=>obtain ⟨y,rfl,_⟩:=t2;exact hq
theorem SemC.region {id:Nat} {ops:Array Oper} {st:St} {x:Ex} {tm':T AV} {h':Hp} (ho:OpsS E st.nt ops ops.toList st.tm st.h x tm' h'):SemC E r (.region id ops false) st x {st with tm:=tm',h:=h'}:=
 ⟨ho.1,fun lim hl ds c a w s hr Q hQ=>wpB_of (wpIn_region (ho.2 lim hl _ _ (range_ops ops) c a w s.good s.ext s.tr _ fun e a' w' p=>hQ _ _ _ (region_post s p)))⟩
theorem SemC.regionD {id:Nat} {ops:Array Oper} {st:St} {x:Ex} {tm':T AV} {h':Hp} (ho:DrwS E st.nt ops st.tm st.h x tm' h'):SemC E r (.region id ops true) st x {st with tm:=tm',h:=h'}:=
 ⟨ho.1,fun lim hl ds c a w s hr Q hQ=>wpB_of (ho.2 lim hl c a w _ id s.good s.ext s.tr Q fun e a' w' p=>hQ _ _ _ (region_post s p))⟩
inductive LoopS (E:Env) (r:Option Nat) (b:Code):St→Ex→St→Prop
 |out {st st':St} {x:Ex}:SemC E r b st x st'→x≠ .normal→LoopS E r b st x st'
 |more {st st1 st':St} {x:Ex}:SemC E r b st .normal st1→LoopS E r b st1 x st'→LoopS E r b st x st'
theorem LoopS.ok {b:Code} {st st':St} {x:Ex} (hL:LoopS E r b st x st'):st.h.n≤st'.h.n∧ ∃m,∀lim,st'.h.n≤lim→
  ∀ds c a w,SR E lim c st a w ds→RoundR c r→ ∀Q:Exit→Act→World→Prop,(∀e a' w',PostC E lim c st.h w x st' ds e a' w'→Q e a' w')→roundsB (r.map c.ρ) E.P b Q m a w:=by
 induction hL with
 |out h1 hne=>
  rename_i st st' x;refine ⟨h1.1,1,fun lim hl ds c a w s hr Q hQ=> ?_⟩;rw [roundsB_succ];refine h1.2 lim hl ds c a w s hr _ ?_;rintro e a' w' ⟨c',t1,t2,t3⟩;have hq:=hQ e a' w' ⟨c',t1,t2,t3⟩;cases x with
  |normal=>exact absurd rfl hne
  |exit id=>cases t2;exact hq
  |goto id=>cases t2;exact hq
  |ret=>cases t2;exact hq
  |panic v=>obtain ⟨y,rfl,_⟩:=t2;exact hq
 |more h1 h2 ih=>
  obtain ⟨n2,m,s2⟩:=ih;refine ⟨Nat.le_trans h1.1 n2,m+1,fun lim hl ds c a w s hr Q hQ=> ?_⟩;rw [roundsB_succ];refine h1.2 lim (Nat.le_trans n2 hl) ds c a w s hr _ ?_;rintro e a' w' ⟨c',t1,t2,t3⟩;cases t2;have:=s2 lim hl ds c' a' w' t3 (hr.mono t1.e) Q fun e a'' w'' pp=>hQ _ _ _ (pp.trans t1);rw [Wd_ext t1.e hr] at this;exact this
theorem SemC.loop {b:Code} {st st':St} {x:Ex} (hL:LoopS E r b st x st'):SemC E r (.loop b) st x st':=by
 obtain ⟨n,m,s⟩:=hL.ok;exact ⟨n,fun lim hl ds c a w sr hr Q hQ=>wpB_loop m (s lim hl ds c a w sr hr Q hQ)⟩
def loopK (I:St→Prop) (μ:St→Nat) (st:St) (Q:Ex→St→Prop):Ex→St→Prop
 | .normal,s=>I s∧μ s<μ st
 |x,s=>Q x s
theorem W.loop (I:St→Prop) (μ:St→Nat) {b:Code} {Q:Ex→St→Prop} (hb: ∀st,I st→W E r b st (loopK I μ st Q)): ∀{st:St},I st→W E r (.loop b) st Q:=by
 have key: ∀n st,μ st≤n→I st→ ∃x st',LoopS E r b st x st'∧Q x st':=by
  intro n;induction n with
  |zero=>
   intro st hm hi;obtain ⟨x,s,h1,h2⟩:=hb st hi;cases x with
   |normal=>have:=h2.2;omega
   |exit id=>exact ⟨_,_,.out h1 (by simp),h2⟩
   |goto id=>exact ⟨_,_,.out h1 (by simp),h2⟩
   |ret=>exact ⟨_,_,.out h1 (by simp),h2⟩
   |panic v=>exact ⟨_,_,.out h1 (by simp),h2⟩
  |succ n ih=>
   intro st hm hi;obtain ⟨x,s,h1,h2⟩:=hb st hi;cases x with
   |normal=>
    obtain ⟨x',s',h3,h4⟩:=ih s (by have:=h2.2;omega) h2.1;exact ⟨x',s',.more h1 h3,h4⟩
   |exit id=>exact ⟨_,_,.out h1 (by simp),h2⟩
   |goto id=>exact ⟨_,_,.out h1 (by simp),h2⟩
   |ret=>exact ⟨_,_,.out h1 (by simp),h2⟩
   |panic v=>exact ⟨_,_,.out h1 (by simp),h2⟩
 intro st hi;obtain ⟨x,s,h1,h2⟩:=key _ st (Nat.le_refl _) hi;exact ⟨x,s,.loop h1,h2⟩
end
def seqK (N:St→Prop) (Q:Ex→St→Prop):Ex→St→Prop
 | .normal,s=>N s
 |x,s=>Q x s
def blockK (id:Nat) (Q:Ex→St→Prop) (x:Ex) (s:St):Prop:=Q (blockEx id x) s
def scopeK (Q:Ex→St→Prop):Ex→St→Prop
 | .goto _,_=>False
 |x,s=>Q x s
def condK (a:AV) (A B:Prop):Prop:=
 match a with
 | .val (.bool t)=>(t=true→A)∧(t=false→B)
 |_=>False
def regK (st:St) (Q:Ex→St→Prop) (x:Ex) (tm:T AV) (h:Hp):Prop:=Q x {st with tm:=tm,h:=h}
def wpc (E:Env) (r:Option Nat):Code→St→(Ex→St→Prop)→Prop
 | .skip,st,Q=>Q .normal st
 | .label _,st,Q=>Q .normal st
 | .exit id,st,Q=>Q (.exit id) st
 | .ret,st,Q=>Q .ret st
 | .seq a b,st,Q=>wpc E r a st (seqK (fun s=>wpc E r b s Q) Q)
 | .cond q a b,st,Q=>condK (aeval st.tm q) (wpc E r a st Q) (wpc E r b st Q)
 | .block id b,st,Q=>wpc E r b st (blockK id Q)
 | .scope b,st,Q=>wpc E r b st (scopeK Q)
 | .region id ops draw,st,Q=>bif draw then W E r (.region id ops true) st Q else WO E st.nt ops ops.toList st.tm st.h (regK st Q)
 |c,st,Q=>W E r c st Q
theorem wpc.ok {E:Env} (htb:Tb E.P E.tb) {r:Option Nat}: ∀(c:Code) (st:St) (Q:Ex→St→Prop),wpc E r c st Q→W E r c st Q:=by
 intro c;induction c with
 |skip=>intro st Q h;exact ⟨_,_,.skip,h⟩
 |label l=>intro st Q h;exact ⟨_,_,.label,h⟩
 |exit id=>intro st Q h;exact ⟨_,_,.exit,h⟩
 |ret=>intro st Q h;exact ⟨_,_,.ret,h⟩
 |seq a b iha ihb=>
  intro st Q h;obtain ⟨x,s,h1,h2⟩:=iha _ _ h;cases x with
  |normal=>obtain ⟨y,s',h3,h4⟩:=ihb _ _ h2;exact ⟨y,s',h1.seq h3,h4⟩
  |exit id=>exact ⟨_,_,h1.seqOut (by simp),h2⟩
  |goto id=>exact ⟨_,_,h1.seqOut (by simp),h2⟩
  |ret=>exact ⟨_,_,h1.seqOut (by simp),h2⟩
  |panic v=>exact ⟨_,_,h1.seqOut (by simp),h2⟩
 |cond q a b iha ihb=>
  intro st Q h;simp only [wpc,condK] at h;split at h
  ·rename_i t ht;cases t with
   |true=>obtain ⟨x,s,h1,h2⟩:=iha _ _ (h.1 rfl);exact ⟨x,s,.cond ht h1,h2⟩
   |false=>obtain ⟨x,s,h1,h2⟩:=ihb _ _ (h.2 rfl);exact ⟨x,s,.cond ht h1,h2⟩
  ·exact h.elim
 |block id b ih=>
  intro st Q h;obtain ⟨x,s,h1,h2⟩:=ih _ _ h;exact ⟨_,_,h1.block,h2⟩
 |scope b ih=>
  intro st Q h;obtain ⟨x,s,h1,h2⟩:=ih _ _ h;cases x with
  |goto id=>exact h2.elim
  |normal=>exact ⟨_,_,h1.scope (by simp),h2⟩
  |exit id=>exact ⟨_,_,h1.scope (by simp),h2⟩
  |ret=>exact ⟨_,_,h1.scope (by simp),h2⟩
  |panic v=>exact ⟨_,_,h1.scope (by simp),h2⟩
 |region id ops draw=>
  intro st Q h;cases draw with
  |true=>exact h
  |false=>obtain ⟨x,tm,hh,h1,h2⟩:=WO.ok htb _ _ _ _ h;exact ⟨_,_,.region h1,h2⟩
 |_=>intro st Q h;exact h
end Go.Ev
end
noncomputable section
namespace Go.Ev
section
variable {E:Env}
def FnS (E:Env) (f:FuncId) (as:List AV) (h:Hp) (res:CR) (h':Hp):Prop:=
 h.n≤h'.n∧(∃fn,E.ft.get f=some fn∧fn.body.isSome=true)∧ ∀lim,h'.n≤lim→ ∀c w args',Good lim c h w→(∀b v,E.xt b=some v→c.ext b=some v)→RL c as args'→
   CallsIn Fence.wide 0 E.P f args'.toArray w fun e w'=> ∃c',Stp lim c h w c' h' w'∧ResR c' res e
def FnA (E:Env) (f:FuncId) (as:List AV) (h:Hp) (K:CR→Hp→Prop):Prop:= ∃res h',FnS E f as h res h'∧K res h'
theorem FnA.mono {f:FuncId} {as:List AV} {h:Hp} {K K':CR→Hp→Prop} (hc:FnA E f as h K) (hk: ∀r h',K r h'→K' r h'):FnA E f as h K':=by
 obtain ⟨r,h',h1,h2⟩:=hc;exact ⟨r,h',h1,hk _ _ h2⟩
theorem FnS.call (hft:FtOk E) {f:FuncId} {as:List AV} {h h':Hp} {res:CR} (hc:FnS E f as h res h') {fv:AV} {args:List AV} (hcal:callee fv args=some (f,as)):CallS E fv args h res h':=by
 obtain ⟨n1,⟨fn,hfn,hbd⟩,s1⟩:=hc;refine ⟨n1,fun lim hl c w fv' args' g hxt hf ha=> ?_⟩;obtain ⟨as',d,has,hd,hinv⟩:=callee_ok (E:=E) hcal hf ha (hft f fn hfn).1 hbd (hft f fn hfn).2 w;exact ⟨d,hd,.inl ⟨f,as'.toArray,hinv,s1 lim hl c w as' g hxt has⟩⟩
theorem FnA.call (hft:FtOk E) {f:FuncId} {as:List AV} {h:Hp} {K:CR→Hp→Prop} (hc:FnA E f as h K) {fv:AV} {args:List AV} (hcal:callee fv args=some (f,as)):CallA E fv args h K:=by
 obtain ⟨r,h',h1,h2⟩:=hc;exact ⟨r,h',h1.call hft hcal,h2⟩
def endK (E:Env) (fn:Func) (K:CR→Hp→Prop) (x:Ex) (st:St):Prop:=
 match x with
 | .normal=> ∃h' vs,delAll st.mks st.h=some h'∧resOf E st.tm h' fn.results.toList=some vs∧K (.ret (resVal vs)) h'
 | .ret=> ∃h' vs,delAll st.mks st.h=some h'∧resOf E st.tm h' fn.results.toList=some vs∧K (.ret (resVal vs)) h'
 | .panic v=> ∃h',delAll st.mks st.h=some h'∧K (.pan v) h'
 |_=>False
open Classical in
theorem FnA.enter (hft:FtOk E) (htb:Tb E.P E.tb) {f:FuncId} {fn:Func} {body:Code} (hfn:E.ft.get f=some fn) (hb:fn.body=some body) {args:List AV} {h:Hp} {K:CR→Hp→Prop}
  (hw:W E none body {tm:=argsTo args 0 .e,nt:=args.length+(fn.ntmps - args.length),h:=h,mks:=[]} (endK E fn K)):FnA E f args h K:=by
 obtain ⟨x,st,hs,hk⟩:=hw
 let code:CodeF:=fun r c s=>if r=none∧c=body∧s={tm:=argsTo args 0 .e,nt:=args.length+(fn.ntmps - args.length),h:=h,mks:=[]} then some (x,st) else none
 have hc:SoundC E code:=by
  intro r c s y s' he;simp only [code] at he;split at he
  ·rename_i hq;obtain ⟨rfl,rfl,rfl⟩:=hq;cases he;exact hs
  ·cases he
 have key: ∀res h',evEnter E code f args h=some (res,h')→K res h'→FnA E f args h K:=fun res h' he hk=>by
  obtain ⟨n1,hx,s1⟩:=evEnter_ok hft htb hc he;exact ⟨res,h',⟨n1,hx,s1⟩,hk⟩
 cases x with
 |normal=>
  obtain ⟨h',vs,h1,h2,h3⟩:=hk;refine key (.ret (resVal vs)) h' ?_ h3;unfold evEnter;simp only [hfn,hb,code,and_self,if_true,h1,h2]
 |ret=>
  obtain ⟨h',vs,h1,h2,h3⟩:=hk;refine key (.ret (resVal vs)) h' ?_ h3;unfold evEnter;simp only [hfn,hb,code,and_self,if_true,h1,h2]
 |panic v=>
  obtain ⟨h',h1,h3⟩:=hk;refine key (.pan v) h' ?_ h3;unfold evEnter;simp only [hfn,hb,code,and_self,if_true,h1]
 |exit id=>exact hk.elim
 |goto id=>exact hk.elim
def roundK2 (l:Nat) (K:CR→Hp→Prop) (x:Ex) (s:St):Prop:=
 s.mks=[]∧((∃j rc2,jumpOf x=some j∧s.h.t.get l=some (.loop rc2)∧K (.ret (.val (.bool j.isNone))) (s.h.set l (.loop {rc2 with state:=if j.isNone then .ready else .done,pending:=j})))∨ ∃v,x= .panic v∧K (.pan v) s.h)
def roundK1 (E:Env) (l:Nat) (body:Code) (K:CR→Hp→Prop) (x:Ex) (s:St):Prop:=
 x= .normal∧s.mks=[]∧ ∃rc1,s.h.t.get l=some (.loop rc1)∧rc1.state= .ready∧W E (some l) body {s with h:=s.h.set l (.loop {rc1 with state:= .busy})} (roundK2 l K)
open Classical in
theorem CallA.round {l:Nat} {args:List AV} {h:Hp} {K:CR→Hp→Prop} {rc:ALoop} (hl:h.t.get l=some (.loop rc)) (hs:rc.state= .ready) (hnf:rc.nf=E.P.funcs.size) {tm:T AV} (hp:putAll rc.nt rc.params.toList args rc.tmps=some tm)
  (hw:W E (some l) rc.assign {tm:=tm,nt:=rc.nt,h:=h,mks:=[]} (roundK1 E l rc.body K)):CallA E (.yld l) args h K:=by
 obtain ⟨x,st,h1,rfl,hm1,rc1,hl1,hs1,y,st2,h2,hm2,hk⟩:=hw;obtain ⟨tm1,nt1,hh1,mks1⟩:=st;simp only at hm1 hl1 h2;subst hm1
 let code:CodeF:=fun r c s=>if r=some l∧c=rc.body∧s={tm:=tm1,nt:=nt1,h:=hh1.set l (.loop {rc1 with state:= .busy}),mks:=[]} then some (y,st2)
  else if r=some l∧c=rc.assign∧s={tm:=tm,nt:=rc.nt,h:=h,mks:=[]} then some (.normal,{tm:=tm1,nt:=nt1,h:=hh1,mks:=[]}) else none
 have hc:SoundC E code:=by
  intro r c s y s' he;simp only [code] at he;split at he
  ·rename_i hq;obtain ⟨rfl,rfl,rfl⟩:=hq;cases he;exact h2
  ·split at he
   ·rename_i hq;obtain ⟨rfl,rfl,rfl⟩:=hq;cases he;exact h1
   ·cases he
 have hne:({tm:=tm,nt:=rc.nt,h:=h,mks:=[]}:St)≠{tm:=tm1,nt:=nt1,h:=hh1.set l (.loop {rc1 with state:= .busy}),mks:=[]}:=by
  intro he;have e2:h=hh1.set l (.loop {rc1 with state:= .busy}):=congrArg St.h he;rw [e2] at hl;simp only [Hp.set,T.get_put,if_true,Option.some.injEq,AO.loop.injEq] at hl;rw [←hl] at hs;cases hs
 have c1:code (some l) rc.assign {tm:=tm,nt:=rc.nt,h:=h,mks:=[]}=some (.normal,{tm:=tm1,nt:=nt1,h:=hh1,mks:=[]}):=by
  simp only [code];rw [if_neg (fun q=>hne q.2.2)];simp
 have c2:code (some l) rc.body {tm:=tm1,nt:=nt1,h:=hh1.set l (.loop {rc1 with state:= .busy}),mks:=[]}=some (y,st2):=by simp [code]
 have he:evRound E.P code l args h=roundEnd l y st2:=by
  unfold evRound;simp only [hl,hs,hp,c1,hl1,hs1,c2,hnf,Nat.beq_refl,cond_true]
 rcases hk with ⟨j,rc2,hj,hl2,hk⟩|⟨v,rfl,hk⟩
 ·exact ⟨_,_,evRound_ok hc (he.trans (by unfold roundEnd;simp only [hj,hm2,hl2])),hk⟩
 ·exact ⟨_,_,evRound_ok hc (he.trans (by unfold roundEnd;simp only [jumpOf,hm2])),hk⟩
def rangeK (E:Env) (r:Option Nat) (st:St) (l:Nat) (mk1:List Nat) (Q:Ex→St→Prop) (res:CR) (h2:Hp):Prop:=
 match res with
 | .pan v=>Q (.panic v) {st with h:=h2,mks:=mk1}
 | .ret _=> ∃rc,h2.t.get l=some (.loop rc)∧rc.state≠ .busy∧(rc.pending=none→Q .normal {st with h:=h2.set l (.loop {rc with state:= .exhausted}),mks:=mk1})∧
   (∀c,rc.pending=some c→W E r c {st with h:=h2.set l (.loop {rc with state:= .exhausted}),mks:=mk1} Q)
theorem W.range (hft:FtOk E) {r:Option Nat} {f:Operand} {ps:Array Tmp} {assign body:Code} {st:St} {Q:Ex→St→Prop} {l:Nat} {h1:Hp} {mk1:List Nat}
  (hel:evEnterLoop E.P.funcs.size r st.tm st.nt ps assign body st.h st.mks=some (l,h1,mk1)) {g:FuncId} {as:List AV} (hcal:callee (aeval st.tm f) [.yld l]=some (g,as)) (hw:FnA E g as h1 (rangeK E r st l mk1 Q)):
  W E r (.rangeFunc f ps assign body) st Q:=by
 have n0:=evEnterLoop_n hel;obtain ⟨res,h2,⟨n1,⟨fn,hfn,hbd⟩,s1⟩,hk⟩:=hw;have key: ∀lim,h2.n≤lim→ ∀ds c a w,SR E lim c st a w ds→RoundR c r→ ∀Q:Exit→Act→World→Prop,
   (∀c2 w2 a2 e,Stp lim c st.h w c2 h2 w2→ResR c2 res e→c2.dom l→a2.tmps=a.tmps→a2.defers=marksOf c2 mk1++ds→(∀d∈mk1,c2.dom d)→TR c2 st.nt st.tm a2.tmps→(∀b v,E.xt b=some v→c2.ext b=some v)→
    rangeB (r.map c.ρ) E.P (c2.ρ l) Q a2 e w2)→wpB (r.map c.ρ) E.P (.rangeFunc f ps assign body) Q a w:=by
  refine fun lim hl ds c a w s hr Q hQ=>wpB_range fun fnid hfnid=> ?_;obtain ⟨mark,w1,c1,hrun,hst,hdl,hmk,hmd⟩:=enterLoop_ok hel (Nat.le_trans n1 hl) s hr fnid (lt_of_some hfnid);have hfv:=R.mono hst.e _ _ (aeval_ok (a:=a) s.tr f);have hya:RL c1 [.yld l] [.func (.yield (c1.ρ l)) #[] #[]]:=RL.cons (by simp only [R];exact ⟨hdl,trivial⟩) RL.nil;obtain ⟨as',d,has,hd,hinv⟩:=callee_ok (E:=E) hcal hfv hya (hft g fn hfn).1 hbd (hft g fn hfn).2 w1;refine ⟨c1.ρ l,mark,w1,d,w1,g,as'.toArray,w1,hrun,?_,hinv,(s1 lim hl c1 w1 as' hst.good (fun b v hb=>hst.e.ext _ _ (s.ext b v hb)) has).mono fun e w2 ⟨c2,t1,t2⟩=> ?_⟩
  ·show (resolve a.eval (rangeCall f (c1.ρ l)) 0).run E.P w1=_;have e:Array.map a.eval (rangeCall f (c1.ρ l)).args= #[Value.func (.yield (c1.ρ l)) #[] #[]]:=by simp [Act.eval]
   unfold resolve;simp only [e];exact hd
  ·have:=hQ c2 w2 {a with defers:=mark++a.defers} e (hst.trans t1) t2 (t1.e.dom l hdl) rfl (by rw [hmk,marksOf_ext t1.e hmd]) (fun d hd=>t1.e.dom d (hmd d hd)) ((s.tr.mono hst.e).mono t1.e) (fun b v hb=>t1.e.ext _ _ (hst.e.ext _ _ (s.ext b v hb)));rw [t1.e.ρ l hdl] at this;exact this
 cases res with
 |pan v=>
  refine ⟨_,_,⟨Nat.le_trans n0 n1,fun lim hl ds c a w s hr Q hQ=>key lim hl ds c a w s hr Q ?_⟩,hk⟩;intro c2 w2 a2 e t1 t2 t3 t4 t5 t6 t7 t8;obtain ⟨y,rfl,hy⟩:=t2;exact hQ _ _ _ ⟨c2,t1,⟨y,rfl,hy⟩,⟨t7,t1.good,t8,t5,t6⟩⟩
 |ret v=>
  obtain ⟨rc,hrc,hb,hn,hc⟩:=hk;have shut: ∀lim,∀c2 w2,Good lim c2 h2 w2→ ∃w3,(Instr.endLoop (c2.ρ l)).run E.P w2= .ok rc.pending w3∧Stp lim c2 h2 w2 c2 (h2.set l (.loop {rc with state:= .exhausted})) w3:=by
   intro lim c2 w2 g2;obtain ⟨_,o',ho,hro⟩:=g2.live l _ hrc;simp only [RO] at hro;obtain ⟨tmps0,fn0,htr0,hdd,hf0,rfl⟩:=hro;refine ⟨_,run_endLoop ho hb,Stp.write g2 _ hrc (.loop {state:= .exhausted,pending:=rc.pending,fn:=fn0,tmps:=tmps0,params:=rc.params,assign:=rc.assign,body:=rc.body,defers:=c2.ρ rc.defers}) ⟨tmps0,fn0,htr0,hdd,hf0,rfl⟩ rfl⟩
  cases hpd:rc.pending with
  |none=>
   refine ⟨_,_,⟨Nat.le_trans n0 n1,fun lim hl ds c a w s hr Q hQ=>key lim hl ds c a w s hr Q ?_⟩,hn hpd⟩;intro c2 w2 a2 e t1 t2 t3 t4 t5 t6 t7 t8;obtain ⟨y,rfl,_⟩:=t2;obtain ⟨w3,hw3,hst3⟩:=shut lim c2 w2 t1.good;refine ⟨rc.pending,w3,hw3,?_⟩;rw [hpd];exact hQ _ _ _ ⟨c2,t1.trans hst3,rfl,⟨t7,hst3.good,t8,t5,t6⟩⟩
  |some cd=>
   obtain ⟨x,st',⟨n2,s2⟩,hq⟩:=hc cd hpd;refine ⟨x,st',⟨Nat.le_trans (Nat.le_trans n0 n1) n2,fun lim hl ds c a w s hr Q hQ=>key lim (Nat.le_trans n2 hl) ds c a w s hr Q ?_⟩,hq⟩;intro c2 w2 a2 e t1 t2 t3 t4 t5 t6 t7 t8;obtain ⟨y,rfl,_⟩:=t2;obtain ⟨w3,hw3,hst3⟩:=shut lim c2 w2 t1.good;refine ⟨rc.pending,w3,hw3,?_⟩;rw [hpd];have:=s2 lim hl ds c2 a2 w3 ⟨t7,hst3.good,t8,t5,t6⟩ (hr.mono t1.e) Q fun e a' w' p=>hQ _ _ _ ((p.trans hst3).trans t1);rw [Wd_ext t1.e hr] at this;exact this
structure Fr (n:Nat) (h h':Hp):Prop where
 lo:n≤h'.n
 le:h.n≤h'.n
 at_: ∀k,(k<n∨h'.n≤k)→h'.t.get k=h.t.get k
theorem Fr.refl {n:Nat} {h:Hp} (hn:n≤h.n):Fr n h h:=⟨hn,Nat.le_refl _,fun _ _=>rfl⟩
theorem Fr.new {n:Nat} {h h':Hp} (f:Fr n h h') (o:AO):Fr n h (h'.new o):=by
 refine ⟨Nat.le_succ_of_le f.lo,Nat.le_succ_of_le f.le,fun k hk=> ?_⟩;have:=f.lo;simp only [Hp.new] at hk ⊢;rw [T.get_put,if_neg (by omega)];exact f.at_ k (by omega)
theorem Fr.set {n:Nat} {h h':Hp} (f:Fr n h h') {b:Nat} (hb:n≤b) (hb':b<h'.n) (o:AO):Fr n h (h'.set b o):=by
 refine ⟨f.lo,f.le,fun k hk=> ?_⟩;simp only [Hp.set] at hk ⊢;rw [T.get_put,if_neg (by omega)];exact f.at_ k (by omega)
theorem Fr.del {n:Nat} {h h':Hp} (f:Fr n h h') {b:Nat} (hb:n≤b) (hb':b<h'.n):Fr n h (h'.del b):=by
 refine ⟨f.lo,f.le,fun k hk=> ?_⟩;simp only [Hp.del] at hk ⊢;rw [T.get_put,if_neg (by omega)];exact f.at_ k (by omega)
theorem Fr.trans {n m:Nat} {h h1 h2:Hp} (f:Fr n h h1) (g:Fr m h1 h2) (hm:n≤m):Fr n h h2:=by
 refine ⟨Nat.le_trans hm g.lo,Nat.le_trans f.le g.le,fun k hk=> ?_⟩;have:=f.lo;have:=g.le;have:=g.lo;rw [g.at_ k (by omega),f.at_ k (by omega)]
def Hp.up (h:Hp) (n:Nat):Hp:={t:=h.t,n:=n}
@[simp] theorem Hp.up_t (h:Hp) (n:Nat):(h.up n).t=h.t:=rfl
@[simp] theorem Hp.up_n (h:Hp) (n:Nat):(h.up n).n=n:=rfl
theorem Fr.up {n m:Nat} {h h':Hp} (f:Fr n h h') (hm:h'.n≤m):Fr n h (h'.up m):=
 ⟨Nat.le_trans f.lo hm,Nat.le_trans f.le hm,fun k hk=>f.at_ k (by simp only [Hp.up_n] at hk;omega)⟩
theorem Good.key {lim:Nat} {c:Ctx} {h:Hp} {w:World} (g:Good lim c h w) {k:Nat} {o:AO} (e:h.t.get k=some o):k<h.n∨lim≤k:=by
 rcases Nat.lt_or_ge k h.n with h1|h1
 ·exact .inl h1
 ·rcases Nat.lt_or_ge k lim with h2|h2
  ·exact absurd (g.live k o e).1 (g.fresh k h1 h2)
  ·exact .inr h2
theorem FnS.less {f:FuncId} {as:List AV} {h h1 h2:Hp} {res:CR} (hc:FnS E f as h res h1) (hn:h2.n=h1.n) (hs: ∀k o,(k<h.n→h2.t.get k=some o→h1.t.get k=some o)∧(h.n≤k→k<h1.n→h2.t.get k=some o→h1.t.get k=some o)∧(h1.n≤k→h2.t.get k=some o→h1.t.get k=some o)):FnS E f as h res h2:=by
 obtain ⟨n1,hx,s1⟩:=hc;refine ⟨hn▸n1,hx,fun lim hl c w args' g hxt ha=>(s1 lim (hn▸hl) c w args' g hxt ha).mono ?_⟩;rintro e w' ⟨c',s,hr⟩;refine ⟨c',s.less hn (fun k o hk=> ?_),hr⟩;rcases Nat.lt_or_ge k h.n with h3|h3
 ·exact (hs k o).1 h3 hk
 ·rcases Nat.lt_or_ge k h1.n with h4|h4
  ·exact (hs k o).2.1 h3 h4 hk
  ·exact (hs k o).2.2 h4 hk
theorem Stp.bump {lim:Nat} {c c':Ctx} {h h':Hp} {w w':World} (s:Stp lim c h w c' h' w') {n:Nat} (hn:h'.n≤n):Stp lim c h w c' (h'.up n) w':=by
 refine ⟨s.e,⟨fun k h1 h2=>s.good.fresh k (Nat.le_trans hn h1) h2,s.good.live,s.good.inj,s.good.ext⟩,Nat.le_trans s.n hn,fun k hk=> ?_,s.os,s.tape,s.output,s.size,s.fr,s.img,fun k o hk=> ?_⟩
 ·rcases s.grow k hk with h1|h1
  ·exact .inl h1
  ·exact .inr ⟨h1.1,Nat.lt_of_lt_of_le h1.2 hn⟩
 ·rcases s.sub k o hk with h1|h1
  ·exact .inl h1
  ·exact .inr ⟨h1.1,Nat.lt_of_lt_of_le h1.2 hn⟩
theorem FnS.bump {f:FuncId} {as:List AV} {h h':Hp} {res:CR} (hc:FnS E f as h res h') {n:Nat} (hn:h'.n≤n):FnS E f as h res (h'.up n):=by
 obtain ⟨n1,hx,s1⟩:=hc;refine ⟨Nat.le_trans n1 hn,hx,fun lim hl c w args' g hxt ha=> ?_⟩;have hl':n≤lim:=hl;refine (s1 lim (Nat.le_trans hn hl') c w args' g hxt ha).mono ?_;rintro e w' ⟨c',s,hr⟩;exact ⟨c',s.bump hn,hr⟩
theorem FnA.calm {f:FuncId} {as:List AV} {h:Hp} {v:CR} (hc:FnA E f as h (fun r h'=>r=v∧Fr h.n h h')) {K:CR→Hp→Prop} (hk: ∀n,h.n<n→K v (h.up n)):FnA E f as h K:=by
 obtain ⟨res,h1,hs,rfl,fr⟩:=hc;refine ⟨res,h.up (h1.n+1),?_,hk _ (Nat.lt_succ_of_le fr.le)⟩;have hs':FnS E f as h res (h.up h1.n):=by
  obtain ⟨n1,hx,s1⟩:=hs;refine ⟨n1,hx,fun lim hl c w args' g hxt ha=>(s1 lim hl c w args' g hxt ha).mono ?_⟩;rintro e w' ⟨c',s,hr⟩;refine ⟨c',s.less (h2:=h.up h1.n) rfl (fun k o hk=> ?_),hr⟩;have hk':h.t.get k=some o:=hk;rw [fr.at_ k (by rcases g.key hk' with h3|h3;exact .inl h3;exact .inr (Nat.le_trans hl h3))];exact hk'
 exact hs'.bump (n:=h1.n+1) (Nat.le_succ _)
structure SyOk (E:Env):Prop where
 ft:FtOk E
 tb:Tb E.P E.tb
 mixed:E.P.follows .mixedOrders=true
theorem FnA.walk (ok:SyOk E) {f:FuncId} {fn:Func} {body:Code} (hfn:E.ft.get f=some fn) (hb:fn.body=some body) {args:List AV} (nt:Nat) (hnt:args.length+(fn.ntmps - args.length)=nt) {h:Hp} {K:CR→Hp→Prop}
  (hw:wpc E none body ⟨argsTo args 0 .e,nt,h,[]⟩ (endK E fn K)):FnA E f args h K:=
 FnA.enter ok.ft ok.tb hfn hb (wpc.ok ok.tb _ _ _ (by rw [hnt];exact hw))
end
end Go.Ev
end
noncomputable section
namespace Go.Ev
theorem aeval_tmp (tm:T AV) (t:Tmp):aeval tm (.tmp t)=(tm.get t).getD default:=by
 simp only [aeval];cases tm.get t<;>rfl
theorem aeval_const (tm:T AV) (v:Value):aeval tm (.const v)= .val v:=rfl
theorem aeval_global (tm:T AV) (g:Nat):aeval tm (.global g)= .val (.pointer (some ⟨g,0,none⟩)):=rfl
theorem aeval_func (tm:T AV) (f:FuncId):aeval tm (.func f)= .val (.func (.func f) #[] #[]):=rfl
section
variable {P:Program} {tb:T TE} {t:TypeId} {ox oy:Operand}
theorem abin_lss {k:IntKind} (a b:Int):abin P tb .lss t ox oy (.val (.int k a)) (.val (.int k b))=some (.val (.bool (decide (a<b)))):=by
 cases k<;>rfl
theorem abin_leq {k:IntKind} (a b:Int):abin P tb .leq t ox oy (.val (.int k a)) (.val (.int k b))=some (.val (.bool (decide (a≤b)))):=by
 cases k<;>rfl
theorem abin_gtr {k:IntKind} (a b:Int):abin P tb .gtr t ox oy (.val (.int k a)) (.val (.int k b))=some (.val (.bool (decide (b<a)))):=by
 cases k<;>rfl
theorem abin_geq {k:IntKind} (a b:Int):abin P tb .geq t ox oy (.val (.int k a)) (.val (.int k b))=some (.val (.bool (decide (b≤a)))):=by
 cases k<;>rfl
theorem abin_eql {k:IntKind} (a b:Int):abin P tb .eql t ox oy (.val (.int k a)) (.val (.int k b))=some (.val (.bool (decide (a=b)))):=by
 cases k<;>rfl
theorem abin_neq {k:IntKind} (a b:Int):abin P tb .neq t ox oy (.val (.int k a)) (.val (.int k b))=some (.val (.bool (!decide (a=b)))):=by
 cases k<;>rfl
theorem abin_add {k:IntKind} (a b:Int):abin P tb .add t ox oy (.val (.int k a)) (.val (.int k b))=some (.val (.int k (k.wrap (a+b)))):=by
 cases k<;>rfl
theorem abin_sub {k:IntKind} (a b:Int):abin P tb .sub t ox oy (.val (.int k a)) (.val (.int k b))=some (.val (.int k (k.wrap (a - b)))):=by
 cases k<;>rfl
theorem abin_mul {k:IntKind} (a b:Int):abin P tb .mul t ox oy (.val (.int k a)) (.val (.int k b))=some (.val (.int k (k.wrap (a*b)))):=by
 cases k<;>rfl
theorem aun_not (b:Bool):aun P .not (.val (.bool b))=some (.val (.bool (!b))):=rfl
end
section
variable {E:Env} {nt:Nat} {ops:Array Oper} {o:Oper} {ol:List Oper} {tm:T AV} {h h':Hp} {Q:Ex→T AV→Hp→Prop} {K:OR→Prop} {dst:Option Tmp} {ty:TypeId} {ps:String} {af:Array Edge} {g:Option (Nat×Bool)}
def WOn (E:Env) (nt:Nat) (ops:Array Oper) (ol:List Oper) (tm:T AV) (dst:Option Tmp) (Q:Ex→T AV→Hp→Prop):OR→Prop:=orK nt tm dst Q (fun tm' h'=>WO E nt ops ol tm' h' Q)
def gate (gd wt:Bool) (E:Env) (nt:Nat) (ops:Array Oper) (o:Oper) (ol:List Oper) (tm:T AV) (h:Hp) (Q:Ex→T AV→Hp→Prop):Prop:=
 gd=true∧bif wt then WOp E o tm h (WOn E nt ops ol tm o.dst Q) else putK nt tm o.dst default (fun tm'=>WO E nt ops ol tm' h Q)
theorem WO_nil:WO E nt ops [] tm h Q=Q .normal tm h:=rfl
theorem WO_cons:WO E nt ops (o::ol) tm h Q=gate (guardOk nt ops o) (awanted ops o tm) E nt ops o ol tm h Q:=rfl
theorem gate_t:gate true true E nt ops o ol tm h Q=WOp E o tm h (WOn E nt ops ol tm o.dst Q):=by simp [gate]
theorem gate_fs {d:Tmp} {op:Op}:gate true false E nt ops ⟨some d,op,ty,ps,af,g⟩ ol tm h Q=(d<nt∧WO E nt ops ol (tm.put (some default) d) h Q):=by simp [gate,putK]
theorem gate_fn {op:Op}:gate true false E nt ops ⟨none,op,ty,ps,af,g⟩ ol tm h Q=WO E nt ops ol tm h Q:=by simp [gate,putK]
theorem WOn_some {d:Tmp} {v:AV}:WOn E nt ops ol tm (some d) Q (.ok v h')=(d<nt∧WO E nt ops ol (tm.put (some v) d) h' Q):=rfl
theorem WOn_none {v:AV}:WOn E nt ops ol tm none Q (.ok v h')=WO E nt ops ol tm h' Q:=rfl
theorem WOn_pan {v:AV}:WOn E nt ops ol tm dst Q (.pan v h')=Q (.panic v) tm h':=rfl
theorem guardOk_none {op:Op}:guardOk nt ops ⟨dst,op,ty,ps,af,none⟩=true:=rfl
theorem awanted_none {op:Op}:awanted ops ⟨dst,op,ty,ps,af,none⟩ tm=true:=rfl
def gdst (nt:Nat):Option Tmp→Bool
 |none=>true
 |some d=>Nat.blt d nt
theorem guardOk_some {op:Op} {j:Nat} {b:Bool}:guardOk nt ops ⟨dst,op,ty,ps,af,some (j,b)⟩=gdst nt ((ops[j]?).bind (·.dst)):=by
 simp only [guardOk];cases (ops[j]?).bind (·.dst)<;>rfl
def wnt (want:Bool):Option AV→Bool
 |some (.val (.bool b))=>bif b then want else !want
 |_=>false
def wntd (want:Bool) (tm:T AV):Option Tmp→Bool
 |none=>false
 |some d=>wnt want (tm.get d)
theorem awanted_some {op:Op} {j:Nat} {b:Bool}:awanted ops ⟨dst,op,ty,ps,af,some (j,b)⟩ tm=wntd b tm ((ops[j]?).bind (·.dst)):=by
 simp only [awanted];cases (ops[j]?).bind (·.dst) with
 |none=>rfl
 |some d=>rfl
theorem wnt_t {b:Bool}:wnt true (some (.val (.bool b)))=b:=by cases b<;>rfl
theorem wnt_f {b:Bool}:wnt false (some (.val (.bool b)))= !b:=by cases b<;>rfl
theorem gdst_some {d:Nat}:gdst nt (some d)=decide (d<nt):=by
 simp only [gdst];by_cases hd:d<nt
 ·have:Nat.blt d nt=true:=by rw [Nat.blt_eq];exact hd
  simp [this,hd]
 ·have:Nat.blt d nt=false:=by
   cases hb:Nat.blt d nt with
   |false=>rfl
   |true=>rw [Nat.blt_eq] at hb;exact absurd hb hd
  simp [this,hd]
theorem wntd_some {d:Nat} {b:Bool}:wntd b tm (some d)=wnt b (tm.get d):=rfl
def optK (h:Hp) (x:Option AV) (K:OR→Prop):Prop:=
 match x with
 |some v=>K (.ok v h)
 |none=>False
def optH (x:Option Hp) (K:OR→Prop):Prop:=
 match x with
 |some h'=>K (.ok default h')
 |none=>False
def optP (x:Option (AV×Hp)) (K:OR→Prop):Prop:=
 match x with
 |some (v,h')=>K (.ok v h')
 |none=>False
theorem optK_some {v:AV}:optK h (some v) K=K (.ok v h):=rfl
theorem optH_some:optH (some h') K=K (.ok default h'):=rfl
theorem optP_some {v:AV}:optP (some (v,h')) K=K (.ok v h'):=rfl
theorem aopK_eq:aopK E o tm h K=optP (aop E.P E.tb E.xt (aeval tm) o.op h) K:=by
 unfold aopK optP;cases aop E.P E.tb E.xt (aeval tm) o.op h with
 |none=>simp
 |some p=>simp
theorem optP_pr1 {x:Option AV}:optP (pr1 h x) K=optK h x K:=by cases x<;>rfl
theorem optP_prH {x:Option Hp}:optP (prH x) K=optH x K:=by cases x<;>rfl
theorem WOp_move {x:Operand}:WOp E ⟨dst,.move x,ty,ps,af,g⟩ tm h K=K (.ok (aeval tm x) h):=by simp only [WOp,aopK_eq,aop,optP_some]
theorem WOp_assign {x:Operand}:WOp E ⟨dst,.assign x,ty,ps,af,g⟩ tm h K=K (.ok (aeval tm x) h):=by simp only [WOp,aopK_eq,aop,optP_some]
theorem WOp_pick {q x y:Operand}:WOp E ⟨dst,.pick q x y,ty,ps,af,g⟩ tm h K=optP (aoPick h (aeval tm q) (aeval tm x) (aeval tm y)) K:=by simp only [WOp,aopK_eq,aop]
theorem aoPick_b {b:Bool} {x y:AV}:aoPick h (.val (.bool b)) x y=some (bif b then x else y,h):=rfl
theorem WOp_box {e:TypeId} {x:Operand}:WOp E ⟨dst,.box e x,ty,ps,af,g⟩ tm h K=K (.ok (.ptr h.n 0) (h.new (.cells (cellsOf (aeval tm x)) e))):=by simp only [WOp,aopK_eq,aop,optP_some]
theorem WOp_alloc {e:TypeId}:WOp E ⟨dst,.alloc e,ty,ps,af,g⟩ tm h K=optP (aoAlloc E.tb h e) K:=by simp only [WOp,aopK_eq,aop]
theorem WOp_build {t:TypeId} {p:Array (Nat×Operand)}:WOp E ⟨dst,.build t p,ty,ps,af,g⟩ tm h K=optK h (abuildA E.tb t (p.toList.map fun p=>(p.1,aeval tm p.2))) K:=by simp only [WOp,aopK_eq,aop,optP_pr1]
theorem WOp_buildSlice {t:TypeId} {n:Nat} {p:Array (Nat×Operand)}:WOp E ⟨dst,.buildSlice t n p,ty,ps,af,g⟩ tm h K=optP (aoBuildSlice E.tb h t n (p.toList.map fun p=>(p.1,aeval tm p.2))) K:=by simp only [WOp,aopK_eq,aop]
theorem WOp_load {t:TypeId} {x:Operand}:WOp E ⟨dst,.load t x,ty,ps,af,g⟩ tm h K=optK h (aload E.tb E.xt h t (aeval tm x)) K:=by simp only [WOp,aopK_eq,aop,optP_pr1]
theorem WOp_store {t:TypeId} {x y:Operand}:WOp E ⟨dst,.store t x y,ty,ps,af,g⟩ tm h K=optH (astore E.tb h t (aeval tm x) (aeval tm y)) K:=by simp only [WOp,aopK_eq,aop,optP_prH]
theorem WOp_nilCheck {x:Operand}:WOp E ⟨dst,.nilCheck x,ty,ps,af,g⟩ tm h K=optP (bif anilCheck (aeval tm x) then some (aeval tm x,h) else none) K:=by simp only [WOp,aopK_eq,aop]
theorem WOp_bin {op:BinOp} {t t':TypeId} {x y:Operand}:WOp E ⟨dst,.binOp op t x y t',ty,ps,af,g⟩ tm h K=optK h (abin E.P E.tb op t x y (aeval tm x) (aeval tm y)) K:=by simp only [WOp,aopK_eq,aop,optP_pr1]
theorem WOp_un {op:UnOp} {t:TypeId} {x:Operand}:WOp E ⟨dst,.unOp op t x,ty,ps,af,g⟩ tm h K=optK h (aun E.P op (aeval tm x)) K:=by simp only [WOp,aopK_eq,aop,optP_pr1]
theorem WOp_conv {t t':TypeId} {x:Operand}:WOp E ⟨dst,.convert t t' x,ty,ps,af,g⟩ tm h K=optK h (aconv E.tb h t t' (aeval tm x)) K:=by simp only [WOp,aopK_eq,aop,optP_pr1]
theorem WOp_iface {t:TypeId} {x:Operand}:WOp E ⟨dst,.makeInterface t x,ty,ps,af,g⟩ tm h K=optP (aoIface E.tb h t (aeval tm x)) K:=by simp only [WOp,aopK_eq,aop]
theorem WOp_func {f:Fn} {a b:Array Operand}:WOp E ⟨dst,.makeFunc f a b,ty,ps,af,g⟩ tm h K=K (.ok (.fn f (a.toList.map (aeval tm)) (b.toList.map (aeval tm))) h):=by simp only [WOp,aopK_eq,aop,optP_some]
theorem WOp_slice {t:TypeId} {x:Operand} {lo hi:Option Operand}:WOp E ⟨dst,.slice t x lo hi none,ty,ps,af,g⟩ tm h K=optK h (aslice E.tb h t (aeval tm x) (lo.map (aeval tm)) (hi.map (aeval tm))) K:=by simp only [WOp,aopK_eq,aop,aoSlice,optP_pr1]
theorem WOp_fieldAddr {t:TypeId} {x:Operand} {f:Nat}:WOp E ⟨dst,.fieldAddr t x f,ty,ps,af,g⟩ tm h K=optK h (afieldAddr E.tb t (aeval tm x) f) K:=by simp only [WOp,aopK_eq,aop,optP_pr1]
theorem WOp_field {t:TypeId} {x:Operand} {f:Nat}:WOp E ⟨dst,.field t x f,ty,ps,af,g⟩ tm h K=optK h (afield E.tb t (aeval tm x) f) K:=by simp only [WOp,aopK_eq,aop,optP_pr1]
theorem WOp_indexAddr {t:TypeId} {x i:Operand}:WOp E ⟨dst,.indexAddr t x i,ty,ps,af,g⟩ tm h K=optK h (aindexAddr E.tb t (aeval tm x) (aeval tm i)) K:=by simp only [WOp,aopK_eq,aop,optP_pr1]
theorem WOp_index {t:TypeId} {x i:Operand}:WOp E ⟨dst,.index t x i,ty,ps,af,g⟩ tm h K=optK h (aindex E.tb t (aeval tm x) (aeval tm i)) K:=by simp only [WOp,aopK_eq,aop,optP_pr1]
theorem WOp_extract {x:Operand} {i:Nat}:WOp E ⟨dst,.extract x i,ty,ps,af,g⟩ tm h K=optK h (aextract (aeval tm x) i) K:=by simp only [WOp,aopK_eq,aop,optP_pr1]
theorem WOp_builtin {b:Builtin} {a:Array Operand} {ts:Array TypeId}:WOp E ⟨dst,.call ⟨.builtin b,a,ts⟩,ty,ps,af,g⟩ tm h K=optP (abuiltin E.P E.tb E.xt b ts.toList (a.toList.map (aeval tm)) h) K:=by
 simp only [WOp,calK,aopK_eq,aop,aoCall]
theorem WOp_call {f:Operand} {a:Array Operand} {ts:Array TypeId}:WOp E ⟨dst,.call ⟨.value f,a,ts⟩,ty,ps,af,g⟩ tm h K=CallA E (aeval tm f) (a.toList.map (aeval tm)) h (resK K):=by
 simp only [WOp,calK]
theorem WOp_invoke {x:Operand} {nm:String} {a:Array Operand} {ts:Array TypeId}:WOp E ⟨dst,.call ⟨.invoke x nm,a,ts⟩,ty,ps,af,g⟩ tm h K=CallA E (.val (.func (.method nm) #[] #[])) (aeval tm x::a.toList.map (aeval tm)) h (resK K):=by
 simp only [WOp,calK]
theorem WOp_panic {x:Operand}:WOp E ⟨dst,.panic x,ty,ps,af,g⟩ tm h K=panK h (aeval tm x) K:=by simp only [WOp]
theorem panK_ifc {t:TypeId} {v:AV}:panK h (.ifc t v) K=K (.pan (.ifc t v) h):=by simp [panK,evOpPanic]
theorem resK_ret {v:AV}:resK K (.ret v) h=K (.ok v h):=rfl
theorem resK_pan {v:AV}:resK K (.pan v) h=K (.pan v h):=rfl
theorem abuiltin_len {P:Program} {tb:T TE} {xt:Addr→Option Value} {t:TypeId} {a:AV}:optP (abuiltin P tb xt .len [t] [a] h) K=optK h ((alen tb h t a).map fun (n:Nat)=>AV.val (.int .i64 (n:Int))) K:=by
 simp only [abuiltin];cases alen tb h t a<;>rfl
theorem callA_func (ok:SyOk E) {f:FuncId} {args:List AV} {K:CR→Hp→Prop} (hc:FnA E f args h K):CallA E (.val (.func (.func f) #[] #[])) args h K:=hc.call ok.ft (by simp [callee])
end
section
variable {E:Env} {r:Option Nat} {tm:T AV} {nt:Nat} {h:Hp} {mks:List Nat} {Q:Ex→St→Prop}
theorem seq_reg {id:Nat} {ops:Array Oper} {b:Code} (hw: ∀K:Ex→T AV→Hp→Prop,(∀tm h,wpc E r b ⟨tm,nt,h,mks⟩ Q→K .normal tm h)→(∀v tm h,Q (.panic v) ⟨tm,nt,h,mks⟩→K (.panic v) tm h)→WO E nt ops ops.toList tm h K):
  wpc E r (.seq (.region id ops false) b) ⟨tm,nt,h,mks⟩ Q:=by
 show WO E nt ops ops.toList tm h (regK ⟨tm,nt,h,mks⟩ (seqK (fun s=>wpc E r b s Q) Q));exact hw _ (fun tm h hh=>hh) (fun v tm h hh=>hh)
theorem reg {id:Nat} {ops:Array Oper} (hw: ∀K:Ex→T AV→Hp→Prop,(∀tm h,Q .normal ⟨tm,nt,h,mks⟩→K .normal tm h)→(∀v tm h,Q (.panic v) ⟨tm,nt,h,mks⟩→K (.panic v) tm h)→WO E nt ops ops.toList tm h K):
  wpc E r (.region id ops false) ⟨tm,nt,h,mks⟩ Q:=by
 show WO E nt ops ops.toList tm h (regK ⟨tm,nt,h,mks⟩ Q);exact hw _ (fun tm h hh=>hh) (fun v tm h hh=>hh)
theorem seq_seq {a b c:Code} {st:St} (hw:wpc E r (.seq a (.seq b c)) st Q):wpc E r (.seq (.seq a b) c) st Q:=by
 have e:(seqK (fun s=>wpc E r b s (seqK (fun s=>wpc E r c s Q) Q)) (seqK (fun s=>wpc E r c s Q) Q))=seqK (fun s=>wpc E r b s (seqK (fun s=>wpc E r c s Q) Q)) Q:=by
  funext x s;cases x<;>rfl
 show wpc E r a st (seqK (fun s=>wpc E r b s (seqK (fun s=>wpc E r c s Q) Q)) (seqK (fun s=>wpc E r c s Q) Q));rw [e];exact hw
theorem seq_skip {b:Code} {st:St} (hw:wpc E r b st Q):wpc E r (.seq .skip b) st Q:=hw
theorem seq_exit {id:Nat} {b:Code} {st:St} (hw:Q (.exit id) st):wpc E r (.seq (.exit id) b) st Q:=hw
theorem seq_ret {b:Code} {st:St} (hw:Q .ret st):wpc E r (.seq .ret b) st Q:=hw
theorem wpc_ret {st:St} (hq:Q .ret st):wpc E r .ret st Q:=hq
theorem wpc_skip {st:St} (hq:Q .normal st):wpc E r .skip st Q:=hq
theorem wpc_cond {q:Operand} {a b:Code} {st:St} (t:Bool) (ht:aeval st.tm q= .val (.bool t)) (h1:t=true→wpc E r a st Q) (h2:t=false→wpc E r b st Q):wpc E r (.cond q a b) st Q:=by
 show condK (aeval st.tm q) _ _;rw [ht];exact ⟨h1,h2⟩
theorem seq_cond {q:Operand} {a b c:Code} {st:St} (t:Bool) (ht:aeval st.tm q= .val (.bool t)) (h1:t=true→wpc E r (.seq a c) st Q) (h2:t=false→wpc E r (.seq b c) st Q):wpc E r (.seq (.cond q a b) c) st Q:=by
 show condK (aeval st.tm q) _ _;rw [ht];exact ⟨h1,h2⟩
theorem wpc_block {id:Nat} {b:Code} {st:St} (hw: ∀K:Ex→St→Prop,(∀s,Q .normal s→K .normal s)→(∀s,Q .normal s→K (.exit id) s)→(∀id' s,id'≠id→Q (.exit id') s→K (.exit id') s)→(∀s,Q .ret s→K .ret s)→(∀v s,Q (.panic v) s→K (.panic v) s)→wpc E r b st K):
  wpc E r (.block id b) st Q:=by
 refine hw (blockK id Q) (fun s hh=>hh) (fun s hh=> ?_) (fun id' s hne hh=> ?_) (fun s hh=>hh) (fun v s hh=>hh)
 ·show Q (bif Nat.beq id id then .normal else .exit id) s;have:Nat.beq id id=true:=by simp
  rw [this];exact hh
 ·show Q (bif Nat.beq id' id then .normal else .exit id') s;have:Nat.beq id' id=false:=by cases hb:Nat.beq id' id;rfl;exact absurd (Nat.eq_of_beq_eq_true hb) hne
  rw [this];exact hh
theorem seq_block {id:Nat} {b c:Code} {st:St} (hw: ∀K:Ex→St→Prop,(∀s,wpc E r c s Q→K .normal s)→(∀s,wpc E r c s Q→K (.exit id) s)→(∀id' s,id'≠id→Q (.exit id') s→K (.exit id') s)→(∀s,Q .ret s→K .ret s)→(∀v s,Q (.panic v) s→K (.panic v) s)→wpc E r b st K):
  wpc E r (.seq (.block id b) c) st Q:=
 wpc_block (Q:=seqK (fun s=>wpc E r c s Q) Q) hw
theorem wpc_loop (ok:SyOk E) {b:Code} (I:St→Prop) (μ:St→Nat) (hb: ∀st,I st→wpc E r b st (loopK I μ st Q)) {st:St} (hi:I st):wpc E r (.loop b) st Q:=
 W.loop I μ (fun s hs=>wpc.ok ok.tb _ _ _ (hb s hs)) hi
theorem end_1 {fn:Func} {K:CR→Hp→Prop} {t:Tmp} (h1:fn.results.toList=[.tmp t]) (h3:K (.ret ((tm.get t).getD default)) h):endK E fn K .ret ⟨tm,nt,h,[]⟩:=by
 refine ⟨h,_,rfl,by rw [h1];rfl,?_⟩;have:(match tm.get t with|some a=>a|none=>default)=(tm.get t).getD default:=by cases tm.get t<;>rfl
 show K (.ret (match tm.get t with|some a=>a|none=>default)) h;rw [this];exact h3
theorem end_2 {fn:Func} {K:CR→Hp→Prop} {t u:Tmp} (h1:fn.results.toList=[.tmp t,.tmp u]) (h3:K (.ret (.tup [(tm.get t).getD default,(tm.get u).getD default])) h):endK E fn K .ret ⟨tm,nt,h,[]⟩:=by
 refine ⟨h,_,rfl,by rw [h1];rfl,?_⟩;have e1:(match tm.get t with|some a=>a|none=>default)=(tm.get t).getD default:=by cases tm.get t<;>rfl
 have e2:(match tm.get u with|some a=>a|none=>default)=(tm.get u).getD default:=by cases tm.get u<;>rfl
 show K (.ret (.tup [match tm.get t with|some a=>a|none=>default,match tm.get u with|some a=>a|none=>default])) h;rw [e1,e2];exact h3
end
end Go.Ev
end
noncomputable section
namespace Go.Ev
def RowAt (xt:Addr→Option Value) (h:Hp) (sz:Nat) (v:AV) (cs:List (List Value)):Prop:=
 (∀c∈cs,c.length=sz)∧0<sz∧
 ((v= .val (.slice none 0 0)∧cs=[])∨
  (∃ad cap,v= .val (.slice (some ad) cs.length cap)∧ ∀i c,cs[i]? =some c→ ∀j u,c[j]? =some u→xt (ad.add (i*sz+j))=some u)∨
  (∃b off av e,v= .sl b off cs.length sz∧(b<h.n∧off+cs.length*sz≤av.length∧h.t.get b=some (.cells av e))∧ ∀i c,cs[i]? =some c→ ∀j u,c[j]? =some u→av[off+(i*sz+j)]? =some (.val u)))
def elp (v:AV) (k:Nat):AV:=
 match v with
 | .sl b off _ _=> .ptr b (off+k)
 | .val (.slice (some ad) _ _)=> .val (.pointer (some (ad.add k)))
 |_=>default
section
variable {xt:Addr→Option Value} {h:Hp} {sz:Nat} {v:AV} {cs:List (List Value)} {tb:T TE} {t e:TypeId} {te ee:TE}
theorem RowAt.keep {h':Hp} (r:RowAt xt h sz v cs) (hn:h.n≤h'.n) (hk: ∀b,b<h.n→h'.t.get b=h.t.get b):RowAt xt h' sz v cs:=by
 obtain ⟨h1,h2,h3⟩:=r;refine ⟨h1,h2,?_⟩;rcases h3 with h3|h3|⟨b,off,av,e,hv,⟨hlt,hle,hb⟩,hc⟩
 ·exact .inl h3
 ·exact .inr (.inl h3)
 ·exact .inr (.inr ⟨b,off,av,e,hv,⟨Nat.lt_of_lt_of_le hlt hn,hle,by rw [hk b hlt];exact hb⟩,hc⟩)
theorem RowAt.up (r:RowAt xt h sz v cs) {n:Nat} (hn:h.n≤n):RowAt xt (h.up n) sz v cs:=r.keep hn fun _ _=>rfl
theorem RowAt.new (r:RowAt xt h sz v cs) (o:AO):RowAt xt (h.new o) sz v cs:=r.keep (Nat.le_succ _) fun b hb=>by
 show (h.t.put (some o) h.n).get b=_;rw [T.get_put,if_neg (by omega)]
theorem RowAt.set (r:RowAt xt h sz v cs) {k:Nat} (hk: ∀off n s,v≠ .sl k off n s) (o:AO):RowAt xt (h.set k o) sz v cs:=by
 obtain ⟨h1,h2,h3⟩:=r;refine ⟨h1,h2,?_⟩;rcases h3 with h3|h3|⟨b,off,av,e,hv,⟨hlt,hle,hb⟩,hc⟩
 ·exact .inl h3
 ·exact .inr (.inl h3)
 ·refine .inr (.inr ⟨b,off,av,e,hv,⟨hlt,hle,?_⟩,hc⟩);show (h.t.put (some o) k).get b=_;rw [T.get_put,if_neg (by rintro rfl;exact hk _ _ _ hv)];exact hb
theorem RowAt.fr (r:RowAt xt h sz v cs) {m:Nat} {h':Hp} (f:Fr m h h') (hm:h.n≤m):RowAt xt h' sz v cs:=r.keep f.le fun b hb=>f.at_ b (.inl (Nat.lt_of_lt_of_le hb hm))
theorem RowAt.one (r:RowAt xt h sz v cs):one v=true:=by
 obtain ⟨_,_,h3⟩:=r;rcases h3 with ⟨rfl,_⟩|⟨_,_,rfl,_⟩|⟨_,_,_,_,rfl,_⟩<;>rfl
theorem RowAt.cells (r:RowAt xt h sz v cs):cellsOf v=[v]:=by
 obtain ⟨_,_,h3⟩:=r;rcases h3 with ⟨rfl,_⟩|⟨_,_,rfl,_⟩|⟨_,_,_,_,rfl,_⟩<;>rfl
theorem RowAt.len (r:RowAt xt h sz v cs) (ht:tb.get t=some te) (hd:te.d= .slice e) {h':Hp}:alen tb h' t v=some cs.length:=by
 obtain ⟨_,_,h3⟩:=r;rcases h3 with ⟨rfl,rfl⟩|⟨ad,cap,rfl,_⟩|⟨b,off,av,e',rfl,_⟩<;>simp [alen,ht,hd]
theorem RowAt.idx (r:RowAt xt h sz v cs) (ht:tb.get t=some te) (hd:te.d= .slice e) (he:tb.get e=some ee) (hs:ee.size=sz) {i:Nat} (hi:i<cs.length) {k:IntKind}:aindexAddr tb t v (.val (.int k (i:Int)))=some (elp v (i*sz)):=by
 obtain ⟨_,_,h3⟩:=r;have e1:aint (.val (.int k (i:Int)))=some (Int.ofNat i):=rfl;have e2:Nat.blt i cs.length=true:=by rw [Nat.blt_eq];exact hi
 rcases h3 with ⟨rfl,rfl⟩|⟨ad,cap,rfl,_⟩|⟨b,off,av,e',rfl,_⟩
 ·simp at hi
 ·simp [aindexAddr,ht,e1,hd,he,e2,hs,elp]
 ·simp [aindexAddr,ht,e1,hd,he,e2,hs,elp]
theorem RowAt.load (r:RowAt xt h sz v cs) (ht:tb.get t=some te) (ha:te.agg=false) {i j:Nat} {c:List Value} {u:Value} (hc:cs[i]? =some c) (hu:c[j]? =some u):aload tb xt h t (elp v (i*sz+j))=some (.val u):=by
 obtain ⟨_,_,h3⟩:=r;rcases h3 with ⟨rfl,rfl⟩|⟨ad,cap,rfl,hx⟩|⟨b,off,av,e',rfl,⟨_,_,hb⟩,hx⟩
 ·simp at hc
 ·simp [aload,ht,ha,elp,hx i c hc j u hu]
 ·simp [aload,ht,ha,elp,hb,hx i c hc j u hu]
theorem RowAt.load0 (r:RowAt xt h sz v cs) (ht:tb.get t=some te) (ha:te.agg=false) {i:Nat} {c:List Value} {u:Value} (hc:cs[i]? =some c) (hu:c[0]? =some u):aload tb xt h t (elp v (i*sz))=some (.val u):=r.load ht ha (j:=0) hc hu
theorem extCells_of {ad:Addr}: ∀(n k:Nat) (c:List Value),c.length=n→(∀j u,c[j]? =some u→xt (ad.add (k+j))=some u)→extCells xt ad n k=some c
 |0,k,c,hl,_=>by rw [List.eq_nil_of_length_eq_zero hl];rfl
 |n+1,k,[],hl,_=>by simp at hl
 |n+1,k,u::c,hl,hx=>by
  have h0:=hx 0 u rfl;simp only [Nat.add_zero] at h0;have:=extCells_of n (k+1) c (by simpa using hl) (fun j u' hj=>by have:=hx (j+1) u' (by simpa using hj);rwa [show k+(j+1)=k+1+j by omega] at this);simp [extCells,h0,this]
end
end Go.Ev
end
noncomputable section
namespace Go.Ev
theorem add_add (a:Addr) (m n:Nat):(a.add m).add n=a.add (m+n):=by
 simp only [Addr.add];by_cases h1:m=0<;>by_cases h2:n=0<;>simp [h1,h2,Nat.add_assoc]
end Go.Ev
end
noncomputable section
namespace Go.Ev
theorem Hp.new_t (h:Hp) (o:AO):(h.new o).t=h.t.put (some o) h.n:=rfl
theorem Hp.new_n (h:Hp) (o:AO):(h.new o).n=h.n+1:=rfl
theorem Hp.set_t (h:Hp) (k:Nat) (o:AO):(h.set k o).t=h.t.put (some o) k:=rfl
theorem Hp.set_n (h:Hp) (k:Nat) (o:AO):(h.set k o).n=h.n:=rfl
theorem Hp.del_t (h:Hp) (k:Nat):(h.del k).t=h.t.put none k:=rfl
theorem Hp.del_n (h:Hp) (k:Nat):(h.del k).n=h.n:=rfl
def cellGet:Option AO→Nat→Option AV
 |some (.cells cs _),off=>cs[off]?
 |_,_=>none
def cellAgg (sz:Nat):Option AO→Nat→Option AV
 |some (.cells cs _),off=>if off+sz≤cs.length then some (.agg ((cs.drop off).take sz)) else none
 |_,_=>none
theorem cellGet_some {cs:List AV} {e:TypeId} {off:Nat}:cellGet (some (.cells cs e)) off=cs[off]? :=rfl
theorem cellAgg_some {sz:Nat} {cs:List AV} {e:TypeId} {off:Nat}:cellAgg sz (some (.cells cs e)) off=if off+sz≤cs.length then some (.agg ((cs.drop off).take sz)) else none:=rfl
def cellPut (sz:Nat) (h:Hp) (b off:Nat) (v:AV):Option AO→Option Hp
 |some (.cells cs e)=>if (cellsOf v).length=sz∧off+sz≤cs.length∧(cellsOf v).all one=true then some (h.set b (.cells (cs.take off++cellsOf v++cs.drop (off+sz)) e)) else none
 |_=>none
theorem cellPut_some {sz:Nat} {h:Hp} {b off:Nat} {v:AV} {cs:List AV} {e:TypeId}:cellPut sz h b off v (some (.cells cs e))=if (cellsOf v).length=sz∧off+sz≤cs.length∧(cellsOf v).all one=true then some (h.set b (.cells (cs.take off++cellsOf v++cs.drop (off+sz)) e)) else none:=rfl
section
variable {tb:T TE} {xt:Addr→Option Value} {h:Hp} {t e:TypeId} {te ee:TE} {b off:Nat}
theorem ld_of (ht:tb.get t=some te) (ha:te.agg=false):aload tb xt h t (.ptr b off)=cellGet (h.t.get b) off:=by
 simp only [aload,ht,ha,cellGet,cond_false];cases h.t.get b with
 |none=>rfl
 |some o=>cases o<;>rfl
theorem lda_of {sz:Nat} (ht:tb.get t=some te) (ha:te.agg=true) (hs:te.size=sz):aload tb xt h t (.ptr b off)=cellAgg sz (h.t.get b) off:=by
 simp only [aload,ht,ha,hs,cond_true];cases h.t.get b with
 |none=>rfl
 |some o=>
  cases o with
  |cells cs e=>
   simp only [cellAgg];by_cases hc:off+sz≤cs.length
   ·have:Nat.ble (off+sz) cs.length=true:=by rw [Nat.ble_eq];exact hc
    rw [this,if_pos hc];rfl
   ·have:Nat.ble (off+sz) cs.length=false:=by
     cases hb:Nat.ble (off+sz) cs.length with
     |false=>rfl
     |true=>rw [Nat.ble_eq] at hb;exact absurd hb hc
    rw [this,if_neg hc];rfl
  |_=>rfl
theorem st_of {sz:Nat} {v:AV} (ht:tb.get t=some te) (hs:te.size=sz):astore tb h t (.ptr b off) v=cellPut sz h b off v (h.t.get b):=by
 simp only [astore,ht,hs];cases h.t.get b with
 |none=>rfl
 |some o=>
  cases o with
  |cells cs e=>
   simp only [cellPut];have hq:(Nat.beq (cellsOf v).length sz && (Nat.ble (off+sz) cs.length && (cellsOf v).all one))=decide ((cellsOf v).length=sz∧off+sz≤cs.length∧(cellsOf v).all one=true):=by
    rw [Bool.eq_iff_iff];simp [Nat.beq_eq_true_eq,Nat.ble_eq]
   rw [hq];by_cases hc:(cellsOf v).length=sz∧off+sz≤cs.length∧(cellsOf v).all one=true
   ·rw [if_pos hc,decide_eq_true hc];rfl
   ·rw [if_neg hc,decide_eq_false hc];rfl
  |_=>rfl
theorem fa_of {fs:List (Nat×Nat×TypeId)} {f o sz:Nat} {ft:TypeId} (ht:tb.get t=some te) (hd:te.d= .struct fs) (hf:fs[f]? =some (o,sz+1,ft)):afieldAddr tb t (.ptr b off) f=some (.ptr b (off+o)):=by
 simp only [afieldAddr,ht,hd,hf];rfl
theorem al_of {zs:List Value} (ht:tb.get t=some te) (hz:te.zero=zs):aoAlloc tb h t=some (.ptr h.n 0,h.new (.cells (zs.map .val) t)):=by
 simp only [aoAlloc,ht,hz]
end
theorem cellsOf_agg (cs:List AV):cellsOf (.agg cs)=cs:=rfl
theorem cellsOf_int (k:IntKind) (n:Int):cellsOf (.val (.int k n))=[.val (.int k n)]:=rfl
theorem cellsOf_bool (b:Bool):cellsOf (.val (.bool b))=[.val (.bool b)]:=rfl
theorem cellsOf_vagg (cs:Array Value):cellsOf (.val (.agg cs))=cs.toList.map .val:=rfl
theorem cellsOf_ptr (b o:Nat):cellsOf (.ptr b o)=[.ptr b o]:=rfl
theorem cellsOf_sl (b o n e:Nat):cellsOf (.sl b o n e)=[.sl b o n e]:=rfl
theorem cellsOf_slv (a:Option Addr) (n c:Nat):cellsOf (.val (.slice a n c))=[.val (.slice a n c)]:=rfl
theorem cellsOf_fn (f:Fn) (a b:List AV):cellsOf (.fn f a b)=[.fn f a b]:=rfl
theorem cellsOf_yld (l:Nat):cellsOf (.yld l)=[.yld l]:=rfl
theorem one_int (k:IntKind) (n:Int):one (.val (.int k n))=true:=rfl
theorem one_bool (b:Bool):one (.val (.bool b))=true:=rfl
theorem one_slv (a:Option Addr) (n c:Nat):one (.val (.slice a n c))=true:=rfl
theorem one_sl (b o n e:Nat):one (.sl b o n e)=true:=rfl
theorem one_ptr (b o:Nat):one (.ptr b o)=true:=rfl
theorem one_fn (f:Fn) (a b:List AV):one (.fn f a b)=true:=rfl
theorem one_yld (l:Nat):one (.yld l)=true:=rfl
theorem abuiltin_min {P:Program} {tb:T TE} {xt:Addr→Option Value} {ts:List TypeId} {h:Hp} (a b:Int):abuiltin P tb xt .min ts [.val (.int .i64 a),.val (.int .i64 b)] h=some (.val (.int .i64 (min a b)),h):=by
 have:aminmax P (Builtin.min_ #[] 0) [.val (.int .i64 a),.val (.int .i64 b)]=some (.val (.int .i64 (min a b))):=by
  have e:(Builtin.min_ #[] 0 #[.int .i64 a,.int .i64 b])=pure (.int .i64 (min a b)):=by
   simp [Builtin.min_,Builtin.min2]
   congr 2;omega
  simp only [aminmax,toVals,toVal,e];rfl
 simp only [abuiltin,this]
theorem abuiltin_max {P:Program} {tb:T TE} {xt:Addr→Option Value} {ts:List TypeId} {h:Hp} (a b:Int):abuiltin P tb xt .max ts [.val (.int .i64 a),.val (.int .i64 b)] h=some (.val (.int .i64 (max a b)),h):=by
 have:aminmax P (Builtin.max_ #[] 0) [.val (.int .i64 a),.val (.int .i64 b)]=some (.val (.int .i64 (max a b))):=by
  have e:(Builtin.max_ #[] 0 #[.int .i64 a,.int .i64 b])=pure (.int .i64 (max a b)):=by
   simp [Builtin.max_,Builtin.max2]
   congr 2;omega
  simp only [aminmax,toVals,toVal,e];rfl
 simp only [abuiltin,this]
end Go.Ev
end
noncomputable section
namespace Go.Ev
theorem Hp.up_up (h:Hp) (n m:Nat):(h.up n).up m=h.up m:=rfl
theorem wrap_i64 (x:Int) (h1: -9223372036854775808≤x) (h2:x≤9223372036854775807):IntKind.i64.wrap x=x:=by
 simp only [IntKind.wrap,IntKind.bits,IntKind.signed];simp;omega
end Go.Ev
end
noncomputable section
namespace Go.Ev
theorem end_c1 {E:Env} {fn:Func} {K:CR→Hp→Prop} {tm:T AV} {nt:Nat} {h:Hp} {t u:Tmp} {ty:TypeId} {v:AV} (h1:fn.results.toList=[.cell t ty,.tmp u]) (h2:aload E.tb E.xt h ty ((tm.get t).getD default)=some v) (h3:K (.ret (.tup [v,(tm.get u).getD default])) h):endK E fn K .ret ⟨tm,nt,h,[]⟩:=by
 refine ⟨h,[v,(tm.get u).getD default],rfl,?_,h3⟩;have e1:(match tm.get t with|some a=>a|none=>default)=(tm.get t).getD default:=by cases tm.get t<;>rfl
 have e2:(match tm.get u with|some a=>a|none=>default)=(tm.get u).getD default:=by cases tm.get u<;>rfl
 rw [h1];show (match aload E.tb E.xt h ty (match tm.get t with|some a=>a|none=>default) with|none=>none|some v=>match some [match tm.get u with|some a=>a|none=>default] with|none=>none|some l=>some (v::l))=_;rw [e1,h2,e2]
theorem RowAt.src {xt:Addr→Option Value} {h:Hp} {v:AV} {xs:List Int} (r:RowAt xt h 1 v (xs.map fun x=>[.int .i64 x])):asrc xt h 1 v=some (xs.length,xs.map fun x=> .val (.int .i64 x)):=by
 obtain ⟨h1,h2,h3⟩:=r;rcases h3 with ⟨rfl,hn⟩|⟨ad,cap,rfl,hx⟩|⟨b,off,av,e',rfl,⟨_,hle,hb⟩,hx⟩
 ·have:xs=[]:=by simpa using hn
  subst this;rfl
 ·have hex:=extCells_of (xt:=xt) (ad:=ad) xs.length 0 (xs.map fun x=> .int .i64 x) (by simp) (fun j u hj=>by
   simp only [List.getElem?_map,Option.map_eq_some_iff] at hj;obtain ⟨x,hj,rfl⟩:=hj;have:=hx j [.int .i64 x] (by simp [hj]) 0 _ rfl;simpa using this)
  simp only [asrc,List.length_map,Nat.mul_one,hex];have:((xs.map fun x=>Value.int .i64 x).all Value.oneCell')=true:=by simp [Value.oneCell']
  rw [this];simp
 ·have hall: ∀j x,xs[j]? =some x→av[off+j]? =some (.val (.int .i64 x)):=fun j x hj=>by
   have:=hx j [.int .i64 x] (by simp [hj]) 0 _ rfl;simpa using this
  simp only [List.length_map,Nat.mul_one] at hle;have e1:(av.drop off).take xs.length=xs.map fun x=> .val (.int .i64 x):=by
   apply List.ext_getElem?
   intro j;by_cases hj:j<xs.length
   ·rw [List.getElem?_take,if_pos hj,List.getElem?_drop,hall j xs[j] (List.getElem?_eq_getElem hj)];simp [hj]
   ·rw [List.getElem?_take,if_neg hj];have:(xs.map fun x=>AV.val (.int .i64 x))[j]? =none:=List.getElem?_eq_none (by simp;omega);rw [this]
  have e2:Nat.ble (off+xs.length) av.length=true:=by rw [Nat.ble_eq];exact hle
  have e3:((xs.map fun x=>AV.val (.int .i64 x)).all Go.Ev.one)=true:=by simp [one_int]
  simp only [asrc,hb,List.length_map,Nat.mul_one,e1,e2,e3];rfl
end Go.Ev
end
noncomputable section
namespace Go.Ev
open Classical
section
variable {P:Program} {tb:T TE} {xt:Addr→Option Value} {call:CallF} {ops:Array Oper} {s:Sta} {S:Nat→DS} {k:Nat→Kd} {v:Nat→AV} {hp:Nat→Hp}
def DChk (P:Program) (tb:T TE) (xt:Addr→Option Value) (call:CallF) (st:DS) (N:Nat):Prop:=
 ∀r∈st.rs,∀e∈({j:=st.ne,b:=st.b,mj:=st.mj,nx:=N}:BE)::st.bs,e.j=r.ne∨bt r.m e.nx=true∨bt e.mj r.i=true∨ ∃h'',evOp P tb xt call r.o r.tm {t:=ovl (fun f=>bt r.m f && !bt e.mj f) st.fs e.b,n:=r.n}=some (.ok r.v h'')
theorem drun_okP (htb:Tb P tb) (hs:Sound P xt call) {nt:Nat} {ops:Array Oper} {tm:T AV} {h:Hp} {s:Sta} (hsta:sta ops=some s) (hmx:s.mx≤nt) {st:DS}
  (hrun:drun P tb xt call ops ops.toList s.ms {i:=0,tm:=tm,n:=h.n,b:=h.t,mj:=0,dl:=0,ne:=0,fs:=[],bs:=[],rs:=[]}=some st) (hchk:DChk P tb xt call st ops.size):
  h.n≤st.n∧ ∀lim,st.n≤lim→ ∀c a w r t,Good lim c h w→(∀b v,xt b=some v→c.ext b=some v)→TR c nt tm a.tmps→
   ∀Q:Exit→Act→World→Prop,(∀e a' w',Post lim c h w nt a.defers .normal st.tm {t:=ovl (fun f=> !bt st.mj f) st.fs st.b,n:=st.n} e a' w'→Q e a' w')→wpOpsIn (Wd r) 0 P ops Q (Region.linearise .any ops t) a {w with drawn:=w.drawn+1}:=by
 unfold sta at hsta;split at hsta
 ·cases hsta
 rename_i ms hms;split at hsta
 ·cases hsta
 rename_i wr mx hwr;obtain ⟨hlk,hsta⟩:=cond_some hsta;cases hsta;obtain ⟨M1,_,M3⟩:=masks_ok _ _ _ hms;obtain ⟨_,_,W3,W4⟩:=wrs_ok _ _ _ _ _ _ hwr;have L:=looksOk_ok _ _ hlk;obtain ⟨S,k,v,hp,hR,hS0,hSN⟩:=run_of (s:={ms:=ms,wr:=wr,mx:=mx}) rfl hrun;have hfs0:(S 0).fs=[]:=by rw [hS0]
 have hne0:(S 0).ne=0:=by rw [hS0]
 have hget: ∀{i m},ms[i]? =some m→ms.getD i 0=m:=fun h=>by rw [List.getD_eq_getElem?_getD,h];rfl
 have m1: ∀i o,ops[i]? =some o→ ∀e∈o.after,Region.binds .any e=true→e.on<i∧(ms.getD i 0).testBit e.on=true∧ ∀k,(ms.getD e.on 0).testBit k=true→(ms.getD i 0).testBit k=true:=fun i o ho e hee hb=>by
  obtain ⟨m,g1,g2,_⟩:=M3 i o (by simpa using ho);simp only [List.length_nil,Nat.zero_add] at g1 g2;obtain ⟨a1,a2,a3⟩:=g2 e hee hb;rw [hget g1];refine ⟨a1,a2,fun k hk=> ?_⟩;cases hme:ms[e.on]? with
  |none=>rw [List.getD_eq_getElem?_getD,hme] at hk;simp at hk
  |some me=>rw [hget hme] at hk;exact a3 me hme k hk
 have m2: ∀i o,ops[i]? =some o→ ∀k,(ms.getD i 0).testBit k=true→ ∃e∈o.after,Region.binds .any e=true∧(k=e.on∨(ms.getD e.on 0).testBit k=true):=fun i o ho k hk=>by
  obtain ⟨m,g1,_,g3⟩:=M3 i o (by simpa using ho);simp only [List.length_nil,Nat.zero_add] at g1;rw [hget g1] at hk;obtain ⟨e,a1,a2,a3⟩:=g3 k hk;refine ⟨e,a1,a2,?_⟩;rcases a3 with a3|⟨me,a3,a4⟩
  ·exact .inl a3
  ·exact .inr (by rw [hget a3];exact a4)
 have mlt: ∀i,i<ops.size→ ∀k,(ms.getD i 0).testBit k=true→k<i:=by
  intro i;induction i using Nat.strongRecOn with
  |_ i ih=>
   intro hi k hk;obtain ⟨e,a1,a2,a3⟩:=m2 i _ (Array.getElem?_eq_getElem hi) k hk;have b:=(m1 i _ (Array.getElem?_eq_getElem hi) e a1 a2).1;rcases a3 with rfl|a3
   ·exact b
   ·have:=ih e.on b (by omega) k a3;omega
 have w1: ∀i o d,ops[i]? =some o→o.dst=some d→wr.get d=some i∧d<nt:=fun i o d ho hd=>by
  obtain ⟨a1,a2⟩:=W3 i o d (by simpa using ho) hd;exact ⟨by simpa using a1,Nat.lt_of_lt_of_le a2 hmx⟩
 have w3: ∀d k,wr.get d=some k→ ∃o,ops[k]? =some o∧o.dst=some d:=fun d k hk=>by
  rcases W4 d k hk with hh|⟨k',o,rfl,ho,hd⟩
  ·simp at hh
  ·exact ⟨o,by simpa using ho,hd⟩
 have effm: ∀d,d<ops.size→k d= .eff→(S (d+1)).ne=(S d).ne+1∧(S (d+1)).mj=ms.getD d 0∧(S (d+1)).b=(hp d).t∧(S (d+1)).n=(hp d).n:=fun d hd hk=>by
  obtain ⟨_,_,h3⟩:=hR.m (Array.getElem?_eq_getElem hd);rw [h3,hk];exact ⟨rfl,rfl,rfl,rfl⟩
 let p:=planOf ops {ms:=ms,wr:=wr,mx:=mx} S k v hp
 have hB: ∀{i},i≤ops.size→p.B (S i).ne=(S i).b∧p.md (S i).ne=(S i).mj:=fun hi=>hR.B hi;have hmdd: ∀d,d<p.N→p.k d= .eff→p.md (p.rk d+1)=p.m d:=fun d hd hk=>by
  obtain ⟨e1,e2,_⟩:=effm d hd hk;have:=(hB (i:=d+1) hd).2;rw [e1,e2] at this;exact this
 have hov: ∀i,i<ops.size→ ∀(j N':Nat),N'≤ops.size→i≤N'→ ∀(mj:Nat) (b:T AO),p.OV b (fun f=>(p.m i).testBit f=true∧mj.testBit f=false) (ovl (fun f=>bt (ms.getD i 0) f && !bt mj f) (S N').fs b):=fun i hi j N' hN hiN mj b=>by
  refine hR.ov hs hfs0 hN _ _ b (fun f _=> ?_) (fun f _ hc=> ?_)
  ·rw [bt_eq,bt_eq];show _↔(ms.getD i 0).testBit f=true∧mj.testBit f=false;simp
  ·have:=mlt i hi f hc.1;omega
 have K:p.OK P tb xt call nt ops tm h:=by
  refine {size:=rfl,m1:=m1,m2:=m2,w1:=w1,w2:= ?_,w3:=w3,t1:= ?_,s0:=by show (S 0).n=_;rw [hS0],s1:=fun i hi=>hR.nm hs hi,un:= ?_,new:= ?_,read:= ?_,eff:= ?_,r1:= ?_,r2:= ?_,r4:= ?_,md0:= ?_,b0:= ?_}
  ·intro i o d kk ho hd hk;obtain ⟨m,g1,g2⟩:=L i o (by simpa using ho);simp only [Nat.zero_add] at g1 g2;have:=g2 d hd;unfold look1 at this;rw [show wr.get d=some kk from hk] at this;simp only [Bool.or_eq_true] at this;show (ms.getD i 0).testBit kk=true∨(ms.getD kk 0).testBit i=true;rcases this with t|t
   ·left;rw [hget g1,←bt_eq];exact t
   ·right
    split at t
    ·rename_i mk hmk;rw [hget hmk,←bt_eq];exact t
    ·cases t
  ·intro i hi d;show (S i).tm.get d=match wr.get d with|some k=>if k<i then some (v k) else tm.get d|none=>tm.get d
   induction i with
   |zero=>
    rw [hS0];split
    ·rw [if_neg (by omega)]
    ·rfl
   |succ i ih=>
    have hlt:i<ops.size:=by have:i+1≤ops.size:=hi;omega
    obtain ⟨_,_,h3⟩:=hR.m (Array.getElem?_eq_getElem hlt);have htm:(S (i+1)).tm=putT (S i).tm ops[i].dst (v i):=by rw [h3];cases k i<;>rfl
    have ih':=ih (Nat.le_of_lt hlt);have other:(∀kk,wr.get d=some kk→kk≠i)→(match wr.get d with|some k=>if k<i then some (v k) else tm.get d|none=>tm.get d)=(match wr.get d with|some k=>if k<i+1 then some (v k) else tm.get d|none=>tm.get d):=fun hne=>by
     cases hw:wr.get d with
     |none=>rfl
     |some kk=>
      simp only [];have:=hne kk hw;by_cases hki:kk<i
      ·rw [if_pos hki,if_pos (by omega)]
      ·rw [if_neg hki,if_neg (by omega)]
    rw [htm];unfold putT;cases hds:ops[i].dst with
    |none=>
     simp only [];rw [ih'];refine other fun kk hk hki=> ?_;subst hki;obtain ⟨o',ho',hd'⟩:=w3 d kk hk;rw [Array.getElem?_eq_getElem hlt] at ho';cases ho';rw [hds] at hd';cases hd'
    |some d0=>
     simp only [];rw [T.get_put];by_cases hd:d=d0
     ·subst hd;rw [if_pos rfl,(w1 i _ d (Array.getElem?_eq_getElem hlt) hds).1];simp
     ·rw [if_neg hd,ih'];refine other fun kk hk hki=> ?_;subst hki;obtain ⟨o',ho',hd'⟩:=w3 d kk hk;rw [Array.getElem?_eq_getElem hlt] at ho';cases ho';rw [hds] at hd';cases hd';exact hd rfl
  ·intro i o ho hw;obtain ⟨_,h2,h3⟩:=hR.m ho;have:=dres_false hw h2;injection this with e1 e2
   injection e2 with e2 e3
   refine ⟨e2,?_,e1⟩;show (S (i+1)).n=(S i).n;rw [h3,e1,e3];rfl
  ·intro i o ho hw hk;obtain ⟨_,h2,h3⟩:=hR.m ho;rw [show k i= .new from hk] at h2 h3;have:=dres_new hw h2;show evOp P tb xt call o (S i).tm {t:= .e,n:=(S i).n}=some (.ok (v i) {t:=(hp i).t,n:=(S (i+1)).n});rw [this,h3];rfl
  ·intro i o ho hw hk;have hi:i<ops.size:=(Array.getElem?_eq_some_iff.1 ho).1;obtain ⟨_,h2,h3⟩:=hR.m ho;rw [show k i= .read from hk] at h2 h3;obtain ⟨hkd,hev⟩:=dres_read hw h2;refine ⟨by show (S (i+1)).n=(S i).n;rw [h3];rfl,fun j hj hal=> ?_⟩;by_cases hji:j=(S i).ne
   ·subst hji;obtain ⟨e1,e2⟩:=hB (i:=i) (Nat.le_of_lt hi);refine ⟨ovl (fun f=>bt (ms.getD i 0) f && !bt (S i).mj f) (S i).fs (S i).b,?_,?_⟩
    ·rw [e1,e2];exact hov i hi 0 i (Nat.le_of_lt hi) (Nat.le_refl _) _ _
    ·have:=evOp_read hkd hev;rw [this] at hev;exact hev
   ·
    have hmem:=(hR.logs ops.size (Nat.le_refl _)).2 i o hi ho hk;rw [hSN] at hmem;have hc:=hchk _ hmem;have entry: ∀e:BE,(e.j=(S i).ne∨bt (ms.getD i 0) e.nx=true∨bt e.mj i=true∨ ∃h'',evOp P tb xt call o (S i).tm {t:=ovl (fun f=>bt (ms.getD i 0) f && !bt e.mj f) st.fs e.b,n:=(S i).n}=some (.ok (v i) h''))→e.j=j→e.b=p.B j→e.mj=p.md j→(ms.getD i 0).testBit e.nx=false→
      ∃V,p.OV (p.B j) (fun f=>(p.m i).testBit f=true∧(p.md j).testBit f=false) V∧evOp P tb xt call o (p.tm i) {t:=V,n:=p.s i}=some (.ok (p.v i) {t:=V,n:=p.s i}):=fun e hce e1 e2 e3 e4=>by
     rcases hce with hce|hce|hce|⟨h'',hev'⟩
     ·exact absurd (e1.symm.trans hce) hji
     ·rw [bt_eq,e4] at hce;cases hce
     ·rw [bt_eq,e3] at hce;cases j with
      |zero=>
       have:=(hB (i:=0) (Nat.zero_le _)).2;rw [hne0,hS0] at this;rw [this] at hce;simp at hce
      |succ r=>
       obtain ⟨d,g1,g2,g3⟩:=hR.ranks hne0 ops.size (Nat.le_refl _) r hj;have g4:=hmdd d g1 g2;have g5:p.rk d=r:=g3;rw [g5] at g4;rw [g4,hal.2 d g1 g2 (by rw [g5])] at hce;cases hce
     ·have hh:=evOp_read hkd hev';rw [hh] at hev';refine ⟨ovl (fun f=>bt (ms.getD i 0) f && !bt e.mj f) st.fs e.b,?_,?_⟩
      ·rw [←e2,←e3,←hSN];exact hov i hi 0 ops.size (Nat.le_refl _) (Nat.le_of_lt hi) _ _
      ·exact hev'
    rcases Nat.lt_or_ge j (S ops.size).ne with hjl|hjl
    ·obtain ⟨d,g1,g2,g3⟩:=hR.ranks hne0 ops.size (Nat.le_refl _) j hjl;have hbm:=(hR.logs ops.size (Nat.le_refl _)).1 d g1 g2;rw [hSN] at hbm;obtain ⟨f1,f2⟩:=hB (i:=d) (Nat.le_of_lt g1);rw [g3] at f1 f2;exact entry _ (hc _ (List.mem_cons_of_mem _ hbm)) g3 f1.symm f2.symm (hal.1 d g1 g2 g3)
    ·have hjM:j=(S ops.size).ne:=Nat.le_antisymm hj hjl;obtain ⟨f1,f2⟩:=hB (i:=ops.size) (Nat.le_refl _);rw [←hjM] at f1 f2;refine entry _ (hc _ List.mem_cons_self) (by rw [hjM,hSN]) (by rw [f1,hSN]) (by rw [f2,hSN]) ?_;cases hb:(ms.getD i 0).testBit ops.size with
     |false=>rfl
     |true=>have:=mlt i hi _ hb;omega
  ·intro i o ho hw hk;have hi:i<ops.size:=(Array.getElem?_eq_some_iff.1 ho).1;obtain ⟨_,h2,h3⟩:=hR.m ho;rw [show k i= .eff from hk] at h2;obtain ⟨_,hev⟩:=dres_eff h2;refine ⟨hmdd i hi hk,ovl (fun f=>bt (ms.getD i 0) f && !bt (S i).mj f) (S i).fs (S i).b,?_,?_⟩
   rotate_left
   ·show evOp P tb xt call o (S i).tm {t:=_,n:=(S i).n}=some (.ok (v i) {t:=p.B ((S i).ne+1),n:=(S (i+1)).n});obtain ⟨e1,_,e3,e4⟩:=effm i hi hk;have:=(hB (i:=i+1) hi).1;rw [e1] at this;rw [this,e3,e4];exact hev
   ·obtain ⟨e1,e2⟩:=hB (i:=i) (Nat.le_of_lt hi);show p.OV (p.B (S i).ne) (fun f=>(p.m i).testBit f=true∧(p.md (S i).ne).testBit f=false) _;rw [e1,e2];exact hov i hi 0 i (Nat.le_of_lt hi) (Nat.le_refl _) _ _
  ·intro i hi hk;have hi':i<ops.size:=hi;obtain ⟨e1,_⟩:=effm i hi' hk;refine ⟨?_,fun r hr=> ?_⟩
   ·show (S i).ne<(S ops.size).ne;have:=(hR.ne_le ops.size (i+1) hi' (Nat.le_refl _)).1;omega
   ·obtain ⟨_,h2,_⟩:=hR.m (Array.getElem?_eq_getElem hi');rw [show k i= .eff from hk] at h2;obtain ⟨hc,_⟩:=dres_eff h2;have hr':(S i).ne=r+1:=hr;rcases hR.dl hne0 i (Nat.le_of_lt hi') with hz|⟨d1,d2,d3⟩
    ·omega
    ·refine ⟨(S i).dl,by show _<ops.size;omega,d2,by show (S (S i).dl).ne=r;omega,?_⟩;rcases hc with hc|hc
     ·omega
     ·rw [bt_eq] at hc;exact hc
  ·intro i i' hi hi' hk hk' hr;have a1:=(effm i hi hk).1;have a2:=(effm i' hi' hk').1;have hr':(S i).ne=(S i').ne:=hr;have b1:i<ops.size:=hi;have b2:i'<ops.size:=hi';rcases Nat.lt_trichotomy i i' with h|h|h
   ·have:=(hR.ne_le i' (i+1) h (Nat.le_of_lt b2)).1;omega
   ·exact h
   ·have:=(hR.ne_le i (i'+1) h (Nat.le_of_lt b1)).1;omega
  ·intro r hr;exact hR.ranks hne0 ops.size (Nat.le_refl _) r hr
  ·have:=(hB (i:=0) (Nat.zero_le _)).2;rw [hne0,hS0] at this;exact this
  ·have:=(hB (i:=0) (Nat.zero_le _)).1;rw [hne0,hS0] at this;exact this
 have hfin:p.OV (p.B p.M) (fun f=>(p.md p.M).testBit f=false) (ovl (fun f=> !bt st.mj f) st.fs st.b):=by
  obtain ⟨f1,f2⟩:=hB (i:=ops.size) (Nat.le_refl _);show p.OV (p.B (S ops.size).ne) (fun f=>(p.md (S ops.size).ne).testBit f=false) _;rw [f1,f2,←hSN];refine hR.ov hs hfs0 (Nat.le_refl _) _ _ _ (fun f _=> ?_) (fun f hf _=>hf);rw [bt_eq];simp
 have:=Plan.regionL (p:=p) htb hs K hmdd (h':={t:=ovl (fun f=> !bt st.mj f) st.fs st.b,n:=st.n}) hfin (by show st.n=(S ops.size).n;rw [hSN]);rw [show p.tm p.N=st.tm from by show (S ops.size).tm=_;rw [hSN]] at this;exact this
end
end Go.Ev
end
noncomputable section
namespace Go.Ev
def calm:Op→Bool
 | .move _| .assign _| .pick _ _ _| .load _ _| .nilCheck _| .binOp _ _ _ _ _| .unOp _ _ _| .fieldAddr _ _ _| .field _ _ _| .indexAddr _ _ _| .index _ _ _| .build _ _| .extract _ _| .makeFunc _ _ _| .slice _ _ _ _ none=>true
 | .call q=>match q.callee with
  | .builtin .len=>true
  | .builtin .min=>true
  | .builtin .max=>true
  |_=>false
 |_=>false
def isCall:Op→Bool
 | .call q=>match q.callee with
  | .value _=>true
  | .invoke _ _=>true
  |_=>false
 |_=>false
section
variable {P:Program} {tb:T TE} {xt:Addr→Option Value} {ev:Operand→AV} {h h':Hp} {v:AV}
theorem pr1_same {x:Option AV} (hx:pr1 h x=some (v,h')):x=some v∧h'=h:=by
 cases x with
 |none=>cases hx
 |some y=>cases hx;exact ⟨rfl,rfl⟩
theorem pr1_some {x:Option AV} (hx:x=some v):pr1 h x=some (v,h):=by rw [hx];rfl
theorem calm_new {op:Op} (hc:calm op=true) (hk:kindOf op= .new) (ha:aop P tb xt ev op h=some (v,h')):h'=h∧ ∀h2,aop P tb xt ev op h2=some (v,h2):=by
 cases op with
 |move x=>simp only [aop] at ha ⊢;cases ha;exact ⟨rfl,fun _=>rfl⟩
 |assign x=>simp only [aop] at ha ⊢;cases ha;exact ⟨rfl,fun _=>rfl⟩
 |pick q x y=>
  simp only [aop,aoPick] at ha ⊢;split at ha
  ·cases ha;exact ⟨rfl,fun _=>rfl⟩
  ·cases ha
 |nilCheck x=>
  simp only [aop] at ha ⊢;obtain ⟨h1,h2⟩:=cond_some ha;cases h2;exact ⟨rfl,fun _=>by rw [h1];rfl⟩
 |binOp o t x y u=>simp only [aop] at ha ⊢;obtain ⟨h1,h2⟩:=pr1_same ha;exact ⟨h2,fun _=>pr1_some h1⟩
 |unOp o t x=>simp only [aop] at ha ⊢;obtain ⟨h1,h2⟩:=pr1_same ha;exact ⟨h2,fun _=>pr1_some h1⟩
 |fieldAddr t x f=>simp only [aop] at ha ⊢;obtain ⟨h1,h2⟩:=pr1_same ha;exact ⟨h2,fun _=>pr1_some h1⟩
 |field t x f=>simp only [aop] at ha ⊢;obtain ⟨h1,h2⟩:=pr1_same ha;exact ⟨h2,fun _=>pr1_some h1⟩
 |indexAddr t x i=>simp only [aop] at ha ⊢;obtain ⟨h1,h2⟩:=pr1_same ha;exact ⟨h2,fun _=>pr1_some h1⟩
 |index t x i=>simp only [aop] at ha ⊢;obtain ⟨h1,h2⟩:=pr1_same ha;exact ⟨h2,fun _=>pr1_some h1⟩
 |build t p=>simp only [aop] at ha ⊢;obtain ⟨h1,h2⟩:=pr1_same ha;exact ⟨h2,fun _=>pr1_some h1⟩
 |extract x i=>simp only [aop] at ha ⊢;obtain ⟨h1,h2⟩:=pr1_same ha;exact ⟨h2,fun _=>pr1_some h1⟩
 |makeFunc f a b=>simp only [aop] at ha ⊢;cases ha;exact ⟨rfl,fun _=>rfl⟩
 |load t x=>simp [kindOf] at hk
 |slice t x l hh m=>simp [kindOf] at hk
 |call q=>
  simp only [calm] at hc;split at hc
  ·rename_i hq;simp [kindOf,hq] at hk
  ·rename_i hq;simp only [aop,aoCall,hq,abuiltin] at ha ⊢;split at ha
   ·rename_i hm;cases ha;exact ⟨rfl,fun _=>by simp only [hm]⟩
   ·cases ha
  ·rename_i hq;simp only [aop,aoCall,hq,abuiltin] at ha ⊢;split at ha
   ·rename_i hm;cases ha;exact ⟨rfl,fun _=>by simp only [hm]⟩
   ·cases ha
  ·cases hc
 |_=>simp [calm] at hc
theorem calm_read {op:Op} (hc:calm op=true) (hk:kindOf op= .read) (ha:aop P tb xt ev op h=some (v,h')):h'=h∧ ∀n,aop P tb xt ev op {t:=h.t,n:=n}=some (v,{t:=h.t,n:=n}):=by
 cases op with
 |load t x=>
  simp only [aop] at ha ⊢;obtain ⟨h1,h2⟩:=pr1_same ha;exact ⟨h2,fun _=>pr1_some (by rw [←h1];rfl)⟩
 |slice t x l hh m=>
  cases m with
  |some _=>simp [calm] at hc
  |none=>
   simp only [aop,aoSlice] at ha ⊢;obtain ⟨h1,h2⟩:=pr1_same ha;exact ⟨h2,fun _=>pr1_some (by rw [←h1];rfl)⟩
 |call q=>
  simp only [calm] at hc;split at hc
  ·rename_i hq;simp only [aop,aoCall,hq,abuiltin] at ha ⊢;split at ha
   ·rename_i t a ht hm;split at ha
    ·rename_i n hn;cases ha;refine ⟨rfl,fun m=> ?_⟩;have:alen tb {t:=h.t,n:=m} t a=alen tb h t a:=rfl;simp only [this,hn]
    ·cases ha
   ·cases ha
  ·rename_i hq;simp [kindOf,hq] at hk
  ·rename_i hq;simp [kindOf,hq] at hk
  ·cases hc
 |_=>first|simp [calm] at hc;done|simp [kindOf] at hk
theorem calm_kind {op:Op} (hc:calm op=true):kindOf op= .new∨kindOf op= .read:=by
 cases op with
 |call q=>
  simp only [calm] at hc;split at hc
  ·rename_i hq;simp [kindOf,hq]
  ·rename_i hq;simp [kindOf,hq]
  ·rename_i hq;simp [kindOf,hq]
  ·cases hc
 |slice t x l hh m=>exact .inr rfl
 |_=>first|simp [calm] at hc;done|simp [kindOf]
theorem calm_evOp {op:Op} {o:Oper} (ho:o.op=op) (hc:calm op=true) (call:CallF) (tm:T AV):evOp P tb xt call o tm h=orOk (aop P tb xt (aeval tm) op h):=by
 subst ho;unfold evOp;split
 ·rename_i q hq;rw [hq] at hc;simp only [calm] at hc;unfold evOpCall;split at hc
  ·rename_i hb;simp only [hb,hq]
  ·rename_i hb;simp only [hb,hq]
  ·rename_i hb;simp only [hb,hq]
  ·cases hc
 ·rename_i x hx;rw [hx] at hc;simp [calm] at hc
 ·rename_i x hx;rw [hx] at hc;simp [calm] at hc
 ·rfl
end
section
variable {E:Env} {nt:Nat} {ops:Array Oper}
def WOCk (ic:Bool) (nt:Nat) (tm:T AV) (h:Hp) (dst:Option Tmp) (N:T AV→Hp→Prop) (r:OR):Prop:=
 match r with
 | .pan _ _=>False
 | .ok v h'=>(∃n,(ic=true→h.n<n)∧h.n≤n∧h'=h.up n)∧putK nt tm dst v (fun tm'=>N tm' h')
def WOC (E:Env) (nt:Nat) (ops:Array Oper):List Oper→T AV→Hp→(T AV→Hp→Prop)→Prop
 |[],tm,h,Q=>Q tm h
 |o::ol,tm,h,Q=>guardOk nt ops o=true∧bif awanted ops o tm then WOp E o tm h (WOCk (isCall o.op) nt tm h o.dst (fun tm' h'=>WOC E nt ops ol tm' h' Q)) else putK nt tm o.dst default (fun tm'=>WOC E nt ops ol tm' h Q)
def chainOk:List Oper→List Nat→Nat→List Nat→Bool
 |[],_,_,_=>true
 |o::ol,m::ms,i,cs=>bif calm o.op then chainOk ol ms (i+1) cs else isCall o.op && (cs.all (bt m) && chainOk ol ms (i+1) (i::cs))
 |_::_,[],_,_=>false
def SInv (P:Program) (tb:T TE) (xt:Addr→Option Value) (t0:T AO) (MS:List Nat) (PR PC:Nat→Prop) (cs:List Nat) (st:DS):Prop:=
 ((st.mj=0∨st.mj∈MS)∧ ∀r∈st.rs,r.m∈MS∧PR r.i)∧st.fs=[]∧st.b=t0∧(∀e∈st.bs,e.b=t0)∧(∀r∈st.rs,∀call,evOp P tb xt call r.o r.tm {t:=t0,n:=r.n}=some (.ok r.v {t:=t0,n:=r.n}))∧(st.ne=0∨(st.dl∈cs∧PC st.dl))
theorem evOp_later {P:Program} {tb:T TE} {xt:Addr→Option Value} {call call':CallF} {o:Oper} {tm:T AV} {h:Hp} {r:OR} (hcc: ∀fv args r,call fv args h=some r→call' fv args h=some r) (he:evOp P tb xt call o tm h=some r):evOp P tb xt call' o tm h=some r:=by
 cases hop:o.op with
 |call q=>
  simp only [evOp,hop,evOpCall] at he ⊢;cases hf:q.callee with
  |value f=>
   simp only [hf] at he ⊢;cases hc:call (aeval tm f) (q.args.toList.map (aeval tm)) h with
   |none=>rw [hc] at he;cases he
   |some p=>rw [hc] at he;rw [hcc _ _ _ hc];exact he
  |invoke f nm=>
   simp only [hf] at he ⊢;cases hc:call (.val (.func (.method nm) #[] #[])) (aeval tm f::q.args.toList.map (aeval tm)) h with
   |none=>rw [hc] at he;cases he
   |some p=>rw [hc] at he;rw [hcc _ _ _ hc];exact he
  |builtin b=>simp only [hf] at he ⊢;exact he
 |_=>simp only [evOp,hop] at he ⊢ <;>exact he
theorem drun_later {P:Program} {tb:T TE} {xt:Addr→Option Value} {call call':CallF} (hs:Sound P xt call): ∀(ol:List Oper) (ms:List Nat) (st st':DS),(∀fv args k r,st.n≤k.n→call fv args k=some r→call' fv args k=some r)→drun P tb xt call ops ol ms st=some st'→drun P tb xt call' ops ol ms st=some st'
 |[],ms,st,st',_,h=>h
 |o::ol,[],st,st',_,h=>by rw [drun_short] at h;cases h
 |o::ol,m::ms,st,st',hcc,h=>by
  rw [drun_cons] at h ⊢;have key: ∀r,dres P tb xt call ops o m st=some r→dres P tb xt call' ops o m st=some r:=by
   intro r hr;unfold dres at hr ⊢;cases hw:awanted ops o st.tm with
   |false=>rw [hw] at hr;exact hr
   |true=>
    rw [hw] at hr;simp only [cond_true] at hr ⊢;have e1: ∀(t:T AO) x,evOp P tb xt call o st.tm {t:=t,n:=st.n}=some x→evOp P tb xt call' o st.tm {t:=t,n:=st.n}=some x:=fun t x hx=>evOp_later (fun fv args r hr=>hcc fv args _ r (Nat.le_refl _) hr) hx;split at hr
    ·split at hr
     ·rename_i v h' he;rw [e1 _ _ he];exact hr
     ·cases hr
    ·split at hr
     ·rename_i v h' he;rw [e1 _ _ he];exact hr
     ·cases hr
    ·obtain ⟨hb,hr⟩:=cond_some hr;rw [hb];simp only [cond_true];split at hr
     ·rename_i v h' he;rw [e1 _ _ he];exact hr
     ·cases hr
  unfold dstep at h ⊢;cases hd:dres P tb xt call ops o m st with
  |none=>rw [hd] at h;cases h
  |some r=>
   rw [hd] at h;rw [key r hd];obtain ⟨k,v,h'⟩:=r;simp only at h ⊢;have hn:st.n≤(upd o m st v h' k).n:=by
    have:=dres_n hs hd;cases k with
    |new=>exact this
    |read=>exact Nat.le_refl _
    |eff=>exact this
   exact drun_later hs ol ms _ st' (fun fv args kk r hk hr=>hcc fv args kk r (Nat.le_trans hn hk) hr) h
open Classical in
def ocall (fv:AV) (args:List AV) (h:Hp) (res:CR) (h':Hp) (call:CallF):CallF:=fun f a k=>if f=fv∧a=args∧k=h then some (res,h') else call f a k
theorem woc_drun {t0:T AO} {MS:List Nat} {PR PC:Nat→Prop}: ∀(ol:List Oper) (ms:List Nat) (i:Nat) (cs:List Nat) (tm:T AV) (h:Hp) (Q:T AV→Hp→Prop) (st:DS),WOC E nt ops ol tm h Q→chainOk ol ms i cs=true→(∀m∈ms,m∈MS)→(∀(k:Nat) (o:Oper),ol[k]? =some o→(kindOf o.op= .read→PR (i+k))∧(calm o.op=false→PC (i+k)))→st.i=i→st.tm=tm→st.n=h.n→h.t=t0→SInv E.P E.tb E.xt t0 MS PR PC cs st→
  ∃call st' h' cs',Sound E.P E.xt call∧((∀fv args k r,call fv args k=some r→h.n≤k.n∧k.n<h'.n)∧h.n≤h'.n)∧drun E.P E.tb E.xt call ops ol ms st=some st'∧SInv E.P E.tb E.xt t0 MS PR PC cs' st'∧st'.n=h'.n∧h'.t=t0∧Q st'.tm h'
 |[],ms,i,cs,tm,h,Q,st,hw,hc,hms,hpr,hi,htm,hn,ht,hI=>⟨ncall,st,h,cs,ncall_ok _ _,⟨(fun _ _ _ _ hx=>by cases hx),Nat.le_refl _⟩,rfl,hI,hn,ht,by rw [htm];exact hw⟩
 |o::ol,[],i,cs,tm,h,Q,st,hw,hc,hms,hpr,hi,htm,hn,ht,hI=>by simp [chainOk] at hc
 |o::ol,m::ms,i,cs,tm,h,Q,st,hw,hc,hms,hpr,hi,htm,hn,ht,hI=>by
  simp only [WOC] at hw;obtain ⟨_,hw⟩:=hw;obtain ⟨I0,I1,I2,I3,I4,I5⟩:=hI;have hms': ∀x∈ms,x∈MS:=fun x hx=>hms x (List.mem_cons_of_mem _ hx);have hmm:m∈MS:=hms m List.mem_cons_self;have hpr': ∀(k:Nat) (o:Oper),ol[k]? =some o→(kindOf o.op= .read→PR (i+1+k))∧(calm o.op=false→PC (i+1+k)):=fun k o' ho=>by have:=hpr (k+1) o' (by simpa using ho);rwa [show i+(k+1)=i+1+k by omega] at this
  have hput: ∀{v:AV} {N:T AV→Prop},putK nt tm o.dst v N→N (putT tm o.dst v):=fun {v N} hp=>by
   unfold putK at hp;unfold putT;split at hp
   ·rename_i hd;rw [hd];exact hp
   ·rename_i d hd;rw [hd];exact hp.2
  have heta:({t:=t0,n:=h.n}:Hp)=h:=by rw [←ht]
  simp only [chainOk] at hc;cases haw:awanted ops o tm with
  |false=>
   rw [haw] at hw;simp only [cond_false] at hw;have hw:=hput hw;have hd: ∀call,dstep E.P E.tb E.xt call ops o m st=some (upd o m st default {t:= .e,n:=st.n} .new):=fun call=>by
    unfold dstep dres;rw [htm,haw];rfl
   have hnext: ∃cs2,chainOk ol ms (i+1) cs2=true∧ ∀x∈cs,x∈cs2:=by
    cases hcal:calm o.op with
    |true=>rw [hcal] at hc;exact ⟨cs,hc,fun _ h=>h⟩
    |false=>
     rw [hcal] at hc;simp only [cond_false,Bool.and_eq_true] at hc;exact ⟨i::cs,hc.2.2,fun _ h=>List.mem_cons_of_mem _ h⟩
   obtain ⟨cs2,hc2,hsub⟩:=hnext;obtain ⟨call,st',h',cs',r1,r2,r3,r4,r5,r6,r7⟩:=woc_drun (t0:=t0) ol ms (i+1) cs2 _ h Q (upd o m st default {t:= .e,n:=st.n} .new) hw hc2 hms' hpr' (by simp [upd,hi]) (by simp [upd,htm]) (by simp [upd,hn]) ht
    ⟨by simpa [upd] using I0,by simp [upd,I1],by simp [upd,I2],by simpa [upd] using I3,by simpa [upd] using I4,by rcases I5 with h1|h1;exact .inl (by simp [upd,h1]);exact .inr ⟨by simpa [upd] using hsub _ h1.1,by simpa [upd] using h1.2⟩⟩
   exact ⟨call,st',h',cs',r1,r2,by rw [drun_cons,hd];exact r3,r4,r5,r6,r7⟩
  |true=>
   rw [haw] at hw;simp only [cond_true] at hw;cases hcal:calm o.op with
   |true=>
    rw [hcal] at hc;simp only [cond_true] at hc;obtain ⟨call0,res,_,hop,hk⟩:=hw.ev;rw [calm_evOp rfl hcal] at hop;cases ha:aop E.P E.tb E.xt (aeval tm) o.op h with
    |none=>rw [ha] at hop;cases hop
    |some p=>
     obtain ⟨v,h1⟩:=p;rw [ha] at hop;simp only [orOk,Option.some.injEq] at hop;subst hop;obtain ⟨_,hk⟩:=hk;have hk:=hput hk;rcases calm_kind hcal with hkd|hkd
     ·obtain ⟨e1,e2⟩:=calm_new hcal hkd ha;subst e1;have hd: ∀call,dstep E.P E.tb E.xt call ops o m st=some (upd o m st v {t:= .e,n:=st.n} .new):=fun call=>by
       unfold dstep dres;rw [htm,haw,hkd];simp only [cond_true];rw [calm_evOp rfl hcal,e2];rfl
      obtain ⟨call,st',h',cs',r1,r2,r3,r4,r5,r6,r7⟩:=woc_drun (t0:=t0) ol ms (i+1) cs _ h1 Q (upd o m st v {t:= .e,n:=st.n} .new) hk hc hms' hpr' (by simp [upd,hi]) (by simp [upd,htm]) (by simp [upd,hn]) ht
       ⟨by simpa [upd] using I0,by simp [upd,I1],by simp [upd,I2],by simpa [upd] using I3,by simpa [upd] using I4,by simpa [upd] using I5⟩
      exact ⟨call,st',h',cs',r1,r2,by rw [drun_cons,hd];exact r3,r4,r5,r6,r7⟩
     ·obtain ⟨e1,e2⟩:=calm_read hcal hkd ha;subst e1;have hov: ∀q,({t:=ovl q st.fs st.b,n:=st.n}:Hp)=h1:=fun q=>by rw [I1,I2,hn];exact heta
      have hd: ∀call,dstep E.P E.tb E.xt call ops o m st=some (upd o m st v h1 .read):=fun call=>by
       unfold dstep dres;rw [htm,haw,hkd];simp only [cond_true];rw [hov,calm_evOp rfl hcal,ha];rfl
      obtain ⟨call,st',h',cs',r1,r2,r3,r4,r5,r6,r7⟩:=woc_drun (t0:=t0) ol ms (i+1) cs _ h1 Q (upd o m st v h1 .read) hk hc hms' hpr' (by simp [upd,hi]) (by simp [upd,htm]) (by simp [upd,hn]) ht
       ⟨⟨by simpa [upd] using I0.1,fun r hr=>by
        simp only [upd,List.mem_cons] at hr;rcases hr with rfl|hr
        ·exact ⟨hmm,by have:=(hpr 0 o rfl).1 hkd;simpa [hi] using this⟩
        ·exact I0.2 r hr⟩,by simp [upd,I1],by simp [upd,I2],by simpa [upd] using I3,fun r hr call=>by
        simp only [upd,List.mem_cons] at hr;rcases hr with rfl|hr
        ·simp only;rw [calm_evOp rfl hcal,htm,hn,←ht,e2];rfl
        ·exact I4 r hr call,by simpa [upd] using I5⟩
      exact ⟨call,st',h',cs',r1,r2,by rw [drun_cons,hd];exact r3,r4,r5,r6,r7⟩
   |false=>
    rw [hcal] at hc;simp only [cond_false,Bool.and_eq_true] at hc;obtain ⟨hc1,hc2,hc3⟩:=hc;unfold isCall at hc1;split at hc1
    ·rename_i q hq;split at hc1
     ·rename_i f hf;unfold WOp at hw;simp only [hq,calK,hf] at hw;obtain ⟨res,h1,hcs,hk⟩:=hw;cases res with
      |pan v=>exact hk.elim
      |ret v=>
       obtain ⟨⟨n,hlt,hnn,rfl⟩,hk⟩:=hk;have hlt:h.n<n:=hlt (by simp [isCall,hq,hf]);have hk:=hput hk;have hkd:kindOf o.op= .eff:=by simp [hq,kindOf,hf]
       obtain ⟨call,st',h',cs',r1,r2,r3,r4,r5,r6,r7⟩:=woc_drun (t0:=t0) ol ms (i+1) (i::cs) _ (h.up n) Q (upd o m st v (h.up n) .eff) hk hc3 hms' hpr' (by simp [upd,hi]) (by simp [upd,htm]) (by simp [upd]) ht
        ⟨⟨.inr (by simpa [upd] using hmm),by simpa [upd] using I0.2⟩,by simp [upd,I1],by simp [upd,ht],fun e he=>by
         simp only [upd,List.mem_cons] at he;rcases he with rfl|he
         ·exact I2
         ·exact I3 e he,by simpa [upd] using I4,.inr ⟨by simp [upd,hi],by have:=(hpr 0 o rfl).2 hcal;simpa [upd,hi] using this⟩⟩
       have hsd:Sound E.P E.xt (ocall (aeval tm f) (q.args.toList.map (aeval tm)) h (.ret v) (h.up n) call):=by
        intro fv a k r k' he;unfold ocall at he;split at he
        ·rename_i hq;obtain ⟨rfl,rfl,rfl⟩:=hq;cases he;exact hcs
        ·exact r1 _ _ _ _ _ he
       refine ⟨ocall (aeval tm f) (q.args.toList.map (aeval tm)) h (.ret v) (h.up n) call,st',h',cs',hsd,⟨fun fv a k r he=> ?_,Nat.le_trans hnn r2.2⟩,?_,r4,r5,r6,r7⟩
       ·unfold ocall at he;split at he
        ·rename_i hq;rw [hq.2.2];have:=r2.2;simp only [Hp.up_n] at this;exact ⟨Nat.le_refl _,by omega⟩
        ·have:=r2.1 _ _ _ _ he;simp only [Hp.up_n] at this;omega
       ·have hov: ∀q,({t:=ovl q st.fs st.b,n:=st.n}:Hp)=h:=fun q=>by rw [I1,I2,hn];exact heta
        have hch:(Nat.beq st.ne 0 || bt m st.dl)=true:=by
         rcases I5 with h1|h1
         ·rw [h1];rfl
         ·rw [List.all_eq_true.1 hc2 _ h1.1];simp
        have hev:evOp E.P E.tb E.xt (ocall (aeval tm f) (q.args.toList.map (aeval tm)) h (.ret v) (h.up n) call) o tm h=some (.ok v (h.up n)):=by
         simp [evOp,hq,evOpCall,hf,ocall,orCall]
        rw [drun_cons];have hd:dstep E.P E.tb E.xt (ocall (aeval tm f) (q.args.toList.map (aeval tm)) h (.ret v) (h.up n) call) ops o m st=some (upd o m st v (h.up n) .eff):=by
         unfold dstep dres;rw [htm,haw,hkd];simp only [cond_true];rw [hch];simp only [cond_true];rw [hov,hev]
        rw [hd];simp only;refine drun_later r1 ol ms _ _ (fun fv a k r hk hr=> ?_) r3;unfold ocall;rw [if_neg (fun hq=> ?_)]
        ·exact hr
        ·simp only [upd,Hp.up_n] at hk;rw [hq.2.2] at hk;omega
     ·rename_i f nm hf;unfold WOp at hw;simp only [hq,calK,hf] at hw;obtain ⟨res,h1,hcs,hk⟩:=hw;cases res with
      |pan v=>exact hk.elim
      |ret v=>
       obtain ⟨⟨n,hlt,hnn,rfl⟩,hk⟩:=hk;have hlt:h.n<n:=hlt (by simp [isCall,hq,hf]);have hk:=hput hk;have hkd:kindOf o.op= .eff:=by simp [hq,kindOf,hf]
       obtain ⟨call,st',h',cs',r1,r2,r3,r4,r5,r6,r7⟩:=woc_drun (t0:=t0) ol ms (i+1) (i::cs) _ (h.up n) Q (upd o m st v (h.up n) .eff) hk hc3 hms' hpr' (by simp [upd,hi]) (by simp [upd,htm]) (by simp [upd]) ht
        ⟨⟨.inr (by simpa [upd] using hmm),by simpa [upd] using I0.2⟩,by simp [upd,I1],by simp [upd,ht],fun e he=>by
         simp only [upd,List.mem_cons] at he;rcases he with rfl|he
         ·exact I2
         ·exact I3 e he,by simpa [upd] using I4,.inr ⟨by simp [upd,hi],by have:=(hpr 0 o rfl).2 hcal;simpa [upd,hi] using this⟩⟩
       have hsd:Sound E.P E.xt (ocall (.val (.func (.method nm) #[] #[])) (aeval tm f::q.args.toList.map (aeval tm)) h (.ret v) (h.up n) call):=by
        intro fv a k r k' he;unfold ocall at he;split at he
        ·rename_i hq;obtain ⟨rfl,rfl,rfl⟩:=hq;cases he;exact hcs
        ·exact r1 _ _ _ _ _ he
       refine ⟨ocall (.val (.func (.method nm) #[] #[])) (aeval tm f::q.args.toList.map (aeval tm)) h (.ret v) (h.up n) call,st',h',cs',hsd,⟨fun fv a k r he=> ?_,Nat.le_trans hnn r2.2⟩,?_,r4,r5,r6,r7⟩
       ·unfold ocall at he;split at he
        ·rename_i hq;rw [hq.2.2];have:=r2.2;simp only [Hp.up_n] at this;exact ⟨Nat.le_refl _,by omega⟩
        ·have:=r2.1 _ _ _ _ he;simp only [Hp.up_n] at this;omega
       ·have hov: ∀q,({t:=ovl q st.fs st.b,n:=st.n}:Hp)=h:=fun q=>by rw [I1,I2,hn];exact heta
        have hch:(Nat.beq st.ne 0 || bt m st.dl)=true:=by
         rcases I5 with h1|h1
         ·rw [h1];rfl
         ·rw [List.all_eq_true.1 hc2 _ h1.1];simp
        have hev:evOp E.P E.tb E.xt (ocall (.val (.func (.method nm) #[] #[])) (aeval tm f::q.args.toList.map (aeval tm)) h (.ret v) (h.up n) call) o tm h=some (.ok v (h.up n)):=by
         simp [evOp,hq,evOpCall,hf,ocall,orCall]
        rw [drun_cons];have hd:dstep E.P E.tb E.xt (ocall (.val (.func (.method nm) #[] #[])) (aeval tm f::q.args.toList.map (aeval tm)) h (.ret v) (h.up n) call) ops o m st=some (upd o m st v (h.up n) .eff):=by
         unfold dstep dres;rw [htm,haw,hkd];simp only [cond_true];rw [hch];simp only [cond_true];rw [hov,hev]
        rw [hd];simp only;refine drun_later r1 ol ms _ _ (fun fv a k r hk hr=> ?_) r3;unfold ocall;rw [if_neg (fun hq=> ?_)]
        ·exact hr
        ·simp only [upd,Hp.up_n] at hk;rw [hq.2.2] at hk;omega
     ·cases hc1
    ·cases hc1
end
def lastF (m:List Oper) (z:Oper):Bool:=
 match masks (m++[z]) [] with
 |none=>false
 |some ms=>match splitLast ms with
  |none=>false
  |some (_,mz)=>Nat.beq mz (2 ^ m.length - 1) && (m.all (guardLt m.length) && guardLt m.length z)
theorem lastF_ok {m:List Oper} {oz:Oper} (h:lastF m oz=true):LastOf ⟨m++[oz]⟩ ⟨m⟩ oz:=by
 unfold lastF at h;split at h
 ·cases h
 rename_i ms hms;split at h
 ·cases h
 rename_i ms' mz hmz;simp only [Bool.and_eq_true] at h;have hc:=h;obtain ⟨ops,hops⟩: ∃ops:Array Oper,ops=⟨m++[oz]⟩:=⟨_,rfl⟩;rw [←hops];have hms:masks ops.toList []=some ms:=by rw [hops];exact hms
 have hl:ops.toList=m++[oz]:=by rw [hops]
 have hml:=splitLast_ok _ _ _ hmz;obtain ⟨M1,_,M3⟩:=masks_ok _ _ _ hms;have hsz:ops.size=m.length+1:=by rw [←Array.length_toList,hl];simp
 have hat: ∀i,i<m.length→ops[i]? =m[i]? :=fun i hi=>by rw [←Array.getElem?_toList,hl,List.getElem?_append_left hi]
 have hlast:ops[m.length]? =some oz:=by rw [←Array.getElem?_toList,hl];simp
 have hmzl:ms[m.length]? =some mz:=by
  have:ms'.length=m.length:=by
   rw [hml,hl] at M1;simp at M1;omega
  rw [hml,←this];simp
 have hmzv:mz=2 ^ m.length - 1:=Nat.eq_of_beq_eq_true hc.1;refine {size:=by simpa using hsz,at_:=fun i hi=>by simpa using hat i hi,last:=by simpa using hlast,lt:=fun i o ho e he hb=> ?_,all:=fun D hD hz k hk=> ?_,gd:=fun i o j b ho hg=> ?_}
 ·obtain ⟨mi,g1,g2,_⟩:=M3 i o (by simpa using ho);simpa using (g2 e he hb).1
 ·have hk':k<m.length:=by simpa using hk
  have step: ∀i,i<m.length→D i→ ∀mi,ms[i]? =some mi→ ∀k,mi.testBit k=true→D k:=by
   intro i;induction i using Nat.strongRecOn with
   |_ i ih=>
    intro hi hDi mi hmi k hk;have ho:ops[i]? =some ops[i]:=Array.getElem?_eq_getElem (by omega);obtain ⟨mi',g1,g2,g3⟩:=M3 i _ (by rw [Array.getElem?_toList];exact ho);simp only [List.length_nil,Nat.zero_add] at g1 g2;rw [hmi] at g1;cases g1;obtain ⟨e,he,hb,hk⟩:=g3 k hk;have hDe:D e.on:=hD i _ (by have:=hat i hi;rw [ho] at this;simpa using this.symm) hDi e he hb;rcases hk with rfl|⟨me,hme,hk⟩
    ·exact hDe
    ·have hlt:=(g2 e he hb).1;exact ih e.on hlt (by omega) hDe me hme k hk
  obtain ⟨mz',g1,g2,g3⟩:=M3 m.length oz (by simpa using hlast);simp only [List.length_nil,Nat.zero_add] at g1 g2;rw [hmzl] at g1;cases g1;obtain ⟨e,he,hb,hk⟩:=g3 k (by rw [hmzv,Nat.testBit_two_pow_sub_one];simpa using hk');rcases hk with rfl|⟨me,hme,hk⟩
  ·exact hz e he hb
  ·exact step e.on (g2 e he hb).1 (hz e he hb) me hme k hk
 ·have:=List.all_eq_true.1 hc.2.1 o (List.mem_of_getElem? (i:=i) (by simpa using ho));unfold guardLt at this;rw [hg] at this;simpa [Nat.blt_eq] using this
section
variable {E:Env} {nt:Nat}
def DrX (E:Env) (nt:Nat) (ops:Array Oper) (tm:T AV) (h:Hp) (x:Ex) (tm':T AV) (h':Hp):Prop:=h.n≤h'.n∧ ∀lim,h'.n≤lim→ ∀c a w r t,Good lim c h w→(∀b v,E.xt b=some v→c.ext b=some v)→TR c nt tm a.tmps→
   ∀Q:Exit→Act→World→Prop,(∀e a' w',Post lim c h w nt a.defers x tm' h' e a' w'→Q e a' w')→wpOpsIn (Wd r) 0 E.P ops Q (Region.linearise .any ops t) a {w with drawn:=w.drawn+1}
theorem DrX.last {ops ops':Array Oper} {oz:Oper} (L:LastOf ops ops' oz) {tm tm1 tm2:T AV} {h h1 h2:Hp} {x:Ex} (hd:DrX E nt ops' tm h .normal tm1 h1) (ho:OpsS E nt ops [oz] tm1 h1 x tm2 h2):DrX E nt ops tm h x tm2 h2:=by
 refine ⟨Nat.le_trans hd.1 ho.1,fun lim hl c a w r t g hxt ht Q hQ=> ?_⟩;refine last_ok L (hd.2 lim (Nat.le_trans ho.1 hl) c a w r t g hxt ht _ ?_);rintro e a' w' ⟨c',t1,t2,t3,t4⟩;cases t2;show wpOpsIn (Wd r) 0 E.P ops Q [ops'.size] a' w';refine ho.2 lim hl [ops'.size] r (by simp [L.last]) c' a' w' t1.good (fun b v hb=>t1.e.ext _ _ (hxt b v hb)) t3 Q ?_;rintro e2 a2 w2 ⟨c2,u1,u2,u3,u4⟩;exact hQ _ _ _ ⟨c2,t1.trans u1,u2,u3,u4.trans t4⟩
theorem DrX.out {ops ops':Array Oper} {oz:Oper} (L:LastOf ops ops' oz) {tm tm1:T AV} {h h1:Hp} {x:Ex} (hd:DrX E nt ops' tm h x tm1 h1) (hx:x≠ .normal):DrX E nt ops tm h x tm1 h1:=by
 refine ⟨hd.1,fun lim hl c a w r t g hxt ht Q hQ=> ?_⟩;refine last_ok L (hd.2 lim hl c a w r t g hxt ht _ ?_);rintro e a' w' ⟨c',t1,t2,t3,t4⟩;have hq:=hQ e a' w' ⟨c',t1,t2,t3,t4⟩;cases x with
 |normal=>exact absurd rfl hx
 |exit id=>cases t2;exact hq
 |goto id=>cases t2;exact hq
 |ret=>cases t2;exact hq
 |panic v=>obtain ⟨y,rfl,_⟩:=t2;exact hq
theorem WOp.mono {o:Oper} {tm:T AV} {h:Hp} {K K':OR→Prop} (hw:WOp E o tm h K) (hk: ∀r,K r→K' r):WOp E o tm h K':=by
 have ha:aopK E o tm h K→aopK E o tm h K':=fun ⟨p,h1,h2⟩=>⟨p,h1,hk _ h2⟩;unfold WOp at hw ⊢;split at hw
 ·unfold calK at hw ⊢;split at hw
  ·refine hw.mono fun r h' hr=> ?_;cases r<;>exact hk _ hr
  ·refine hw.mono fun r h' hr=> ?_;cases r<;>exact hk _ hr
  ·exact ha hw
 ·obtain ⟨p,h1,h2⟩:=hw;exact ⟨p,h1,hk _ h2⟩
 ·exact hw.elim
 ·exact ha hw
def seqX (N:T AV→Hp→Prop) (Q:Ex→T AV→Hp→Prop):Ex→T AV→Hp→Prop
 | .normal,tm,h=>N tm h
 |x,tm,h=>Q x tm h
theorem WO_split {ops ops':Array Oper} {o:Oper} {ol:List Oper} {tm:T AV} {h:Hp} {Q:Ex→T AV→Hp→Prop} (hg: ∀j w,o.guard=some (j,w)→ops'[j]? =ops[j]?) (hw:WO E nt ops (o::ol) tm h Q):WO E nt ops' [o] tm h (seqX (fun tm h=>WO E nt ops ol tm h Q) Q):=by
 simp only [WO] at hw ⊢;have e1:guardOk nt ops' o=guardOk nt ops o:=by
  unfold guardOk;split
  ·rfl
  ·rename_i j w hgg;rw [hg j w hgg]
 have e2:awanted ops' o tm=awanted ops o tm:=by
  unfold awanted;split
  ·rfl
  ·rename_i j w hgg;rw [hg j w hgg]
 rw [e1,e2];refine ⟨hw.1,?_⟩;have hw:=hw.2;cases haw:awanted ops o tm with
 |false=>rw [haw] at hw;exact hw
 |true=>
  rw [haw] at hw;refine WOp.mono hw fun r hr=> ?_;cases r with
  |pan v h'=>exact hr
  |ok v h'=>exact hr
def lastsOk:List Oper→List Oper→Bool
 |_,[]=>true
 |m,z::zs=>lastF m z && lastsOk (m++[z]) zs
theorem lastF_gd {m:List Oper} {z:Oper} (h:lastF m z=true) {j:Nat} {w:Bool} (hg:z.guard=some (j,w)):j<m.length:=by
 unfold lastF at h;split at h
 ·cases h
 split at h
 ·cases h
 simp only [Bool.and_eq_true] at h;have:=h.2.2;unfold guardLt at this;rw [hg] at this;simpa [Nat.blt_eq] using this
theorem DrX.outs {tm tm1:T AV} {h h1:Hp} {x:Ex} (hx:x≠ .normal): ∀(zs m:List Oper),lastsOk m zs=true→DrX E nt ⟨m⟩ tm h x tm1 h1→DrX E nt ⟨m++zs⟩ tm h x tm1 h1
 |[],m,_,hd=>by simpa using hd
 |z::zs,m,hl,hd=>by
  simp only [lastsOk,Bool.and_eq_true] at hl;have:=DrX.outs hx zs (m++[z]) hl.2 (DrX.out (lastF_ok hl.1) hd hx);simpa using this
theorem DrX.lasts (htb:Tb E.P E.tb) {ops:Array Oper} {tm:T AV} {h:Hp} {Q:Ex→T AV→Hp→Prop}: ∀(zs m:List Oper) (tm1:T AV) (h1:Hp),lastsOk m zs=true→(∀j,j<m.length+zs.length→ops[j]? =(m++zs)[j]?)→DrX E nt ⟨m⟩ tm h .normal tm1 h1→WO E nt ops zs tm1 h1 Q→ ∃x tm' h',DrX E nt ⟨m++zs⟩ tm h x tm' h'∧Q x tm' h'
 |[],m,tm1,h1,_,_,hd,hw=>⟨_,_,_,by simpa using hd,hw⟩
 |z::zs,m,tm1,h1,hl,hat,hd,hw=>by
  simp only [lastsOk,Bool.and_eq_true] at hl;have hw1:=WO_split (ops':=⟨m++[z]⟩) (fun j w hg=>by
   have hj:=lastF_gd hl.1 hg;rw [hat j (by simp;omega)];simp [List.getElem?_append_left hj]) hw
  obtain ⟨x,tm2,h2,ho,hq⟩:=WO.ok htb _ _ _ _ hw1;cases x with
  |normal=>
   have:=DrX.lasts htb zs (m++[z]) tm2 h2 hl.2 (fun j hj=>by rw [hat j (by simp at hj ⊢;omega)];simp) (DrX.last (lastF_ok hl.1) hd ho) hq;simpa using this
  |exit id=>exact ⟨_,_,_,by simpa using DrX.outs (by simp) zs (m++[z]) hl.2 (DrX.last (lastF_ok hl.1) hd ho),hq⟩
  |goto id=>exact ⟨_,_,_,by simpa using DrX.outs (by simp) zs (m++[z]) hl.2 (DrX.last (lastF_ok hl.1) hd ho),hq⟩
  |ret=>exact ⟨_,_,_,by simpa using DrX.outs (by simp) zs (m++[z]) hl.2 (DrX.last (lastF_ok hl.1) hd ho),hq⟩
  |panic v=>exact ⟨_,_,_,by simpa using DrX.outs (by simp) zs (m++[z]) hl.2 (DrX.last (lastF_ok hl.1) hd ho),hq⟩
def calmOk (nt:Nat) (ops:Array Oper):Bool:=
 match sta ops with
 |none=>false
 |some s=>Nat.ble s.mx nt && chainOk ops.toList s.ms 0 []
theorem WOC.ok (htb:Tb E.P E.tb) {ops:Array Oper} (hst:calmOk nt ops=true) {tm:T AV} {h:Hp} {Q:T AV→Hp→Prop} (hw:WOC E nt ops ops.toList tm h Q): ∃tm' h',DrX E nt ops tm h .normal tm' h'∧Q tm' h':=by
 unfold calmOk at hst;split at hst
 ·cases hst
 rename_i s hs;simp only [Bool.and_eq_true] at hst;obtain ⟨call,st,h',cs,r1,_,r3,⟨_,I1,I2,I3,I4,_⟩,r5,r6,r7⟩:=woc_drun (t0:=h.t) (MS:=s.ms) ops.toList s.ms 0 [] tm h Q {i:=0,tm:=tm,n:=h.n,b:=h.t,mj:=0,dl:=0,ne:=0,fs:=[],bs:=[],rs:=[]} hw hst.2 (fun _ h=>h) (PR:=fun _=>True) (PC:=fun _=>True) (fun _ _ _=>⟨fun _=>trivial,fun _=>trivial⟩) rfl rfl rfl rfl ⟨⟨.inl rfl,by simp⟩,rfl,rfl,by simp,by simp,.inl rfl⟩;have hchk:DChk E.P E.tb E.xt call st ops.size:=by
  intro r hr e he;refine .inr (.inr (.inr ⟨{t:=h.t,n:=r.n},?_⟩));have hb:e.b=h.t:=by
   rcases List.mem_cons.1 he with rfl|he
   ·exact I2
   ·exact I3 e he
  rw [I1];show evOp E.P E.tb E.xt call r.o r.tm {t:=e.b,n:=r.n}=_;rw [hb];exact I4 r hr call
 obtain ⟨n1,s1⟩:=drun_okP htb r1 hs (Nat.le_of_ble_eq_true hst.1) r3 hchk;have e1:({t:=ovl (fun f=> !bt st.mj f) st.fs st.b,n:=st.n}:Hp)=h':=by
  rw [I1,I2,r5];show ({t:=h.t,n:=h'.n}:Hp)=h';rw [←r6]
 rw [e1] at s1;rw [r5] at n1 s1;exact ⟨st.tm,h',⟨n1,s1⟩,r7⟩
def drawOk (nt:Nat) (ops:Array Oper) (k:Nat):Bool:=calmOk nt ⟨ops.toList.take k⟩ && (lastsOk (ops.toList.take k) (ops.toList.drop k) && (ops.toList.take k).all (guardLt k))
theorem WOC_prefix {ops ops':Array Oper}: ∀(ol:List Oper) (tm:T AV) (h:Hp) (Q:T AV→Hp→Prop),(∀o∈ol,∀j w,o.guard=some (j,w)→ops'[j]? =ops[j]?)→WOC E nt ops ol tm h Q→WOC E nt ops' ol tm h Q
 |[],tm,h,Q,_,hw=>hw
 |o::ol,tm,h,Q,hg,hw=>by
  simp only [WOC] at hw ⊢;have hgo:=hg o List.mem_cons_self;have e1:guardOk nt ops' o=guardOk nt ops o:=by
   unfold guardOk;split
   ·rfl
   ·rename_i j w hgg;rw [hgo j w hgg]
  have e2:awanted ops' o tm=awanted ops o tm:=by
   unfold awanted;split
   ·rfl
   ·rename_i j w hgg;rw [hgo j w hgg]
  rw [e1,e2];refine ⟨hw.1,?_⟩;have hw:=hw.2;have hput: ∀{v:AV} {N N':T AV→Prop},putK nt tm o.dst v N→(∀t,N t→N' t)→putK nt tm o.dst v N':=fun {v N N'} hp hn=>by
   unfold putK at hp ⊢;split at hp
   ·exact hn _ hp
   ·exact ⟨hp.1,hn _ hp.2⟩
  cases haw:awanted ops o tm with
  |false=>
   rw [haw] at hw;simp only [cond_false] at hw ⊢;exact hput hw fun t ht=>WOC_prefix ol t h Q (fun o' ho'=>hg o' (List.mem_cons_of_mem _ ho')) ht
  |true=>
   rw [haw] at hw;refine WOp.mono hw fun r hr=> ?_;cases r with
   |pan v h'=>exact hr
   |ok v h'=>exact ⟨hr.1,hput hr.2 fun t ht=>WOC_prefix ol t h' Q (fun o' ho'=>hg o' (List.mem_cons_of_mem _ ho')) ht⟩
theorem SemC.drawn (htb:Tb E.P E.tb) (hm:E.P.follows .mixedOrders=true) {r:Option Nat} {id:Nat} {ops:Array Oper} (k:Nat) (hst:drawOk nt ops k=true) {tm:T AV} {h:Hp} {mks:List Nat} {Q:Ex→St→Prop}
  (hw:WOC E nt ops (ops.toList.take k) tm h (fun tm1 h1=>WO E nt ops (ops.toList.drop k) tm1 h1 (regK ⟨tm,nt,h,mks⟩ Q))):W E r (.region id ops true) ⟨tm,nt,h,mks⟩ Q:=by
 unfold drawOk at hst;simp only [Bool.and_eq_true] at hst;have hw1:=WOC_prefix (ops':=⟨ops.toList.take k⟩) _ _ _ _ (fun o ho j w hg=>by
  have:=List.all_eq_true.1 hst.2.2 o ho;unfold guardLt at this;rw [hg] at this;simp only [Nat.blt_eq] at this;simp [List.getElem?_take,this]) hw
 obtain ⟨tm1,h1,hd,hq⟩:=WOC.ok htb hst.1 hw1;obtain ⟨x,tm2,h2,hd2,hq2⟩:=DrX.lasts htb _ _ tm1 h1 hst.2.1 (fun j hj=>by rw [List.take_append_drop,Array.getElem?_toList]) hd hq;rw [List.take_append_drop] at hd2;have lift: ∀{a:Act} {w:World} {r:Option Nat} {id:Nat} {Q:Exit→Act→World→Prop},(∀t,wpOpsIn (Wd r) 0 E.P ops Q (Region.linearise .any ops t) a {w with drawn:=w.drawn+1})→(Code.region id ops true).wpIn (Wd r) 0 E.P Q a w:=fun hh=>by
  refine wpIn_region_draw fun t=> ?_;simp only [Region.schedule,hm,Bool.true_or,if_true];exact hh t
 have hds:DrwS E nt ops tm h x tm2 h2:=⟨hd2.1,fun lim hl c a w r id g hxt ht Q hQ=>lift fun t=>hd2.2 lim hl c a w r t g hxt ht Q hQ⟩;exact ⟨_,_,.regionD (st:=⟨tm,nt,h,mks⟩) hds,hq2⟩
section
variable {ops:Array Oper} {o:Oper} {ol:List Oper} {tm:T AV} {h h':Hp} {Q:T AV→Hp→Prop} {dst:Option Tmp} {ty:TypeId} {ps:String} {af:Array Edge} {g:Option (Nat×Bool)} {r:Option Nat} {mks:List Nat}
def WOCn (ic:Bool) (E:Env) (nt:Nat) (ops:Array Oper) (ol:List Oper) (tm:T AV) (h:Hp) (dst:Option Tmp) (Q:T AV→Hp→Prop):OR→Prop:=WOCk ic nt tm h dst (fun tm' h'=>WOC E nt ops ol tm' h' Q)
def gateC (gd wt:Bool) (E:Env) (nt:Nat) (ops:Array Oper) (o:Oper) (ol:List Oper) (tm:T AV) (h:Hp) (Q:T AV→Hp→Prop):Prop:=
 gd=true∧bif wt then WOp E o tm h (WOCn (isCall o.op) E nt ops ol tm h o.dst Q) else putK nt tm o.dst default (fun tm'=>WOC E nt ops ol tm' h Q)
theorem WOC_nil:WOC E nt ops [] tm h Q=Q tm h:=rfl
theorem WOC_cons:WOC E nt ops (o::ol) tm h Q=gateC (guardOk nt ops o) (awanted ops o tm) E nt ops o ol tm h Q:=rfl
theorem gateC_t:gateC true true E nt ops o ol tm h Q=WOp E o tm h (WOCn (isCall o.op) E nt ops ol tm h o.dst Q):=by simp [gateC]
theorem gateC_fs {d:Tmp} {op:Op}:gateC true false E nt ops ⟨some d,op,ty,ps,af,g⟩ ol tm h Q=(d<nt∧WOC E nt ops ol (tm.put (some default) d) h Q):=by simp [gateC,putK]
theorem WOCn_f {d:Tmp} {v:AV}:WOCn false E nt ops ol tm h (some d) Q (.ok v h)=(d<nt∧WOC E nt ops ol (tm.put (some v) d) h Q):=by
 refine propext ⟨fun hh=>hh.2,fun hh=>⟨⟨h.n,by simp,Nat.le_refl _,rfl⟩,hh⟩⟩
theorem WOCn_t {d:Tmp} {v:AV} {n:Nat} (hn:h.n<n):WOCn true E nt ops ol tm h (some d) Q (.ok v (h.up n))=(d<nt∧WOC E nt ops ol (tm.put (some v) d) (h.up n) Q):=by
 refine propext ⟨fun hh=>hh.2,fun hh=>⟨⟨n,fun _=>hn,Nat.le_of_lt hn,rfl⟩,hh⟩⟩
theorem isCall_call {f:Operand} {a:Array Operand} {ts:Array TypeId}:isCall (.call ⟨.value f,a,ts⟩)=true:=rfl
theorem isCall_inv {x:Operand} {nm:String} {a:Array Operand} {ts:Array TypeId}:isCall (.call ⟨.invoke x nm,a,ts⟩)=true:=rfl
theorem isCall_builtin {b:Builtin} {a:Array Operand} {ts:Array TypeId}:isCall (.call ⟨.builtin b,a,ts⟩)=false:=rfl
theorem isCall_move {x:Operand}:isCall (.move x)=false:=rfl
theorem isCall_assign {x:Operand}:isCall (.assign x)=false:=rfl
theorem isCall_pick {x y z:Operand}:isCall (.pick x y z)=false:=rfl
theorem isCall_load {t:TypeId} {x:Operand}:isCall (.load t x)=false:=rfl
theorem isCall_bin {b:BinOp} {t t':TypeId} {x y:Operand}:isCall (.binOp b t x y t')=false:=rfl
theorem isCall_un {b:UnOp} {t:TypeId} {x:Operand}:isCall (.unOp b t x)=false:=rfl
theorem isCall_fa {t:TypeId} {x:Operand} {f:Nat}:isCall (.fieldAddr t x f)=false:=rfl
theorem isCall_f {t:TypeId} {x:Operand} {f:Nat}:isCall (.field t x f)=false:=rfl
theorem isCall_ia {t:TypeId} {x y:Operand}:isCall (.indexAddr t x y)=false:=rfl
theorem isCall_i {t:TypeId} {x y:Operand}:isCall (.index t x y)=false:=rfl
theorem isCall_build {t:TypeId} {p:Array (Nat×Operand)}:isCall (.build t p)=false:=rfl
theorem isCall_ex {x:Operand} {i:Nat}:isCall (.extract x i)=false:=rfl
theorem isCall_mf {f:Fn} {a b:Array Operand}:isCall (.makeFunc f a b)=false:=rfl
theorem seq_regD (ok:SyOk E) {id:Nat} {b:Code} {Q:Ex→St→Prop} (k:Nat) (hst:drawOk nt ops k=true) (hw: ∀K:Ex→T AV→Hp→Prop,(∀tm h,wpc E r b ⟨tm,nt,h,mks⟩ Q→K .normal tm h)→(∀v tm h,Q (.panic v) ⟨tm,nt,h,mks⟩→K (.panic v) tm h)→WOC E nt ops (ops.toList.take k) tm h (fun tm1 h1=>WO E nt ops (ops.toList.drop k) tm1 h1 K)):
  wpc E r (.seq (.region id ops true) b) ⟨tm,nt,h,mks⟩ Q:=by
 show W E r (.region id ops true) ⟨tm,nt,h,mks⟩ (seqK (fun s=>wpc E r b s Q) Q);exact SemC.drawn ok.tb ok.mixed k hst (hw _ (fun tm h hh=>hh) (fun v tm h hh=>hh))
end
end
theorem drun_append {P:Program} {tb:T TE} {xt:Addr→Option Value} {call:CallF} {ops:Array Oper}: ∀(l1 l2:List Oper) (ms:List Nat) (st st1:DS),drun P tb xt call ops l1 ms st=some st1→drun P tb xt call ops (l1++l2) ms st=drun P tb xt call ops l2 (ms.drop l1.length) st1
 |[],l2,ms,st,st1,h=>by rw [drun_nil] at h;cases h;rfl
 |o::l1,l2,[],st,st1,h=>by rw [drun_short] at h;cases h
 |o::l1,l2,m::ms,st,st1,h=>by
  rw [drun_cons] at h;rw [List.cons_append,drun_cons];cases hd:dstep P tb xt call ops o m st with
  |none=>rw [hd] at h;cases h
  |some st'=>rw [hd] at h;exact drun_append l1 l2 ms st' st1 h
end Go.Ev
end
noncomputable section
namespace Go.Ev
section
variable {E:Env}
end
end Go.Ev
end
noncomputable section
namespace Go.Ev
def OwnSl (h:Hp) (N sz:Nat) (e:TypeId) (v:AV) (n:Nat) (cs:List AV):Prop:=
 (n=0∧cs=[]∧v= .val (.slice none 0 0))∨(∃b,v= .sl b 0 n sz∧N≤b∧b<h.n∧h.t.get b=some (.cells cs e)∧cs.length=n*sz)
section
variable {P:Program} {tb:T TE} {xt:Addr→Option Value} {h:Hp} {N sz n m by_:Nat} {t tx e ex:TypeId} {te xe ee:TE} {v x:AV} {cs cz:List AV}
theorem OwnSl.nil:OwnSl h N sz e (.val (.slice none 0 0)) 0 []:= .inl ⟨rfl,rfl,rfl⟩
theorem OwnSl.keep {h':Hp} (o:OwnSl h N sz e v n cs) (hn:h.n≤h'.n) (hk: ∀k,N≤k→k<h.n→h'.t.get k=h.t.get k):OwnSl h' N sz e v n cs:=by
 rcases o with o|⟨b,h1,h2,h3,h4,h5⟩
 ·exact .inl o
 ·exact .inr ⟨b,h1,h2,Nat.lt_of_lt_of_le h3 hn,by rw [hk b h2 h3];exact h4,h5⟩
theorem OwnSl.fr {h':Hp} {M:Nat} (o:OwnSl h N sz e v n cs) (f:Fr M h h') (hM:h.n≤M):OwnSl h' N sz e v n cs:=o.keep f.le fun k _ hk=>f.at_ k (.inl (Nat.lt_of_lt_of_le hk hM))
theorem OwnSl.new (o:OwnSl h N sz e v n cs) (ob:AO):OwnSl (h.new ob) N sz e v n cs:=o.fr (Fr.new (Fr.refl (Nat.le_refl _)) ob) (Nat.le_refl _)
theorem OwnSl.up (o:OwnSl h N sz e v n cs) {k:Nat} (hk:h.n≤k):OwnSl (h.up k) N sz e v n cs:=o.keep hk fun _ _ _=>rfl
theorem OwnSl.one (o:OwnSl h N sz e v n cs):Go.Ev.one v=true:=by
 rcases o with ⟨_,_,rfl⟩|⟨_,rfl,_⟩<;>rfl
theorem OwnSl.cells (o:OwnSl h N sz e v n cs):cellsOf v=[v]:=by
 rcases o with ⟨_,_,rfl⟩|⟨_,rfl,_⟩<;>rfl
theorem OwnSl.len (o:OwnSl h N sz e v n cs) (ht:tb.get t=some te) (hd:te.d= .slice e) {h':Hp}:alen tb h' t v=some n:=by
 rcases o with ⟨rfl,_,rfl⟩|⟨b,rfl,_⟩<;>simp [alen,ht,hd]
theorem OwnSl.idx (o:OwnSl h N sz e v n cs) (ht:tb.get t=some te) (hd:te.d= .slice e) (he:tb.get e=some ee) (hs:ee.size=sz) {i:Nat} (hi:i<n) {k:IntKind}: ∃b,aindexAddr tb t v (.val (.int k (i:Int)))=some (.ptr b (i*sz))∧N≤b∧b<h.n∧h.t.get b=some (.cells cs e)∧cs.length=n*sz:=by
 rcases o with ⟨rfl,_,rfl⟩|⟨b,rfl,h2,h3,h4,h5⟩
 ·omega
 ·refine ⟨b,?_,h2,h3,h4,h5⟩;have e1:aint (.val (.int k (i:Int)))=some (Int.ofNat i):=rfl;have e2:Nat.blt i n=true:=by rw [Nat.blt_eq];exact hi
  simp [aindexAddr,ht,e1,hd,he,e2,hs]
theorem OwnSl.append (o:OwnSl h N sz e v n cs) (hN:N≤h.n) (ht:tb.get t=some te) (hd:te.d= .slice e) (he:tb.get e=some ee) (hs:ee.size=sz) (hby:ee.bytes=by_) (htx:tb.get tx=some xe) (hdx:xe.d= .slice ex)
  (hsrc:asrc xt h sz x=some (m,cz)) (hm:0<m) (hcz:cz.length=m*sz) (hl:(n+m)*by_≤140737488355328) (hl2:n+m≤9223372036854775807):
  ∃v' h',abuiltin P tb xt .append [t,tx] [v,x] h=some (v',h')∧OwnSl h' N sz e v' (n+m) (cs++cz)∧Fr N h h'∧h'.n=h.n+1:=by
 have hq:(match xe.d with| .slice _=>true| .str=>true|_=>false)=true:=by rw [hdx]
 have b3:Nat.ble ((n+m)*by_) 140737488355328=true:=by rw [Nat.ble_eq];exact hl
 have b4:Nat.ble (n+m) 9223372036854775807=true:=by rw [Nat.ble_eq];exact hl2
 rcases o with ⟨rfl,rfl,rfl⟩|⟨b,rfl,h2,h3,h4,h5⟩
 ·have b0:Nat.beq m 0=false:=by
   cases hb:Nat.beq m 0 with
   |false=>rfl
   |true=>have:=Nat.eq_of_beq_eq_true hb;omega
  rw [Nat.zero_add] at b3 b4;refine ⟨.sl h.n 0 m sz,h.new (.cells cz e),?_,.inr ⟨h.n,by rw [Nat.zero_add],hN,by simp [Hp.new_n],by simp [Hp.new_t,T.get_put],by simpa using hcz⟩,Fr.new (Fr.refl hN) _,rfl⟩;have:aappend tb xt h t tx (.val (.slice none 0 0)) x=some (.sl h.n 0 m sz,h.new (.cells cz e)):=by
   unfold aappend;simp only [ht,hd,he,htx,hdx,hs,hsrc,b0,hby,b3,b4];simp
  simp only [abuiltin,this]
 ·have b5:Nat.ble (n*sz) cs.length=true:=by rw [Nat.ble_eq,h5];exact Nat.le_refl _
  have e1:cs.take (n*sz)=cs:=List.take_of_length_le (by rw [h5];exact Nat.le_refl _);refine ⟨.sl h.n 0 (n+m) sz,(h.del b).new (.cells (cs++cz) e),?_,.inr ⟨h.n,rfl,hN,by simp [Hp.new_n,Hp.del_n],by simp [Hp.new_t,Hp.del_n,T.get_put],by simp [h5,hcz,Nat.add_mul]⟩,Fr.new ((Fr.refl hN).del h2 h3) _,rfl⟩;have:aappend tb xt h t tx (.sl b 0 n sz) x=some (.sl h.n 0 (n+m) sz,(h.del b).new (.cells (cs++cz) e)):=by
   unfold aappend;simp only [ht,hd,he,htx,hdx,hs,hsrc,h4,hby,b3,b4,b5,e1];simp [Hp.del_n]
  simp only [abuiltin,this]
theorem src_own {b:Nat} (hb:h.t.get b=some (.cells cz e)) (hl:cz.length=m*sz) (ho:cz.all Go.Ev.one=true):asrc xt h sz (.sl b 0 m sz)=some (m,cz):=by
 have b1:Nat.ble (0+m*sz) cz.length=true:=by rw [Nat.ble_eq];omega
 have e1:(cz.drop 0).take (m*sz)=cz:=by rw [List.drop_zero];exact List.take_of_length_le (by rw [hl];exact Nat.le_refl _)
 have b2:Nat.beq sz sz=true:=by simp
 simp only [asrc,hb,b1,b2,e1,ho];rfl
theorem flat_get {α:Type} {sz:Nat}: ∀(l:List (List α)) (i j:Nat) (c:List α) (u:α),(∀c∈l,c.length=sz)→l[i]? =some c→c[j]? =some u→l.flatten[i*sz+j]? =some u
 |[],i,j,c,u,_,hc,_=>by simp at hc
 |d::l,0,j,c,u,hl,hc,hu=>by
  simp only [List.getElem?_cons_zero,Option.some.injEq] at hc;subst hc;simp only [Nat.zero_mul,Nat.zero_add,List.flatten_cons];rw [List.getElem?_append_left (List.getElem?_eq_some_iff.1 hu).1];exact hu
 |d::l,i+1,j,c,u,hl,hc,hu=>by
  simp only [List.getElem?_cons_succ] at hc;have hd:=hl d List.mem_cons_self;rw [List.flatten_cons,List.getElem?_append_right (by rw [hd,Nat.add_mul];omega),hd,show (i+1)*sz+j - sz=i*sz+j by rw [Nat.add_mul];omega];exact flat_get l i j c u (fun c hc=>hl c (List.mem_cons_of_mem _ hc)) hc hu
theorem OwnSl.row {cl:List (List Value)} (hsz: ∀c∈cl,c.length=sz) (h0:0<sz) (o:OwnSl h N sz e v cl.length (cl.flatten.map .val)):RowAt xt h sz v cl:=by
 refine ⟨hsz,h0,?_⟩;rcases o with ⟨h1,_,rfl⟩|⟨b,rfl,h2,h3,h4,h5⟩
 ·exact .inl ⟨rfl,List.eq_nil_of_length_eq_zero h1⟩
 ·refine .inr (.inr ⟨b,0,_,e,rfl,⟨h3,by rw [h5];omega,h4⟩,fun i c hc j u hu=> ?_⟩);rw [Nat.zero_add,List.getElem?_map,flat_get cl i j c u hsz hc hu];rfl
end
end Go.Ev
end
noncomputable section
namespace Go.Ev
def bs (l:List UInt8):ByteArray:=⟨l.toArray⟩
def sv (l:List UInt8):AV:= .val (.string (bs l))
theorem bs_toList (l:List UInt8):(bs l).data.toList=l:=by simp [bs]
theorem bs_self (s:ByteArray):bs s.data.toList=s:=by cases s;simp [bs]
theorem bs_size (l:List UInt8):(bs l).size=l.length:=by simp [bs,ByteArray.size]
theorem bs_append (a b:List UInt8):bs a++bs b=bs (a++b):=by
 apply ByteArray.ext
 simp [bs]
theorem bs_extract (l:List UInt8) (i j:Nat):(bs l).extract i j=bs ((l.take j).drop i):=by
 apply ByteArray.ext
 simp [bs,List.drop_take]
theorem sv_cells (l:List UInt8):cellsOf (sv l)=[sv l]:=rfl
theorem sv_one (l:List UInt8):Go.Ev.one (sv l)=true:=rfl
section
variable {P:Program} {tb:T TE} {t:TypeId} {ox oy:Operand} {h:Hp} {te:TE}
theorem beq_bytes (a b:List UInt8):((bs a).toList==(bs b).toList)=decide (a=b):=by
 rw [Lib.toList_data,Lib.toList_data,bs_toList,bs_toList];by_cases hab:a=b
 ·simp [hab]
 ·simp [hab]
theorem abin_eqs (a b:List UInt8):abin P tb .eql t ox oy (sv a) (sv b)=some (.val (.bool (decide (a=b)))):=by
 have e:abin P tb .eql t ox oy (sv a) (sv b)=some (.val (.bool ((bs a).toList==(bs b).toList))):=rfl;rw [e,beq_bytes]
theorem abin_nes (a b:List UInt8):abin P tb .neq t ox oy (sv a) (sv b)=some (.val (.bool (!decide (a=b)))):=by
 have e:abin P tb .neq t ox oy (sv a) (sv b)=some (.val (.bool (!((bs a).toList==(bs b).toList)))):=rfl;rw [e,beq_bytes]
theorem abin_cat (a b:List UInt8) (hl:a.length+b.length≤9223372036854775807):abin P tb .add t ox oy (sv a) (sv b)=some (sv (a++b)):=by
 have hr:(do eqGuard .add t ox oy (.string (bs a)) (.string (bs b));binOp .add t (.string (bs a)) (.string (bs b)):Sem Value)=pure (.string (bs (a++b))):=by
  show Op.stringOp .add (bs a) (bs b)=_;unfold Op.stringOp;simp only [bs_size,bs_append];rw [if_neg (by simp [IntKind.max,IntKind.bits,IntKind.signed];omega)]
 simp only [abin,sv,toVal,hr];rfl
theorem alen_s (ht:tb.get t=some te) (hd:te.d= .str) (a:List UInt8):alen tb h t (sv a)=some a.length:=by
 simp only [alen,ht,hd,sv,bs_toList]
theorem aindex_s (ht:tb.get t=some te) (hd:te.d= .str) (a:List UInt8) {k:IntKind} {i:Nat} (hi:i<a.length):aindex tb t (sv a) (.val (.int k (i:Int)))=some (.val (.int .u8 ((a[i]).toNat:Int))):=by
 have e1:aint (.val (.int k (i:Int)))=some (Int.ofNat i):=rfl;simp only [aindex,ht,hd,e1,sv,bs_toList,List.getElem?_eq_getElem hi]
theorem aslice_s (ht:tb.get t=some te) (hd:te.d= .str) (a:List UInt8) {i j:Nat} (hi:i≤j) (hj:j≤a.length) {k k':IntKind}:aslice tb h t (sv a) (some (.val (.int k (i:Int)))) (some (.val (.int k' (j:Int))))=some (sv ((a.take j).drop i)):=by
 have e1:abound 0 (some (.val (.int k (i:Int))))=some i:=rfl;have e2:abound a.length (some (.val (.int k' (j:Int))))=some j:=rfl;have b1:Nat.ble i j=true:=by rw [Nat.ble_eq];exact hi
 have b2:Nat.ble j a.length=true:=by rw [Nat.ble_eq];exact hj
 simp only [aslice,ht,hd,sv,bs_size,e1,e2,b1,b2,Bool.and_self,cond_true,bs_extract]
theorem aslice_s0 (ht:tb.get t=some te) (hd:te.d= .str) (a:List UInt8) {i:Nat} (hi:i≤a.length) {k:IntKind}:aslice tb h t (sv a) (some (.val (.int k (i:Int)))) none=some (sv (a.drop i)):=by
 have e1:abound 0 (some (.val (.int k (i:Int))))=some i:=rfl;have e2:abound a.length none=some a.length:=rfl;have b1:Nat.ble i a.length=true:=by rw [Nat.ble_eq];exact hi
 have b2:Nat.ble a.length a.length=true:=by rw [Nat.ble_eq];exact Nat.le_refl _
 simp only [aslice,ht,hd,sv,bs_size,e1,e2,b1,b2,Bool.and_self,cond_true,bs_extract,List.take_length]
theorem aconv_bytes {s d e:TypeId} {se de ee:TE} (hs:tb.get s=some se) (hds:se.d= .slice e) (hd:tb.get d=some de) (hdd:de.d= .str) (he:tb.get e=some ee) (hde:ee.d= .int .u8) {b:Nat} {l:List UInt8} {e':TypeId} (hb:h.t.get b=some (.cells (l.map fun x=> .val (.int .u8 (x.toNat:Int))) e')):
  aconv tb h s d (.sl b 0 l.length 1)=some (sv l):=by
 have ha: ∀l:List UInt8,abytes (l.map fun x=> .val (.int .u8 (x.toNat:Int)))=some (l.map fun x=>(x.toNat:Int)):=by
  intro l;induction l with
  |nil=>rfl
  |cons x l ih=>simp only [List.map_cons,abytes,ih]
 have b1:(Nat.beq 1 1 && Nat.ble (0+l.length) (l.map fun x=>AV.val (.int .u8 (x.toNat:Int))).length)=true:=by simp
 have e1:((l.map fun x=>AV.val (.int .u8 (x.toNat:Int))).drop 0).take l.length=l.map fun x=>AV.val (.int .u8 (x.toNat:Int)):=by
  rw [List.drop_zero];exact List.take_of_length_le (by simp)
 simp only [aconv,hs,hds,hd,hdd,he,hde,hb,b1,e1,ha,cond_true,sv,bs,List.map_map];have:(fun n:Int=>UInt8.ofNat n.toNat)∘(fun x:UInt8=>(x.toNat:Int))=id:=by funext x;simp
 rw [this,List.map_id]
theorem aconv_int {s d:TypeId} {se de:TE} {k k':IntKind} (hs:tb.get s=some se) (hd:tb.get d=some de) (hdd:de.d= .int k) (n:Int):aconv tb h s d (.val (.int k' n))=some (.val (.int k (k.wrap n))):=by
 simp only [aconv,hs,hd,hdd]
theorem aoRange_s (ht:tb.get t=some te) (hd:te.d= .str) (a:List UInt8):aoRange tb h t (sv a)=some (.ptr h.n 0,h.new (.siter (bs a) 0)):=by
 simp only [aoRange,ht,hd,sv]
theorem aoNext_t {b pos:Nat} {a:List UInt8} (hb:h.t.get b=some (.siter (bs a) pos)) (hp:pos<a.length):aoNext h (.ptr b 0) true=some (.val (.tuple #[.bool true,.int .i64 (pos:Int),.int .i32 ((Utf8.decode (bs a) pos).1:Int)]),h.set b (.siter (bs a) (pos+(Utf8.decode (bs a) pos).2))):=by
 have b1:Nat.blt pos a.length=true:=by rw [Nat.blt_eq];exact hp
 simp only [aoNext,anext,hb,bs_toList,b1,cond_true];rfl
theorem aoNext_f {b pos:Nat} {a:List UInt8} (hb:h.t.get b=some (.siter (bs a) pos)) (hp:a.length≤pos):aoNext h (.ptr b 0) true=some (.val (.tuple #[.bool false]),h):=by
 have b1:Nat.blt pos a.length=false:=by
  cases hq:Nat.blt pos a.length with
  |false=>rfl
  |true=>rw [Nat.blt_eq] at hq;omega
 simp only [aoNext,anext,hb,bs_toList,b1,cond_true,cond_false]
end
theorem dec_ascii (a:List UInt8) (i:Nat) (hi:i<a.length) (hc:(a[i]).toNat<128):Utf8.decode (bs a) i=((a[i]).toNat,1):=by
 have e:((bs a).get! (i+0))=a[i]:=by simp [bs,ByteArray.get!,hi]
 unfold Utf8.decode;simp only [e];rw [if_pos hc]
theorem dec_else (a:List UInt8) (i:Nat) (hi:i<a.length) (hc:128≤(a[i]).toNat):128≤(Utf8.decode (bs a) i).1:=by
 have e:((bs a).get! (i+0))=a[i]:=by simp [bs,ByteArray.get!,hi]
 unfold Utf8.decode;simp only [e];rw [if_neg (by omega)];split
 ·split
  ·assumption
  ·simp [Utf8.runeError]
 ·split
  ·split
   ·rename_i hq;simp at hq;simp;omega
   ·simp [Utf8.runeError]
  ·split
   ·split
    ·rename_i hq;simp at hq;simp;omega
    ·simp [Utf8.runeError]
   ·simp [Utf8.runeError]
end Go.Ev
end
