/- Parts of the proof, joined by a program. -/
import Derived.Test.YtafhmammmgbdgaaGreatDoorQC
import Derived.Test.YtafhmammmgbdgaaGreatDoorQB
set_option linter.all false
noncomputable section
namespace Go.Ev
structure RdE where
 i:Nat
 o:Oper
 tm:T AV
 n:Nat
 v:AV
def isSt:Op→Bool
 | .store _ _ _=>true
 | .call q=>match q.callee with
  | .builtin .append=>true
  |_=>false
 |_=>false
def isEf (o:Op):Bool:=isSt o || isCall o
abbrev SRd:=Nat×Nat×Nat
abbrev SVe:=Nat×Nat×Nat
def wsta (AL:List Nat) (N:Nat):List Oper→List Nat→Nat→Nat→Nat→Nat→List SRd→List SVe→Option (List SRd×List SVe)
 |[],_,_,ne,mj,_,SR,SV=>some (SR,(ne,mj,N)::SV)
 |_::_,[],_,_,_,_,_,_=>none
 |o::ol,m::ms,i,ne,mj,dl,SR,SV=>
  bif calm o.op then
   (match kindOf o.op with
   | .read=>bif AL.all (bt m) then wsta AL N ol ms (i+1) ne mj dl ((i,m,ne)::SR) SV else none
   |_=>wsta AL N ol ms (i+1) ne mj dl SR SV)
  else bif isEf o.op && (Nat.beq ne 0 || bt m dl) && AL.all (bt m) && (match o.guard with|none=>true|some _=>false) then wsta AL N ol ms (i+1) (ne+1) m i SR ((ne,mj,i)::SV) else none
def ordd (P:List (Nat×Nat)) (r:SRd) (e:SVe):Bool:=Nat.beq e.1 r.2.2 || (bt r.2.1 e.2.2 || (bt e.2.1 r.1 || P.any fun p=>Nat.beq p.1 r.1 && Nat.beq p.2 e.1))
def isAl (nt:Nat) (o:Oper):Bool:=
 match o.op,o.dst,o.guard with
 | .alloc _,some d,none=>Nat.blt d nt
 |_,_,_=>false
section
variable {E:Env} {nt:Nat} {ops:Array Oper}
def WOWk (st rd cl:Bool) (nt i ne:Nat) (o:Oper) (tm:T AV) (h:Hp) (R:List RdE) (V:List (Nat×T AO)) (N:Nat→T AV→Hp→List RdE→List (Nat×T AO)→Prop):OR→Prop
 | .pan _ _=>False
 | .ok v h'=>bif st then (h.n≤h'.n∧(cl=true→h.n<h'.n))∧putK nt tm o.dst v (fun tm'=>N (ne+1) tm' h' R ((ne+1,h'.t)::V))
  else h'=h∧putK nt tm o.dst v (fun tm'=>N ne tm' h (bif rd then ⟨i,o,tm,h.n,v⟩::R else R) V)
def isRd (o:Op):Bool:=
 match kindOf o with
 | .read=>true
 |_=>false
def WOW (E:Env) (nt:Nat) (ops:Array Oper):List Oper→Nat→Nat→T AV→Hp→List RdE→List (Nat×T AO)→(T AV→Hp→List RdE→List (Nat×T AO)→Prop)→Prop
 |[],_,_,tm,h,R,V,Q=>Q tm h R V
 |o::ol,i,ne,tm,h,R,V,Q=>guardOk nt ops o=true∧bif awanted ops o tm then WOp E o tm h (WOWk (isEf o.op) (isRd o.op) (isCall o.op) nt i ne o tm h R V (fun ne' tm' h' R' V'=>WOW E nt ops ol (i+1) ne' tm' h' R' V' Q)) else putK nt tm o.dst default (fun tm'=>WOW E nt ops ol (i+1) ne tm' h R V Q)
def WOA (E:Env):List Oper→T AV→Nat→List AO→(T AV→List AO→Prop)→Prop
 |[],tm,_,os,Q=>Q tm os
 |o::ol,tm,n,os,Q=>match o.op,o.dst with
  | .alloc e,some d=> ∃te,E.tb.get e=some te∧WOA E ol (tm.put (some (.ptr n 0)) d) (n+1) (os++[.cells (te.zero.map .val) e]) Q
  |_,_=>False
def newAll (t:T AO):Nat→List AO→T AO
 |_,[]=>t
 |n,o::os=>(newAll t (n+1) os).put (some o) n
structure WInv (E:Env) (AL:List Nat) (h0:T AO) (HA:T AO) (FS:List FE) (i ne mj dl:Nat) (tm:T AV) (h:Hp) (R:List RdE) (V:List (Nat×T AO)) (SR:List SRd) (SV:List SVe) (st:DS):Prop where
 fi:st.i=i
 ftm:st.tm=tm
 fn:st.n=h.n
 fne:st.ne=ne
 fmj:st.mj=mj
 fdl:st.dl=dl∨ne=0
 ffs:st.fs=FS
 fz:ne=0→mj=0∧st.b=h0∧h.t=HA
 fs:0<ne→(∀f∈AL,bt mj f=true)∧st.b=h.t∧(ne,h.t)∈V
 frs: ∀r∈st.rs,(r.i,r.m,r.ne)∈SR∧(∃e∈R,e.i=r.i∧e.o=r.o∧e.tm=r.tm∧e.n=r.n∧e.v=r.v∧calm r.o.op=true)∧((∀f∈AL,bt r.m f=true)∨(r.ne=0∧ ∀f∈AL,bt r.m f=false))
 fbs: ∀e∈st.bs,(e.j,e.mj,e.nx)∈SV∧(e.j=0→e.b=h0∧e.mj=0)∧(0<e.j→(e.j,e.b)∈V∧ ∀f∈AL,bt e.mj f=true)
 fv:(0,HA)∈V
theorem st_evOp {P:Program} {tb:T TE} {xt:Addr→Option Value} {o:Oper} {tm:T AV} {h:Hp} (hs:isSt o.op=true) (call:CallF):evOp P tb xt call o tm h=orOk (aop P tb xt (aeval tm) o.op h):=by
 cases hop:o.op with
 |store _ _ _=>simp only [evOp,hop]
 |call q=>
  rw [hop] at hs;simp only [isSt] at hs;split at hs
  ·rename_i hc;simp only [evOp,hop,evOpCall,hc]
  ·cases hs
 |_=>rw [hop] at hs;cases hs
theorem calm_notSt {op:Op} (h:calm op=true):isEf op=false:=by
 cases op<;>first|rfl|(cases h;done)|skip
 rename_i q;simp only [calm] at h;unfold isEf isSt isCall;cases hc:q.callee with
 |builtin b=>cases b<;>first|(simp only [hc];rfl)|(rw [hc] at h;simp at h)
 |_=>first|(simp only [hc];rfl)|(rw [hc] at h;simp at h)
theorem isSt_kind {op:Op} (h:isSt op=true):kindOf op= .eff:=by
 cases op<;>first|rfl|(cases h;done)|skip
 rename_i q;simp only [isSt] at h;split at h
 ·rename_i hc;simp only [kindOf,hc]
 ·cases h
theorem bt_zero (f:Nat):bt 0 f=false:=by rw [bt_eq];simp
theorem wow_drun {AL:List Nat} {h0 HA:T AO} {FS:List FE} {N:Nat} (hall: ∀q:Nat→Bool,(∀f∈AL,q f=true)→ovl q FS h0=HA) (hno: ∀(q:Nat→Bool) (b:T AO),(∀f∈AL,q f=false)→ovl q FS b=b) {Q:T AV→Hp→List RdE→List (Nat×T AO)→Prop} {SRz:List SRd} {SVz:List SVe}:
  ∀(ol:List Oper) (ms:List Nat) (i ne mj dl:Nat) (tm:T AV) (h:Hp) (R:List RdE) (V:List (Nat×T AO)) (SR:List SRd) (SV:List SVe) (st:DS),WOW E nt ops ol i ne tm h R V Q→wsta AL N ol ms i ne mj dl SR SV=some (SRz,SVz)→WInv E AL h0 HA FS i ne mj dl tm h R V SR SV st→
  ∃call st' ne' mj' dl' tm' h' R' V' SV',Sound E.P E.xt call∧((∀fv args k r,call fv args k=some r→h.n≤k.n∧k.n<h'.n)∧h.n≤h'.n)∧drun E.P E.tb E.xt call ops ol ms st=some st'∧WInv E AL h0 HA FS (i+ol.length) ne' mj' dl' tm' h' R' V' SRz SV' st'∧SVz=(ne',mj',N)::SV'∧Q tm' h' R' V'
 |[],ms,i,ne,mj,dl,tm,h,R,V,SR,SV,st,hw,hc,I=>by
  simp only [wsta,Option.some.injEq,Prod.mk.injEq] at hc;obtain ⟨rfl,rfl⟩:=hc;exact ⟨ncall,st,ne,mj,dl,tm,h,R,V,SV,ncall_ok _ _,⟨fun _ _ _ _ hx=>(by cases hx),Nat.le_refl _⟩,rfl,I,rfl,hw⟩
 |o::ol,[],i,ne,mj,dl,tm,h,R,V,SR,SV,st,hw,hc,I=>by simp [wsta] at hc
 |o::ol,m::ms,i,ne,mj,dl,tm,h,R,V,SR,SV,st,hw,hc,I=>by
  simp only [WOW] at hw;obtain ⟨_,hw⟩:=hw;have hput: ∀{v:AV} {N:T AV→Prop},putK nt tm o.dst v N→N (putT tm o.dst v):=fun {v N} hp=>by
   unfold putK at hp;unfold putT;split at hp
   ·rename_i hd;rw [hd];exact hp
   ·rename_i d hd;rw [hd];exact hp.2
  have hlen:i+(o::ol).length=(i+1)+ol.length:=by simp;omega
  rw [hlen];simp only [wsta] at hc;cases haw:awanted ops o tm with
  |false=>
   rw [haw] at hw;simp only [cond_false] at hw;have hw:=hput hw;have hd: ∀call,dstep E.P E.tb E.xt call ops o m st=some (upd o m st default {t:= .e,n:=st.n} .new):=fun call=>by
    unfold dstep dres;rw [I.ftm,haw];rfl
   have hcal:calm o.op=true:=by
    cases hcal:calm o.op with
    |true=>rfl
    |false=>
     rw [hcal] at hc;simp only [cond_false] at hc;obtain ⟨h1,_⟩:=cond_some hc;simp only [Bool.and_eq_true] at h1;have h2:=h1.2;split at h2
     ·rename_i hg;unfold awanted at haw;rw [hg] at haw;cases haw
     ·cases h2
   rw [hcal] at hc;simp only [cond_true] at hc;obtain ⟨SR2,hc2,hsub⟩: ∃SR2,wsta AL N ol ms (i+1) ne mj dl SR2 SV=some (SRz,SVz)∧ ∀x∈SR,x∈SR2:=by
    split at hc
    ·obtain ⟨_,hc⟩:=cond_some hc;exact ⟨_,hc,fun x hx=>List.mem_cons_of_mem _ hx⟩
    ·exact ⟨_,hc,fun x hx=>hx⟩
   obtain ⟨call,st',ne',mj',dl',tm',h',R',V',SV',c1,c2,r1,r2⟩:=wow_drun hall hno ol ms (i+1) ne mj dl _ h R V SR2 SV (upd o m st default {t:= .e,n:=st.n} .new) hw hc2
    ⟨by simp [upd,I.fi],by simp [upd,I.ftm],by simp [upd,I.fn],by simp [upd,I.fne],by simp [upd,I.fmj],by simpa [upd] using I.fdl,by simp [upd,I.ffs],fun hz=>by simpa [upd] using I.fz hz,fun hz=>by simpa [upd] using I.fs hz,fun r hr=>by have:=I.frs r (by simpa [upd] using hr);exact ⟨hsub _ this.1,this.2⟩,fun e he=>I.fbs e (by simpa [upd] using he),I.fv⟩
   exact ⟨call,st',ne',mj',dl',tm',h',R',V',SV',c1,c2,by rw [drun_cons,hd];exact r1,r2⟩
  |true=>
   rw [haw] at hw;simp only [cond_true] at hw;cases hcal:calm o.op with
   |true=>
    rw [hcal] at hc;simp only [cond_true] at hc;obtain ⟨call0,res,_,hop,hk⟩:=hw.ev;rw [calm_evOp rfl hcal] at hop;cases ha:aop E.P E.tb E.xt (aeval tm) o.op h with
    |none=>rw [ha] at hop;cases hop
    |some p=>
     obtain ⟨v,h1⟩:=p;rw [ha] at hop;simp only [orOk,Option.some.injEq] at hop;subst hop;simp only [WOWk,calm_notSt hcal,cond_false] at hk;obtain ⟨rfl,hk⟩:=hk;have hk:=hput hk;rcases calm_kind hcal with hkd|hkd
     ·obtain ⟨_,e2⟩:=calm_new hcal hkd ha;rw [hkd] at hc;simp only at hc;have hrd:isRd o.op=false:=by unfold isRd;rw [hkd]
      rw [hrd] at hk;simp only [cond_false] at hk;have hd: ∀call,dstep E.P E.tb E.xt call ops o m st=some (upd o m st v {t:= .e,n:=st.n} .new):=fun call=>by
       unfold dstep dres;rw [I.ftm,haw,hkd];simp only [cond_true];rw [calm_evOp rfl hcal,e2];rfl
      obtain ⟨call,st',ne',mj',dl',tm',h',R',V',SV',c1,c2,r1,r2⟩:=wow_drun hall hno ol ms (i+1) ne mj dl _ h1 R V SR SV (upd o m st v {t:= .e,n:=st.n} .new) hk hc
       ⟨by simp [upd,I.fi],by simp [upd,I.ftm],by simp [upd,I.fn],by simp [upd,I.fne],by simp [upd,I.fmj],by simpa [upd] using I.fdl,by simp [upd,I.ffs],fun hz=>by simpa [upd] using I.fz hz,fun hz=>by simpa [upd] using I.fs hz,fun r hr=>I.frs r (by simpa [upd] using hr),fun e he=>I.fbs e (by simpa [upd] using he),I.fv⟩
      exact ⟨call,st',ne',mj',dl',tm',h',R',V',SV',c1,c2,by rw [drun_cons,hd];exact r1,r2⟩
     ·rw [hkd] at hc;simp only at hc;obtain ⟨hal,hc⟩:=cond_some hc;have hal:=List.all_eq_true.1 hal;have hrd:isRd o.op=true:=by unfold isRd;rw [hkd]
      rw [hrd] at hk;simp only [cond_true] at hk;have hov:({t:=ovl (fun f=>bt m f && !bt st.mj f) st.fs st.b,n:=st.n}:Hp)=h1:=by
       have:ovl (fun f=>bt m f && !bt st.mj f) st.fs st.b=h1.t:=by
        rw [I.ffs];rcases Nat.eq_zero_or_pos ne with hz|hz
        ·obtain ⟨z1,z2,z3⟩:=I.fz hz;rw [z2,z3];exact hall _ fun f hf=>by rw [I.fmj,z1,hal f hf,bt_zero];rfl
        ·obtain ⟨z1,z2,_⟩:=I.fs hz;rw [z2];exact hno _ _ fun f hf=>by rw [I.fmj,z1 f hf];simp
       rw [this,I.fn]
      have hd: ∀call,dstep E.P E.tb E.xt call ops o m st=some (upd o m st v h1 .read):=fun call=>by
       unfold dstep dres;rw [I.ftm,haw,hkd];simp only [cond_true];rw [hov,calm_evOp rfl hcal,ha];rfl
      obtain ⟨call,st',ne',mj',dl',tm',h',R',V',SV',c1,c2,r1,r2⟩:=wow_drun hall hno ol ms (i+1) ne mj dl _ h1 _ V ((i,m,ne)::SR) SV (upd o m st v h1 .read) hk hc
       ⟨by simp [upd,I.fi],by simp [upd,I.ftm],by simp [upd,I.fn],by simp [upd,I.fne],by simp [upd,I.fmj],by simpa [upd] using I.fdl,by simp [upd,I.ffs],fun hz=>by simpa [upd] using I.fz hz,fun hz=>by simpa [upd] using I.fs hz,fun r hr=>by
        simp only [upd,List.mem_cons] at hr;rcases hr with rfl|hr
        ·exact ⟨by simp [I.fi,I.fne],⟨_,List.mem_cons_self,by simp [I.fi,I.ftm,I.fn,hcal]⟩,.inl hal⟩
        ·obtain ⟨q1,⟨e,q2,q3⟩,q4⟩:=I.frs r hr;exact ⟨List.mem_cons_of_mem _ q1,⟨e,List.mem_cons_of_mem _ q2,q3⟩,q4⟩,fun e he=>I.fbs e (by simpa [upd] using he),I.fv⟩
      exact ⟨call,st',ne',mj',dl',tm',h',R',V',SV',c1,c2,by rw [drun_cons,hd];exact r1,r2⟩
   |false=>
    rw [hcal] at hc;simp only [cond_false] at hc;obtain ⟨hg,hc⟩:=cond_some hc;simp only [Bool.and_eq_true] at hg;obtain ⟨⟨⟨hst,hch⟩,hal⟩,_⟩:=hg;have hal:=List.all_eq_true.1 hal;have hov:({t:=ovl (fun f=>bt m f && !bt st.mj f) st.fs st.b,n:=st.n}:Hp)=h:=by
     have:ovl (fun f=>bt m f && !bt st.mj f) st.fs st.b=h.t:=by
      rw [I.ffs];rcases Nat.eq_zero_or_pos ne with hz|hz
      ·obtain ⟨z1,z2,z3⟩:=I.fz hz;rw [z2,z3];exact hall _ fun f hf=>by rw [I.fmj,z1,hal f hf,bt_zero];rfl
      ·obtain ⟨z1,z2,_⟩:=I.fs hz;rw [z2];exact hno _ _ fun f hf=>by rw [I.fmj,z1 f hf];simp
     rw [this,I.fn]
    have hch2:(Nat.beq st.ne 0 || bt m st.dl)=true:=by
     rw [I.fne];rcases I.fdl with hdl|hdl
     ·rw [hdl];exact hch
     ·rw [hdl];rfl
    have next: ∀(v:AV) (h1:Hp),kindOf o.op= .eff→WOW E nt ops ol (i+1) (ne+1) (putT tm o.dst v) h1 R ((ne+1,h1.t)::V) Q→h.n≤h1.n→ ∃call st' ne' mj' dl' tm' h' R' V' SV',Sound E.P E.xt call∧((∀fv args k r,call fv args k=some r→h1.n≤k.n∧k.n<h'.n)∧h1.n≤h'.n)∧drun E.P E.tb E.xt call ops ol ms (upd o m st v h1 .eff)=some st'∧WInv E AL h0 HA FS (i+1+ol.length) ne' mj' dl' tm' h' R' V' SRz SV' st'∧SVz=(ne',mj',N)::SV'∧Q tm' h' R' V':=fun v h1 hke hk hle=>by
     exact wow_drun hall hno ol ms (i+1) (ne+1) m i _ h1 R _ SR ((ne,mj,i)::SV) (upd o m st v h1 .eff) hk hc
      ⟨by simp [upd,I.fi],by simp [upd,I.ftm],by simp [upd],by simp [upd,I.fne],by simp [upd],.inl (by simp [upd,I.fi]),by simp [upd,I.ffs],fun hz=>by omega,fun hz=>⟨hal,by simp [upd],List.mem_cons_self⟩,fun r hr=>I.frs r (by simpa [upd] using hr),fun e he=>by
       simp only [upd,List.mem_cons] at he;rcases he with rfl|he
       ·refine ⟨by simp [I.fne,I.fmj,I.fi],fun hz=> ?_,fun hz=> ?_⟩
        ·simp only [I.fne] at hz;obtain ⟨z1,z2,z3⟩:=I.fz hz;exact ⟨z2,by simp [I.fmj,z1]⟩
        ·simp only [I.fne] at hz;obtain ⟨z1,z2,z3⟩:=I.fs hz;refine ⟨List.mem_cons_of_mem _ ?_,by simpa [I.fmj] using z1⟩;simp only [I.fne,z2];exact z3
       ·obtain ⟨q1,q2,q3⟩:=I.fbs e he;exact ⟨List.mem_cons_of_mem _ q1,q2,fun hz=>⟨List.mem_cons_of_mem _ (q3 hz).1,(q3 hz).2⟩⟩,List.mem_cons_of_mem _ I.fv⟩
    cases hso:isSt o.op with
    |true=>
     obtain ⟨call0,res,_,hop,hk⟩:=hw.ev;rw [st_evOp hso] at hop;cases ha:aop E.P E.tb E.xt (aeval tm) o.op h with
     |none=>rw [ha] at hop;cases hop
     |some p=>
      obtain ⟨v,h1⟩:=p;rw [ha] at hop;simp only [orOk,Option.some.injEq] at hop;subst hop;simp only [WOWk,hst,cond_true] at hk;obtain ⟨⟨hn1,_⟩,hk⟩:=hk;have hk:=hput hk;obtain ⟨call,st',ne',mj',dl',tm',h',R',V',SV',c1,c2,r1,r2⟩:=next v h1 (isSt_kind hso) hk hn1;have hd:dstep E.P E.tb E.xt call ops o m st=some (upd o m st v h1 .eff):=by
       unfold dstep dres;rw [I.ftm,haw,isSt_kind hso];simp only [cond_true];rw [hch2];simp only [cond_true];rw [hov,st_evOp hso,ha];rfl
      exact ⟨call,st',ne',mj',dl',tm',h',R',V',SV',c1,⟨fun fv args k r hr=>by have:=c2.1 fv args k r hr;omega,by have:=c2.2;omega⟩,by rw [drun_cons,hd];exact r1,r2⟩
    |false=>
     have hcl:isCall o.op=true:=by
      unfold isEf at hst;rw [hso] at hst;simpa using hst
     have hcl2:=hcl;unfold isCall at hcl2;split at hcl2
     ·rename_i q hq;split at hcl2
      ·rename_i f hf;unfold WOp at hw;simp only [hq,calK,hf] at hw;obtain ⟨res,h1,hcs,hk⟩:=hw;rw [←hq] at hk;cases res with
       |pan v=>exact hk.elim
       |ret v=>
        simp only [resK,WOWk,hst,cond_true] at hk;obtain ⟨⟨hn1,hlt⟩,hk⟩:=hk;have hlt:=hlt hcl;have hk:=hput hk;have hkd:kindOf o.op= .eff:=by simp [hq,kindOf,hf]
        obtain ⟨call,st',ne',mj',dl',tm',h',R',V',SV',c1,c2,r1,r2⟩:=next v h1 hkd hk hn1;have hsd:Sound E.P E.xt (ocall (aeval tm f) (q.args.toList.map (aeval tm)) h (.ret v) h1 call):=by
         intro fv a k r k' he;unfold ocall at he;split at he
         ·rename_i hq;obtain ⟨rfl,rfl,rfl⟩:=hq;cases he;exact hcs
         ·exact c1 _ _ _ _ _ he
        have hev:evOp E.P E.tb E.xt (ocall (aeval tm f) (q.args.toList.map (aeval tm)) h (.ret v) h1 call) o tm h=some (.ok v h1):=by
         simp [evOp,hq,evOpCall,hf,ocall,orCall]
        have hd:dstep E.P E.tb E.xt (ocall (aeval tm f) (q.args.toList.map (aeval tm)) h (.ret v) h1 call) ops o m st=some (upd o m st v h1 .eff):=by
         unfold dstep dres;rw [I.ftm,haw,hkd];simp only [cond_true];rw [hch2];simp only [cond_true];rw [hov,hev]
        refine ⟨ocall (aeval tm f) (q.args.toList.map (aeval tm)) h (.ret v) h1 call,st',ne',mj',dl',tm',h',R',V',SV',hsd,⟨fun fv a k r he=> ?_,by have:=c2.2;omega⟩,?_,r2⟩
        ·unfold ocall at he;split at he
         ·rename_i hq;rw [hq.2.2];have:=c2.2;omega
         ·have:=c2.1 _ _ _ _ he;omega
        ·rw [drun_cons,hd];simp only;refine drun_later c1 ol ms _ _ (fun fv a k r hk hr=> ?_) r1;unfold ocall;rw [if_neg (fun hq=> ?_)]
         ·exact hr
         ·simp only [upd] at hk;rw [hq.2.2] at hk;omega
      ·rename_i f nm hf;unfold WOp at hw;simp only [hq,calK,hf] at hw;obtain ⟨res,h1,hcs,hk⟩:=hw;rw [←hq] at hk;cases res with
       |pan v=>exact hk.elim
       |ret v=>
        simp only [resK,WOWk,hst,cond_true] at hk;obtain ⟨⟨hn1,hlt⟩,hk⟩:=hk;have hlt:=hlt hcl;have hk:=hput hk;have hkd:kindOf o.op= .eff:=by simp [hq,kindOf,hf]
        obtain ⟨call,st',ne',mj',dl',tm',h',R',V',SV',c1,c2,r1,r2⟩:=next v h1 hkd hk hn1;have hsd:Sound E.P E.xt (ocall (.val (.func (.method nm) #[] #[])) (aeval tm f::q.args.toList.map (aeval tm)) h (.ret v) h1 call):=by
         intro fv a k r k' he;unfold ocall at he;split at he
         ·rename_i hq;obtain ⟨rfl,rfl,rfl⟩:=hq;cases he;exact hcs
         ·exact c1 _ _ _ _ _ he
        have hev:evOp E.P E.tb E.xt (ocall (.val (.func (.method nm) #[] #[])) (aeval tm f::q.args.toList.map (aeval tm)) h (.ret v) h1 call) o tm h=some (.ok v h1):=by
         simp [evOp,hq,evOpCall,hf,ocall,orCall]
        have hd:dstep E.P E.tb E.xt (ocall (.val (.func (.method nm) #[] #[])) (aeval tm f::q.args.toList.map (aeval tm)) h (.ret v) h1 call) ops o m st=some (upd o m st v h1 .eff):=by
         unfold dstep dres;rw [I.ftm,haw,hkd];simp only [cond_true];rw [hch2];simp only [cond_true];rw [hov,hev]
        refine ⟨ocall (.val (.func (.method nm) #[] #[])) (aeval tm f::q.args.toList.map (aeval tm)) h (.ret v) h1 call,st',ne',mj',dl',tm',h',R',V',SV',hsd,⟨fun fv a k r he=> ?_,by have:=c2.2;omega⟩,?_,r2⟩
        ·unfold ocall at he;split at he
         ·rename_i hq;rw [hq.2.2];have:=c2.2;omega
         ·have:=c2.1 _ _ _ _ he;omega
        ·rw [drun_cons,hd];simp only;refine drun_later c1 ol ms _ _ (fun fv a k r hk hr=> ?_) r1;unfold ocall;rw [if_neg (fun hq=> ?_)]
         ·exact hr
         ·simp only [upd] at hk;rw [hq.2.2] at hk;omega
      ·cases hcl2
     ·cases hcl2
theorem putK_mono {v:AV} {tm:T AV} {dst:Option Tmp} {N N':T AV→Prop} (hp:putK nt tm dst v N) (hn: ∀t,N t→N' t):putK nt tm dst v N':=by
 unfold putK at hp ⊢;split at hp
 ·exact hn _ hp
 ·exact ⟨hp.1,hn _ hp.2⟩
theorem WOW_prefix {ops':Array Oper}: ∀(ol:List Oper) (i ne:Nat) (tm:T AV) (h:Hp) (R:List RdE) (V:List (Nat×T AO)) (Q Q':T AV→Hp→List RdE→List (Nat×T AO)→Prop),(∀o∈ol,∀j w,o.guard=some (j,w)→ops'[j]? =ops[j]?)→(∀tm h R V,Q tm h R V→Q' tm h R V)→WOW E nt ops ol i ne tm h R V Q→WOW E nt ops' ol i ne tm h R V Q'
 |[],i,ne,tm,h,R,V,Q,Q',_,hq,hw=>hq _ _ _ _ hw
 |o::ol,i,ne,tm,h,R,V,Q,Q',hg,hq,hw=>by
  simp only [WOW] at hw ⊢;have hgo:=hg o List.mem_cons_self;have hrec:=fun ne tm h R V=>WOW_prefix ol (i+1) ne tm h R V Q Q' (fun o' ho'=>hg o' (List.mem_cons_of_mem _ ho')) hq;have e1:guardOk nt ops' o=guardOk nt ops o:=by
   unfold guardOk;split
   ·rfl
   ·rename_i j w hgg;rw [hgo j w hgg]
  have e2:awanted ops' o tm=awanted ops o tm:=by
   unfold awanted;split
   ·rfl
   ·rename_i j w hgg;rw [hgo j w hgg]
  rw [e1,e2];refine ⟨hw.1,?_⟩;have hw:=hw.2;cases haw:awanted ops o tm with
  |false=>
   rw [haw] at hw;simp only [cond_false] at hw ⊢;exact putK_mono hw fun t ht=>hrec _ _ _ _ _ ht
  |true=>
   rw [haw] at hw;refine WOp.mono hw fun r hr=> ?_;cases r with
   |pan v h'=>exact hr
   |ok v h'=>
    simp only [WOWk] at hr ⊢;cases hso:isEf o.op with
    |true=>
     rw [hso] at hr;simp only [cond_true] at hr ⊢;exact ⟨hr.1,putK_mono hr.2 fun t ht=>hrec _ _ _ _ _ ht⟩
    |false=>
     rw [hso] at hr;simp only [cond_false] at hr ⊢;exact ⟨hr.1,putK_mono hr.2 fun t ht=>hrec _ _ _ _ _ ht⟩
def feL:Nat→Nat→List AO→List FE
 |_,_,[]=>[]
 |i,n,o::os=>feL (i+1) (n+1) os++[{f:=i,s:=n,cnt:=1,os:=T.put .e (some o) n}]
theorem ovl_append (q:Nat→Bool): ∀(A B:List FE) (b:T AO),ovl q (A++B) b=ovl q B (ovl q A b)
 |[],B,b=>rfl
 |e::A,B,b=>by
  simp only [List.cons_append,ovl];cases q e.f
  ·simp only [cond_false];exact ovl_append q A B b
  ·simp only [cond_true];exact ovl_append q A B _
theorem feL_all (q:Nat→Bool) (b:T AO): ∀(os:List AO) (i n:Nat),(∀f,i≤f→f<i+os.length→q f=true)→ovl q (feL i n os) b=newAll b n os
 |[],i,n,_=>rfl
 |o::os,i,n,h=>by
  simp only [feL,ovl_append,newAll];rw [feL_all q b os (i+1) (n+1) (fun f h1 h2=>h f (by omega) (by simp only [List.length_cons];omega))];simp only [ovl,h i (Nat.le_refl _) (by simp),cond_true,mrg,T.get_put,if_true]
theorem feL_no (q:Nat→Bool) (b:T AO): ∀(os:List AO) (i n:Nat),(∀f,i≤f→f<i+os.length→q f=false)→ovl q (feL i n os) b=b
 |[],i,n,_=>rfl
 |o::os,i,n,h=>by
  simp only [feL,ovl_append];rw [feL_no q b os (i+1) (n+1) (fun f h1 h2=>h f (by omega) (by simp only [List.length_cons];omega))];simp only [ovl,h i (Nat.le_refl _) (by simp),cond_false]
theorem woa_drun {call:CallF} {Q:T AV→List AO→Prop}: ∀(ol:List Oper) (ms:List Nat) (tm:T AV) (n:Nat) (os:List AO) (st:DS),WOA E ol tm n os Q→ol.all (isAl nt)=true→ol.length≤ms.length→st.tm=tm→st.n=n→
  ∃st' os' tm',drun E.P E.tb E.xt call ops ol ms st=some st'∧st'={st with i:=st.i+ol.length,tm:=tm',n:=n+ol.length,fs:=feL st.i n os'++st.fs}∧os'.length=ol.length∧Q tm' (os++os')
 |[],ms,tm,n,os,st,hw,_,_,htm,hn=>by
  refine ⟨st,[],tm,rfl,?_,rfl,by rw [List.append_nil];exact hw⟩;subst htm hn;simp [feL]
 |o::ol,[],tm,n,os,st,_,_,hl,_,_=>by simp at hl
 |o::ol,m::ms,tm,n,os,st,hw,ha,hl,htm,hn=>by
  simp only [List.all_cons,Bool.and_eq_true] at ha;obtain ⟨ha1,ha2⟩:=ha;obtain ⟨dst,op,ty,ps,af,g⟩:=o;simp only [isAl] at ha1;split at ha1
  ·rename_i e d;simp only [WOA] at hw;obtain ⟨te,hte,hw⟩:=hw;subst htm hn;have hb:Nat.beq (st.n+1) st.n=false:=by
    cases hq:Nat.beq (st.n+1) st.n with
    |false=>rfl
    |true=>have:=Nat.eq_of_beq_eq_true hq;omega
   have hd:dstep E.P E.tb E.xt call ops ⟨some d,.alloc e,ty,ps,af,none⟩ m st=some {st with i:=st.i+1,tm:=st.tm.put (some (.ptr st.n 0)) d,n:=st.n+1,fs:={f:=st.i,s:=st.n,cnt:=1,os:=T.put .e (some (.cells (te.zero.map .val) e)) st.n}::st.fs}:=by
    have hev:evOp E.P E.tb E.xt call ⟨some d,.alloc e,ty,ps,af,none⟩ st.tm {t:= .e,n:=st.n}=some (.ok (.ptr st.n 0) (({t:= .e,n:=st.n}:Hp).new (.cells (te.zero.map .val) e))):=by
     simp [evOp,orOk,aop,aoAlloc,hte]
    unfold dstep dres;have haw:awanted ops ⟨some d,.alloc e,ty,ps,af,none⟩ st.tm=true:=rfl;rw [haw];simp only [cond_true,kindOf];rw [hev];simp [upd,Hp.new,hb,putT]
   obtain ⟨st',os',tm',r1,r2,r3,r4⟩:=woa_drun ol ms _ (st.n+1) _ {st with i:=st.i+1,tm:=st.tm.put (some (.ptr st.n 0)) d,n:=st.n+1,fs:={f:=st.i,s:=st.n,cnt:=1,os:=T.put .e (some (.cells (te.zero.map .val) e)) st.n}::st.fs} hw ha2 (by simpa using hl) rfl rfl;refine ⟨st',.cells (te.zero.map .val) e::os',tm',by rw [drun_cons,hd];exact r1,?_,by simp [r3],by simpa using r4⟩;rw [r2];simp only [feL,List.append_assoc,List.singleton_append,List.length_cons]
   congr 1<;>omega
  ·cases ha1
def drawOkW (nt:Nat) (ops:Array Oper) (k1 k2 k3:Nat) (P:List (Nat×Nat)):Bool:=
 let L:=ops.toList
 let l:=L.take k1
 let as:=(L.drop k1).take k2
 let l2:=(L.drop (k1+k2)).take k3
 let pre:=l++(as++l2)
 match sta ⟨pre⟩ with
 |none=>false
 |some s=>Nat.ble s.mx nt && (l.all (fun o=>calm o.op) && (as.all (isAl nt) && (Nat.beq as.length k2 && (Nat.beq l.length k1 && (Nat.ble (k1+k2) s.ms.length &&
   ((s.ms.take k1).all (fun m=>(List.range' k1 k2).all fun f=> !bt m f) &&
   (match wsta [] pre.length l s.ms 0 0 0 0 [] [] with
   |none=>false
   |some (SRA,_)=>(match wsta (List.range' k1 k2) pre.length l2 (s.ms.drop (k1+k2)) (k1+k2) 0 0 0 SRA [] with
    |none=>false
    |some (SR,SV)=>SR.all fun r=>SV.all (ordd P r))) &&
   (lastsOk pre (L.drop (k1+k2+k3)) && pre.all (guardLt pre.length))))))))
end
section
variable {E:Env} {nt:Nat} {ops:Array Oper} {r:Option Nat} {mks:List Nat}
def SameP (E:Env) (P:List (Nat×Nat)) (R:List RdE) (V:List (Nat×T AO)):Prop:= ∀r∈R,∀e∈V,(P.any fun p=>Nat.beq p.1 r.i && Nat.beq p.2 e.1)=true→aop E.P E.tb E.xt (aeval r.tm) r.o.op {t:=e.2,n:=r.n}=some (r.v,{t:=e.2,n:=r.n})
theorem SemC.drawnW (htb:Tb E.P E.tb) (hm:E.P.follows .mixedOrders=true) {id:Nat} (k1 k2 k3:Nat) (P:List (Nat×Nat)) (hst:drawOkW nt ops k1 k2 k3 P=true) {tm:T AV} {h:Hp} {Q:Ex→St→Prop}
  (hw:WOW E nt ops (ops.toList.take k1) 0 0 tm h [] [(0,h.t)] (fun tm1 h1 R1 _=>WOA E ((ops.toList.drop k1).take k2) tm1 h1.n [] (fun tm2 os=>WOW E nt ops ((ops.toList.drop (k1+k2)).take k3) (k1+k2) 0 tm2 {t:=newAll h1.t h1.n os,n:=h1.n+k2} R1 [(0,newAll h1.t h1.n os)] (fun tm3 h3 R V=>SameP E P R V∧WO E nt ops (ops.toList.drop (k1+k2+k3)) tm3 h3 (regK ⟨tm,nt,h,mks⟩ Q))))):W E r (.region id ops true) ⟨tm,nt,h,mks⟩ Q:=by
 unfold drawOkW at hst;simp only at hst;obtain ⟨l,hl⟩: ∃l,l=ops.toList.take k1:=⟨_,rfl⟩;obtain ⟨as,has⟩: ∃as,as=(ops.toList.drop k1).take k2:=⟨_,rfl⟩;obtain ⟨l2,hl2⟩: ∃l2,l2=(ops.toList.drop (k1+k2)).take k3:=⟨_,rfl⟩;obtain ⟨rest,hrest⟩: ∃rest,rest=ops.toList.drop (k1+k2+k3):=⟨_,rfl⟩;have hall:l++(as++l2)++rest=ops.toList:=by
  have a3:ops.toList.drop (k1+k2+k3)=(ops.toList.drop (k1+k2)).drop k3:=by rw [List.drop_drop]
  have a2:ops.toList.drop (k1+k2)=(ops.toList.drop k1).drop k2:=by rw [List.drop_drop]
  rw [hl,has,hl2,hrest,a3,List.append_assoc,List.append_assoc,List.take_append_drop,a2,List.take_append_drop,List.take_append_drop]
 rw [←hl,←has,←hl2,←hrest] at hst hw;cases hs:sta ⟨l++(as++l2)⟩ with
 |none=>rw [hs] at hst;cases hst
 |some s=>
 rw [hs] at hst;simp only [Bool.and_eq_true] at hst;obtain ⟨hmx,hcalm,hisal,hask,hlk,hms,⟨hnb,hw2⟩,hlast,hgl⟩:=hst;have hask:=Nat.eq_of_beq_eq_true hask;have hlk:=Nat.eq_of_beq_eq_true hlk;have hms:k1+k2≤s.ms.length:=Nat.le_of_ble_eq_true hms;obtain ⟨pre,hpre⟩: ∃pre,pre=l++(as++l2):=⟨_,rfl⟩;rw [←hpre] at hs hw2 hlast hgl hall;have hgd: ∀o∈pre,∀j w,o.guard=some (j,w)→(⟨pre⟩:Array Oper)[j]? =ops[j]? :=fun o ho j w hg=>by
  have:=List.all_eq_true.1 hgl o ho;unfold guardLt at this;rw [hg] at this;simp only [Nat.blt_eq] at this;rw [←Array.getElem?_toList,←Array.getElem?_toList,←hall];simp [List.getElem?_append_left this]
 have hgl1: ∀o∈l,∀j w,o.guard=some (j,w)→(⟨pre⟩:Array Oper)[j]? =ops[j]? :=fun o ho=>hgd o (by rw [hpre];simp [ho]);have hgl2: ∀o∈l2,∀j w,o.guard=some (j,w)→(⟨pre⟩:Array Oper)[j]? =ops[j]? :=fun o ho=>hgd o (by rw [hpre];simp [ho]);split at hw2
 ·cases hw2
 rename_i SRA SVA hsa;split at hw2
 ·cases hw2
 rename_i SR SV hsc;have hpair:=fun r hr e he=>List.all_eq_true.1 (List.all_eq_true.1 hw2 r hr) e he;have hw1:=WOW_prefix (ops':=⟨pre⟩) l 0 0 tm h [] [(0,h.t)] _ _ hgl1 (fun _ _ _ _ hh=>hh) hw;obtain ⟨call1,st1,ne1,mj1,dl1,tm1,h1,R1,V1,SV1,cs1,cr1,run1,I1,eSV,hq1⟩:=wow_drun (AL:=[]) (h0:=h.t) (HA:=h.t) (FS:=[]) (fun _ _=>rfl) (fun _ _ _=>rfl) l s.ms 0 0 0 0 tm h [] [(0,h.t)] [] [] {i:=0,tm:=tm,n:=h.n,b:=h.t,mj:=0,dl:=0,ne:=0,fs:=[],bs:=[],rs:=[]} hw1 hsa
  ⟨rfl,rfl,rfl,rfl,rfl,.inr rfl,rfl,fun _=>⟨rfl,rfl,rfl⟩,fun hz=>absurd hz (Nat.lt_irrefl _),by simp,by simp,by simp⟩
 have hcal0: ∀(l:List Oper) (ms:List Nat) (i ne mj dl:Nat) (SR:List SRd) (SV:List SVe) (SRz:List SRd) (SVz:List SVe),l.all (fun o=>calm o.op)=true→wsta [] pre.length l ms i ne mj dl SR SV=some (SRz,SVz)→SVz=(ne,mj,pre.length)::SV∧ ∀x∈SRz,x∈SR∨x.2.2=ne∧x.2.1∈ms.take l.length:=by
  intro l;induction l with
  |nil=>
   intro ms i ne mj dl SR SV SRz SVz _ hx;simp only [wsta,Option.some.injEq,Prod.mk.injEq] at hx;exact ⟨hx.2.symm,fun x hx'=> .inl (by rw [hx.1];exact hx')⟩
  |cons o l ih=>
   intro ms i ne mj dl SR SV SRz SVz hc hx;simp only [List.all_cons,Bool.and_eq_true] at hc;cases ms with
   |nil=>simp [wsta] at hx
   |cons m ms=>
    simp only [wsta,hc.1,cond_true] at hx;split at hx
    ·obtain ⟨_,hx⟩:=cond_some hx;obtain ⟨q1,q2⟩:=ih ms _ _ _ _ _ _ _ _ hc.2 hx;refine ⟨q1,fun x hx'=> ?_⟩;rcases q2 x hx' with h3|h3
     ·rcases List.mem_cons.1 h3 with rfl|h3
      ·exact .inr ⟨rfl,by simp⟩
      ·exact .inl h3
     ·exact .inr ⟨h3.1,by simp [h3.2]⟩
    ·obtain ⟨q1,q2⟩:=ih ms _ _ _ _ _ _ _ _ hc.2 hx;refine ⟨q1,fun x hx'=> ?_⟩;rcases q2 x hx' with h3|h3
     ·exact .inl h3
     ·exact .inr ⟨h3.1,by simp [h3.2]⟩
 obtain ⟨eSVA,hSRA⟩:=hcal0 l s.ms 0 0 0 0 [] [] SRA SVA hcalm hsa;rw [eSV] at eSVA;simp only [List.cons.injEq,Prod.mk.injEq] at eSVA;obtain ⟨⟨rfl,rfl,_⟩,rfl⟩:=eSVA;rw [Nat.zero_add] at I1;obtain ⟨z1,z2,z3⟩:=I1.fz rfl;have hbs1:st1.bs=[]:=by
  cases hb:st1.bs with
  |nil=>rfl
  |cons e _=>have:=(I1.fbs e (by rw [hb];exact List.mem_cons_self)).1;simp at this
 obtain ⟨st2,os,tm2,run2,est2,hosl,hq2⟩:=woa_drun (nt:=nt) (ops:=⟨pre⟩) (call:=ncall) as (s.ms.drop l.length) tm1 h1.n [] st1 hq1 hisal (by rw [List.length_drop];omega) I1.ftm I1.fn;rw [List.nil_append] at hq2;have hfs2:st2.fs=feL k1 h1.n os:=by rw [est2];simp [I1.ffs,I1.fi,hlk]
 have hAL: ∀(q:Nat→Bool) (b:Bool),(∀f∈List.range' k1 k2,q f=b)→ ∀f,k1≤f→f<k1+os.length→q f=b:=fun q b hq f h1 h2=>hq f (List.mem_range'_1.2 ⟨h1,by omega⟩);have hw3:=WOW_prefix (ops':=⟨pre⟩) l2 (k1+k2) 0 tm2 _ R1 _ _ _ hgl2 (fun _ _ _ _ hh=>hh) hq2;obtain ⟨call3,st3,ne3,mj3,dl3,tm3,h3,R3,V3,SV3,cs3,cr3,run3,I3,eSV3,hsame,hq3⟩:=wow_drun (AL:=List.range' k1 k2) (h0:=h.t) (HA:=newAll h1.t h1.n os) (FS:=feL k1 h1.n os)
  (fun q hq=>by rw [z3];exact feL_all q _ os k1 h1.n (hAL q true hq)) (fun q b hq=>feL_no q b os k1 h1.n (hAL q false hq)) l2 (s.ms.drop (k1+k2)) (k1+k2) 0 0 0 tm2 {t:=newAll h1.t h1.n os,n:=h1.n+k2} R1 [(0,newAll h1.t h1.n os)] SRA [] st2 hw3 hsc
  ⟨by rw [est2];simp [I1.fi,hlk,hask],by rw [est2],by rw [est2];simp [hask],by rw [est2];exact I1.fne,by rw [est2];exact I1.fmj,.inr rfl,hfs2,fun _=>⟨rfl,by rw [est2];exact z2,rfl⟩,fun hz=>absurd hz (Nat.lt_irrefl _),fun r hr=>by
   have hr1:r∈st1.rs:=by rw [est2] at hr;exact hr
   obtain ⟨q1,q2,_⟩:=I1.frs r hr1;refine ⟨q1,q2,.inr ?_⟩;rcases hSRA _ q1 with h4|h4
   ·simp at h4
   ·refine ⟨h4.1,fun f hf=> ?_⟩;have hm1:r.m∈s.ms.take k1:=by rw [←hlk];exact h4.2
    have:=List.all_eq_true.1 (List.all_eq_true.1 hnb _ hm1) f hf;simpa using this,fun e he=>by
   rw [est2] at he;rw [show ({st1 with i:=st1.i+as.length,tm:=tm2,n:=h1.n+as.length,fs:=feL st1.i h1.n os++st1.fs}:DS).bs=st1.bs from rfl,hbs1] at he;simp at he,by simp⟩
 obtain ⟨callm,hcm⟩: ∃callm:CallF,callm=fun f a k=>match call3 f a k with|some r=>some r|none=>call1 f a k:=⟨_,rfl⟩
 have csm:Sound E.P E.xt callm:=by
  intro f a k r k' he;rw [hcm] at he;simp only at he;split at he
  ·rename_i r' hr';cases he;exact cs3 _ _ _ _ _ hr'
  ·exact cs1 _ _ _ _ _ he
 have run1:=drun_later (call':=callm) cs1 _ _ _ _ (fun fv a k r _ hr=>by
  rw [hcm];simp only;cases hc3:call3 fv a k with
  |none=>exact hr
  |some r'=>
   have b1:=cr1.1 _ _ _ _ hr;have b2:=cr3.1 _ _ _ _ hc3;simp only at b2;omega) run1
 have run2:=drun_later (call':=callm) (ncall_ok E.P E.xt) _ _ _ _ (fun fv a k r _ hr=>by cases hr) run2;have run3:=drun_later (call':=callm) cs3 _ _ _ _ (fun fv a k r _ hr=>by rw [hcm];simp only [hr]) run3;have hrun:drun E.P E.tb E.xt callm ⟨pre⟩ (⟨pre⟩:Array Oper).toList s.ms {i:=0,tm:=tm,n:=h.n,b:=h.t,mj:=0,dl:=0,ne:=0,fs:=[],bs:=[],rs:=[]}=some st3:=by
  have e0:drun E.P E.tb E.xt callm ⟨pre⟩ (l++(as++l2)) s.ms {i:=0,tm:=tm,n:=h.n,b:=h.t,mj:=0,dl:=0,ne:=0,fs:=[],bs:=[],rs:=[]}=some st3:=by
   rw [drun_append _ _ _ _ _ run1,drun_append _ _ _ _ _ run2,List.drop_drop,hlk,hask];exact run3
  rw [←hpre] at e0;exact e0
 have hchk:DChk E.P E.tb E.xt callm st3 (⟨pre⟩:Array Oper).size:=by
  intro r hr e he;obtain ⟨q1,⟨re,p1,p2,p3,p4,p5,p6,p7⟩,q3⟩:=I3.frs r hr;obtain ⟨e1,e2,e3⟩:(e.j,e.mj,e.nx)∈SV∧(e.j=0→e.b=h.t∧e.mj=0)∧(0<e.j→(e.j,e.b)∈V3∧ ∀f∈List.range' k1 k2,bt e.mj f=true):=by
   rcases List.mem_cons.1 he with rfl|he
   ·refine ⟨by rw [eSV3];simp [I3.fne,I3.fmj],fun hz=> ?_,fun hz=> ?_⟩
    ·simp only [I3.fne] at hz;have:=I3.fz hz;exact ⟨this.2.1,by simp [I3.fmj,this.1]⟩
    ·simp only [I3.fne] at hz;have:=I3.fs hz;exact ⟨by simp only [I3.fne,this.2.1];exact this.2.2,by simpa [I3.fmj] using this.1⟩
   ·have:=I3.fbs e he;exact ⟨by rw [eSV3];exact List.mem_cons_of_mem _ this.1,this.2⟩
  have ho:=hpair _ q1 _ e1;unfold ordd at ho;simp only [Bool.or_eq_true] at ho;rcases ho with ho|ho|ho|ho
  ·exact .inl (Nat.eq_of_beq_eq_true ho)
  ·exact .inr (.inl ho)
  ·exact .inr (.inr (.inl ho))
  have key: ∀t,(e.j,t)∈V3→ovl (fun f=>bt r.m f && !bt e.mj f) st3.fs e.b=t→ ∃h'',evOp E.P E.tb E.xt callm r.o r.tm {t:=ovl (fun f=>bt r.m f && !bt e.mj f) st3.fs e.b,n:=r.n}=some (.ok r.v h''):=fun t ht heq=>by
   have:=hsame re p1 (e.j,t) ht (by rw [p2];exact ho);rw [p3,p4,p5,p6] at this;rw [heq,calm_evOp rfl p7,this];exact ⟨_,rfl⟩
  rcases Nat.eq_zero_or_pos e.j with hz|hz
  ·obtain ⟨e4,e5⟩:=e2 hz;rcases q3 with q3|q3
   ·refine .inr (.inr (.inr (key (newAll h1.t h1.n os) (by rw [hz];exact I3.fv) ?_)));rw [I3.ffs,e4,z3];exact feL_all _ _ os k1 h1.n (hAL _ true fun f hf=>by rw [q3 f hf,e5,bt_zero];rfl)
   ·exact .inl (by rw [hz,q3.1])
  ·obtain ⟨e4,e5⟩:=e3 hz;refine .inr (.inr (.inr (key e.b e4 ?_)));rw [I3.ffs];exact feL_no _ _ os k1 h1.n (hAL _ false fun f hf=>by rw [e5 f hf];simp)
 obtain ⟨n1,s1⟩:=drun_okP htb csm hs (Nat.le_of_ble_eq_true hmx) hrun hchk;have e1:({t:=ovl (fun f=> !bt st3.mj f) st3.fs st3.b,n:=st3.n}:Hp)=h3:=by
  have:ovl (fun f=> !bt st3.mj f) st3.fs st3.b=h3.t:=by
   rw [I3.ffs];rcases Nat.eq_zero_or_pos ne3 with hz|hz
   ·obtain ⟨y1,y2,y3⟩:=I3.fz hz;rw [y2,y3,z3];exact feL_all _ _ os k1 h1.n (hAL _ true fun f hf=>by rw [I3.fmj,y1,bt_zero];rfl)
   ·obtain ⟨y1,y2,_⟩:=I3.fs hz;rw [y2];exact feL_no _ _ os k1 h1.n (hAL _ false fun f hf=>by rw [I3.fmj,y1 f hf];rfl)
  rw [this,I3.fn]
 rw [e1] at s1;rw [I3.fn] at n1 s1;rw [I3.ftm] at s1;have hd:DrX E nt ⟨pre⟩ tm h .normal tm3 h3:=⟨n1,s1⟩;obtain ⟨x,tm4,h4,hd2,hq4⟩:=DrX.lasts htb rest pre tm3 h3 hlast (fun j hj=>by rw [hall,Array.getElem?_toList]) hd hq3;rw [hall] at hd2;have lift: ∀{a:Act} {w:World} {r:Option Nat} {id:Nat} {Q:Exit→Act→World→Prop},(∀t,wpOpsIn (Wd r) 0 E.P ops Q (Region.linearise .any ops t) a {w with drawn:=w.drawn+1})→(Code.region id ops true).wpIn (Wd r) 0 E.P Q a w:=fun hh=>by
  refine wpIn_region_draw fun t=> ?_;simp only [Region.schedule,hm,Bool.true_or,if_true];exact hh t
 have hds:DrwS E nt ops tm h x tm4 h4:=⟨hd2.1,fun lim hl c a w r id g hxt ht Q hQ=>lift fun t=>hd2.2 lim hl c a w r t g hxt ht Q hQ⟩;exact ⟨_,_,.regionD (st:=⟨tm,nt,h,mks⟩) hds,hq4⟩
theorem seq_regW (ok:SyOk E) {id:Nat} {b:Code} {tm:T AV} {h:Hp} {Q:Ex→St→Prop} (k1 k2 k3:Nat) (P:List (Nat×Nat)) (hst:drawOkW nt ops k1 k2 k3 P=true) (hw: ∀K:Ex→T AV→Hp→Prop,(∀tm h,wpc E r b ⟨tm,nt,h,mks⟩ Q→K .normal tm h)→(∀v tm h,Q (.panic v) ⟨tm,nt,h,mks⟩→K (.panic v) tm h)→WOW E nt ops (ops.toList.take k1) 0 0 tm h [] [(0,h.t)] (fun tm1 h1 R1 _=>WOA E ((ops.toList.drop k1).take k2) tm1 h1.n [] (fun tm2 os=>WOW E nt ops ((ops.toList.drop (k1+k2)).take k3) (k1+k2) 0 tm2 {t:=newAll h1.t h1.n os,n:=h1.n+k2} R1 [(0,newAll h1.t h1.n os)] (fun tm3 h3 R V=>SameP E P R V∧WO E nt ops (ops.toList.drop (k1+k2+k3)) tm3 h3 K)))):
  wpc E r (.seq (.region id ops true) b) ⟨tm,nt,h,mks⟩ Q:=by
 show W E r (.region id ops true) ⟨tm,nt,h,mks⟩ (seqK (fun s=>wpc E r b s Q) Q);exact SemC.drawnW ok.tb ok.mixed k1 k2 k3 P hst (hw _ (fun tm h hh=>hh) (fun v tm h hh=>hh))
end
section
variable {E:Env} {nt:Nat} {ops:Array Oper} {o:Oper} {ol:List Oper} {tm:T AV} {h h':Hp} {i ne:Nat} {R:List RdE} {V:List (Nat×T AO)} {Q:T AV→Hp→List RdE→List (Nat×T AO)→Prop} {dst:Option Tmp} {ty:TypeId} {ps:String} {af:Array Edge} {g:Option (Nat×Bool)}
def WOWn (st rd cl:Bool) (E:Env) (nt:Nat) (ops:Array Oper) (ol:List Oper) (i ne:Nat) (o:Oper) (tm:T AV) (h:Hp) (R:List RdE) (V:List (Nat×T AO)) (Q:T AV→Hp→List RdE→List (Nat×T AO)→Prop):OR→Prop:=WOWk st rd cl nt i ne o tm h R V (fun ne' tm' h' R' V'=>WOW E nt ops ol (i+1) ne' tm' h' R' V' Q)
def gateW (gd wt:Bool) (E:Env) (nt:Nat) (ops:Array Oper) (o:Oper) (ol:List Oper) (i ne:Nat) (tm:T AV) (h:Hp) (R:List RdE) (V:List (Nat×T AO)) (Q:T AV→Hp→List RdE→List (Nat×T AO)→Prop):Prop:=
 gd=true∧bif wt then WOp E o tm h (WOWn (isEf o.op) (isRd o.op) (isCall o.op) E nt ops ol i ne o tm h R V Q) else putK nt tm o.dst default (fun tm'=>WOW E nt ops ol (i+1) ne tm' h R V Q)
theorem WOW_nil:WOW E nt ops [] i ne tm h R V Q=Q tm h R V:=rfl
theorem WOW_cons:WOW E nt ops (o::ol) i ne tm h R V Q=gateW (guardOk nt ops o) (awanted ops o tm) E nt ops o ol i ne tm h R V Q:=rfl
theorem gateW_t:gateW true true E nt ops o ol i ne tm h R V Q=WOp E o tm h (WOWn (isEf o.op) (isRd o.op) (isCall o.op) E nt ops ol i ne o tm h R V Q):=by simp [gateW]
theorem gateW_fs {d:Tmp} {op:Op}:gateW true false E nt ops ⟨some d,op,ty,ps,af,g⟩ ol i ne tm h R V Q=(d<nt∧WOW E nt ops ol (i+1) ne (tm.put (some default) d) h R V Q):=by simp [gateW,putK]
theorem WOWn_c {d:Tmp} {v:AV} {op:Op}:WOWn false false false E nt ops ol i ne ⟨some d,op,ty,ps,af,g⟩ tm h R V Q (.ok v h)=(d<nt∧WOW E nt ops ol (i+1) ne (tm.put (some v) d) h R V Q):=by simp [WOWn,WOWk,putK]
theorem WOWn_r {d:Tmp} {v:AV} {op:Op}:WOWn false true false E nt ops ol i ne ⟨some d,op,ty,ps,af,g⟩ tm h R V Q (.ok v h)=(d<nt∧WOW E nt ops ol (i+1) ne (tm.put (some v) d) h (⟨i,⟨some d,op,ty,ps,af,g⟩,tm,h.n,v⟩::R) V Q):=by simp [WOWn,WOWk,putK]
theorem WOWn_s {v:AV} {op:Op} {b:Nat} {o':AO}:WOWn true false false E nt ops ol i ne ⟨none,op,ty,ps,af,g⟩ tm h R V Q (.ok v (h.set b o'))=WOW E nt ops ol (i+1) (ne+1) tm (h.set b o') R ((ne+1,(h.set b o').t)::V) Q:=by
 have e:(h.set b o').n=h.n:=rfl;simp [WOWn,WOWk,putK,e]
theorem WOWn_k {d:Tmp} {v:AV} {op:Op} (hn:h.n<h'.n):WOWn true false true E nt ops ol i ne ⟨some d,op,ty,ps,af,g⟩ tm h R V Q (.ok v h')=(d<nt∧WOW E nt ops ol (i+1) (ne+1) (tm.put (some v) d) h' R ((ne+1,h'.t)::V) Q):=by
 simp only [WOWn,WOWk,putK,cond_true];exact propext ⟨fun hh=>hh.2,fun hh=>⟨⟨Nat.le_of_lt hn,fun _=>hn⟩,hh⟩⟩
theorem isEf_store {t:TypeId} {x y:Operand}:isEf (.store t x y)=true:=rfl
theorem isRd_store {t:TypeId} {x y:Operand}:isRd (.store t x y)=false:=rfl
theorem isEf_load {t:TypeId} {x:Operand}:isEf (.load t x)=false:=rfl
theorem isRd_load {t:TypeId} {x:Operand}:isRd (.load t x)=true:=rfl
theorem isEf_move {x:Operand}:isEf (.move x)=false:=rfl
theorem isRd_move {x:Operand}:isRd (.move x)=false:=rfl
theorem isEf_assign {x:Operand}:isEf (.assign x)=false:=rfl
theorem isRd_assign {x:Operand}:isRd (.assign x)=false:=rfl
theorem isEf_pick {x y z:Operand}:isEf (.pick x y z)=false:=rfl
theorem isRd_pick {x y z:Operand}:isRd (.pick x y z)=false:=rfl
theorem isEf_nc {x:Operand}:isEf (.nilCheck x)=false:=rfl
theorem isRd_nc {x:Operand}:isRd (.nilCheck x)=false:=rfl
theorem isEf_bin {b:BinOp} {t t':TypeId} {x y:Operand}:isEf (.binOp b t x y t')=false:=rfl
theorem isRd_bin {b:BinOp} {t t':TypeId} {x y:Operand}:isRd (.binOp b t x y t')=false:=rfl
theorem isEf_un {b:UnOp} {t:TypeId} {x:Operand}:isEf (.unOp b t x)=false:=rfl
theorem isRd_un {b:UnOp} {t:TypeId} {x:Operand}:isRd (.unOp b t x)=false:=rfl
theorem isEf_fa {t:TypeId} {x:Operand} {f:Nat}:isEf (.fieldAddr t x f)=false:=rfl
theorem isRd_fa {t:TypeId} {x:Operand} {f:Nat}:isRd (.fieldAddr t x f)=false:=rfl
theorem isEf_f {t:TypeId} {x:Operand} {f:Nat}:isEf (.field t x f)=false:=rfl
theorem isRd_f {t:TypeId} {x:Operand} {f:Nat}:isRd (.field t x f)=false:=rfl
theorem isEf_ia {t:TypeId} {x y:Operand}:isEf (.indexAddr t x y)=false:=rfl
theorem isRd_ia {t:TypeId} {x y:Operand}:isRd (.indexAddr t x y)=false:=rfl
theorem isEf_i {t:TypeId} {x y:Operand}:isEf (.index t x y)=false:=rfl
theorem isRd_i {t:TypeId} {x y:Operand}:isRd (.index t x y)=false:=rfl
theorem isEf_build {t:TypeId} {p:Array (Nat×Operand)}:isEf (.build t p)=false:=rfl
theorem isRd_build {t:TypeId} {p:Array (Nat×Operand)}:isRd (.build t p)=false:=rfl
theorem isEf_ex {x:Operand} {i:Nat}:isEf (.extract x i)=false:=rfl
theorem isRd_ex {x:Operand} {i:Nat}:isRd (.extract x i)=false:=rfl
theorem isEf_call {f:Operand} {a:Array Operand} {ts:Array TypeId}:isEf (.call ⟨.value f,a,ts⟩)=true:=rfl
theorem isEf_builtin {f:Builtin} {a:Array Operand} {ts:Array TypeId}:isEf (.call ⟨.builtin f,a,ts⟩)=(match f with| .append=>true|_=>false):=by cases f<;>rfl
theorem isRd_call {f:Operand} {a:Array Operand} {ts:Array TypeId}:isRd (.call ⟨.value f,a,ts⟩)=false:=rfl
theorem isCall_store {t:TypeId} {x y:Operand}:isCall (.store t x y)=false:=rfl
theorem isRd_len {a:Array Operand} {ts:Array TypeId}:isRd (.call ⟨.builtin .len,a,ts⟩)=true:=rfl
theorem isRd_min {a:Array Operand} {ts:Array TypeId}:isRd (.call ⟨.builtin .min,a,ts⟩)=false:=rfl
theorem isRd_max {a:Array Operand} {ts:Array TypeId}:isRd (.call ⟨.builtin .max,a,ts⟩)=false:=rfl
theorem WOA_nil {n:Nat} {os:List AO} {Q:T AV→List AO→Prop}:WOA E [] tm n os Q=Q tm os:=rfl
theorem nilCheck_ptr {K:OR→Prop} {b off:Nat}:optP (bif anilCheck (.ptr b off) then some (AV.ptr b off,h) else none) K=K (.ok (.ptr b off) h):=rfl
def inP (P:List (Nat×Nat)) (i j:Nat):Bool:=P.any fun p=>Nat.beq p.1 i && Nat.beq p.2 j
theorem inP_nil {i j:Nat}:inP [] i j=false:=rfl
theorem inP_cons {P:List (Nat×Nat)} {a b i j:Nat}:inP ((a,b)::P) i j=if a=i then (if b=j then true else inP P i j) else inP P i j:=by
 unfold inP;rw [List.any_cons];by_cases h1:a=i
 ·subst h1;by_cases h2:b=j
  ·subst h2;simp
  ·have:Nat.beq b j=false:=by cases hq:Nat.beq b j with
    |false=>rfl
    |true=>exact absurd (Nat.eq_of_beq_eq_true hq) h2
   simp [this,h2]
 ·have:Nat.beq a i=false:=by cases hq:Nat.beq a i with
   |false=>rfl
   |true=>exact absurd (Nat.eq_of_beq_eq_true hq) h1
  simp [this,h1]
def Same1 (E:Env) (P:List (Nat×Nat)) (r:RdE) (V:List (Nat×T AO)):Prop:= ∀e∈V,inP P r.i e.1=true→aop E.P E.tb E.xt (aeval r.tm) r.o.op {t:=e.2,n:=r.n}=some (r.v,{t:=e.2,n:=r.n})
def sameQ (b:Bool) (E:Env) (r:RdE) (t:T AO):Prop:=b=true→aop E.P E.tb E.xt (aeval r.tm) r.o.op {t:=t,n:=r.n}=some (r.v,{t:=t,n:=r.n})
theorem SameP_nil {P:List (Nat×Nat)}:SameP E P [] V=True:=by simp [SameP]
theorem SameP_cons {P:List (Nat×Nat)} {r:RdE}:SameP E P (r::R) V=(Same1 E P r V∧SameP E P R V):=by simp only [SameP,Same1,inP,List.forall_mem_cons]
theorem Same1_nil {P:List (Nat×Nat)} {r:RdE}:Same1 E P r []=True:=by simp [Same1]
theorem Same1_cons {P:List (Nat×Nat)} {j:Nat} {t:T AO} {v:AV} {n:Nat}:Same1 E P ⟨i,o,tm,n,v⟩ ((j,t)::V)=(sameQ (inP P i j) E ⟨i,o,tm,n,v⟩ t∧Same1 E P ⟨i,o,tm,n,v⟩ V):=by simp only [Same1,sameQ,List.forall_mem_cons]
theorem sameQ_f {r:RdE} {t:T AO}:sameQ false E r t=True:=by simp [sameQ]
theorem sameQ_ld {ty':TypeId} {x:Operand} {t:T AO} {v:AV} {n:Nat}:sameQ true E ⟨i,⟨dst,.load ty' x,ty,ps,af,g⟩,tm,n,v⟩ t=(aload E.tb E.xt {t:=t,n:=n} ty' (aeval tm x)=some v):=by
 simp only [sameQ,aop,true_imp_iff];refine propext ⟨fun hh=> ?_,fun hh=>by rw [hh];rfl⟩;cases hq:aload E.tb E.xt {t:=t,n:=n} ty' (aeval tm x) with
 |none=>rw [hq] at hh;cases hh
 |some u=>rw [hq] at hh;simp only [pr1,Option.some.injEq,Prod.mk.injEq,and_true] at hh;rw [hh]
theorem sameQ_len {a:Array Operand} {ts:Array TypeId} {t:T AO} {v:AV} {n:Nat}:sameQ true E ⟨i,⟨dst,.call ⟨.builtin .len,a,ts⟩,ty,ps,af,g⟩,tm,n,v⟩ t=(abuiltin E.P E.tb E.xt .len ts.toList (a.toList.map (aeval tm)) {t:=t,n:=n}=some (v,{t:=t,n:=n})):=by
 simp only [sameQ,aop,true_imp_iff,aoCall]
theorem abuiltin_lenE {P:Program} {tb:T TE} {xt:Addr→Option Value} {t:TypeId} {a:AV} {h:Hp}:abuiltin P tb xt .len [t] [a] h=(alen tb h t a).map fun (n:Nat)=>(AV.val (.int .i64 (n:Int)),h):=by
 simp only [abuiltin];cases alen tb h t a<;>rfl
theorem aload_t (tb:T TE) (xt:Addr→Option Value) (h:Hp) (n:Nat) (t:TypeId) (a:AV):aload tb xt {t:=h.t,n:=n} t a=aload tb xt h t a:=rfl
theorem isCall_nc {x:Operand}:isCall (.nilCheck x)=false:=rfl
theorem newAll_nil {t:T AO} {n:Nat}:newAll t n []=t:=rfl
end
end Go.Ev
end
noncomputable section
namespace Go.Ev
open Classical in
def oneC (r:Option Nat) (c:Code) (st:St) (p:Ex×St):CodeF:=fun r' c' st'=>if r'=r∧c'=c∧st'=st then some p else none
def orC (f g:CodeF):CodeF:=fun r c st=>match f r c st with
 |some p=>some p
 |none=>g r c st
def rcv:Ex→Option AV
 | .normal=>some (.val .nilIface)
 | .ret=>some (.val .nilIface)
 | .panic v=>some v
 |_=>none
section
variable {E:Env}
theorem oneC_ok {r:Option Nat} {c:Code} {st:St} {x:Ex} {st':St} (h:SemC E r c st x st'):SoundC E (oneC r c st (x,st')):=by
 intro r1 c1 s1 x1 s1' he;unfold oneC at he;split at he
 ·rename_i hq;obtain ⟨rfl,rfl,rfl⟩:=hq;cases he;exact h
 ·cases he
theorem orC_ok {f g:CodeF} (hf:SoundC E f) (hg:SoundC E g):SoundC E (orC f g):=by
 intro r c st x st' he;unfold orC at he;split at he
 ·rename_i p hp;cases he;exact hf _ _ _ _ _ hp
 ·exact hg _ _ _ _ _ he
theorem oneC_self {r:Option Nat} {c:Code} {st:St} {p:Ex×St}:oneC r c st p r c st=some p:=by simp [oneC]
theorem oneC_ne {r r':Option Nat} {c c':Code} {st st':St} {p:Ex×St} (h:c'≠c):oneC r c st p r' c' st'=none:=by simp [oneC,h]
theorem FnA.dfr (ok:SyOk E) {f:FuncId} {D:Dfr} (hD:IsDfr E.P f D) (hft:E.ft.get f=some D.fn) (hne:D.c≠D.a) {args:List AV} (nt ng:Nat) (hnt:args.length+(D.fn.ntmps - args.length)=nt) (hng:D.caps.toList.length+(D.fng.ntmps - D.caps.toList.length)=ng) (hd:D.d<nt) (hrd:D.rd<ng) {h:Hp} {K:CR→Hp→Prop}
  (hw:wpc E none D.a ⟨argsTo args 0 .e,nt,h,[]⟩ (fun x sA=>x= .normal∧sA.mks=[]∧sA.nt=nt∧wpc E none D.c ⟨sA.tm.put (some (.fn (.func D.g) [] (D.caps.toList.map (aeval sA.tm)))) D.d,nt,sA.h,[]⟩ (fun x sC=>sC.mks=[]∧ ∃v,rcv x=some v∧
   wpc E none D.rest ⟨(argsTo (D.caps.toList.map (aeval sA.tm)) 0 .e).put (some v) D.rd,ng,sC.h,[]⟩ (fun y sE=>(y= .normal∨y= .ret)∧sE.mks=[]∧ ∃vs,resOf E sC.tm sE.h D.fn.results.toList=some vs∧K (.ret (resVal vs)) sE.h)))):FnA E f args h K:=by
 obtain ⟨x,sA,hA,rfl,mA,nA,hw⟩:=wpc.ok ok.tb _ _ _ hw;obtain ⟨x,sC,hC,mC,v,hv,hw⟩:=wpc.ok ok.tb _ _ _ hw;obtain ⟨y,sE,hE,hy,mE,vs,hr,hK⟩:=wpc.ok ok.tb _ _ _ hw;refine ⟨.ret (resVal vs),sE.h,?_,hK⟩;obtain ⟨tmA,ntA,hpA,mkA⟩:=sA;simp only at mA nA hC;subst mA nA;have he:evDfr E (orC (oneC none D.a ⟨argsTo args 0 .e,ntA,h,[]⟩ (.normal,⟨tmA,ntA,hpA,[]⟩)) (oneC none D.c ⟨tmA.put (some (.fn (.func D.g) [] (D.caps.toList.map (aeval tmA)))) D.d,ntA,hpA,[]⟩ (x,sC))) (oneC none D.rest ⟨(argsTo (D.caps.toList.map (aeval tmA)) 0 .e).put (some v) D.rd,ng,sC.h,[]⟩ (y,sE)) D args h=some (.ret (resVal vs),sE.h):=by
  unfold evDfr;rw [hnt];have e1:orC (oneC none D.a ⟨argsTo args 0 .e,ntA,h,[]⟩ (.normal,⟨tmA,ntA,hpA,[]⟩)) (oneC none D.c ⟨tmA.put (some (.fn (.func D.g) [] (D.caps.toList.map (aeval tmA)))) D.d,ntA,hpA,[]⟩ (x,sC)) none D.a ⟨argsTo args 0 .e,ntA,h,[]⟩=some (.normal,⟨tmA,ntA,hpA,[]⟩):=by
   unfold orC;rw [oneC_self]
  have e2:orC (oneC none D.a ⟨argsTo args 0 .e,ntA,h,[]⟩ (.normal,⟨tmA,ntA,hpA,[]⟩)) (oneC none D.c ⟨tmA.put (some (.fn (.func D.g) [] (D.caps.toList.map (aeval tmA)))) D.d,ntA,hpA,[]⟩ (x,sC)) none D.c ⟨tmA.put (some (.fn (.func D.g) [] (D.caps.toList.map (aeval tmA)))) D.d,ntA,hpA,[]⟩=some (x,sC):=by
   unfold orC;rw [oneC_ne hne,oneC_self]
  rw [e1];simp only;have e3:Nat.blt D.d ntA=true:=by rw [Nat.blt_eq];exact hd
  rw [e3];simp only [cond_true];rw [e2];have hlen:(D.caps.toList.map (aeval tmA)).length+(D.fng.ntmps - (D.caps.toList.map (aeval tmA)).length)=ng:=by rw [List.length_map];exact hng
  have e4:Nat.blt D.rd ng=true:=by rw [Nat.blt_eq];exact hrd
  have hend:dfrEnd E (oneC none D.rest ⟨(argsTo (D.caps.toList.map (aeval tmA)) 0 .e).put (some v) D.rd,ng,sC.h,[]⟩ (y,sE)) D sC v (D.caps.toList.map (aeval tmA))=some (.ret (resVal vs),sE.h):=by
   unfold dfrEnd;rw [hlen,e4];simp only [cond_true];rw [oneC_self];simp only [mE];rcases hy with rfl|rfl<;>simp only [hr]
  unfold dfrMid;simp only [mC];cases x<;>simp only [rcv,Option.some.injEq,reduceCtorEq] at hv<;>subst hv<;>exact hend
 obtain ⟨n1,s1⟩:=dfr_ok ok.tb (orC_ok (oneC_ok hA) (oneC_ok hC)) (oneC_ok hE) hD he;exact ⟨n1,⟨D.fn,hft,by rw [hD.fb];rfl⟩,s1⟩
end
end Go.Ev
end
