/- Parts. -/
import Derived.Test.YthimlgffanlomaaGreatDoorQV
import Derived.Test.YthimlgffanlomaaGreatDoorQY3
set_option linter.all false
open And renaming intro → xZZ
open List renaming mem_cons_of_mem → xZY, mem_cons_self → xZX, all_eq_true → xZV, mem_cons → xZU, getElem?_eq_some_iff → xZQ, forall_mem_cons → xZO
open Nat renaming eq_of_beq_eq_true → xZW, beq_refl → xZP
open Array renaming getElem?_toList → xZT
open Bool renaming or_eq_true → xZS, and_eq_true → xZR
noncomputable section
namespace Go.Ev
abbrev Fs:=List (Nat×Nat×AO)
def toFE (fs:Fs):List FE:=fs.map fun x=>{f:=x.1,s:=x.2.1,cnt:=1,os:=T.put .e (some x.2.2) x.2.1}
def inL (f:Nat):List Nat->Bool
 |[]=>false
 |a::l=>Nat.beq a f || inL f l
def jZ (i:Nat):List (Nat×List Nat)->List Nat
 |[]=>[]
 |x::r=>bif Nat.beq x.1 i then x.2 else jZ i r
def vW (p inc:List Nat):Fs->T AO->T AO
 |[],b=>b
 |x::fs,b=>bif inL x.1 p && !inL x.1 inc then vW p inc fs (b.put (some x.2.2) x.2.1) else vW p inc fs b
theorem qA8 {q:Nat->Bool} {p inc:List Nat}: ∀(fs:Fs) (b:T AO),(∀x∈fs,q x.1=(inL x.1 p && !inL x.1 inc))->ovl q (toFE fs) b=vW p inc fs b
 |[],_,_=>rfl
 |x::fs,b,h=>by
  have h1:=h x xZX;have h2:=fun b=>qA8 fs b fun y hy=>h y (xZY _ hy);simp only [toFE,List.map_cons,ovl,vW] at h2 ⊢;rw [h1];cases inL x.1 p && !inL x.1 inc
  ·simp only [cond_false];exact h2 b
  ·simp only [cond_true,mrg,T.get_put,if_true];exact h2 _
abbrev VeG:=List (Nat×List Nat×T AO)
def yH:Op->Bool
 | .alloc _=>true
 | .buildSlice _ _ _=>true
 |_=>false
def qBp (N:Nat):List Oper->List Nat->Nat->Nat->Nat->Nat->List SRd->List SVe->Option (List SRd×List SVe)
 |[],_,_,ne,mj,_,SR,SV=>some (SR,(ne,mj,N)::SV)
 |_::_,[],_,_,_,_,_,_=>none
 |o::ol,m::ms,i,ne,mj,dl,SR,SV=>
  bif calm o.op then
   (match jH o.op with
   | .read=>qBp N ol ms (i+1) ne mj dl ((i,m,ne)::SR) SV
   |_=>qBp N ol ms (i+1) ne mj dl SR SV)
  else bif yH o.op && (match o.guard with|none=>true|some _=>false) then qBp N ol ms (i+1) ne mj dl SR SV
  else bif zY o.op && (Nat.beq ne 0 || bt m dl) && (match o.guard with|none=>true|some _=>false) then qBp N ol ms (i+1) (ne+1) m i SR ((ne,mj,i)::SV) else none
section
variable {E:Env} {nt:Nat} {ops:Array Oper}
def frK (nt:Nat) (tm:T AV) (dst:Option Tmp) (n:Nat) (N:T AV->AO->Prop):OR->Prop
 | .pan _ _=>False
 | .ok v h'=> ∃o',h'=({t:= .e,n:=n}:Hp).new o'/\putK nt tm dst v (fun tm'=>N tm' o')
def efK (cl:Bool) (nt:Nat) (tm:T AV) (dst:Option Tmp) (n:Nat) (N:T AV->Hp->Prop):OR->Prop
 | .pan _ _=>False
 | .ok v h'=>(n<=h'.n/\(cl=true->n<h'.n))/\putK nt tm dst v (fun tm'=>N tm' h')
def rdK (nt:Nat) (tm:T AV) (dst:Option Tmp) (h:Hp) (N:T AV->AV->Prop):OR->Prop
 | .pan _ _=>False
 | .ok v h'=>h'=h/\putK nt tm dst v (fun tm'=>N tm' v)
def WOG (E:Env) (nt:Nat) (ops:Array Oper) (PL:List (Nat×List Nat)):List Oper->Nat->Nat->T AV->Nat->T AO->List Nat->Fs->List RdE->VeG->(T AV->Nat->T AO->List Nat->Fs->List RdE->VeG->Prop)->Prop
 |[],_,_,tm,n,b,inc,fs,R,V,Q=>Q tm n b inc fs R V
 |o::ol,i,ne,tm,n,b,inc,fs,R,V,Q=>jV nt ops o=true/\bif qP ops o tm then
   (bif yH o.op then WOp E o tm {t:= .e,n:=n} (frK nt tm o.dst n (fun tm' o'=>WOG E nt ops PL ol (i+1) ne tm' (n+1) b inc ((i,n,o')::fs) R V Q))
   else bif zY o.op then WOp E o tm {t:=vW (jZ i PL) inc fs b,n:=n} (efK (jO o.op) nt tm o.dst n (fun tm' h'=>WOG E nt ops PL ol (i+1) (ne+1) tm' h'.n h'.t (jZ i PL) fs R ((ne+1,jZ i PL,h'.t)::V) Q))
   else WOp E o tm {t:=vW (jZ i PL) inc fs b,n:=n} (rdK nt tm o.dst {t:=vW (jZ i PL) inc fs b,n:=n} (fun tm' v=>WOG E nt ops PL ol (i+1) ne tm' n b inc fs (bif zT o.op then ⟨i,o,tm,n,v⟩::R else R) V Q)))
  else putK nt tm o.dst default (fun tm'=>WOG E nt ops PL ol (i+1) ne tm' n b inc fs R V Q)
structure GI (FI:List Nat) (PL:List (Nat×List Nat)) (i ne mj dl:Nat) (tm:T AV) (n:Nat) (b:T AO) (inc:List Nat) (fs:Fs) (R:List RdE) (V:VeG) (SR:List SRd) (SV:List SVe) (st:DS):Prop where
 fi:st.i=i
 ftm:st.tm=tm
 fn:st.n=n
 fne:st.ne=ne
 fmj:st.mj=mj
 fdl:st.dl=dl\/ne=0
 ffs:st.fs=toFE fs
 fb:st.b=b
 finc: ∀f∈FI,bt mj f=inL f inc
 ffi: ∀x∈fs,x.1∈FI
 frs: ∀r∈st.rs,(r.i,r.m,r.ne)∈SR/\(∃e∈R,e.i=r.i/\e.o=r.o/\e.tm=r.tm/\e.n=r.n/\e.v=r.v/\calm r.o.op=true)/\ ∀f∈FI,bt r.m f=inL f (jZ r.i PL)
 fbs: ∀e∈st.bs,(e.j,e.mj,e.nx)∈SV/\ ∃inc',(e.j,inc',e.b)∈V/\ ∀f∈FI,bt e.mj f=inL f inc'
 fv:(ne,inc,b)∈V
theorem fr_evOp {P:Program} {tb:T TE} {xt:Xt} {o:Oper} {tm:T AV} {h:Hp} (hs:yH o.op=true) (call:jK):jU P tb xt call o tm h=gG (aop P tb xt (qH tm) o.op h):=by
 cases hop:o.op with
 |alloc _=>simp only [jU,hop]
 |buildSlice _ _ _=>simp only [jU,hop]
 |_=>rw [hop] at hs;cases hs
theorem isFr_kind {op:Op} (h:yH op=true):jH op= .new:=by cases op<;>first|rfl|cases h
theorem isFr_calm {op:Op} (h:calm op=true):yH op=false:=by cases op<;>first|rfl|cases h
theorem isFr_ef {op:Op} (h:zY op=true):yH op=false:=by cases op<;>first|rfl|cases h
theorem wD {FI:List Nat} {PL:List (Nat×List Nat)} {N:Nat} {Q:T AV->Nat->T AO->List Nat->Fs->List RdE->VeG->Prop} {SRz:List SRd} {SVz:List SVe}:
  ∀(ol:List Oper) (ms:List Nat) (i ne mj dl:Nat) (tm:T AV) (n:Nat) (b:T AO) (inc:List Nat) (fs:Fs) (R:List RdE) (V:VeG) (SR:List SRd) (SV:List SVe) (st:DS),WOG E nt ops PL ol i ne tm n b inc fs R V Q->qBp N ol ms i ne mj dl SR SV=some (SRz,SVz)->
  (∀(k:Nat) (o:Oper) (m:Nat),ol[k]? =some o->ms[k]? =some m->(zT o.op || zY o.op)=true-> ∀f∈FI,bt m f=inL f (jZ (i+k) PL))->(∀(k:Nat) (o:Oper),ol[k]? =some o->yH o.op=true->i+k∈FI)->GI FI PL i ne mj dl tm n b inc fs R V SR SV st->
  ∃call st' ne' mj' dl' tm' n' b' inc' fs' R' V' SV',jY E.P E.xt call/\((∀fv args k r,call fv args k=some r->n<=k.n/\k.n<n')/\n<=n')/\yN E.P E.tb E.xt call ops ol ms st=some st'/\GI FI PL (i+ol.length) ne' mj' dl' tm' n' b' inc' fs' R' V' SRz SV' st'/\SVz=(ne',mj',N)::SV'/\Q tm' n' b' inc' fs' R' V'
 |[],ms,i,ne,mj,dl,tm,n,b,inc,fs,R,V,SR,SV,st,hw,hc,_,_,I=>by
  simp only [qBp,Option.some.injEq,Prod.mk.injEq] at hc;obtain ⟨rfl,rfl⟩:=hc;exact ⟨qAE,st,ne,mj,dl,tm,n,b,inc,fs,R,V,SV,xC _ _,⟨fun _ _ _ _ hx=>(by cases hx),Nat.le_refl _⟩,rfl,I,rfl,hw⟩
 |o::ol,[],i,ne,mj,dl,tm,n,b,inc,fs,R,V,SR,SV,st,hw,hc,_,_,I=>by simp [qBp] at hc
 |o::ol,m::ms,i,ne,mj,dl,tm,n,b,inc,fs,R,V,SR,SV,st,hw,hc,hpl,hfi,I=>by
  simp only [WOG] at hw;obtain ⟨_,hw⟩:=hw;have hput: ∀{v:AV} {N:T AV->Prop},putK nt tm o.dst v N->N (uH tm o.dst v):=fun {v N} hp=>by
   unfold putK at hp;unfold uH;split at hp
   ·rename_i hd;rw [hd];exact hp
   ·rename_i d hd;rw [hd];exact hp.2
  have hlen:i+(o::ol).length=(i+1)+ol.length:=by simp;omega
  rw [hlen];have hpl': ∀(k:Nat) (o:Oper) (m:Nat),ol[k]? =some o->ms[k]? =some m->(zT o.op || zY o.op)=true-> ∀f∈FI,bt m f=inL f (jZ (i+1+k) PL):=fun k o' m' ho hm hr=>by
   have:=hpl (k+1) o' m' (by simpa using ho) (by simpa using hm) hr
   rwa [show i+(k+1)=i+1+k by omega] at this
  have hfi': ∀(k:Nat) (o:Oper),ol[k]? =some o->yH o.op=true->i+1+k∈FI:=fun k o' ho hr=>by
   have:=hfi (k+1) o' (by simpa using ho) hr
   rwa [show i+(k+1)=i+1+k by omega] at this
  simp only [qBp] at hc;have hov:(zT o.op || zY o.op)=true->({t:=ovl (fun f=>bt m f && !bt st.mj f) st.fs st.b,n:=st.n}:Hp)={t:=vW (jZ i PL) inc fs b,n:=n}:=fun hr=>by
   rw [I.ffs,I.fb,I.fn,qA8 fs b fun x hx=> ?_];have h1:=hpl 0 o m rfl rfl hr x.1 (I.ffi x hx);have h2:=I.finc x.1 (I.ffi x hx);rw [Nat.add_zero] at h1;rw [I.fmj,h1,h2]
  cases haw:qP ops o tm with
  |false=>
   rw [haw] at hw;simp only [cond_false] at hw;have hw:=hput hw;have hd: ∀call,jN E.P E.tb E.xt call ops o m st=some (upd o m st default {t:= .e,n:=st.n} .new):=fun call=>by
    unfold jN zU;rw [I.ftm,haw];rfl
   obtain ⟨SR2,hc2,hsub⟩: ∃SR2,qBp N ol ms (i+1) ne mj dl SR2 SV=some (SRz,SVz)/\ ∀x∈SR,x∈SR2:=by
    have hng:o.guard≠none:=fun hg=>by unfold qP at haw;rw [hg] at haw;cases haw
    cases hcal:calm o.op with
    |true=>
     rw [hcal] at hc;simp only [cond_true] at hc;split at hc
     ·exact ⟨_,hc,fun x hx=>xZY _ hx⟩
     ·exact ⟨_,hc,fun x hx=>hx⟩
    |false=>
     rw [hcal] at hc;simp only [cond_false] at hc;have hg2:(match o.guard with|none=>true|some _=>false)=false:=by
      cases hg:o.guard with
      |none=>exact absurd hg hng
      |some _=>rfl
     rw [hg2] at hc;simp at hc
   obtain ⟨call,st',ne',mj',dl',tm',n',b',inc',fs',R',V',SV',c1,c2,r1,r2⟩:=wD ol ms (i+1) ne mj dl _ n b inc fs R V SR2 SV (upd o m st default {t:= .e,n:=st.n} .new) hw hc2 hpl' hfi'
    ⟨by simp [upd,I.fi],by simp [upd,I.ftm],by simp [upd,I.fn],by simp [upd,I.fne],by simp [upd,I.fmj],by simpa [upd] using I.fdl,by simp [upd,I.ffs],by simp [upd,I.fb],I.finc,I.ffi,fun r hr=>by have:=I.frs r (by simpa [upd] using hr);exact ⟨hsub _ this.1,this.2⟩,fun e he=>I.fbs e (by simpa [upd] using he),I.fv⟩
   exact ⟨call,st',ne',mj',dl',tm',n',b',inc',fs',R',V',SV',c1,c2,by rw [jF,hd];exact r1,r2⟩
  |true=>
   rw [haw] at hw;simp only [cond_true] at hw;cases hcal:calm o.op with
   |true=>
    rw [hcal] at hc;simp only [cond_true] at hc;rw [isFr_calm hcal,qAk hcal] at hw;simp only [cond_false] at hw;obtain ⟨call0,res,_,hop,hk⟩:=hw.ev;rw [zE rfl hcal] at hop;cases ha:aop E.P E.tb E.xt (qH tm) o.op {t:=vW (jZ i PL) inc fs b,n:=n} with
    |none=>rw [ha] at hop;cases hop
    |some p=>
     obtain ⟨v,h1⟩:=p;rw [ha] at hop;simp only [gG,Option.some.injEq] at hop;subst hop;obtain ⟨rfl,hk⟩:=hk;have hk:=hput hk;rcases bN hcal with hkd|hkd
     ·obtain ⟨_,e2⟩:=qAZ hcal hkd ha;rw [hkd] at hc;simp only at hc;have hrd:zT o.op=false:=by unfold zT;rw [hkd]
      rw [hrd] at hk;simp only [cond_false] at hk;have hd: ∀call,jN E.P E.tb E.xt call ops o m st=some (upd o m st v {t:= .e,n:=st.n} .new):=fun call=>by
       unfold jN zU;rw [I.ftm,haw,hkd];simp only [cond_true];rw [zE rfl hcal,e2];rfl
      obtain ⟨call,st',ne',mj',dl',tm',n',b',inc',fs',R',V',SV',c1,c2,r1,r2⟩:=wD ol ms (i+1) ne mj dl _ n b inc fs R V SR SV (upd o m st v {t:= .e,n:=st.n} .new) hk hc hpl' hfi'
       ⟨by simp [upd,I.fi],by simp [upd,I.ftm],by simp [upd,I.fn],by simp [upd,I.fne],by simp [upd,I.fmj],by simpa [upd] using I.fdl,by simp [upd,I.ffs],by simp [upd,I.fb],I.finc,I.ffi,fun r hr=>I.frs r (by simpa [upd] using hr),fun e he=>I.fbs e (by simpa [upd] using he),I.fv⟩
      exact ⟨call,st',ne',mj',dl',tm',n',b',inc',fs',R',V',SV',c1,c2,by rw [jF,hd];exact r1,r2⟩
     ·rw [hkd] at hc;simp only at hc;have hrd:zT o.op=true:=by unfold zT;rw [hkd]
      rw [hrd] at hk;simp only [cond_true] at hk;have hd: ∀call,jN E.P E.tb E.xt call ops o m st=some (upd o m st v {t:=vW (jZ i PL) inc fs b,n:=n} .read):=fun call=>by
       unfold jN zU;rw [I.ftm,haw,hkd];simp only [cond_true];rw [hov (by rw [hrd];rfl),zE rfl hcal,ha];rfl
      obtain ⟨call,st',ne',mj',dl',tm',n',b',inc',fs',R',V',SV',c1,c2,r1,r2⟩:=wD ol ms (i+1) ne mj dl _ n b inc fs _ V ((i,m,ne)::SR) SV (upd o m st v {t:=vW (jZ i PL) inc fs b,n:=n} .read) hk hc hpl' hfi'
       ⟨by simp [upd,I.fi],by simp [upd,I.ftm],by simp [upd,I.fn],by simp [upd,I.fne],by simp [upd,I.fmj],by simpa [upd] using I.fdl,by simp [upd,I.ffs],by simp [upd,I.fb],I.finc,I.ffi,fun r hr=>by
        simp only [upd,xZU] at hr;rcases hr with rfl|hr
        ·refine ⟨by simp [I.fi,I.fne],⟨_,xZX,by simp [I.fi,I.ftm,I.fn,hcal]⟩,fun f hf=> ?_⟩;have h1:=hpl 0 o m rfl rfl (by rw [hrd];rfl) f hf;simpa [I.fi] using h1
        ·obtain ⟨q1,⟨e,q2,q3⟩,q4⟩:=I.frs r hr;exact ⟨xZY _ q1,⟨e,xZY _ q2,q3⟩,q4⟩,fun e he=>I.fbs e (by simpa [upd] using he),I.fv⟩
      exact ⟨call,st',ne',mj',dl',tm',n',b',inc',fs',R',V',SV',c1,c2,by rw [jF,hd];exact r1,r2⟩
   |false=>
    rw [hcal] at hc;simp only [cond_false] at hc;cases hfr:yH o.op with
    |true=>
     rw [hfr] at hw hc;simp only [cond_true,Bool.true_and] at hw hc;have hgn:o.guard=none:=by
      cases hg:o.guard with
      |none=>rfl
      |some _=>
       rw [hg] at hc;have hne:zY o.op=false:=by
        cases he:zY o.op with
        |false=>rfl
        |true=>rw [isFr_ef he] at hfr;cases hfr
       simp [hne] at hc
     rw [hgn] at hc;simp only [cond_true] at hc;obtain ⟨call0,res,_,hop,hk⟩:=hw.ev;rw [fr_evOp hfr] at hop;cases ha:aop E.P E.tb E.xt (qH tm) o.op {t:= .e,n:=n} with
     |none=>rw [ha] at hop;cases hop
     |some p=>
      obtain ⟨v,h1⟩:=p;rw [ha] at hop;simp only [gG,Option.some.injEq] at hop;subst hop;obtain ⟨o',rfl,hk⟩:=hk;have hk:=hput hk;have hd: ∀call,jN E.P E.tb E.xt call ops o m st=some (upd o m st v (({t:= .e,n:=n}:Hp).new o') .new):=fun call=>by
       unfold jN zU;rw [I.ftm,haw,isFr_kind hfr];simp only [cond_true];rw [fr_evOp hfr,I.fn,ha];rfl
      have hbq:Nat.beq (n+1) n=false:=by
       cases hq:Nat.beq (n+1) n with
       |false=>rfl
       |true=>have:=xZW hq;omega
      have hmem:i∈FI:=by have:=hfi 0 o rfl hfr;simpa using this
      obtain ⟨call,st',ne',mj',dl',tm',n',b',inc',fs',R',V',SV',c1,c2,r1,r2⟩:=wD ol ms (i+1) ne mj dl _ (n+1) b inc ((i,n,o')::fs) R V SR SV (upd o m st v (({t:= .e,n:=n}:Hp).new o') .new) hk hc hpl' hfi'
       ⟨by simp [upd,I.fi],by simp [upd,I.ftm],by simp [upd,Hp.new],by simp [upd,I.fne],by simp [upd,I.fmj],by simpa [upd] using I.fdl,by
        simp only [upd,Hp.new,I.fn,hbq,cond_false,I.fi,I.ffs,toFE,List.map_cons];have:n+1 - n=1:=by omega
        rw [this],by simp [upd,I.fb],I.finc,fun x hx=>by
        rcases xZU.1 hx with rfl|hx
        ·exact hmem
        ·exact I.ffi x hx,fun r hr=>I.frs r (by simpa [upd] using hr),fun e he=>I.fbs e (by simpa [upd] using he),I.fv⟩
      exact ⟨call,st',ne',mj',dl',tm',n',b',inc',fs',R',V',SV',c1,⟨fun fv args k r hr=>by have:=c2.1 fv args k r hr;omega,by have:=c2.2;omega⟩,by rw [jF,hd];exact r1,r2⟩
    |false=>
     rw [hfr] at hw hc;simp only [cond_false,Bool.false_and] at hw hc;obtain ⟨hg,hc⟩:=qZ hc;simp only [xZR] at hg;obtain ⟨⟨hst,hch⟩,hgd⟩:=hg;rw [hst] at hw;simp only [cond_true] at hw;have hov:=hov (by rw [hst,Bool.or_true]);have hch2:(Nat.beq st.ne 0 || bt m st.dl)=true:=by
      rw [I.fne];rcases I.fdl with hdl|hdl
      ·rw [hdl];exact hch
      ·rw [hdl];rfl
     have hplm: ∀f∈FI,bt m f=inL f (jZ i PL):=fun f hf=>by
      have:=hpl 0 o m rfl rfl (by rw [hst,Bool.or_true]) f hf;simpa using this
     have next: ∀(v:AV) (h1:Hp),WOG E nt ops PL ol (i+1) (ne+1) (uH tm o.dst v) h1.n h1.t (jZ i PL) fs R ((ne+1,jZ i PL,h1.t)::V) Q-> ∃call st' ne' mj' dl' tm' n' b' inc' fs' R' V' SV',jY E.P E.xt call/\((∀fv args k r,call fv args k=some r->h1.n<=k.n/\k.n<n')/\h1.n<=n')/\yN E.P E.tb E.xt call ops ol ms (upd o m st v h1 .eff)=some st'/\GI FI PL (i+1+ol.length) ne' mj' dl' tm' n' b' inc' fs' R' V' SRz SV' st'/\SVz=(ne',mj',N)::SV'/\Q tm' n' b' inc' fs' R' V':=fun v h1 hk=>
      wD ol ms (i+1) (ne+1) m i _ h1.n h1.t (jZ i PL) fs R _ SR ((ne,mj,i)::SV) (upd o m st v h1 .eff) hk hc hpl' hfi'
       ⟨by simp [upd,I.fi],by simp [upd,I.ftm],by simp [upd],by simp [upd,I.fne],by simp [upd],.inl (by simp [upd,I.fi]),by simp [upd,I.ffs],by simp [upd],hplm,I.ffi,fun r hr=>I.frs r (by simpa [upd] using hr),fun e he=>by
        simp only [upd,xZU] at he;rcases he with rfl|he
        ·refine ⟨by simp [I.fne,I.fmj,I.fi],inc,?_,fun f hf=> ?_⟩
         ·simp only [I.fne,I.fb];exact xZY _ I.fv
         ·simp only [I.fmj];exact I.finc f hf
        ·obtain ⟨q1,inc',q2,q3⟩:=I.fbs e he;exact ⟨xZY _ q1,inc',xZY _ q2,q3⟩,xZX⟩
     cases hso:isSt o.op with
     |true=>
      obtain ⟨call0,res,_,hop,hk⟩:=hw.ev;rw [gU hso] at hop;cases ha:aop E.P E.tb E.xt (qH tm) o.op {t:=vW (jZ i PL) inc fs b,n:=n} with
      |none=>rw [ha] at hop;cases hop
      |some p=>
       obtain ⟨v,h1⟩:=p;rw [ha] at hop;simp only [gG,Option.some.injEq] at hop;subst hop;obtain ⟨⟨hn1,_⟩,hk⟩:=hk;have hk:=hput hk;obtain ⟨call,st',ne',mj',dl',tm',n',b',inc',fs',R',V',SV',c1,c2,r1,r2⟩:=next v h1 hk;have hd:jN E.P E.tb E.xt call ops o m st=some (upd o m st v h1 .eff):=by
        unfold jN zU;rw [I.ftm,haw,wL hso];simp only [cond_true];rw [hch2];simp only [cond_true];rw [hov,gU hso,ha];rfl
       exact ⟨call,st',ne',mj',dl',tm',n',b',inc',fs',R',V',SV',c1,⟨fun fv args k r hr=>by have:=c2.1 fv args k r hr;omega,by have:=c2.2;omega⟩,by rw [jF,hd];exact r1,r2⟩
     |false=>
      have hcl:jO o.op=true:=by
       unfold zY at hst;rw [hso] at hst;simpa using hst
      have hcl2:=hcl;unfold jO at hcl2;split at hcl2
      ·rename_i q hq;split at hcl2
       ·rename_i f hf;unfold WOp at hw;simp only [hq,calK,hf] at hw;obtain ⟨res,h1,hcs,hk⟩:=hw;rw [<-hq] at hk;cases res with
        |pan v=>exact hk.elim
        |ret v=>
         obtain ⟨⟨hn1,hlt⟩,hk⟩:=hk;have hlt:=hlt hcl;have hk:=hput hk;have hkd:jH o.op= .eff:=by simp [hq,jH,hf]
         obtain ⟨hh,hhh⟩: ∃hh:Hp,hh={t:=vW (jZ i PL) inc fs b,n:=n}:=⟨_,rfl⟩;have hhn:hh.n=n:=by rw [hhh]
         rw [<-hhh] at hcs hov;obtain ⟨call,st',ne',mj',dl',tm',n',b',inc',fs',R',V',SV',c1,c2,r1,r2⟩:=next v h1 hk;have hsd:jY E.P E.xt (j9 (qH tm f) (q.args.toList.map (qH tm)) hh (.ret v) h1 call):=by
          intro fv a k r k' he;unfold j9 at he;split at he
          ·rename_i hq;obtain ⟨rfl,rfl,rfl⟩:=hq;cases he;exact hcs
          ·exact c1 _ _ _ _ _ he
         have hev:jU E.P E.tb E.xt (j9 (qH tm f) (q.args.toList.map (qH tm)) hh (.ret v) h1 call) o tm hh=some (.ok v h1):=by
          simp [jU,hq,vI,hf,j9,u9]
         have hd:jN E.P E.tb E.xt (j9 (qH tm f) (q.args.toList.map (qH tm)) hh (.ret v) h1 call) ops o m st=some (upd o m st v h1 .eff):=by
          unfold jN zU;rw [I.ftm,haw,hkd];simp only [cond_true];rw [hch2];simp only [cond_true];rw [hov,hev]
         refine ⟨j9 (qH tm f) (q.args.toList.map (qH tm)) hh (.ret v) h1 call,st',ne',mj',dl',tm',n',b',inc',fs',R',V',SV',hsd,⟨fun fv a k r he=> ?_,by have:=c2.2;omega⟩,?_,r2⟩
         ·unfold j9 at he;split at he
          ·rename_i hq;rw [hq.2.2,hhn];have:=c2.2;omega
          ·have:=c2.1 _ _ _ _ he;omega
         ·rw [jF,hd];simp only;refine vL c1 ol ms _ _ (fun fv a k r hk hr=> ?_) r1;unfold j9;rw [if_neg (fun hq=> ?_)]
          ·exact hr
          ·simp only [upd] at hk;rw [hq.2.2,hhn] at hk;omega
       ·cases hcl2
      ·cases hcl2
def qEJ (nt:Nat) (ops:Array Oper) (k:Nat) (FI:List Nat) (PL:List (Nat×List Nat)) (P:List (Nat×Nat)):Bool:=
 let pre:=ops.toList.take k
 match sta ⟨pre⟩ with
 |none=>false
 |some s=>Nat.ble s.mx nt &&
   ((match qBp pre.length pre s.ms 0 0 0 0 [] [] with
   |none=>false
   |some (SR,SV)=>SR.all fun r=>SV.all (ordd P r)) &&
   ((List.range pre.length).all (fun i=>match pre[i]?,s.ms[i]? with
     |some o,some m=>(!(zT o.op || zY o.op) || FI.all fun f=>bt m f==inL f (jZ i PL)) && (!yH o.op || inL i FI)
     |_,_=>true) &&
   (xT pre (ops.toList.drop k) && pre.all (vV pre.length))))
def qDn (E:Env) (P:List (Nat×Nat)) (PL:List (Nat×List Nat)) (fs:Fs) (R:List RdE) (V:VeG):Prop:= ∀r∈R,∀e∈V,(P.any fun p=>Nat.beq p.1 r.i && Nat.beq p.2 e.1)=true->aop E.P E.tb E.xt (qH r.tm) r.o.op {t:=vW (jZ r.i PL) e.2.1 fs e.2.2,n:=r.n}=some (r.v,{t:=vW (jZ r.i PL) e.2.1 fs e.2.2,n:=r.n})
theorem inL_mem {f:Nat}: ∀{l:List Nat},inL f l=true->f∈l
 |[],h=>by cases h
 |a::l,h=>by
  simp only [inL,xZS] at h;rcases h with h|h
  ·rw [xZW h];exact xZX
  ·exact xZY _ (inL_mem h)
theorem mem_inL {f:Nat}: ∀{l:List Nat},f∈l->inL f l=true
 |[],h=>by cases h
 |a::l,h=>by
  simp only [inL,xZS];rcases xZU.1 h with rfl|h
  ·exact .inl (xZP _)
  ·exact .inr (mem_inL h)
end
section
variable {E:Env} {nt:Nat} {ops:Array Oper} {r:Option Nat} {mks:List Nat}
theorem qDj {ops':Array Oper} {PL:List (Nat×List Nat)}: ∀(ol:List Oper) (i ne:Nat) (tm:T AV) (n:Nat) (b:T AO) (inc:List Nat) (fs:Fs) (R:List RdE) (V:VeG) (Q:T AV->Nat->T AO->List Nat->Fs->List RdE->VeG->Prop),(∀o∈ol,∀j w,o.guard=some (j,w)->ops'[j]? =ops[j]?)->WOG E nt ops PL ol i ne tm n b inc fs R V Q->WOG E nt ops' PL ol i ne tm n b inc fs R V Q
 |[],_,_,_,_,_,_,_,_,_,_,_,h=>h
 |o::ol,i,ne,tm,n,b,inc,fs,R,V,Q,hg,h=>by
  have ih:=fun i ne tm n b inc fs R V=>qDj (ops':=ops') (PL:=PL) ol i ne tm n b inc fs R V Q fun o ho=>hg o (xZY _ ho);simp only [WOG] at h ⊢;obtain ⟨h1,h2⟩:=h;have e1:jV nt ops' o=jV nt ops o:=by
   unfold jV;cases hq:o.guard with
   |none=>rfl
   |some p=>obtain ⟨j,w⟩:=p;simp only;rw [hg o xZX j w hq]
  have e2:qP ops' o tm=qP ops o tm:=by
   unfold qP;cases hq:o.guard with
   |none=>rfl
   |some p=>obtain ⟨j,w⟩:=p;simp only;rw [hg o xZX j w hq]
  rw [e1,e2];refine ⟨h1,?_⟩;cases haw:qP ops o tm with
  |false=>
   rw [haw] at h2;simp only [cond_false] at h2 ⊢;exact yU h2 fun t ht=>ih _ _ _ _ _ _ _ _ _ ht
  |true=>
   rw [haw] at h2;simp only [cond_true] at h2 ⊢;cases hfr:yH o.op with
   |true=>
    rw [hfr] at h2;simp only [cond_true] at h2 ⊢;refine h2.mono fun res hr=> ?_;cases res with
    |pan _ _=>exact hr
    |ok v h'=>
     obtain ⟨o',q1,q2⟩:=hr;exact ⟨o',q1,yU q2 fun t ht=>ih _ _ _ _ _ _ _ _ _ ht⟩
   |false=>
    rw [hfr] at h2;simp only [cond_false] at h2 ⊢;cases hef:zY o.op with
    |true=>
     rw [hef] at h2;simp only [cond_true] at h2 ⊢;refine h2.mono fun res hr=> ?_;cases res with
     |pan _ _=>exact hr
     |ok v h'=>exact ⟨hr.1,yU hr.2 fun t ht=>ih _ _ _ _ _ _ _ _ _ ht⟩
    |false=>
     rw [hef] at h2;simp only [cond_false] at h2 ⊢;refine h2.mono fun res hr=> ?_;cases res with
     |pan _ _=>exact hr
     |ok v h'=>exact ⟨hr.1,yU hr.2 fun t ht=>ih _ _ _ _ _ _ _ _ _ ht⟩
theorem SemC.drawnG (htb:Tb E.P E.tb) (hm:E.P.follows .mixedOrders=true) {id:Nat} (k:Nat) (FI:List Nat) (PL:List (Nat×List Nat)) (P:List (Nat×Nat)) (hst:qEJ nt ops k FI PL P=true) {tm:T AV} {h:Hp} {Q:Ex->St->Prop}
  (hw:WOG E nt ops PL (ops.toList.take k) 0 0 tm h.n h.t [] [] [] [(0,[],h.t)] (fun tm1 n b inc fs R V=>qDn E P PL fs R V/\WO E nt ops (ops.toList.drop k) tm1 {t:=vW FI inc fs b,n:=n} (regK ⟨tm,nt,h,mks⟩ Q))):W E r (.region id ops true) ⟨tm,nt,h,mks⟩ Q:=by
 unfold qEJ at hst;simp only at hst;obtain ⟨pre,hpre⟩: ∃pre,pre=ops.toList.take k:=⟨_,rfl⟩;obtain ⟨rest,hrest⟩: ∃rest,rest=ops.toList.drop k:=⟨_,rfl⟩;have hall:pre++rest=ops.toList:=by rw [hpre,hrest,List.take_append_drop]
 rw [<-hpre,<-hrest] at hst hw;cases hs:sta ⟨pre⟩ with
 |none=>rw [hs] at hst;cases hst
 |some s=>
 rw [hs] at hst;simp only [xZR] at hst;obtain ⟨hmx,hord,hpl,hlast,hgl⟩:=hst;split at hord
 ·cases hord
 rename_i SR SV hgs;have hord:=xZV.1 hord;have hgd: ∀o∈pre,∀j w,o.guard=some (j,w)->(⟨pre⟩:Array Oper)[j]? =ops[j]? :=fun o ho j w hg=>by
  have:=xZV.1 hgl o ho;unfold vV at this;rw [hg] at this;simp only [Nat.blt_eq] at this;rw [<-xZT,<-xZT,<-hall];simp [List.getElem?_append_left this]
 have hplan: ∀(i:Nat) (o:Oper),pre[i]? =some o-> ∀m,s.ms[i]? =some m->((zT o.op || zY o.op)=true-> ∀f∈FI,bt m f=inL f (jZ i PL))/\(yH o.op=true->i∈FI):=fun i o ho m hm=>by
  have:=xZV.1 hpl i (List.mem_range.2 (xZQ.1 ho).1);rw [ho,hm] at this;simp only [xZR,xZS,Bool.not_eq_true'] at this;obtain ⟨q1,q2⟩:=this;refine ⟨fun hr f hf=> ?_,fun hr=> ?_⟩
  ·rcases q1 with q1|q1
   ·simp only [Bool.or_eq_false_iff] at q1;rcases Bool.or_eq_true_iff.1 hr with hr|hr
    ·rw [q1.1] at hr;cases hr
    ·rw [q1.2] at hr;cases hr
   ·simpa using xZV.1 q1 f hf
  ·rcases q2 with q2|q2
   ·rw [q2] at hr;cases hr
   ·exact inL_mem q2
 have hmsl: ∀(l:List Oper) (ms:List Nat) (i ne mj dl:Nat) (SR:List SRd) (SV:List SVe) (z:List SRd×List SVe),qBp pre.length l ms i ne mj dl SR SV=some z->l.length<=ms.length:=by
  intro l;induction l with
  |nil=>intros;simp
  |cons o l ih=>
   intro ms i ne mj dl SR SV z hx;cases ms with
   |nil=>simp [qBp] at hx
   |cons m ms=>
    simp only [qBp] at hx;simp only [List.length_cons];have:l.length<=ms.length:=by
     cases hc:calm o.op with
     |true=>
      rw [hc] at hx;simp only [cond_true] at hx;split at hx
      ·exact ih _ _ _ _ _ _ _ _ hx
      ·exact ih _ _ _ _ _ _ _ _ hx
     |false=>
      rw [hc] at hx;simp only [cond_false] at hx;cases hf:(yH o.op && (match o.guard with|none=>true|some _=>false)) with
      |true=>rw [hf] at hx;simp only [cond_true] at hx;exact ih _ _ _ _ _ _ _ _ hx
      |false=>
       rw [hf] at hx;simp only [cond_false] at hx;obtain ⟨_,hx⟩:=qZ hx;exact ih _ _ _ _ _ _ _ _ hx
    omega
 have hms:=hmsl _ _ _ _ _ _ _ _ _ hgs;have hw1:=qDj (ops':=⟨pre⟩) pre 0 0 tm h.n h.t [] [] [] _ _ hgd hw;obtain ⟨call,st,ne1,mj1,dl1,tm1,n1,b1,inc1,fs1,R1,V1,SV1,cs1,cr1,run1,I,eSV,hsame,hq1⟩:=wD (FI:=FI) (PL:=PL) pre s.ms 0 0 0 0 tm h.n h.t [] [] [] [(0,[],h.t)] [] [] {i:=0,tm:=tm,n:=h.n,b:=h.t,mj:=0,dl:=0,ne:=0,fs:=[],bs:=[],rs:=[]} hw1 hgs
  (fun k o m ho hm hr=>by rw [Nat.zero_add];exact (hplan k o ho m hm).1 hr)
  (fun k o ho hr=>by
   rw [Nat.zero_add];have hk:=(xZQ.1 ho).1;obtain ⟨m,hm⟩: ∃m,s.ms[k]? =some m:=⟨_,List.getElem?_eq_getElem (by omega)⟩;exact (hplan k o ho m hm).2 hr)
  ⟨rfl,rfl,rfl,rfl,rfl,.inr rfl,rfl,rfl,fun f _=>by rw [pO];rfl,by simp,by simp,by simp,by simp⟩
 have hchk:DChk E.P E.tb E.xt call st (⟨pre⟩:Array Oper).size:=by
  intro r hr e he;obtain ⟨q1,⟨re,p1,p2,p3,p4,p5,p6,p7⟩,q3⟩:=I.frs r hr;obtain ⟨e1,inc',e2,e3⟩:(e.j,e.mj,e.nx)∈SV/\ ∃inc',(e.j,inc',e.b)∈V1/\ ∀f∈FI,bt e.mj f=inL f inc':=by
   rcases xZU.1 he with rfl|he
   ·refine ⟨by rw [eSV];simp [I.fne,I.fmj],inc1,by simp only [I.fne,I.fb];exact I.fv,fun f hf=>by simp only [I.fmj];exact I.finc f hf⟩
   ·obtain ⟨y1,inc',y2,y3⟩:=I.fbs e he;exact ⟨by rw [eSV];exact xZY _ y1,inc',y2,y3⟩
  have ho:=xZV.1 (hord _ q1) _ e1;unfold ordd at ho;simp only [xZS] at ho;rcases ho with ho|ho|ho|ho
  ·exact .inl (xZW ho)
  ·exact .inr (.inl ho)
  ·exact .inr (.inr (.inl ho))
  refine .inr (.inr (.inr ?_));have:=hsame re p1 (e.j,inc',e.b) e2 (by rw [p2];exact ho);rw [p3,p4,p5,p6,p2] at this;rw [I.ffs,qA8 fs1 e.b (p:=jZ r.i PL) (inc:=inc') fun x hx=>by rw [q3 _ (I.ffi x hx),e3 _ (I.ffi x hx)],zE rfl p7,this];exact ⟨_,rfl⟩
 obtain ⟨n2,s1⟩:=wQ htb cs1 hs (Nat.le_of_ble_eq_true hmx) run1 hchk;have e1:({t:=ovl (fun f=> !bt st.mj f) st.fs st.b,n:=st.n}:Hp)={t:=vW FI inc1 fs1 b1,n:=n1}:=by
  rw [I.ffs,I.fb,I.fn,qA8 fs1 b1 (p:=FI) (inc:=inc1) fun x hx=>by
   rw [mem_inL (I.ffi x hx),I.fmj,I.finc _ (I.ffi x hx)];rfl]
 rw [e1] at s1;rw [I.fn] at n2 s1;rw [I.ftm] at s1;have hd:DrX E nt ⟨pre⟩ tm h .normal tm1 {t:=vW FI inc1 fs1 b1,n:=n1}:=⟨n2,s1⟩;obtain ⟨x,tm4,h4,hd2,hq4⟩:=DrX.lasts htb rest pre _ _ hlast (fun j hj=>by rw [hall,xZT]) hd hq1;rw [hall] at hd2;have lift: ∀{a:Act} {w:World} {r:Option Nat} {id:Nat} {Q:Exit->Act->World->Prop},(∀t,wpOpsIn (Wd r) 0 E.P ops Q (Region.linearise .any ops t) a {w with drawn:=w.drawn+1})->(Code.region id ops true).wpIn (Wd r) 0 E.P Q a w:=fun hh=>by
  refine wpIn_region_draw fun t=> ?_;simp only [Region.schedule,hm,Bool.true_or,if_true];exact hh t
 have hds:DrwS E nt ops tm h x tm4 h4:=⟨hd2.1,fun lim hl c a w r id g hxt ht Q hQ=>lift fun t=>hd2.2 lim hl c a w r t g hxt ht Q hQ⟩;exact ⟨_,_,.regionD (st:=⟨tm,nt,h,mks⟩) hds,hq4⟩
theorem qFb (ok:SyOk E) {id:Nat} {b:Code} {tm:T AV} {h:Hp} {Q:Ex->St->Prop} (k:Nat) (FI:List Nat) (PL:List (Nat×List Nat)) (P:List (Nat×Nat)) (hst:qEJ nt ops k FI PL P=true) (hw: ∀K:Ex->T AV->Hp->Prop,(∀tm h,wpc E r b ⟨tm,nt,h,mks⟩ Q->K .normal tm h)->(∀v tm h,Q (.panic v) ⟨tm,nt,h,mks⟩->K (.panic v) tm h)->WOG E nt ops PL (ops.toList.take k) 0 0 tm h.n h.t [] [] [] [(0,[],h.t)] (fun tm1 n b inc fs R V=>qDn E P PL fs R V/\WO E nt ops (ops.toList.drop k) tm1 {t:=vW FI inc fs b,n:=n} K)):
  wpc E r (.seq (.region id ops true) b) ⟨tm,nt,h,mks⟩ Q:=by
 show W E r (.region id ops true) ⟨tm,nt,h,mks⟩ (bW (fun s=>wpc E r b s Q) Q);exact SemC.drawnG ok.tb ok.mixed k FI PL P hst (hw _ (fun tm h hh=>hh) (fun v tm h hh=>hh))
end
end Go.Ev
end
namespace Go.Proofs.Kn
open Go Go.Ev
set_option maxRecDepth 100000
set_option maxHeartbeats 4000000
end Go.Proofs.Kn
noncomputable section
namespace Go.Ev
section
variable {E:Env} {nt:Nat} {ops:Array Oper} {PL:List (Nat×List Nat)} {o:Oper} {ol:List Oper} {i ne n:Nat} {tm:T AV} {b:T AO} {inc p:List Nat} {fs:Fs} {R:List RdE} {V:VeG} {Q:T AV->Nat->T AO->List Nat->Fs->List RdE->VeG->Prop}
def stepG (fr ef rd cl:Bool) (E:Env) (nt:Nat) (ops:Array Oper) (PL:List (Nat×List Nat)) (o:Oper) (ol:List Oper) (i ne:Nat) (tm:T AV) (n:Nat) (b:T AO) (inc:List Nat) (fs:Fs) (R:List RdE) (V:VeG) (Q:T AV->Nat->T AO->List Nat->Fs->List RdE->VeG->Prop):Prop:=
 bif fr then WOp E o tm {t:= .e,n:=n} (frK nt tm o.dst n (fun tm' o'=>WOG E nt ops PL ol (i+1) ne tm' (n+1) b inc ((i,n,o')::fs) R V Q))
 else bif ef then WOp E o tm {t:=vW (jZ i PL) inc fs b,n:=n} (efK cl nt tm o.dst n (fun tm' h'=>WOG E nt ops PL ol (i+1) (ne+1) tm' h'.n h'.t (jZ i PL) fs R ((ne+1,jZ i PL,h'.t)::V) Q))
 else WOp E o tm {t:=vW (jZ i PL) inc fs b,n:=n} (rdK nt tm o.dst {t:=vW (jZ i PL) inc fs b,n:=n} (fun tm' v=>WOG E nt ops PL ol (i+1) ne tm' n b inc fs (bif rd then ⟨i,o,tm,n,v⟩::R else R) V Q))
def gateG (gd wt:Bool) (E:Env) (nt:Nat) (ops:Array Oper) (PL:List (Nat×List Nat)) (o:Oper) (ol:List Oper) (i ne:Nat) (tm:T AV) (n:Nat) (b:T AO) (inc:List Nat) (fs:Fs) (R:List RdE) (V:VeG) (Q:T AV->Nat->T AO->List Nat->Fs->List RdE->VeG->Prop):Prop:=
 gd=true/\bif wt then stepG (yH o.op) (zY o.op) (zT o.op) (jO o.op) E nt ops PL o ol i ne tm n b inc fs R V Q else putK nt tm o.dst default (fun tm'=>WOG E nt ops PL ol (i+1) ne tm' n b inc fs R V Q)
theorem WOG_nil:WOG E nt ops PL [] i ne tm n b inc fs R V Q=Q tm n b inc fs R V:=rfl
theorem WOG_cons:WOG E nt ops PL (o::ol) i ne tm n b inc fs R V Q=gateG (jV nt ops o) (qP ops o tm) E nt ops PL o ol i ne tm n b inc fs R V Q:=rfl
theorem gateG_t:gateG true true E nt ops PL o ol i ne tm n b inc fs R V Q=stepG (yH o.op) (zY o.op) (zT o.op) (jO o.op) E nt ops PL o ol i ne tm n b inc fs R V Q:=by simp [gateG]
theorem gateG_fs {d:Tmp} {op:Op} {ty:TypeId} {ps:String} {af:Array Edge} {g:Option (Nat×Bool)}:gateG true false E nt ops PL ⟨some d,op,ty,ps,af,g⟩ ol i ne tm n b inc fs R V Q=(d<nt/\WOG E nt ops PL ol (i+1) ne (tm.put (some default) d) n b inc fs R V Q):=by simp [gateG,putK]
theorem stepG_f {ef rd cl:Bool}:stepG true ef rd cl E nt ops PL o ol i ne tm n b inc fs R V Q=WOp E o tm {t:= .e,n:=n} (frK nt tm o.dst n (fun tm' o'=>WOG E nt ops PL ol (i+1) ne tm' (n+1) b inc ((i,n,o')::fs) R V Q)):=rfl
theorem stepG_e {rd cl:Bool}:stepG false true rd cl E nt ops PL o ol i ne tm n b inc fs R V Q=WOp E o tm {t:=vW (jZ i PL) inc fs b,n:=n} (efK cl nt tm o.dst n (fun tm' h'=>WOG E nt ops PL ol (i+1) (ne+1) tm' h'.n h'.t (jZ i PL) fs R ((ne+1,jZ i PL,h'.t)::V) Q)):=rfl
theorem stepG_r {cl:Bool}:stepG false false true cl E nt ops PL o ol i ne tm n b inc fs R V Q=WOp E o tm {t:=vW (jZ i PL) inc fs b,n:=n} (rdK nt tm o.dst {t:=vW (jZ i PL) inc fs b,n:=n} (fun tm' v=>WOG E nt ops PL ol (i+1) ne tm' n b inc fs (⟨i,o,tm,n,v⟩::R) V Q)):=rfl
theorem stepG_c {cl:Bool}:stepG false false false cl E nt ops PL o ol i ne tm n b inc fs R V Q=WOp E o tm {t:=vW (jZ i PL) inc fs b,n:=n} (rdK nt tm o.dst {t:=vW (jZ i PL) inc fs b,n:=n} (fun tm' _=>WOG E nt ops PL ol (i+1) ne tm' n b inc fs R V Q)):=rfl
theorem frK_new {d:Tmp} {N:T AV->AO->Prop} {v:AV} {o':AO}:frK nt tm (some d) n N (.ok v (Hp.new {t:= .e,n:=n} o'))=(d<nt/\N (tm.put (some v) d) o'):=by
 apply propext
 constructor
 ·rintro ⟨o2,h1,h2⟩;have:o'=o2:=by
   have:=congrArg (fun h:Hp=>h.t.get n) h1;simpa [Hp.new,T.get_put] using this
  subst this;exact h2
 ·intro h;exact ⟨_,rfl,h⟩
theorem efK_ap {d:Tmp} {N:T AV->Hp->Prop} {v:AV} {h':Hp} (hn:n<=h'.n):efK false nt tm (some d) n N (.ok v h')=(d<nt/\N (tm.put (some v) d) h'):=by
 simp [efK,hn,putK]
theorem rdK_ok {d:Tmp} {N:T AV->AV->Prop} {v:AV} {h:Hp}:rdK nt tm (some d) h N (.ok v h)=(d<nt/\N (tm.put (some v) d) v):=by simp [rdK,putK]
theorem addF_nil:vW p inc [] b=b:=rfl
theorem addF_cons {f s:Nat} {o':AO}:vW p inc ((f,s,o')::fs) b=if inL f p=true then (if inL f inc=true then vW p inc fs b else vW p inc fs (b.put (some o') s)) else vW p inc fs b:=by
 simp only [vW];cases inL f p<;>cases inL f inc<;>rfl
theorem inL_nil {f:Nat}:inL f []=false:=rfl
theorem inL_cons {f a:Nat} {l:List Nat}:inL f (a::l)=if a=f then true else inL f l:=by
 simp only [inL];by_cases h:a=f
 ·rw [if_pos h,h,xZP];rfl
 ·rw [if_neg h];cases hb:Nat.beq a f with
  |false=>rfl
  |true=>exact absurd (xZW hb) h
theorem lookP_nil:jZ i []=[]:=rfl
theorem qGt {a:Nat} {l:List Nat} {r:List (Nat×List Nat)}:jZ i ((a,l)::r)=if a=i then l else jZ i r:=by
 simp only [jZ];by_cases h:a=i
 ·rw [if_pos h,h,xZP];rfl
 ·rw [if_neg h];cases hb:Nat.beq a i with
  |false=>rfl
  |true=>exact absurd (xZW hb) h
def qAp (E:Env) (P:List (Nat×Nat)) (PL:List (Nat×List Nat)) (fs:Fs) (r:RdE) (V:VeG):Prop:= ∀e∈V,inP P r.i e.1=true->aop E.P E.tb E.xt (qH r.tm) r.o.op {t:=vW (jZ r.i PL) e.2.1 fs e.2.2,n:=r.n}=some (r.v,{t:=vW (jZ r.i PL) e.2.1 fs e.2.2,n:=r.n})
theorem SameG_nil {P:List (Nat×Nat)}:qDn E P PL fs [] V=True:=by simp [qDn]
theorem qGU {P:List (Nat×Nat)} {r:RdE}:qDn E P PL fs (r::R) V=(qAp E P PL fs r V/\qDn E P PL fs R V):=by simp only [qDn,qAp,inP,xZO]
theorem qGW {P:List (Nat×Nat)} {r:RdE}:qAp E P PL fs r []=True:=by simp [qAp]
theorem qGi {P:List (Nat×Nat)} {j n':Nat} {t:T AO} {v:AV} {inc':List Nat} {tm':T AV} {o':Oper}:qAp E P PL fs ⟨i,o',tm',n',v⟩ ((j,inc',t)::V)=(qAb (inP P i j) E ⟨i,o',tm',n',v⟩ (vW (jZ i PL) inc' fs t)/\qAp E P PL fs ⟨i,o',tm',n',v⟩ V):=by
 simp only [qAp,qAb,xZO]
theorem qGy {t:TypeId}:yH (.alloc t)=true:=rfl
theorem isFr_bs {t:TypeId} {k:Nat} {p:Array (Nat×Operand)}:yH (.buildSlice t k p)=true:=rfl
theorem isFr_load {t:TypeId} {x:Operand}:yH (.load t x)=false:=rfl
theorem isFr_move {x:Operand}:yH (.move x)=false:=rfl
theorem qFA {x:Operand}:yH (.assign x)=false:=rfl
theorem isFr_pick {x y z:Operand}:yH (.pick x y z)=false:=rfl
theorem isFr_bin {b:BinOp} {t t':TypeId} {x y:Operand}:yH (.binOp b t x y t')=false:=rfl
theorem isFr_un {b:UnOp} {t:TypeId} {x:Operand}:yH (.unOp b t x)=false:=rfl
theorem isFr_fa {t:TypeId} {x:Operand} {f:Nat}:yH (.fieldAddr t x f)=false:=rfl
theorem isFr_ia {t:TypeId} {x y:Operand}:yH (.indexAddr t x y)=false:=rfl
theorem qGx {t:TypeId} {p:Array (Nat×Operand)}:yH (.build t p)=false:=rfl
theorem isFr_ex {x:Operand} {i:Nat}:yH (.extract x i)=false:=rfl
theorem isFr_call {q:Call}:yH (.call q)=false:=rfl
theorem qGw {t:TypeId} {x y:Operand}:yH (.store t x y)=false:=rfl
theorem isFr_mf {f:Fn} {a b:Array Operand}:yH (.makeFunc f a b)=false:=rfl
theorem isCall_fr {t:TypeId}:jO (.alloc t)=false:=rfl
theorem isCall_cv {f:Operand} {a:Array Operand} {ts:Array TypeId}:jO (.call ⟨.value f,a,ts⟩)=true:=rfl
noncomputable def syg:=PLift.up (xZZ @WOG_nil (xZZ @WOG_cons (xZZ @gateG_t (xZZ @gateG_fs (xZZ @stepG_f (xZZ @stepG_e (xZZ @stepG_r (xZZ @stepG_c (xZZ @frK_new (xZZ @rdK_ok (xZZ @addF_nil (xZZ @addF_cons (xZZ @inL_nil (xZZ @inL_cons (xZZ @lookP_nil (xZZ @qGt (xZZ @SameG_nil (xZZ @qGU (xZZ @qGW (xZZ @qGi (xZZ @qGy (xZZ @isFr_bs (xZZ @isFr_load (xZZ @isFr_move (xZZ @qFA (xZZ @isFr_pick (xZZ @isFr_bin (xZZ @isFr_un (xZZ @isFr_fa (xZZ @isFr_ia (xZZ @qGx (xZZ @isFr_ex (xZZ @isFr_call (xZZ @qGw (xZZ @isFr_mf (xZZ @isCall_fr @isCall_cv))))))))))))))))))))))))))))))))))))
end
end Go.Ev
end
namespace Go.Proofs.Kn
open Go Go.Ev
set_option maxRecDepth 100000
set_option maxHeartbeats 4000000
structure NewC (xt:Xt) (N:Nat) (h:Hp) (z:AV) (l:List (Int×Int×Int)):Prop where
 cuts:Cuts xt h z l
 inn:Inn z
 lo: ∀b off n s,z= .sl b off n s->N<=b
theorem NewC.fr {xt:Xt} {N:Nat} {h h':Hp} {z:AV} {l:List (Int×Int×Int)} (a:NewC xt N h z l) {M:Nat} (f:Fr M h h') (hM:h.n<=M):NewC xt N h' z l:=⟨a.cuts.fr f hM,a.inn,a.lo⟩
theorem NewC.lower {xt:Xt} {N M:Nat} {h:Hp} {z:AV} {l:List (Int×Int×Int)} (a:NewC xt N h z l) (hM:M<=N):NewC xt M h z l:=⟨a.cuts,a.inn,fun b off n s e=>Nat.le_trans hM (a.lo b off n s e)⟩
theorem NewC.set {xt:Xt} {N:Nat} {h:Hp} {z:AV} {l:List (Int×Int×Int)} (a:NewC xt N h z l) {b:Nat} (hb:b<N) (o:AO):NewC xt N (h.set b o) z l:=⟨⟨a.cuts.row.set (fun off n s e=>by have:=a.lo b off n s e;omega) o,a.cuts.lt,a.cuts.cap⟩,a.inn,a.lo⟩
theorem GrowAt.newC {xt:Xt} {h:Hp} {N:Nat} {v:AV} {ls:List (Int×Int×Int)} (g:GrowAt h N v ls) (hl:ls.length<=1000000):NewC xt N h v ls:=by
 obtain ⟨h1,h2⟩:=g.cuts (xt:=xt) hl;refine ⟨h1,h2,fun b off n s e=> ?_⟩;rcases g with ⟨rfl,_⟩|⟨b',cs,rfl,q1,_⟩
 ·cases e
 ·cases e;exact q1
abbrev Mem:=List (Int×AV×Cg)
def mks (l:Mem):List (AV×AV):=l.map fun p=>(iv p.1,.agg [p.2.1,iv p.2.2.2])
abbrev kI (l:Mem):List Value:=l.map fun p=> .int .i64 p.1
end Go.Proofs.Kn
