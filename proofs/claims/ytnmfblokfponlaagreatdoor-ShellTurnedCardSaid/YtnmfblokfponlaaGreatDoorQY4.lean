/- SyDraw8, MvP5, SyDraw9, MvP6, MvP7: texts in a row, joined by a program. -/
import Derived.Test.YtnmfblokfponlaaGreatDoorQV
import Derived.Test.YtnmfblokfponlaaGreatDoorQY3
set_option linter.all false
open Nat renaming reduceEqDiff → rE, reduceLeDiff → rD, reduceAdd → rA, reduceMul → rM, reduceLT → rL
open Go.Ev.T renaming get_put → xZZ
open And renaming intro → xZY
open List renaming mem_cons_of_mem → xZX, mem_cons_self → xZW, all_eq_true → xZT, mem_cons → xZS, getElem?_eq_some_iff → xZN, forall_mem_cons → xZL
open Nat renaming eq_of_beq_eq_true → xZV, le_refl → xZU, zero_add → xZP, beq_refl → xZM
open Array renaming getElem?_toList → xZR
open Bool renaming or_eq_true → xZQ, and_eq_true → xZO
open Option renaming bind_some → xZK
noncomputable section
namespace Go.Ev
abbrev Fs:=List (Nat×Nat×AO)
def toFE (fs:Fs):List FE:=fs.map fun x=>{f:=x.1,s:=x.2.1,cnt:=1,os:=T.put .e (some x.2.2) x.2.1}
def inL (f:Nat):List Nat->Bool
 |[]=>false
 |a::l=>Nat.beq a f || inL f l
def jR (i:Nat):List (Nat×List Nat)->List Nat
 |[]=>[]
 |x::r=>bif Nat.beq x.1 i then x.2 else jR i r
def vD (p inc:List Nat):Fs->T AO->T AO
 |[],b=>b
 |x::fs,b=>bif inL x.1 p && !inL x.1 inc then vD p inc fs (b.put (some x.2.2) x.2.1) else vD p inc fs b
theorem bY {q:Nat->Bool} {p inc:List Nat}: ∀(fs:Fs) (b:T AO),(∀x∈fs,q x.1=(inL x.1 p && !inL x.1 inc))->ovl q (toFE fs) b=vD p inc fs b
 |[],_,_=>rfl
 |x::fs,b,h=>by
  have h1:=h x xZW;have h2:=fun b=>bY fs b fun y hy=>h y (xZX _ hy);simp only [toFE,List.map_cons,ovl,vD] at h2 ⊢;rw [h1];cases inL x.1 p && !inL x.1 inc
  ·simp only [cond_false];exact h2 b
  ·simp only [cond_true,mrg,xZZ,if_true];exact h2 _
abbrev VeG:=List (Nat×List Nat×T AO)
def vX:Op->Bool
 | .alloc _=>true
 | .buildSlice _ _ _=>true
 |_=>false
def qAk (N:Nat):List Oper->List Nat->Nat->Nat->Nat->Nat->List SRd->List SVe->Option (List SRd×List SVe)
 |[],_,_,ne,mj,_,SR,SV=>some (SR,(ne,mj,N)::SV)
 |_::_,[],_,_,_,_,_,_=>none
 |o::ol,m::ms,i,ne,mj,dl,SR,SV=>
  bif calm o.op then
   (match jD o.op with
   | .read=>qAk N ol ms (i+1) ne mj dl ((i,m,ne)::SR) SV
   |_=>qAk N ol ms (i+1) ne mj dl SR SV)
  else bif vX o.op && (match o.guard with|none=>true|some _=>false) then qAk N ol ms (i+1) ne mj dl SR SV
  else bif zV o.op && (Nat.beq ne 0 || bt m dl) && (match o.guard with|none=>true|some _=>false) then qAk N ol ms (i+1) (ne+1) m i SR ((ne,mj,i)::SV) else none
section
variable {E:Env} {nt:Nat} {ops:Array Oper}
def frK (nt:Nat) (tm:T AV) (dst:Option Tmp) (n:Nat) (N:T AV->AO->Prop):OR->Prop
 | .pan _ _=>False
 | .ok v h'=> ∃o',h'=({t:= .e,n:=n}:Hp).new o'/\putK nt tm dst v (fun tm'=>N tm' o')
def efK (cl:Bool) (nt:Nat) (tm:T AV) (dst:Option Tmp) (n:Nat) (N:T AV->Hp->Prop):OR->Prop
 | .pan _ _=>False
 | .ok v h'=>(n<=h'.n/\(cl=true->n<h'.n))/\putK nt tm dst v (fun tm'=>N tm' h')
def rdK (nt:Nat) (tm:T AV) (dst:Option Tmp) (h:Hp) (N:T AV->AV->Prop):OR->Prop
 | .pan _ _=>False
 | .ok v h'=>h'=h/\putK nt tm dst v (fun tm'=>N tm' v)
def WOG (E:Env) (nt:Nat) (ops:Array Oper) (PL:List (Nat×List Nat)):List Oper->Nat->Nat->T AV->Nat->T AO->List Nat->Fs->List RdE->VeG->(T AV->Nat->T AO->List Nat->Fs->List RdE->VeG->Prop)->Prop
 |[],_,_,tm,n,b,inc,fs,R,V,Q=>Q tm n b inc fs R V
 |o::ol,i,ne,tm,n,b,inc,fs,R,V,Q=>jN nt ops o=true/\bif qP ops o tm then
   (bif vX o.op then WOp E o tm {t:= .e,n:=n} (frK nt tm o.dst n (fun tm' o'=>WOG E nt ops PL ol (i+1) ne tm' (n+1) b inc ((i,n,o')::fs) R V Q))
   else bif zV o.op then WOp E o tm {t:=vD (jR i PL) inc fs b,n:=n} (efK (jG o.op) nt tm o.dst n (fun tm' h'=>WOG E nt ops PL ol (i+1) (ne+1) tm' h'.n h'.t (jR i PL) fs R ((ne+1,jR i PL,h'.t)::V) Q))
   else WOp E o tm {t:=vD (jR i PL) inc fs b,n:=n} (rdK nt tm o.dst {t:=vD (jR i PL) inc fs b,n:=n} (fun tm' v=>WOG E nt ops PL ol (i+1) ne tm' n b inc fs (bif zU o.op then ⟨i,o,tm,n,v⟩::R else R) V Q)))
  else putK nt tm o.dst default (fun tm'=>WOG E nt ops PL ol (i+1) ne tm' n b inc fs R V Q)
structure GI (FI:List Nat) (PL:List (Nat×List Nat)) (i ne mj dl:Nat) (tm:T AV) (n:Nat) (b:T AO) (inc:List Nat) (fs:Fs) (R:List RdE) (V:VeG) (SR:List SRd) (SV:List SVe) (st:DS):Prop where
 fi:st.i=i
 ftm:st.tm=tm
 fn:st.n=n
 fne:st.ne=ne
 fmj:st.mj=mj
 fdl:st.dl=dl\/ne=0
 ffs:st.fs=toFE fs
 fb:st.b=b
 finc: ∀f∈FI,bt mj f=inL f inc
 ffi: ∀x∈fs,x.1∈FI
 frs: ∀r∈st.rs,(r.i,r.m,r.ne)∈SR/\(∃e∈R,e.i=r.i/\e.o=r.o/\e.tm=r.tm/\e.n=r.n/\e.v=r.v/\calm r.o.op=true)/\ ∀f∈FI,bt r.m f=inL f (jR r.i PL)
 fbs: ∀e∈st.bs,(e.j,e.mj,e.nx)∈SV/\ ∃inc',(e.j,inc',e.b)∈V/\ ∀f∈FI,bt e.mj f=inL f inc'
 fv:(ne,inc,b)∈V
theorem fr_evOp {P:Program} {tb:T TE} {xt:Addr->Option Value} {o:Oper} {tm:T AV} {h:Hp} (hs:vX o.op=true) (call:qZ):jP P tb xt call o tm h=pL (aop P tb xt (qF tm) o.op h):=by
 cases hop:o.op with
 |alloc _=>simp only [jP,hop]
 |buildSlice _ _ _=>simp only [jP,hop]
 |_=>rw [hop] at hs;cases hs
theorem isFr_kind {op:Op} (h:vX op=true):jD op= .new:=by cases op<;>first|rfl|cases h
theorem isFr_calm {op:Op} (h:calm op=true):vX op=false:=by cases op<;>first|rfl|cases h
theorem isFr_ef {op:Op} (h:zV op=true):vX op=false:=by cases op<;>first|rfl|cases h
theorem xN {FI:List Nat} {PL:List (Nat×List Nat)} {N:Nat} {Q:T AV->Nat->T AO->List Nat->Fs->List RdE->VeG->Prop} {SRz:List SRd} {SVz:List SVe}:
  ∀(ol:List Oper) (ms:List Nat) (i ne mj dl:Nat) (tm:T AV) (n:Nat) (b:T AO) (inc:List Nat) (fs:Fs) (R:List RdE) (V:VeG) (SR:List SRd) (SV:List SVe) (st:DS),WOG E nt ops PL ol i ne tm n b inc fs R V Q->qAk N ol ms i ne mj dl SR SV=some (SRz,SVz)->
  (∀(k:Nat) (o:Oper) (m:Nat),ol[k]? =some o->ms[k]? =some m->(zU o.op || zV o.op)=true-> ∀f∈FI,bt m f=inL f (jR (i+k) PL))->(∀(k:Nat) (o:Oper),ol[k]? =some o->vX o.op=true->i+k∈FI)->GI FI PL i ne mj dl tm n b inc fs R V SR SV st->
  ∃call st' ne' mj' dl' tm' n' b' inc' fs' R' V' SV',jQ E.P E.xt call/\((∀fv args k r,call fv args k=some r->n<=k.n/\k.n<n')/\n<=n')/\kR E.P E.tb E.xt call ops ol ms st=some st'/\GI FI PL (i+ol.length) ne' mj' dl' tm' n' b' inc' fs' R' V' SRz SV' st'/\SVz=(ne',mj',N)::SV'/\Q tm' n' b' inc' fs' R' V'
 |[],ms,i,ne,mj,dl,tm,n,b,inc,fs,R,V,SR,SV,st,hw,hc,_,_,I=>by
  simp only [qAk,Option.some.injEq,Prod.mk.injEq] at hc;obtain ⟨rfl,rfl⟩:=hc;exact ⟨pS,st,ne,mj,dl,tm,n,b,inc,fs,R,V,SV,kE _ _,⟨fun _ _ _ _ hx=>(by cases hx),xZU _⟩,rfl,I,rfl,hw⟩
 |o::ol,[],i,ne,mj,dl,tm,n,b,inc,fs,R,V,SR,SV,st,hw,hc,_,_,I=>by simp [qAk] at hc
 |o::ol,m::ms,i,ne,mj,dl,tm,n,b,inc,fs,R,V,SR,SV,st,hw,hc,hpl,hfi,I=>by
  simp only [WOG] at hw;obtain ⟨_,hw⟩:=hw;have hput: ∀{v:AV} {N:T AV->Prop},putK nt tm o.dst v N->N (uE tm o.dst v):=fun {v N} hp=>by
   unfold putK at hp;unfold uE;split at hp
   ·rename_i hd;rw [hd];exact hp
   ·rename_i d hd;rw [hd];exact hp.2
  have hlen:i+(o::ol).length=(i+1)+ol.length:=by simp;omega
  rw [hlen];have hpl': ∀(k:Nat) (o:Oper) (m:Nat),ol[k]? =some o->ms[k]? =some m->(zU o.op || zV o.op)=true-> ∀f∈FI,bt m f=inL f (jR (i+1+k) PL):=fun k o' m' ho hm hr=>by
   have:=hpl (k+1) o' m' (by simpa using ho) (by simpa using hm) hr
   rwa [show i+(k+1)=i+1+k by omega] at this
  have hfi': ∀(k:Nat) (o:Oper),ol[k]? =some o->vX o.op=true->i+1+k∈FI:=fun k o' ho hr=>by
   have:=hfi (k+1) o' (by simpa using ho) hr
   rwa [show i+(k+1)=i+1+k by omega] at this
  simp only [qAk] at hc;have hov:(zU o.op || zV o.op)=true->({t:=ovl (fun f=>bt m f && !bt st.mj f) st.fs st.b,n:=st.n}:Hp)={t:=vD (jR i PL) inc fs b,n:=n}:=fun hr=>by
   rw [I.ffs,I.fb,I.fn,bY fs b fun x hx=> ?_];have h1:=hpl 0 o m rfl rfl hr x.1 (I.ffi x hx);have h2:=I.finc x.1 (I.ffi x hx);rw [Nat.add_zero] at h1;rw [I.fmj,h1,h2]
  cases haw:qP ops o tm with
  |false=>
   rw [haw] at hw;simp only [cond_false] at hw;have hw:=hput hw;have hd: ∀call,jJ E.P E.tb E.xt call ops o m st=some (upd o m st default {t:= .e,n:=st.n} .new):=fun call=>by
    unfold jJ zW;rw [I.ftm,haw];rfl
   obtain ⟨SR2,hc2,hsub⟩: ∃SR2,qAk N ol ms (i+1) ne mj dl SR2 SV=some (SRz,SVz)/\ ∀x∈SR,x∈SR2:=by
    have hng:o.guard≠none:=fun hg=>by unfold qP at haw;rw [hg] at haw;cases haw
    cases hcal:calm o.op with
    |true=>
     rw [hcal] at hc;simp only [cond_true] at hc;split at hc
     ·exact ⟨_,hc,fun x hx=>xZX _ hx⟩
     ·exact ⟨_,hc,fun x hx=>hx⟩
    |false=>
     rw [hcal] at hc;simp only [cond_false] at hc;have hg2:(match o.guard with|none=>true|some _=>false)=false:=by
      cases hg:o.guard with
      |none=>exact absurd hg hng
      |some _=>rfl
     rw [hg2] at hc;simp at hc
   obtain ⟨call,st',ne',mj',dl',tm',n',b',inc',fs',R',V',SV',c1,c2,r1,r2⟩:=xN ol ms (i+1) ne mj dl _ n b inc fs R V SR2 SV (upd o m st default {t:= .e,n:=st.n} .new) hw hc2 hpl' hfi'
    ⟨by simp [upd,I.fi],by simp [upd,I.ftm],by simp [upd,I.fn],by simp [upd,I.fne],by simp [upd,I.fmj],by simpa [upd] using I.fdl,by simp [upd,I.ffs],by simp [upd,I.fb],I.finc,I.ffi,fun r hr=>by have:=I.frs r (by simpa [upd] using hr);exact ⟨hsub _ this.1,this.2⟩,fun e he=>I.fbs e (by simpa [upd] using he),I.fv⟩
   exact ⟨call,st',ne',mj',dl',tm',n',b',inc',fs',R',V',SV',c1,c2,by rw [jA,hd];exact r1,r2⟩
  |true=>
   rw [haw] at hw;simp only [cond_true] at hw;cases hcal:calm o.op with
   |true=>
    rw [hcal] at hc;simp only [cond_true] at hc;rw [isFr_calm hcal,gF hcal] at hw;simp only [cond_false] at hw;obtain ⟨call0,res,_,hop,hk⟩:=hw.ev;rw [jV rfl hcal] at hop;cases ha:aop E.P E.tb E.xt (qF tm) o.op {t:=vD (jR i PL) inc fs b,n:=n} with
    |none=>rw [ha] at hop;cases hop
    |some p=>
     obtain ⟨v,h1⟩:=p;rw [ha] at hop;simp only [pL,Option.some.injEq] at hop;subst hop;obtain ⟨rfl,hk⟩:=hk;have hk:=hput hk;rcases pF hcal with hkd|hkd
     ·obtain ⟨_,e2⟩:=bS hcal hkd ha;rw [hkd] at hc;simp only at hc;have hrd:zU o.op=false:=by unfold zU;rw [hkd]
      rw [hrd] at hk;simp only [cond_false] at hk;have hd: ∀call,jJ E.P E.tb E.xt call ops o m st=some (upd o m st v {t:= .e,n:=st.n} .new):=fun call=>by
       unfold jJ zW;rw [I.ftm,haw,hkd];simp only [cond_true];rw [jV rfl hcal,e2];rfl
      obtain ⟨call,st',ne',mj',dl',tm',n',b',inc',fs',R',V',SV',c1,c2,r1,r2⟩:=xN ol ms (i+1) ne mj dl _ n b inc fs R V SR SV (upd o m st v {t:= .e,n:=st.n} .new) hk hc hpl' hfi'
       ⟨by simp [upd,I.fi],by simp [upd,I.ftm],by simp [upd,I.fn],by simp [upd,I.fne],by simp [upd,I.fmj],by simpa [upd] using I.fdl,by simp [upd,I.ffs],by simp [upd,I.fb],I.finc,I.ffi,fun r hr=>I.frs r (by simpa [upd] using hr),fun e he=>I.fbs e (by simpa [upd] using he),I.fv⟩
      exact ⟨call,st',ne',mj',dl',tm',n',b',inc',fs',R',V',SV',c1,c2,by rw [jA,hd];exact r1,r2⟩
     ·rw [hkd] at hc;simp only at hc;have hrd:zU o.op=true:=by unfold zU;rw [hkd]
      rw [hrd] at hk;simp only [cond_true] at hk;have hd: ∀call,jJ E.P E.tb E.xt call ops o m st=some (upd o m st v {t:=vD (jR i PL) inc fs b,n:=n} .read):=fun call=>by
       unfold jJ zW;rw [I.ftm,haw,hkd];simp only [cond_true];rw [hov (by rw [hrd];rfl),jV rfl hcal,ha];rfl
      obtain ⟨call,st',ne',mj',dl',tm',n',b',inc',fs',R',V',SV',c1,c2,r1,r2⟩:=xN ol ms (i+1) ne mj dl _ n b inc fs _ V ((i,m,ne)::SR) SV (upd o m st v {t:=vD (jR i PL) inc fs b,n:=n} .read) hk hc hpl' hfi'
       ⟨by simp [upd,I.fi],by simp [upd,I.ftm],by simp [upd,I.fn],by simp [upd,I.fne],by simp [upd,I.fmj],by simpa [upd] using I.fdl,by simp [upd,I.ffs],by simp [upd,I.fb],I.finc,I.ffi,fun r hr=>by
        simp only [upd,xZS] at hr;rcases hr with rfl|hr
        ·refine ⟨by simp [I.fi,I.fne],⟨_,xZW,by simp [I.fi,I.ftm,I.fn,hcal]⟩,fun f hf=> ?_⟩;have h1:=hpl 0 o m rfl rfl (by rw [hrd];rfl) f hf;simpa [I.fi] using h1
        ·obtain ⟨q1,⟨e,q2,q3⟩,q4⟩:=I.frs r hr;exact ⟨xZX _ q1,⟨e,xZX _ q2,q3⟩,q4⟩,fun e he=>I.fbs e (by simpa [upd] using he),I.fv⟩
      exact ⟨call,st',ne',mj',dl',tm',n',b',inc',fs',R',V',SV',c1,c2,by rw [jA,hd];exact r1,r2⟩
   |false=>
    rw [hcal] at hc;simp only [cond_false] at hc;cases hfr:vX o.op with
    |true=>
     rw [hfr] at hw hc;simp only [cond_true,Bool.true_and] at hw hc;have hgn:o.guard=none:=by
      cases hg:o.guard with
      |none=>rfl
      |some _=>
       rw [hg] at hc;have hne:zV o.op=false:=by
        cases he:zV o.op with
        |false=>rfl
        |true=>rw [isFr_ef he] at hfr;cases hfr
       simp [hne] at hc
     rw [hgn] at hc;simp only [cond_true] at hc;obtain ⟨call0,res,_,hop,hk⟩:=hw.ev;rw [fr_evOp hfr] at hop;cases ha:aop E.P E.tb E.xt (qF tm) o.op {t:= .e,n:=n} with
     |none=>rw [ha] at hop;cases hop
     |some p=>
      obtain ⟨v,h1⟩:=p;rw [ha] at hop;simp only [pL,Option.some.injEq] at hop;subst hop;obtain ⟨o',rfl,hk⟩:=hk;have hk:=hput hk;have hd: ∀call,jJ E.P E.tb E.xt call ops o m st=some (upd o m st v (({t:= .e,n:=n}:Hp).new o') .new):=fun call=>by
       unfold jJ zW;rw [I.ftm,haw,isFr_kind hfr];simp only [cond_true];rw [fr_evOp hfr,I.fn,ha];rfl
      have hbq:Nat.beq (n+1) n=false:=by
       cases hq:Nat.beq (n+1) n with
       |false=>rfl
       |true=>have:=xZV hq;omega
      have hmem:i∈FI:=by have:=hfi 0 o rfl hfr;simpa using this
      obtain ⟨call,st',ne',mj',dl',tm',n',b',inc',fs',R',V',SV',c1,c2,r1,r2⟩:=xN ol ms (i+1) ne mj dl _ (n+1) b inc ((i,n,o')::fs) R V SR SV (upd o m st v (({t:= .e,n:=n}:Hp).new o') .new) hk hc hpl' hfi'
       ⟨by simp [upd,I.fi],by simp [upd,I.ftm],by simp [upd,Hp.new],by simp [upd,I.fne],by simp [upd,I.fmj],by simpa [upd] using I.fdl,by
        simp only [upd,Hp.new,I.fn,hbq,cond_false,I.fi,I.ffs,toFE,List.map_cons];have:n+1 - n=1:=by omega
        rw [this],by simp [upd,I.fb],I.finc,fun x hx=>by
        rcases xZS.1 hx with rfl|hx
        ·exact hmem
        ·exact I.ffi x hx,fun r hr=>I.frs r (by simpa [upd] using hr),fun e he=>I.fbs e (by simpa [upd] using he),I.fv⟩
      exact ⟨call,st',ne',mj',dl',tm',n',b',inc',fs',R',V',SV',c1,⟨fun fv args k r hr=>by have:=c2.1 fv args k r hr;omega,by have:=c2.2;omega⟩,by rw [jA,hd];exact r1,r2⟩
    |false=>
     rw [hfr] at hw hc;simp only [cond_false,Bool.false_and] at hw hc;obtain ⟨hg,hc⟩:=qU hc;simp only [xZO] at hg;obtain ⟨⟨hst,hch⟩,hgd⟩:=hg;rw [hst] at hw;simp only [cond_true] at hw;have hov:=hov (by rw [hst,Bool.or_true]);have hch2:(Nat.beq st.ne 0 || bt m st.dl)=true:=by
      rw [I.fne];rcases I.fdl with hdl|hdl
      ·rw [hdl];exact hch
      ·rw [hdl];rfl
     have hplm: ∀f∈FI,bt m f=inL f (jR i PL):=fun f hf=>by
      have:=hpl 0 o m rfl rfl (by rw [hst,Bool.or_true]) f hf;simpa using this
     have next: ∀(v:AV) (h1:Hp),WOG E nt ops PL ol (i+1) (ne+1) (uE tm o.dst v) h1.n h1.t (jR i PL) fs R ((ne+1,jR i PL,h1.t)::V) Q-> ∃call st' ne' mj' dl' tm' n' b' inc' fs' R' V' SV',jQ E.P E.xt call/\((∀fv args k r,call fv args k=some r->h1.n<=k.n/\k.n<n')/\h1.n<=n')/\kR E.P E.tb E.xt call ops ol ms (upd o m st v h1 .eff)=some st'/\GI FI PL (i+1+ol.length) ne' mj' dl' tm' n' b' inc' fs' R' V' SRz SV' st'/\SVz=(ne',mj',N)::SV'/\Q tm' n' b' inc' fs' R' V':=fun v h1 hk=>
      xN ol ms (i+1) (ne+1) m i _ h1.n h1.t (jR i PL) fs R _ SR ((ne,mj,i)::SV) (upd o m st v h1 .eff) hk hc hpl' hfi'
       ⟨by simp [upd,I.fi],by simp [upd,I.ftm],by simp [upd],by simp [upd,I.fne],by simp [upd],.inl (by simp [upd,I.fi]),by simp [upd,I.ffs],by simp [upd],hplm,I.ffi,fun r hr=>I.frs r (by simpa [upd] using hr),fun e he=>by
        simp only [upd,xZS] at he;rcases he with rfl|he
        ·refine ⟨by simp [I.fne,I.fmj,I.fi],inc,?_,fun f hf=> ?_⟩
         ·simp only [I.fne,I.fb];exact xZX _ I.fv
         ·simp only [I.fmj];exact I.finc f hf
        ·obtain ⟨q1,inc',q2,q3⟩:=I.fbs e he;exact ⟨xZX _ q1,inc',xZX _ q2,q3⟩,xZW⟩
     cases hso:isSt o.op with
     |true=>
      obtain ⟨call0,res,_,hop,hk⟩:=hw.ev;rw [wV hso] at hop;cases ha:aop E.P E.tb E.xt (qF tm) o.op {t:=vD (jR i PL) inc fs b,n:=n} with
      |none=>rw [ha] at hop;cases hop
      |some p=>
       obtain ⟨v,h1⟩:=p;rw [ha] at hop;simp only [pL,Option.some.injEq] at hop;subst hop;obtain ⟨⟨hn1,_⟩,hk⟩:=hk;have hk:=hput hk;obtain ⟨call,st',ne',mj',dl',tm',n',b',inc',fs',R',V',SV',c1,c2,r1,r2⟩:=next v h1 hk;have hd:jJ E.P E.tb E.xt call ops o m st=some (upd o m st v h1 .eff):=by
        unfold jJ zW;rw [I.ftm,haw,xQ hso];simp only [cond_true];rw [hch2];simp only [cond_true];rw [hov,wV hso,ha];rfl
       exact ⟨call,st',ne',mj',dl',tm',n',b',inc',fs',R',V',SV',c1,⟨fun fv args k r hr=>by have:=c2.1 fv args k r hr;omega,by have:=c2.2;omega⟩,by rw [jA,hd];exact r1,r2⟩
     |false=>
      have hcl:jG o.op=true:=by
       unfold zV at hst;rw [hso] at hst;simpa using hst
      have hcl2:=hcl;unfold jG at hcl2;split at hcl2
      ·rename_i q hq;split at hcl2
       ·rename_i f hf;unfold WOp at hw;simp only [hq,calK,hf] at hw;obtain ⟨res,h1,hcs,hk⟩:=hw;rw [<-hq] at hk;cases res with
        |pan v=>exact hk.elim
        |ret v=>
         obtain ⟨⟨hn1,hlt⟩,hk⟩:=hk;have hlt:=hlt hcl;have hk:=hput hk;have hkd:jD o.op= .eff:=by simp [hq,jD,hf]
         obtain ⟨hh,hhh⟩: ∃hh:Hp,hh={t:=vD (jR i PL) inc fs b,n:=n}:=⟨_,rfl⟩;have hhn:hh.n=n:=by rw [hhh]
         rw [<-hhh] at hcs hov;obtain ⟨call,st',ne',mj',dl',tm',n',b',inc',fs',R',V',SV',c1,c2,r1,r2⟩:=next v h1 hk;have hsd:jQ E.P E.xt (j9 (qF tm f) (q.args.toList.map (qF tm)) hh (.ret v) h1 call):=by
          intro fv a k r k' he;unfold j9 at he;split at he
          ·rename_i hq;obtain ⟨rfl,rfl,rfl⟩:=hq;cases he;exact hcs
          ·exact c1 _ _ _ _ _ he
         have hev:jP E.P E.tb E.xt (j9 (qF tm f) (q.args.toList.map (qF tm)) hh (.ret v) h1 call) o tm hh=some (.ok v h1):=by
          simp [jP,hq,vB,hf,j9,uH]
         have hd:jJ E.P E.tb E.xt (j9 (qF tm f) (q.args.toList.map (qF tm)) hh (.ret v) h1 call) ops o m st=some (upd o m st v h1 .eff):=by
          unfold jJ zW;rw [I.ftm,haw,hkd];simp only [cond_true];rw [hch2];simp only [cond_true];rw [hov,hev]
         refine ⟨j9 (qF tm f) (q.args.toList.map (qF tm)) hh (.ret v) h1 call,st',ne',mj',dl',tm',n',b',inc',fs',R',V',SV',hsd,⟨fun fv a k r he=> ?_,by have:=c2.2;omega⟩,?_,r2⟩
         ·unfold j9 at he;split at he
          ·rename_i hq;rw [hq.2.2,hhn];have:=c2.2;omega
          ·have:=c2.1 _ _ _ _ he;omega
         ·rw [jA,hd];simp only;refine zH c1 ol ms _ _ (fun fv a k r hk hr=> ?_) r1;unfold j9;rw [if_neg (fun hq=> ?_)]
          ·exact hr
          ·simp only [upd] at hk;rw [hq.2.2,hhn] at hk;omega
       ·cases hcl2
      ·cases hcl2
def qBa (nt:Nat) (ops:Array Oper) (k:Nat) (FI:List Nat) (PL:List (Nat×List Nat)) (P:List (Nat×Nat)):Bool:=
 let pre:=ops.toList.take k
 match sta ⟨pre⟩ with
 |none=>false
 |some s=>Nat.ble s.mx nt &&
   ((match qAk pre.length pre s.ms 0 0 0 0 [] [] with
   |none=>false
   |some (SR,SV)=>SR.all fun r=>SV.all (ordd P r)) &&
   ((List.range pre.length).all (fun i=>match pre[i]?,s.ms[i]? with
     |some o,some m=>(!(zU o.op || zV o.op) || FI.all fun f=>bt m f==inL f (jR i PL)) && (!vX o.op || inL i FI)
     |_,_=>true) &&
   (yI pre (ops.toList.drop k) && pre.all (vF pre.length))))
def qAO (E:Env) (P:List (Nat×Nat)) (PL:List (Nat×List Nat)) (fs:Fs) (R:List RdE) (V:VeG):Prop:= ∀r∈R,∀e∈V,(P.any fun p=>Nat.beq p.1 r.i && Nat.beq p.2 e.1)=true->aop E.P E.tb E.xt (qF r.tm) r.o.op {t:=vD (jR r.i PL) e.2.1 fs e.2.2,n:=r.n}=some (r.v,{t:=vD (jR r.i PL) e.2.1 fs e.2.2,n:=r.n})
theorem inL_mem {f:Nat}: ∀{l:List Nat},inL f l=true->f∈l
 |[],h=>by cases h
 |a::l,h=>by
  simp only [inL,xZQ] at h;rcases h with h|h
  ·rw [xZV h];exact xZW
  ·exact xZX _ (inL_mem h)
theorem mem_inL {f:Nat}: ∀{l:List Nat},f∈l->inL f l=true
 |[],h=>by cases h
 |a::l,h=>by
  simp only [inL,xZQ];rcases xZS.1 h with rfl|h
  ·exact .inl (xZM _)
  ·exact .inr (mem_inL h)
end
section
variable {E:Env} {nt:Nat} {ops:Array Oper} {r:Option Nat} {mks:List Nat}
theorem qB7 {ops':Array Oper} {PL:List (Nat×List Nat)}: ∀(ol:List Oper) (i ne:Nat) (tm:T AV) (n:Nat) (b:T AO) (inc:List Nat) (fs:Fs) (R:List RdE) (V:VeG) (Q:T AV->Nat->T AO->List Nat->Fs->List RdE->VeG->Prop),(∀o∈ol,∀j w,o.guard=some (j,w)->ops'[j]? =ops[j]?)->WOG E nt ops PL ol i ne tm n b inc fs R V Q->WOG E nt ops' PL ol i ne tm n b inc fs R V Q
 |[],_,_,_,_,_,_,_,_,_,_,_,h=>h
 |o::ol,i,ne,tm,n,b,inc,fs,R,V,Q,hg,h=>by
  have ih:=fun i ne tm n b inc fs R V=>qB7 (ops':=ops') (PL:=PL) ol i ne tm n b inc fs R V Q fun o ho=>hg o (xZX _ ho);simp only [WOG] at h ⊢;obtain ⟨h1,h2⟩:=h;have e1:jN nt ops' o=jN nt ops o:=by
   unfold jN;cases hq:o.guard with
   |none=>rfl
   |some p=>obtain ⟨j,w⟩:=p;simp only;rw [hg o xZW j w hq]
  have e2:qP ops' o tm=qP ops o tm:=by
   unfold qP;cases hq:o.guard with
   |none=>rfl
   |some p=>obtain ⟨j,w⟩:=p;simp only;rw [hg o xZW j w hq]
  rw [e1,e2];refine ⟨h1,?_⟩;cases haw:qP ops o tm with
  |false=>
   rw [haw] at h2;simp only [cond_false] at h2 ⊢;exact kP h2 fun t ht=>ih _ _ _ _ _ _ _ _ _ ht
  |true=>
   rw [haw] at h2;simp only [cond_true] at h2 ⊢;cases hfr:vX o.op with
   |true=>
    rw [hfr] at h2;simp only [cond_true] at h2 ⊢;refine h2.mono fun res hr=> ?_;cases res with
    |pan _ _=>exact hr
    |ok v h'=>
     obtain ⟨o',q1,q2⟩:=hr;exact ⟨o',q1,kP q2 fun t ht=>ih _ _ _ _ _ _ _ _ _ ht⟩
   |false=>
    rw [hfr] at h2;simp only [cond_false] at h2 ⊢;cases hef:zV o.op with
    |true=>
     rw [hef] at h2;simp only [cond_true] at h2 ⊢;refine h2.mono fun res hr=> ?_;cases res with
     |pan _ _=>exact hr
     |ok v h'=>exact ⟨hr.1,kP hr.2 fun t ht=>ih _ _ _ _ _ _ _ _ _ ht⟩
    |false=>
     rw [hef] at h2;simp only [cond_false] at h2 ⊢;refine h2.mono fun res hr=> ?_;cases res with
     |pan _ _=>exact hr
     |ok v h'=>exact ⟨hr.1,kP hr.2 fun t ht=>ih _ _ _ _ _ _ _ _ _ ht⟩
theorem SemC.drawnG (htb:Tb E.P E.tb) (hm:E.P.follows .mixedOrders=true) {id:Nat} (k:Nat) (FI:List Nat) (PL:List (Nat×List Nat)) (P:List (Nat×Nat)) (hst:qBa nt ops k FI PL P=true) {tm:T AV} {h:Hp} {Q:Ex->St->Prop}
  (hw:WOG E nt ops PL (ops.toList.take k) 0 0 tm h.n h.t [] [] [] [(0,[],h.t)] (fun tm1 n b inc fs R V=>qAO E P PL fs R V/\WO E nt ops (ops.toList.drop k) tm1 {t:=vD FI inc fs b,n:=n} (regK ⟨tm,nt,h,mks⟩ Q))):W E r (.region id ops true) ⟨tm,nt,h,mks⟩ Q:=by
 unfold qBa at hst;simp only at hst;obtain ⟨pre,hpre⟩: ∃pre,pre=ops.toList.take k:=⟨_,rfl⟩;obtain ⟨rest,hrest⟩: ∃rest,rest=ops.toList.drop k:=⟨_,rfl⟩;have hall:pre++rest=ops.toList:=by rw [hpre,hrest,List.take_append_drop]
 rw [<-hpre,<-hrest] at hst hw;cases hs:sta ⟨pre⟩ with
 |none=>rw [hs] at hst;cases hst
 |some s=>
 rw [hs] at hst;simp only [xZO] at hst;obtain ⟨hmx,hord,hpl,hlast,hgl⟩:=hst;split at hord
 ·cases hord
 rename_i SR SV hgs;have hord:=xZT.1 hord;have hgd: ∀o∈pre,∀j w,o.guard=some (j,w)->(⟨pre⟩:Array Oper)[j]? =ops[j]? :=fun o ho j w hg=>by
  have:=xZT.1 hgl o ho;unfold vF at this;rw [hg] at this;simp only [Nat.blt_eq] at this;rw [<-xZR,<-xZR,<-hall];simp [List.getElem?_append_left this]
 have hplan: ∀(i:Nat) (o:Oper),pre[i]? =some o-> ∀m,s.ms[i]? =some m->((zU o.op || zV o.op)=true-> ∀f∈FI,bt m f=inL f (jR i PL))/\(vX o.op=true->i∈FI):=fun i o ho m hm=>by
  have:=xZT.1 hpl i (List.mem_range.2 (xZN.1 ho).1);rw [ho,hm] at this;simp only [xZO,xZQ,Bool.not_eq_true'] at this;obtain ⟨q1,q2⟩:=this;refine ⟨fun hr f hf=> ?_,fun hr=> ?_⟩
  ·rcases q1 with q1|q1
   ·simp only [Bool.or_eq_false_iff] at q1;rcases Bool.or_eq_true_iff.1 hr with hr|hr
    ·rw [q1.1] at hr;cases hr
    ·rw [q1.2] at hr;cases hr
   ·simpa using xZT.1 q1 f hf
  ·rcases q2 with q2|q2
   ·rw [q2] at hr;cases hr
   ·exact inL_mem q2
 have hmsl: ∀(l:List Oper) (ms:List Nat) (i ne mj dl:Nat) (SR:List SRd) (SV:List SVe) (z:List SRd×List SVe),qAk pre.length l ms i ne mj dl SR SV=some z->l.length<=ms.length:=by
  intro l;induction l with
  |nil=>intros;simp
  |cons o l ih=>
   intro ms i ne mj dl SR SV z hx;cases ms with
   |nil=>simp [qAk] at hx
   |cons m ms=>
    simp only [qAk] at hx;simp only [List.length_cons];have:l.length<=ms.length:=by
     cases hc:calm o.op with
     |true=>
      rw [hc] at hx;simp only [cond_true] at hx;split at hx
      ·exact ih _ _ _ _ _ _ _ _ hx
      ·exact ih _ _ _ _ _ _ _ _ hx
     |false=>
      rw [hc] at hx;simp only [cond_false] at hx;cases hf:(vX o.op && (match o.guard with|none=>true|some _=>false)) with
      |true=>rw [hf] at hx;simp only [cond_true] at hx;exact ih _ _ _ _ _ _ _ _ hx
      |false=>
       rw [hf] at hx;simp only [cond_false] at hx;obtain ⟨_,hx⟩:=qU hx;exact ih _ _ _ _ _ _ _ _ hx
    omega
 have hms:=hmsl _ _ _ _ _ _ _ _ _ hgs;have hw1:=qB7 (ops':=⟨pre⟩) pre 0 0 tm h.n h.t [] [] [] _ _ hgd hw;obtain ⟨call,st,ne1,mj1,dl1,tm1,n1,b1,inc1,fs1,R1,V1,SV1,cs1,cr1,run1,I,eSV,hsame,hq1⟩:=xN (FI:=FI) (PL:=PL) pre s.ms 0 0 0 0 tm h.n h.t [] [] [] [(0,[],h.t)] [] [] {i:=0,tm:=tm,n:=h.n,b:=h.t,mj:=0,dl:=0,ne:=0,fs:=[],bs:=[],rs:=[]} hw1 hgs
  (fun k o m ho hm hr=>by rw [xZP];exact (hplan k o ho m hm).1 hr)
  (fun k o ho hr=>by
   rw [xZP];have hk:=(xZN.1 ho).1;obtain ⟨m,hm⟩: ∃m,s.ms[k]? =some m:=⟨_,List.getElem?_eq_getElem (by omega)⟩;exact (hplan k o ho m hm).2 hr)
  ⟨rfl,rfl,rfl,rfl,rfl,.inr rfl,rfl,rfl,fun f _=>by rw [yJ];rfl,by simp,by simp,by simp,by simp⟩
 have hchk:DChk E.P E.tb E.xt call st (⟨pre⟩:Array Oper).size:=by
  intro r hr e he;obtain ⟨q1,⟨re,p1,p2,p3,p4,p5,p6,p7⟩,q3⟩:=I.frs r hr;obtain ⟨e1,inc',e2,e3⟩:(e.j,e.mj,e.nx)∈SV/\ ∃inc',(e.j,inc',e.b)∈V1/\ ∀f∈FI,bt e.mj f=inL f inc':=by
   rcases xZS.1 he with rfl|he
   ·refine ⟨by rw [eSV];simp [I.fne,I.fmj],inc1,by simp only [I.fne,I.fb];exact I.fv,fun f hf=>by simp only [I.fmj];exact I.finc f hf⟩
   ·obtain ⟨y1,inc',y2,y3⟩:=I.fbs e he;exact ⟨by rw [eSV];exact xZX _ y1,inc',y2,y3⟩
  have ho:=xZT.1 (hord _ q1) _ e1;unfold ordd at ho;simp only [xZQ] at ho;rcases ho with ho|ho|ho|ho
  ·exact .inl (xZV ho)
  ·exact .inr (.inl ho)
  ·exact .inr (.inr (.inl ho))
  refine .inr (.inr (.inr ?_));have:=hsame re p1 (e.j,inc',e.b) e2 (by rw [p2];exact ho);rw [p3,p4,p5,p6,p2] at this;rw [I.ffs,bY fs1 e.b (p:=jR r.i PL) (inc:=inc') fun x hx=>by rw [q3 _ (I.ffi x hx),e3 _ (I.ffi x hx)],jV rfl p7,this];exact ⟨_,rfl⟩
 obtain ⟨n2,s1⟩:=bM htb cs1 hs (Nat.le_of_ble_eq_true hmx) run1 hchk;have e1:({t:=ovl (fun f=> !bt st.mj f) st.fs st.b,n:=st.n}:Hp)={t:=vD FI inc1 fs1 b1,n:=n1}:=by
  rw [I.ffs,I.fb,I.fn,bY fs1 b1 (p:=FI) (inc:=inc1) fun x hx=>by
   rw [mem_inL (I.ffi x hx),I.fmj,I.finc _ (I.ffi x hx)];rfl]
 rw [e1] at s1;rw [I.fn] at n2 s1;rw [I.ftm] at s1;have hd:DrX E nt ⟨pre⟩ tm h .normal tm1 {t:=vD FI inc1 fs1 b1,n:=n1}:=⟨n2,s1⟩;obtain ⟨x,tm4,h4,hd2,hq4⟩:=DrX.lasts htb rest pre _ _ hlast (fun j hj=>by rw [hall,xZR]) hd hq1;rw [hall] at hd2;have lift: ∀{a:Act} {w:World} {r:Option Nat} {id:Nat} {Q:Exit->Act->World->Prop},(∀t,wpOpsIn (Wd r) 0 E.P ops Q (Region.linearise .any ops t) a {w with drawn:=w.drawn+1})->(Code.region id ops true).wpIn (Wd r) 0 E.P Q a w:=fun hh=>by
  refine wpIn_region_draw fun t=> ?_;simp only [Region.schedule,hm,Bool.true_or,if_true];exact hh t
 have hds:DrwS E nt ops tm h x tm4 h4:=⟨hd2.1,fun lim hl c a w r id g hxt ht Q hQ=>lift fun t=>hd2.2 lim hl c a w r t g hxt ht Q hQ⟩;exact ⟨_,_,.regionD (st:=⟨tm,nt,h,mks⟩) hds,hq4⟩
theorem seq_regG (ok:SyOk E) {id:Nat} {b:Code} {tm:T AV} {h:Hp} {Q:Ex->St->Prop} (k:Nat) (FI:List Nat) (PL:List (Nat×List Nat)) (P:List (Nat×Nat)) (hst:qBa nt ops k FI PL P=true) (hw: ∀K:Ex->T AV->Hp->Prop,(∀tm h,wpc E r b ⟨tm,nt,h,mks⟩ Q->K .normal tm h)->(∀v tm h,Q (.panic v) ⟨tm,nt,h,mks⟩->K (.panic v) tm h)->WOG E nt ops PL (ops.toList.take k) 0 0 tm h.n h.t [] [] [] [(0,[],h.t)] (fun tm1 n b inc fs R V=>qAO E P PL fs R V/\WO E nt ops (ops.toList.drop k) tm1 {t:=vD FI inc fs b,n:=n} K)):
  wpc E r (.seq (.region id ops true) b) ⟨tm,nt,h,mks⟩ Q:=by
 show W E r (.region id ops true) ⟨tm,nt,h,mks⟩ (pK (fun s=>wpc E r b s Q) Q);exact SemC.drawnG ok.tb ok.mixed k FI PL P hst (hw _ (fun tm h hh=>hh) (fun v tm h hh=>hh))
theorem regG (ok:SyOk E) {id:Nat} {tm:T AV} {h:Hp} {Q:Ex->St->Prop} (k:Nat) (FI:List Nat) (PL:List (Nat×List Nat)) (P:List (Nat×Nat)) (hst:qBa nt ops k FI PL P=true) (hw: ∀K:Ex->T AV->Hp->Prop,(∀tm h,Q .normal ⟨tm,nt,h,mks⟩->K .normal tm h)->(∀v tm h,Q (.panic v) ⟨tm,nt,h,mks⟩->K (.panic v) tm h)->WOG E nt ops PL (ops.toList.take k) 0 0 tm h.n h.t [] [] [] [(0,[],h.t)] (fun tm1 n b inc fs R V=>qAO E P PL fs R V/\WO E nt ops (ops.toList.drop k) tm1 {t:=vD FI inc fs b,n:=n} K)):
  wpc E r (.region id ops true) ⟨tm,nt,h,mks⟩ Q:=by
 show W E r (.region id ops true) ⟨tm,nt,h,mks⟩ Q;exact SemC.drawnG ok.tb ok.mixed k FI PL P hst (hw _ (fun tm h hh=>hh) (fun v tm h hh=>hh))
end
end Go.Ev
end
namespace Go.Proofs.Kn
open Go Go.Ev
set_option maxRecDepth 100000
set_option maxHeartbeats 4000000
theorem ix127 (b:Nat):qK tb 127 (.sl b 0 2 1) (iv 0)=some (.ptr b 0)/\qK tb 127 (.sl b 0 2 1) (iv 1)=some (.ptr b 1):=⟨by kernel_rfl,by kernel_rfl⟩
theorem ln127 (h:Hp) (b:Nat):zP tb h 127 (.sl b 0 2 1)=some 2:=by kernel_rfl
theorem ft191 (xt:Addr->Option Value):(SE xt).ft.get 191=some Tryz.f191:=by kernel_rfl
theorem res191:Tryz.f191.results.toList=[.tmp 2]:=by kernel_rfl
theorem concat_c (xt:Addr->Option Value) (h:Hp) (b:Nat) (za zb:AV) (la lb:List (Int×Int×Int)) (hb:h.t.get b=some (.cells [za,zb] 33)) (hbn:b<h.n) (ha:Cuts xt h za la) (hbb:Cuts xt h zb lb) (ia:Inn za) (ib:Inn zb) (hl:la.length+lb.length<=100000):
  FnA (SE xt) 191 [.sl b 0 2 1] h (fun res h'=>Fr h.n h h'/\ ∃z,res= .ret z/\GrowAt h' h.n z (la++lb)):=by
 refine FnA.walk (sok xt) (ft191 xt) rfl 36 rfl ?_;have i0:=(ix127 b).1;have i1:=(ix127 b).2;have ca:=ha.cells;have cb:=hbb.cells;have hla:=ha.len;have hlb:=hbb.len;have ln:=fun h'=>ln127 h' b;refine qA fun K hn hp=> ?_;simp only [sw.1,rL];apply hn;refine qA fun K hn hp=> ?_;simp only [sy.1,rL];apply hn;refine qE ?_;refine qA fun K hn hp=> ?_;simp only [sy.1,rE,reduceIte,rL,syw.1,ln];apply hn;refine qG fun KA A1 A2 A3 A4 A5=> ?_;refine qV (sok xt) (fun st=> ∃(k:Nat) (x:Nat) (tm:T AV),st=⟨tm,36,h,[]⟩/\k<=2/\tm.get 0=some (.sl b 0 2 1)/\tm.get 3=some (iv (x:Int))/\tm.get 9=some (.sl b 0 2 1)/\tm.get 10=some (iv ((2:Nat):Int))/\tm.get 11=some (iv k)/\x=(if 0<k then la.length else 0)+(if 1<k then lb.length else 0)) (fun st=>2 - (match st.tm.get 11 with|some (.val (.int _ n))=>n.toNat|_=>0)) ?_ ?_
 ·rintro st ⟨k,x,tm,rfl,hkA,g0,g3,g9,g10,g11,hx⟩;have muA:=g11;refine qA fun K hn hp=> ?_;simp only [sy.1,rL,jU,g10,g11];apply hn;by_cases hk:k<2
  ·refine qC true (by simp only [sy.1,reduceIte,hk]) (fun _=> ?_) (fun hx=>by cases hx);refine qI ?_;refine qG fun KB B1 B2 B3 B4 B5=> ?_;rcases (by omega:k=0\/k=1) with ek|ek
   ·have i0:qK tb 127 (.sl b 0 2 1) (iv (k:Int))=some (.ptr b 0):=by rw [ek];exact i0
    have hx0:x=0:=by simpa [ek] using hx
    subst hx0;have w1:IntKind.i64.wrap (((0:Nat):Int)+(la.length:Int))=(la.length:Int):=by rw [Int.natCast_zero,Int.zero_add];exact qM _ (by omega) (by omega)
    have d1:decide ((la.length:Int)<0)=false:=decide_eq_false (by omega);refine qA fun K hn hp=> ?_;simp only [sy.1,rE,reduceIte,rL,g9,g11,i0,hb];apply hn;refine qA fun K hn hp=> ?_;simp only [sy.1,rE,reduceIte,rL,syw.1,hla,g3,w1];apply hn;refine qA fun K hn hp=> ?_;simp only [sy.1,rE,reduceIte,rL,g3,d1];apply hn;refine qH false (by simp only [sy.1,rE,reduceIte]) (fun hx=>by cases hx) (fun _=> ?_);refine qX (B1 _ ?_);refine reg fun K hn hp=> ?_;simp only [sy.1,rE,reduceIte,rL,g11,qQ hk (show 2<=9223372036854775807 by omega)];apply hn;refine ⟨⟨k+1,la.length,_,rfl,by omega,(by simp [xZZ,g0]),(by simp [xZZ]),(by simp [xZZ,g9]),(by simp [xZZ,g10]),(by simp [xZZ]),by simp [ek]⟩,by simpa [xZZ,muA] using (by omega:2 - (k+1)<2 - k)⟩
   ·have i1:qK tb 127 (.sl b 0 2 1) (iv (k:Int))=some (.ptr b 1):=by rw [ek];exact i1
    have hx0:x=la.length:=by simpa [ek] using hx
    subst hx0;have w1:IntKind.i64.wrap ((la.length:Int)+(lb.length:Int))=((la.length+lb.length:Nat):Int):=by rw [qM _ (by omega) (by omega)];simp
    have d1:decide (((la.length+lb.length:Nat):Int)<0)=false:=decide_eq_false (by omega);refine qA fun K hn hp=> ?_;simp only [sy.1,rE,reduceIte,rL,g9,g11,i1,hb];apply hn;refine qA fun K hn hp=> ?_;simp only [sy.1,rE,reduceIte,rL,syw.1,hlb,g3,w1];apply hn;refine qA fun K hn hp=> ?_;simp only [sy.1,rE,reduceIte,rL,g3,d1];apply hn;refine qH false (by simp only [sy.1,rE,reduceIte]) (fun hx=>by cases hx) (fun _=> ?_);refine qX (B1 _ ?_);refine reg fun K hn hp=> ?_;simp only [sy.1,rE,reduceIte,rL,g11,qQ hk (show 2<=9223372036854775807 by omega)];apply hn;refine ⟨⟨k+1,la.length+lb.length,_,rfl,by omega,(by simp [xZZ,g0]),(by simp [xZZ]),(by simp [xZZ,g9]),(by simp [xZZ,g10]),(by simp [xZZ]),by simp [ek]⟩,by simpa [xZZ,muA] using (by omega:2 - (k+1)<2 - k)⟩
  ·refine qC false (by simp only [sy.1,reduceIte,hk]) (fun hx=>by cases hx) (fun _=> ?_);refine qT (A2 _ ?_);obtain rfl:k=2:=by omega
   have hx0:x=la.length+lb.length:=by simpa using hx
   subst hx0;refine qA fun K hn hp=> ?_;simp only [sy.1,rE,reduceIte,rL,g3];refine qB (sok xt) (FnA.mono (grow_c xt h (la.length+lb.length) (by omega)) fun res h1 hres=> ?_);obtain ⟨f1,z0,rfl,gg0⟩:=hres;simp only [sy.1,rE,reduceIte,rL];apply hn;refine qE ?_;refine qA fun K hn hp=> ?_;simp only [sy.1,rE,reduceIte,rL,syw.1,ln,g0];apply hn;refine qG fun KD D1 D2 D3 D4 D5=> ?_;refine qV (sok xt) (fun st=> ∃(k:Nat) (z:AV) (hg:Hp) (tm:T AV),st=⟨tm,36,hg,[]⟩/\k<=2/\tm.get 0=some (.sl b 0 2 1)/\tm.get 6=some (z)/\tm.get 25=some (.sl b 0 2 1)/\tm.get 26=some (iv ((2:Nat):Int))/\tm.get 27=some (iv k)/\Fr h.n h hg/\GrowAt hg h.n z ((if 0<k then la else [])++(if 1<k then lb else []))) (fun st=>2 - (match st.tm.get 27 with|some (.val (.int _ n))=>n.toNat|_=>0)) ?_ ?_
   ·rintro st ⟨k,z,hg,tm,rfl,hkD,g0,g6,g25,g26,g27,fg,gz⟩;have muD:=g27;refine qA fun K hn hp=> ?_;simp only [sy.1,rL,jU,g26,g27];apply hn;have hbg:=(fg.at_ b (.inl hbn)).trans hb;by_cases hk:k<2
    ·refine qC true (by simp only [sy.1,reduceIte,hk]) (fun _=> ?_) (fun hx=>by cases hx);refine qI ?_;refine qG fun KE E1 E2 E3 E4 E5=> ?_;rcases (by omega:k=0\/k=1) with ek|ek
     ·have i0:qK tb 127 (.sl b 0 2 1) (iv (k:Int))=some (.ptr b 0):=by rw [ek];exact i0
      have gz0:GrowAt hg h.n z []:=by simpa [ek] using gz
      obtain ⟨z',h',q1,q2,q3,q4,q5⟩:=gz0.append (xt:=xt) fg.lo (ha.fr fg (xZU _)) ia (by simp;omega);refine qA fun K hn hp=> ?_;simp only [sy.1,rE,reduceIte,rL,g25,g27,i0,hbg];apply hn;refine reg fun K hn hp=> ?_;simp only [sy.1,rE,reduceIte,rL,g6,q1];apply hn;refine E1 _ ?_;refine reg fun K hn hp=> ?_;simp only [sy.1,rE,reduceIte,rL,g27,qQ hk (show 2<=9223372036854775807 by omega)];apply hn;refine ⟨⟨k+1,z',h',_,rfl,by omega,(by simp [xZZ,g0]),(by simp [xZZ]),(by simp [xZZ,g25]),(by simp [xZZ,g26]),(by simp [xZZ]),fg.trans q3 (xZU _),by simpa [ek] using q2⟩,by simpa [xZZ,muD] using (by omega:2 - (k+1)<2 - k)⟩
     ·have i1:qK tb 127 (.sl b 0 2 1) (iv (k:Int))=some (.ptr b 1):=by rw [ek];exact i1
      have gz0:GrowAt hg h.n z la:=by simpa [ek] using gz
      obtain ⟨z',h',q1,q2,q3,q4,q5⟩:=gz0.append (xt:=xt) fg.lo (hbb.fr fg (xZU _)) ib (by omega);refine qA fun K hn hp=> ?_;simp only [sy.1,rE,reduceIte,rL,g25,g27,i1,hbg];apply hn;refine reg fun K hn hp=> ?_;simp only [sy.1,rE,reduceIte,rL,g6,q1];apply hn;refine E1 _ ?_;refine reg fun K hn hp=> ?_;simp only [sy.1,rE,reduceIte,rL,g27,qQ hk (show 2<=9223372036854775807 by omega)];apply hn;refine ⟨⟨k+1,z',h',_,rfl,by omega,(by simp [xZZ,g0]),(by simp [xZZ]),(by simp [xZZ,g25]),(by simp [xZZ,g26]),(by simp [xZZ]),fg.trans q3 (xZU _),by simpa [ek] using q2⟩,by simpa [xZZ,muD] using (by omega:2 - (k+1)<2 - k)⟩
    ·refine qC false (by simp only [sy.1,reduceIte,hk]) (fun hx=>by cases hx) (fun _=> ?_);refine qT (D2 _ ?_);obtain rfl:k=2:=by omega
     have gz0:GrowAt hg h.n z (la++lb):=by simpa using gz
     refine qA fun K hn hp=> ?_;simp only [sy.1,rE,reduceIte,rL,g6];apply hn;refine qD (qN res191 ⟨fg,z,by simp [xZZ],gz0⟩)
   ·exact ⟨0,z0,h1,_,rfl,(by omega),(by simp [xZZ,g0]),(by simp [xZZ]),(by simp [xZZ]),(by simp [xZZ]),(by simp [xZZ]),f1,by simpa using gg0⟩
 ·exact ⟨0,0,_,rfl,(by omega),(by simp [xZZ]),(by simp [xZZ]),(by simp [xZZ]),(by simp [xZZ]),(by simp [xZZ]),by simp⟩
end Go.Proofs.Kn
noncomputable section
namespace Go.Ev
section
variable {E:Env} {nt:Nat} {ops:Array Oper} {PL:List (Nat×List Nat)} {o:Oper} {ol:List Oper} {i ne n:Nat} {tm:T AV} {b:T AO} {inc p:List Nat} {fs:Fs} {R:List RdE} {V:VeG} {Q:T AV->Nat->T AO->List Nat->Fs->List RdE->VeG->Prop}
def stepG (fr ef rd cl:Bool) (E:Env) (nt:Nat) (ops:Array Oper) (PL:List (Nat×List Nat)) (o:Oper) (ol:List Oper) (i ne:Nat) (tm:T AV) (n:Nat) (b:T AO) (inc:List Nat) (fs:Fs) (R:List RdE) (V:VeG) (Q:T AV->Nat->T AO->List Nat->Fs->List RdE->VeG->Prop):Prop:=
 bif fr then WOp E o tm {t:= .e,n:=n} (frK nt tm o.dst n (fun tm' o'=>WOG E nt ops PL ol (i+1) ne tm' (n+1) b inc ((i,n,o')::fs) R V Q))
 else bif ef then WOp E o tm {t:=vD (jR i PL) inc fs b,n:=n} (efK cl nt tm o.dst n (fun tm' h'=>WOG E nt ops PL ol (i+1) (ne+1) tm' h'.n h'.t (jR i PL) fs R ((ne+1,jR i PL,h'.t)::V) Q))
 else WOp E o tm {t:=vD (jR i PL) inc fs b,n:=n} (rdK nt tm o.dst {t:=vD (jR i PL) inc fs b,n:=n} (fun tm' v=>WOG E nt ops PL ol (i+1) ne tm' n b inc fs (bif rd then ⟨i,o,tm,n,v⟩::R else R) V Q))
def gateG (gd wt:Bool) (E:Env) (nt:Nat) (ops:Array Oper) (PL:List (Nat×List Nat)) (o:Oper) (ol:List Oper) (i ne:Nat) (tm:T AV) (n:Nat) (b:T AO) (inc:List Nat) (fs:Fs) (R:List RdE) (V:VeG) (Q:T AV->Nat->T AO->List Nat->Fs->List RdE->VeG->Prop):Prop:=
 gd=true/\bif wt then stepG (vX o.op) (zV o.op) (zU o.op) (jG o.op) E nt ops PL o ol i ne tm n b inc fs R V Q else putK nt tm o.dst default (fun tm'=>WOG E nt ops PL ol (i+1) ne tm' n b inc fs R V Q)
theorem WOG_nil:WOG E nt ops PL [] i ne tm n b inc fs R V Q=Q tm n b inc fs R V:=rfl
theorem WOG_cons:WOG E nt ops PL (o::ol) i ne tm n b inc fs R V Q=gateG (jN nt ops o) (qP ops o tm) E nt ops PL o ol i ne tm n b inc fs R V Q:=rfl
theorem gateG_t:gateG true true E nt ops PL o ol i ne tm n b inc fs R V Q=stepG (vX o.op) (zV o.op) (zU o.op) (jG o.op) E nt ops PL o ol i ne tm n b inc fs R V Q:=by simp [gateG]
theorem gateG_fs {d:Tmp} {op:Op} {ty:TypeId} {ps:String} {af:Array Edge} {g:Option (Nat×Bool)}:gateG true false E nt ops PL ⟨some d,op,ty,ps,af,g⟩ ol i ne tm n b inc fs R V Q=(d<nt/\WOG E nt ops PL ol (i+1) ne (tm.put (some default) d) n b inc fs R V Q):=by simp [gateG,putK]
theorem stepG_f {ef rd cl:Bool}:stepG true ef rd cl E nt ops PL o ol i ne tm n b inc fs R V Q=WOp E o tm {t:= .e,n:=n} (frK nt tm o.dst n (fun tm' o'=>WOG E nt ops PL ol (i+1) ne tm' (n+1) b inc ((i,n,o')::fs) R V Q)):=rfl
theorem stepG_e {rd cl:Bool}:stepG false true rd cl E nt ops PL o ol i ne tm n b inc fs R V Q=WOp E o tm {t:=vD (jR i PL) inc fs b,n:=n} (efK cl nt tm o.dst n (fun tm' h'=>WOG E nt ops PL ol (i+1) (ne+1) tm' h'.n h'.t (jR i PL) fs R ((ne+1,jR i PL,h'.t)::V) Q)):=rfl
theorem stepG_r {cl:Bool}:stepG false false true cl E nt ops PL o ol i ne tm n b inc fs R V Q=WOp E o tm {t:=vD (jR i PL) inc fs b,n:=n} (rdK nt tm o.dst {t:=vD (jR i PL) inc fs b,n:=n} (fun tm' v=>WOG E nt ops PL ol (i+1) ne tm' n b inc fs (⟨i,o,tm,n,v⟩::R) V Q)):=rfl
theorem stepG_c {cl:Bool}:stepG false false false cl E nt ops PL o ol i ne tm n b inc fs R V Q=WOp E o tm {t:=vD (jR i PL) inc fs b,n:=n} (rdK nt tm o.dst {t:=vD (jR i PL) inc fs b,n:=n} (fun tm' _=>WOG E nt ops PL ol (i+1) ne tm' n b inc fs R V Q)):=rfl
theorem frK_new {d:Tmp} {N:T AV->AO->Prop} {v:AV} {o':AO}:frK nt tm (some d) n N (.ok v (Hp.new {t:= .e,n:=n} o'))=(d<nt/\N (tm.put (some v) d) o'):=by
 apply propext
 constructor
 ·rintro ⟨o2,h1,h2⟩;have:o'=o2:=by
   have:=congrArg (fun h:Hp=>h.t.get n) h1;simpa [Hp.new,xZZ] using this
  subst this;exact h2
 ·intro h;exact ⟨_,rfl,h⟩
theorem xV {d:Tmp} {N:T AV->Hp->Prop} {v:AV} {h':Hp} (hn:n<h'.n):efK true nt tm (some d) n N (.ok v h')=(d<nt/\N (tm.put (some v) d) h'):=by
 simp [efK,hn,Nat.le_of_lt hn,putK]
theorem rdK_ok {d:Tmp} {N:T AV->AV->Prop} {v:AV} {h:Hp}:rdK nt tm (some d) h N (.ok v h)=(d<nt/\N (tm.put (some v) d) v):=by simp [rdK,putK]
theorem addF_nil:vD p inc [] b=b:=rfl
theorem addF_cons {f s:Nat} {o':AO}:vD p inc ((f,s,o')::fs) b=if inL f p=true then (if inL f inc=true then vD p inc fs b else vD p inc fs (b.put (some o') s)) else vD p inc fs b:=by
 simp only [vD];cases inL f p<;>cases inL f inc<;>rfl
theorem inL_nil {f:Nat}:inL f []=false:=rfl
theorem inL_cons {f a:Nat} {l:List Nat}:inL f (a::l)=if a=f then true else inL f l:=by
 simp only [inL];by_cases h:a=f
 ·rw [if_pos h,h,xZM];rfl
 ·rw [if_neg h];cases hb:Nat.beq a f with
  |false=>rfl
  |true=>exact absurd (xZV hb) h
theorem lookP_nil:jR i []=[]:=rfl
theorem qEA {a:Nat} {l:List Nat} {r:List (Nat×List Nat)}:jR i ((a,l)::r)=if a=i then l else jR i r:=by
 simp only [jR];by_cases h:a=i
 ·rw [if_pos h,h,xZM];rfl
 ·rw [if_neg h];cases hb:Nat.beq a i with
  |false=>rfl
  |true=>exact absurd (xZV hb) h
def gJ (E:Env) (P:List (Nat×Nat)) (PL:List (Nat×List Nat)) (fs:Fs) (r:RdE) (V:VeG):Prop:= ∀e∈V,inP P r.i e.1=true->aop E.P E.tb E.xt (qF r.tm) r.o.op {t:=vD (jR r.i PL) e.2.1 fs e.2.2,n:=r.n}=some (r.v,{t:=vD (jR r.i PL) e.2.1 fs e.2.2,n:=r.n})
theorem SameG_nil {P:List (Nat×Nat)}:qAO E P PL fs [] V=True:=by simp [qAO]
theorem qEZ {P:List (Nat×Nat)} {r:RdE}:qAO E P PL fs (r::R) V=(gJ E P PL fs r V/\qAO E P PL fs R V):=by simp only [qAO,gJ,inP,xZL]
theorem qE1 {P:List (Nat×Nat)} {r:RdE}:gJ E P PL fs r []=True:=by simp [gJ]
theorem qEu {P:List (Nat×Nat)} {j n':Nat} {t:T AO} {v:AV} {inc':List Nat} {tm':T AV} {o':Oper}:gJ E P PL fs ⟨i,o',tm',n',v⟩ ((j,inc',t)::V)=(pQ (inP P i j) E ⟨i,o',tm',n',v⟩ (vD (jR i PL) inc' fs t)/\gJ E P PL fs ⟨i,o',tm',n',v⟩ V):=by
 simp only [gJ,pQ,xZL]
theorem qEF {t:TypeId}:vX (.alloc t)=true:=rfl
theorem isFr_bs {t:TypeId} {k:Nat} {p:Array (Nat×Operand)}:vX (.buildSlice t k p)=true:=rfl
theorem isFr_load {t:TypeId} {x:Operand}:vX (.load t x)=false:=rfl
theorem isFr_move {x:Operand}:vX (.move x)=false:=rfl
theorem qDO {x:Operand}:vX (.assign x)=false:=rfl
theorem isFr_pick {x y z:Operand}:vX (.pick x y z)=false:=rfl
theorem isFr_bin {b:BinOp} {t t':TypeId} {x y:Operand}:vX (.binOp b t x y t')=false:=rfl
theorem isFr_un {b:UnOp} {t:TypeId} {x:Operand}:vX (.unOp b t x)=false:=rfl
theorem isFr_fa {t:TypeId} {x:Operand} {f:Nat}:vX (.fieldAddr t x f)=false:=rfl
theorem isFr_ia {t:TypeId} {x y:Operand}:vX (.indexAddr t x y)=false:=rfl
theorem qEE {t:TypeId} {p:Array (Nat×Operand)}:vX (.build t p)=false:=rfl
theorem isFr_ex {x:Operand} {i:Nat}:vX (.extract x i)=false:=rfl
theorem isFr_call {q:Call}:vX (.call q)=false:=rfl
theorem qED {t:TypeId} {x y:Operand}:vX (.store t x y)=false:=rfl
theorem isFr_mf {f:Fn} {a b:Array Operand}:vX (.makeFunc f a b)=false:=rfl
theorem isCall_fr {t:TypeId}:jG (.alloc t)=false:=rfl
theorem isCall_cv {f:Operand} {a:Array Operand} {ts:Array TypeId}:jG (.call ⟨.value f,a,ts⟩)=true:=rfl
noncomputable def syg:=PLift.up (xZY @WOG_nil (xZY @WOG_cons (xZY @gateG_t (xZY @gateG_fs (xZY @stepG_f (xZY @stepG_e (xZY @stepG_r (xZY @stepG_c (xZY @frK_new (xZY @rdK_ok (xZY @addF_nil (xZY @addF_cons (xZY @inL_nil (xZY @inL_cons (xZY @lookP_nil (xZY @qEA (xZY @SameG_nil (xZY @qEZ (xZY @qE1 (xZY @qEu (xZY @qEF (xZY @isFr_bs (xZY @isFr_load (xZY @isFr_move (xZY @qDO (xZY @isFr_pick (xZY @isFr_bin (xZY @isFr_un (xZY @isFr_fa (xZY @isFr_ia (xZY @qEE (xZY @isFr_ex (xZY @isFr_call (xZY @qED (xZY @isFr_mf (xZY @isCall_fr @isCall_cv))))))))))))))))))))))))))))))))))))
end
end Go.Ev
end
namespace Go.Proofs.Kn
open Go Go.Ev
set_option maxRecDepth 100000
set_option maxHeartbeats 4000000
theorem bs127 (h:Hp) (za zb:AV) (ha:cellsOf za=[za]) (hb:cellsOf zb=[zb]):jC tb h 127 2 [(0,za),(1,zb)]=some (.sl h.n 0 2 1,h.new (.cells [za,zb] 33)):=by
 have:jC tb h 127 2 [(0,za),(1,zb)]=(kN (fun i=>some (i*1,1)) [(0,za),(1,zb)] [.val (.slice none 0 0),.val (.slice none 0 0)]).map fun cs=>(.sl h.n 0 2 1,h.new (.cells cs 33)):=by kernel_rfl
 rw [this];simp [kN,ha,hb];exact ⟨_,rfl,rfl⟩
structure NewC (xt:Addr->Option Value) (N:Nat) (h:Hp) (z:AV) (l:List (Int×Int×Int)):Prop where
 cuts:Cuts xt h z l
 inn:Inn z
 lo: ∀b off n s,z= .sl b off n s->N<=b
theorem NewC.fr {xt:Addr->Option Value} {N:Nat} {h h':Hp} {z:AV} {l:List (Int×Int×Int)} (a:NewC xt N h z l) {M:Nat} (f:Fr M h h') (hM:h.n<=M):NewC xt N h' z l:=⟨a.cuts.fr f hM,a.inn,a.lo⟩
theorem NewC.lower {xt:Addr->Option Value} {N M:Nat} {h:Hp} {z:AV} {l:List (Int×Int×Int)} (a:NewC xt N h z l) (hM:M<=N):NewC xt M h z l:=⟨a.cuts,a.inn,fun b off n s e=>Nat.le_trans hM (a.lo b off n s e)⟩
theorem NewC.set {xt:Addr->Option Value} {N:Nat} {h:Hp} {z:AV} {l:List (Int×Int×Int)} (a:NewC xt N h z l) {b:Nat} (hb:b<N) (o:AO):NewC xt N (h.set b o) z l:=⟨⟨a.cuts.row.set (fun off n s e=>by have:=a.lo b off n s e;omega) o,a.cuts.lt,a.cuts.cap⟩,a.inn,a.lo⟩
theorem GrowAt.newC {xt:Addr->Option Value} {h:Hp} {N:Nat} {v:AV} {ls:List (Int×Int×Int)} (g:GrowAt h N v ls) (hl:ls.length<=1000000):NewC xt N h v ls:=by
 obtain ⟨h1,h2⟩:=g.cuts (xt:=xt) hl;refine ⟨h1,h2,fun b off n s e=> ?_⟩;rcases g with ⟨rfl,_⟩|⟨b',cs,rfl,q1,_⟩
 ·cases e
 ·cases e;exact q1
theorem ft146 (xt:Addr->Option Value):(SE xt).ft.get 146=some Tryz.f146:=by kernel_rfl
theorem res146:Tryz.f146.results.toList=[.cell 4 125]:=by kernel_rfl
theorem then_c (xt:Addr->Option Value) (h:Hp) (za zb:AV) (a b:Cg) (ha:Cuts xt h za a.1) (hb:Cuts xt h zb b.1) (ia:Inn za) (ib:Inn zb) (hl:a.1.length+b.1.length<=100000) (wa1:0<=a.2) (wa2:a.2<=1000000000) (wb1:0<=b.2) (wb2:b.2<=1000000000):
  FnA (SE xt) 146 [.agg [za,iv a.2],.agg [zb,iv b.2]] h (fun res h'=>Fr h.n h h'/\ ∃z,res= .ret (.agg [z,iv (a.2+b.2)])/\NewC xt h.n h' z (a.1++b.1)):=by
 refine FnA.walk (sok xt) (ft146 xt) rfl 17 rfl ?_;have o1:=ha.one;have o2:=hb.one;have c1:=ha.cells;have c2:=hb.cells;refine qA fun K hn hp=> ?_;simp only [sw.1,rE,reduceIte,rL,syp.1];apply hn;obtain ⟨h1,hh1,n1,s1,k1,f1⟩:=yH h (.cells [za,iv a.2] 125);obtain ⟨h2,hh2,n2,s2,k2,f2⟩:=wE f1 n1 (.cells [zb,iv b.2] 125);obtain ⟨h3,hh3,n3,s3,k3,f3⟩:=wE f2 n2 (.cells [.val (.slice none 0 0),iv 0] 125);simp only [<-hh1,<-hh2,<-hh3];clear hh1 hh2 hh3;have u1:=(k3 h.n (by omega)).trans ((k2 h.n (by omega)).trans s1);have u2:=(k3 (h.n+1) (by omega)).trans s2;simp only [rA] at n3 s3;have w1:IntKind.i64.wrap (a.2+b.2)=a.2+b.2:=qM _ (by omega) (by omega);refine seq_regG (sok xt) 11 [4] [(5,[4])] [(7,0),(9,0)] (by kernel_rfl) fun K hn hp=> ?_;simp only [sy.1,rE,reduceIte,rL,rA,syw.1,syp.1,c1,c2,u1,u2,syg.1,Bool.false_eq_true,jI,bs127,n3];obtain ⟨h4,hh4,n4,s4,k4,f4⟩:=yH h3 (.cells [za,zb] 33);have e4:({t:=h3.t.put (some (.cells [za,zb] 33)) (h.n+3),n:=h.n+4}:Hp)=h4:=by rw [hh4];simp only [Hp.new,n3]
 rw [e4];rw [n3] at n4 s4 k4 f4;have f4h:Fr h.n h h4:=f3.trans f4 (by omega);have x1:=(k4 h.n (by omega)).trans u1;have x2:=(k4 (h.n+1) (by omega)).trans u2;refine qB (sok xt) (FnA.inc (FnA.mono (concat_c xt h4 (h.n+3) za zb a.1 b.1 s4 (by omega) (ha.fr f4h (xZU _)) (hb.fr f4h (xZU _)) ia ib hl) fun res j5 hres=> ?_));obtain ⟨fj,z,rfl,gj⟩:=hres;obtain ⟨h5,hh5⟩: ∃h5,h5=j5.up (j5.n+1):=⟨_,rfl⟩;rw [<-hh5];have f5:Fr h4.n h4 h5:=by rw [hh5];exact fj.up (Nat.le_succ _)
 have lt5:h.n+4<h5.n:=by have:=fj.le;rw [hh5,Hp.up_n];omega
 have hz:NewC xt h4.n h5 z (a.1++b.1):=by
  have:=gj.newC (xt:=xt) (by rw [List.length_append];omega);rw [hh5];exact this.fr ((Fr.refl (xZU _)).up (Nat.le_succ _)) (xZU _)
 clear hh5;have cz:=hz.cuts.cells;have oz:=hz.cuts.one;have y1:=(f5.at_ h.n (.inl (by omega))).trans x1;have y2:=(f5.at_ (h.n+1) (.inl (by omega))).trans x2;have y3:=(f5.at_ (h.n+2) (.inl (by omega))).trans ((k4 (h.n+2) (by omega)).trans s3);simp only [sw.1,rE,reduceIte,rL,rA,syp.1,u1,u2,xV lt5,y1,y2,y3,w1,syg.1,bd125,cz,oz];refine hn _ _ (qD (pU (v:= .agg [z,iv (a.2+b.2)]) res146 ?_ ⟨(f4h.trans f5 (by omega)).set (by omega) (by omega) _,z,rfl,(hz.set (by omega) _).lower (by omega)⟩));simp only [sy.1,rE,reduceIte,rA,syp.1]
end Go.Proofs.Kn
namespace Go.Proofs.Kn
open Go Go.Ev
set_option maxRecDepth 100000
abbrev Mem:=List (Int×AV×Cg)
def mks (l:Mem):List (AV×AV):=l.map fun p=>(iv p.1,.agg [p.2.1,iv p.2.2.2])
def uV (x:Int):Mem->Nat->Option Nat
 |[],_=>none
 |y::l,i=>if x=y.1 then some i else uV x l (i+1)
theorem gA {x:Int}: ∀{l:Mem} {i j:Nat},uV x l i=some j-> ∃k e,j=i+k/\l[k]? =some (x,e)
 |[],i,j,h=>by simp [uV] at h
 |y::l,i,j,h=>by
  simp only [uV] at h;split at h
  ·rename_i hq;cases h;exact ⟨0,y.2,rfl,by simp [hq]⟩
  ·obtain ⟨k,e,h1,h2⟩:=gA h;exact ⟨k+1,e,by omega,by simpa using h2⟩
abbrev kI (l:Mem):List Value:=l.map fun p=> .int .i64 p.1
theorem gZ: ∀(l:Mem),wG (mks l)=some (kI l)
 |[]=>rfl
 |p::l=>by
  show (match toVal (iv p.1) with|none=>none|some v=>match wG (mks l) with|none=>none|some l=>some (v::l))=_;rw [gZ l];rfl
theorem undI3:qO Tryz.prog (underlying 3)=some (.int .i64):=by kernel_rfl
theorem now3 (x:Int): ∀(l:Mem) (i:Nat),Instr.findNow (.int .i64) (.int .i64 x) (vP (kI l)) i=some ((uV x l i).map fun j=>(j,.bool false))
 |[],i=>rfl
 |y::l,i=>by
  show (match Instr.sameNow (.int .i64) (.int .i64 x) (.int .i64 y.1) with|some true=>some (some (i,Value.bool false))|some false=>Instr.findNow (.int .i64) (.int .i64 x) (vP (kI l)) (i+1)|none=>none)=_;have e:Instr.sameNow (.int .i64) (.int .i64 x) (.int .i64 y.1)=some (x==y.1):=rfl;rw [e,now3 x l (i+1)];by_cases h:x=y.1
  ·simp [h,uV]
  ·have:(x==y.1)=false:=by simpa using h
   rw [this];simp [h,uV]
theorem afind3 (x:Int) (l:Mem):qAM Tryz.prog 3 (.int .i64 x) (kI l)=some (uV x l 0):=by
 have key:qO Tryz.prog (Instr.findKey 3 (.int .i64 x) (vP (kI l)))=some ((uV x l 0).map fun j=>(j,.bool false)):=by
  unfold Instr.findKey;rw [zS,undI3,xZK];rw [now3];simp [j6]
 unfold qAM;rw [key];cases uV x l 0<;>rfl
theorem check3 (e:Bool) (x:Int):qO Tryz.prog (Instr.checkKey e 10000 3 (.int .i64 x))=some ():=by
 rw [Instr.checkKey];simp only [zS,undI3,xZK,j6]
theorem zv125:te125.zv= .agg #[.slice none 0 0,.int .i64 0]:=rfl
abbrev z125:AV:= .val (.agg #[.slice none 0 0,.int .i64 0])
theorem mem_look (h:Hp) (mb:Nat) (l:Mem) (hm:h.t.get mb=some (.map (mks l))) (x:Int):
  (yK Tryz.prog tb h 240 (.mp mb) (iv x) true=some (.tup [z125,.val (.bool false)]))\/(∃e,(x,e)∈l/\yK Tryz.prog tb h 240 (.mp mb) (iv x) true=some (.tup [.agg [e.1,iv e.2.2],.val (.bool true)])):=by
 have e1:te240.d= .map 3 125:=rfl;have e3:toVal (iv x)=some (.int .i64 x):=rfl;have base: ∀r,qAM Tryz.prog 3 (.int .i64 x) (kI l)=some r->yK Tryz.prog tb h 240 (.mp mb) (iv x) true=(match r with|none=>some (.tup [z125,.val (.bool false)])|some i=>match (mks l)[i]? with|none=>none|some (_,v)=>some (.tup [v,.val (.bool true)])):=fun r hr=>by
  unfold yK;simp only [qCn,e1,qAA,e3,qB2,hm,gZ,check3,hr,zv125];cases r with
  |none=>rfl
  |some i=>
   simp only [cond_true];generalize (mks l)[i]? =o
   cases o<;>rfl
 have hb:=base _ (afind3 x l);cases hk:uV x l 0 with
 |none=>rw [hk] at hb;exact .inl hb
 |some i=>
  rw [hk] at hb;obtain ⟨k,e,rfl,h2⟩:=gA hk;rw [xZP] at hb;have:(mks l)[k]? =some (iv x,.agg [e.1,iv e.2.2]):=by simp [mks,h2]
  simp only [this] at hb;exact .inr ⟨e,List.mem_of_getElem? h2,hb⟩
theorem mem_put (h:Hp) (mb:Nat) (l:Mem) (hm:h.t.get mb=some (.map (mks l))) (x:Int) (z:AV) (c:Cg):
  ∃l',j0 Tryz.prog tb h 240 (.mp mb) (iv x) (.agg [z,iv c.2])=some (h.set mb (.map (mks l')))/\ ∀p∈l',p∈l\/p=(x,z,c):=by
 have e1:te240.d= .map 3 125:=rfl;have e3:toVal (iv x)=some (.int .i64 x):=rfl;have hf:=afind3 x l;cases hk:uV x l 0 with
 |none=>
  rw [hk] at hf;refine ⟨l++[(x,z,c)],?_,fun p hp=> ?_⟩
  ·unfold j0;simp only [qCn,e1,e3,hm,gZ,check3,hf];simp [mks]
  ·rcases List.mem_append.1 hp with hp|hp
   ·exact .inl hp
   ·rw [List.mem_singleton] at hp;exact .inr hp
 |some i=>
  rw [hk] at hf;obtain ⟨k,e,rfl,h2⟩:=gA hk;rw [xZP] at hf;have hkv:(kI l)[k]? =some (.int .i64 x):=by rw [List.getElem?_map,h2];rfl
  have hsb:Instr.sameBits 10000 (.int .i64 x) (.int .i64 x)=true:=by simp [Instr.sameBits]
  refine ⟨l.set k (x,z,c),?_,fun p hp=> ?_⟩
  ·unfold j0;simp only [qCn,e1,e3,hm,gZ,check3,hf,hkv,hsb];simp [mks,List.map_set]
  ·rcases List.mem_or_eq_of_mem_set hp with hp|rfl
   ·exact .inl hp
   ·exact .inr rfl
end Go.Proofs.Kn
