/- MvK6, SyDraw6, MvK7, MvK8, SyDraw7: texts in a row, joined by a program. -/
import Derived.Test.YtnmfblokfponlaaGreatDoorQU
import Derived.Test.YtnmfblokfponlaaGreatDoorQC
set_option linter.all false
open Nat renaming reduceEqDiff → rE, reduceLeDiff → rD, reduceAdd → rA, reduceMul → rM, reduceLT → rL
open List renaming mem_cons_of_mem → xZZ, all_eq_true → xZY, mem_cons_self → xZX, take_append_drop → xZU, range' → xZS, mem_cons → xZR, drop_drop → xZO, append_assoc → xZM
open Nat renaming eq_zero_or_pos → xZW, eq_of_beq_eq_true → xZT, le_refl → xZP, le_of_ble_eq_true → xZN
open Array renaming getElem?_toList → xZV
open Bool renaming and_eq_true → xZQ
namespace Go.Proofs.Kn
open Go Go.Ev
set_option maxRecDepth 100000
set_option maxHeartbeats 4000000
def Mp.crk (m:Mp) (r c:Int) (b:Bool):Bool:=m.ks.any fun k=>decide (k.1=r) && (decide (k.2.1=c) && decide (k.2.2=b))
end Go.Proofs.Kn
noncomputable section
namespace Go.Ev
def uT (AL:List Nat) (N:Nat):List Oper->List Nat->Nat->Nat->Nat->Nat->List SRd->List SVe->Option (List (List SRd×List SVe))
 |[],_,_,ne,mj,_,SR,SV=>some [(SR,(ne,mj,N)::SV)]
 |_::_,[],_,_,_,_,_,_=>none
 |o::ol,m::ms,i,ne,mj,dl,SR,SV=>
  bif calm o.op then
   (match jD o.op with
   | .read=>bif AL.all (bt m) then uT AL N ol ms (i+1) ne mj dl ((i,m,ne)::SR) SV else none
   |_=>uT AL N ol ms (i+1) ne mj dl SR SV)
  else bif zV o.op && (Nat.beq ne 0 || bt m dl) && AL.all (bt m) then
   (match o.guard with
   |none=>uT AL N ol ms (i+1) (ne+1) m i SR ((ne,mj,i)::SV)
   |some _=>match uT AL N ol ms (i+1) ne mj dl SR SV with
    |none=>none
    |some a=>match uT AL N ol ms (i+1) (ne+1) m i SR ((ne,mj,i)::SV) with
     |none=>none
     |some b=>some (a++b))
   else none
section
variable {E:Env} {nt:Nat} {ops:Array Oper}
theorem xM {AL:List Nat} {h0 HA:T AO} {FS:List FE} {N:Nat} (hall: ∀q:Nat->Bool,(∀f∈AL,q f=true)->ovl q FS h0=HA) (hno: ∀(q:Nat->Bool) (b:T AO),(∀f∈AL,q f=false)->ovl q FS b=b) {Q:T AV->Hp->List RdE->List (Nat×T AO)->Prop}:
  ∀(ol:List Oper) (ms:List Nat) (i ne mj dl:Nat) (tm:T AV) (h:Hp) (R:List RdE) (V:List (Nat×T AO)) (SR:List SRd) (SV:List SVe) (st:DS) (L:List (List SRd×List SVe)),WOW E nt ops ol i ne tm h R V Q->uT AL N ol ms i ne mj dl SR SV=some L->WInv E AL h0 HA FS i ne mj dl tm h R V SR SV st->
  ∃p∈L,∃call st' ne' mj' dl' tm' h' R' V' SV',jQ E.P E.xt call/\((∀fv args k r,call fv args k=some r->h.n<=k.n/\k.n<h'.n)/\h.n<=h'.n)/\kR E.P E.tb E.xt call ops ol ms st=some st'/\WInv E AL h0 HA FS (i+ol.length) ne' mj' dl' tm' h' R' V' p.1 SV' st'/\p.2=(ne',mj',N)::SV'/\Q tm' h' R' V'
 |[],ms,i,ne,mj,dl,tm,h,R,V,SR,SV,st,L,hw,hc,I=>by
  simp only [uT,Option.some.injEq] at hc;subst hc;exact ⟨(SR,(ne,mj,N)::SV),xZX,pS,st,ne,mj,dl,tm,h,R,V,SV,kE _ _,⟨fun _ _ _ _ hx=>(by cases hx),xZP _⟩,rfl,I,rfl,hw⟩
 |o::ol,[],i,ne,mj,dl,tm,h,R,V,SR,SV,st,L,hw,hc,I=>by simp [uT] at hc
 |o::ol,m::ms,i,ne,mj,dl,tm,h,R,V,SR,SV,st,L,hw,hc,I=>by
  simp only [WOW] at hw;obtain ⟨_,hw⟩:=hw;have hput: ∀{v:AV} {N:T AV->Prop},putK nt tm o.dst v N->N (uE tm o.dst v):=fun {v N} hp=>by
   unfold putK at hp;unfold uE;split at hp
   ·rename_i hd;rw [hd];exact hp
   ·rename_i d hd;rw [hd];exact hp.2
  have hlen:i+(o::ol).length=(i+1)+ol.length:=by simp;omega
  rw [hlen];simp only [uT] at hc;cases haw:qP ops o tm with
  |false=>
   rw [haw] at hw;simp only [cond_false] at hw;have hw:=hput hw;have hd: ∀call,jJ E.P E.tb E.xt call ops o m st=some (upd o m st default {t:= .e,n:=st.n} .new):=fun call=>by
    unfold jJ zW;rw [I.ftm,haw];rfl
   obtain ⟨SR2,L2,hc2,hsub,hLs⟩: ∃SR2 L2,uT AL N ol ms (i+1) ne mj dl SR2 SV=some L2/\(∀x∈SR,x∈SR2)/\ ∀x∈L2,x∈L:=by
    cases hcal:calm o.op with
    |true=>
     rw [hcal] at hc;simp only [cond_true] at hc;split at hc
     ·obtain ⟨_,hc⟩:=qU hc;exact ⟨_,_,hc,fun x hx=>xZZ _ hx,fun x hx=>hx⟩
     ·exact ⟨_,_,hc,fun x hx=>hx,fun x hx=>hx⟩
    |false=>
     rw [hcal] at hc;simp only [cond_false] at hc;obtain ⟨_,hc⟩:=qU hc;split at hc
     ·rename_i hg;unfold qP at haw;rw [hg] at haw;cases haw
     ·split at hc
      ·cases hc
      ·rename_i a ha;split at hc
       ·cases hc
       ·rename_i b hb;simp only [Option.some.injEq] at hc;subst hc;exact ⟨_,_,ha,fun x hx=>hx,fun x hx=>List.mem_append_left _ hx⟩
   obtain ⟨p,hpL,call,st',ne',mj',dl',tm',h',R',V',SV',c1,c2,r1,r2⟩:=xM hall hno ol ms (i+1) ne mj dl _ h R V SR2 SV (upd o m st default {t:= .e,n:=st.n} .new) _ hw hc2
    ⟨by simp [upd,I.fi],by simp [upd,I.ftm],by simp [upd,I.fn],by simp [upd,I.fne],by simp [upd,I.fmj],by simpa [upd] using I.fdl,by simp [upd,I.ffs],fun hz=>by simpa [upd] using I.fz hz,fun hz=>by simpa [upd] using I.fs hz,fun r hr=>by have:=I.frs r (by simpa [upd] using hr);exact ⟨hsub _ this.1,this.2⟩,fun e he=>I.fbs e (by simpa [upd] using he),I.fv⟩
   exact ⟨p,hLs p hpL,call,st',ne',mj',dl',tm',h',R',V',SV',c1,c2,by rw [jA,hd];exact r1,r2⟩
  |true=>
   rw [haw] at hw;simp only [cond_true] at hw;cases hcal:calm o.op with
   |true=>
    rw [hcal] at hc;simp only [cond_true] at hc;obtain ⟨call0,res,_,hop,hk⟩:=hw.ev;rw [jV rfl hcal] at hop;cases ha:aop E.P E.tb E.xt (qF tm) o.op h with
    |none=>rw [ha] at hop;cases hop
    |some p=>
     obtain ⟨v,h1⟩:=p;rw [ha] at hop;simp only [pL,Option.some.injEq] at hop;subst hop;simp only [qAw,gF hcal,cond_false] at hk;obtain ⟨rfl,hk⟩:=hk;have hk:=hput hk;rcases pF hcal with hkd|hkd
     ·obtain ⟨_,e2⟩:=bS hcal hkd ha;rw [hkd] at hc;simp only at hc;have hrd:zU o.op=false:=by unfold zU;rw [hkd]
      rw [hrd] at hk;simp only [cond_false] at hk;have hd: ∀call,jJ E.P E.tb E.xt call ops o m st=some (upd o m st v {t:= .e,n:=st.n} .new):=fun call=>by
       unfold jJ zW;rw [I.ftm,haw,hkd];simp only [cond_true];rw [jV rfl hcal,e2];rfl
      obtain ⟨p,hpL,call,st',ne',mj',dl',tm',h',R',V',SV',c1,c2,r1,r2⟩:=xM hall hno ol ms (i+1) ne mj dl _ h1 R V SR SV (upd o m st v {t:= .e,n:=st.n} .new) _ hk hc
       ⟨by simp [upd,I.fi],by simp [upd,I.ftm],by simp [upd,I.fn],by simp [upd,I.fne],by simp [upd,I.fmj],by simpa [upd] using I.fdl,by simp [upd,I.ffs],fun hz=>by simpa [upd] using I.fz hz,fun hz=>by simpa [upd] using I.fs hz,fun r hr=>I.frs r (by simpa [upd] using hr),fun e he=>I.fbs e (by simpa [upd] using he),I.fv⟩
      exact ⟨p,hpL,call,st',ne',mj',dl',tm',h',R',V',SV',c1,c2,by rw [jA,hd];exact r1,r2⟩
     ·rw [hkd] at hc;simp only at hc;obtain ⟨hal,hc⟩:=qU hc;have hal:=xZY.1 hal;have hrd:zU o.op=true:=by unfold zU;rw [hkd]
      rw [hrd] at hk;simp only [cond_true] at hk;have hov:({t:=ovl (fun f=>bt m f && !bt st.mj f) st.fs st.b,n:=st.n}:Hp)=h1:=by
       have:ovl (fun f=>bt m f && !bt st.mj f) st.fs st.b=h1.t:=by
        rw [I.ffs];rcases xZW ne with hz|hz
        ·obtain ⟨z1,z2,z3⟩:=I.fz hz;rw [z2,z3];exact hall _ fun f hf=>by rw [I.fmj,z1,hal f hf,yJ];rfl
        ·obtain ⟨z1,z2,_⟩:=I.fs hz;rw [z2];exact hno _ _ fun f hf=>by rw [I.fmj,z1 f hf];simp
       rw [this,I.fn]
      have hd: ∀call,jJ E.P E.tb E.xt call ops o m st=some (upd o m st v h1 .read):=fun call=>by
       unfold jJ zW;rw [I.ftm,haw,hkd];simp only [cond_true];rw [hov,jV rfl hcal,ha];rfl
      obtain ⟨p,hpL,call,st',ne',mj',dl',tm',h',R',V',SV',c1,c2,r1,r2⟩:=xM hall hno ol ms (i+1) ne mj dl _ h1 _ V ((i,m,ne)::SR) SV (upd o m st v h1 .read) _ hk hc
       ⟨by simp [upd,I.fi],by simp [upd,I.ftm],by simp [upd,I.fn],by simp [upd,I.fne],by simp [upd,I.fmj],by simpa [upd] using I.fdl,by simp [upd,I.ffs],fun hz=>by simpa [upd] using I.fz hz,fun hz=>by simpa [upd] using I.fs hz,fun r hr=>by
        simp only [upd,xZR] at hr;rcases hr with rfl|hr
        ·exact ⟨by simp [I.fi,I.fne],⟨_,xZX,by simp [I.fi,I.ftm,I.fn,hcal]⟩,.inl hal⟩
        ·obtain ⟨q1,⟨e,q2,q3⟩,q4⟩:=I.frs r hr;exact ⟨xZZ _ q1,⟨e,xZZ _ q2,q3⟩,q4⟩,fun e he=>I.fbs e (by simpa [upd] using he),I.fv⟩
      exact ⟨p,hpL,call,st',ne',mj',dl',tm',h',R',V',SV',c1,c2,by rw [jA,hd];exact r1,r2⟩
   |false=>
    rw [hcal] at hc;simp only [cond_false] at hc;obtain ⟨hg,hc⟩:=qU hc;simp only [xZQ] at hg;obtain ⟨⟨hst,hch⟩,hal⟩:=hg;obtain ⟨L2,hcE,hLs⟩: ∃L2,uT AL N ol ms (i+1) (ne+1) m i SR ((ne,mj,i)::SV)=some L2/\ ∀x∈L2,x∈L:=by
     split at hc
     ·exact ⟨_,hc,fun x hx=>hx⟩
     ·split at hc
      ·cases hc
      ·rename_i a ha;split at hc
       ·cases hc
       ·rename_i b hb;simp only [Option.some.injEq] at hc;subst hc;exact ⟨_,hb,fun x hx=>List.mem_append_right _ hx⟩
    have hal:=xZY.1 hal;have hov:({t:=ovl (fun f=>bt m f && !bt st.mj f) st.fs st.b,n:=st.n}:Hp)=h:=by
     have:ovl (fun f=>bt m f && !bt st.mj f) st.fs st.b=h.t:=by
      rw [I.ffs];rcases xZW ne with hz|hz
      ·obtain ⟨z1,z2,z3⟩:=I.fz hz;rw [z2,z3];exact hall _ fun f hf=>by rw [I.fmj,z1,hal f hf,yJ];rfl
      ·obtain ⟨z1,z2,_⟩:=I.fs hz;rw [z2];exact hno _ _ fun f hf=>by rw [I.fmj,z1 f hf];simp
     rw [this,I.fn]
    have hch2:(Nat.beq st.ne 0 || bt m st.dl)=true:=by
     rw [I.fne];rcases I.fdl with hdl|hdl
     ·rw [hdl];exact hch
     ·rw [hdl];rfl
    have next: ∀(v:AV) (h1:Hp),jD o.op= .eff->WOW E nt ops ol (i+1) (ne+1) (uE tm o.dst v) h1 R ((ne+1,h1.t)::V) Q->h.n<=h1.n-> ∃p∈L,∃call st' ne' mj' dl' tm' h' R' V' SV',jQ E.P E.xt call/\((∀fv args k r,call fv args k=some r->h1.n<=k.n/\k.n<h'.n)/\h1.n<=h'.n)/\kR E.P E.tb E.xt call ops ol ms (upd o m st v h1 .eff)=some st'/\WInv E AL h0 HA FS (i+1+ol.length) ne' mj' dl' tm' h' R' V' p.1 SV' st'/\p.2=(ne',mj',N)::SV'/\Q tm' h' R' V':=fun v h1 hke hk hle=>by
     exact Exists.imp (fun _ hp=>⟨hLs _ hp.1,hp.2⟩)<|xM hall hno ol ms (i+1) (ne+1) m i _ h1 R _ SR ((ne,mj,i)::SV) (upd o m st v h1 .eff) _ hk hcE
      ⟨by simp [upd,I.fi],by simp [upd,I.ftm],by simp [upd],by simp [upd,I.fne],by simp [upd],.inl (by simp [upd,I.fi]),by simp [upd,I.ffs],fun hz=>by omega,fun hz=>⟨hal,by simp [upd],xZX⟩,fun r hr=>I.frs r (by simpa [upd] using hr),fun e he=>by
       simp only [upd,xZR] at he;rcases he with rfl|he
       ·refine ⟨by simp [I.fne,I.fmj,I.fi],fun hz=> ?_,fun hz=> ?_⟩
        ·simp only [I.fne] at hz;obtain ⟨z1,z2,z3⟩:=I.fz hz;exact ⟨z2,by simp [I.fmj,z1]⟩
        ·simp only [I.fne] at hz;obtain ⟨z1,z2,z3⟩:=I.fs hz;refine ⟨xZZ _ ?_,by simpa [I.fmj] using z1⟩;simp only [I.fne,z2];exact z3
       ·obtain ⟨q1,q2,q3⟩:=I.fbs e he;exact ⟨xZZ _ q1,q2,fun hz=>⟨xZZ _ (q3 hz).1,(q3 hz).2⟩⟩,xZZ _ I.fv⟩
    cases hso:isSt o.op with
    |true=>
     obtain ⟨call0,res,_,hop,hk⟩:=hw.ev;rw [wV hso] at hop;cases ha:aop E.P E.tb E.xt (qF tm) o.op h with
     |none=>rw [ha] at hop;cases hop
     |some p=>
      obtain ⟨v,h1⟩:=p;rw [ha] at hop;simp only [pL,Option.some.injEq] at hop;subst hop;simp only [qAw,hst,cond_true] at hk;obtain ⟨⟨hn1,_⟩,hk⟩:=hk;have hk:=hput hk;obtain ⟨p,hpL,call,st',ne',mj',dl',tm',h',R',V',SV',c1,c2,r1,r2⟩:=next v h1 (xQ hso) hk hn1;have hd:jJ E.P E.tb E.xt call ops o m st=some (upd o m st v h1 .eff):=by
       unfold jJ zW;rw [I.ftm,haw,xQ hso];simp only [cond_true];rw [hch2];simp only [cond_true];rw [hov,wV hso,ha];rfl
      exact ⟨p,hpL,call,st',ne',mj',dl',tm',h',R',V',SV',c1,⟨fun fv args k r hr=>by have:=c2.1 fv args k r hr;omega,by have:=c2.2;omega⟩,by rw [jA,hd];exact r1,r2⟩
    |false=>
     have hcl:jG o.op=true:=by
      unfold zV at hst;rw [hso] at hst;simpa using hst
     have hcl2:=hcl;unfold jG at hcl2;split at hcl2
     ·rename_i q hq;split at hcl2
      ·rename_i f hf;unfold WOp at hw;simp only [hq,calK,hf] at hw;obtain ⟨res,h1,hcs,hk⟩:=hw;rw [<-hq] at hk;cases res with
       |pan v=>exact hk.elim
       |ret v=>
        simp only [resK,qAw,hst,cond_true] at hk;obtain ⟨⟨hn1,hlt⟩,hk⟩:=hk;have hlt:=hlt hcl;have hk:=hput hk;have hkd:jD o.op= .eff:=by simp [hq,jD,hf]
        obtain ⟨p,hpL,call,st',ne',mj',dl',tm',h',R',V',SV',c1,c2,r1,r2⟩:=next v h1 hkd hk hn1;have hsd:jQ E.P E.xt (j9 (qF tm f) (q.args.toList.map (qF tm)) h (.ret v) h1 call):=by
         intro fv a k r k' he;unfold j9 at he;split at he
         ·rename_i hq;obtain ⟨rfl,rfl,rfl⟩:=hq;cases he;exact hcs
         ·exact c1 _ _ _ _ _ he
        have hev:jP E.P E.tb E.xt (j9 (qF tm f) (q.args.toList.map (qF tm)) h (.ret v) h1 call) o tm h=some (.ok v h1):=by
         simp [jP,hq,vB,hf,j9,uH]
        have hd:jJ E.P E.tb E.xt (j9 (qF tm f) (q.args.toList.map (qF tm)) h (.ret v) h1 call) ops o m st=some (upd o m st v h1 .eff):=by
         unfold jJ zW;rw [I.ftm,haw,hkd];simp only [cond_true];rw [hch2];simp only [cond_true];rw [hov,hev]
        refine ⟨p,hpL,j9 (qF tm f) (q.args.toList.map (qF tm)) h (.ret v) h1 call,st',ne',mj',dl',tm',h',R',V',SV',hsd,⟨fun fv a k r he=> ?_,by have:=c2.2;omega⟩,?_,r2⟩
        ·unfold j9 at he;split at he
         ·rename_i hq;rw [hq.2.2];have:=c2.2;omega
         ·have:=c2.1 _ _ _ _ he;omega
        ·rw [jA,hd];simp only;refine zH c1 ol ms _ _ (fun fv a k r hk hr=> ?_) r1;unfold j9;rw [if_neg (fun hq=> ?_)]
         ·exact hr
         ·simp only [upd] at hk;rw [hq.2.2] at hk;omega
      ·cases hcl2
     ·cases hcl2
def qDa (nt:Nat) (ops:Array Oper) (k1 k2 k3:Nat) (P:List (Nat×Nat)):Bool:=
 let L:=ops.toList
 let l:=L.take k1
 let aos:=(L.drop k1).take k2
 let l2:=(L.drop (k1+k2)).take k3
 let pre:=l++(aos++l2)
 match sta ⟨pre⟩ with
 |none=>false
 |some s=>Nat.ble s.mx nt && (l.all (fun o=>calm o.op) && (aos.all (isAl nt) && (Nat.beq aos.length k2 && (Nat.beq l.length k1 && (Nat.ble (k1+k2) s.ms.length &&
   ((s.ms.take k1).all (fun m=>(xZS k1 k2).all fun f=> !bt m f) &&
   (match uC [] pre.length l s.ms 0 0 0 0 [] [] with
   |none=>false
   |some (SRA,_)=>(match uT (xZS k1 k2) pre.length l2 (s.ms.drop (k1+k2)) (k1+k2) 0 0 0 SRA [] with
    |none=>false
    |some LL=>LL.all fun p=>p.1.all fun r=>p.2.all (ordd P r))) &&
   (yI pre (L.drop (k1+k2+k3)) && pre.all (vF pre.length))))))))
end
section
variable {E:Env} {nt:Nat} {ops:Array Oper} {r:Option Nat} {mks:List Nat}
theorem SemC.drawnL (htb:Tb E.P E.tb) (hm:E.P.follows .mixedOrders=true) {id:Nat} (k1 k2 k3:Nat) (P:List (Nat×Nat)) (hst:qDa nt ops k1 k2 k3 P=true) {tm:T AV} {h:Hp} {Q:Ex->St->Prop}
  (hw:WOW E nt ops (ops.toList.take k1) 0 0 tm h [] [(0,h.t)] (fun tm1 h1 R1 _=>WOA E ((ops.toList.drop k1).take k2) tm1 h1.n [] (fun tm2 os=>WOW E nt ops ((ops.toList.drop (k1+k2)).take k3) (k1+k2) 0 tm2 {t:=zK h1.t h1.n os,n:=h1.n+k2} R1 [(0,zK h1.t h1.n os)] (fun tm3 h3 R V=>pW E P R V/\WO E nt ops (ops.toList.drop (k1+k2+k3)) tm3 h3 (regK ⟨tm,nt,h,mks⟩ Q))))):W E r (.region id ops true) ⟨tm,nt,h,mks⟩ Q:=by
 unfold qDa at hst;simp only at hst;obtain ⟨l,hl⟩: ∃l,l=ops.toList.take k1:=⟨_,rfl⟩;obtain ⟨aos,has⟩: ∃aos,aos=(ops.toList.drop k1).take k2:=⟨_,rfl⟩;obtain ⟨l2,hl2⟩: ∃l2,l2=(ops.toList.drop (k1+k2)).take k3:=⟨_,rfl⟩;obtain ⟨rest,hrest⟩: ∃rest,rest=ops.toList.drop (k1+k2+k3):=⟨_,rfl⟩;have hall:l++(aos++l2)++rest=ops.toList:=by
  have a3:ops.toList.drop (k1+k2+k3)=(ops.toList.drop (k1+k2)).drop k3:=by rw [xZO]
  have a2:ops.toList.drop (k1+k2)=(ops.toList.drop k1).drop k2:=by rw [xZO]
  rw [hl,has,hl2,hrest,a3,xZM,xZM,xZU,a2,xZU,xZU]
 rw [<-hl,<-has,<-hl2,<-hrest] at hst hw;cases hs:sta ⟨l++(aos++l2)⟩ with
 |none=>rw [hs] at hst;cases hst
 |some s=>
 rw [hs] at hst;simp only [xZQ] at hst;obtain ⟨hmx,hcalm,hisal,hask,hlk,hms,⟨hnb,hw2⟩,hlast,hgl⟩:=hst;have hask:=xZT hask;have hlk:=xZT hlk;have hms:k1+k2<=s.ms.length:=xZN hms;obtain ⟨pre,hpre⟩: ∃pre,pre=l++(aos++l2):=⟨_,rfl⟩;rw [<-hpre] at hs hw2 hlast hgl hall;have hgd: ∀o∈pre,∀j w,o.guard=some (j,w)->(⟨pre⟩:Array Oper)[j]? =ops[j]? :=fun o ho j w hg=>by
  have:=xZY.1 hgl o ho;unfold vF at this;rw [hg] at this;simp only [Nat.blt_eq] at this;rw [<-xZV,<-xZV,<-hall];simp [List.getElem?_append_left this]
 have hgl1: ∀o∈l,∀j w,o.guard=some (j,w)->(⟨pre⟩:Array Oper)[j]? =ops[j]? :=fun o ho=>hgd o (by rw [hpre];simp [ho]);have hgl2: ∀o∈l2,∀j w,o.guard=some (j,w)->(⟨pre⟩:Array Oper)[j]? =ops[j]? :=fun o ho=>hgd o (by rw [hpre];simp [ho]);split at hw2
 ·cases hw2
 rename_i SRA SVA hsa;split at hw2
 ·cases hw2
 rename_i LL hsc;have hall2:=xZY.1 hw2;have hw1:=xB (ops':=⟨pre⟩) l 0 0 tm h [] [(0,h.t)] _ _ hgl1 (fun _ _ _ _ hh=>hh) hw;obtain ⟨call1,st1,ne1,mj1,dl1,tm1,h1,R1,V1,SV1,cs1,cr1,run1,I1,eSV,hq1⟩:=yQ (AL:=[]) (h0:=h.t) (HA:=h.t) (FS:=[]) (fun _ _=>rfl) (fun _ _ _=>rfl) l s.ms 0 0 0 0 tm h [] [(0,h.t)] [] [] {i:=0,tm:=tm,n:=h.n,b:=h.t,mj:=0,dl:=0,ne:=0,fs:=[],bs:=[],rs:=[]} hw1 hsa
  ⟨rfl,rfl,rfl,rfl,rfl,.inr rfl,rfl,fun _=>⟨rfl,rfl,rfl⟩,fun hz=>absurd hz (Nat.lt_irrefl _),by simp,by simp,by simp⟩
 have hcal0: ∀(l:List Oper) (ms:List Nat) (i ne mj dl:Nat) (SR:List SRd) (SV:List SVe) (SRz:List SRd) (SVz:List SVe),l.all (fun o=>calm o.op)=true->uC [] pre.length l ms i ne mj dl SR SV=some (SRz,SVz)->SVz=(ne,mj,pre.length)::SV/\ ∀x∈SRz,x∈SR\/x.2.2=ne/\x.2.1∈ms.take l.length:=by
  intro l;induction l with
  |nil=>
   intro ms i ne mj dl SR SV SRz SVz _ hx;simp only [uC,Option.some.injEq,Prod.mk.injEq] at hx;exact ⟨hx.2.symm,fun x hx'=> .inl (by rw [hx.1];exact hx')⟩
  |cons o l ih=>
   intro ms i ne mj dl SR SV SRz SVz hc hx;simp only [List.all_cons,xZQ] at hc;cases ms with
   |nil=>simp [uC] at hx
   |cons m ms=>
    simp only [uC,hc.1,cond_true] at hx;split at hx
    ·obtain ⟨_,hx⟩:=qU hx;obtain ⟨q1,q2⟩:=ih ms _ _ _ _ _ _ _ _ hc.2 hx;refine ⟨q1,fun x hx'=> ?_⟩;rcases q2 x hx' with h3|h3
     ·rcases xZR.1 h3 with rfl|h3
      ·exact .inr ⟨rfl,by simp⟩
      ·exact .inl h3
     ·exact .inr ⟨h3.1,by simp [h3.2]⟩
    ·obtain ⟨q1,q2⟩:=ih ms _ _ _ _ _ _ _ _ hc.2 hx;refine ⟨q1,fun x hx'=> ?_⟩;rcases q2 x hx' with h3|h3
     ·exact .inl h3
     ·exact .inr ⟨h3.1,by simp [h3.2]⟩
 obtain ⟨eSVA,hSRA⟩:=hcal0 l s.ms 0 0 0 0 [] [] SRA SVA hcalm hsa;rw [eSV] at eSVA;simp only [List.cons.injEq,Prod.mk.injEq] at eSVA;obtain ⟨⟨rfl,rfl,_⟩,rfl⟩:=eSVA;rw [Nat.zero_add] at I1;obtain ⟨z1,z2,z3⟩:=I1.fz rfl;have hbs1:st1.bs=[]:=by
  cases hb:st1.bs with
  |nil=>rfl
  |cons e _=>have:=(I1.fbs e (by rw [hb];exact xZX)).1;simp at this
 obtain ⟨st2,os,tm2,run2,est2,hosl,hq2⟩:=qBe (nt:=nt) (ops:=⟨pre⟩) (call:=pS) aos (s.ms.drop l.length) tm1 h1.n [] st1 hq1 hisal (by rw [List.length_drop];omega) I1.ftm I1.fn;rw [List.nil_append] at hq2;have hfs2:st2.fs=feL k1 h1.n os:=by rw [est2];simp [I1.ffs,I1.fi,hlk]
 have hAL: ∀(q:Nat->Bool) (b:Bool),(∀f∈xZS k1 k2,q f=b)-> ∀f,k1<=f->f<k1+os.length->q f=b:=fun q b hq f h1 h2=>hq f (List.mem_range'_1.2 ⟨h1,by omega⟩);have hw3:=xB (ops':=⟨pre⟩) l2 (k1+k2) 0 tm2 _ R1 _ _ _ hgl2 (fun _ _ _ _ hh=>hh) hq2;obtain ⟨⟨SR,SV⟩,hpL,call3,st3,ne3,mj3,dl3,tm3,h3,R3,V3,SV3,cs3,cr3,run3,I3,eSV3,hsame,hq3⟩:=xM (AL:=xZS k1 k2) (h0:=h.t) (HA:=zK h1.t h1.n os) (FS:=feL k1 h1.n os)
  (fun q hq=>by rw [z3];exact uK q _ os k1 h1.n (hAL q true hq)) (fun q b hq=>gC q b os k1 h1.n (hAL q false hq)) l2 (s.ms.drop (k1+k2)) (k1+k2) 0 0 0 tm2 {t:=zK h1.t h1.n os,n:=h1.n+k2} R1 [(0,zK h1.t h1.n os)] SRA [] st2 _ hw3 hsc
  ⟨by rw [est2];simp [I1.fi,hlk,hask],by rw [est2],by rw [est2];simp [hask],by rw [est2];exact I1.fne,by rw [est2];exact I1.fmj,.inr rfl,hfs2,fun _=>⟨rfl,by rw [est2];exact z2,rfl⟩,fun hz=>absurd hz (Nat.lt_irrefl _),fun r hr=>by
   have hr1:r∈st1.rs:=by rw [est2] at hr;exact hr
   obtain ⟨q1,q2,_⟩:=I1.frs r hr1;refine ⟨q1,q2,.inr ?_⟩;rcases hSRA _ q1 with h4|h4
   ·simp at h4
   ·refine ⟨h4.1,fun f hf=> ?_⟩;have hm1:r.m∈s.ms.take k1:=by rw [<-hlk];exact h4.2
    have:=xZY.1 (xZY.1 hnb _ hm1) f hf;simpa using this,fun e he=>by
   rw [est2] at he;rw [show ({st1 with i:=st1.i+aos.length,tm:=tm2,n:=h1.n+aos.length,fs:=feL st1.i h1.n os++st1.fs}:DS).bs=st1.bs from rfl,hbs1] at he;simp at he,by simp⟩
 have hpair:=fun r hr e he=>xZY.1 (xZY.1 (hall2 _ hpL) r hr) e he;have eSV3:SV=_:=eSV3;obtain ⟨callm,hcm⟩: ∃callm:qZ,callm=fun f a k=>match call3 f a k with|some r=>some r|none=>call1 f a k:=⟨_,rfl⟩
 have csm:jQ E.P E.xt callm:=by
  intro f a k r k' he;rw [hcm] at he;simp only at he;split at he
  ·rename_i r' hr';cases he;exact cs3 _ _ _ _ _ hr'
  ·exact cs1 _ _ _ _ _ he
 have run1:=zH (call':=callm) cs1 _ _ _ _ (fun fv a k r _ hr=>by
  rw [hcm];simp only;cases hc3:call3 fv a k with
  |none=>exact hr
  |some r'=>
   have b1:=cr1.1 _ _ _ _ hr;have b2:=cr3.1 _ _ _ _ hc3;simp only at b2;omega) run1
 have run2:=zH (call':=callm) (kE E.P E.xt) _ _ _ _ (fun fv a k r _ hr=>by cases hr) run2;have run3:=zH (call':=callm) cs3 _ _ _ _ (fun fv a k r _ hr=>by rw [hcm];simp only [hr]) run3;have hrun:kR E.P E.tb E.xt callm ⟨pre⟩ (⟨pre⟩:Array Oper).toList s.ms {i:=0,tm:=tm,n:=h.n,b:=h.t,mj:=0,dl:=0,ne:=0,fs:=[],bs:=[],rs:=[]}=some st3:=by
  have e0:kR E.P E.tb E.xt callm ⟨pre⟩ (l++(aos++l2)) s.ms {i:=0,tm:=tm,n:=h.n,b:=h.t,mj:=0,dl:=0,ne:=0,fs:=[],bs:=[],rs:=[]}=some st3:=by
   rw [yB _ _ _ _ _ run1,yB _ _ _ _ _ run2,xZO,hlk,hask];exact run3
  rw [<-hpre] at e0;exact e0
 have hchk:DChk E.P E.tb E.xt callm st3 (⟨pre⟩:Array Oper).size:=by
  intro r hr e he;obtain ⟨q1,⟨re,p1,p2,p3,p4,p5,p6,p7⟩,q3⟩:=I3.frs r hr;obtain ⟨e1,e2,e3⟩:(e.j,e.mj,e.nx)∈SV/\(e.j=0->e.b=h.t/\e.mj=0)/\(0<e.j->(e.j,e.b)∈V3/\ ∀f∈xZS k1 k2,bt e.mj f=true):=by
   rcases xZR.1 he with rfl|he
   ·refine ⟨by rw [eSV3];simp [I3.fne,I3.fmj],fun hz=> ?_,fun hz=> ?_⟩
    ·simp only [I3.fne] at hz;have:=I3.fz hz;exact ⟨this.2.1,by simp [I3.fmj,this.1]⟩
    ·simp only [I3.fne] at hz;have:=I3.fs hz;exact ⟨by simp only [I3.fne,this.2.1];exact this.2.2,by simpa [I3.fmj] using this.1⟩
   ·have:=I3.fbs e he;exact ⟨by rw [eSV3];exact xZZ _ this.1,this.2⟩
  have ho:=hpair _ q1 _ e1;unfold ordd at ho;simp only [Bool.or_eq_true] at ho;rcases ho with ho|ho|ho|ho
  ·exact .inl (xZT ho)
  ·exact .inr (.inl ho)
  ·exact .inr (.inr (.inl ho))
  have key: ∀t,(e.j,t)∈V3->ovl (fun f=>bt r.m f && !bt e.mj f) st3.fs e.b=t-> ∃h'',jP E.P E.tb E.xt callm r.o r.tm {t:=ovl (fun f=>bt r.m f && !bt e.mj f) st3.fs e.b,n:=r.n}=some (.ok r.v h''):=fun t ht heq=>by
   have:=hsame re p1 (e.j,t) ht (by rw [p2];exact ho);rw [p3,p4,p5,p6] at this;rw [heq,jV rfl p7,this];exact ⟨_,rfl⟩
  rcases xZW e.j with hz|hz
  ·obtain ⟨e4,e5⟩:=e2 hz;rcases q3 with q3|q3
   ·refine .inr (.inr (.inr (key (zK h1.t h1.n os) (by rw [hz];exact I3.fv) ?_)));rw [I3.ffs,e4,z3];exact uK _ _ os k1 h1.n (hAL _ true fun f hf=>by rw [q3 f hf,e5,yJ];rfl)
   ·exact .inl (by rw [hz,q3.1])
  ·obtain ⟨e4,e5⟩:=e3 hz;refine .inr (.inr (.inr (key e.b e4 ?_)));rw [I3.ffs];exact gC _ _ os k1 h1.n (hAL _ false fun f hf=>by rw [e5 f hf];simp)
 obtain ⟨n1,s1⟩:=bM htb csm hs (xZN hmx) hrun hchk;have e1:({t:=ovl (fun f=> !bt st3.mj f) st3.fs st3.b,n:=st3.n}:Hp)=h3:=by
  have:ovl (fun f=> !bt st3.mj f) st3.fs st3.b=h3.t:=by
   rw [I3.ffs];rcases xZW ne3 with hz|hz
   ·obtain ⟨y1,y2,y3⟩:=I3.fz hz;rw [y2,y3,z3];exact uK _ _ os k1 h1.n (hAL _ true fun f hf=>by rw [I3.fmj,y1,yJ];rfl)
   ·obtain ⟨y1,y2,_⟩:=I3.fs hz;rw [y2];exact gC _ _ os k1 h1.n (hAL _ false fun f hf=>by rw [I3.fmj,y1 f hf];rfl)
  rw [this,I3.fn]
 rw [e1] at s1;rw [I3.fn] at n1 s1;rw [I3.ftm] at s1;have hd:DrX E nt ⟨pre⟩ tm h .normal tm3 h3:=⟨n1,s1⟩;obtain ⟨x,tm4,h4,hd2,hq4⟩:=DrX.lasts htb rest pre tm3 h3 hlast (fun j hj=>by rw [hall,xZV]) hd hq3;rw [hall] at hd2;have lift: ∀{a:Act} {w:World} {r:Option Nat} {id:Nat} {Q:Exit->Act->World->Prop},(∀t,wpOpsIn (Wd r) 0 E.P ops Q (Region.linearise .any ops t) a {w with drawn:=w.drawn+1})->(Code.region id ops true).wpIn (Wd r) 0 E.P Q a w:=fun hh=>by
  refine wpIn_region_draw fun t=> ?_;simp only [Region.schedule,hm,Bool.true_or,if_true];exact hh t
 have hds:DrwS E nt ops tm h x tm4 h4:=⟨hd2.1,fun lim hl c a w r id g hxt ht Q hQ=>lift fun t=>hd2.2 lim hl c a w r t g hxt ht Q hQ⟩;exact ⟨_,_,.regionD (st:=⟨tm,nt,h,mks⟩) hds,hq4⟩
theorem seq_regL (ok:SyOk E) {id:Nat} {b:Code} {tm:T AV} {h:Hp} {Q:Ex->St->Prop} (k1 k2 k3:Nat) (P:List (Nat×Nat)) (hst:qDa nt ops k1 k2 k3 P=true) (hw: ∀K:Ex->T AV->Hp->Prop,(∀tm h,wpc E r b ⟨tm,nt,h,mks⟩ Q->K .normal tm h)->(∀v tm h,Q (.panic v) ⟨tm,nt,h,mks⟩->K (.panic v) tm h)->WOW E nt ops (ops.toList.take k1) 0 0 tm h [] [(0,h.t)] (fun tm1 h1 R1 _=>WOA E ((ops.toList.drop k1).take k2) tm1 h1.n [] (fun tm2 os=>WOW E nt ops ((ops.toList.drop (k1+k2)).take k3) (k1+k2) 0 tm2 {t:=zK h1.t h1.n os,n:=h1.n+k2} R1 [(0,zK h1.t h1.n os)] (fun tm3 h3 R V=>pW E P R V/\WO E nt ops (ops.toList.drop (k1+k2+k3)) tm3 h3 K)))):
  wpc E r (.seq (.region id ops true) b) ⟨tm,nt,h,mks⟩ Q:=by
 show W E r (.region id ops true) ⟨tm,nt,h,mks⟩ (pK (fun s=>wpc E r b s Q) Q);exact SemC.drawnL ok.tb ok.mixed k1 k2 k3 P hst (hw _ (fun tm h hh=>hh) (fun v tm h hh=>hh))
end
end Go.Ev
end
namespace Go.Proofs.Kn
open Go Go.Ev
set_option maxRecDepth 100000
set_option maxHeartbeats 4000000
end Go.Proofs.Kn
namespace Go.Proofs.Kn
open Go Go.Ev
set_option maxRecDepth 100000
set_option maxHeartbeats 4000000
theorem ft111 (xt:Addr->Option Value):(SE xt).ft.get 111=some Tryz.f111:=by kernel_rfl
theorem res111:Tryz.f111.results.toList=[.tmp 6]:=by kernel_rfl
theorem slices_c (xt:Addr->Option Value) (h:Hp) (w:Wk) (ha:w.At xt h) (v:AV) (hv:Go.Ev.one v=true) (a b:Int) (q:Nat) (n th wo:Int) (hx:w.ts[q]? =some (n,th,wo)) (hk1:0<=w.kerf) (hk2:w.kerf<=5) (ht1:1<=th) (ht2:th<=60) (bk:Int) (b1:bk<=60) (b2:0<=bk)
  {K:CR->Hp->Prop} (hk: ∀m,h.n<m->K (.ret (iv ((bk+w.kerf).tdiv (th+w.kerf)))) (h.up m)):FnA (SE xt) 111 [.agg (w.bc v),cutv (a,b,(q:Int)),iv bk] h K:=by
 refine FnA.calm ?_ hk;clear hk K;refine FnA.walk (sok xt) (ft111 xt) rfl 25 rfl ?_;obtain ⟨o1,o2,o3,o4,o5⟩:=ha.ones;have hq:q<w.ts.length:=(List.getElem?_eq_some_iff.1 hx).1;have i1:=ha.ts.idx hU rfl kV rfl (i:=q) (by simpa using hq) (k:= .i64);refine qA fun K hn hp=> ?_;simp only [sw.1,rE,reduceIte,rL,rA];apply hn;obtain ⟨h1,hh1⟩: ∃h1:Hp,h1=h.new (.cells (w.bc v) 121):=⟨_,rfl⟩;rw [<-hh1];have nh1:h1.n=h.n+1:=by rw [hh1];rfl
 have sh1:h1.t.get h.n=some (.cells (w.bc v) 121):=by rw [hh1];exact jL _ _
 have kh1: ∀k,k<h.n->h1.t.get k=h.t.get k:=fun k hk=>by rw [hh1];exact jK _ _ hk
 have fbh1:Fr h.n h h1:=by rw [hh1];exact (Fr.refl (xZP _)).new _
 have fh1:=fbh1;obtain ⟨h2,hh2⟩: ∃h2:Hp,h2=h1.new (.cells [iv a,iv b,iv q] 61):=⟨_,rfl⟩;rw [<-hh2];have nh2:h2.n=h1.n+1:=by rw [hh2];rfl
 have sh2:h2.t.get h1.n=some (.cells [iv a,iv b,iv q] 61):=by rw [hh2];exact jL _ _
 have kh2: ∀k,k<h1.n->h2.t.get k=h1.t.get k:=fun k hk=>by rw [hh2];exact jK _ _ hk
 have fbh2:Fr h1.n h1 h2:=by rw [hh2];exact (Fr.refl (xZP _)).new _
 have fh2:Fr h.n h h2:=fh1.trans fbh2 (by omega);simp only [nh1,Nat.add_assoc,rA] at nh2 sh2 kh2;have s1:=(kh2 h.n (by omega)).trans sh1;have ha2:=ha.fr fh2 (xZP _);have hne:w.ts.map Kn.t3≠[]:=by intro e;have:=congrArg List.length e;simp at this;rw [this] at hq;simp at hq
 have i2:=ha2.ts.fa hne kV rfl (f:=1) (o:=1) (s:=0) (ft:=3) rfl (q*3);have i3:qR tb xt h2 3 (elp w.vt (q*3+1))=some (iv th):=ha2.ts.load tg3 rfl (i:=q) (j:=1) (c:=Kn.t3 (n,th,wo)) (by rw [List.getElem?_map,hx];rfl) rfl;have w3:IntKind.i64.wrap (bk+w.kerf)=bk+w.kerf:=qM _ (by omega) (by omega);have w4:IntKind.i64.wrap (th+w.kerf)=th+w.kerf:=qM _ (by omega) (by omega);have e5:(bk+w.kerf).tdiv (th+w.kerf)=(bk+w.kerf) / (th+w.kerf):=Int.tdiv_eq_ediv_of_nonneg (by omega);have e6:=Int.ediv_nonneg (a:=bk+w.kerf) (b:=th+w.kerf) (by omega) (by omega);have e7:=Int.ediv_le_self (th+w.kerf) (show 0<=bk+w.kerf by omega);have w5:IntKind.i64.wrap ((bk+w.kerf).tdiv (th+w.kerf))=(bk+w.kerf).tdiv (th+w.kerf):=qM _ (by omega) (by omega);refine zZ (sok xt) 19 (by kernel_rfl) fun K hn hp=> ?_;simp only [sy.1,rE,reduceIte,rL,i1,sh2,s1,i2,i3,w3,w4,abin_quo _ _ (show th+w.kerf≠0 by omega),w5];refine hn _ _ (qD (qN res111 ⟨?_,fh2⟩));simp [T.get_put]
end Go.Proofs.Kn
noncomputable section
namespace Go.Ev
section
variable {E:Env} {nt:Nat} {ops:Array Oper}
end
section
variable {E:Env} {nt:Nat} {ops:Array Oper} {r:Option Nat} {mks:List Nat}
end
end Go.Ev
end
