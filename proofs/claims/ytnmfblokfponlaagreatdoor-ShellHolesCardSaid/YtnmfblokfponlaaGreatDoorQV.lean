/- MvK6, SyDraw6, MvK7, MvK8, SyDraw7: texts in a row, joined by a program. -/
import Derived.Test.YtnmfblokfponlaaGreatDoorQU
import Derived.Test.YtnmfblokfponlaaGreatDoorQC
set_option linter.all false
open Nat renaming reduceEqDiff → rE, reduceLeDiff → rD, reduceAdd → rA, reduceMul → rM, reduceLT → rL
open Go.Ev.T renaming get_put → xZZ
open List renaming mem_cons_of_mem → xZY, all_eq_true → xZW, getElem?_map → xZU, mem_cons_self → xZT, take_append_drop → xZP, range' → xZN, mem_cons → xZM, getElem?_eq_some_iff → xZK, drop_drop → xZJ, append_assoc → xZF
open Nat renaming le_refl → xZX, eq_zero_or_pos → xZS, eq_of_beq_eq_true → xZO, le_of_ble_eq_true → xZH
open Go.Ev.Hp renaming up_up → xZV, up_n → xZI
open Option renaming bind_some → xZR
open Array renaming getElem?_toList → xZQ
open Bool renaming and_eq_true → xZL, and_eq_true_iff → xZG
open Go.Ev.Fr renaming refl → xZE
open Int renaming toNat_natCast → xZD
namespace Go.Proofs.Kn
open Go Go.Ev
set_option maxRecDepth 100000
set_option maxHeartbeats 4000000
theorem eqi50 (d:Nat) (a b c e:Int) (x y:Bool):qO Tryz.prog (Op.equalIn (d+1+1) 50 (.agg #[.int .i64 a,.int .i64 b,.bool x]) (.agg #[.int .i64 c,.int .i64 e,.bool y]))=some (decide (a=c) && (decide (b=e) && decide (x=y))):=by
 have h1:qO Tryz.prog (underlying 50)=some (TypeDesc.struct #[{name:= "Row",type:=3,offset:=0,embedded:=false,tag:= "",pkgPath:= "",byteOffset:=0},{name:= "Column",type:=3,offset:=1,embedded:=false,tag:= "",pkgPath:= "",byteOffset:=8},{name:= "Down",type:=4,offset:=2,embedded:=false,tag:= "",pkgPath:= "",byteOffset:=16}]):=by kernel_rfl
 have h2:Tryz.prog.stoodInHeld 50=false:=by kernel_rfl
 have h3: ∀d a b,qO Tryz.prog (Op.equalIn (d+1) 3 (.int .i64 a) (.int .i64 b))=some (a==b):=fun d a b=>by
  have:qO Tryz.prog (underlying 3)=some (.int .i64):=by kernel_rfl
  rw [Op.equalIn];simp only [jT,this,xZR,if_true,jH]
 have h4: ∀d a b,qO Tryz.prog (Op.equalIn (d+1) 4 (.bool a) (.bool b))=some (a==b):=fun d a b=>eqib d 4 (by kernel_rfl) a b;have p1: ∀a b x,qO Tryz.prog (part 3 #[.int .i64 a,.int .i64 b,.bool x] 0)=some (.int .i64 a):=fun a b x=>by kernel_rfl
 have p2: ∀a b x,qO Tryz.prog (part 3 #[.int .i64 a,.int .i64 b,.bool x] 1)=some (.int .i64 b):=fun a b x=>by kernel_rfl
 have p3: ∀a b x,qO Tryz.prog (part 4 #[.int .i64 a,.int .i64 b,.bool x] 2)=some (.bool x):=fun a b x=>by kernel_rfl
 rw [Op.equalIn];simp only [jT,h1,xZR,vP,h2,Bool.false_eq_true,if_false];rw [<-Array.forIn_toList];simp only [List.forIn_cons,List.forIn_nil,jT,zI,p1,h3,xZR,jH];by_cases q1:a=c
 ·by_cases q2:b=e
  ·by_cases q3:x=y
   ·simp [q1,q2,q3,jH,jT,p2,p3,h3,h4,zI]
   ·simp [q1,q2,q3,jH,jT,p2,p3,h3,h4,zI]
  ·simp [q1,q2,jH,jT,p2,h3,zI]
 ·simp [q1,jH]
theorem eql50 (ox oy:Operand) (a b c e:Int) (x y:Bool):xA Tryz.prog tb .eql 50 ox oy (.agg [.val (.int .i64 a),.val (.int .i64 b),.val (.bool x)]) (.agg [.val (.int .i64 c),.val (.int .i64 e),.val (.bool y)])=some (.val (.bool (decide (a=c) && (decide (b=e) && decide (x=y))))):=by
 have h:=eqi50 9998 a b c e x y;have hq:qO Tryz.prog (Op.equal 50 (.agg #[.int .i64 a,.int .i64 b,.bool x]) (.agg #[.int .i64 c,.int .i64 e,.bool y]))=some (decide (a=c) && (decide (b=e) && decide (x=y))):=h;have hg:qO Tryz.prog (eqGuard .eql 50 ox oy (.agg #[.int .i64 a,.int .i64 b,.bool x]) (.agg #[.int .i64 c,.int .i64 e,.bool y]))=some ():=by
  have h1:Tryz.prog.eqGuardType Tryz.prog.depth 50=false:=by kernel_rfl
  simp [eqGuard,jT,jH,vP,zI,h1]
 simp only [xA,toVal,toVals,jT,hg,xZR,binOp,hq,jH]
theorem bd50 (a b:Int) (x:Bool):kM tb 50 [(0,iv a),(1,iv b),(2,.val (.bool x))]=some (.agg [iv a,iv b,.val (.bool x)]):=by kernel_rfl
theorem ft88 (xt:Addr->Option Value):(SE xt).ft.get 88=some Tryz.f88:=by kernel_rfl
theorem res88:Tryz.f88.results.toList=[.tmp 8]:=by kernel_rfl
def Mp.crk (m:Mp) (r c:Int) (b:Bool):Bool:=m.ks.any fun k=>decide (k.1=r) && (decide (k.2.1=c) && decide (k.2.2=b))
theorem qAp (xt:Addr->Option Value) (h:Hp) (m:Mp) (ha:m.At xt h) (r c:Int) (b:Bool) {K:CR->Hp->Prop} (hk: ∀n,h.n<n->K (.ret (.val (.bool (m.crk r c b)))) (h.up n)):FnA (SE xt) 88 [m.av,iv r,iv c,.val (.bool b)] h K:=by
 refine FnA.calm ?_ hk;clear hk K;refine FnA.walk (sok xt) (ft88 xt) rfl 27 rfl ?_;obtain ⟨o1,o2,o3,o4,o5⟩:=ha.wk.ones;have hlk:=ha.lk;have hlen: ∀h',vB tb h' 24 m.vk=some m.ks.length:=fun h'=>by
  have:=ha.ks.len (h':=h') tg24 rfl;simpa using this
 refine qA fun K hn hp=> ?_;simp only [sw.1,rE,reduceIte,rL,rA];apply hn;obtain ⟨h1,hh1⟩: ∃h1:Hp,h1=h.new (.cells m.cs 27):=⟨_,rfl⟩;rw [<-hh1];have nh1:h1.n=h.n+1:=by rw [hh1];rfl
 have sh1:h1.t.get h.n=some (.cells m.cs 27):=by rw [hh1];exact qS _ _
 have kh1: ∀k,k<h.n->h1.t.get k=h.t.get k:=fun k hk=>by rw [hh1];exact qU _ _ hk
 have fbh1:Fr h.n h h1:=by rw [hh1];exact (xZE (xZX _)).new _
 have fh1:=fbh1;have ha1:=ha.fr fh1 (xZX _);refine qD ?_;refine qA fun K hn hp=> ?_;simp only [sy.1,rL];apply hn;refine qF fun KA A1 A2 A3 A4 A5=> ?_;refine qP (sok xt) (fun st=> ∃(i:Nat) (tm:T AV),st=⟨tm,27,h1,[]⟩/\i<=m.ks.length/\tm.get 1=some (iv r)/\tm.get 2=some (iv c)/\tm.get 3=some (.val (.bool b))/\tm.get 4=some (.ptr h.n 0)/\tm.get 9=some (iv i)/\ ∀x∈m.ks.take i,(decide (x.1=r) && (decide (x.2.1=c) && decide (x.2.2=b)))=false) (fun st=>m.ks.length - (match st.tm.get 9 with|some (.val (.int _ n))=>n.toNat|_=>0)) ?_ ?_
 ·rintro st ⟨i,tm,rfl,hkA,g1,g2,g3,g4,g9,hall⟩;have muA:=g9;refine qD ?_;refine qA fun K hn hp=> ?_;simp only [sy.1,rE,reduceIte,rL,syw.1,hlen,jA,sh1,g4,g9];apply hn;by_cases hi:i<m.ks.length
  ·refine qC true (by simp only [sy.1,rE,reduceIte,hi]) (fun _=> ?_) (fun hx=>by cases hx);obtain ⟨x,hx⟩: ∃x,m.ks[i]? =some x:=⟨_,List.getElem?_eq_getElem hi⟩;have i1:=ha1.ks.idx tg24 rfl qAM rfl (i:=i) (by simpa using hi) (k:= .i64);have i2:=ha1.ks.loadA qAM rfl rfl (i:=i) (c:=Kn.k3 x) (by rw [xZU,hx];rfl);obtain ⟨xr,xc,xb⟩:=x;simp only [Kn.k3,List.map_cons,List.map_nil] at i2;refine qH ?_;refine qF fun KB B1 B2 B3 B4 B5=> ?_;refine qA fun K hn hp=> ?_;simp only [sy.1,rE,reduceIte,rL,sh1,g1,g2,g3,g4,g9,i1,i2,bd50,eql50];apply hn;cases q:(decide (xr=r) && (decide (xc=c) && decide (xb=b)))
   ·refine qG false (by simp only [sy.1,rE,reduceIte]) (fun hx=>by cases hx) (fun _=> ?_);refine qT (B1 _ ?_);refine reg fun K hn hp=> ?_;simp only [sy.1,rE,reduceIte,rL,g9,qK hi hlk];apply hn;refine ⟨⟨i+1,_,rfl,by omega,(by simp [xZZ,g1]),(by simp [xZZ,g2]),(by simp [xZZ,g3]),(by simp [xZZ,g4]),(by simp [xZZ]),?_⟩,by simpa [xZZ,muA] using (by omega:m.ks.length - (i+1)<m.ks.length - i)⟩;rw [List.take_succ,hx];intro y hy;simp only [Option.toList_some,List.mem_append,List.mem_singleton] at hy;rcases hy with hy|rfl
    ·exact hall y hy
    ·exact q
   ·refine qG true (by simp only [sy.1,rE,reduceIte]) (fun _=> ?_) (fun hx=>by cases hx);refine qA fun K hn hp=> ?_;simp only [sy.1,rL];apply hn;refine qE (B4 _ (A4 _ (qL res88 ⟨?_,fh1⟩)));have:m.crk r c b=true:=List.any_eq_true.2 ⟨_,List.mem_of_getElem? hx,q⟩;simp [xZZ,this]
  ·refine qC false (by simp only [sy.1,rE,reduceIte,hi]) (fun hx=>by cases hx) (fun _=> ?_);refine qM (A2 _ ?_);refine qA fun K hn hp=> ?_;simp only [sy.1,rL];apply hn;refine qE (qL res88 ⟨?_,fh1⟩);have:m.crk r c b=false:=by
    unfold Mp.crk;rw [List.any_eq_false];intro x hx;have:=hall x (by rw [List.take_of_length_le (by omega)];exact hx);rw [this];exact Bool.false_ne_true
   simp [xZZ,this]
 ·exact ⟨0,_,rfl,(by omega),(by simp [xZZ]),(by simp [xZZ]),(by simp [xZZ]),(by simp [xZZ]),(by simp [xZZ]),fun x hx=>absurd hx (by simp)⟩
end Go.Proofs.Kn
noncomputable section
namespace Go.Ev
def uL (AL:List Nat) (N:Nat):List Oper->List Nat->Nat->Nat->Nat->Nat->List SRd->List SVe->Option (List (List SRd×List SVe))
 |[],_,_,ne,mj,_,SR,SV=>some [(SR,(ne,mj,N)::SV)]
 |_::_,[],_,_,_,_,_,_=>none
 |o::ol,m::ms,i,ne,mj,dl,SR,SV=>
  bif calm o.op then
   (match jG o.op with
   | .read=>bif AL.all (bt m) then uL AL N ol ms (i+1) ne mj dl ((i,m,ne)::SR) SV else none
   |_=>uL AL N ol ms (i+1) ne mj dl SR SV)
  else bif zQ o.op && (Nat.beq ne 0 || bt m dl) && AL.all (bt m) then
   (match o.guard with
   |none=>uL AL N ol ms (i+1) (ne+1) m i SR ((ne,mj,i)::SV)
   |some _=>match uL AL N ol ms (i+1) ne mj dl SR SV with
    |none=>none
    |some a=>match uL AL N ol ms (i+1) (ne+1) m i SR ((ne,mj,i)::SV) with
     |none=>none
     |some b=>some (a++b))
   else none
section
variable {E:Env} {nt:Nat} {ops:Array Oper}
theorem xM {AL:List Nat} {h0 HA:T AO} {FS:List FE} {N:Nat} (hall: ∀q:Nat->Bool,(∀f∈AL,q f=true)->ovl q FS h0=HA) (hno: ∀(q:Nat->Bool) (b:T AO),(∀f∈AL,q f=false)->ovl q FS b=b) {Q:T AV->Hp->List RdE->List (Nat×T AO)->Prop}:
  ∀(ol:List Oper) (ms:List Nat) (i ne mj dl:Nat) (tm:T AV) (h:Hp) (R:List RdE) (V:List (Nat×T AO)) (SR:List SRd) (SV:List SVe) (st:DS) (L:List (List SRd×List SVe)),WOW E nt ops ol i ne tm h R V Q->uL AL N ol ms i ne mj dl SR SV=some L->WInv E AL h0 HA FS i ne mj dl tm h R V SR SV st->
  ∃p∈L,∃call st' ne' mj' dl' tm' h' R' V' SV',jS E.P E.xt call/\((∀fv args k r,call fv args k=some r->h.n<=k.n/\k.n<h'.n)/\h.n<=h'.n)/\kK E.P E.tb E.xt call ops ol ms st=some st'/\WInv E AL h0 HA FS (i+ol.length) ne' mj' dl' tm' h' R' V' p.1 SV' st'/\p.2=(ne',mj',N)::SV'/\Q tm' h' R' V'
 |[],ms,i,ne,mj,dl,tm,h,R,V,SR,SV,st,L,hw,hc,I=>by
  simp only [uL,Option.some.injEq] at hc;subst hc;exact ⟨(SR,(ne,mj,N)::SV),xZT,pN,st,ne,mj,dl,tm,h,R,V,SV,kH _ _,⟨fun _ _ _ _ hx=>(by cases hx),xZX _⟩,rfl,I,rfl,hw⟩
 |o::ol,[],i,ne,mj,dl,tm,h,R,V,SR,SV,st,L,hw,hc,I=>by simp [uL] at hc
 |o::ol,m::ms,i,ne,mj,dl,tm,h,R,V,SR,SV,st,L,hw,hc,I=>by
  simp only [WOW] at hw;obtain ⟨_,hw⟩:=hw;have hput: ∀{v:AV} {N:T AV->Prop},putK nt tm o.dst v N->N (x8 tm o.dst v):=fun {v N} hp=>by
   unfold putK at hp;unfold x8;split at hp
   ·rename_i hd;rw [hd];exact hp
   ·rename_i d hd;rw [hd];exact hp.2
  have hlen:i+(o::ol).length=(i+1)+ol.length:=by simp;omega
  rw [hlen];simp only [uL] at hc;cases haw:qR ops o tm with
  |false=>
   rw [haw] at hw;simp only [cond_false] at hw;have hw:=hput hw;have hd: ∀call,jJ E.P E.tb E.xt call ops o m st=some (upd o m st default {t:= .e,n:=st.n} .new):=fun call=>by
    unfold jJ zK;rw [I.ftm,haw];rfl
   obtain ⟨SR2,L2,hc2,hsub,hLs⟩: ∃SR2 L2,uL AL N ol ms (i+1) ne mj dl SR2 SV=some L2/\(∀x∈SR,x∈SR2)/\ ∀x∈L2,x∈L:=by
    cases hcal:calm o.op with
    |true=>
     rw [hcal] at hc;simp only [cond_true] at hc;split at hc
     ·obtain ⟨_,hc⟩:=qX hc;exact ⟨_,_,hc,fun x hx=>xZY _ hx,fun x hx=>hx⟩
     ·exact ⟨_,_,hc,fun x hx=>hx,fun x hx=>hx⟩
    |false=>
     rw [hcal] at hc;simp only [cond_false] at hc;obtain ⟨_,hc⟩:=qX hc;split at hc
     ·rename_i hg;unfold qR at haw;rw [hg] at haw;cases haw
     ·split at hc
      ·cases hc
      ·rename_i a ha;split at hc
       ·cases hc
       ·rename_i b hb;simp only [Option.some.injEq] at hc;subst hc;exact ⟨_,_,ha,fun x hx=>hx,fun x hx=>List.mem_append_left _ hx⟩
   obtain ⟨p,hpL,call,st',ne',mj',dl',tm',h',R',V',SV',c1,c2,r1,r2⟩:=xM hall hno ol ms (i+1) ne mj dl _ h R V SR2 SV (upd o m st default {t:= .e,n:=st.n} .new) _ hw hc2
    ⟨by simp [upd,I.fi],by simp [upd,I.ftm],by simp [upd,I.fn],by simp [upd,I.fne],by simp [upd,I.fmj],by simpa [upd] using I.fdl,by simp [upd,I.ffs],fun hz=>by simpa [upd] using I.fz hz,fun hz=>by simpa [upd] using I.fs hz,fun r hr=>by have:=I.frs r (by simpa [upd] using hr);exact ⟨hsub _ this.1,this.2⟩,fun e he=>I.fbs e (by simpa [upd] using he),I.fv⟩
   exact ⟨p,hLs p hpL,call,st',ne',mj',dl',tm',h',R',V',SV',c1,c2,by rw [jB,hd];exact r1,r2⟩
  |true=>
   rw [haw] at hw;simp only [cond_true] at hw;cases hcal:calm o.op with
   |true=>
    rw [hcal] at hc;simp only [cond_true] at hc;obtain ⟨call0,res,_,hop,hk⟩:=hw.ev;rw [jZ rfl hcal] at hop;cases ha:aop E.P E.tb E.xt (qI tm) o.op h with
    |none=>rw [ha] at hop;cases hop
    |some p=>
     obtain ⟨v,h1⟩:=p;rw [ha] at hop;simp only [u7,Option.some.injEq] at hop;subst hop;simp only [qAv,pX hcal,cond_false] at hk;obtain ⟨rfl,hk⟩:=hk;have hk:=hput hk;rcases w8 hcal with hkd|hkd
     ·obtain ⟨_,e2⟩:=bN hcal hkd ha;rw [hkd] at hc;simp only at hc;have hrd:zP o.op=false:=by unfold zP;rw [hkd]
      rw [hrd] at hk;simp only [cond_false] at hk;have hd: ∀call,jJ E.P E.tb E.xt call ops o m st=some (upd o m st v {t:= .e,n:=st.n} .new):=fun call=>by
       unfold jJ zK;rw [I.ftm,haw,hkd];simp only [cond_true];rw [jZ rfl hcal,e2];rfl
      obtain ⟨p,hpL,call,st',ne',mj',dl',tm',h',R',V',SV',c1,c2,r1,r2⟩:=xM hall hno ol ms (i+1) ne mj dl _ h1 R V SR SV (upd o m st v {t:= .e,n:=st.n} .new) _ hk hc
       ⟨by simp [upd,I.fi],by simp [upd,I.ftm],by simp [upd,I.fn],by simp [upd,I.fne],by simp [upd,I.fmj],by simpa [upd] using I.fdl,by simp [upd,I.ffs],fun hz=>by simpa [upd] using I.fz hz,fun hz=>by simpa [upd] using I.fs hz,fun r hr=>I.frs r (by simpa [upd] using hr),fun e he=>I.fbs e (by simpa [upd] using he),I.fv⟩
      exact ⟨p,hpL,call,st',ne',mj',dl',tm',h',R',V',SV',c1,c2,by rw [jB,hd];exact r1,r2⟩
     ·rw [hkd] at hc;simp only at hc;obtain ⟨hal,hc⟩:=qX hc;have hal:=xZW.1 hal;have hrd:zP o.op=true:=by unfold zP;rw [hkd]
      rw [hrd] at hk;simp only [cond_true] at hk;have hov:({t:=ovl (fun f=>bt m f && !bt st.mj f) st.fs st.b,n:=st.n}:Hp)=h1:=by
       have:ovl (fun f=>bt m f && !bt st.mj f) st.fs st.b=h1.t:=by
        rw [I.ffs];rcases xZS ne with hz|hz
        ·obtain ⟨z1,z2,z3⟩:=I.fz hz;rw [z2,z3];exact hall _ fun f hf=>by rw [I.fmj,z1,hal f hf,yN];rfl
        ·obtain ⟨z1,z2,_⟩:=I.fs hz;rw [z2];exact hno _ _ fun f hf=>by rw [I.fmj,z1 f hf];simp
       rw [this,I.fn]
      have hd: ∀call,jJ E.P E.tb E.xt call ops o m st=some (upd o m st v h1 .read):=fun call=>by
       unfold jJ zK;rw [I.ftm,haw,hkd];simp only [cond_true];rw [hov,jZ rfl hcal,ha];rfl
      obtain ⟨p,hpL,call,st',ne',mj',dl',tm',h',R',V',SV',c1,c2,r1,r2⟩:=xM hall hno ol ms (i+1) ne mj dl _ h1 _ V ((i,m,ne)::SR) SV (upd o m st v h1 .read) _ hk hc
       ⟨by simp [upd,I.fi],by simp [upd,I.ftm],by simp [upd,I.fn],by simp [upd,I.fne],by simp [upd,I.fmj],by simpa [upd] using I.fdl,by simp [upd,I.ffs],fun hz=>by simpa [upd] using I.fz hz,fun hz=>by simpa [upd] using I.fs hz,fun r hr=>by
        simp only [upd,xZM] at hr;rcases hr with rfl|hr
        ·exact ⟨by simp [I.fi,I.fne],⟨_,xZT,by simp [I.fi,I.ftm,I.fn,hcal]⟩,.inl hal⟩
        ·obtain ⟨q1,⟨e,q2,q3⟩,q4⟩:=I.frs r hr;exact ⟨xZY _ q1,⟨e,xZY _ q2,q3⟩,q4⟩,fun e he=>I.fbs e (by simpa [upd] using he),I.fv⟩
      exact ⟨p,hpL,call,st',ne',mj',dl',tm',h',R',V',SV',c1,c2,by rw [jB,hd];exact r1,r2⟩
   |false=>
    rw [hcal] at hc;simp only [cond_false] at hc;obtain ⟨hg,hc⟩:=qX hc;simp only [xZL] at hg;obtain ⟨⟨hst,hch⟩,hal⟩:=hg;obtain ⟨L2,hcE,hLs⟩: ∃L2,uL AL N ol ms (i+1) (ne+1) m i SR ((ne,mj,i)::SV)=some L2/\ ∀x∈L2,x∈L:=by
     split at hc
     ·exact ⟨_,hc,fun x hx=>hx⟩
     ·split at hc
      ·cases hc
      ·rename_i a ha;split at hc
       ·cases hc
       ·rename_i b hb;simp only [Option.some.injEq] at hc;subst hc;exact ⟨_,hb,fun x hx=>List.mem_append_right _ hx⟩
    have hal:=xZW.1 hal;have hov:({t:=ovl (fun f=>bt m f && !bt st.mj f) st.fs st.b,n:=st.n}:Hp)=h:=by
     have:ovl (fun f=>bt m f && !bt st.mj f) st.fs st.b=h.t:=by
      rw [I.ffs];rcases xZS ne with hz|hz
      ·obtain ⟨z1,z2,z3⟩:=I.fz hz;rw [z2,z3];exact hall _ fun f hf=>by rw [I.fmj,z1,hal f hf,yN];rfl
      ·obtain ⟨z1,z2,_⟩:=I.fs hz;rw [z2];exact hno _ _ fun f hf=>by rw [I.fmj,z1 f hf];simp
     rw [this,I.fn]
    have hch2:(Nat.beq st.ne 0 || bt m st.dl)=true:=by
     rw [I.fne];rcases I.fdl with hdl|hdl
     ·rw [hdl];exact hch
     ·rw [hdl];rfl
    have next: ∀(v:AV) (h1:Hp),jG o.op= .eff->WOW E nt ops ol (i+1) (ne+1) (x8 tm o.dst v) h1 R ((ne+1,h1.t)::V) Q->h.n<=h1.n-> ∃p∈L,∃call st' ne' mj' dl' tm' h' R' V' SV',jS E.P E.xt call/\((∀fv args k r,call fv args k=some r->h1.n<=k.n/\k.n<h'.n)/\h1.n<=h'.n)/\kK E.P E.tb E.xt call ops ol ms (upd o m st v h1 .eff)=some st'/\WInv E AL h0 HA FS (i+1+ol.length) ne' mj' dl' tm' h' R' V' p.1 SV' st'/\p.2=(ne',mj',N)::SV'/\Q tm' h' R' V':=fun v h1 hke hk hle=>by
     exact Exists.imp (fun _ hp=>⟨hLs _ hp.1,hp.2⟩)<|xM hall hno ol ms (i+1) (ne+1) m i _ h1 R _ SR ((ne,mj,i)::SV) (upd o m st v h1 .eff) _ hk hcE
      ⟨by simp [upd,I.fi],by simp [upd,I.ftm],by simp [upd],by simp [upd,I.fne],by simp [upd],.inl (by simp [upd,I.fi]),by simp [upd,I.ffs],fun hz=>by omega,fun hz=>⟨hal,by simp [upd],xZT⟩,fun r hr=>I.frs r (by simpa [upd] using hr),fun e he=>by
       simp only [upd,xZM] at he;rcases he with rfl|he
       ·refine ⟨by simp [I.fne,I.fmj,I.fi],fun hz=> ?_,fun hz=> ?_⟩
        ·simp only [I.fne] at hz;obtain ⟨z1,z2,z3⟩:=I.fz hz;exact ⟨z2,by simp [I.fmj,z1]⟩
        ·simp only [I.fne] at hz;obtain ⟨z1,z2,z3⟩:=I.fs hz;refine ⟨xZY _ ?_,by simpa [I.fmj] using z1⟩;simp only [I.fne,z2];exact z3
       ·obtain ⟨q1,q2,q3⟩:=I.fbs e he;exact ⟨xZY _ q1,q2,fun hz=>⟨xZY _ (q3 hz).1,(q3 hz).2⟩⟩,xZY _ I.fv⟩
    cases hso:isSt o.op with
    |true=>
     obtain ⟨call0,res,_,hop,hk⟩:=hw.ev;rw [wQ hso] at hop;cases ha:aop E.P E.tb E.xt (qI tm) o.op h with
     |none=>rw [ha] at hop;cases hop
     |some p=>
      obtain ⟨v,h1⟩:=p;rw [ha] at hop;simp only [u7,Option.some.injEq] at hop;subst hop;simp only [qAv,hst,cond_true] at hk;obtain ⟨⟨hn1,_⟩,hk⟩:=hk;have hk:=hput hk;obtain ⟨p,hpL,call,st',ne',mj',dl',tm',h',R',V',SV',c1,c2,r1,r2⟩:=next v h1 (xS hso) hk hn1;have hd:jJ E.P E.tb E.xt call ops o m st=some (upd o m st v h1 .eff):=by
       unfold jJ zK;rw [I.ftm,haw,xS hso];simp only [cond_true];rw [hch2];simp only [cond_true];rw [hov,wQ hso,ha];rfl
      exact ⟨p,hpL,call,st',ne',mj',dl',tm',h',R',V',SV',c1,⟨fun fv args k r hr=>by have:=c2.1 fv args k r hr;omega,by have:=c2.2;omega⟩,by rw [jB,hd];exact r1,r2⟩
    |false=>
     have hcl:jK o.op=true:=by
      unfold zQ at hst;rw [hso] at hst;simpa using hst
     have hcl2:=hcl;unfold jK at hcl2;split at hcl2
     ·rename_i q hq;split at hcl2
      ·rename_i f hf;unfold WOp at hw;simp only [hq,calK,hf] at hw;obtain ⟨res,h1,hcs,hk⟩:=hw;rw [<-hq] at hk;cases res with
       |pan v=>exact hk.elim
       |ret v=>
        simp only [resK,qAv,hst,cond_true] at hk;obtain ⟨⟨hn1,hlt⟩,hk⟩:=hk;have hlt:=hlt hcl;have hk:=hput hk;have hkd:jG o.op= .eff:=by simp [hq,jG,hf]
        obtain ⟨p,hpL,call,st',ne',mj',dl',tm',h',R',V',SV',c1,c2,r1,r2⟩:=next v h1 hkd hk hn1;have hsd:jS E.P E.xt (zB (qI tm f) (q.args.toList.map (qI tm)) h (.ret v) h1 call):=by
         intro fv a k r k' he;unfold zB at he;split at he
         ·rename_i hq;obtain ⟨rfl,rfl,rfl⟩:=hq;cases he;exact hcs
         ·exact c1 _ _ _ _ _ he
        have hev:jP E.P E.tb E.xt (zB (qI tm f) (q.args.toList.map (qI tm)) h (.ret v) h1 call) o tm h=some (.ok v h1):=by
         simp [jP,hq,zY,hf,zB,uD]
        have hd:jJ E.P E.tb E.xt (zB (qI tm f) (q.args.toList.map (qI tm)) h (.ret v) h1 call) ops o m st=some (upd o m st v h1 .eff):=by
         unfold jJ zK;rw [I.ftm,haw,hkd];simp only [cond_true];rw [hch2];simp only [cond_true];rw [hov,hev]
        refine ⟨p,hpL,zB (qI tm f) (q.args.toList.map (qI tm)) h (.ret v) h1 call,st',ne',mj',dl',tm',h',R',V',SV',hsd,⟨fun fv a k r he=> ?_,by have:=c2.2;omega⟩,?_,r2⟩
        ·unfold zB at he;split at he
         ·rename_i hq;rw [hq.2.2];have:=c2.2;omega
         ·have:=c2.1 _ _ _ _ he;omega
        ·rw [jB,hd];simp only;refine zE c1 ol ms _ _ (fun fv a k r hk hr=> ?_) r1;unfold zB;rw [if_neg (fun hq=> ?_)]
         ·exact hr
         ·simp only [upd] at hk;rw [hq.2.2] at hk;omega
      ·cases hcl2
     ·cases hcl2
def qA3 (nt:Nat) (ops:Array Oper) (k1 k2 k3:Nat) (P:List (Nat×Nat)):Bool:=
 let L:=ops.toList
 let l:=L.take k1
 let aos:=(L.drop k1).take k2
 let l2:=(L.drop (k1+k2)).take k3
 let pre:=l++(aos++l2)
 match sta ⟨pre⟩ with
 |none=>false
 |some s=>Nat.ble s.mx nt && (l.all (fun o=>calm o.op) && (aos.all (isAl nt) && (Nat.beq aos.length k2 && (Nat.beq l.length k1 && (Nat.ble (k1+k2) s.ms.length &&
   ((s.ms.take k1).all (fun m=>(xZN k1 k2).all fun f=> !bt m f) &&
   (match xX [] pre.length l s.ms 0 0 0 0 [] [] with
   |none=>false
   |some (SRA,_)=>(match uL (xZN k1 k2) pre.length l2 (s.ms.drop (k1+k2)) (k1+k2) 0 0 0 SRA [] with
    |none=>false
    |some LL=>LL.all fun p=>p.1.all fun r=>p.2.all (ordd P r))) &&
   (kX pre (L.drop (k1+k2+k3)) && pre.all (zM pre.length))))))))
end
section
variable {E:Env} {nt:Nat} {ops:Array Oper} {r:Option Nat} {mks:List Nat}
theorem SemC.drawnL (htb:Tb E.P E.tb) (hm:E.P.follows .mixedOrders=true) {id:Nat} (k1 k2 k3:Nat) (P:List (Nat×Nat)) (hst:qA3 nt ops k1 k2 k3 P=true) {tm:T AV} {h:Hp} {Q:Ex->St->Prop}
  (hw:WOW E nt ops (ops.toList.take k1) 0 0 tm h [] [(0,h.t)] (fun tm1 h1 R1 _=>WOA E ((ops.toList.drop k1).take k2) tm1 h1.n [] (fun tm2 os=>WOW E nt ops ((ops.toList.drop (k1+k2)).take k3) (k1+k2) 0 tm2 {t:=jX h1.t h1.n os,n:=h1.n+k2} R1 [(0,jX h1.t h1.n os)] (fun tm3 h3 R V=>wO E P R V/\WO E nt ops (ops.toList.drop (k1+k2+k3)) tm3 h3 (qAQ ⟨tm,nt,h,mks⟩ Q))))):W E r (.region id ops true) ⟨tm,nt,h,mks⟩ Q:=by
 unfold qA3 at hst;simp only at hst;obtain ⟨l,hl⟩: ∃l,l=ops.toList.take k1:=⟨_,rfl⟩;obtain ⟨aos,has⟩: ∃aos,aos=(ops.toList.drop k1).take k2:=⟨_,rfl⟩;obtain ⟨l2,hl2⟩: ∃l2,l2=(ops.toList.drop (k1+k2)).take k3:=⟨_,rfl⟩;obtain ⟨rest,hrest⟩: ∃rest,rest=ops.toList.drop (k1+k2+k3):=⟨_,rfl⟩;have hall:l++(aos++l2)++rest=ops.toList:=by
  have a3:ops.toList.drop (k1+k2+k3)=(ops.toList.drop (k1+k2)).drop k3:=by rw [xZJ]
  have a2:ops.toList.drop (k1+k2)=(ops.toList.drop k1).drop k2:=by rw [xZJ]
  rw [hl,has,hl2,hrest,a3,xZF,xZF,xZP,a2,xZP,xZP]
 rw [<-hl,<-has,<-hl2,<-hrest] at hst hw;cases hs:sta ⟨l++(aos++l2)⟩ with
 |none=>rw [hs] at hst;cases hst
 |some s=>
 rw [hs] at hst;simp only [xZL] at hst;obtain ⟨hmx,hcalm,hisal,hask,hlk,hms,⟨hnb,hw2⟩,hlast,hgl⟩:=hst;have hask:=xZO hask;have hlk:=xZO hlk;have hms:k1+k2<=s.ms.length:=xZH hms;obtain ⟨pre,hpre⟩: ∃pre,pre=l++(aos++l2):=⟨_,rfl⟩;rw [<-hpre] at hs hw2 hlast hgl hall;have hgd: ∀o∈pre,∀j w,o.guard=some (j,w)->(⟨pre⟩:Array Oper)[j]? =ops[j]? :=fun o ho j w hg=>by
  have:=xZW.1 hgl o ho;unfold zM at this;rw [hg] at this;simp only [Nat.blt_eq] at this;rw [<-xZQ,<-xZQ,<-hall];simp [List.getElem?_append_left this]
 have hgl1: ∀o∈l,∀j w,o.guard=some (j,w)->(⟨pre⟩:Array Oper)[j]? =ops[j]? :=fun o ho=>hgd o (by rw [hpre];simp [ho]);have hgl2: ∀o∈l2,∀j w,o.guard=some (j,w)->(⟨pre⟩:Array Oper)[j]? =ops[j]? :=fun o ho=>hgd o (by rw [hpre];simp [ho]);split at hw2
 ·cases hw2
 rename_i SRA SVA hsa;split at hw2
 ·cases hw2
 rename_i LL hsc;have hall2:=xZW.1 hw2;have hw1:=y8 (ops':=⟨pre⟩) l 0 0 tm h [] [(0,h.t)] _ _ hgl1 (fun _ _ _ _ hh=>hh) hw;obtain ⟨call1,st1,ne1,mj1,dl1,tm1,h1,R1,V1,SV1,cs1,cr1,run1,I1,eSV,hq1⟩:=yS (AL:=[]) (h0:=h.t) (HA:=h.t) (FS:=[]) (fun _ _=>rfl) (fun _ _ _=>rfl) l s.ms 0 0 0 0 tm h [] [(0,h.t)] [] [] {i:=0,tm:=tm,n:=h.n,b:=h.t,mj:=0,dl:=0,ne:=0,fs:=[],bs:=[],rs:=[]} hw1 hsa
  ⟨rfl,rfl,rfl,rfl,rfl,.inr rfl,rfl,fun _=>⟨rfl,rfl,rfl⟩,fun hz=>absurd hz (Nat.lt_irrefl _),by simp,by simp,by simp⟩
 have hcal0: ∀(l:List Oper) (ms:List Nat) (i ne mj dl:Nat) (SR:List SRd) (SV:List SVe) (SRz:List SRd) (SVz:List SVe),l.all (fun o=>calm o.op)=true->xX [] pre.length l ms i ne mj dl SR SV=some (SRz,SVz)->SVz=(ne,mj,pre.length)::SV/\ ∀x∈SRz,x∈SR\/x.2.2=ne/\x.2.1∈ms.take l.length:=by
  intro l;induction l with
  |nil=>
   intro ms i ne mj dl SR SV SRz SVz _ hx;simp only [xX,Option.some.injEq,Prod.mk.injEq] at hx;exact ⟨hx.2.symm,fun x hx'=> .inl (by rw [hx.1];exact hx')⟩
  |cons o l ih=>
   intro ms i ne mj dl SR SV SRz SVz hc hx;simp only [List.all_cons,xZL] at hc;cases ms with
   |nil=>simp [xX] at hx
   |cons m ms=>
    simp only [xX,hc.1,cond_true] at hx;split at hx
    ·obtain ⟨_,hx⟩:=qX hx;obtain ⟨q1,q2⟩:=ih ms _ _ _ _ _ _ _ _ hc.2 hx;refine ⟨q1,fun x hx'=> ?_⟩;rcases q2 x hx' with h3|h3
     ·rcases xZM.1 h3 with rfl|h3
      ·exact .inr ⟨rfl,by simp⟩
      ·exact .inl h3
     ·exact .inr ⟨h3.1,by simp [h3.2]⟩
    ·obtain ⟨q1,q2⟩:=ih ms _ _ _ _ _ _ _ _ hc.2 hx;refine ⟨q1,fun x hx'=> ?_⟩;rcases q2 x hx' with h3|h3
     ·exact .inl h3
     ·exact .inr ⟨h3.1,by simp [h3.2]⟩
 obtain ⟨eSVA,hSRA⟩:=hcal0 l s.ms 0 0 0 0 [] [] SRA SVA hcalm hsa;rw [eSV] at eSVA;simp only [List.cons.injEq,Prod.mk.injEq] at eSVA;obtain ⟨⟨rfl,rfl,_⟩,rfl⟩:=eSVA;rw [Nat.zero_add] at I1;obtain ⟨z1,z2,z3⟩:=I1.fz rfl;have hbs1:st1.bs=[]:=by
  cases hb:st1.bs with
  |nil=>rfl
  |cons e _=>have:=(I1.fbs e (by rw [hb];exact xZT)).1;simp at this
 obtain ⟨st2,os,tm2,run2,est2,hosl,hq2⟩:=qA8 (nt:=nt) (ops:=⟨pre⟩) (call:=pN) aos (s.ms.drop l.length) tm1 h1.n [] st1 hq1 hisal (by rw [List.length_drop];omega) I1.ftm I1.fn;rw [List.nil_append] at hq2;have hfs2:st2.fs=feL k1 h1.n os:=by rw [est2];simp [I1.ffs,I1.fi,hlk]
 have hAL: ∀(q:Nat->Bool) (b:Bool),(∀f∈xZN k1 k2,q f=b)-> ∀f,k1<=f->f<k1+os.length->q f=b:=fun q b hq f h1 h2=>hq f (List.mem_range'_1.2 ⟨h1,by omega⟩);have hw3:=y8 (ops':=⟨pre⟩) l2 (k1+k2) 0 tm2 _ R1 _ _ _ hgl2 (fun _ _ _ _ hh=>hh) hq2;obtain ⟨⟨SR,SV⟩,hpL,call3,st3,ne3,mj3,dl3,tm3,h3,R3,V3,SV3,cs3,cr3,run3,I3,eSV3,hsame,hq3⟩:=xM (AL:=xZN k1 k2) (h0:=h.t) (HA:=jX h1.t h1.n os) (FS:=feL k1 h1.n os)
  (fun q hq=>by rw [z3];exact uF q _ os k1 h1.n (hAL q true hq)) (fun q b hq=>pW q b os k1 h1.n (hAL q false hq)) l2 (s.ms.drop (k1+k2)) (k1+k2) 0 0 0 tm2 {t:=jX h1.t h1.n os,n:=h1.n+k2} R1 [(0,jX h1.t h1.n os)] SRA [] st2 _ hw3 hsc
  ⟨by rw [est2];simp [I1.fi,hlk,hask],by rw [est2],by rw [est2];simp [hask],by rw [est2];exact I1.fne,by rw [est2];exact I1.fmj,.inr rfl,hfs2,fun _=>⟨rfl,by rw [est2];exact z2,rfl⟩,fun hz=>absurd hz (Nat.lt_irrefl _),fun r hr=>by
   have hr1:r∈st1.rs:=by rw [est2] at hr;exact hr
   obtain ⟨q1,q2,_⟩:=I1.frs r hr1;refine ⟨q1,q2,.inr ?_⟩;rcases hSRA _ q1 with h4|h4
   ·simp at h4
   ·refine ⟨h4.1,fun f hf=> ?_⟩;have hm1:r.m∈s.ms.take k1:=by rw [<-hlk];exact h4.2
    have:=xZW.1 (xZW.1 hnb _ hm1) f hf;simpa using this,fun e he=>by
   rw [est2] at he;rw [show ({st1 with i:=st1.i+aos.length,tm:=tm2,n:=h1.n+aos.length,fs:=feL st1.i h1.n os++st1.fs}:DS).bs=st1.bs from rfl,hbs1] at he;simp at he,by simp⟩
 have hpair:=fun r hr e he=>xZW.1 (xZW.1 (hall2 _ hpL) r hr) e he;have eSV3:SV=_:=eSV3;obtain ⟨callm,hcm⟩: ∃callm:jC,callm=fun f a k=>match call3 f a k with|some r=>some r|none=>call1 f a k:=⟨_,rfl⟩
 have csm:jS E.P E.xt callm:=by
  intro f a k r k' he;rw [hcm] at he;simp only at he;split at he
  ·rename_i r' hr';cases he;exact cs3 _ _ _ _ _ hr'
  ·exact cs1 _ _ _ _ _ he
 have run1:=zE (call':=callm) cs1 _ _ _ _ (fun fv a k r _ hr=>by
  rw [hcm];simp only;cases hc3:call3 fv a k with
  |none=>exact hr
  |some r'=>
   have b1:=cr1.1 _ _ _ _ hr;have b2:=cr3.1 _ _ _ _ hc3;simp only at b2;omega) run1
 have run2:=zE (call':=callm) (kH E.P E.xt) _ _ _ _ (fun fv a k r _ hr=>by cases hr) run2;have run3:=zE (call':=callm) cs3 _ _ _ _ (fun fv a k r _ hr=>by rw [hcm];simp only [hr]) run3;have hrun:kK E.P E.tb E.xt callm ⟨pre⟩ (⟨pre⟩:Array Oper).toList s.ms {i:=0,tm:=tm,n:=h.n,b:=h.t,mj:=0,dl:=0,ne:=0,fs:=[],bs:=[],rs:=[]}=some st3:=by
  have e0:kK E.P E.tb E.xt callm ⟨pre⟩ (l++(aos++l2)) s.ms {i:=0,tm:=tm,n:=h.n,b:=h.t,mj:=0,dl:=0,ne:=0,fs:=[],bs:=[],rs:=[]}=some st3:=by
   rw [vX _ _ _ _ _ run1,vX _ _ _ _ _ run2,xZJ,hlk,hask];exact run3
  rw [<-hpre] at e0;exact e0
 have hchk:DChk E.P E.tb E.xt callm st3 (⟨pre⟩:Array Oper).size:=by
  intro r hr e he;obtain ⟨q1,⟨re,p1,p2,p3,p4,p5,p6,p7⟩,q3⟩:=I3.frs r hr;obtain ⟨e1,e2,e3⟩:(e.j,e.mj,e.nx)∈SV/\(e.j=0->e.b=h.t/\e.mj=0)/\(0<e.j->(e.j,e.b)∈V3/\ ∀f∈xZN k1 k2,bt e.mj f=true):=by
   rcases xZM.1 he with rfl|he
   ·refine ⟨by rw [eSV3];simp [I3.fne,I3.fmj],fun hz=> ?_,fun hz=> ?_⟩
    ·simp only [I3.fne] at hz;have:=I3.fz hz;exact ⟨this.2.1,by simp [I3.fmj,this.1]⟩
    ·simp only [I3.fne] at hz;have:=I3.fs hz;exact ⟨by simp only [I3.fne,this.2.1];exact this.2.2,by simpa [I3.fmj] using this.1⟩
   ·have:=I3.fbs e he;exact ⟨by rw [eSV3];exact xZY _ this.1,this.2⟩
  have ho:=hpair _ q1 _ e1;unfold ordd at ho;simp only [Bool.or_eq_true] at ho;rcases ho with ho|ho|ho|ho
  ·exact .inl (xZO ho)
  ·exact .inr (.inl ho)
  ·exact .inr (.inr (.inl ho))
  have key: ∀t,(e.j,t)∈V3->ovl (fun f=>bt r.m f && !bt e.mj f) st3.fs e.b=t-> ∃h'',jP E.P E.tb E.xt callm r.o r.tm {t:=ovl (fun f=>bt r.m f && !bt e.mj f) st3.fs e.b,n:=r.n}=some (.ok r.v h''):=fun t ht heq=>by
   have:=hsame re p1 (e.j,t) ht (by rw [p2];exact ho);rw [p3,p4,p5,p6] at this;rw [heq,jZ rfl p7,this];exact ⟨_,rfl⟩
  rcases xZS e.j with hz|hz
  ·obtain ⟨e4,e5⟩:=e2 hz;rcases q3 with q3|q3
   ·refine .inr (.inr (.inr (key (jX h1.t h1.n os) (by rw [hz];exact I3.fv) ?_)));rw [I3.ffs,e4,z3];exact uF _ _ os k1 h1.n (hAL _ true fun f hf=>by rw [q3 f hf,e5,yN];rfl)
   ·exact .inl (by rw [hz,q3.1])
  ·obtain ⟨e4,e5⟩:=e3 hz;refine .inr (.inr (.inr (key e.b e4 ?_)));rw [I3.ffs];exact pW _ _ os k1 h1.n (hAL _ false fun f hf=>by rw [e5 f hf];simp)
 obtain ⟨n1,s1⟩:=wH htb csm hs (xZH hmx) hrun hchk;have e1:({t:=ovl (fun f=> !bt st3.mj f) st3.fs st3.b,n:=st3.n}:Hp)=h3:=by
  have:ovl (fun f=> !bt st3.mj f) st3.fs st3.b=h3.t:=by
   rw [I3.ffs];rcases xZS ne3 with hz|hz
   ·obtain ⟨y1,y2,y3⟩:=I3.fz hz;rw [y2,y3,z3];exact uF _ _ os k1 h1.n (hAL _ true fun f hf=>by rw [I3.fmj,y1,yN];rfl)
   ·obtain ⟨y1,y2,_⟩:=I3.fs hz;rw [y2];exact pW _ _ os k1 h1.n (hAL _ false fun f hf=>by rw [I3.fmj,y1 f hf];rfl)
  rw [this,I3.fn]
 rw [e1] at s1;rw [I3.fn] at n1 s1;rw [I3.ftm] at s1;have hd:DrX E nt ⟨pre⟩ tm h .normal tm3 h3:=⟨n1,s1⟩;obtain ⟨x,tm4,h4,hd2,hq4⟩:=DrX.lasts htb rest pre tm3 h3 hlast (fun j hj=>by rw [hall,xZQ]) hd hq3;rw [hall] at hd2;have lift: ∀{a:Act} {w:World} {r:Option Nat} {id:Nat} {Q:Exit->Act->World->Prop},(∀t,wpOpsIn (Wd r) 0 E.P ops Q (Region.linearise .any ops t) a {w with drawn:=w.drawn+1})->(Code.region id ops true).wpIn (Wd r) 0 E.P Q a w:=fun hh=>by
  refine wpIn_region_draw fun t=> ?_;simp only [Region.schedule,hm,Bool.true_or,if_true];exact hh t
 have hds:DrwS E nt ops tm h x tm4 h4:=⟨hd2.1,fun lim hl c a w r id g hxt ht Q hQ=>lift fun t=>hd2.2 lim hl c a w r t g hxt ht Q hQ⟩;exact ⟨_,_,.regionD (st:=⟨tm,nt,h,mks⟩) hds,hq4⟩
theorem yU (ok:SyOk E) {id:Nat} {b:Code} {tm:T AV} {h:Hp} {Q:Ex->St->Prop} (k1 k2 k3:Nat) (P:List (Nat×Nat)) (hst:qA3 nt ops k1 k2 k3 P=true) (hw: ∀K:Ex->T AV->Hp->Prop,(∀tm h,wpc E r b ⟨tm,nt,h,mks⟩ Q->K .normal tm h)->(∀v tm h,Q (.panic v) ⟨tm,nt,h,mks⟩->K (.panic v) tm h)->WOW E nt ops (ops.toList.take k1) 0 0 tm h [] [(0,h.t)] (fun tm1 h1 R1 _=>WOA E ((ops.toList.drop k1).take k2) tm1 h1.n [] (fun tm2 os=>WOW E nt ops ((ops.toList.drop (k1+k2)).take k3) (k1+k2) 0 tm2 {t:=jX h1.t h1.n os,n:=h1.n+k2} R1 [(0,jX h1.t h1.n os)] (fun tm3 h3 R V=>wO E P R V/\WO E nt ops (ops.toList.drop (k1+k2+k3)) tm3 h3 K)))):
  wpc E r (.seq (.region id ops true) b) ⟨tm,nt,h,mks⟩ Q:=by
 show W E r (.region id ops true) ⟨tm,nt,h,mks⟩ (uW (fun s=>wpc E r b s Q) Q);exact SemC.drawnL ok.tb ok.mixed k1 k2 k3 P hst (hw _ (fun tm h hh=>hh) (fun v tm h hh=>hh))
theorem regL (ok:SyOk E) {id:Nat} {tm:T AV} {h:Hp} {Q:Ex->St->Prop} (k1 k2 k3:Nat) (P:List (Nat×Nat)) (hst:qA3 nt ops k1 k2 k3 P=true) (hw: ∀K:Ex->T AV->Hp->Prop,(∀tm h,Q .normal ⟨tm,nt,h,mks⟩->K .normal tm h)->(∀v tm h,Q (.panic v) ⟨tm,nt,h,mks⟩->K (.panic v) tm h)->WOW E nt ops (ops.toList.take k1) 0 0 tm h [] [(0,h.t)] (fun tm1 h1 R1 _=>WOA E ((ops.toList.drop k1).take k2) tm1 h1.n [] (fun tm2 os=>WOW E nt ops ((ops.toList.drop (k1+k2)).take k3) (k1+k2) 0 tm2 {t:=jX h1.t h1.n os,n:=h1.n+k2} R1 [(0,jX h1.t h1.n os)] (fun tm3 h3 R V=>wO E P R V/\WO E nt ops (ops.toList.drop (k1+k2+k3)) tm3 h3 K)))):
  wpc E r (.region id ops true) ⟨tm,nt,h,mks⟩ Q:=by
 show W E r (.region id ops true) ⟨tm,nt,h,mks⟩ Q;exact SemC.drawnL ok.tb ok.mixed k1 k2 k3 P hst (hw _ (fun tm h hh=>hh) (fun v tm h hh=>hh))
end
end Go.Ev
end
namespace Go.Proofs.Kn
open Go Go.Ev
set_option maxRecDepth 100000
set_option maxHeartbeats 4000000
theorem ft33 (xt:Addr->Option Value):(SE xt).ft.get 33=some Tryz.f33:=by kernel_rfl
theorem qBm:Tryz.f33.results.toList=[.tmp 4]:=by kernel_rfl
def Mp.rcBad (m:Mp) (r0 c0 n:Nat) (i j:Nat):Bool:= !decide (m.rc i j=2) || (decide ((j:Int)+1<(c0+n:Nat)) && m.crk i j false || decide ((i:Int)+1<(r0+n:Nat)) && m.crk i j true)
def Mp.rcan (m:Mp) (R C:Nat) (n:Nat) (a b:Int):Bool:=inB a 0 ((R:Int) - n) && (inB b 0 ((C:Int) - n) && (List.range n).all fun i=>(List.range n).all fun j=> !m.rcBad a.toNat b.toNat n (a.toNat+i) (b.toNat+j))
theorem rcan_c (xt:Addr->Option Value) (h:Hp) (w:Wk) (ha:w.At xt h) (R C:Nat) (hm:w.m.Is R C) (hW:w.m.W=C) (a b:Int) (q n:Nat) (th wo:Int) (hx:w.ts[q]? =some ((n:Int),th,wo)) (hn3:n<=3)
  {K:CR->Hp->Prop} (hk: ∀m,h.n<m->K (.ret (.val (.bool (w.m.rcan R C n a b)))) (h.up m)):FnA (SE xt) 33 [w.av,uR (a,b,(q:Int))] h K:=by
 refine FnA.calm ?_ hk;clear hk K;refine FnA.walk (sok xt) (ft33 xt) rfl 91 rfl ?_;have hR6:=hm.r6;have hC8:=hm.c8;have hRR:=hm.hR;obtain ⟨o1,o2,o3,o4,o5⟩:=ha.ones;have hq:q<w.ts.length:=(xZK.1 hx).1;have i1:=ha.ts.idx b8 rfl kZ rfl (i:=q) (by simpa using hq) (k:= .i64);refine qA fun K hn hp=> ?_;simp only [sw.1,rE,reduceIte,rL];apply hn;obtain ⟨h1,hh1⟩: ∃h1:Hp,h1=h.new (.cells w.cs 30):=⟨_,rfl⟩;rw [<-hh1];have nh1:h1.n=h.n+1:=by rw [hh1];rfl
 have sh1:h1.t.get h.n=some (.cells w.cs 30):=by rw [hh1];exact qS _ _
 have kh1: ∀k,k<h.n->h1.t.get k=h.t.get k:=fun k hk=>by rw [hh1];exact qU _ _ hk
 have fbh1:Fr h.n h h1:=by rw [hh1];exact (xZE (xZX _)).new _
 have fh1:=fbh1;obtain ⟨h2,hh2⟩: ∃h2:Hp,h2=h1.new (.cells [iv a,iv b,iv q] 61):=⟨_,rfl⟩;rw [<-hh2];have nh2:h2.n=h1.n+1:=by rw [hh2];rfl
 have sh2:h2.t.get h1.n=some (.cells [iv a,iv b,iv q] 61):=by rw [hh2];exact qS _ _
 have kh2: ∀k,k<h1.n->h2.t.get k=h1.t.get k:=fun k hk=>by rw [hh2];exact qU _ _ hk
 have fbh2:Fr h1.n h1 h2:=by rw [hh2];exact (xZE (xZX _)).new _
 have fh2:Fr h.n h h2:=fh1.trans fbh2 (by omega);simp only [nh1,Nat.add_assoc,rA] at nh2 sh2 kh2;have s1:=(kh2 h.n (by omega)).trans sh1;have ha2:=ha.fr fh2 (xZX _);have hne:w.ts.map Kn.t3≠[]:=by intro e;have:=congrArg List.length e;simp at this;rw [this] at hq;simp at hq
 have i2:=ha2.ts.fa hne kZ rfl (f:=0) (o:=0) (s:=0) (ft:=3) rfl (q*3);have i3:qV tb xt h2 3 (elp w.vt (q*3+0))=some (iv n):=ha2.ts.load tg3 rfl (i:=q) (j:=0) (c:=Kn.t3 ((n:Int),th,wo)) (by rw [xZU,hx];rfl) rfl;have w1:IntKind.i64.wrap ((R:Int) - (n:Int))=(R:Int) - n:=wrap_i64 _ (by omega) (by omega);have w2:IntKind.i64.wrap ((C:Int) - (n:Int))=(C:Int) - n:=wrap_i64 _ (by omega) (by omega);simp only [Nat.add_zero] at i2 i3;refine yT (sok xt) 9 1 1 [(3,1),(5,1),(8,1)] (by kernel_rfl) fun K hn hp=> ?_;have z27:te27.zero.map AV.val=[.val (.slice none 0 0),iv 0,iv 0,.val (.slice none 0 0),.val (.slice none 0 0),.val (.slice none 0 0)]:=rfl;obtain ⟨hA,hhA⟩: ∃hA:Hp,hA={t:=jX h2.t h2.n [.cells [.val (.slice none 0 0),iv 0,iv 0,.val (.slice none 0 0),.val (.slice none 0 0),.val (.slice none 0 0)] 27],n:=h2.n+1}:=⟨_,rfl⟩;have a1:jX h2.t h2.n [.cells [.val (.slice none 0 0),iv 0,iv 0,.val (.slice none 0 0),.val (.slice none 0 0),.val (.slice none 0 0)] 27]=hA.t:=by rw [hhA]
 have a6:hA.n=h2.n+1:=by rw [hhA]
 have a3:hA.t.get h2.n=some (.cells [.val (.slice none 0 0),iv 0,iv 0,.val (.slice none 0 0),.val (.slice none 0 0),.val (.slice none 0 0)] 27):=by rw [<-a1,vJ,xZZ,if_pos rfl]
 have a5: ∀x,x≠h2.n->hA.t.get x=h2.t.get x:=fun x h1=>by rw [<-a1,vJ,xZZ,if_neg h1];rfl
 have y1:=(a5 h.n (by omega)).trans s1;have y2:=(a5 (h.n+1) (by omega)).trans sh2;have fA:Fr h2.n h2 hA:=⟨by omega,by omega,fun x hx=>a5 x (by omega)⟩;have i3A:qV tb xt hA 3 (elp w.vt (q*3))=some (iv n):=(ha2.ts.fr fA (xZX _)).load tg3 rfl (i:=q) (j:=0) (c:=Kn.t3 ((n:Int),th,wo)) (by rw [xZU,hx];rfl) rfl;rw [nh2] at a1 a3;simp only [sw.1,rE,reduceIte,rL,rA,rD,syw.1,o1,o2,o3,o4,i1,sh2,nh2,s1,i2,i3,qEx (E:=SE xt) tg27,z27,a1,a3,y1,y2];have a2:({t:=hA.t,n:=h.n+3}:Hp)=hA:=by
  have e:hA.n=h.n+3:=by omega
  rw [<-e]
 obtain ⟨h3,hh3⟩: ∃h3:Hp,h3=hA.set (h.n+2) (.cells w.m.cs 27):=⟨_,rfl⟩;have nh3:h3.n=h.n+3:=by rw [hh3,Hp.set_n];omega
 have k3: ∀x,x≠h.n+2->h3.t.get x=h2.t.get x:=fun x hx=>by rw [hh3,Hp.set_t,xZZ,if_neg hx];exact a5 x (by omega)
 have t3:h3.t.get (h.n+2)=some (.cells w.m.cs 27):=by rw [hh3,Hp.set_t,xZZ,if_pos rfl]
 have f3:Fr h2.n h2 h3:=⟨by omega,by omega,fun x hx=>k3 x (by omega)⟩;have i3B:qV tb xt h3 3 (elp w.vt (q*3))=some (iv n):=(ha2.ts.fr f3 (xZX _)).load tg3 rfl (i:=q) (j:=0) (c:=Kn.t3 ((n:Int),th,wo)) (by rw [xZU,hx];rfl) rfl;refine ⟨⟨?_,?_,?_⟩,hn _ _ ?_⟩
 ·have:=(aload_t tb xt h3 (h.n+2) 3 (elp w.vt (q*3))).trans i3B;rw [hh3] at this;exact this
 ·rw [if_neg (by omega)];rfl
 ·rw [if_neg (by omega)];rfl
 rw [a2,<-hh3];have fr3:Fr h.n h h3:=fh2.trans f3 (by omega);have ha3:=ha.fr fr3 (xZX _);have u2:=(k3 (h.n+1) (by omega)).trans sh2;refine qD ?_;refine yU (sok xt) 0 0 18 [(1,1),(10,3)] (by kernel_rfl) fun K hn hp=> ?_;simp only [sy.1,rE,reduceIte,rL,rA,syw.1,t3,u2];refine qB (sok xt) (uY xt h3 w.m ha3.m fun n1 hn1=> ?_);simp only [sy.1,rE,reduceIte,rL,rA,syw.1,w1,hn1,hRR];refine qB (sok xt) (vG xt _ _ _ _ fun n2 hn2=> ?_);simp only [xZI] at hn2;cases e1:(decide (0<=a) && decide (a<=(R:Int) - n))
 ·simp only [sy.1,rE,reduceIte,rL,rA,syw.1,u2,hn2,xZV];apply hn;refine qC true (by simp only [sy.1,rE,reduceIte]) (fun _=> ?_) (fun hx=>by cases hx);refine qD ?_;refine qA fun K hn hp=> ?_;simp only [sy.1,rL];apply hn;refine qY (qL qBm ⟨?_,fr3.up (by omega)⟩);have e1':inB a 0 ((R:Int) - n)=false:=e1;simp [xZZ,Mp.rcan,e1']
 simp only [sy.1,rE,reduceIte,rL,rA,syw.1,t3,u2,hn2,xZV];refine qB (sok xt) (xI xt _ w.m (ha3.m.up (by omega)) fun n3 hn3=> ?_);simp only [xZI] at hn3;simp only [sy.1,rE,reduceIte,rL,rA,syw.1,w2,hn3,hW,xZV];refine qB (sok xt) (vG xt _ _ _ _ fun n4 hn4=> ?_);simp only [xZI] at hn4;cases e2:(decide (0<=b) && decide (b<=(C:Int) - n))
 ·simp only [sy.1,rE,reduceIte,rL,rA,syw.1,u2,hn4,xZV];apply hn;refine qC true (by simp only [sy.1,rE,reduceIte]) (fun _=> ?_) (fun hx=>by cases hx);refine qD ?_;refine qA fun K hn hp=> ?_;simp only [sy.1,rL];apply hn;refine qY (qL qBm ⟨?_,fr3.up (by omega)⟩);have e1':inB a 0 ((R:Int) - n)=true:=e1;have e2':inB b 0 ((C:Int) - n)=false:=e2;simp [xZZ,Mp.rcan,e1',e2']
 simp only [sy.1,rE,reduceIte,rL,rA,syw.1,u2,hn4,xZV];apply hn;refine qC false (by simp only [sy.1,rE,reduceIte]) (fun hx=>by cases hx) (fun _=> ?_);refine qH ?_;obtain ⟨za,zb⟩:=xZG.1 e1;have za:=of_decide_eq_true za;have zb:=of_decide_eq_true zb;obtain ⟨zc,zd⟩:=xZG.1 e2;have zc:=of_decide_eq_true zc;have zd:=of_decide_eq_true zd;obtain ⟨r0,rfl⟩: ∃r0:Nat,a=r0:=⟨a.toNat,by omega⟩;obtain ⟨c0,rfl⟩: ∃c0:Nat,b=c0:=⟨b.toNat,by omega⟩;have w3:IntKind.i64.wrap ((r0:Int)+(n:Int))=((r0+n:Nat):Int):=by rw [wrap_i64 _ (by omega) (by omega)];simp
 have w4:IntKind.i64.wrap ((c0:Int)+(n:Int))=((c0+n:Nat):Int):=by rw [wrap_i64 _ (by omega) (by omega)];simp
 have e1':inB (r0:Int) 0 ((R:Int) - n)=true:=e1;have e2':inB (c0:Int) 0 ((C:Int) - n)=true:=e2;have no: ∀i j,r0<=i->i<r0+n->c0<=j->j<c0+n->w.m.rcBad r0 c0 n i j=true->w.m.rcan R C n r0 c0=false:=fun i j h1 h2 h3 h4 h5=>by
  simp only [Mp.rcan,e1',e2',Bool.true_and,xZD];refine yC (p:=fun i'=>(List.range n).all fun j'=> !w.m.rcBad r0 c0 n (r0+i') (c0+j')) (k:=i - r0) (by omega) (yC (p:=fun j'=> !w.m.rcBad r0 c0 n (r0+(i - r0)) (c0+j')) (k:=j - c0) (by omega) ?_);have q1:r0+(i - r0)=i:=by omega
  have q2:c0+(j - c0)=j:=by omega
  show (!w.m.rcBad r0 c0 n (r0+(i - r0)) (c0+(j - c0)))=false;rw [q1,q2,h5];rfl
 refine qD ?_;refine qA fun K hn hp=> ?_;simp only [sy.1,rE,reduceIte,rL,u2];apply hn;refine qF fun KA A1 A2 A3 A4 A5=> ?_;refine qP (sok xt) (fun st=> ∃(i:Nat) (m:Nat) (tm:T AV),st=⟨tm,91,h3.up m,[]⟩/\i<=(r0+n)/\tm.get 2=some (.ptr h.n 0)/\tm.get 3=some (.ptr (h.n+1) 0)/\tm.get 5=some (.ptr (h.n+2) 0)/\tm.get 6=some (iv n)/\tm.get 7=some (iv i)/\h3.n<=m/\r0<=i/\ ∀i',r0<=i'->i'<i-> ∀j',c0<=j'->j'<c0+n->w.m.rcBad r0 c0 n i' j'=false) (fun st=>(r0+n) - (match st.tm.get 7 with|some (.val (.int _ n))=>n.toNat|_=>0)) ?_ ?_
 ·rintro st ⟨i,m,tm,rfl,hkA,g2,g3,g5,g6,g7,hm1,hi0,hall⟩;have muA:=g7;refine qD ?_;refine qA fun K hn hp=> ?_;simp only [sy.1,rE,reduceIte,rL,u2,w3,jA,g3,g6,g7];apply hn;by_cases hi:i<r0+n
  ·refine qC true (by simp only [sy.1,rE,reduceIte,hi]) (fun _=> ?_) (fun hx=>by cases hx);refine qH ?_;refine qF fun KB B1 B2 B3 B4 B5=> ?_;refine qA fun K hn hp=> ?_;simp only [sy.1,rE,reduceIte,rL,u2,g3];apply hn;refine jL fun KD D1 D2 D3 D4 D5=> ?_;refine qP (sok xt) (fun st=> ∃(j:Nat) (m2:Nat) (tm:T AV),st=⟨tm,91,h3.up m2,[]⟩/\j<=(c0+n)/\tm.get 2=some (.ptr h.n 0)/\tm.get 3=some (.ptr (h.n+1) 0)/\tm.get 5=some (.ptr (h.n+2) 0)/\tm.get 6=some (iv n)/\tm.get 7=some (iv i)/\tm.get 8=some (iv j)/\h3.n<=m2/\c0<=j/\ ∀j',c0<=j'->j'<j->w.m.rcBad r0 c0 n i j'=false) (fun st=>(c0+n) - (match st.tm.get 8 with|some (.val (.int _ n))=>n.toNat|_=>0)) ?_ ?_
   ·rintro st ⟨j,m2,tm,rfl,hkD,g2,g3,g5,g6,g7,g8,hm2,hj0,hallj⟩;have muD:=g8;refine qD ?_;refine qA fun K hn hp=> ?_;simp only [sy.1,rE,reduceIte,rL,u2,w4,jA,g3,g6,g8];apply hn;by_cases hj:j<c0+n
    ·refine qC true (by simp only [sy.1,rE,reduceIte,hj]) (fun _=> ?_) (fun hx=>by cases hx);refine qH ?_;refine qF fun KE E1 E2 E3 E4 E5=> ?_;have w5:IntKind.i64.wrap ((j:Int)+1)=((j+1:Nat):Int):=by rw [wrap_i64 _ (by omega) (by omega)];simp
     have w6:IntKind.i64.wrap ((i:Int)+1)=((i+1:Nat):Int):=by rw [wrap_i64 _ (by omega) (by omega)];simp
     have next: ∀(tm:T AV) (m3:Nat),h3.n<=m3->w.m.rcBad r0 c0 n i j=false->tm.get 2=some (.ptr h.n 0)->tm.get 3=some (.ptr (h.n+1) 0)->tm.get 5=some (.ptr (h.n+2) 0)->tm.get 6=some (iv n)->tm.get 7=some (iv i)->tm.get 8=some (iv j)->KE .normal ⟨tm,91,h3.up m3,[]⟩:=by
      intro tm m3 hm3 hb g2 g3 g5 g6 g7 g8;refine E1 _ ?_;refine reg fun K hn hp=> ?_;simp only [sy.1,rE,reduceIte,rL,g8,qK hj (show c0+n<=9223372036854775807 by omega)];apply hn;refine ⟨⟨j+1,m3,_,rfl,by omega,(by simp [xZZ,g2]),(by simp [xZZ,g3]),(by simp [xZZ,g5]),(by simp [xZZ,g6]),(by simp [xZZ,g7]),(by simp [xZZ]),hm3,by omega,fun j' h1 h2=> ?_⟩,by simpa [xZZ,muD] using (by omega:(c0+n) - (j+1)<(c0+n) - j)⟩;by_cases e:j'=j
      ·rw [e];exact hb
      ·exact hallj j' h1 (by omega)
     refine qA fun K hn hp=> ?_;simp only [sy.1,rE,reduceIte,rL,rA,t3,g5,g7,g8];refine qB (sok xt) (rc_c xt _ w.m (ha3.m.up hm2) i j fun n5 hn5=> ?_);simp only [xZI] at hn5;cases c1:decide (w.m.rc i j=2)
     ·simp only [sy.1,rE,reduceIte,rL,syw.1,c1,xZV];apply hn;refine qG true (by simp only [sy.1,rE,reduceIte]) (fun _=> ?_) (fun hx=>by cases hx);refine qA fun K hn hp=> ?_;simp only [sy.1,rL];apply hn;refine qE (E4 _ (D4 _ (B4 _ (A4 _ (qL qBm ⟨?_,fr3.up (by omega)⟩)))));simp [xZZ,no i j hi0 hi hj0 hj (by simp [Mp.rcBad,c1])]
     have r1:decide ((j:Int)+1<((c0+n:Nat):Int))=decide (j+1<c0+n):=decide_eq_decide.2 (by omega);have r2:decide ((i:Int)+1<((r0+n:Nat):Int))=decide (i+1<r0+n):=decide_eq_decide.2 (by omega);by_cases d1:j+1<c0+n
     ·simp only [sy.1,rE,reduceIte,rL,rA,t3,u2,w4,jA,g3,g5,g6,g7,g8,c1,w5,d1,xZV];refine qB (sok xt) (qAp xt _ w.m (ha3.m.up (by omega)) i j false fun n6 hn6=> ?_);simp only [xZI] at hn6;cases c2:w.m.crk i j false
      rotate_left
      ·simp only [sy.1,rE,reduceIte,rL,syw.1,xZV];apply hn;refine qG true (by simp only [sy.1,rE,reduceIte]) (fun _=> ?_) (fun hx=>by cases hx);refine qA fun K hn hp=> ?_;simp only [sy.1,rL];apply hn;refine qE (E4 _ (D4 _ (B4 _ (A4 _ (qL qBm ⟨?_,fr3.up (by omega)⟩)))));simp [xZZ,no i j hi0 hi hj0 hj (by simp only [Mp.rcBad,c1,r1,r2];simp [*])]
      by_cases d2:i+1<r0+n
      ·simp only [sy.1,rE,reduceIte,rL,rA,t3,u2,w3,jA,g3,g5,g6,g7,g8,w6,d2,xZV];refine qB (sok xt) (qAp xt _ w.m (ha3.m.up (by omega)) i j true fun n7 hn7=> ?_);simp only [xZI] at hn7;cases c3:w.m.crk i j true
       rotate_left
       ·simp only [sy.1,rE,reduceIte,rL,xZV];apply hn;refine qG true (by simp only [sy.1,rE,reduceIte]) (fun _=> ?_) (fun hx=>by cases hx);refine qA fun K hn hp=> ?_;simp only [sy.1,rL];apply hn;refine qE (E4 _ (D4 _ (B4 _ (A4 _ (qL qBm ⟨?_,fr3.up (by omega)⟩)))));simp [xZZ,no i j hi0 hi hj0 hj (by simp only [Mp.rcBad,c1,r1,r2];simp [*])]
       simp only [sy.1,rE,reduceIte,rL,xZV];apply hn;refine qG false (by simp only [sy.1,rE,reduceIte]) (fun hx=>by cases hx) (fun _=> ?_);refine qT (next _ n7 (by omega) (by simp only [Mp.rcBad,c1,r1,r2];simp [*]) ?_ ?_ ?_ ?_ ?_ ?_);all_goals simp [xZZ,g2,g3,g5,g6,g7,g8]
      ·skip
       simp only [sy.1,rE,reduceIte,rL,u2,w3,jA,g3,g6,g7,w6,d2,xZV];apply hn;refine qG false (by simp only [sy.1,rE,reduceIte]) (fun hx=>by cases hx) (fun _=> ?_);refine qT (next _ n6 (by omega) (by simp only [Mp.rcBad,c1,r1,r2];simp [*]) ?_ ?_ ?_ ?_ ?_ ?_);all_goals simp [xZZ,g2,g3,g5,g6,g7,g8]
     ·skip
      by_cases d2:i+1<r0+n
      ·simp only [sy.1,rE,reduceIte,rL,rA,t3,u2,w3,w4,jA,g3,g5,g6,g7,g8,c1,w5,w6,d1,d2,xZV];refine qB (sok xt) (qAp xt _ w.m (ha3.m.up (by omega)) i j true fun n7 hn7=> ?_);simp only [xZI] at hn7;cases c3:w.m.crk i j true
       rotate_left
       ·simp only [sy.1,rE,reduceIte,rL,xZV];apply hn;refine qG true (by simp only [sy.1,rE,reduceIte]) (fun _=> ?_) (fun hx=>by cases hx);refine qA fun K hn hp=> ?_;simp only [sy.1,rL];apply hn;refine qE (E4 _ (D4 _ (B4 _ (A4 _ (qL qBm ⟨?_,fr3.up (by omega)⟩)))));simp [xZZ,no i j hi0 hi hj0 hj (by simp only [Mp.rcBad,c1,r1,r2];simp [*])]
       simp only [sy.1,rE,reduceIte,rL,xZV];apply hn;refine qG false (by simp only [sy.1,rE,reduceIte]) (fun hx=>by cases hx) (fun _=> ?_);refine qT (next _ n7 (by omega) (by simp only [Mp.rcBad,c1,r1,r2];simp [*]) ?_ ?_ ?_ ?_ ?_ ?_);all_goals simp [xZZ,g2,g3,g5,g6,g7,g8]
      ·skip
       simp only [sy.1,rE,reduceIte,rL,u2,w3,w4,jA,g3,g6,g7,g8,c1,w5,w6,d1,d2,xZV];apply hn;refine qG false (by simp only [sy.1,rE,reduceIte]) (fun hx=>by cases hx) (fun _=> ?_);refine qT (next _ n5 (by omega) (by simp only [Mp.rcBad,c1,r1,r2];simp [*]) ?_ ?_ ?_ ?_ ?_ ?_);all_goals simp [xZZ,g2,g3,g5,g6,g7,g8]
    ·refine qC false (by simp only [sy.1,rE,reduceIte,hj]) (fun hx=>by cases hx) (fun _=> ?_);refine qM (D2 _ ?_);refine B1 _ ?_;refine reg fun K hn hp=> ?_;simp only [sy.1,rE,reduceIte,rL,g7,qK hi (show r0+n<=9223372036854775807 by omega)];apply hn;refine ⟨⟨i+1,m2,_,rfl,by omega,(by simp [xZZ,g2]),(by simp [xZZ,g3]),(by simp [xZZ,g5]),(by simp [xZZ,g6]),(by simp [xZZ]),hm2,by omega,fun i' h1 h2 j' h3 h4=> ?_⟩,by simpa [xZZ,muA] using (by omega:(r0+n) - (i+1)<(r0+n) - i)⟩;by_cases e:i'=i
     ·rw [e];exact hallj j' h3 (by omega)
     ·exact hall i' h1 (by omega) j' h3 h4
   ·exact ⟨c0,m,_,rfl,(by omega),(by simp [xZZ,g2]),(by simp [xZZ,g3]),(by simp [xZZ,g5]),(by simp [xZZ,g6]),(by simp [xZZ,g7]),(by simp [xZZ]),hm1,xZX _,fun j' h1 h2=>absurd h1 (by omega)⟩
  ·refine qC false (by simp only [sy.1,rE,reduceIte,hi]) (fun hx=>by cases hx) (fun _=> ?_);refine qM (A2 _ ?_);refine qA fun K hn hp=> ?_;simp only [sy.1,rL];apply hn;refine qE (qL qBm ⟨?_,fr3.up (by omega)⟩);have:w.m.rcan R C n r0 c0=true:=by
    simp only [Mp.rcan,e1',e2',Bool.true_and,xZD];exact yO fun i' h1=>yO fun j' h2=>by rw [hall (r0+i') (by omega) (by omega) (c0+j') (by omega) (by omega)];rfl
   simp [xZZ,this]
 ·exact ⟨r0,n4,_,rfl,(by omega),(by simp [xZZ]),(by simp [xZZ]),(by simp [xZZ]),(by simp [xZZ]),(by simp [xZZ]),by omega,xZX _,fun i' h1 h2=>absurd h1 (by omega)⟩
end Go.Proofs.Kn
namespace Go.Proofs.Kn
open Go Go.Ev
set_option maxRecDepth 100000
set_option maxHeartbeats 4000000
theorem ft111 (xt:Addr->Option Value):(SE xt).ft.get 111=some Tryz.f111:=by kernel_rfl
theorem res111:Tryz.f111.results.toList=[.tmp 6]:=by kernel_rfl
theorem slices_c (xt:Addr->Option Value) (h:Hp) (w:Wk) (ha:w.At xt h) (v:AV) (hv:Go.Ev.one v=true) (a b:Int) (q:Nat) (n th wo:Int) (hx:w.ts[q]? =some (n,th,wo)) (hk1:0<=w.kerf) (hk2:w.kerf<=5) (ht1:1<=th) (ht2:th<=60) (bk:Int) (b1:bk<=60) (b2:0<=bk)
  {K:CR->Hp->Prop} (hk: ∀m,h.n<m->K (.ret (iv ((bk+w.kerf).tdiv (th+w.kerf)))) (h.up m)):FnA (SE xt) 111 [.agg (w.bc v),uR (a,b,(q:Int)),iv bk] h K:=by
 refine FnA.calm ?_ hk;clear hk K;refine FnA.walk (sok xt) (ft111 xt) rfl 25 rfl ?_;obtain ⟨o1,o2,o3,o4,o5⟩:=ha.ones;have hq:q<w.ts.length:=(xZK.1 hx).1;have i1:=ha.ts.idx b8 rfl kZ rfl (i:=q) (by simpa using hq) (k:= .i64);refine qA fun K hn hp=> ?_;simp only [sw.1,rE,reduceIte,rL,rA];apply hn;obtain ⟨h1,hh1⟩: ∃h1:Hp,h1=h.new (.cells (w.bc v) 121):=⟨_,rfl⟩;rw [<-hh1];have nh1:h1.n=h.n+1:=by rw [hh1];rfl
 have sh1:h1.t.get h.n=some (.cells (w.bc v) 121):=by rw [hh1];exact qS _ _
 have kh1: ∀k,k<h.n->h1.t.get k=h.t.get k:=fun k hk=>by rw [hh1];exact qU _ _ hk
 have fbh1:Fr h.n h h1:=by rw [hh1];exact (xZE (xZX _)).new _
 have fh1:=fbh1;obtain ⟨h2,hh2⟩: ∃h2:Hp,h2=h1.new (.cells [iv a,iv b,iv q] 61):=⟨_,rfl⟩;rw [<-hh2];have nh2:h2.n=h1.n+1:=by rw [hh2];rfl
 have sh2:h2.t.get h1.n=some (.cells [iv a,iv b,iv q] 61):=by rw [hh2];exact qS _ _
 have kh2: ∀k,k<h1.n->h2.t.get k=h1.t.get k:=fun k hk=>by rw [hh2];exact qU _ _ hk
 have fbh2:Fr h1.n h1 h2:=by rw [hh2];exact (xZE (xZX _)).new _
 have fh2:Fr h.n h h2:=fh1.trans fbh2 (by omega);simp only [nh1,Nat.add_assoc,rA] at nh2 sh2 kh2;have s1:=(kh2 h.n (by omega)).trans sh1;have ha2:=ha.fr fh2 (xZX _);have hne:w.ts.map Kn.t3≠[]:=by intro e;have:=congrArg List.length e;simp at this;rw [this] at hq;simp at hq
 have i2:=ha2.ts.fa hne kZ rfl (f:=1) (o:=1) (s:=0) (ft:=3) rfl (q*3);have i3:qV tb xt h2 3 (elp w.vt (q*3+1))=some (iv th):=ha2.ts.load tg3 rfl (i:=q) (j:=1) (c:=Kn.t3 (n,th,wo)) (by rw [xZU,hx];rfl) rfl;have w3:IntKind.i64.wrap (bk+w.kerf)=bk+w.kerf:=wrap_i64 _ (by omega) (by omega);have w4:IntKind.i64.wrap (th+w.kerf)=th+w.kerf:=wrap_i64 _ (by omega) (by omega);have e5:(bk+w.kerf).tdiv (th+w.kerf)=(bk+w.kerf) / (th+w.kerf):=Int.tdiv_eq_ediv_of_nonneg (by omega);have e6:=Int.ediv_nonneg (a:=bk+w.kerf) (b:=th+w.kerf) (by omega) (by omega);have e7:=Int.ediv_le_self (th+w.kerf) (show 0<=bk+w.kerf by omega);have w5:IntKind.i64.wrap ((bk+w.kerf).tdiv (th+w.kerf))=(bk+w.kerf).tdiv (th+w.kerf):=wrap_i64 _ (by omega) (by omega);refine kD (sok xt) 19 (by kernel_rfl) fun K hn hp=> ?_;simp only [sy.1,rE,reduceIte,rL,i1,sh2,s1,i2,i3,w3,w4,qEt _ _ (show th+w.kerf≠0 by omega),w5];refine hn _ _ (qE (qL res111 ⟨?_,fh2⟩));simp [xZZ]
end Go.Proofs.Kn
noncomputable section
namespace Go.Ev
section
variable {E:Env} {nt:Nat} {ops:Array Oper}
end
section
variable {E:Env} {nt:Nat} {ops:Array Oper} {r:Option Nat} {mks:List Nat}
end
end Go.Ev
end
