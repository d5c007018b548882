/- MvK6, SyDraw6, MvK7, MvK8, SyDraw7: texts in a row, joined by a program. -/
import Derived.Test.YtnmfblokfponlaaGreatDoorQU
import Derived.Test.YtnmfblokfponlaaGreatDoorQC
set_option linter.all false
open Nat renaming reduceEqDiff → rE, reduceLeDiff → rD, reduceAdd → rA, reduceMul → rM, reduceLT → rL
open Go.Ev.T renaming get_put → xZZ
open List renaming all_eq_true → xZY, mem_cons_of_mem → xZX, mem_cons_self → xZT, getElem?_map → xZP, take_append_drop → xZO, mem_cons → xZN, getElem?_eq_some_iff → xZM, range' → xZJ, append_assoc → xZI, getElem?_append_left → xZH, drop_drop → xZG
open Nat renaming le_refl → xZW, eq_of_beq_eq_true → xZR, eq_zero_or_pos → xZQ, le_of_ble_eq_true → xZK, lt_irrefl → xZE, zero_add → xZD
open Array renaming getElem?_toList → xZV
open Bool renaming and_eq_true → xZU, and_eq_true_iff → xZC, false_eq_true → xZB
open Go.Ev.Hp renaming up_up → xZS, up_n → xZF
open Option renaming bind_some → xZL
open Go.Ev.Fr renaming refl → xZA
open Int renaming toNat_natCast → xYZ
namespace Go.Proofs.Kn
open Go Go.Ev
set_option maxRecDepth 100000
set_option maxHeartbeats 4000000
theorem eqi50 (d:Nat) (a b c e:Int) (x y:Bool):qM Tryz.prog (Op.equalIn (d+1+1) 50 (.agg #[.int .i64 a,.int .i64 b,.bool x]) (.agg #[.int .i64 c,.int .i64 e,.bool y]))=some (decide (a=c) && (decide (b=e) && decide (x=y))):=by
 have h1:qM Tryz.prog (underlying 50)=some (TypeDesc.struct #[{name:= "Row",type:=3,offset:=0,embedded:=false,tag:= "",pkgPath:= "",byteOffset:=0},{name:= "Column",type:=3,offset:=1,embedded:=false,tag:= "",pkgPath:= "",byteOffset:=8},{name:= "Down",type:=4,offset:=2,embedded:=false,tag:= "",pkgPath:= "",byteOffset:=16}]):=by kernel_rfl
 have h2:Tryz.prog.stoodInHeld 50=false:=by kernel_rfl
 have h3: ∀d a b,qM Tryz.prog (Op.equalIn (d+1) 3 (.int .i64 a) (.int .i64 b))=some (a==b):=fun d a b=>by
  have:qM Tryz.prog (underlying 3)=some (.int .i64):=by kernel_rfl
  rw [Op.equalIn];simp only [jQ,this,xZL,if_true,jH]
 have h4: ∀d a b,qM Tryz.prog (Op.equalIn (d+1) 4 (.bool a) (.bool b))=some (a==b):=fun d a b=>eqib d 4 (by kernel_rfl) a b;have p1: ∀a b x,qM Tryz.prog (part 3 #[.int .i64 a,.int .i64 b,.bool x] 0)=some (.int .i64 a):=fun a b x=>by kernel_rfl
 have p2: ∀a b x,qM Tryz.prog (part 3 #[.int .i64 a,.int .i64 b,.bool x] 1)=some (.int .i64 b):=fun a b x=>by kernel_rfl
 have p3: ∀a b x,qM Tryz.prog (part 4 #[.int .i64 a,.int .i64 b,.bool x] 2)=some (.bool x):=fun a b x=>by kernel_rfl
 rw [Op.equalIn];simp only [jQ,h1,xZL,vP,h2,xZB,if_false];rw [<-Array.forIn_toList];simp only [List.forIn_cons,List.forIn_nil,jQ,zH,p1,h3,xZL,jH];by_cases q1:a=c
 ·by_cases q2:b=e
  ·by_cases q3:x=y
   ·simp [q1,q2,q3,jH,jQ,p2,p3,h3,h4,zH]
   ·simp [q1,q2,q3,jH,jQ,p2,p3,h3,h4,zH]
  ·simp [q1,q2,jH,jQ,p2,h3,zH]
 ·simp [q1,jH]
theorem eql50 (ox oy:Operand) (a b c e:Int) (x y:Bool):yW Tryz.prog tb .eql 50 ox oy (.agg [.val (.int .i64 a),.val (.int .i64 b),.val (.bool x)]) (.agg [.val (.int .i64 c),.val (.int .i64 e),.val (.bool y)])=some (.val (.bool (decide (a=c) && (decide (b=e) && decide (x=y))))):=by
 have h:=eqi50 9998 a b c e x y;have hq:qM Tryz.prog (Op.equal 50 (.agg #[.int .i64 a,.int .i64 b,.bool x]) (.agg #[.int .i64 c,.int .i64 e,.bool y]))=some (decide (a=c) && (decide (b=e) && decide (x=y))):=h;have hg:qM Tryz.prog (eqGuard .eql 50 ox oy (.agg #[.int .i64 a,.int .i64 b,.bool x]) (.agg #[.int .i64 c,.int .i64 e,.bool y]))=some ():=by
  have h1:Tryz.prog.eqGuardType Tryz.prog.depth 50=false:=by kernel_rfl
  simp [eqGuard,jQ,jH,vP,zH,h1]
 simp only [yW,toVal,toVals,jQ,hg,xZL,binOp,hq,jH]
theorem bd50 (a b:Int) (x:Bool):vJ tb 50 [(0,iv a),(1,iv b),(2,.val (.bool x))]=some (.agg [iv a,iv b,.val (.bool x)]):=by kernel_rfl
theorem ft88 (xt:Addr->Option Value):(SE xt).ft.get 88=some Tryz.f88:=by kernel_rfl
theorem res88:Tryz.f88.results.toList=[.tmp 8]:=by kernel_rfl
def Mp.crk (m:Mp) (r c:Int) (b:Bool):Bool:=m.ks.any fun k=>decide (k.1=r) && (decide (k.2.1=c) && decide (k.2.2=b))
theorem qAh (xt:Addr->Option Value) (h:Hp) (m:Mp) (ha:m.At xt h) (r c:Int) (b:Bool) {K:CR->Hp->Prop} (hk: ∀n,h.n<n->K (.ret (.val (.bool (m.crk r c b)))) (h.up n)):FnA (SE xt) 88 [m.av,iv r,iv c,.val (.bool b)] h K:=by
 refine FnA.calm ?_ hk;clear hk K;refine FnA.walk (sok xt) (ft88 xt) rfl 27 rfl ?_;obtain ⟨o1,o2,o3,o4,o5⟩:=ha.wk.ones;have hlk:=ha.lk;have hlen: ∀h',vF tb h' 24 m.vk=some m.ks.length:=fun h'=>by
  have:=ha.ks.len (h':=h') tg24 rfl;simpa using this
 refine qA fun K hn hp=> ?_;simp only [sw.1,rE,reduceIte,rL,rA];apply hn;obtain ⟨h1,hh1⟩: ∃h1:Hp,h1=h.new (.cells m.cs 27):=⟨_,rfl⟩;rw [<-hh1];have nh1:h1.n=h.n+1:=by rw [hh1];rfl
 have sh1:h1.t.get h.n=some (.cells m.cs 27):=by rw [hh1];exact qX _ _
 have kh1: ∀k,k<h.n->h1.t.get k=h.t.get k:=fun k hk=>by rw [hh1];exact qW _ _ hk
 have fbh1:Fr h.n h h1:=by rw [hh1];exact (xZA (xZW _)).new _
 have fh1:=fbh1;have ha1:=ha.fr fh1 (xZW _);refine qE ?_;refine qA fun K hn hp=> ?_;simp only [sy.1,rL];apply hn;refine qF fun KA A1 A2 A3 A4 A5=> ?_;refine qS (sok xt) (fun st=> ∃(i:Nat) (tm:T AV),st=⟨tm,27,h1,[]⟩/\i<=m.ks.length/\tm.get 1=some (iv r)/\tm.get 2=some (iv c)/\tm.get 3=some (.val (.bool b))/\tm.get 4=some (.ptr h.n 0)/\tm.get 9=some (iv i)/\ ∀x∈m.ks.take i,(decide (x.1=r) && (decide (x.2.1=c) && decide (x.2.2=b)))=false) (fun st=>m.ks.length - (match st.tm.get 9 with|some (.val (.int _ n))=>n.toNat|_=>0)) ?_ ?_
 ·rintro st ⟨i,tm,rfl,hkA,g1,g2,g3,g4,g9,hall⟩;have muA:=g9;refine qE ?_;refine qA fun K hn hp=> ?_;simp only [sy.1,rE,reduceIte,rL,syw.1,hlen,jR,sh1,g4,g9];apply hn;by_cases hi:i<m.ks.length
  ·refine qC true (by simp only [sy.1,rE,reduceIte,hi]) (fun _=> ?_) (fun hx=>by cases hx);obtain ⟨x,hx⟩: ∃x,m.ks[i]? =some x:=⟨_,List.getElem?_eq_getElem hi⟩;have i1:=ha1.ks.idx tg24 rfl qAK rfl (i:=i) (by simpa using hi) (k:= .i64);have i2:=ha1.ks.loadA qAK rfl rfl (i:=i) (c:=Kn.k3 x) (by rw [xZP,hx];rfl);obtain ⟨xr,xc,xb⟩:=x;simp only [Kn.k3,List.map_cons,List.map_nil] at i2;refine qI ?_;refine qF fun KB B1 B2 B3 B4 B5=> ?_;refine qA fun K hn hp=> ?_;simp only [sy.1,rE,reduceIte,rL,sh1,g1,g2,g3,g4,g9,i1,i2,bd50,eql50];apply hn;cases q:(decide (xr=r) && (decide (xc=c) && decide (xb=b)))
   ·refine qH false (by simp only [sy.1,rE,reduceIte]) (fun hx=>by cases hx) (fun _=> ?_);refine qY (B1 _ ?_);refine reg fun K hn hp=> ?_;simp only [sy.1,rE,reduceIte,rL,g9,qQ hi hlk];apply hn;refine ⟨⟨i+1,_,rfl,by omega,(by simp [xZZ,g1]),(by simp [xZZ,g2]),(by simp [xZZ,g3]),(by simp [xZZ,g4]),(by simp [xZZ]),?_⟩,by simpa [xZZ,muA] using (by omega:m.ks.length - (i+1)<m.ks.length - i)⟩;rw [List.take_succ,hx];intro y hy;simp only [Option.toList_some,List.mem_append,List.mem_singleton] at hy;rcases hy with hy|rfl
    ·exact hall y hy
    ·exact q
   ·refine qH true (by simp only [sy.1,rE,reduceIte]) (fun _=> ?_) (fun hx=>by cases hx);refine qA fun K hn hp=> ?_;simp only [sy.1,rL];apply hn;refine qD (B4 _ (A4 _ (qK res88 ⟨?_,fh1⟩)));have:m.crk r c b=true:=List.any_eq_true.2 ⟨_,List.mem_of_getElem? hx,q⟩;simp [xZZ,this]
  ·refine qC false (by simp only [sy.1,rE,reduceIte,hi]) (fun hx=>by cases hx) (fun _=> ?_);refine qR (A2 _ ?_);refine qA fun K hn hp=> ?_;simp only [sy.1,rL];apply hn;refine qD (qK res88 ⟨?_,fh1⟩);have:m.crk r c b=false:=by
    unfold Mp.crk;rw [List.any_eq_false];intro x hx;have:=hall x (by rw [List.take_of_length_le (by omega)];exact hx);rw [this];exact Bool.false_ne_true
   simp [xZZ,this]
 ·exact ⟨0,_,rfl,(by omega),(by simp [xZZ]),(by simp [xZZ]),(by simp [xZZ]),(by simp [xZZ]),(by simp [xZZ]),fun x hx=>absurd hx (by simp)⟩
end Go.Proofs.Kn
noncomputable section
namespace Go.Ev
def uJ (AL:List Nat) (N:Nat):List Oper->List Nat->Nat->Nat->Nat->Nat->List SRd->List SVe->Option (List (List SRd×List SVe))
 |[],_,_,ne,mj,_,SR,SV=>some [(SR,(ne,mj,N)::SV)]
 |_::_,[],_,_,_,_,_,_=>none
 |o::ol,m::ms,i,ne,mj,dl,SR,SV=>
  bif calm o.op then
   (match jC o.op with
   | .read=>bif AL.all (bt m) then uJ AL N ol ms (i+1) ne mj dl ((i,m,ne)::SR) SV else none
   |_=>uJ AL N ol ms (i+1) ne mj dl SR SV)
  else bif zQ o.op && (Nat.beq ne 0 || bt m dl) && AL.all (bt m) then
   (match o.guard with
   |none=>uJ AL N ol ms (i+1) (ne+1) m i SR ((ne,mj,i)::SV)
   |some _=>match uJ AL N ol ms (i+1) ne mj dl SR SV with
    |none=>none
    |some a=>match uJ AL N ol ms (i+1) (ne+1) m i SR ((ne,mj,i)::SV) with
     |none=>none
     |some b=>some (a++b))
   else none
section
variable {E:Env} {nt:Nat} {ops:Array Oper}
theorem xN {AL:List Nat} {h0 HA:T AO} {FS:List FE} {N:Nat} (hall: ∀q:Nat->Bool,(∀f∈AL,q f=true)->ovl q FS h0=HA) (hno: ∀(q:Nat->Bool) (b:T AO),(∀f∈AL,q f=false)->ovl q FS b=b) {Q:T AV->Hp->List RdE->List (Nat×T AO)->Prop}:
  ∀(ol:List Oper) (ms:List Nat) (i ne mj dl:Nat) (tm:T AV) (h:Hp) (R:List RdE) (V:List (Nat×T AO)) (SR:List SRd) (SV:List SVe) (st:DS) (L:List (List SRd×List SVe)),WOW E nt ops ol i ne tm h R V Q->uJ AL N ol ms i ne mj dl SR SV=some L->WInv E AL h0 HA FS i ne mj dl tm h R V SR SV st->
  ∃p∈L,∃call st' ne' mj' dl' tm' h' R' V' SV',jP E.P E.xt call/\((∀fv args k r,call fv args k=some r->h.n<=k.n/\k.n<h'.n)/\h.n<=h'.n)/\vM E.P E.tb E.xt call ops ol ms st=some st'/\WInv E AL h0 HA FS (i+ol.length) ne' mj' dl' tm' h' R' V' p.1 SV' st'/\p.2=(ne',mj',N)::SV'/\Q tm' h' R' V'
 |[],ms,i,ne,mj,dl,tm,h,R,V,SR,SV,st,L,hw,hc,I=>by
  simp only [uJ,Option.some.injEq] at hc;subst hc;exact ⟨(SR,(ne,mj,N)::SV),xZT,uW,st,ne,mj,dl,tm,h,R,V,SV,vN _ _,⟨fun _ _ _ _ hx=>(by cases hx),xZW _⟩,rfl,I,rfl,hw⟩
 |o::ol,[],i,ne,mj,dl,tm,h,R,V,SR,SV,st,L,hw,hc,I=>by simp [uJ] at hc
 |o::ol,m::ms,i,ne,mj,dl,tm,h,R,V,SR,SV,st,L,hw,hc,I=>by
  simp only [WOW] at hw;obtain ⟨_,hw⟩:=hw;have hput: ∀{v:AV} {N:T AV->Prop},putK nt tm o.dst v N->N (yP tm o.dst v):=fun {v N} hp=>by
   unfold putK at hp;unfold yP;split at hp
   ·rename_i hd;rw [hd];exact hp
   ·rename_i d hd;rw [hd];exact hp.2
  have hlen:i+(o::ol).length=(i+1)+ol.length:=by simp;omega
  rw [hlen];simp only [uJ] at hc;cases haw:qO ops o tm with
  |false=>
   rw [haw] at hw;simp only [cond_false] at hw;have hw:=hput hw;have hd: ∀call,jE E.P E.tb E.xt call ops o m st=some (upd o m st default {t:= .e,n:=st.n} .new):=fun call=>by
    unfold jE zI;rw [I.ftm,haw];rfl
   obtain ⟨SR2,L2,hc2,hsub,hLs⟩: ∃SR2 L2,uJ AL N ol ms (i+1) ne mj dl SR2 SV=some L2/\(∀x∈SR,x∈SR2)/\ ∀x∈L2,x∈L:=by
    cases hcal:calm o.op with
    |true=>
     rw [hcal] at hc;simp only [cond_true] at hc;split at hc
     ·obtain ⟨_,hc⟩:=qV hc;exact ⟨_,_,hc,fun x hx=>xZX _ hx,fun x hx=>hx⟩
     ·exact ⟨_,_,hc,fun x hx=>hx,fun x hx=>hx⟩
    |false=>
     rw [hcal] at hc;simp only [cond_false] at hc;obtain ⟨_,hc⟩:=qV hc;split at hc
     ·rename_i hg;unfold qO at haw;rw [hg] at haw;cases haw
     ·split at hc
      ·cases hc
      ·rename_i a ha;split at hc
       ·cases hc
       ·rename_i b hb;simp only [Option.some.injEq] at hc;subst hc;exact ⟨_,_,ha,fun x hx=>hx,fun x hx=>List.mem_append_left _ hx⟩
   obtain ⟨p,hpL,call,st',ne',mj',dl',tm',h',R',V',SV',c1,c2,r1,r2⟩:=xN hall hno ol ms (i+1) ne mj dl _ h R V SR2 SV (upd o m st default {t:= .e,n:=st.n} .new) _ hw hc2
    ⟨by simp [upd,I.fi],by simp [upd,I.ftm],by simp [upd,I.fn],by simp [upd,I.fne],by simp [upd,I.fmj],by simpa [upd] using I.fdl,by simp [upd,I.ffs],fun hz=>by simpa [upd] using I.fz hz,fun hz=>by simpa [upd] using I.fs hz,fun r hr=>by have:=I.frs r (by simpa [upd] using hr);exact ⟨hsub _ this.1,this.2⟩,fun e he=>I.fbs e (by simpa [upd] using he),I.fv⟩
   exact ⟨p,hLs p hpL,call,st',ne',mj',dl',tm',h',R',V',SV',c1,c2,by rw [jA,hd];exact r1,r2⟩
  |true=>
   rw [haw] at hw;simp only [cond_true] at hw;cases hcal:calm o.op with
   |true=>
    rw [hcal] at hc;simp only [cond_true] at hc;obtain ⟨call0,res,_,hop,hk⟩:=hw.ev;rw [jX rfl hcal] at hop;cases ha:aop E.P E.tb E.xt (qG tm) o.op h with
    |none=>rw [ha] at hop;cases hop
    |some p=>
     obtain ⟨v,h1⟩:=p;rw [ha] at hop;simp only [uN,Option.some.injEq] at hop;subst hop;simp only [qAp,pR hcal,cond_false] at hk;obtain ⟨rfl,hk⟩:=hk;have hk:=hput hk;rcases wR hcal with hkd|hkd
     ·obtain ⟨_,e2⟩:=bG hcal hkd ha;rw [hkd] at hc;simp only at hc;have hrd:zK o.op=false:=by unfold zK;rw [hkd]
      rw [hrd] at hk;simp only [cond_false] at hk;have hd: ∀call,jE E.P E.tb E.xt call ops o m st=some (upd o m st v {t:= .e,n:=st.n} .new):=fun call=>by
       unfold jE zI;rw [I.ftm,haw,hkd];simp only [cond_true];rw [jX rfl hcal,e2];rfl
      obtain ⟨p,hpL,call,st',ne',mj',dl',tm',h',R',V',SV',c1,c2,r1,r2⟩:=xN hall hno ol ms (i+1) ne mj dl _ h1 R V SR SV (upd o m st v {t:= .e,n:=st.n} .new) _ hk hc
       ⟨by simp [upd,I.fi],by simp [upd,I.ftm],by simp [upd,I.fn],by simp [upd,I.fne],by simp [upd,I.fmj],by simpa [upd] using I.fdl,by simp [upd,I.ffs],fun hz=>by simpa [upd] using I.fz hz,fun hz=>by simpa [upd] using I.fs hz,fun r hr=>I.frs r (by simpa [upd] using hr),fun e he=>I.fbs e (by simpa [upd] using he),I.fv⟩
      exact ⟨p,hpL,call,st',ne',mj',dl',tm',h',R',V',SV',c1,c2,by rw [jA,hd];exact r1,r2⟩
     ·rw [hkd] at hc;simp only at hc;obtain ⟨hal,hc⟩:=qV hc;have hal:=xZY.1 hal;have hrd:zK o.op=true:=by unfold zK;rw [hkd]
      rw [hrd] at hk;simp only [cond_true] at hk;have hov:({t:=ovl (fun f=>bt m f && !bt st.mj f) st.fs st.b,n:=st.n}:Hp)=h1:=by
       have:ovl (fun f=>bt m f && !bt st.mj f) st.fs st.b=h1.t:=by
        rw [I.ffs];rcases xZQ ne with hz|hz
        ·obtain ⟨z1,z2,z3⟩:=I.fz hz;rw [z2,z3];exact hall _ fun f hf=>by rw [I.fmj,z1,hal f hf,yF];rfl
        ·obtain ⟨z1,z2,_⟩:=I.fs hz;rw [z2];exact hno _ _ fun f hf=>by rw [I.fmj,z1 f hf];simp
       rw [this,I.fn]
      have hd: ∀call,jE E.P E.tb E.xt call ops o m st=some (upd o m st v h1 .read):=fun call=>by
       unfold jE zI;rw [I.ftm,haw,hkd];simp only [cond_true];rw [hov,jX rfl hcal,ha];rfl
      obtain ⟨p,hpL,call,st',ne',mj',dl',tm',h',R',V',SV',c1,c2,r1,r2⟩:=xN hall hno ol ms (i+1) ne mj dl _ h1 _ V ((i,m,ne)::SR) SV (upd o m st v h1 .read) _ hk hc
       ⟨by simp [upd,I.fi],by simp [upd,I.ftm],by simp [upd,I.fn],by simp [upd,I.fne],by simp [upd,I.fmj],by simpa [upd] using I.fdl,by simp [upd,I.ffs],fun hz=>by simpa [upd] using I.fz hz,fun hz=>by simpa [upd] using I.fs hz,fun r hr=>by
        simp only [upd,xZN] at hr;rcases hr with rfl|hr
        ·exact ⟨by simp [I.fi,I.fne],⟨_,xZT,by simp [I.fi,I.ftm,I.fn,hcal]⟩,.inl hal⟩
        ·obtain ⟨q1,⟨e,q2,q3⟩,q4⟩:=I.frs r hr;exact ⟨xZX _ q1,⟨e,xZX _ q2,q3⟩,q4⟩,fun e he=>I.fbs e (by simpa [upd] using he),I.fv⟩
      exact ⟨p,hpL,call,st',ne',mj',dl',tm',h',R',V',SV',c1,c2,by rw [jA,hd];exact r1,r2⟩
   |false=>
    rw [hcal] at hc;simp only [cond_false] at hc;obtain ⟨hg,hc⟩:=qV hc;simp only [xZU] at hg;obtain ⟨⟨hst,hch⟩,hal⟩:=hg;obtain ⟨L2,hcE,hLs⟩: ∃L2,uJ AL N ol ms (i+1) (ne+1) m i SR ((ne,mj,i)::SV)=some L2/\ ∀x∈L2,x∈L:=by
     split at hc
     ·exact ⟨_,hc,fun x hx=>hx⟩
     ·split at hc
      ·cases hc
      ·rename_i a ha;split at hc
       ·cases hc
       ·rename_i b hb;simp only [Option.some.injEq] at hc;subst hc;exact ⟨_,hb,fun x hx=>List.mem_append_right _ hx⟩
    have hal:=xZY.1 hal;have hov:({t:=ovl (fun f=>bt m f && !bt st.mj f) st.fs st.b,n:=st.n}:Hp)=h:=by
     have:ovl (fun f=>bt m f && !bt st.mj f) st.fs st.b=h.t:=by
      rw [I.ffs];rcases xZQ ne with hz|hz
      ·obtain ⟨z1,z2,z3⟩:=I.fz hz;rw [z2,z3];exact hall _ fun f hf=>by rw [I.fmj,z1,hal f hf,yF];rfl
      ·obtain ⟨z1,z2,_⟩:=I.fs hz;rw [z2];exact hno _ _ fun f hf=>by rw [I.fmj,z1 f hf];simp
     rw [this,I.fn]
    have hch2:(Nat.beq st.ne 0 || bt m st.dl)=true:=by
     rw [I.fne];rcases I.fdl with hdl|hdl
     ·rw [hdl];exact hch
     ·rw [hdl];rfl
    have next: ∀(v:AV) (h1:Hp),jC o.op= .eff->WOW E nt ops ol (i+1) (ne+1) (yP tm o.dst v) h1 R ((ne+1,h1.t)::V) Q->h.n<=h1.n-> ∃p∈L,∃call st' ne' mj' dl' tm' h' R' V' SV',jP E.P E.xt call/\((∀fv args k r,call fv args k=some r->h1.n<=k.n/\k.n<h'.n)/\h1.n<=h'.n)/\vM E.P E.tb E.xt call ops ol ms (upd o m st v h1 .eff)=some st'/\WInv E AL h0 HA FS (i+1+ol.length) ne' mj' dl' tm' h' R' V' p.1 SV' st'/\p.2=(ne',mj',N)::SV'/\Q tm' h' R' V':=fun v h1 hke hk hle=>by
     exact Exists.imp (fun _ hp=>⟨hLs _ hp.1,hp.2⟩)<|xN hall hno ol ms (i+1) (ne+1) m i _ h1 R _ SR ((ne,mj,i)::SV) (upd o m st v h1 .eff) _ hk hcE
      ⟨by simp [upd,I.fi],by simp [upd,I.ftm],by simp [upd],by simp [upd,I.fne],by simp [upd],.inl (by simp [upd,I.fi]),by simp [upd,I.ffs],fun hz=>by omega,fun hz=>⟨hal,by simp [upd],xZT⟩,fun r hr=>I.frs r (by simpa [upd] using hr),fun e he=>by
       simp only [upd,xZN] at he;rcases he with rfl|he
       ·refine ⟨by simp [I.fne,I.fmj,I.fi],fun hz=> ?_,fun hz=> ?_⟩
        ·simp only [I.fne] at hz;obtain ⟨z1,z2,z3⟩:=I.fz hz;exact ⟨z2,by simp [I.fmj,z1]⟩
        ·simp only [I.fne] at hz;obtain ⟨z1,z2,z3⟩:=I.fs hz;refine ⟨xZX _ ?_,by simpa [I.fmj] using z1⟩;simp only [I.fne,z2];exact z3
       ·obtain ⟨q1,q2,q3⟩:=I.fbs e he;exact ⟨xZX _ q1,q2,fun hz=>⟨xZX _ (q3 hz).1,(q3 hz).2⟩⟩,xZX _ I.fv⟩
    cases hso:isSt o.op with
    |true=>
     obtain ⟨call0,res,_,hop,hk⟩:=hw.ev;rw [yZ hso] at hop;cases ha:aop E.P E.tb E.xt (qG tm) o.op h with
     |none=>rw [ha] at hop;cases hop
     |some p=>
      obtain ⟨v,h1⟩:=p;rw [ha] at hop;simp only [uN,Option.some.injEq] at hop;subst hop;simp only [qAp,hst,cond_true] at hk;obtain ⟨⟨hn1,_⟩,hk⟩:=hk;have hk:=hput hk;obtain ⟨p,hpL,call,st',ne',mj',dl',tm',h',R',V',SV',c1,c2,r1,r2⟩:=next v h1 (yG hso) hk hn1;have hd:jE E.P E.tb E.xt call ops o m st=some (upd o m st v h1 .eff):=by
       unfold jE zI;rw [I.ftm,haw,yG hso];simp only [cond_true];rw [hch2];simp only [cond_true];rw [hov,yZ hso,ha];rfl
      exact ⟨p,hpL,call,st',ne',mj',dl',tm',h',R',V',SV',c1,⟨fun fv args k r hr=>by have:=c2.1 fv args k r hr;omega,by have:=c2.2;omega⟩,by rw [jA,hd];exact r1,r2⟩
    |false=>
     have hcl:jK o.op=true:=by
      unfold zQ at hst;rw [hso] at hst;simpa using hst
     have hcl2:=hcl;unfold jK at hcl2;split at hcl2
     ·rename_i q hq;split at hcl2
      ·rename_i f hf;unfold WOp at hw;simp only [hq,calK,hf] at hw;obtain ⟨res,h1,hcs,hk⟩:=hw;rw [<-hq] at hk;cases res with
       |pan v=>exact hk.elim
       |ret v=>
        simp only [resK,qAp,hst,cond_true] at hk;obtain ⟨⟨hn1,hlt⟩,hk⟩:=hk;have hlt:=hlt hcl;have hk:=hput hk;have hkd:jC o.op= .eff:=by simp [hq,jC,hf]
        obtain ⟨p,hpL,call,st',ne',mj',dl',tm',h',R',V',SV',c1,c2,r1,r2⟩:=next v h1 hkd hk hn1;have hsd:jP E.P E.xt (zA (qG tm f) (q.args.toList.map (qG tm)) h (.ret v) h1 call):=by
         intro fv a k r k' he;unfold zA at he;split at he
         ·rename_i hq;obtain ⟨rfl,rfl,rfl⟩:=hq;cases he;exact hcs
         ·exact c1 _ _ _ _ _ he
        have hev:jN E.P E.tb E.xt (zA (qG tm f) (q.args.toList.map (qG tm)) h (.ret v) h1 call) o tm h=some (.ok v h1):=by
         simp [jN,hq,zX,hf,zA,uD]
        have hd:jE E.P E.tb E.xt (zA (qG tm f) (q.args.toList.map (qG tm)) h (.ret v) h1 call) ops o m st=some (upd o m st v h1 .eff):=by
         unfold jE zI;rw [I.ftm,haw,hkd];simp only [cond_true];rw [hch2];simp only [cond_true];rw [hov,hev]
        refine ⟨p,hpL,zA (qG tm f) (q.args.toList.map (qG tm)) h (.ret v) h1 call,st',ne',mj',dl',tm',h',R',V',SV',hsd,⟨fun fv a k r he=> ?_,by have:=c2.2;omega⟩,?_,r2⟩
        ·unfold zA at he;split at he
         ·rename_i hq;rw [hq.2.2];have:=c2.2;omega
         ·have:=c2.1 _ _ _ _ he;omega
        ·rw [jA,hd];simp only;refine j6 c1 ol ms _ _ (fun fv a k r hk hr=> ?_) r1;unfold zA;rw [if_neg (fun hq=> ?_)]
         ·exact hr
         ·simp only [upd] at hk;rw [hq.2.2] at hk;omega
      ·cases hcl2
     ·cases hcl2
def qC2 (nt:Nat) (ops:Array Oper) (k1 k2 k3:Nat) (P:List (Nat×Nat)):Bool:=
 let L:=ops.toList
 let l:=L.take k1
 let aos:=(L.drop k1).take k2
 let l2:=(L.drop (k1+k2)).take k3
 let pre:=l++(aos++l2)
 match sta ⟨pre⟩ with
 |none=>false
 |some s=>Nat.ble s.mx nt && (l.all (fun o=>calm o.op) && (aos.all (isAl nt) && (Nat.beq aos.length k2 && (Nat.beq l.length k1 && (Nat.ble (k1+k2) s.ms.length &&
   ((s.ms.take k1).all (fun m=>(xZJ k1 k2).all fun f=> !bt m f) &&
   (match xM [] pre.length l s.ms 0 0 0 0 [] [] with
   |none=>false
   |some (SRA,_)=>(match uJ (xZJ k1 k2) pre.length l2 (s.ms.drop (k1+k2)) (k1+k2) 0 0 0 SRA [] with
    |none=>false
    |some LL=>LL.all fun p=>p.1.all fun r=>p.2.all (ordd P r))) &&
   (kA pre (L.drop (k1+k2+k3)) && pre.all (zD pre.length))))))))
end
section
variable {E:Env} {nt:Nat} {ops:Array Oper} {r:Option Nat} {mks:List Nat}
theorem SemC.drawnL (htb:Tb E.P E.tb) (hm:E.P.follows .mixedOrders=true) {id:Nat} (k1 k2 k3:Nat) (P:List (Nat×Nat)) (hst:qC2 nt ops k1 k2 k3 P=true) {tm:T AV} {h:Hp} {Q:Ex->St->Prop}
  (hw:WOW E nt ops (ops.toList.take k1) 0 0 tm h [] [(0,h.t)] (fun tm1 h1 R1 _=>WOA E ((ops.toList.drop k1).take k2) tm1 h1.n [] (fun tm2 os=>WOW E nt ops ((ops.toList.drop (k1+k2)).take k3) (k1+k2) 0 tm2 {t:=jY h1.t h1.n os,n:=h1.n+k2} R1 [(0,jY h1.t h1.n os)] (fun tm3 h3 R V=>bO E P R V/\WO E nt ops (ops.toList.drop (k1+k2+k3)) tm3 h3 (wX ⟨tm,nt,h,mks⟩ Q))))):W E r (.region id ops true) ⟨tm,nt,h,mks⟩ Q:=by
 unfold qC2 at hst;simp only at hst;obtain ⟨l,hl⟩: ∃l,l=ops.toList.take k1:=⟨_,rfl⟩;obtain ⟨aos,has⟩: ∃aos,aos=(ops.toList.drop k1).take k2:=⟨_,rfl⟩;obtain ⟨l2,hl2⟩: ∃l2,l2=(ops.toList.drop (k1+k2)).take k3:=⟨_,rfl⟩;obtain ⟨rest,hrest⟩: ∃rest,rest=ops.toList.drop (k1+k2+k3):=⟨_,rfl⟩;have hall:l++(aos++l2)++rest=ops.toList:=by
  have a3:ops.toList.drop (k1+k2+k3)=(ops.toList.drop (k1+k2)).drop k3:=by rw [xZG]
  have a2:ops.toList.drop (k1+k2)=(ops.toList.drop k1).drop k2:=by rw [xZG]
  rw [hl,has,hl2,hrest,a3,xZI,xZI,xZO,a2,xZO,xZO]
 rw [<-hl,<-has,<-hl2,<-hrest] at hst hw;cases hs:sta ⟨l++(aos++l2)⟩ with
 |none=>rw [hs] at hst;cases hst
 |some s=>
 rw [hs] at hst;simp only [xZU] at hst;obtain ⟨hmx,hcalm,hisal,hask,hlk,hms,⟨hnb,hw2⟩,hlast,hgl⟩:=hst;have hask:=xZR hask;have hlk:=xZR hlk;have hms:k1+k2<=s.ms.length:=xZK hms;obtain ⟨pre,hpre⟩: ∃pre,pre=l++(aos++l2):=⟨_,rfl⟩;rw [<-hpre] at hs hw2 hlast hgl hall;have hgd: ∀o∈pre,∀j w,o.guard=some (j,w)->(⟨pre⟩:Array Oper)[j]? =ops[j]? :=fun o ho j w hg=>by
  have:=xZY.1 hgl o ho;unfold zD at this;rw [hg] at this;simp only [Nat.blt_eq] at this;rw [<-xZV,<-xZV,<-hall];simp [xZH this]
 have hgl1: ∀o∈l,∀j w,o.guard=some (j,w)->(⟨pre⟩:Array Oper)[j]? =ops[j]? :=fun o ho=>hgd o (by rw [hpre];simp [ho]);have hgl2: ∀o∈l2,∀j w,o.guard=some (j,w)->(⟨pre⟩:Array Oper)[j]? =ops[j]? :=fun o ho=>hgd o (by rw [hpre];simp [ho]);split at hw2
 ·cases hw2
 rename_i SRA SVA hsa;split at hw2
 ·cases hw2
 rename_i LL hsc;have hall2:=xZY.1 hw2;have hw1:=kO (ops':=⟨pre⟩) l 0 0 tm h [] [(0,h.t)] _ _ hgl1 (fun _ _ _ _ hh=>hh) hw;obtain ⟨call1,st1,ne1,mj1,dl1,tm1,h1,R1,V1,SV1,cs1,cr1,run1,I1,eSV,hq1⟩:=kT (AL:=[]) (h0:=h.t) (HA:=h.t) (FS:=[]) (fun _ _=>rfl) (fun _ _ _=>rfl) l s.ms 0 0 0 0 tm h [] [(0,h.t)] [] [] {i:=0,tm:=tm,n:=h.n,b:=h.t,mj:=0,dl:=0,ne:=0,fs:=[],bs:=[],rs:=[]} hw1 hsa
  ⟨rfl,rfl,rfl,rfl,rfl,.inr rfl,rfl,fun _=>⟨rfl,rfl,rfl⟩,fun hz=>absurd hz (xZE _),by simp,by simp,by simp⟩
 have hcal0: ∀(l:List Oper) (ms:List Nat) (i ne mj dl:Nat) (SR:List SRd) (SV:List SVe) (SRz:List SRd) (SVz:List SVe),l.all (fun o=>calm o.op)=true->xM [] pre.length l ms i ne mj dl SR SV=some (SRz,SVz)->SVz=(ne,mj,pre.length)::SV/\ ∀x∈SRz,x∈SR\/x.2.2=ne/\x.2.1∈ms.take l.length:=by
  intro l;induction l with
  |nil=>
   intro ms i ne mj dl SR SV SRz SVz _ hx;simp only [xM,Option.some.injEq,Prod.mk.injEq] at hx;exact ⟨hx.2.symm,fun x hx'=> .inl (by rw [hx.1];exact hx')⟩
  |cons o l ih=>
   intro ms i ne mj dl SR SV SRz SVz hc hx;simp only [List.all_cons,xZU] at hc;cases ms with
   |nil=>simp [xM] at hx
   |cons m ms=>
    simp only [xM,hc.1,cond_true] at hx;split at hx
    ·obtain ⟨_,hx⟩:=qV hx;obtain ⟨q1,q2⟩:=ih ms _ _ _ _ _ _ _ _ hc.2 hx;refine ⟨q1,fun x hx'=> ?_⟩;rcases q2 x hx' with h3|h3
     ·rcases xZN.1 h3 with rfl|h3
      ·exact .inr ⟨rfl,by simp⟩
      ·exact .inl h3
     ·exact .inr ⟨h3.1,by simp [h3.2]⟩
    ·obtain ⟨q1,q2⟩:=ih ms _ _ _ _ _ _ _ _ hc.2 hx;refine ⟨q1,fun x hx'=> ?_⟩;rcases q2 x hx' with h3|h3
     ·exact .inl h3
     ·exact .inr ⟨h3.1,by simp [h3.2]⟩
 obtain ⟨eSVA,hSRA⟩:=hcal0 l s.ms 0 0 0 0 [] [] SRA SVA hcalm hsa;rw [eSV] at eSVA;simp only [List.cons.injEq,Prod.mk.injEq] at eSVA;obtain ⟨⟨rfl,rfl,_⟩,rfl⟩:=eSVA;rw [xZD] at I1;obtain ⟨z1,z2,z3⟩:=I1.fz rfl;have hbs1:st1.bs=[]:=by
  cases hb:st1.bs with
  |nil=>rfl
  |cons e _=>have:=(I1.fbs e (by rw [hb];exact xZT)).1;simp at this
 obtain ⟨st2,os,tm2,run2,est2,hosl,hq2⟩:=pZ (nt:=nt) (ops:=⟨pre⟩) (call:=uW) aos (s.ms.drop l.length) tm1 h1.n [] st1 hq1 hisal (by rw [List.length_drop];omega) I1.ftm I1.fn;rw [List.nil_append] at hq2;have hfs2:st2.fs=feL k1 h1.n os:=by rw [est2];simp [I1.ffs,I1.fi,hlk]
 have hAL: ∀(q:Nat->Bool) (b:Bool),(∀f∈xZJ k1 k2,q f=b)-> ∀f,k1<=f->f<k1+os.length->q f=b:=fun q b hq f h1 h2=>hq f (List.mem_range'_1.2 ⟨h1,by omega⟩);have hw3:=kO (ops':=⟨pre⟩) l2 (k1+k2) 0 tm2 _ R1 _ _ _ hgl2 (fun _ _ _ _ hh=>hh) hq2;obtain ⟨⟨SR,SV⟩,hpL,call3,st3,ne3,mj3,dl3,tm3,h3,R3,V3,SV3,cs3,cr3,run3,I3,eSV3,hsame,hq3⟩:=xN (AL:=xZJ k1 k2) (h0:=h.t) (HA:=jY h1.t h1.n os) (FS:=feL k1 h1.n os)
  (fun q hq=>by rw [z3];exact xB q _ os k1 h1.n (hAL q true hq)) (fun q b hq=>u7 q b os k1 h1.n (hAL q false hq)) l2 (s.ms.drop (k1+k2)) (k1+k2) 0 0 0 tm2 {t:=jY h1.t h1.n os,n:=h1.n+k2} R1 [(0,jY h1.t h1.n os)] SRA [] st2 _ hw3 hsc
  ⟨by rw [est2];simp [I1.fi,hlk,hask],by rw [est2],by rw [est2];simp [hask],by rw [est2];exact I1.fne,by rw [est2];exact I1.fmj,.inr rfl,hfs2,fun _=>⟨rfl,by rw [est2];exact z2,rfl⟩,fun hz=>absurd hz (xZE _),fun r hr=>by
   have hr1:r∈st1.rs:=by rw [est2] at hr;exact hr
   obtain ⟨q1,q2,_⟩:=I1.frs r hr1;refine ⟨q1,q2,.inr ?_⟩;rcases hSRA _ q1 with h4|h4
   ·simp at h4
   ·refine ⟨h4.1,fun f hf=> ?_⟩;have hm1:r.m∈s.ms.take k1:=by rw [<-hlk];exact h4.2
    have:=xZY.1 (xZY.1 hnb _ hm1) f hf;simpa using this,fun e he=>by
   rw [est2] at he;rw [show ({st1 with i:=st1.i+aos.length,tm:=tm2,n:=h1.n+aos.length,fs:=feL st1.i h1.n os++st1.fs}:DS).bs=st1.bs from rfl,hbs1] at he;simp at he,by simp⟩
 have hpair:=fun r hr e he=>xZY.1 (xZY.1 (hall2 _ hpL) r hr) e he;have eSV3:SV=_:=eSV3;obtain ⟨callm,hcm⟩: ∃callm:jB,callm=fun f a k=>match call3 f a k with|some r=>some r|none=>call1 f a k:=⟨_,rfl⟩
 have csm:jP E.P E.xt callm:=by
  intro f a k r k' he;rw [hcm] at he;simp only at he;split at he
  ·rename_i r' hr';cases he;exact cs3 _ _ _ _ _ hr'
  ·exact cs1 _ _ _ _ _ he
 have run1:=j6 (call':=callm) cs1 _ _ _ _ (fun fv a k r _ hr=>by
  rw [hcm];simp only;cases hc3:call3 fv a k with
  |none=>exact hr
  |some r'=>
   have b1:=cr1.1 _ _ _ _ hr;have b2:=cr3.1 _ _ _ _ hc3;simp only at b2;omega) run1
 have run2:=j6 (call':=callm) (vN E.P E.xt) _ _ _ _ (fun fv a k r _ hr=>by cases hr) run2;have run3:=j6 (call':=callm) cs3 _ _ _ _ (fun fv a k r _ hr=>by rw [hcm];simp only [hr]) run3;have hrun:vM E.P E.tb E.xt callm ⟨pre⟩ (⟨pre⟩:Array Oper).toList s.ms {i:=0,tm:=tm,n:=h.n,b:=h.t,mj:=0,dl:=0,ne:=0,fs:=[],bs:=[],rs:=[]}=some st3:=by
  have e0:vM E.P E.tb E.xt callm ⟨pre⟩ (l++(aos++l2)) s.ms {i:=0,tm:=tm,n:=h.n,b:=h.t,mj:=0,dl:=0,ne:=0,fs:=[],bs:=[],rs:=[]}=some st3:=by
   rw [zS _ _ _ _ _ run1,zS _ _ _ _ _ run2,xZG,hlk,hask];exact run3
  rw [<-hpre] at e0;exact e0
 have hchk:DChk E.P E.tb E.xt callm st3 (⟨pre⟩:Array Oper).size:=by
  intro r hr e he;obtain ⟨q1,⟨re,p1,p2,p3,p4,p5,p6,p7⟩,q3⟩:=I3.frs r hr;obtain ⟨e1,e2,e3⟩:(e.j,e.mj,e.nx)∈SV/\(e.j=0->e.b=h.t/\e.mj=0)/\(0<e.j->(e.j,e.b)∈V3/\ ∀f∈xZJ k1 k2,bt e.mj f=true):=by
   rcases xZN.1 he with rfl|he
   ·refine ⟨by rw [eSV3];simp [I3.fne,I3.fmj],fun hz=> ?_,fun hz=> ?_⟩
    ·simp only [I3.fne] at hz;have:=I3.fz hz;exact ⟨this.2.1,by simp [I3.fmj,this.1]⟩
    ·simp only [I3.fne] at hz;have:=I3.fs hz;exact ⟨by simp only [I3.fne,this.2.1];exact this.2.2,by simpa [I3.fmj] using this.1⟩
   ·have:=I3.fbs e he;exact ⟨by rw [eSV3];exact xZX _ this.1,this.2⟩
  have ho:=hpair _ q1 _ e1;unfold ordd at ho;simp only [Bool.or_eq_true] at ho;rcases ho with ho|ho|ho|ho
  ·exact .inl (xZR ho)
  ·exact .inr (.inl ho)
  ·exact .inr (.inr (.inl ho))
  have key: ∀t,(e.j,t)∈V3->ovl (fun f=>bt r.m f && !bt e.mj f) st3.fs e.b=t-> ∃h'',jN E.P E.tb E.xt callm r.o r.tm {t:=ovl (fun f=>bt r.m f && !bt e.mj f) st3.fs e.b,n:=r.n}=some (.ok r.v h''):=fun t ht heq=>by
   have:=hsame re p1 (e.j,t) ht (by rw [p2];exact ho);rw [p3,p4,p5,p6] at this;rw [heq,jX rfl p7,this];exact ⟨_,rfl⟩
  rcases xZQ e.j with hz|hz
  ·obtain ⟨e4,e5⟩:=e2 hz;rcases q3 with q3|q3
   ·refine .inr (.inr (.inr (key (jY h1.t h1.n os) (by rw [hz];exact I3.fv) ?_)));rw [I3.ffs,e4,z3];exact xB _ _ os k1 h1.n (hAL _ true fun f hf=>by rw [q3 f hf,e5,yF];rfl)
   ·exact .inl (by rw [hz,q3.1])
  ·obtain ⟨e4,e5⟩:=e3 hz;refine .inr (.inr (.inr (key e.b e4 ?_)));rw [I3.ffs];exact u7 _ _ os k1 h1.n (hAL _ false fun f hf=>by rw [e5 f hf];simp)
 obtain ⟨n1,s1⟩:=xY htb csm hs (xZK hmx) hrun hchk;have e1:({t:=ovl (fun f=> !bt st3.mj f) st3.fs st3.b,n:=st3.n}:Hp)=h3:=by
  have:ovl (fun f=> !bt st3.mj f) st3.fs st3.b=h3.t:=by
   rw [I3.ffs];rcases xZQ ne3 with hz|hz
   ·obtain ⟨y1,y2,y3⟩:=I3.fz hz;rw [y2,y3,z3];exact xB _ _ os k1 h1.n (hAL _ true fun f hf=>by rw [I3.fmj,y1,yF];rfl)
   ·obtain ⟨y1,y2,_⟩:=I3.fs hz;rw [y2];exact u7 _ _ os k1 h1.n (hAL _ false fun f hf=>by rw [I3.fmj,y1 f hf];rfl)
  rw [this,I3.fn]
 rw [e1] at s1;rw [I3.fn] at n1 s1;rw [I3.ftm] at s1;have hd:DrX E nt ⟨pre⟩ tm h .normal tm3 h3:=⟨n1,s1⟩;obtain ⟨x,tm4,h4,hd2,hq4⟩:=DrX.lasts htb rest pre tm3 h3 hlast (fun j hj=>by rw [hall,xZV]) hd hq3;rw [hall] at hd2;have lift: ∀{a:Act} {w:World} {r:Option Nat} {id:Nat} {Q:Exit->Act->World->Prop},(∀t,wpOpsIn (Wd r) 0 E.P ops Q (Region.linearise .any ops t) a {w with drawn:=w.drawn+1})->(Code.region id ops true).wpIn (Wd r) 0 E.P Q a w:=fun hh=>by
  refine wpIn_region_draw fun t=> ?_;simp only [Region.schedule,hm,Bool.true_or,if_true];exact hh t
 have hds:DrwS E nt ops tm h x tm4 h4:=⟨hd2.1,fun lim hl c a w r id g hxt ht Q hQ=>lift fun t=>hd2.2 lim hl c a w r t g hxt ht Q hQ⟩;exact ⟨_,_,.regionD (st:=⟨tm,nt,h,mks⟩) hds,hq4⟩
theorem uU (ok:SyOk E) {id:Nat} {b:Code} {tm:T AV} {h:Hp} {Q:Ex->St->Prop} (k1 k2 k3:Nat) (P:List (Nat×Nat)) (hst:qC2 nt ops k1 k2 k3 P=true) (hw: ∀K:Ex->T AV->Hp->Prop,(∀tm h,wpc E r b ⟨tm,nt,h,mks⟩ Q->K .normal tm h)->(∀v tm h,Q (.panic v) ⟨tm,nt,h,mks⟩->K (.panic v) tm h)->WOW E nt ops (ops.toList.take k1) 0 0 tm h [] [(0,h.t)] (fun tm1 h1 R1 _=>WOA E ((ops.toList.drop k1).take k2) tm1 h1.n [] (fun tm2 os=>WOW E nt ops ((ops.toList.drop (k1+k2)).take k3) (k1+k2) 0 tm2 {t:=jY h1.t h1.n os,n:=h1.n+k2} R1 [(0,jY h1.t h1.n os)] (fun tm3 h3 R V=>bO E P R V/\WO E nt ops (ops.toList.drop (k1+k2+k3)) tm3 h3 K)))):
  wpc E r (.seq (.region id ops true) b) ⟨tm,nt,h,mks⟩ Q:=by
 show W E r (.region id ops true) ⟨tm,nt,h,mks⟩ (uM (fun s=>wpc E r b s Q) Q);exact SemC.drawnL ok.tb ok.mixed k1 k2 k3 P hst (hw _ (fun tm h hh=>hh) (fun v tm h hh=>hh))
end
end Go.Ev
end
namespace Go.Proofs.Kn
open Go Go.Ev
set_option maxRecDepth 100000
set_option maxHeartbeats 4000000
theorem ft33 (xt:Addr->Option Value):(SE xt).ft.get 33=some Tryz.f33:=by kernel_rfl
theorem qBm:Tryz.f33.results.toList=[.tmp 4]:=by kernel_rfl
def Mp.rcBad (m:Mp) (r0 c0 n:Nat) (i j:Nat):Bool:= !decide (m.rc i j=2) || (decide ((j:Int)+1<(c0+n:Nat)) && m.crk i j false || decide ((i:Int)+1<(r0+n:Nat)) && m.crk i j true)
def Mp.rcan (m:Mp) (R C:Nat) (n:Nat) (a b:Int):Bool:=inB a 0 ((R:Int) - n) && (inB b 0 ((C:Int) - n) && (List.range n).all fun i=>(List.range n).all fun j=> !m.rcBad a.toNat b.toNat n (a.toNat+i) (b.toNat+j))
theorem rcan_c (xt:Addr->Option Value) (h:Hp) (w:Wk) (ha:w.At xt h) (R C:Nat) (hm:w.m.Is R C) (hW:w.m.W=C) (a b:Int) (q n:Nat) (th wo:Int) (hx:w.ts[q]? =some ((n:Int),th,wo)) (hn3:n<=3)
  {K:CR->Hp->Prop} (hk: ∀m,h.n<m->K (.ret (.val (.bool (w.m.rcan R C n a b)))) (h.up m)):FnA (SE xt) 33 [w.av,wY (a,b,(q:Int))] h K:=by
 refine FnA.calm ?_ hk;clear hk K;refine FnA.walk (sok xt) (ft33 xt) rfl 91 rfl ?_;have hR6:=hm.r6;have hC8:=hm.c8;have hRR:=hm.hR;obtain ⟨o1,o2,o3,o4,o5⟩:=ha.ones;have hq:q<w.ts.length:=(xZM.1 hx).1;have i1:=ha.ts.idx qAL rfl yB rfl (i:=q) (by simpa using hq) (k:= .i64);refine qA fun K hn hp=> ?_;simp only [sw.1,rE,reduceIte,rL];apply hn;obtain ⟨h1,hh1⟩: ∃h1:Hp,h1=h.new (.cells w.cs 30):=⟨_,rfl⟩;rw [<-hh1];have nh1:h1.n=h.n+1:=by rw [hh1];rfl
 have sh1:h1.t.get h.n=some (.cells w.cs 30):=by rw [hh1];exact qX _ _
 have kh1: ∀k,k<h.n->h1.t.get k=h.t.get k:=fun k hk=>by rw [hh1];exact qW _ _ hk
 have fbh1:Fr h.n h h1:=by rw [hh1];exact (xZA (xZW _)).new _
 have fh1:=fbh1;obtain ⟨h2,hh2⟩: ∃h2:Hp,h2=h1.new (.cells [iv a,iv b,iv q] 61):=⟨_,rfl⟩;rw [<-hh2];have nh2:h2.n=h1.n+1:=by rw [hh2];rfl
 have sh2:h2.t.get h1.n=some (.cells [iv a,iv b,iv q] 61):=by rw [hh2];exact qX _ _
 have kh2: ∀k,k<h1.n->h2.t.get k=h1.t.get k:=fun k hk=>by rw [hh2];exact qW _ _ hk
 have fbh2:Fr h1.n h1 h2:=by rw [hh2];exact (xZA (xZW _)).new _
 have fh2:Fr h.n h h2:=fh1.trans fbh2 (by omega);simp only [nh1,Nat.add_assoc,rA] at nh2 sh2 kh2;have s1:=(kh2 h.n (by omega)).trans sh1;have ha2:=ha.fr fh2 (xZW _);have hne:w.ts.map Kn.t3≠[]:=by intro e;have:=congrArg List.length e;simp at this;rw [this] at hq;simp at hq
 have i2:=ha2.ts.fa hne yB rfl (f:=0) (o:=0) (s:=0) (ft:=3) rfl (q*3);have i3:qP tb xt h2 3 (elp w.vt (q*3+0))=some (iv n):=ha2.ts.load tg3 rfl (i:=q) (j:=0) (c:=Kn.t3 ((n:Int),th,wo)) (by rw [xZP,hx];rfl) rfl;have w1:IntKind.i64.wrap ((R:Int) - (n:Int))=(R:Int) - n:=wrap_i64 _ (by omega) (by omega);have w2:IntKind.i64.wrap ((C:Int) - (n:Int))=(C:Int) - n:=wrap_i64 _ (by omega) (by omega);simp only [Nat.add_zero] at i2 i3;refine uT (sok xt) 9 1 1 [(3,1),(5,1),(8,1)] (by kernel_rfl) fun K hn hp=> ?_;have z27:te27.zero.map AV.val=[.val (.slice none 0 0),iv 0,iv 0,.val (.slice none 0 0),.val (.slice none 0 0),.val (.slice none 0 0)]:=rfl;obtain ⟨hA,hhA⟩: ∃hA:Hp,hA={t:=jY h2.t h2.n [.cells [.val (.slice none 0 0),iv 0,iv 0,.val (.slice none 0 0),.val (.slice none 0 0),.val (.slice none 0 0)] 27],n:=h2.n+1}:=⟨_,rfl⟩;have a1:jY h2.t h2.n [.cells [.val (.slice none 0 0),iv 0,iv 0,.val (.slice none 0 0),.val (.slice none 0 0),.val (.slice none 0 0)] 27]=hA.t:=by rw [hhA]
 have a6:hA.n=h2.n+1:=by rw [hhA]
 have a3:hA.t.get h2.n=some (.cells [.val (.slice none 0 0),iv 0,iv 0,.val (.slice none 0 0),.val (.slice none 0 0),.val (.slice none 0 0)] 27):=by rw [<-a1,qAA,xZZ,if_pos rfl]
 have a5: ∀x,x≠h2.n->hA.t.get x=h2.t.get x:=fun x h1=>by rw [<-a1,qAA,xZZ,if_neg h1];rfl
 have y1:=(a5 h.n (by omega)).trans s1;have y2:=(a5 (h.n+1) (by omega)).trans sh2;have fA:Fr h2.n h2 hA:=⟨by omega,by omega,fun x hx=>a5 x (by omega)⟩;have i3A:qP tb xt hA 3 (elp w.vt (q*3))=some (iv n):=(ha2.ts.fr fA (xZW _)).load tg3 rfl (i:=q) (j:=0) (c:=Kn.t3 ((n:Int),th,wo)) (by rw [xZP,hx];rfl) rfl;rw [nh2] at a1 a3;simp only [sw.1,rE,reduceIte,rL,rA,rD,syw.1,o1,o2,o3,o4,i1,sh2,nh2,s1,i2,i3,WOA_cons (E:=SE xt) tg27,z27,a1,a3,y1,y2];have a2:({t:=hA.t,n:=h.n+3}:Hp)=hA:=by
  have e:hA.n=h.n+3:=by omega
  rw [<-e]
 obtain ⟨h3,hh3⟩: ∃h3:Hp,h3=hA.set (h.n+2) (.cells w.m.cs 27):=⟨_,rfl⟩;have nh3:h3.n=h.n+3:=by rw [hh3,Hp.set_n];omega
 have k3: ∀x,x≠h.n+2->h3.t.get x=h2.t.get x:=fun x hx=>by rw [hh3,Hp.set_t,xZZ,if_neg hx];exact a5 x (by omega)
 have t3:h3.t.get (h.n+2)=some (.cells w.m.cs 27):=by rw [hh3,Hp.set_t,xZZ,if_pos rfl]
 have f3:Fr h2.n h2 h3:=⟨by omega,by omega,fun x hx=>k3 x (by omega)⟩;have i3B:qP tb xt h3 3 (elp w.vt (q*3))=some (iv n):=(ha2.ts.fr f3 (xZW _)).load tg3 rfl (i:=q) (j:=0) (c:=Kn.t3 ((n:Int),th,wo)) (by rw [xZP,hx];rfl) rfl;refine ⟨⟨?_,?_,?_⟩,hn _ _ ?_⟩
 ·have:=(aload_t tb xt h3 (h.n+2) 3 (elp w.vt (q*3))).trans i3B;rw [hh3] at this;exact this
 ·rw [if_neg (by omega)];rfl
 ·rw [if_neg (by omega)];rfl
 rw [a2,<-hh3];have fr3:Fr h.n h h3:=fh2.trans f3 (by omega);have ha3:=ha.fr fr3 (xZW _);have u2:=(k3 (h.n+1) (by omega)).trans sh2;refine qE ?_;refine uU (sok xt) 0 0 18 [(1,1),(10,3)] (by kernel_rfl) fun K hn hp=> ?_;simp only [sy.1,rE,reduceIte,rL,rA,syw.1,t3,u2];refine qB (sok xt) (qBh xt h3 w.m ha3.m fun n1 hn1=> ?_);simp only [sy.1,rE,reduceIte,rL,rA,syw.1,w1,hn1,hRR];refine qB (sok xt) (kH xt _ _ _ _ fun n2 hn2=> ?_);simp only [xZF] at hn2;cases e1:(decide (0<=a) && decide (a<=(R:Int) - n))
 ·simp only [sy.1,rE,reduceIte,rL,rA,syw.1,u2,hn2,xZS];apply hn;refine qC true (by simp only [sy.1,rE,reduceIte]) (fun _=> ?_) (fun hx=>by cases hx);refine qE ?_;refine qA fun K hn hp=> ?_;simp only [sy.1,rL];apply hn;refine qU (qK qBm ⟨?_,fr3.up (by omega)⟩);have e1':inB a 0 ((R:Int) - n)=false:=e1;simp [xZZ,Mp.rcan,e1']
 simp only [sy.1,rE,reduceIte,rL,rA,syw.1,t3,u2,hn2,xZS];refine qB (sok xt) (qBJ xt _ w.m (ha3.m.up (by omega)) fun n3 hn3=> ?_);simp only [xZF] at hn3;simp only [sy.1,rE,reduceIte,rL,rA,syw.1,w2,hn3,hW,xZS];refine qB (sok xt) (kH xt _ _ _ _ fun n4 hn4=> ?_);simp only [xZF] at hn4;cases e2:(decide (0<=b) && decide (b<=(C:Int) - n))
 ·simp only [sy.1,rE,reduceIte,rL,rA,syw.1,u2,hn4,xZS];apply hn;refine qC true (by simp only [sy.1,rE,reduceIte]) (fun _=> ?_) (fun hx=>by cases hx);refine qE ?_;refine qA fun K hn hp=> ?_;simp only [sy.1,rL];apply hn;refine qU (qK qBm ⟨?_,fr3.up (by omega)⟩);have e1':inB a 0 ((R:Int) - n)=true:=e1;have e2':inB b 0 ((C:Int) - n)=false:=e2;simp [xZZ,Mp.rcan,e1',e2']
 simp only [sy.1,rE,reduceIte,rL,rA,syw.1,u2,hn4,xZS];apply hn;refine qC false (by simp only [sy.1,rE,reduceIte]) (fun hx=>by cases hx) (fun _=> ?_);refine qI ?_;obtain ⟨za,zb⟩:=xZC.1 e1;have za:=of_decide_eq_true za;have zb:=of_decide_eq_true zb;obtain ⟨zc,zd⟩:=xZC.1 e2;have zc:=of_decide_eq_true zc;have zd:=of_decide_eq_true zd;obtain ⟨r0,rfl⟩: ∃r0:Nat,a=r0:=⟨a.toNat,by omega⟩;obtain ⟨c0,rfl⟩: ∃c0:Nat,b=c0:=⟨b.toNat,by omega⟩;have w3:IntKind.i64.wrap ((r0:Int)+(n:Int))=((r0+n:Nat):Int):=by rw [wrap_i64 _ (by omega) (by omega)];simp
 have w4:IntKind.i64.wrap ((c0:Int)+(n:Int))=((c0+n:Nat):Int):=by rw [wrap_i64 _ (by omega) (by omega)];simp
 have e1':inB (r0:Int) 0 ((R:Int) - n)=true:=e1;have e2':inB (c0:Int) 0 ((C:Int) - n)=true:=e2;have no: ∀i j,r0<=i->i<r0+n->c0<=j->j<c0+n->w.m.rcBad r0 c0 n i j=true->w.m.rcan R C n r0 c0=false:=fun i j h1 h2 h3 h4 h5=>by
  simp only [Mp.rcan,e1',e2',Bool.true_and,xYZ];refine xS (p:=fun i'=>(List.range n).all fun j'=> !w.m.rcBad r0 c0 n (r0+i') (c0+j')) (k:=i - r0) (by omega) (xS (p:=fun j'=> !w.m.rcBad r0 c0 n (r0+(i - r0)) (c0+j')) (k:=j - c0) (by omega) ?_);have q1:r0+(i - r0)=i:=by omega
  have q2:c0+(j - c0)=j:=by omega
  show (!w.m.rcBad r0 c0 n (r0+(i - r0)) (c0+(j - c0)))=false;rw [q1,q2,h5];rfl
 refine qE ?_;refine qA fun K hn hp=> ?_;simp only [sy.1,rE,reduceIte,rL,u2];apply hn;refine qF fun KA A1 A2 A3 A4 A5=> ?_;refine qS (sok xt) (fun st=> ∃(i:Nat) (m:Nat) (tm:T AV),st=⟨tm,91,h3.up m,[]⟩/\i<=(r0+n)/\tm.get 2=some (.ptr h.n 0)/\tm.get 3=some (.ptr (h.n+1) 0)/\tm.get 5=some (.ptr (h.n+2) 0)/\tm.get 6=some (iv n)/\tm.get 7=some (iv i)/\h3.n<=m/\r0<=i/\ ∀i',r0<=i'->i'<i-> ∀j',c0<=j'->j'<c0+n->w.m.rcBad r0 c0 n i' j'=false) (fun st=>(r0+n) - (match st.tm.get 7 with|some (.val (.int _ n))=>n.toNat|_=>0)) ?_ ?_
 ·rintro st ⟨i,m,tm,rfl,hkA,g2,g3,g5,g6,g7,hm1,hi0,hall⟩;have muA:=g7;refine qE ?_;refine qA fun K hn hp=> ?_;simp only [sy.1,rE,reduceIte,rL,u2,w3,jR,g3,g6,g7];apply hn;by_cases hi:i<r0+n
  ·refine qC true (by simp only [sy.1,rE,reduceIte,hi]) (fun _=> ?_) (fun hx=>by cases hx);refine qI ?_;refine qF fun KB B1 B2 B3 B4 B5=> ?_;refine qA fun K hn hp=> ?_;simp only [sy.1,rE,reduceIte,rL,u2,g3];apply hn;refine jU fun KD D1 D2 D3 D4 D5=> ?_;refine qS (sok xt) (fun st=> ∃(j:Nat) (m2:Nat) (tm:T AV),st=⟨tm,91,h3.up m2,[]⟩/\j<=(c0+n)/\tm.get 2=some (.ptr h.n 0)/\tm.get 3=some (.ptr (h.n+1) 0)/\tm.get 5=some (.ptr (h.n+2) 0)/\tm.get 6=some (iv n)/\tm.get 7=some (iv i)/\tm.get 8=some (iv j)/\h3.n<=m2/\c0<=j/\ ∀j',c0<=j'->j'<j->w.m.rcBad r0 c0 n i j'=false) (fun st=>(c0+n) - (match st.tm.get 8 with|some (.val (.int _ n))=>n.toNat|_=>0)) ?_ ?_
   ·rintro st ⟨j,m2,tm,rfl,hkD,g2,g3,g5,g6,g7,g8,hm2,hj0,hallj⟩;have muD:=g8;refine qE ?_;refine qA fun K hn hp=> ?_;simp only [sy.1,rE,reduceIte,rL,u2,w4,jR,g3,g6,g8];apply hn;by_cases hj:j<c0+n
    ·refine qC true (by simp only [sy.1,rE,reduceIte,hj]) (fun _=> ?_) (fun hx=>by cases hx);refine qI ?_;refine qF fun KE E1 E2 E3 E4 E5=> ?_;have w5:IntKind.i64.wrap ((j:Int)+1)=((j+1:Nat):Int):=by rw [wrap_i64 _ (by omega) (by omega)];simp
     have w6:IntKind.i64.wrap ((i:Int)+1)=((i+1:Nat):Int):=by rw [wrap_i64 _ (by omega) (by omega)];simp
     have next: ∀(tm:T AV) (m3:Nat),h3.n<=m3->w.m.rcBad r0 c0 n i j=false->tm.get 2=some (.ptr h.n 0)->tm.get 3=some (.ptr (h.n+1) 0)->tm.get 5=some (.ptr (h.n+2) 0)->tm.get 6=some (iv n)->tm.get 7=some (iv i)->tm.get 8=some (iv j)->KE .normal ⟨tm,91,h3.up m3,[]⟩:=by
      intro tm m3 hm3 hb g2 g3 g5 g6 g7 g8;refine E1 _ ?_;refine reg fun K hn hp=> ?_;simp only [sy.1,rE,reduceIte,rL,g8,qQ hj (show c0+n<=9223372036854775807 by omega)];apply hn;refine ⟨⟨j+1,m3,_,rfl,by omega,(by simp [xZZ,g2]),(by simp [xZZ,g3]),(by simp [xZZ,g5]),(by simp [xZZ,g6]),(by simp [xZZ,g7]),(by simp [xZZ]),hm3,by omega,fun j' h1 h2=> ?_⟩,by simpa [xZZ,muD] using (by omega:(c0+n) - (j+1)<(c0+n) - j)⟩;by_cases e:j'=j
      ·rw [e];exact hb
      ·exact hallj j' h1 (by omega)
     refine qA fun K hn hp=> ?_;simp only [sy.1,rE,reduceIte,rL,rA,t3,g5,g7,g8];refine qB (sok xt) (rc_c xt _ w.m (ha3.m.up hm2) i j fun n5 hn5=> ?_);simp only [xZF] at hn5;cases c1:decide (w.m.rc i j=2)
     ·simp only [sy.1,rE,reduceIte,rL,syw.1,c1,xZS];apply hn;refine qH true (by simp only [sy.1,rE,reduceIte]) (fun _=> ?_) (fun hx=>by cases hx);refine qA fun K hn hp=> ?_;simp only [sy.1,rL];apply hn;refine qD (E4 _ (D4 _ (B4 _ (A4 _ (qK qBm ⟨?_,fr3.up (by omega)⟩)))));simp [xZZ,no i j hi0 hi hj0 hj (by simp [Mp.rcBad,c1])]
     have r1:decide ((j:Int)+1<((c0+n:Nat):Int))=decide (j+1<c0+n):=decide_eq_decide.2 (by omega);have r2:decide ((i:Int)+1<((r0+n:Nat):Int))=decide (i+1<r0+n):=decide_eq_decide.2 (by omega);by_cases d1:j+1<c0+n
     ·simp only [sy.1,rE,reduceIte,rL,rA,t3,u2,w4,jR,g3,g5,g6,g7,g8,c1,w5,d1,xZS];refine qB (sok xt) (qAh xt _ w.m (ha3.m.up (by omega)) i j false fun n6 hn6=> ?_);simp only [xZF] at hn6;cases c2:w.m.crk i j false
      rotate_left
      ·simp only [sy.1,rE,reduceIte,rL,syw.1,xZS];apply hn;refine qH true (by simp only [sy.1,rE,reduceIte]) (fun _=> ?_) (fun hx=>by cases hx);refine qA fun K hn hp=> ?_;simp only [sy.1,rL];apply hn;refine qD (E4 _ (D4 _ (B4 _ (A4 _ (qK qBm ⟨?_,fr3.up (by omega)⟩)))));simp [xZZ,no i j hi0 hi hj0 hj (by simp only [Mp.rcBad,c1,r1,r2];simp [*])]
      by_cases d2:i+1<r0+n
      ·simp only [sy.1,rE,reduceIte,rL,rA,t3,u2,w3,jR,g3,g5,g6,g7,g8,w6,d2,xZS];refine qB (sok xt) (qAh xt _ w.m (ha3.m.up (by omega)) i j true fun n7 hn7=> ?_);simp only [xZF] at hn7;cases c3:w.m.crk i j true
       rotate_left
       ·simp only [sy.1,rE,reduceIte,rL,xZS];apply hn;refine qH true (by simp only [sy.1,rE,reduceIte]) (fun _=> ?_) (fun hx=>by cases hx);refine qA fun K hn hp=> ?_;simp only [sy.1,rL];apply hn;refine qD (E4 _ (D4 _ (B4 _ (A4 _ (qK qBm ⟨?_,fr3.up (by omega)⟩)))));simp [xZZ,no i j hi0 hi hj0 hj (by simp only [Mp.rcBad,c1,r1,r2];simp [*])]
       simp only [sy.1,rE,reduceIte,rL,xZS];apply hn;refine qH false (by simp only [sy.1,rE,reduceIte]) (fun hx=>by cases hx) (fun _=> ?_);refine qY (next _ n7 (by omega) (by simp only [Mp.rcBad,c1,r1,r2];simp [*]) ?_ ?_ ?_ ?_ ?_ ?_);all_goals simp [xZZ,g2,g3,g5,g6,g7,g8]
      ·skip
       simp only [sy.1,rE,reduceIte,rL,u2,w3,jR,g3,g6,g7,w6,d2,xZS];apply hn;refine qH false (by simp only [sy.1,rE,reduceIte]) (fun hx=>by cases hx) (fun _=> ?_);refine qY (next _ n6 (by omega) (by simp only [Mp.rcBad,c1,r1,r2];simp [*]) ?_ ?_ ?_ ?_ ?_ ?_);all_goals simp [xZZ,g2,g3,g5,g6,g7,g8]
     ·skip
      by_cases d2:i+1<r0+n
      ·simp only [sy.1,rE,reduceIte,rL,rA,t3,u2,w3,w4,jR,g3,g5,g6,g7,g8,c1,w5,w6,d1,d2,xZS];refine qB (sok xt) (qAh xt _ w.m (ha3.m.up (by omega)) i j true fun n7 hn7=> ?_);simp only [xZF] at hn7;cases c3:w.m.crk i j true
       rotate_left
       ·simp only [sy.1,rE,reduceIte,rL,xZS];apply hn;refine qH true (by simp only [sy.1,rE,reduceIte]) (fun _=> ?_) (fun hx=>by cases hx);refine qA fun K hn hp=> ?_;simp only [sy.1,rL];apply hn;refine qD (E4 _ (D4 _ (B4 _ (A4 _ (qK qBm ⟨?_,fr3.up (by omega)⟩)))));simp [xZZ,no i j hi0 hi hj0 hj (by simp only [Mp.rcBad,c1,r1,r2];simp [*])]
       simp only [sy.1,rE,reduceIte,rL,xZS];apply hn;refine qH false (by simp only [sy.1,rE,reduceIte]) (fun hx=>by cases hx) (fun _=> ?_);refine qY (next _ n7 (by omega) (by simp only [Mp.rcBad,c1,r1,r2];simp [*]) ?_ ?_ ?_ ?_ ?_ ?_);all_goals simp [xZZ,g2,g3,g5,g6,g7,g8]
      ·skip
       simp only [sy.1,rE,reduceIte,rL,u2,w3,w4,jR,g3,g6,g7,g8,c1,w5,w6,d1,d2,xZS];apply hn;refine qH false (by simp only [sy.1,rE,reduceIte]) (fun hx=>by cases hx) (fun _=> ?_);refine qY (next _ n5 (by omega) (by simp only [Mp.rcBad,c1,r1,r2];simp [*]) ?_ ?_ ?_ ?_ ?_ ?_);all_goals simp [xZZ,g2,g3,g5,g6,g7,g8]
    ·refine qC false (by simp only [sy.1,rE,reduceIte,hj]) (fun hx=>by cases hx) (fun _=> ?_);refine qR (D2 _ ?_);refine B1 _ ?_;refine reg fun K hn hp=> ?_;simp only [sy.1,rE,reduceIte,rL,g7,qQ hi (show r0+n<=9223372036854775807 by omega)];apply hn;refine ⟨⟨i+1,m2,_,rfl,by omega,(by simp [xZZ,g2]),(by simp [xZZ,g3]),(by simp [xZZ,g5]),(by simp [xZZ,g6]),(by simp [xZZ]),hm2,by omega,fun i' h1 h2 j' h3 h4=> ?_⟩,by simpa [xZZ,muA] using (by omega:(r0+n) - (i+1)<(r0+n) - i)⟩;by_cases e:i'=i
     ·rw [e];exact hallj j' h3 (by omega)
     ·exact hall i' h1 (by omega) j' h3 h4
   ·exact ⟨c0,m,_,rfl,(by omega),(by simp [xZZ,g2]),(by simp [xZZ,g3]),(by simp [xZZ,g5]),(by simp [xZZ,g6]),(by simp [xZZ,g7]),(by simp [xZZ]),hm1,xZW _,fun j' h1 h2=>absurd h1 (by omega)⟩
  ·refine qC false (by simp only [sy.1,rE,reduceIte,hi]) (fun hx=>by cases hx) (fun _=> ?_);refine qR (A2 _ ?_);refine qA fun K hn hp=> ?_;simp only [sy.1,rL];apply hn;refine qD (qK qBm ⟨?_,fr3.up (by omega)⟩);have:w.m.rcan R C n r0 c0=true:=by
    simp only [Mp.rcan,e1',e2',Bool.true_and,xYZ];exact wJ fun i' h1=>wJ fun j' h2=>by rw [hall (r0+i') (by omega) (by omega) (c0+j') (by omega) (by omega)];rfl
   simp [xZZ,this]
 ·exact ⟨r0,n4,_,rfl,(by omega),(by simp [xZZ]),(by simp [xZZ]),(by simp [xZZ]),(by simp [xZZ]),(by simp [xZZ]),by omega,xZW _,fun i' h1 h2=>absurd h1 (by omega)⟩
end Go.Proofs.Kn
namespace Go.Proofs.Kn
open Go Go.Ev
set_option maxRecDepth 100000
set_option maxHeartbeats 4000000
theorem ft111 (xt:Addr->Option Value):(SE xt).ft.get 111=some Tryz.f111:=by kernel_rfl
theorem res111:Tryz.f111.results.toList=[.tmp 6]:=by kernel_rfl
theorem qDu (xt:Addr->Option Value) (h:Hp) (w:Wk) (ha:w.At xt h) (v:AV) (hv:Go.Ev.one v=true) (a b:Int) (q:Nat) (n th wo:Int) (hx:w.ts[q]? =some (n,th,wo)) (hk1:0<=w.kerf) (hk2:w.kerf<=5) (ht1:1<=th) (ht2:th<=60) (bk:Int) (b1:bk<=60) (b2:0<=bk)
  {K:CR->Hp->Prop} (hk: ∀m,h.n<m->K (.ret (iv ((bk+w.kerf).tdiv (th+w.kerf)))) (h.up m)):FnA (SE xt) 111 [.agg (w.bc v),wY (a,b,(q:Int)),iv bk] h K:=by
 refine FnA.calm ?_ hk;clear hk K;refine FnA.walk (sok xt) (ft111 xt) rfl 25 rfl ?_;obtain ⟨o1,o2,o3,o4,o5⟩:=ha.ones;have hq:q<w.ts.length:=(xZM.1 hx).1;have i1:=ha.ts.idx qAL rfl yB rfl (i:=q) (by simpa using hq) (k:= .i64);refine qA fun K hn hp=> ?_;simp only [sw.1,rE,reduceIte,rL,rA];apply hn;obtain ⟨h1,hh1⟩: ∃h1:Hp,h1=h.new (.cells (w.bc v) 121):=⟨_,rfl⟩;rw [<-hh1];have nh1:h1.n=h.n+1:=by rw [hh1];rfl
 have sh1:h1.t.get h.n=some (.cells (w.bc v) 121):=by rw [hh1];exact qX _ _
 have kh1: ∀k,k<h.n->h1.t.get k=h.t.get k:=fun k hk=>by rw [hh1];exact qW _ _ hk
 have fbh1:Fr h.n h h1:=by rw [hh1];exact (xZA (xZW _)).new _
 have fh1:=fbh1;obtain ⟨h2,hh2⟩: ∃h2:Hp,h2=h1.new (.cells [iv a,iv b,iv q] 61):=⟨_,rfl⟩;rw [<-hh2];have nh2:h2.n=h1.n+1:=by rw [hh2];rfl
 have sh2:h2.t.get h1.n=some (.cells [iv a,iv b,iv q] 61):=by rw [hh2];exact qX _ _
 have kh2: ∀k,k<h1.n->h2.t.get k=h1.t.get k:=fun k hk=>by rw [hh2];exact qW _ _ hk
 have fbh2:Fr h1.n h1 h2:=by rw [hh2];exact (xZA (xZW _)).new _
 have fh2:Fr h.n h h2:=fh1.trans fbh2 (by omega);simp only [nh1,Nat.add_assoc,rA] at nh2 sh2 kh2;have s1:=(kh2 h.n (by omega)).trans sh1;have ha2:=ha.fr fh2 (xZW _);have hne:w.ts.map Kn.t3≠[]:=by intro e;have:=congrArg List.length e;simp at this;rw [this] at hq;simp at hq
 have i2:=ha2.ts.fa hne yB rfl (f:=1) (o:=1) (s:=0) (ft:=3) rfl (q*3);have i3:qP tb xt h2 3 (elp w.vt (q*3+1))=some (iv th):=ha2.ts.load tg3 rfl (i:=q) (j:=1) (c:=Kn.t3 (n,th,wo)) (by rw [xZP,hx];rfl) rfl;have w3:IntKind.i64.wrap (bk+w.kerf)=bk+w.kerf:=wrap_i64 _ (by omega) (by omega);have w4:IntKind.i64.wrap (th+w.kerf)=th+w.kerf:=wrap_i64 _ (by omega) (by omega);have e5:(bk+w.kerf).tdiv (th+w.kerf)=(bk+w.kerf) / (th+w.kerf):=Int.tdiv_eq_ediv_of_nonneg (by omega);have e6:=Int.ediv_nonneg (a:=bk+w.kerf) (b:=th+w.kerf) (by omega) (by omega);have e7:=Int.ediv_le_self (th+w.kerf) (show 0<=bk+w.kerf by omega);have w5:IntKind.i64.wrap ((bk+w.kerf).tdiv (th+w.kerf))=(bk+w.kerf).tdiv (th+w.kerf):=wrap_i64 _ (by omega) (by omega);refine yM (sok xt) 19 (by kernel_rfl) fun K hn hp=> ?_;simp only [sy.1,rE,reduceIte,rL,i1,sh2,s1,i2,i3,w3,w4,qEk _ _ (show th+w.kerf≠0 by omega),w5];refine hn _ _ (qD (qK res111 ⟨?_,fh2⟩));simp [xZZ]
end Go.Proofs.Kn
noncomputable section
namespace Go.Ev
section
variable {E:Env} {nt:Nat} {ops:Array Oper}
theorem drun_dl {P:Program} {tb:T TE} {xt:Addr->Option Value} {call:jB} {ops:Array Oper}: ∀(l:List Oper) (ms:List Nat) (st st1:DS),vM P tb xt call ops l ms st=some st1->(st1.ne=st.ne/\st1.dl=st.dl)\/ ∃j o,l[j]? =some o/\jC o.op= .eff/\st1.dl=st.i+j
 |[],ms,st,st1,h=>by rw [bB] at h;cases h;exact .inl ⟨rfl,rfl⟩
 |o::l,[],st,st1,h=>by rw [yU] at h;cases h
 |o::l,m::ms,st,st1,h=>by
  rw [jA] at h;cases hd:jE P tb xt call ops o m st with
  |none=>rw [hd] at h;cases h
  |some st'=>
   rw [hd] at h;have hi:st'.i=st.i+1:=by
    unfold jE at hd;split at hd
    ·cases hd
    ·rename_i k v h' _;simp only [Option.some.injEq] at hd;subst hd;cases k<;>rfl
   have h1:(st'.ne=st.ne/\st'.dl=st.dl)\/(jC o.op= .eff/\st'.dl=st.i):=by
    unfold jE at hd;split at hd
    ·cases hd
    ·rename_i k v h' hr;simp only [Option.some.injEq] at hd;subst hd;cases k with
     |new=>exact .inl ⟨rfl,rfl⟩
     |read=>exact .inl ⟨rfl,rfl⟩
     |eff=>
      refine .inr ⟨?_,rfl⟩;unfold zI at hr;cases haw:qO ops o st.tm with
      |false=>rw [haw] at hr;simp at hr
      |true=>
       rw [haw] at hr;simp only [cond_true] at hr;cases hk:jC o.op with
       |new=>
        rw [hk] at hr;simp only at hr;split at hr<;>simp at hr
       |read=>
        rw [hk] at hr;simp only at hr;split at hr<;>simp at hr
       |eff=>rfl
   rcases drun_dl l ms st' st1 h with ⟨q1,q2⟩|⟨j,o',q1,q2,q3⟩
   ·rcases h1 with ⟨p1,p2⟩|⟨p1,p2⟩
    ·exact .inl ⟨q1.trans p1,q2.trans p2⟩
    ·exact .inr ⟨0,o,rfl,p1,by rw [q2,p2];rfl⟩
   ·exact .inr ⟨j+1,o',q1,q2,by rw [q3,hi];omega⟩
def isEffK (o:Op):Bool:=
 match jC o with
 | .eff=>true
 |_=>false
def qC4 (nt:Nat) (ops:Array Oper) (k:Nat):Bool:=
 let l:=ops.toList.take k
 match ops.toList.drop k with
 |a::z::rest=>
  let pre:=l++([a]++[z])
  match sta ⟨pre⟩ with
  |none=>false
  |some s=>Nat.ble s.mx nt && (isAl nt a && (isSt z.op && ((match z.guard with|none=>true|some _=>false) && (Nat.beq l.length k &&
   ((match s.ms.drop k with
     |_::mz::_=>bt mz k && ((List.range k).all (fun i=>match l[i]? with|some o=> !isEffK o.op || bt mz i|none=>true) &&
      (match xM [] (k+1) l s.ms 0 0 0 0 [] [] with
      |none=>false
      |some (SR,SV)=>SV.all (fun e=> !bt e.2.1 k) && SR.all fun r=>SV.all (ordd [] r) && ordd [] r ((match SV with|[]=>0|e::_=>e.1)+1,mz,pre.length)))
     |_=>false) && (kA pre rest && pre.all (zD pre.length)))))))
 |_=>false
end
section
variable {E:Env} {nt:Nat} {ops:Array Oper} {r:Option Nat} {mks:List Nat}
theorem SemC.drawnB (htb:Tb E.P E.tb) (hm:E.P.follows .mixedOrders=true) {id:Nat} (k:Nat) (hst:qC4 nt ops k=true) {tm:T AV} {h:Hp} {Q:Ex->St->Prop}
  (hw:WOW E nt ops (ops.toList.take k) 0 0 tm h [] [(0,h.t)] (fun tm1 h1 _ _=>WO E nt ops (ops.toList.drop k) tm1 h1 (wX ⟨tm,nt,h,mks⟩ Q))):W E r (.region id ops true) ⟨tm,nt,h,mks⟩ Q:=by
 unfold qC4 at hst;simp only at hst;obtain ⟨l,hl⟩: ∃l,l=ops.toList.take k:=⟨_,rfl⟩;split at hst
 rotate_left
 ·cases hst
 rename_i a z rest hdrop;rw [hdrop] at hw;rw [<-hl] at hst hw;have hall:l++([a]++[z])++rest=ops.toList:=by
  rw [hl,xZI];show ops.toList.take k++(a::z::rest)=_;rw [<-hdrop,xZO]
 cases hs:sta ⟨l++([a]++[z])⟩ with
 |none=>rw [hs] at hst;cases hst
 |some s=>
 rw [hs] at hst;simp only [xZU] at hst;obtain ⟨hmx,hal,hisz,hzg,hlk,hmid,hlast,hgl⟩:=hst;have hlk:=xZR hlk;split at hmid
 rotate_left
 ·cases hmid
 rename_i ma mz mrest hmz;simp only [xZU] at hmid;obtain ⟨hmzk,hef,hmid⟩:=hmid;split at hmid
 ·cases hmid
 rename_i SRA SVA hsa;simp only [xZU] at hmid;obtain ⟨hSVk,hord⟩:=hmid;have hgz:z.guard=none:=by
  cases hq:z.guard with
  |none=>rfl
  |some _=>rw [hq] at hzg;cases hzg
 obtain ⟨pre,hpre⟩: ∃pre,pre=l++([a]++[z]):=⟨_,rfl⟩;rw [<-hpre] at hs hord hlast hgl hall;have hgd: ∀o∈pre,∀j w,o.guard=some (j,w)->(⟨pre⟩:Array Oper)[j]? =ops[j]? :=fun o ho j w hg=>by
  have:=xZY.1 hgl o ho;unfold zD at this;rw [hg] at this;simp only [Nat.blt_eq] at this;rw [<-xZV,<-xZV,<-hall];simp [xZH this]
 have hgl1: ∀o∈l,∀j w,o.guard=some (j,w)->(⟨pre⟩:Array Oper)[j]? =ops[j]? :=fun o ho=>hgd o (by rw [hpre];simp [ho]);have hw1:=kO (ops':=⟨pre⟩) l 0 0 tm h [] [(0,h.t)] _ _ hgl1 (fun _ _ _ _ hh=>hh) hw;obtain ⟨call1,st1,ne1,mj1,dl1,tm1,h1,R1,V1,SV1,cs1,cr1,run1,I1,eSV,hq1⟩:=kT (AL:=[]) (h0:=h.t) (HA:=h.t) (FS:=[]) (fun _ _=>rfl) (fun _ _ _=>rfl) l s.ms 0 0 0 0 tm h [] [(0,h.t)] [] [] {i:=0,tm:=tm,n:=h.n,b:=h.t,mj:=0,dl:=0,ne:=0,fs:=[],bs:=[],rs:=[]} hw1 hsa
  ⟨rfl,rfl,rfl,rfl,rfl,.inr rfl,rfl,fun _=>⟨rfl,rfl,rfl⟩,fun hz=>absurd hz (xZE _),by simp,by simp,by simp⟩
 have hb1:st1.b=h1.t:=by
  rcases xZQ ne1 with hz|hz
  ·obtain ⟨_,y2,y3⟩:=I1.fz hz;rw [y2,y3]
  ·exact (I1.fs hz).2.1
 have hmj:bt mj1 k=false:=by
  have:=xZY.1 hSVk (ne1,mj1,k+1) (by rw [eSV];exact xZT);simpa using this
 obtain ⟨da,opa,tya,psa,afa,ga⟩:=a;have hal0:=hal;simp only [isAl] at hal;split at hal
 rotate_left
 ·cases hal
 rename_i e d;simp only [WO] at hq1;obtain ⟨_,hq1⟩:=hq1;have haw:qO ops ⟨some d,.alloc e,tya,psa,afa,none⟩ tm1=true:=rfl;rw [haw] at hq1;simp only [cond_true,qAo] at hq1;cases hte:E.tb.get e with
 |none=>
  have:jI E.tb h1 e=none:=by simp [jI,hte]
  rw [this] at hq1;exact hq1.elim
 |some te=>
 have hao:jI E.tb h1 e=some (.ptr h1.n 0,h1.new (.cells (te.zero.map .val) e)):=by simp [jI,hte]
 rw [hao] at hq1;have hq1:=And.right (show d<nt/\_ from hq1);have hwa:WOA E [⟨some d,.alloc e,tya,psa,afa,none⟩] tm1 h1.n [] (fun tm2 os=>WO E nt ops (z::rest) tm2 {t:=jY h1.t h1.n os,n:=h1.n+1} (wX ⟨tm,nt,h,mks⟩ Q)):=⟨te,hte,hq1⟩;have hmsl:(s.ms.drop l.length).length=(ma::mz::mrest).length:=by rw [hlk,hmz]
 obtain ⟨st2,os,tm2,run2,est2,hosl,hq2⟩:=pZ (nt:=nt) (ops:=⟨pre⟩) (call:=uW) [⟨some d,.alloc e,tya,psa,afa,none⟩] (s.ms.drop l.length) tm1 h1.n [] st1 hwa (by simp only [List.all_cons,List.all_nil,Bool.and_true];exact hal0) (by rw [hmsl];simp) I1.ftm I1.fn;rw [List.nil_append] at hq2;have hi1:st1.i=k:=by rw [I1.fi,xZD,hlk]
 have hfs2:st2.fs=feL k h1.n os:=by rw [est2];simp [I1.ffs,hi1]
 have hn2:st2.n=h1.n+1:=by rw [est2];rfl
 have hosl1:os.length=1:=hosl;have hALq: ∀(q:Nat->Bool) (b:Bool),q k=b-> ∀f,k<=f->f<k+os.length->q f=b:=fun q b hq f h1 h2=>by
  have:f=k:=by omega
  rw [this];exact hq
 simp only [WO] at hq2;obtain ⟨_,hq2⟩:=hq2;have hawz: ∀(o2:Array Oper) (t:T AV),qO o2 z t=true:=fun o2 t=>by simp only [qO,hgz]
 rw [hawz] at hq2;simp only [cond_true] at hq2;obtain ⟨call0,res,_,hop,hk⟩:=hq2.ev;rw [yZ hisz] at hop;cases ha:aop E.P E.tb E.xt (qG tm2) z.op {t:=jY h1.t h1.n os,n:=h1.n+1} with
 |none=>rw [ha] at hop;cases hop
 |some p=>
 obtain ⟨v,h3⟩:=p;rw [ha] at hop;simp only [uN,Option.some.injEq] at hop;subst hop;have hput: ∀{v:AV} {N:T AV->Prop},putK nt tm2 z.dst v N->N (yP tm2 z.dst v):=fun {v N} hp=>by
  unfold putK at hp;unfold yP;split at hp
  ·rename_i hd;rw [hd];exact hp
  ·rename_i d hd;rw [hd];exact hp.2
 have hq3:=hput (N:=fun tm'=>WO E nt ops rest tm' h3 (wX ⟨tm,nt,h,mks⟩ Q)) (show putK nt tm2 z.dst v (fun tm'=>WO E nt ops rest tm' h3 (wX ⟨tm,nt,h,mks⟩ Q)) from hk);obtain ⟨st3,hst3⟩: ∃st3,st3=upd z mz st2 v h3 .eff:=⟨_,rfl⟩;have hdl:(Nat.beq st2.ne 0 || bt mz st2.dl)=true:=by
  have e1:st2.ne=st1.ne/\st2.dl=st1.dl:=by rw [est2];exact ⟨rfl,rfl⟩
  rw [e1.1,e1.2];rcases drun_dl _ _ _ _ run1 with ⟨q1,_⟩|⟨j,o,q1,q2,q3⟩
  ·rw [q1];rfl
  ·have hj:j<k:=by rw [<-hlk];exact (xZM.1 q1).1
   have:=xZY.1 hef j (List.mem_range.2 hj);rw [q1] at this;simp only [isEffK,q2,Bool.not_true,Bool.false_or] at this;rw [q3];simp only [xZD];rw [this,Bool.or_true]
 have hov:({t:=ovl (fun f=>bt mz f && !bt st2.mj f) st2.fs st2.b,n:=st2.n}:Hp)={t:=jY h1.t h1.n os,n:=h1.n+1}:=by
  have e2:st2.mj=mj1/\st2.b=h1.t:=by rw [est2];exact ⟨I1.fmj,hb1⟩
  rw [hfs2,e2.1,e2.2,hn2,xB _ _ os k h1.n (hALq _ true (by simp [hmzk,hmj]))]
 have run3: ∀call,vM E.P E.tb E.xt call ⟨pre⟩ [z] ((s.ms.drop l.length).drop 1) st2=some st3:=fun call=>by
  have e3:(s.ms.drop l.length).drop 1=mz::mrest:=by rw [hlk,hmz];rfl
  have hd:jE E.P E.tb E.xt call ⟨pre⟩ z mz st2=some (upd z mz st2 v h3 .eff):=by
   unfold jE zI;rw [hawz,yG hisz];simp only [cond_true];rw [hdl];simp only [cond_true];have htm2:st2.tm=tm2:=by rw [est2]
   rw [hov,htm2,yZ hisz,ha];rfl
  rw [e3,jA,hd,hst3];rfl
 have run2:=j6 (call':=call1) (vN E.P E.xt) _ _ _ _ (fun fv a k r _ hr=>by cases hr) run2;have hrun:vM E.P E.tb E.xt call1 ⟨pre⟩ (⟨pre⟩:Array Oper).toList s.ms {i:=0,tm:=tm,n:=h.n,b:=h.t,mj:=0,dl:=0,ne:=0,fs:=[],bs:=[],rs:=[]}=some st3:=by
  have e0:vM E.P E.tb E.xt call1 ⟨pre⟩ (l++([⟨some d,.alloc e,tya,psa,afa,none⟩]++[z])) s.ms {i:=0,tm:=tm,n:=h.n,b:=h.t,mj:=0,dl:=0,ne:=0,fs:=[],bs:=[],rs:=[]}=some st3:=by
   rw [zS _ _ _ _ _ run1,zS _ _ _ _ _ run2];exact run3 call1
  rw [<-hpre] at e0;exact e0
 have est3:st3.rs=st1.rs/\st3.bs={j:=ne1,b:=h1.t,mj:=mj1,nx:=k+1}::st1.bs/\st3.ne=ne1+1/\st3.mj=mz/\st3.b=h3.t/\st3.n=h3.n/\st3.fs=feL k h1.n os:=by
  rw [hst3];refine ⟨by simp [upd,est2],?_,by simp [upd,est2,I1.fne],rfl,rfl,rfl,by simp only [upd];exact hfs2⟩;simp [upd,est2,I1.fne,I1.fmj,hb1,hi1]
 obtain ⟨e31,e32,e33,e34,e35,e36,e37⟩:=est3;have hord:=xZY.1 hord;have hchk:DChk E.P E.tb E.xt call1 st3 (⟨pre⟩:Array Oper).size:=by
  intro r hr e he;rw [e31] at hr;obtain ⟨q1,_,_⟩:=I1.frs r hr;have ho:=hord _ q1;simp only [xZU] at ho;obtain ⟨ho1,ho2⟩:=ho;have key:ordd [] (r.i,r.m,r.ne) (e.j,e.mj,e.nx)=true:=by
   rcases xZN.1 he with rfl|he
   ·rw [eSV] at ho2;simp only at ho2;simpa [e33,e34] using ho2
   ·rw [e32] at he;have hSV:=xZY.1 ho1;rcases xZN.1 he with rfl|he
    ·exact hSV _ (by rw [eSV];exact xZT)
    ·exact hSV _ (by rw [eSV];exact xZX _ (I1.fbs e he).1)
  unfold ordd at key;simp only [Bool.or_eq_true,List.any_nil,xZB,or_false] at key;rcases key with ho|ho|ho
  ·exact .inl (xZR ho)
  ·exact .inr (.inl ho)
  ·exact .inr (.inr (.inl ho))
 obtain ⟨n1,s1⟩:=xY htb cs1 hs (xZK hmx) hrun hchk;have e1:({t:=ovl (fun f=> !bt st3.mj f) st3.fs st3.b,n:=st3.n}:Hp)=h3:=by
  rw [e34,e35,e36,e37,u7 _ _ os k h1.n (hALq _ false (by simp [hmzk]))]
 rw [e1] at s1;rw [e36] at n1 s1;have htm3:st3.tm=yP tm2 z.dst v:=by rw [hst3];simp [upd,est2]
 rw [htm3] at s1;have hd:DrX E nt ⟨pre⟩ tm h .normal (yP tm2 z.dst v) h3:=⟨n1,s1⟩;obtain ⟨x,tm4,h4,hd2,hq4⟩:=DrX.lasts htb rest pre _ h3 hlast (fun j hj=>by rw [hall,xZV]) hd hq3;rw [hall] at hd2;have lift: ∀{a:Act} {w:World} {r:Option Nat} {id:Nat} {Q:Exit->Act->World->Prop},(∀t,wpOpsIn (Wd r) 0 E.P ops Q (Region.linearise .any ops t) a {w with drawn:=w.drawn+1})->(Code.region id ops true).wpIn (Wd r) 0 E.P Q a w:=fun hh=>by
  refine wpIn_region_draw fun t=> ?_;simp only [Region.schedule,hm,Bool.true_or,if_true];exact hh t
 have hds:DrwS E nt ops tm h x tm4 h4:=⟨hd2.1,fun lim hl c a w r id g hxt ht Q hQ=>lift fun t=>hd2.2 lim hl c a w r t g hxt ht Q hQ⟩;exact ⟨_,_,.regionD (st:=⟨tm,nt,h,mks⟩) hds,hq4⟩
theorem qDv (ok:SyOk E) {id:Nat} {b:Code} {tm:T AV} {h:Hp} {Q:Ex->St->Prop} (k:Nat) (hst:qC4 nt ops k=true) (hw: ∀K:Ex->T AV->Hp->Prop,(∀tm h,wpc E r b ⟨tm,nt,h,mks⟩ Q->K .normal tm h)->(∀v tm h,Q (.panic v) ⟨tm,nt,h,mks⟩->K (.panic v) tm h)->WOW E nt ops (ops.toList.take k) 0 0 tm h [] [(0,h.t)] (fun tm1 h1 _ _=>WO E nt ops (ops.toList.drop k) tm1 h1 K)):
  wpc E r (.seq (.region id ops true) b) ⟨tm,nt,h,mks⟩ Q:=by
 show W E r (.region id ops true) ⟨tm,nt,h,mks⟩ (uM (fun s=>wpc E r b s Q) Q);exact SemC.drawnB ok.tb ok.mixed k hst (hw _ (fun tm h hh=>hh) (fun v tm h hh=>hh))
end
end Go.Ev
end
