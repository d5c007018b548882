/- Parts of the proof, joined by a program. -/
import Derived.Shelf.Strings.OnBuilder
import Derived.Test.YtafhmammmgbdgaaGreatDoorProg
import Derived.Test.YtafhmammmgbdgaaGreatDoorQB
import Derived.Test.YtafhmammmgbdgaaGreatDoorQXKnTab
set_option linter.all false
namespace Go.Proofs
open Go.Shelf
def Tryz.lays156_ren:Go.Shelf.Ren:=⟨fun|156=>136|165=>202|166=>32|169=>34|240=>76|241=>259|276=>134|277=>308|n=>n,fun|31=>111|9=>9|3=>3|4=>4|0=>0|20=>20|72=>90|76=>93|70=>87|37=>88|75=>92|127=>156|164=>228|5=>5|80=>95|n=>n,fun|n=>n⟩
theorem Tryz.lays156:Go.Proofs.Lays.n156 Tryz.prog Tryz.lays156_ren:={
 mixed:=by kernel_rfl
 f156:=Tryz.func136.trans (congrArg some (by kernel_rfl))
 f165:=Tryz.func202.trans (congrArg some (by kernel_rfl))
 f166:=Tryz.func32.trans (congrArg some (by kernel_rfl))
 f169:=Tryz.func34.trans (congrArg some (by kernel_rfl))
 f240:=Tryz.func76.trans (congrArg some (by kernel_rfl))
 f241:=Tryz.func259.trans (congrArg some (by kernel_rfl))
 f276:=Tryz.func134.trans (congrArg some (by kernel_rfl))
 f277:=Tryz.func308.trans (congrArg some (by kernel_rfl))
 t0:=Tryz.underlying0
 a0:=Tryz.isAgg0
 z0:=Tryz.sizeOf0
 v0:=Tryz.zeroValue0
 t3:=Tryz.underlying3
 a3:=Tryz.isAgg3
 z3:=Tryz.sizeOf3
 v3:=Tryz.zeroValue3
 t4:=Tryz.underlying4
 a4:=Tryz.isAgg4
 z4:=Tryz.sizeOf4
 v4:=Tryz.zeroValue4
 t9:=Tryz.underlying9
 a9:=Tryz.isAgg9
 z9:=Tryz.sizeOf9
 v9:=Tryz.zeroValue9
 t20:=Tryz.underlying20
 a20:=Tryz.isAgg20
 z20:=Tryz.sizeOf20
 v20:=Tryz.zeroValue20
 t31:=Tryz.underlying111
 a31:=Tryz.isAgg111
 z31:=Tryz.sizeOf111
 v31:=Tryz.zeroValue111
 t37:=Tryz.underlying88
 a37:=Tryz.isAgg88
 z37:=Tryz.sizeOf88
 v37:=Tryz.zeroValue88
 t70:=Tryz.underlying87
 a70:=Tryz.isAgg87
 z70:=Tryz.sizeOf87
 v70:=Tryz.zeroValue87
 t72:=Tryz.underlying90
 a72:=Tryz.isAgg90
 z72:=Tryz.sizeOf90
 v72:=Tryz.zeroValue90
 t75:=Tryz.underlying92
 a75:=Tryz.isAgg92
 z75:=Tryz.sizeOf92
 v75:=Tryz.zeroValue92
 t76:=Tryz.underlying93
 a76:=Tryz.isAgg93
 z76:=Tryz.sizeOf93
 v76:=Tryz.zeroValue93
 t127:=Tryz.underlying156
 a127:=Tryz.isAgg156
 z127:=Tryz.sizeOf156
 v127:=Tryz.zeroValue156
 t164:=Tryz.underlying228
 a164:=Tryz.isAgg228
 z164:=Tryz.sizeOf228
 v164:=Tryz.zeroValue228}
theorem Tryz.Builder_Extra_156:Builder.Extra Tryz.prog Tryz.lays156_ren:={
 sizeBuilder:=by kernel_rfl
 liesBuilder:=by kernel_rfl
 t5:=Tryz.underlying5
 a5:=Tryz.isAgg5
 z5:=Tryz.sizeOf5
 v5:=Tryz.zeroValue5
 infoByte:=by kernel_rfl
 cellsByte:=by kernel_rfl
 sizeByte:=by kernel_rfl
 neB5:=by decide}
open Go.RowKit in
open Go.RowKit in
theorem Tryz.strings_Join (bk o c:Nat) (xs:List ByteArray) (sep:ByteArray) (w:World) (hcells: ∀(j:Nat) x,xs[j]? =some x→w.cell? ⟨bk,o+j,none⟩=some (.string x)) (hbk:bk<w.heap.size) (hN:xs.length≤140737488355328) (hcap:xs.length≤c) (hlen:(Lib.join (xs.map (·.data.toList)) sep.data.toList).length≤140737488355328):
  Calls Tryz.prog 136 #[.slice (some ⟨bk,o,none⟩) xs.length c,.string sep] w fun e w'=>e= .returned (.string ⟨(Lib.join (xs.map (·.data.toList)) sep.data.toList).toArray⟩)∧Below w.heap.size w w':=Any.strings_Join Tryz.lays156 Tryz.Builder_Extra_156 bk o c xs sep w hcells hbk hN hcap hlen
end Go.Proofs
noncomputable section
namespace Go.Proofs.Kn
open Go Go.Ev
theorem mkDfr_is {P:Program} {f:Nat} {fn fng:Func} {D:Dfr} (h:mkDfr fn fng=some D) (hf:P.funcs[f]? =some fn) (hg:P.funcs[D.g]? =some fng) (n1:(fn.name== "runtime.NumGoroutine")=false) (n2:(fng.name== "runtime.NumGoroutine")=false):IsDfr P f D:=by
 have toE: ∀{α:Type} {xs:Array α} {l:List α},xs.toList=l→xs=l.toArray:=fun h=>by apply Array.ext';simpa using h
 unfold mkDfr at h;split at h
 ·rename_i a id ops c idr opr rest hb hgb;split at h
  ·rename_i o1 o2 orr hops hopr;split at h
   ·rename_i g first caps d q e1 e2 e3 e4 e5 e6;split at h
    ·rename_i d' qr rd f1 f2 f3 f4 f5 f6 f7;split at h
     ·rename_i r1 r2 r3 r4
      replace h:=cond_some h
      obtain ⟨hdd,h⟩:=h;cases h;have:=Nat.eq_of_beq_eq_true hdd;subst this;obtain ⟨qc,qa,qt⟩:=q;obtain ⟨rc,ra,rt⟩:=qr;simp only at f2 f3 f4 r1 r2 r3;subst f2;subst r1;rw [toE f1] at e1;rw [toE f3,toE f4] at e4;rw [toE r2,toE r3] at f5;refine ⟨hf,?_,n1,⟨e1,e2,e3⟩,⟨e4,e5,e6⟩,hg,?_,n2,⟨f5,f6,f7⟩,?_⟩
      ·show fn.body=_;rw [hb,toE hops]
      ·show fng.body=_;rw [hgb,toE hopr]
      ·exact toE r4
     ·cases h
    ·cases h
   ·cases h
  ·cases h
 ·cases h
noncomputable def dfrOf (o:Option Dfr):Dfr:=
 match o with
 |some D=>D
 |none=>{a:= .skip,id:=0,o1:=⟨none,.move (.tmp 0),0, "",#[],none⟩,o2:=⟨none,.move (.tmp 0),0, "",#[],none⟩,g:=0,d:=0,caps:= #[],c:= .skip,idr:=0,orr:=⟨none,.move (.tmp 0),0, "",#[],none⟩,rd:=0,rest:= .skip,fn:=Tryz.f37,fng:=Tryz.f37}
noncomputable def D37:Dfr:=dfrOf (mkDfr Tryz.f37 Tryz.f83)
theorem d37_is:IsDfr Tryz.prog 37 D37:=mkDfr_is (fn:=Tryz.f37) (fng:=Tryz.f83) (by kernel_rfl) Tryz.func37 Tryz.func83 (by kernel_rfl) (by kernel_rfl)
noncomputable def D44:Dfr:=dfrOf (mkDfr Tryz.f44 Tryz.f89)
theorem d44_is:IsDfr Tryz.prog 44 D44:=mkDfr_is (fn:=Tryz.f44) (fng:=Tryz.f89) (by kernel_rfl) Tryz.func44 Tryz.func89 (by kernel_rfl) (by kernel_rfl)
noncomputable def D170:Dfr:=dfrOf (mkDfr Tryz.f170 Tryz.f220)
theorem d170_is:IsDfr Tryz.prog 170 D170:=mkDfr_is (fn:=Tryz.f170) (fng:=Tryz.f220) (by kernel_rfl) Tryz.func170 Tryz.func220 (by kernel_rfl) (by kernel_rfl)
noncomputable def D193:Dfr:=dfrOf (mkDfr Tryz.f193 Tryz.f251)
theorem d193_is:IsDfr Tryz.prog 193 D193:=mkDfr_is (fn:=Tryz.f193) (fng:=Tryz.f251) (by kernel_rfl) Tryz.func193 Tryz.func251 (by kernel_rfl) (by kernel_rfl)
noncomputable def D291:Dfr:=dfrOf (mkDfr Tryz.f291 Tryz.f326)
theorem d291_is:IsDfr Tryz.prog 291 D291:=mkDfr_is (fn:=Tryz.f291) (fng:=Tryz.f326) (by kernel_rfl) Tryz.func291 Tryz.func326 (by kernel_rfl) (by kernel_rfl)
theorem isCount:IsExt Tryz.prog 264 Extern.BytealgCount.count:=⟨Tryz.f264,Tryz.func264,by kernel_rfl,by kernel_rfl,by kernel_rfl,by kernel_rfl⟩
theorem isIndex:IsExt Tryz.prog 311 Extern.BytealgIndexByte.indexByte:=⟨Tryz.f311,Tryz.func311,by kernel_rfl,by kernel_rfl,by kernel_rfl,by kernel_rfl⟩
theorem isJoin:IsJoin Tryz.prog 136:=⟨⟨Tryz.f136,Tryz.func136,by kernel_rfl,by kernel_rfl⟩,fun bk o c xs sep w h1 h2 h3 h4 h5=>Tryz.strings_Join bk o c xs sep w h1 h2 h3 h4 h5⟩
section
variable (xt:Addr→Option Value)
noncomputable def E0:Env:={P:=Tryz.prog,tb:=tb,xt:=xt,ft:=ft,nat:=fun _ _ _ _=>none,drw:=fun _ _ _ _ _=>none}
noncomputable def ED:Env:={P:=Tryz.prog,tb:=tb,xt:=xt,ft:=ft,nat:=fun _ _ _ _=>none,drw:=evDrawP Tryz.prog tb xt}
noncomputable def natD (D:Dfr) (call:CallF) (args:List AV) (h:Hp):Option (CR×Hp):=evDfr (ED xt) (codeWith (ED xt) 100000 call 300) (ev (ED xt) 100 60).code D args h
noncomputable def natX (call:CallF) (f:Nat) (args:List AV) (h:Hp):Option (CR×Hp):=
 bif Nat.beq f 136 then (match args with
  |[a,b]=>(match b with
   | .val (.string sep)=>evJoin h a sep
   |_=>none)
  |_=>none)
 else bif Nat.beq f 264 then (match args with
  |[a,b]=>(match a,b with
   | .val (.string s),.val (.int .u8 n)=>some (.ret (.val (.int .i64 (Lib.countByte s.data.toList n.toNat.toUInt8))),h)
   |_,_=>none)
  |_=>none)
 else bif Nat.beq f 311 then (match args with
  |[a,b]=>(match a,b with
   | .val (.string s),.val (.int .u8 n)=>some (.ret (.val (.int .i64 (Lib.indexByte s.data.toList n.toNat.toUInt8))),h)
   |_,_=>none)
  |_=>none)
 else none
noncomputable def natF (call:CallF) (f:Nat) (args:List AV) (h:Hp):Option (CR×Hp):=
 bif Nat.beq f 37 then natD xt D37 call args h else
 bif Nat.beq f 44 then natD xt D44 call args h else
 bif Nat.beq f 170 then natD xt D170 call args h else
 bif Nat.beq f 193 then natD xt D193 call args h else
 bif Nat.beq f 291 then natD xt D291 call args h else
 natX call f args h
noncomputable def natM (call:CallF) (name:String) (args:List AV) (h:Hp):Option (CR×Hp):=
 match args with
 |[.ifc t (.agg [x,y,z])]=>bif Nat.beq t 80 || Nat.beq t 106 then
   (bif decide (name= "nacre/foreman.word") then call (.val (.func (.func 77) #[] #[])) [.agg [x,y]] h
   else bif decide (name= "nacre/foreman.many") then call (.val (.func (.func 20) #[] #[])) [.agg [x,y]] h
   else none) else none
 |_=>none
noncomputable def nat0 (call:CallF):CallF:=fun fv args h=>
 match fv with
 | .val (.func (.func f) first captured)=>(match first.toList,captured.toList with
  |[],[]=>natF xt call f args h
  |_,_=>none)
 | .val (.func (.method name) first captured)=>(match first.toList,captured.toList with
  |[],[]=>natM call name args h
  |_,_=>none)
 |_=>none
noncomputable def E:Env:={P:=Tryz.prog,tb:=tb,xt:=xt,ft:=ft,nat:=nat0 xt,drw:=evDrawP Tryz.prog tb xt}
end
theorem ftok (xt:Addr→Option Value):FtOk (E xt):=fun f fn h=>T.All.of ft_all f fn h
theorem ftok0 (xt:Addr→Option Value):FtOk (E0 xt):=fun f fn h=>T.All.of ft_all f fn h
theorem soundD0 (xt:Addr→Option Value):SoundD (ED xt):=fun call hs nt ops tm h x tm' h' he=>evDrawP_ok tb_ok mixed hs he
theorem code0_ok (xt:Addr→Option Value):SoundC (ED xt) (ev (ED xt) 100 60).code:=(ev_ok (E:=ED xt) (ftok0 xt) tb_ok (fun _ _ _ _ _ _ _ h=>by cases h) (soundD0 xt) 100 60).1
theorem natD_ok (xt:Addr→Option Value) {call:CallF} (hs:Sound Tryz.prog xt call) {f:Nat} {D:Dfr} (hD:IsDfr Tryz.prog f D) {args:List AV} {h h':Hp} {res:CR} (he:natD xt D call args h=some (res,h')):
  h.n≤h'.n∧ ∀lim,h'.n≤lim→SCall Tryz.prog xt lim (.val (.func (.func f) #[] #[])) args h res h':=by
 unfold natD at he;obtain ⟨n1,s1⟩:=dfr_ok (E:=ED xt) tb_ok (codeWith_ok (E:=ED xt) (ftok0 xt) tb_ok (soundD0 xt) hs 300) (code0_ok xt) hD he;refine ⟨n1,fun lim hl c w fv' args' g hxt hf ha=> ?_⟩;simp only [R] at hf;subst hf;refine ⟨_,rfl,.inl ⟨f,args'.toArray,?_,s1 lim hl c w args' g hxt ha⟩⟩;show (callFunc f ((#[]++args'.toArray)++ #[])).run Tryz.prog w=_;have hbd:D.fn.body.isNone=false:=by rw [hD.fb];rfl
 simp only [callFunc,Sem.run_bind,run_program,Result.andThen_ok,hD.f,hD.fnm,hbd,Bool.false_eq_true,if_false,Sem.run_pure];simp
theorem natX_ok (xt:Addr→Option Value) {call:CallF} {f:Nat} {args:List AV} {h h':Hp} {res:CR} (he:natX call f args h=some (res,h')):
  h.n≤h'.n∧ ∀lim,h'.n≤lim→SCall Tryz.prog xt lim (.val (.func (.func f) #[] #[])) args h res h':=by
 unfold natX at he;cases h2:Nat.beq f 136 with
 |true=>
  rw [h2] at he;have:=Nat.eq_of_beq_eq_true h2;subst this;simp only [cond_true] at he;split at he
  ·split at he
   ·obtain ⟨rfl,_⟩:=join_ok (xt:=xt) isJoin he 0;exact ⟨Nat.le_refl _,fun lim hl=>(join_ok isJoin he lim).2⟩
   ·cases he
  ·cases he
 |false=>
  rw [h2] at he;simp only [cond_false] at he;cases h3:Nat.beq f 264 with
  |true=>
   rw [h3] at he;have:=Nat.eq_of_beq_eq_true h3;subst this;simp only [cond_true] at he;split at he
   ·split at he
    ·rename_i s n;cases he;exact ⟨Nat.le_refl _,fun lim hl=>ext_ok (vs:=[.string s,.int .u8 n]) isCount (fun w=>Lib.run_countString s n w) lim h⟩
    ·cases he
   ·cases he
  |false=>
   rw [h3] at he;simp only [cond_false] at he;cases h4:Nat.beq f 311 with
   |true=>
    rw [h4] at he;have:=Nat.eq_of_beq_eq_true h4;subst this;simp only [cond_true] at he;split at he
    ·split at he
     ·rename_i s n;cases he;exact ⟨Nat.le_refl _,fun lim hl=>ext_ok (vs:=[.string s,.int .u8 n]) isIndex (fun w=>Lib.run_indexByteString s n w) lim h⟩
     ·cases he
    ·cases he
   |false=>
    rw [h4] at he;cases he
theorem natF_ok (xt:Addr→Option Value) {call:CallF} (hs:Sound Tryz.prog xt call) {f:Nat} {args:List AV} {h h':Hp} {res:CR} (he:natF xt call f args h=some (res,h')):
  h.n≤h'.n∧ ∀lim,h'.n≤lim→SCall Tryz.prog xt lim (.val (.func (.func f) #[] #[])) args h res h':=by
 unfold natF at he;cases h1:Nat.beq f 37 with
 |true=>
  rw [h1] at he;have:=Nat.eq_of_beq_eq_true h1;subst this;exact natD_ok xt hs d37_is he
 |false=>
 rw [h1] at he;simp only [cond_false] at he;clear h1;cases h1:Nat.beq f 44 with
 |true=>
  rw [h1] at he;have:=Nat.eq_of_beq_eq_true h1;subst this;exact natD_ok xt hs d44_is he
 |false=>
 rw [h1] at he;simp only [cond_false] at he;clear h1;cases h1:Nat.beq f 170 with
 |true=>
  rw [h1] at he;have:=Nat.eq_of_beq_eq_true h1;subst this;exact natD_ok xt hs d170_is he
 |false=>
 rw [h1] at he;simp only [cond_false] at he;clear h1;cases h1:Nat.beq f 193 with
 |true=>
  rw [h1] at he;have:=Nat.eq_of_beq_eq_true h1;subst this;exact natD_ok xt hs d193_is he
 |false=>
 rw [h1] at he;simp only [cond_false] at he;clear h1;cases h1:Nat.beq f 291 with
 |true=>
  rw [h1] at he;have:=Nat.eq_of_beq_eq_true h1;subst this;exact natD_ok xt hs d291_is he
 |false=>
 rw [h1] at he;simp only [cond_false] at he;clear h1;exact natX_ok xt he
theorem m_word80 (x y z:Value) (w:World):(invoke (.fn (.method "nacre/foreman.word") #[]) #[.iface 80 (.agg #[x,y,z])]).run Tryz.prog w= .ok (.enter 77 #[.agg #[x,y]]) w:=by kernel_rfl
theorem m_word106 (x y z:Value) (w:World):(invoke (.fn (.method "nacre/foreman.word") #[]) #[.iface 106 (.agg #[x,y,z])]).run Tryz.prog w= .ok (.enter 77 #[.agg #[x,y]]) w:=by kernel_rfl
theorem c_word (x y:Value) (w:World):(invoke (.fn (.func 77) #[]) #[.agg #[x,y]]).run Tryz.prog w= .ok (.enter 77 #[.agg #[x,y]]) w:=by kernel_rfl
theorem m_many80 (x y z:Value) (w:World):(invoke (.fn (.method "nacre/foreman.many") #[]) #[.iface 80 (.agg #[x,y,z])]).run Tryz.prog w= .ok (.enter 20 #[.agg #[x,y]]) w:=by kernel_rfl
theorem m_many106 (x y z:Value) (w:World):(invoke (.fn (.method "nacre/foreman.many") #[]) #[.iface 106 (.agg #[x,y,z])]).run Tryz.prog w= .ok (.enter 20 #[.agg #[x,y]]) w:=by kernel_rfl
theorem c_many (x y:Value) (w:World):(invoke (.fn (.func 20) #[]) #[.agg #[x,y]]).run Tryz.prog w= .ok (.enter 20 #[.agg #[x,y]]) w:=by kernel_rfl
theorem via_ok {xt:Addr→Option Value} {call:CallF} (hs:Sound Tryz.prog xt call) {f t:Nat} {name:String} {x y z:AV} {h h':Hp} {res:CR}
  (h1: ∀(x y z:Value) (w:World),(invoke (.fn (.method name) #[]) #[.iface t (.agg #[x,y,z])]).run Tryz.prog w= .ok (.enter f #[.agg #[x,y]]) w)
  (h2: ∀(x y:Value) (w:World),(invoke (.fn (.func f) #[]) #[.agg #[x,y]]).run Tryz.prog w= .ok (.enter f #[.agg #[x,y]]) w)
  (he:call (.val (.func (.func f) #[] #[])) [.agg [x,y]] h=some (res,h')):h.n≤h'.n∧ ∀lim,h'.n≤lim→SCall Tryz.prog xt lim (.val (.func (.method name) #[] #[])) [.ifc t (.agg [x,y,z])] h res h':=by
 obtain ⟨n1,s1⟩:=hs _ _ _ _ _ he;refine ⟨n1,fun lim hl c w fv' args' g hxt hf ha=> ?_⟩;simp only [R] at hf;subst hf;simp only [RL,R] at ha;obtain ⟨_,_,rfl,⟨_,rfl,_,rfl,a1,_,rfl,r1,a2,_,rfl,r2,a3,_,rfl,r3,rfl⟩,rfl⟩:=ha;obtain ⟨d,hd,hc⟩:=s1 lim hl c w (.func (.func f) #[] #[]) [.agg #[a1,a2]] g hxt (by simp only [R]) (RL.cons (by simp only [R,RL];exact ⟨[a1,a2],rfl,a1,[a2],rfl,r1,a2,[],rfl,r2,rfl⟩) RL.nil);have hd':d={target:= .fn (.func f) #[],args:= #[.agg #[a1,a2]]}:=by
  have:(Deferred.ofValue (.func (.func f) #[] #[]) [Value.agg #[a1,a2]].toArray).run Tryz.prog w= .ok {target:= .fn (.func f) #[],args:= #[.agg #[a1,a2]]} w:=rfl;rw [this] at hd;cases hd;rfl
 subst hd';have hi:(invoke (.fn (.func f) #[]) #[.agg #[a1,a2]]).run Tryz.prog w= .ok (.enter f #[.agg #[a1,a2]]) w:=h2 a1 a2 w;refine ⟨{target:= .fn (.method name) #[],args:= #[.iface t (.agg #[a1,a2,a3])]},rfl,.inl ⟨f,#[.agg #[a1,a2]],h1 a1 a2 a3 w,?_⟩⟩;rcases hc with ⟨f',xs,q1,q2⟩|⟨l,f',tmps,xs,b,q1,q2⟩|⟨v,w',q1,q2⟩
 ·have q1:(invoke (.fn (.func f) #[]) #[.agg #[a1,a2]]).run Tryz.prog w=_:=q1;rw [hi] at q1;cases q1;exact q2
 ·have q1:(invoke (.fn (.func f) #[]) #[.agg #[a1,a2]]).run Tryz.prog w=_:=q1;rw [hi] at q1;cases q1
 ·have q1:(invoke (.fn (.func f) #[]) #[.agg #[a1,a2]]).run Tryz.prog w=_:=q1;rw [hi] at q1;cases q1
theorem natM_ok (xt:Addr→Option Value) {call:CallF} (hs:Sound Tryz.prog xt call) {name:String} {args:List AV} {h h':Hp} {res:CR} (he:natM call name args h=some (res,h')):
  h.n≤h'.n∧ ∀lim,h'.n≤lim→SCall Tryz.prog xt lim (.val (.func (.method name) #[] #[])) args h res h':=by
 unfold natM at he;split at he
 ·rename_i t x y z
  replace he:=cond_some he
  obtain ⟨ht,he⟩:=he;simp only [Bool.or_eq_true] at ht;have ht:t=80∨t=106:=ht.imp Nat.eq_of_beq_eq_true Nat.eq_of_beq_eq_true;by_cases hw:name= "nacre/foreman.word"
  ·subst hw;simp only [decide_true,cond_true] at he;rcases ht with rfl|rfl
   ·exact via_ok hs m_word80 c_word he
   ·exact via_ok hs m_word106 c_word he
  ·rw [show decide (name= "nacre/foreman.word")=false by simp [hw]] at he;simp only [cond_false] at he;by_cases hm:name= "nacre/foreman.many"
   ·subst hm;simp only [decide_true,cond_true] at he;rcases ht with rfl|rfl
    ·exact via_ok hs m_many80 c_many he
    ·exact via_ok hs m_many106 c_many he
   ·rw [show decide (name= "nacre/foreman.many")=false by simp [hm]] at he;cases he
 ·cases he
theorem soundN (xt:Addr→Option Value):SoundN (E xt):=by
 intro call hs fv args h res h' he;change nat0 xt call fv args h=some (res,h') at he;unfold nat0 at he;split at he
 ·rename_i f first captured;split at he
  ·rename_i h1 h2;have e1:first= #[]:=by apply Array.ext';exact h1
   have e2:captured= #[]:=by apply Array.ext';exact h2
   subst e1;subst e2;exact natF_ok xt hs he
  ·cases he
 ·rename_i f first captured;split at he
  ·rename_i h1 h2;have e1:first= #[]:=by apply Array.ext';exact h1
   have e2:captured= #[]:=by apply Array.ext';exact h2
   subst e1;subst e2;exact natM_ok xt hs he
  ·cases he
 ·cases he
theorem soundD (xt:Addr→Option Value):SoundD (E xt):=fun call hs nt ops tm h x tm' h' he=>evDrawP_ok tb_ok mixed hs he
theorem ev_sound (xt:Addr→Option Value) (m n:Nat):SoundC (E xt) (ev (E xt) m n).code∧Sound Tryz.prog xt (ev (E xt) m n).call:=ev_ok (E:=E xt) (ftok xt) tb_ok (soundN xt) (soundD xt) m n
end Go.Proofs.Kn
end
noncomputable section
namespace Go.Proofs.Kn
open Go Go.Ev
set_option maxRecDepth 100000
def x0:Addr→Option Value:=fun a=>match a.block,a.off,a.spot with
 |1,i,none=>bif Nat.blt i 20 then some (.int .u64 ((10 ^ i:Nat):Int)) else none
 |_,_,_=>none
def bf:Nat→List AV→List AV
 |0,l=>l
 |n+1,l=> .val (.bool false)::bf n l
end Go.Proofs.Kn
end
namespace Go.Proofs.Kn
open Go Go.Ev
structure Lx (xt:Addr→Option Value):Prop where
 m: ∃m,xt ⟨0,0,none⟩=some (.int .i64 m)
 p: ∀a v,x0 a=some v→xt a=some v
end Go.Proofs.Kn
