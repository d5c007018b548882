/- Parts. -/
import Derived.Shelf.Strings.OnBuilder
import Derived.Test.YthimlgffanlomaaGreatDoorProg
import Derived.Test.YthimlgffanlomaaGreatDoorQB
import Derived.Test.YthimlgffanlomaaGreatDoorQD
set_option linter.all false
open Nat renaming eq_of_beq_eq_true → xZZ, le_refl → xZY
open Array renaming ext' → xZX
namespace Go.Proofs
open Go.Shelf
def Tryz.lays156_ren:Go.Shelf.Ren:=⟨fun|156=>182|165=>196|166=>197|169=>198|240=>217|241=>218|276=>229|277=>230|n=>n,fun|31=>153|9=>9|3=>3|4=>4|0=>0|20=>20|72=>259|76=>263|70=>257|37=>154|75=>262|127=>278|164=>287|5=>5|80=>265|n=>n,fun|n=>n⟩
theorem Tryz.lays156:Go.Proofs.Lays.n156 Tryz.prog Tryz.lays156_ren:={
 mixed:=by kernel_rfl
 f156:=Tryz.func182.trans (congrArg some (by kernel_rfl))
 f165:=Tryz.func196.trans (congrArg some (by kernel_rfl))
 f166:=Tryz.func197.trans (congrArg some (by kernel_rfl))
 f169:=Tryz.func198.trans (congrArg some (by kernel_rfl))
 f240:=Tryz.func217.trans (congrArg some (by kernel_rfl))
 f241:=Tryz.func218.trans (congrArg some (by kernel_rfl))
 f276:=Tryz.func229.trans (congrArg some (by kernel_rfl))
 f277:=Tryz.func230.trans (congrArg some (by kernel_rfl))
 t0:=Tryz.underlying0
 a0:=Tryz.isAgg0
 z0:=Tryz.sizeOf0
 v0:=Tryz.zeroValue0
 t3:=Tryz.underlying3
 a3:=Tryz.isAgg3
 z3:=Tryz.sizeOf3
 v3:=Tryz.zeroValue3
 t4:=Tryz.underlying4
 a4:=Tryz.isAgg4
 z4:=Tryz.sizeOf4
 v4:=Tryz.zeroValue4
 t9:=Tryz.underlying9
 a9:=Tryz.isAgg9
 z9:=Tryz.sizeOf9
 v9:=Tryz.zeroValue9
 t20:=Tryz.underlying20
 a20:=Tryz.isAgg20
 z20:=Tryz.sizeOf20
 v20:=Tryz.zeroValue20
 t31:=Tryz.underlying153
 a31:=Tryz.isAgg153
 z31:=Tryz.sizeOf153
 v31:=Tryz.zeroValue153
 t37:=Tryz.underlying154
 a37:=Tryz.isAgg154
 z37:=Tryz.sizeOf154
 v37:=Tryz.zeroValue154
 t70:=Tryz.underlying257
 a70:=Tryz.isAgg257
 z70:=Tryz.sizeOf257
 v70:=Tryz.zeroValue257
 t72:=Tryz.underlying259
 a72:=Tryz.isAgg259
 z72:=Tryz.sizeOf259
 v72:=Tryz.zeroValue259
 t75:=Tryz.underlying262
 a75:=Tryz.isAgg262
 z75:=Tryz.sizeOf262
 v75:=Tryz.zeroValue262
 t76:=Tryz.underlying263
 a76:=Tryz.isAgg263
 z76:=Tryz.sizeOf263
 v76:=Tryz.zeroValue263
 t127:=Tryz.underlying278
 a127:=Tryz.isAgg278
 z127:=Tryz.sizeOf278
 v127:=Tryz.zeroValue278
 t164:=Tryz.underlying287
 a164:=Tryz.isAgg287
 z164:=Tryz.sizeOf287
 v164:=Tryz.zeroValue287}
theorem Tryz.Builder_Extra_156:Builder.Extra Tryz.prog Tryz.lays156_ren:={
 sizeBuilder:=by kernel_rfl
 liesBuilder:=by kernel_rfl
 t5:=Tryz.underlying5
 a5:=Tryz.isAgg5
 z5:=Tryz.sizeOf5
 v5:=Tryz.zeroValue5
 infoByte:=by kernel_rfl
 cellsByte:=by kernel_rfl
 sizeByte:=by kernel_rfl
 neB5:=by decide}
open Go.RowKit in
open Go.RowKit in
theorem Tryz.strings_Join (bk o c:Nat) (xs:List ByteArray) (sep:ByteArray) (w:World) (hcells: ∀(j:Nat) x,xs[j]? =some x->w.cell? ⟨bk,o+j,none⟩=some (.string x)) (hbk:bk<w.heap.size) (hN:xs.length<=140737488355328) (hcap:xs.length<=c) (hlen:(Lib.join (xs.map (·.data.toList)) sep.data.toList).length<=140737488355328):
  Calls Tryz.prog 182 #[.slice (some ⟨bk,o,none⟩) xs.length c,.string sep] w fun e w'=>e= .returned (.string ⟨(Lib.join (xs.map (·.data.toList)) sep.data.toList).toArray⟩)/\Below w.heap.size w w':=Any.strings_Join Tryz.lays156 Tryz.Builder_Extra_156 bk o c xs sep w hcells hbk hN hcap hlen
end Go.Proofs
noncomputable section
namespace Go.Proofs.Kn
open Go Go.Ev
theorem mkDfr_is {P:Program} {f:Nat} {fn fng:Func} {D:Dfr} (h:mkDfr fn fng=some D) (hf:P.funcs[f]? =some fn) (hg:P.funcs[D.g]? =some fng) (n1:(fn.name== "runtime.NumGoroutine")=false) (n2:(fng.name== "runtime.NumGoroutine")=false):IsDfr P f D:=by
 have toE: ∀{α:Type} {xs:Array α} {l:List α},xs.toList=l->xs=l.toArray:=fun h=>by apply xZX;simpa using h
 unfold mkDfr at h;split at h
 ·rename_i a id ops c idr opr rest hb hgb;split at h
  ·rename_i o1 o2 orr hops hopr;split at h
   ·rename_i g first caps d q e1 e2 e3 e4 e5 e6;split at h
    ·rename_i d' qr rd f1 f2 f3 f4 f5 f6 f7;split at h
     ·rename_i r1 r2 r3 r4
      replace h:=qZ h
      obtain ⟨hdd,h⟩:=h;cases h;have:=xZZ hdd;subst this;obtain ⟨qc,qa,qt⟩:=q;obtain ⟨rc,ra,rt⟩:=qr;simp only at f2 f3 f4 r1 r2 r3;subst f2;subst r1;rw [toE f1] at e1;rw [toE f3,toE f4] at e4;rw [toE r2,toE r3] at f5;refine ⟨hf,?_,n1,⟨e1,e2,e3⟩,⟨e4,e5,e6⟩,hg,?_,n2,⟨f5,f6,f7⟩,?_⟩
      ·show fn.body=_;rw [hb,toE hops]
      ·show fng.body=_;rw [hgb,toE hopr]
      ·exact toE r4
     ·cases h
    ·cases h
   ·cases h
  ·cases h
 ·cases h
noncomputable def dfrOf (o:Option Dfr):Dfr:=
 match o with
 |some D=>D
 |none=>{a:= .skip,id:=0,o1:=⟨none,.move (.tmp 0),0, "",#[],none⟩,o2:=⟨none,.move (.tmp 0),0, "",#[],none⟩,g:=0,d:=0,caps:= #[],c:= .skip,idr:=0,orr:=⟨none,.move (.tmp 0),0, "",#[],none⟩,rd:=0,rest:= .skip,fn:=Tryz.f84,fng:=Tryz.f84}
noncomputable def D135:Dfr:=dfrOf (mkDfr Tryz.f84 Tryz.f133)
theorem d135_is:IsDfr Tryz.prog 84 D135:=mkDfr_is (fn:=Tryz.f84) (fng:=Tryz.f133) (by kernel_rfl) Tryz.func84 Tryz.func133 (by kernel_rfl) (by kernel_rfl)
theorem isCount:IsExt Tryz.prog 211 Extern.BytealgCount.count:=⟨Tryz.f211,Tryz.func211,by kernel_rfl,by kernel_rfl,by kernel_rfl,by kernel_rfl⟩
theorem isIndex:IsExt Tryz.prog 223 Extern.BytealgIndexByte.indexByte:=⟨Tryz.f223,Tryz.func223,by kernel_rfl,by kernel_rfl,by kernel_rfl,by kernel_rfl⟩
theorem isJoin:IsJoin Tryz.prog 182:=⟨⟨Tryz.f182,Tryz.func182,by kernel_rfl,by kernel_rfl⟩,fun bk o c xs sep w h1 h2 h3 h4 h5=>Tryz.strings_Join bk o c xs sep w h1 h2 h3 h4 h5⟩
section
variable (xt:Xt)
noncomputable def E0:Env:={P:=Tryz.prog,tb:=tb,xt:=xt,ft:=ft,nat:=fun _ _ _ _=>none,drw:=fun _ _ _ _ _=>none}
noncomputable def ED:Env:={P:=Tryz.prog,tb:=tb,xt:=xt,ft:=ft,nat:=fun _ _ _ _=>none,drw:=qCh Tryz.prog tb xt}
noncomputable def natF (call:jK) (f:Nat) (args:List AV) (h:Hp):Option (CR×Hp):=
 bif Nat.beq f 84 then evDfr (ED xt) (qFR (ED xt) 100000 call 300) (ev (ED xt) 100 60).code D135 args h
 else bif Nat.beq f 182 then (match args with
  |[a,b]=>(match b with
   | .val (.string sep)=>evJoin h a sep
   |_=>none)
  |_=>none)
 else bif Nat.beq f 211 then (match args with
  |[a,b]=>(match a,b with
   | .val (.string s),.val (.int .u8 n)=>some (.ret (.val (.int .i64 (Lib.countByte s.data.toList n.toNat.toUInt8))),h)
   |_,_=>none)
  |_=>none)
 else bif Nat.beq f 223 then (match args with
  |[a,b]=>(match a,b with
   | .val (.string s),.val (.int .u8 n)=>some (.ret (.val (.int .i64 (Lib.indexByte s.data.toList n.toNat.toUInt8))),h)
   |_,_=>none)
  |_=>none)
 else none
noncomputable def nat0 (call:jK):jK:=fun fv args h=>
 match fv with
 | .val (.func (.func f) first captured)=>(match first.toList,captured.toList with
  |[],[]=>natF xt call f args h
  |_,_=>none)
 |_=>none
noncomputable def E:Env:={P:=Tryz.prog,tb:=tb,xt:=xt,ft:=ft,nat:=nat0 xt,drw:=qCh Tryz.prog tb xt}
end
theorem ftok (xt:Xt):qBb (E xt):=fun f fn h=>T.All.of ft_all f fn h
theorem ftok0 (xt:Xt):qBb (E0 xt):=fun f fn h=>T.All.of ft_all f fn h
theorem soundD0 (xt:Xt):qDm (ED xt):=fun call hs nt ops tm h x tm' h' he=>qC0 qAu mixed hs he
theorem code0_ok (xt:Xt):zN (ED xt) (ev (ED xt) 100 60).code:=(ev_ok (E:=ED xt) (ftok0 xt) qAu (fun _ _ _ _ _ _ _ h=>by cases h) (soundD0 xt) 100 60).1
theorem natF_ok (xt:Xt) {call:jK} (hs:jY Tryz.prog xt call) {f:Nat} {args:List AV} {h h':Hp} {res:CR} (he:natF xt call f args h=some (res,h')):
  h.n<=h'.n/\ ∀lim,h'.n<=lim->qBX Tryz.prog xt lim (.val (.func (.func f) #[] #[])) args h res h':=by
 unfold natF at he;cases h1:Nat.beq f 84 with
 |true=>
  rw [h1] at he;have:=xZZ h1;subst this;simp only [cond_true] at he;obtain ⟨n1,s1⟩:=dfr_ok (E:=ED xt) qAu (qBT (E:=ED xt) (ftok0 xt) qAu (soundD0 xt) hs 300) (code0_ok xt) d135_is he;refine ⟨n1,fun lim hl c w fv' args' g hxt hf ha=> ?_⟩;simp only [R] at hf;subst hf;refine ⟨_,rfl,.inl ⟨84,args'.toArray,?_,s1 lim hl c w args' g hxt ha⟩⟩;show (callFunc 84 ((#[]++args'.toArray)++ #[])).run Tryz.prog w=_;have hbd:D135.fn.body.isNone=false:=by rw [d135_is.fb];rfl
  simp only [callFunc,Sem.run_bind,run_program,Result.andThen_ok,d135_is.f,d135_is.fnm,hbd,Bool.false_eq_true,if_false,Sem.run_pure];simp
 |false=>
  rw [h1] at he;simp only [cond_false] at he;cases h2:Nat.beq f 182 with
  |true=>
   rw [h2] at he;have:=xZZ h2;subst this;simp only [cond_true] at he;split at he
   ·split at he
    ·obtain ⟨rfl,_⟩:=join_ok (xt:=xt) isJoin he 0;exact ⟨xZY _,fun lim hl=>(join_ok isJoin he lim).2⟩
    ·cases he
   ·cases he
  |false=>
   rw [h2] at he;simp only [cond_false] at he;cases h3:Nat.beq f 211 with
   |true=>
    rw [h3] at he;have:=xZZ h3;subst this;simp only [cond_true] at he;split at he
    ·split at he
     ·rename_i s n;cases he;exact ⟨xZY _,fun lim hl=>ext_ok (vs:=[.string s,.int .u8 n]) isCount (fun w=>Lib.run_countString s n w) lim h⟩
     ·cases he
    ·cases he
   |false=>
    rw [h3] at he;simp only [cond_false] at he;cases h4:Nat.beq f 223 with
    |true=>
     rw [h4] at he;have:=xZZ h4;subst this;simp only [cond_true] at he;split at he
     ·split at he
      ·rename_i s n;cases he;exact ⟨xZY _,fun lim hl=>ext_ok (vs:=[.string s,.int .u8 n]) isIndex (fun w=>Lib.run_indexByteString s n w) lim h⟩
      ·cases he
     ·cases he
    |false=>
     rw [h4] at he;cases he
theorem soundN (xt:Xt):qDl (E xt):=by
 intro call hs fv args h res h' he;change nat0 xt call fv args h=some (res,h') at he;unfold nat0 at he;split at he
 ·rename_i f first captured;split at he
  ·rename_i h1 h2;have e1:first= #[]:=by apply xZX;exact h1
   have e2:captured= #[]:=by apply xZX;exact h2
   subst e1;subst e2;exact natF_ok xt hs he
  ·cases he
 ·cases he
theorem soundD (xt:Xt):qDm (E xt):=fun call hs nt ops tm h x tm' h' he=>qC0 qAu mixed hs he
theorem xG (xt:Xt) (m n:Nat):zN (E xt) (ev (E xt) m n).code/\jY Tryz.prog xt (ev (E xt) m n).call:=ev_ok (E:=E xt) (ftok xt) qAu (soundN xt) (soundD xt) m n
end Go.Proofs.Kn
end
