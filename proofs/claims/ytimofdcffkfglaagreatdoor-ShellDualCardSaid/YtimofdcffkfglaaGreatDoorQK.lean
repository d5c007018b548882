/- Parts. -/
import Derived.Shelf.Strings.OnBuilder
import Derived.Test.YtimofdcffkfglaaGreatDoorProg
import Derived.Test.YtimofdcffkfglaaGreatDoorQB
import Derived.Test.YtimofdcffkfglaaGreatDoorQD
set_option linter.all false
open Nat renaming eq_of_beq_eq_true → xZZ, le_refl → xZY
open Array renaming ext' → xZX
namespace Go.Proofs
open Go.Shelf
def Tryz.lays156_ren:Go.Shelf.Ren:=⟨fun|156=>222|165=>236|166=>237|169=>238|240=>257|241=>258|276=>269|277=>270|n=>n,fun|31=>187|9=>9|3=>3|4=>4|0=>0|20=>20|72=>284|76=>288|70=>282|37=>188|75=>287|127=>303|164=>312|5=>5|80=>290|n=>n,fun|n=>n⟩
theorem Tryz.lays156:Go.Proofs.Lays.n156 Tryz.prog Tryz.lays156_ren:={
 mixed:=by kernel_rfl
 f156:=Tryz.func222.trans (congrArg some (by kernel_rfl))
 f165:=Tryz.func236.trans (congrArg some (by kernel_rfl))
 f166:=Tryz.func237.trans (congrArg some (by kernel_rfl))
 f169:=Tryz.func238.trans (congrArg some (by kernel_rfl))
 f240:=Tryz.func257.trans (congrArg some (by kernel_rfl))
 f241:=Tryz.func258.trans (congrArg some (by kernel_rfl))
 f276:=Tryz.func269.trans (congrArg some (by kernel_rfl))
 f277:=Tryz.func270.trans (congrArg some (by kernel_rfl))
 t0:=Tryz.underlying0
 a0:=Tryz.isAgg0
 z0:=Tryz.sizeOf0
 v0:=Tryz.zeroValue0
 t3:=Tryz.underlying3
 a3:=Tryz.isAgg3
 z3:=Tryz.sizeOf3
 v3:=Tryz.zeroValue3
 t4:=Tryz.underlying4
 a4:=Tryz.isAgg4
 z4:=Tryz.sizeOf4
 v4:=Tryz.zeroValue4
 t9:=Tryz.underlying9
 a9:=Tryz.isAgg9
 z9:=Tryz.sizeOf9
 v9:=Tryz.zeroValue9
 t20:=Tryz.underlying20
 a20:=Tryz.isAgg20
 z20:=Tryz.sizeOf20
 v20:=Tryz.zeroValue20
 t31:=Tryz.underlying187
 a31:=Tryz.isAgg187
 z31:=Tryz.sizeOf187
 v31:=Tryz.zeroValue187
 t37:=Tryz.underlying188
 a37:=Tryz.isAgg188
 z37:=Tryz.sizeOf188
 v37:=Tryz.zeroValue188
 t70:=Tryz.underlying282
 a70:=Tryz.isAgg282
 z70:=Tryz.sizeOf282
 v70:=Tryz.zeroValue282
 t72:=Tryz.underlying284
 a72:=Tryz.isAgg284
 z72:=Tryz.sizeOf284
 v72:=Tryz.zeroValue284
 t75:=Tryz.underlying287
 a75:=Tryz.isAgg287
 z75:=Tryz.sizeOf287
 v75:=Tryz.zeroValue287
 t76:=Tryz.underlying288
 a76:=Tryz.isAgg288
 z76:=Tryz.sizeOf288
 v76:=Tryz.zeroValue288
 t127:=Tryz.underlying303
 a127:=Tryz.isAgg303
 z127:=Tryz.sizeOf303
 v127:=Tryz.zeroValue303
 t164:=Tryz.underlying312
 a164:=Tryz.isAgg312
 z164:=Tryz.sizeOf312
 v164:=Tryz.zeroValue312}
theorem Tryz.Builder_Extra_156:Builder.Extra Tryz.prog Tryz.lays156_ren:={
 sizeBuilder:=by kernel_rfl
 liesBuilder:=by kernel_rfl
 t5:=Tryz.underlying5
 a5:=Tryz.isAgg5
 z5:=Tryz.sizeOf5
 v5:=Tryz.zeroValue5
 infoByte:=by kernel_rfl
 cellsByte:=by kernel_rfl
 sizeByte:=by kernel_rfl
 neB5:=by decide}
open Go.RowKit in
open Go.RowKit in
theorem Tryz.strings_Join (bk o c:Nat) (xs:List ByteArray) (sep:ByteArray) (w:World) (hcells: ∀(j:Nat) x,xs[j]? =some x->w.cell? ⟨bk,o+j,none⟩=some (.string x)) (hbk:bk<w.heap.size) (hN:xs.length<=140737488355328) (hcap:xs.length<=c) (hlen:(Lib.join (xs.map (·.data.toList)) sep.data.toList).length<=140737488355328):
  Calls Tryz.prog 222 #[.slice (some ⟨bk,o,none⟩) xs.length c,.string sep] w fun e w'=>e= .returned (.string ⟨(Lib.join (xs.map (·.data.toList)) sep.data.toList).toArray⟩)/\Below w.heap.size w w':=Any.strings_Join Tryz.lays156 Tryz.Builder_Extra_156 bk o c xs sep w hcells hbk hN hcap hlen
end Go.Proofs
noncomputable section
namespace Go.Proofs.Kn
open Go Go.Ev
set_option maxRecDepth 100000
theorem mkDfr_is {P:Program} {f:Nat} {fn fng:Func} {D:Dfr} (h:mkDfr fn fng=some D) (hf:P.funcs[f]? =some fn) (hg:P.funcs[D.g]? =some fng) (n1:(fn.name== "runtime.NumGoroutine")=false) (n2:(fng.name== "runtime.NumGoroutine")=false):IsDfr P f D:=by
 have toE: ∀{α:Type} {xs:Array α} {l:List α},xs.toList=l->xs=l.toArray:=fun h=>by apply xZX;simpa using h
 unfold mkDfr at h;split at h
 ·rename_i a id ops c idr opr rest hb hgb;split at h
  ·rename_i o1 o2 orr hops hopr;split at h
   ·rename_i g first caps d q e1 e2 e3 e4 e5 e6;split at h
    ·rename_i d' qr rd f1 f2 f3 f4 f5 f6 f7;split at h
     ·rename_i r1 r2 r3 r4
      replace h:=qU h
      obtain ⟨hdd,h⟩:=h;cases h;have:=xZZ hdd;subst this;obtain ⟨qc,qa,qt⟩:=q;obtain ⟨rc,ra,rt⟩:=qr;simp only at f2 f3 f4 r1 r2 r3;subst f2;subst r1;rw [toE f1] at e1;rw [toE f3,toE f4] at e4;rw [toE r2,toE r3] at f5;refine ⟨hf,?_,n1,⟨e1,e2,e3⟩,⟨e4,e5,e6⟩,hg,?_,n2,⟨f5,f6,f7⟩,?_⟩
      ·show fn.body=_;rw [hb,toE hops]
      ·show fng.body=_;rw [hgb,toE hopr]
      ·exact toE r4
     ·cases h
    ·cases h
   ·cases h
  ·cases h
 ·cases h
noncomputable def dfrOf (o:Option Dfr):Dfr:=
 match o with
 |some D=>D
 |none=>{a:= .skip,id:=0,o1:=⟨none,.move (.tmp 0),0, "",#[],none⟩,o2:=⟨none,.move (.tmp 0),0, "",#[],none⟩,g:=0,d:=0,caps:= #[],c:= .skip,idr:=0,orr:=⟨none,.move (.tmp 0),0, "",#[],none⟩,rd:=0,rest:= .skip,fn:=Tryz.f135,fng:=Tryz.f135}
noncomputable def D135:Dfr:=dfrOf (mkDfr Tryz.f135 Tryz.f176)
theorem d135_is:IsDfr Tryz.prog 135 D135:=mkDfr_is (fn:=Tryz.f135) (fng:=Tryz.f176) (by kernel_rfl) Tryz.func135 Tryz.func176 (by kernel_rfl) (by kernel_rfl)
theorem isCount:IsExt Tryz.prog 251 Extern.BytealgCount.count:=⟨Tryz.f251,Tryz.func251,by kernel_rfl,by kernel_rfl,by kernel_rfl,by kernel_rfl⟩
theorem isIndex:IsExt Tryz.prog 263 Extern.BytealgIndexByte.indexByte:=⟨Tryz.f263,Tryz.func263,by kernel_rfl,by kernel_rfl,by kernel_rfl,by kernel_rfl⟩
theorem isJoin:IsJoin Tryz.prog 222:=⟨⟨Tryz.f222,Tryz.func222,by kernel_rfl,by kernel_rfl⟩,fun bk o c xs sep w h1 h2 h3 h4 h5=>Tryz.strings_Join bk o c xs sep w h1 h2 h3 h4 h5⟩
section
variable (xt:Xt)
noncomputable def E0:Env:={P:=Tryz.prog,tb:=tb,xt:=xt,ft:=ft,nat:=fun _ _ _ _=>none,drw:=fun _ _ _ _ _=>none}
noncomputable def ED:Env:={P:=Tryz.prog,tb:=tb,xt:=xt,ft:=ft,nat:=fun _ _ _ _=>none,drw:=qCa Tryz.prog tb xt}
noncomputable def natF (call:jE) (f:Nat) (args:List AV) (h:Hp):Option (CR×Hp):=
 bif Nat.beq f 135 then evDfr (ED xt) (qFX (ED xt) 100000 call 300) (ev (ED xt) 100 60).code D135 args h
 else bif Nat.beq f 222 then (match args with
  |[a,b]=>(match b with
   | .val (.string sep)=>evJoin h a sep
   |_=>none)
  |_=>none)
 else bif Nat.beq f 251 then (match args with
  |[a,b]=>(match a,b with
   | .val (.string s),.val (.int .u8 n)=>some (.ret (.val (.int .i64 (Lib.countByte s.data.toList n.toNat.toUInt8))),h)
   |_,_=>none)
  |_=>none)
 else bif Nat.beq f 263 then (match args with
  |[a,b]=>(match a,b with
   | .val (.string s),.val (.int .u8 n)=>some (.ret (.val (.int .i64 (Lib.indexByte s.data.toList n.toNat.toUInt8))),h)
   |_,_=>none)
  |_=>none)
 else none
noncomputable def nat0 (call:jE):jE:=fun fv args h=>
 match fv with
 | .val (.func (.func f) first captured)=>(match first.toList,captured.toList with
  |[],[]=>natF xt call f args h
  |_,_=>none)
 |_=>none
noncomputable def E:Env:={P:=Tryz.prog,tb:=tb,xt:=xt,ft:=ft,nat:=nat0 xt,drw:=qCa Tryz.prog tb xt}
end
theorem ftok (xt:Xt):qA5 (E xt):=fun f fn h=>T.All.of ft_all f fn h
theorem ftok0 (xt:Xt):qA5 (E0 xt):=fun f fn h=>T.All.of ft_all f fn h
theorem soundD0 (xt:Xt):qDn (ED xt):=fun call hs nt ops tm h x tm' h' he=>qCY qAp mixed hs he
theorem code0_ok (xt:Xt):zK (ED xt) (ev (ED xt) 100 60).code:=(ev_ok (E:=ED xt) (ftok0 xt) qAp (fun _ _ _ _ _ _ _ h=>by cases h) (soundD0 xt) 100 60).1
theorem natF_ok (xt:Xt) {call:jE} (hs:jS Tryz.prog xt call) {f:Nat} {args:List AV} {h h':Hp} {res:CR} (he:natF xt call f args h=some (res,h')):
  h.n<=h'.n/\ ∀lim,h'.n<=lim->qBV Tryz.prog xt lim (.val (.func (.func f) #[] #[])) args h res h':=by
 unfold natF at he;cases h1:Nat.beq f 135 with
 |true=>
  rw [h1] at he;have:=xZZ h1;subst this;simp only [cond_true] at he;obtain ⟨n1,s1⟩:=dfr_ok (E:=ED xt) qAp (qBQ (E:=ED xt) (ftok0 xt) qAp (soundD0 xt) hs 300) (code0_ok xt) d135_is he;refine ⟨n1,fun lim hl c w fv' args' g hxt hf ha=> ?_⟩;simp only [R] at hf;subst hf;refine ⟨_,rfl,.inl ⟨135,args'.toArray,?_,s1 lim hl c w args' g hxt ha⟩⟩;show (callFunc 135 ((#[]++args'.toArray)++ #[])).run Tryz.prog w=_;have hbd:D135.fn.body.isNone=false:=by rw [d135_is.fb];rfl
  simp only [callFunc,Sem.run_bind,run_program,Result.andThen_ok,d135_is.f,d135_is.fnm,hbd,Bool.false_eq_true,if_false,Sem.run_pure];simp
 |false=>
  rw [h1] at he;simp only [cond_false] at he;cases h2:Nat.beq f 222 with
  |true=>
   rw [h2] at he;have:=xZZ h2;subst this;simp only [cond_true] at he;split at he
   ·split at he
    ·obtain ⟨rfl,_⟩:=join_ok (xt:=xt) isJoin he 0;exact ⟨xZY _,fun lim hl=>(join_ok isJoin he lim).2⟩
    ·cases he
   ·cases he
  |false=>
   rw [h2] at he;simp only [cond_false] at he;cases h3:Nat.beq f 251 with
   |true=>
    rw [h3] at he;have:=xZZ h3;subst this;simp only [cond_true] at he;split at he
    ·split at he
     ·rename_i s n;cases he;exact ⟨xZY _,fun lim hl=>ext_ok (vs:=[.string s,.int .u8 n]) isCount (fun w=>Lib.run_countString s n w) lim h⟩
     ·cases he
    ·cases he
   |false=>
    rw [h3] at he;simp only [cond_false] at he;cases h4:Nat.beq f 263 with
    |true=>
     rw [h4] at he;have:=xZZ h4;subst this;simp only [cond_true] at he;split at he
     ·split at he
      ·rename_i s n;cases he;exact ⟨xZY _,fun lim hl=>ext_ok (vs:=[.string s,.int .u8 n]) isIndex (fun w=>Lib.run_indexByteString s n w) lim h⟩
      ·cases he
     ·cases he
    |false=>
     rw [h4] at he;cases he
theorem soundN (xt:Xt):qDm (E xt):=by
 intro call hs fv args h res h' he;change nat0 xt call fv args h=some (res,h') at he;unfold nat0 at he;split at he
 ·rename_i f first captured;split at he
  ·rename_i h1 h2;have e1:first= #[]:=by apply xZX;exact h1
   have e2:captured= #[]:=by apply xZX;exact h2
   subst e1;subst e2;exact natF_ok xt hs he
  ·cases he
 ·cases he
theorem soundD (xt:Xt):qDn (E xt):=fun call hs nt ops tm h x tm' h' he=>qCY qAp mixed hs he
theorem xA (xt:Xt) (m n:Nat):zK (E xt) (ev (E xt) m n).code/\jS Tryz.prog xt (ev (E xt) m n).call:=ev_ok (E:=E xt) (ftok xt) qAp (soundN xt) (soundD xt) m n
abbrev yV (n:Int):AV:= .val (.int .i64 n)
noncomputable def x0:Xt:=fun _=>none
noncomputable def bodyOf:Option Code->Code
 |some c=>c
 |none=> .skip
noncomputable def kst0:St:={tm:= .e,nt:=180,h:={t:= .e,n:=0},mks:=[]}
noncomputable def cd0:Code:=bodyOf Tryz.f16.body
noncomputable def kst1:St:={tm:=(.n .e (some (.val (.bool false))) .e),nt:=180,h:={t:= .e,n:=0},mks:=[]}
noncomputable def cd1:Code:=seqR cd0
noncomputable def kst2:St:={tm:=(.n (.n (.n (.n .e none (.n .e (some (.tup [.sl 96 0 3 1,yV 0])) .e)) none .e) (some (.sl 96 0 3 1)) (.n (.n .e none (.n .e (some (yV 0)) .e)) none (.n (.n .e (some (.tup [.sl 96 0 3 1,yV 0])) .e) none .e))) (some (.val (.bool false))) (.n (.n (.n .e none (.n .e (some (.sl 96 0 3 1)) .e)) none .e) (some (yV 0)) (.n .e none (.n (.n .e (some (.agg [.sl 25 0 3 1,yV 2,yV 1,.sl 31 0 5 4,.sl 32 0 1 3,.sl 38 0 5 2])) .e) none .e)))),nt:=180,h:={t:=(.n (.n (.n .e none (.n .e none (.n .e none (.n (.n .e (some (.cells [yV 4,yV 12,yV 4,yV 10,yV 4,yV 8,yV 4,yV 6] 43)) .e) none .e)))) none .e) none (.n (.n (.n (.n (.n .e none (.n .e (some (.cells [.sl 88 0 4 2,.sl 91 0 4 2,.sl 94 0 4 2] 55)) .e)) none .e) none (.n .e none (.n (.n .e (some (.cells [yV 11,yV 13,yV 9,yV 12,yV 8,yV 10,yV 0,yV 0] 43)) .e) none .e))) none .e) none (.n .e none (.n .e none (.n .e none (.n (.n .e (some (.cells [yV 0,yV 0,yV 8,yV 12,yV 7,yV 11,yV 7,yV 9] 43)) .e) none .e)))))),n:=158},mks:=[]}
noncomputable def cd2:Code:=seqR cd1
noncomputable def kst3:St:={tm:=(.n (.n (.n (.n (.n (.n .e (some (yV 0)) .e) none .e) none (.n .e (some (.tup [.sl 96 0 3 1,yV 0])) .e)) (some (.ptr 359 0)) (.n .e none (.n .e (some (.agg [.sl 184 0 3 1,yV 2,yV 1,.sl 190 0 5 4,.sl 191 0 1 3,.sl 197 0 5 2,.sl 198 0 2 3,yV 1])) .e))) (some (.sl 96 0 3 1)) (.n (.n .e none (.n .e (some (yV 0)) .e)) none (.n (.n .e (some (.tup [.sl 96 0 3 1,yV 0])) .e) none (.n .e (some (.tup [(.agg [yV 1,yV 2]),yV 0])) .e)))) (some (.val (.bool false))) (.n (.n (.n .e none (.n .e (some (.sl 96 0 3 1)) .e)) (some (yV 0)) (.n .e none (.n .e (some (.agg [yV 0,yV 2,yV 0])) .e))) (some (yV 0)) (.n (.n .e none (.n .e (some (.tup [(.agg [yV 1,yV 2]),yV 0])) .e)) none (.n (.n .e (some (.agg [.sl 25 0 3 1,yV 2,yV 1,.sl 31 0 5 4,.sl 32 0 1 3,.sl 38 0 5 2])) .e) none (.n .e (some (.agg [yV 1,yV 2])) .e))))),nt:=180,h:={t:=(.n (.n (.n (.n .e none (.n (.n .e none (.n .e none (.n (.n .e (some (.cells [yV 1,yV 2] 43)) .e) none .e))) none .e)) none (.n .e none (.n .e none (.n (.n .e (some (.cells [yV 4,yV 12,yV 4,yV 10,yV 4,yV 8,yV 4,yV 6] 43)) .e) none .e)))) none .e) none (.n (.n (.n (.n (.n .e none (.n .e (some (.cells [.sl 88 0 4 2,.sl 91 0 4 2,.sl 94 0 4 2] 55)) .e)) none .e) none (.n .e none (.n (.n .e (some (.cells [yV 11,yV 13,yV 9,yV 12,yV 8,yV 10,yV 0,yV 0] 43)) .e) none .e))) none .e) none (.n .e none (.n .e none (.n .e none (.n (.n .e (some (.cells [yV 0,yV 0,yV 8,yV 12,yV 7,yV 11,yV 7,yV 9] 43)) .e) none .e)))))),n:=360},mks:=[]}
noncomputable def cd3:Code:=seqR cd2
noncomputable def kst4:St:={tm:=(.n (.n (.n (.n (.n (.n .e (some (yV 0)) .e) none .e) (some (yV 0)) (.n .e (some (.tup [.sl 96 0 3 1,yV 0])) .e)) (some (.ptr 359 0)) (.n (.n (.n .e (some (.sl 3185 0 4 3)) .e) none .e) none (.n .e (some (.agg [.sl 184 0 3 1,yV 2,yV 1,.sl 190 0 5 4,.sl 191 0 1 3,.sl 197 0 5 2,.sl 198 0 2 3,yV 1])) .e))) (some (.sl 96 0 3 1)) (.n (.n (.n (.n .e (some (.agg [.sl 386 0 3 1,yV 2,yV 1,.sl 392 0 5 4,.sl 393 0 1 3,.sl 399 0 5 2,.sl 400 0 2 3,yV 1])) .e) none .e) none (.n .e (some (yV 0)) .e)) (some (.sl 3185 0 4 3)) (.n (.n (.n .e (some (yV 0)) .e) (some (.tup [.sl 96 0 3 1,yV 0])) .e) none (.n .e (some (.tup [(.agg [yV 1,yV 2]),yV 0])) .e)))) (some (.val (.bool false))) (.n (.n (.n (.n (.n .e (some (.tup [.sl 3185 0 4 3,yV 24,yV 0])) .e) none .e) none (.n .e (some (.sl 96 0 3 1)) .e)) (some (yV 0)) (.n (.n (.n .e (some (yV 24)) .e) none .e) none (.n .e (some (.agg [yV 0,yV 2,yV 0])) .e))) (some (yV 0)) (.n (.n (.n (.n .e (some (.tup [.sl 3185 0 4 3,yV 24,yV 0])) .e) none .e) none (.n .e (some (.tup [(.agg [yV 1,yV 2]),yV 0])) .e)) (some (yV 24)) (.n (.n .e (some (.agg [.sl 25 0 3 1,yV 2,yV 1,.sl 31 0 5 4,.sl 32 0 1 3,.sl 38 0 5 2])) .e) none (.n .e (some (.agg [yV 1,yV 2])) .e))))),nt:=180,h:={t:=(.n (.n (.n (.n .e none (.n (.n .e none (.n .e none (.n (.n .e (some (.cells [yV 1,yV 2] 43)) .e) none .e))) none .e)) none (.n .e none (.n .e none (.n (.n .e (some (.cells [yV 4,yV 12,yV 4,yV 10,yV 4,yV 8,yV 4,yV 6] 43)) .e) none .e)))) none (.n (.n (.n .e none (.n .e none (.n .e none (.n (.n (.n (.n .e none (.n .e (some (.cells [yV 0,yV 0,yV 0,yV 0,yV 1,yV 0,yV 0,yV 2,yV 0,yV 1,yV 2,yV 1] 61)) .e)) none .e) none .e) none .e)))) none .e) none .e)) none (.n (.n (.n (.n (.n .e none (.n .e (some (.cells [.sl 88 0 4 2,.sl 91 0 4 2,.sl 94 0 4 2] 55)) .e)) none .e) none (.n .e none (.n (.n .e (some (.cells [yV 11,yV 13,yV 9,yV 12,yV 8,yV 10,yV 0,yV 0] 43)) .e) none .e))) none .e) none (.n .e none (.n .e none (.n .e none (.n (.n .e (some (.cells [yV 0,yV 0,yV 8,yV 12,yV 7,yV 11,yV 7,yV 9] 43)) .e) none .e)))))),n:=3699},mks:=[]}
noncomputable def cd4:Code:=seqR cd3
noncomputable def kst5:St:={tm:=(.n (.n (.n (.n (.n (.n .e (some (yV 0)) .e) none .e) (some (yV 0)) (.n (.n .e (some (.agg [.sl 3725 0 3 1,yV 2,yV 1,.sl 3731 0 5 4,.sl 3732 0 1 3,.sl 3738 0 5 2,.sl 3739 0 2 3,yV 1])) .e) (some (.tup [.sl 96 0 3 1,yV 0])) .e)) (some (.ptr 359 0)) (.n (.n (.n .e (some (.sl 3185 0 4 3)) .e) none .e) none (.n (.n .e (some (yV 0)) .e) (some (.agg [.sl 184 0 3 1,yV 2,yV 1,.sl 190 0 5 4,.sl 191 0 1 3,.sl 197 0 5 2,.sl 198 0 2 3,yV 1])) .e))) (some (.sl 96 0 3 1)) (.n (.n (.n (.n .e (some (.agg [.sl 386 0 3 1,yV 2,yV 1,.sl 392 0 5 4,.sl 393 0 1 3,.sl 399 0 5 2,.sl 400 0 2 3,yV 1])) .e) none .e) (some (yV 0)) (.n (.n .e (some (.tup [(.agg [yV 24,yV 26]),yV 0])) .e) (some (yV 0)) .e)) (some (.sl 3185 0 4 3)) (.n (.n (.n .e (some (yV 0)) .e) (some (.tup [.sl 96 0 3 1,yV 0])) .e) none (.n .e (some (.tup [(.agg [yV 1,yV 2]),yV 0])) .e)))) (some (.val (.bool false))) (.n (.n (.n (.n (.n .e (some (.tup [.sl 3185 0 4 3,yV 24,yV 0])) .e) none .e) (some (.ptr 4065 0)) (.n (.n .e (some (.sl 3744 0 4 3)) .e) (some (.sl 96 0 3 1)) .e)) (some (yV 0)) (.n (.n (.n .e (some (yV 24)) .e) none .e) none (.n .e (some (.agg [yV 0,yV 2,yV 0])) .e))) (some (yV 0)) (.n (.n (.n (.n .e (some (.tup [.sl 3185 0 4 3,yV 24,yV 0])) .e) none .e) none (.n (.n .e (some (.agg [yV 24,yV 26])) .e) (some (.tup [(.agg [yV 1,yV 2]),yV 0])) .e)) (some (yV 24)) (.n (.n (.n .e (some (.tup [(.agg [yV 24,yV 26]),yV 0])) .e) (some (.agg [.sl 25 0 3 1,yV 2,yV 1,.sl 31 0 5 4,.sl 32 0 1 3,.sl 38 0 5 2])) .e) none (.n .e (some (.agg [yV 1,yV 2])) .e))))),nt:=180,h:={t:=(.n (.n (.n (.n .e none (.n (.n .e none (.n .e none (.n (.n .e (some (.cells [yV 1,yV 2] 43)) .e) none .e))) none .e)) none (.n .e none (.n .e none (.n (.n .e (some (.cells [yV 4,yV 12,yV 4,yV 10,yV 4,yV 8,yV 4,yV 6] 43)) .e) none .e)))) none (.n (.n (.n (.n .e none (.n .e none (.n .e none (.n .e none (.n .e none (.n .e none (.n .e (some (.cells [yV 24,yV 26] 43)) .e))))))) none (.n .e none (.n .e none (.n (.n (.n (.n .e none (.n .e (some (.cells [yV 0,yV 0,yV 0,yV 0,yV 1,yV 0,yV 0,yV 2,yV 0,yV 1,yV 2,yV 1] 61)) .e)) none .e) none .e) none .e)))) none .e) none .e)) none (.n (.n (.n (.n (.n .e none (.n .e (some (.cells [.sl 88 0 4 2,.sl 91 0 4 2,.sl 94 0 4 2] 55)) .e)) none .e) none (.n .e none (.n (.n .e (some (.cells [yV 11,yV 13,yV 9,yV 12,yV 8,yV 10,yV 0,yV 0] 43)) .e) none .e))) none .e) none (.n .e none (.n .e none (.n .e none (.n (.n .e (some (.cells [yV 0,yV 0,yV 8,yV 12,yV 7,yV 11,yV 7,yV 9] 43)) .e) none .e)))))),n:=4066},mks:=[]}
noncomputable def cd5:Code:=seqR cd4
noncomputable def kst6:St:={tm:=(.n (.n (.n (.n (.n (.n .e (some (yV 0)) .e) none (.n .e (some (.tup [yV 20,yV 0])) .e)) (some (yV 0)) (.n (.n .e (some (.agg [.sl 3725 0 3 1,yV 2,yV 1,.sl 3731 0 5 4,.sl 3732 0 1 3,.sl 3738 0 5 2,.sl 3739 0 2 3,yV 1])) .e) (some (.tup [.sl 96 0 3 1,yV 0])) .e)) (some (.ptr 359 0)) (.n (.n (.n .e (some (.sl 3185 0 4 3)) .e) none .e) (some (yV 0)) (.n (.n .e (some (yV 0)) .e) (some (.agg [.sl 184 0 3 1,yV 2,yV 1,.sl 190 0 5 4,.sl 191 0 1 3,.sl 197 0 5 2,.sl 198 0 2 3,yV 1])) .e))) (some (.sl 96 0 3 1)) (.n (.n (.n (.n .e (some (.agg [.sl 386 0 3 1,yV 2,yV 1,.sl 392 0 5 4,.sl 393 0 1 3,.sl 399 0 5 2,.sl 400 0 2 3,yV 1])) .e) none (.n .e (some (yV 0)) .e)) (some (yV 0)) (.n (.n .e (some (.tup [(.agg [yV 24,yV 26]),yV 0])) .e) (some (yV 0)) .e)) (some (.sl 3185 0 4 3)) (.n (.n (.n .e (some (yV 0)) .e) (some (.tup [.sl 96 0 3 1,yV 0])) .e) none (.n (.n .e (some (.agg [.sl 4092 0 3 1,yV 2,yV 1,.sl 4098 0 5 4,.sl 4099 0 1 3,.sl 4105 0 5 2,.sl 4106 0 2 3,yV 1])) .e) (some (.tup [(.agg [yV 1,yV 2]),yV 0])) .e)))) (some (.val (.bool false))) (.n (.n (.n (.n (.n .e (some (.tup [.sl 3185 0 4 3,yV 24,yV 0])) .e) none (.n .e (some (yV 20)) .e)) (some (.ptr 4065 0)) (.n (.n .e (some (.sl 3744 0 4 3)) .e) (some (.sl 96 0 3 1)) .e)) (some (yV 0)) (.n (.n (.n .e (some (yV 24)) .e) none .e) none (.n (.n .e (some (.tup [yV 20,yV 0])) .e) (some (.agg [yV 0,yV 2,yV 0])) .e))) (some (yV 0)) (.n (.n (.n (.n .e (some (.tup [.sl 3185 0 4 3,yV 24,yV 0])) .e) none .e) (some (yV 20)) (.n (.n .e (some (.agg [yV 24,yV 26])) .e) (some (.tup [(.agg [yV 1,yV 2]),yV 0])) .e)) (some (yV 24)) (.n (.n (.n .e (some (.tup [(.agg [yV 24,yV 26]),yV 0])) .e) (some (.agg [.sl 25 0 3 1,yV 2,yV 1,.sl 31 0 5 4,.sl 32 0 1 3,.sl 38 0 5 2])) .e) none (.n (.n .e (some (.sl 4111 0 4 3)) .e) (some (.agg [yV 1,yV 2])) .e))))),nt:=180,h:={t:=(.n (.n (.n (.n .e none (.n (.n .e none (.n .e none (.n (.n .e (some (.cells [yV 1,yV 2] 43)) .e) none .e))) none .e)) none (.n .e none (.n .e none (.n (.n .e (some (.cells [yV 4,yV 12,yV 4,yV 10,yV 4,yV 8,yV 4,yV 6] 43)) .e) none .e)))) none (.n (.n (.n (.n .e none (.n .e none (.n .e none (.n .e none (.n .e none (.n .e none (.n .e (some (.cells [yV 24,yV 26] 43)) .e))))))) none (.n .e none (.n .e none (.n (.n (.n (.n .e none (.n .e (some (.cells [yV 0,yV 0,yV 0,yV 0,yV 1,yV 0,yV 0,yV 2,yV 0,yV 1,yV 2,yV 1] 61)) .e)) none .e) none .e) none .e)))) none .e) none .e)) none (.n (.n (.n (.n (.n .e none (.n .e (some (.cells [.sl 88 0 4 2,.sl 91 0 4 2,.sl 94 0 4 2] 55)) .e)) none .e) none (.n .e none (.n (.n .e (some (.cells [yV 11,yV 13,yV 9,yV 12,yV 8,yV 10,yV 0,yV 0] 43)) .e) none .e))) none .e) none (.n .e none (.n .e none (.n .e none (.n (.n .e (some (.cells [yV 0,yV 0,yV 8,yV 12,yV 7,yV 11,yV 7,yV 9] 43)) .e) none .e)))))),n:=4456},mks:=[]}
noncomputable def cd6:Code:=seqR cd5
noncomputable def ent1:Ent:={f:=73,args:=[(.agg [(.sl 386 0 3 1),(yV 2),(yV 1),(.sl 392 0 5 4),(.sl 393 0 1 3),(.sl 399 0 5 2),(.sl 400 0 2 3),(yV 1),(.sl 461 0 3 1)]),(yV 1)],n:=526,cells:=[(369,(.cells [(yV 2),(yV 2),(yV 2),(yV 1)] 137)),(377,(.cells [(yV 2),(yV 3),(yV 2),(yV 2)] 137)),(385,(.cells [(yV 1),(yV 2),(yV 2),(yV 2)] 137)),(386,(.cells [(.sl 369 0 4 1),(.sl 377 0 4 1),(.sl 385 0 4 1)] 58)),(392,(.cells [(yV 0),(yV 0),(yV 12),(yV 1),(yV 0),(yV 2),(yV 9),(yV 1),(yV 1),(yV 3),(yV 5),(yV 1),(yV 2),(yV 1),(yV 10),(yV 2),(yV 2),(yV 3),(yV 8),(yV 1)] 48)),(393,(.cells [(yV 0),(yV 0),(.val (.bool false))] 50)),(399,(.cells [(yV 0),(yV 0),(yV 1),(yV 2),(yV 1),(yV 3),(yV 2),(yV 2),(yV 2),(yV 3)] 142)),(400,(.cells [(yV 1),(yV 4),(yV 2),(yV 2),(yV 4),(yV 14)] 130)),(453,(.cells [(yV 11),(yV 13),(yV 9),(yV 12),(yV 8),(yV 10),(yV 0),(yV 0)] 43)),(456,(.cells [(yV 4),(yV 12),(yV 4),(yV 10),(yV 4),(yV 8),(yV 4),(yV 6)] 43)),(459,(.cells [(yV 0),(yV 0),(yV 8),(yV 12),(yV 7),(yV 11),(yV 7),(yV 9)] 43)),(461,(.cells [(.sl 453 0 4 2),(.sl 456 0 4 2),(.sl 459 0 4 2)] 55))],res:=(.ret (.agg [(.sl 1670 0 1 3),(yV 14)])),n1:=1712,cells1:=[(369,(.cells [(yV 2),(yV 2),(yV 2),(yV 1)] 137)),(377,(.cells [(yV 2),(yV 3),(yV 2),(yV 2)] 137)),(385,(.cells [(yV 1),(yV 2),(yV 2),(yV 2)] 137)),(386,(.cells [(.sl 369 0 4 1),(.sl 377 0 4 1),(.sl 385 0 4 1)] 58)),(392,(.cells [(yV 0),(yV 0),(yV 12),(yV 1),(yV 0),(yV 2),(yV 9),(yV 1),(yV 1),(yV 3),(yV 5),(yV 1),(yV 2),(yV 1),(yV 10),(yV 2),(yV 2),(yV 3),(yV 8),(yV 1)] 48)),(393,(.cells [(yV 0),(yV 0),(.val (.bool false))] 50)),(399,(.cells [(yV 0),(yV 0),(yV 1),(yV 2),(yV 1),(yV 3),(yV 2),(yV 2),(yV 2),(yV 3)] 142)),(400,(.cells [(yV 1),(yV 4),(yV 2),(yV 2),(yV 4),(yV 14)] 130)),(453,(.cells [(yV 11),(yV 13),(yV 9),(yV 12),(yV 8),(yV 10),(yV 0),(yV 0)] 43)),(456,(.cells [(yV 4),(yV 12),(yV 4),(yV 10),(yV 4),(yV 8),(yV 4),(yV 6)] 43)),(459,(.cells [(yV 0),(yV 0),(yV 8),(yV 12),(yV 7),(yV 11),(yV 7),(yV 9)] 43)),(461,(.cells [(.sl 453 0 4 2),(.sl 456 0 4 2),(.sl 459 0 4 2)] 55)),(1670,(.cells [(yV 1),(yV 2),(yV 1)] 61))]}
noncomputable def ent2:Ent:={f:=73,args:=[(.agg [(.sl 386 0 3 1),(yV 2),(yV 1),(.sl 392 0 5 4),(.sl 393 0 1 3),(.sl 399 0 5 2),(.sl 400 0 2 3),(yV 1),(.sl 461 0 3 1)]),(yV 1)],n:=1993,cells:=[(369,(.cells [(yV 2),(yV 2),(yV 2),(yV 1)] 137)),(377,(.cells [(yV 2),(yV 3),(yV 2),(yV 2)] 137)),(385,(.cells [(yV 1),(yV 2),(yV 2),(yV 2)] 137)),(386,(.cells [(.sl 369 0 4 1),(.sl 377 0 4 1),(.sl 385 0 4 1)] 58)),(392,(.cells [(yV 0),(yV 0),(yV 12),(yV 1),(yV 0),(yV 2),(yV 9),(yV 1),(yV 1),(yV 3),(yV 5),(yV 1),(yV 2),(yV 1),(yV 10),(yV 2),(yV 2),(yV 3),(yV 8),(yV 1)] 48)),(393,(.cells [(yV 0),(yV 0),(.val (.bool false))] 50)),(399,(.cells [(yV 0),(yV 0),(yV 1),(yV 2),(yV 1),(yV 3),(yV 2),(yV 2),(yV 2),(yV 3)] 142)),(400,(.cells [(yV 1),(yV 4),(yV 2),(yV 2),(yV 4),(yV 14)] 130)),(453,(.cells [(yV 11),(yV 13),(yV 9),(yV 12),(yV 8),(yV 10),(yV 0),(yV 0)] 43)),(456,(.cells [(yV 4),(yV 12),(yV 4),(yV 10),(yV 4),(yV 8),(yV 4),(yV 6)] 43)),(459,(.cells [(yV 0),(yV 0),(yV 8),(yV 12),(yV 7),(yV 11),(yV 7),(yV 9)] 43)),(461,(.cells [(.sl 453 0 4 2),(.sl 456 0 4 2),(.sl 459 0 4 2)] 55))],res:=(.ret (.agg [(.sl 3137 0 1 3),(yV 14)])),n1:=3179,cells1:=[(369,(.cells [(yV 2),(yV 2),(yV 2),(yV 1)] 137)),(377,(.cells [(yV 2),(yV 3),(yV 2),(yV 2)] 137)),(385,(.cells [(yV 1),(yV 2),(yV 2),(yV 2)] 137)),(386,(.cells [(.sl 369 0 4 1),(.sl 377 0 4 1),(.sl 385 0 4 1)] 58)),(392,(.cells [(yV 0),(yV 0),(yV 12),(yV 1),(yV 0),(yV 2),(yV 9),(yV 1),(yV 1),(yV 3),(yV 5),(yV 1),(yV 2),(yV 1),(yV 10),(yV 2),(yV 2),(yV 3),(yV 8),(yV 1)] 48)),(393,(.cells [(yV 0),(yV 0),(.val (.bool false))] 50)),(399,(.cells [(yV 0),(yV 0),(yV 1),(yV 2),(yV 1),(yV 3),(yV 2),(yV 2),(yV 2),(yV 3)] 142)),(400,(.cells [(yV 1),(yV 4),(yV 2),(yV 2),(yV 4),(yV 14)] 130)),(453,(.cells [(yV 11),(yV 13),(yV 9),(yV 12),(yV 8),(yV 10),(yV 0),(yV 0)] 43)),(456,(.cells [(yV 4),(yV 12),(yV 4),(yV 10),(yV 4),(yV 8),(yV 4),(yV 6)] 43)),(459,(.cells [(yV 0),(yV 0),(yV 8),(yV 12),(yV 7),(yV 11),(yV 7),(yV 9)] 43)),(461,(.cells [(.sl 453 0 4 2),(.sl 456 0 4 2),(.sl 459 0 4 2)] 55)),(3137,(.cells [(yV 1),(yV 2),(yV 1)] 61))]}
end Go.Proofs.Kn
end
