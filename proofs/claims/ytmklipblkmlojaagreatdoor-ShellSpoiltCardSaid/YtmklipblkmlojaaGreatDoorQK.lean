/- Parts of the proof, joined by a program. -/
import Derived.Shelf.Strings.OnBuilder
import Derived.Shelf.Strconv.Itoa3
import Derived.Shelf.Strings.Cut
import Derived.Shelf.Strings.Prefix
import Derived.Shelf.Strings.Split
import Derived.Test.YtmklipblkmlojaaGreatDoorProg
import Derived.Test.YtmklipblkmlojaaGreatDoorQB
import Derived.Test.YtmklipblkmlojaaGreatDoorQD
set_option linter.all false
open Nat renaming eq_of_beq_eq_true → xZZ, le_refl → xZY
open Array renaming ext' → xZX
namespace Go.Proofs
open Go.Shelf
def Tryz.lays156_ren:Go.Shelf.Ren:=⟨fun|156=>89|165=>126|166=>127|169=>128|240=>161|241=>162|276=>179|277=>180|n=>n,fun|31=>96|9=>9|3=>3|4=>4|0=>0|20=>20|72=>201|76=>205|70=>199|37=>40|75=>204|127=>236|164=>253|5=>5|80=>207|n=>n,fun|n=>n⟩
theorem Tryz.lays156:Go.Proofs.Lays.n156 Tryz.prog Tryz.lays156_ren:={
 mixed:=by kernel_rfl
 f156:=Tryz.func89.trans (congrArg some (by kernel_rfl))
 f165:=Tryz.func126.trans (congrArg some (by kernel_rfl))
 f166:=Tryz.func127.trans (congrArg some (by kernel_rfl))
 f169:=Tryz.func128.trans (congrArg some (by kernel_rfl))
 f240:=Tryz.func161.trans (congrArg some (by kernel_rfl))
 f241:=Tryz.func162.trans (congrArg some (by kernel_rfl))
 f276:=Tryz.func179.trans (congrArg some (by kernel_rfl))
 f277:=Tryz.func180.trans (congrArg some (by kernel_rfl))
 t0:=Tryz.underlying0
 a0:=Tryz.isAgg0
 z0:=Tryz.sizeOf0
 v0:=Tryz.zeroValue0
 t3:=Tryz.underlying3
 a3:=Tryz.isAgg3
 z3:=Tryz.sizeOf3
 v3:=Tryz.zeroValue3
 t4:=Tryz.underlying4
 a4:=Tryz.isAgg4
 z4:=Tryz.sizeOf4
 v4:=Tryz.zeroValue4
 t9:=Tryz.underlying9
 a9:=Tryz.isAgg9
 z9:=Tryz.sizeOf9
 v9:=Tryz.zeroValue9
 t20:=Tryz.underlying20
 a20:=Tryz.isAgg20
 z20:=Tryz.sizeOf20
 v20:=Tryz.zeroValue20
 t31:=Tryz.underlying96
 a31:=Tryz.isAgg96
 z31:=Tryz.sizeOf96
 v31:=Tryz.zeroValue96
 t37:=Tryz.underlying40
 a37:=Tryz.isAgg40
 z37:=Tryz.sizeOf40
 v37:=Tryz.zeroValue40
 t70:=Tryz.underlying199
 a70:=Tryz.isAgg199
 z70:=Tryz.sizeOf199
 v70:=Tryz.zeroValue199
 t72:=Tryz.underlying201
 a72:=Tryz.isAgg201
 z72:=Tryz.sizeOf201
 v72:=Tryz.zeroValue201
 t75:=Tryz.underlying204
 a75:=Tryz.isAgg204
 z75:=Tryz.sizeOf204
 v75:=Tryz.zeroValue204
 t76:=Tryz.underlying205
 a76:=Tryz.isAgg205
 z76:=Tryz.sizeOf205
 v76:=Tryz.zeroValue205
 t127:=Tryz.underlying236
 a127:=Tryz.isAgg236
 z127:=Tryz.sizeOf236
 v127:=Tryz.zeroValue236
 t164:=Tryz.underlying253
 a164:=Tryz.isAgg253
 z164:=Tryz.sizeOf253
 v164:=Tryz.zeroValue253}
theorem Tryz.Builder_Extra_156:Builder.Extra Tryz.prog Tryz.lays156_ren:={
 sizeBuilder:=by kernel_rfl
 liesBuilder:=by kernel_rfl
 t5:=Tryz.underlying5
 a5:=Tryz.isAgg5
 z5:=Tryz.sizeOf5
 v5:=Tryz.zeroValue5
 infoByte:=by kernel_rfl
 cellsByte:=by kernel_rfl
 sizeByte:=by kernel_rfl
 neB5:=by decide}
open Go.RowKit in
open Go.RowKit in
theorem Tryz.strings_Join (bk o c:Nat) (xs:List ByteArray) (sep:ByteArray) (w:World) (hcells: ∀(j:Nat) x,xs[j]? =some x->w.cell? ⟨bk,o+j,none⟩=some (.string x)) (hbk:bk<w.heap.size) (hN:xs.length<=140737488355328) (hcap:xs.length<=c) (hlen:(Lib.join (xs.map (·.data.toList)) sep.data.toList).length<=140737488355328):
  Calls Tryz.prog 89 #[.slice (some ⟨bk,o,none⟩) xs.length c,.string sep] w fun e w'=>e= .returned (.string ⟨(Lib.join (xs.map (·.data.toList)) sep.data.toList).toArray⟩)/\Below w.heap.size w w':=Any.strings_Join Tryz.lays156 Tryz.Builder_Extra_156 bk o c xs sep w hcells hbk hN hcap hlen
def Tryz.lays171_ren:Go.Shelf.Ren:=⟨fun|171=>88|243=>125|246=>160|283=>175|284=>176|285=>177|286=>178|129=>154|317=>198|318=>199|319=>200|320=>201|337=>208|338=>209|n=>n,fun|3=>3|9=>9|2=>2|4=>4|171=>249|0=>0|53=>230|37=>40|5=>5|173=>251|212=>268|51=>228|20=>20|213=>269|46=>186|232=>279|233=>280|n=>n,fun|17=>1|18=>4|19=>5|n=>n⟩
theorem Tryz.lays171:Go.Proofs.Lays.n171 Tryz.prog Tryz.lays171_ren:={
 mixed:=by kernel_rfl
 f129:=Tryz.func154.trans (congrArg some (by kernel_rfl))
 f171:=Tryz.func88.trans (congrArg some (by kernel_rfl))
 f243:=Tryz.func125.trans (congrArg some (by kernel_rfl))
 f246:=Tryz.func160.trans (congrArg some (by kernel_rfl))
 f283:=Tryz.func175.trans (congrArg some (by kernel_rfl))
 f284:=Tryz.func176.trans (congrArg some (by kernel_rfl))
 f285:=Tryz.func177.trans (congrArg some (by kernel_rfl))
 f286:=Tryz.func178.trans (congrArg some (by kernel_rfl))
 f317:=Tryz.func198.trans (congrArg some (by kernel_rfl))
 f318:=Tryz.func199.trans (congrArg some (by kernel_rfl))
 f319:=Tryz.func200.trans (congrArg some (by kernel_rfl))
 f320:=Tryz.func201.trans (congrArg some (by kernel_rfl))
 f337:=Tryz.func208.trans (congrArg some (by kernel_rfl))
 f338:=Tryz.func209.trans (congrArg some (by kernel_rfl))
 t0:=Tryz.underlying0
 a0:=Tryz.isAgg0
 z0:=Tryz.sizeOf0
 v0:=Tryz.zeroValue0
 t2:=Tryz.underlying2
 a2:=Tryz.isAgg2
 z2:=Tryz.sizeOf2
 v2:=Tryz.zeroValue2
 t3:=Tryz.underlying3
 a3:=Tryz.isAgg3
 z3:=Tryz.sizeOf3
 v3:=Tryz.zeroValue3
 t4:=Tryz.underlying4
 a4:=Tryz.isAgg4
 z4:=Tryz.sizeOf4
 v4:=Tryz.zeroValue4
 t5:=Tryz.underlying5
 a5:=Tryz.isAgg5
 z5:=Tryz.sizeOf5
 v5:=Tryz.zeroValue5
 t9:=Tryz.underlying9
 a9:=Tryz.isAgg9
 z9:=Tryz.sizeOf9
 v9:=Tryz.zeroValue9
 t20:=Tryz.underlying20
 a20:=Tryz.isAgg20
 z20:=Tryz.sizeOf20
 v20:=Tryz.zeroValue20
 t37:=Tryz.underlying40
 a37:=Tryz.isAgg40
 z37:=Tryz.sizeOf40
 v37:=Tryz.zeroValue40
 t46:=Tryz.underlying186
 a46:=Tryz.isAgg186
 z46:=Tryz.sizeOf186
 v46:=Tryz.zeroValue186
 t51:=Tryz.underlying228
 a51:=Tryz.isAgg228
 z51:=Tryz.sizeOf228
 v51:=Tryz.zeroValue228
 t53:=Tryz.underlying230
 a53:=Tryz.isAgg230
 z53:=Tryz.sizeOf230
 v53:=Tryz.zeroValue230
 t171:=Tryz.underlying249
 a171:=Tryz.isAgg249
 z171:=Tryz.sizeOf249
 v171:=Tryz.zeroValue249
 t173:=Tryz.underlying251
 a173:=Tryz.isAgg251
 z173:=Tryz.sizeOf251
 v173:=Tryz.zeroValue251
 t212:=Tryz.underlying268
 a212:=Tryz.isAgg268
 z212:=Tryz.sizeOf268
 v212:=Tryz.zeroValue268
 t213:=Tryz.underlying269
 a213:=Tryz.isAgg269
 z213:=Tryz.sizeOf269
 t232:=Tryz.underlying279
 a232:=Tryz.isAgg279
 z232:=Tryz.sizeOf279
 v232:=Tryz.zeroValue279
 t233:=Tryz.underlying280
 a233:=Tryz.isAgg280
 z233:=Tryz.sizeOf280
 v233:=Tryz.zeroValue280
 g17:=by kernel_rfl
 g18:=by kernel_rfl
 g19:=by kernel_rfl}
open Go.RowKit Go.Sort Go.Lib in
theorem Tryz.strconv_Itoa_small (i:Nat) (hi:i<100) (w:World):
  Calls Tryz.prog 88 #[.int .i64 i] w fun e w'=>e= .returned (.string ⟨(Lib.decDigits i).toArray⟩)/\w'=w:=Any.strconv_Itoa_small Tryz.lays171 i hi w
def Tryz.lays145_ren:Go.Shelf.Ren:=⟨fun|145=>95|220=>131|219=>166|217=>184|225=>185|224=>186|267=>187|266=>203|314=>204|n=>n,fun|9=>9|4=>4|59=>168|3=>3|5=>5|46=>186|146=>270|51=>228|n=>n,fun|1=>0|n=>n⟩
theorem Tryz.lays145:Go.Proofs.Lays.n145 Tryz.prog Tryz.lays145_ren:={
 mixed:=by kernel_rfl
 f145:=Tryz.func95.trans (congrArg some (by kernel_rfl))
 f217:=Tryz.func184.trans (congrArg some (by kernel_rfl))
 f219:=Tryz.func166.trans (congrArg some (by kernel_rfl))
 f220:=Tryz.func131.trans (congrArg some (by kernel_rfl))
 f224:=Tryz.func186.trans (congrArg some (by kernel_rfl))
 f225:=Tryz.func185.trans (congrArg some (by kernel_rfl))
 f266:=Tryz.func203.trans (congrArg some (by kernel_rfl))
 f267:=Tryz.func187.trans (congrArg some (by kernel_rfl))
 f314:=Tryz.func204.trans (congrArg some (by kernel_rfl))
 t3:=Tryz.underlying3
 a3:=Tryz.isAgg3
 z3:=Tryz.sizeOf3
 v3:=Tryz.zeroValue3
 t4:=Tryz.underlying4
 a4:=Tryz.isAgg4
 z4:=Tryz.sizeOf4
 v4:=Tryz.zeroValue4
 t5:=Tryz.underlying5
 a5:=Tryz.isAgg5
 z5:=Tryz.sizeOf5
 v5:=Tryz.zeroValue5
 t9:=Tryz.underlying9
 a9:=Tryz.isAgg9
 z9:=Tryz.sizeOf9
 v9:=Tryz.zeroValue9
 t46:=Tryz.underlying186
 a46:=Tryz.isAgg186
 z46:=Tryz.sizeOf186
 v46:=Tryz.zeroValue186
 t51:=Tryz.underlying228
 a51:=Tryz.isAgg228
 z51:=Tryz.sizeOf228
 v51:=Tryz.zeroValue228
 t59:=Tryz.underlying168
 a59:=Tryz.isAgg168
 z59:=Tryz.sizeOf168
 v59:=Tryz.zeroValue168
 t146:=Tryz.underlying270
 a146:=Tryz.isAgg270
 z146:=Tryz.sizeOf270
 v146:=Tryz.zeroValue270
 g1:=by kernel_rfl}
open Go.RowKit Go.Lib in
theorem Tryz.strings_Cut (s sep:ByteArray) (m:Int) (w:World) (hs:s.size<4294967281) (hm:w.cell? ⟨0,0,none⟩=some (.int .i64 m)):
  Calls Tryz.prog 95 #[.string s,.string sep] w fun e w'=>e= .returned (.tuple #[.string ⟨(Lib.cut s.data.toList sep.data.toList).1.toArray⟩,.string ⟨(Lib.cut s.data.toList sep.data.toList).2.1.toArray⟩,.bool (Lib.cut s.data.toList sep.data.toList).2.2])/\ ∃n,w'=w.drewN n:=Any.strings_Cut Tryz.lays145 s sep m w hs hm
def Tryz.lays100_ren:Go.Shelf.Ren:=⟨fun|100=>96|207=>132|n=>n,fun|9=>9|4=>4|3=>3|n=>n,fun|n=>n⟩
theorem Tryz.lays100:Go.Proofs.Lays.n100 Tryz.prog Tryz.lays100_ren:={
 mixed:=by kernel_rfl
 f100:=Tryz.func96.trans (congrArg some (by kernel_rfl))
 f207:=Tryz.func132.trans (congrArg some (by kernel_rfl))
 t3:=Tryz.underlying3
 a3:=Tryz.isAgg3
 z3:=Tryz.sizeOf3
 v3:=Tryz.zeroValue3
 t4:=Tryz.underlying4
 a4:=Tryz.isAgg4
 z4:=Tryz.sizeOf4
 v4:=Tryz.zeroValue4
 t9:=Tryz.underlying9
 a9:=Tryz.isAgg9
 z9:=Tryz.sizeOf9
 v9:=Tryz.zeroValue9}
open Go.RowKit Go.Lib in
theorem Tryz.strings_HasSuffix (s p:ByteArray) (w:World) (hs:s.size<=9223372036854775807):
  Calls Tryz.prog 96 #[.string s,.string p] w fun e w'=>e= .returned (.bool (Lib.hasSuffix s.data.toList p.data.toList))/\w'=w:=Any.strings_HasSuffix Tryz.lays100 s p w hs
def Tryz.lays146_ren:Go.Shelf.Ren:=⟨fun|146=>91|221=>129|268=>163|138=>164|143=>165|195=>181|197=>182|218=>183|219=>166|260=>202|217=>184|225=>185|224=>186|267=>187|266=>203|314=>204|n=>n,fun|9=>9|31=>96|3=>3|4=>4|0=>0|105=>256|21=>21|5=>5|46=>186|119=>274|139=>277|138=>276|146=>270|51=>228|n=>n,fun|1=>0|3=>2|4=>3|n=>n⟩
theorem Tryz.lays146:Go.Proofs.Lays.n146 Tryz.prog Tryz.lays146_ren:={
 mixed:=by kernel_rfl
 f138:=Tryz.func164.trans (congrArg some (by kernel_rfl))
 f143:=Tryz.func165.trans (congrArg some (by kernel_rfl))
 f146:=Tryz.func91.trans (congrArg some (by kernel_rfl))
 f195:=Tryz.func181.trans (congrArg some (by kernel_rfl))
 f197:=Tryz.func182.trans (congrArg some (by kernel_rfl))
 f217:=Tryz.func184.trans (congrArg some (by kernel_rfl))
 f218:=Tryz.func183.trans (congrArg some (by kernel_rfl))
 f219:=Tryz.func166.trans (congrArg some (by kernel_rfl))
 f221:=Tryz.func129.trans (congrArg some (by kernel_rfl))
 f224:=Tryz.func186.trans (congrArg some (by kernel_rfl))
 f225:=Tryz.func185.trans (congrArg some (by kernel_rfl))
 f260:=Tryz.func202.trans (congrArg some (by kernel_rfl))
 f266:=Tryz.func203.trans (congrArg some (by kernel_rfl))
 f267:=Tryz.func187.trans (congrArg some (by kernel_rfl))
 f268:=Tryz.func163.trans (congrArg some (by kernel_rfl))
 f314:=Tryz.func204.trans (congrArg some (by kernel_rfl))
 t0:=Tryz.underlying0
 a0:=Tryz.isAgg0
 z0:=Tryz.sizeOf0
 v0:=Tryz.zeroValue0
 t3:=Tryz.underlying3
 a3:=Tryz.isAgg3
 z3:=Tryz.sizeOf3
 v3:=Tryz.zeroValue3
 t4:=Tryz.underlying4
 a4:=Tryz.isAgg4
 z4:=Tryz.sizeOf4
 v4:=Tryz.zeroValue4
 t5:=Tryz.underlying5
 a5:=Tryz.isAgg5
 z5:=Tryz.sizeOf5
 v5:=Tryz.zeroValue5
 t9:=Tryz.underlying9
 a9:=Tryz.isAgg9
 z9:=Tryz.sizeOf9
 v9:=Tryz.zeroValue9
 t21:=Tryz.underlying21
 a21:=Tryz.isAgg21
 z21:=Tryz.sizeOf21
 v21:=Tryz.zeroValue21
 t31:=Tryz.underlying96
 a31:=Tryz.isAgg96
 z31:=Tryz.sizeOf96
 v31:=Tryz.zeroValue96
 t46:=Tryz.underlying186
 a46:=Tryz.isAgg186
 z46:=Tryz.sizeOf186
 v46:=Tryz.zeroValue186
 t51:=Tryz.underlying228
 a51:=Tryz.isAgg228
 z51:=Tryz.sizeOf228
 v51:=Tryz.zeroValue228
 t105:=Tryz.underlying256
 a105:=Tryz.isAgg256
 z105:=Tryz.sizeOf256
 v105:=Tryz.zeroValue256
 t119:=Tryz.underlying274
 a119:=Tryz.isAgg274
 z119:=Tryz.sizeOf274
 t138:=Tryz.underlying276
 a138:=Tryz.isAgg276
 z138:=Tryz.sizeOf276
 v138:=Tryz.zeroValue276
 t139:=Tryz.underlying277
 a139:=Tryz.isAgg277
 z139:=Tryz.sizeOf277
 v139:=Tryz.zeroValue277
 t146:=Tryz.underlying270
 a146:=Tryz.isAgg270
 z146:=Tryz.sizeOf270
 v146:=Tryz.zeroValue270
 g1:=by kernel_rfl
 g3:=by kernel_rfl
 g4:=by kernel_rfl}
open Go.RowKit Go.Lib in
theorem Tryz.strings_Split (s sep:ByteArray) (m:Int) (w:World) (hs:s.size<4294967281) (hm:w.cell? ⟨0,0,none⟩=some (.int .i64 m)) (h1:1<=sep.size):
  Calls Tryz.prog 91 #[.string s,.string sep] w fun e w'=>
   e= .returned (.slice (some ⟨w.heap.size,0,none⟩) (Lib.countB s sep+1) (Lib.countB s sep+1))/\w'=w.alloc (.cells ((Lib.splitB sep 0 (Lib.countB s sep) s).map Value.string).toArray 9):=Any.strings_Split Tryz.lays146 (by kernel_rfl) s sep m w hs hm h1
end Go.Proofs
noncomputable section
namespace Go.Proofs.Kn
open Go Go.Ev
theorem mkDfr_is {P:Program} {f:Nat} {fn fng:Func} {D:Dfr} (h:mkDfr fn fng=some D) (hf:P.funcs[f]? =some fn) (hg:P.funcs[D.g]? =some fng) (n1:(fn.name== "runtime.NumGoroutine")=false) (n2:(fng.name== "runtime.NumGoroutine")=false):IsDfr P f D:=by
 have toE: ∀{α:Type} {xs:Array α} {l:List α},xs.toList=l->xs=l.toArray:=fun h=>by apply xZX;simpa using h
 unfold mkDfr at h;split at h
 ·rename_i a id ops c idr opr rest hb hgb;split at h
  ·rename_i o1 o2 orr hops hopr;split at h
   ·rename_i g first caps d q e1 e2 e3 e4 e5 e6;split at h
    ·rename_i d' qr rd f1 f2 f3 f4 f5 f6 f7;split at h
     ·rename_i r1 r2 r3 r4
      replace h:=qX h
      obtain ⟨hdd,h⟩:=h;cases h;have:=xZZ hdd;subst this;obtain ⟨qc,qa,qt⟩:=q;obtain ⟨rc,ra,rt⟩:=qr;simp only at f2 f3 f4 r1 r2 r3;subst f2;subst r1;rw [toE f1] at e1;rw [toE f3,toE f4] at e4;rw [toE r2,toE r3] at f5;refine ⟨hf,?_,n1,⟨e1,e2,e3⟩,⟨e4,e5,e6⟩,hg,?_,n2,⟨f5,f6,f7⟩,?_⟩
      ·show fn.body=_;rw [hb,toE hops]
      ·show fng.body=_;rw [hgb,toE hopr]
      ·exact toE r4
     ·cases h
    ·cases h
   ·cases h
  ·cases h
 ·cases h
noncomputable def dfrOf (o:Option Dfr):Dfr:=
 match o with
 |some D=>D
 |none=>{a:= .skip,id:=0,o1:=⟨none,.move (.tmp 0),0, "",#[],none⟩,o2:=⟨none,.move (.tmp 0),0, "",#[],none⟩,g:=0,d:=0,caps:= #[],c:= .skip,idr:=0,orr:=⟨none,.move (.tmp 0),0, "",#[],none⟩,rd:=0,rest:= .skip,fn:=Tryz.f37,fng:=Tryz.f37}
noncomputable def D135:Dfr:=dfrOf (mkDfr Tryz.f37 Tryz.f90)
theorem d135_is:IsDfr Tryz.prog 37 D135:=mkDfr_is (fn:=Tryz.f37) (fng:=Tryz.f90) (by kernel_rfl) Tryz.func37 Tryz.func90 (by kernel_rfl) (by kernel_rfl)
theorem isCount:IsExt Tryz.prog 183 Extern.BytealgCount.count:=⟨Tryz.f183,Tryz.func183,by kernel_rfl,by kernel_rfl,by kernel_rfl,by kernel_rfl⟩
theorem isIndex:IsExt Tryz.prog 203 Extern.BytealgIndexByte.indexByte:=⟨Tryz.f203,Tryz.func203,by kernel_rfl,by kernel_rfl,by kernel_rfl,by kernel_rfl⟩
theorem isJoin:IsJoin Tryz.prog 89:=⟨⟨Tryz.f89,Tryz.func89,by kernel_rfl,by kernel_rfl⟩,fun bk o c xs sep w h1 h2 h3 h4 h5=>Tryz.strings_Join bk o c xs sep w h1 h2 h3 h4 h5⟩
section
variable (xt:Addr->Option Value)
noncomputable def E0:Env:={P:=Tryz.prog,tb:=tb,xt:=xt,ft:=ft,nat:=fun _ _ _ _=>none,drw:=fun _ _ _ _ _=>none}
noncomputable def ED:Env:={P:=Tryz.prog,tb:=tb,xt:=xt,ft:=ft,nat:=fun _ _ _ _=>none,drw:=qAh Tryz.prog tb xt}
noncomputable def natF (call:jC) (f:Nat) (args:List AV) (h:Hp):Option (CR×Hp):=
 bif Nat.beq f 37 then evDfr (ED xt) (qCY (ED xt) 100000 call 300) (ev (ED xt) 100 60).code D135 args h
 else bif Nat.beq f 89 then (match args with
  |[a,b]=>(match b with
   | .val (.string sep)=>qAK h a sep
   |_=>none)
  |_=>none)
 else bif Nat.beq f 183 then (match args with
  |[a,b]=>(match a,b with
   | .val (.string s),.val (.int .u8 n)=>some (.ret (.val (.int .i64 (Lib.countByte s.data.toList n.toNat.toUInt8))),h)
   |_,_=>none)
  |_=>none)
 else bif Nat.beq f 203 then (match args with
  |[a,b]=>(match a,b with
   | .val (.string s),.val (.int .u8 n)=>some (.ret (.val (.int .i64 (Lib.indexByte s.data.toList n.toNat.toUInt8))),h)
   |_,_=>none)
  |_=>none)
 else none
noncomputable def nat0 (call:jC):jC:=fun fv args h=>
 match fv with
 | .val (.func (.func f) first captured)=>(match first.toList,captured.toList with
  |[],[]=>natF xt call f args h
  |_,_=>none)
 |_=>none
noncomputable def E:Env:={P:=Tryz.prog,tb:=tb,xt:=xt,ft:=ft,nat:=nat0 xt,drw:=qAh Tryz.prog tb xt}
end
theorem ftok (xt:Addr->Option Value):gM (E xt):=fun f fn h=>T.All.of ft_all f fn h
theorem ftok0 (xt:Addr->Option Value):gM (E0 xt):=fun f fn h=>T.All.of ft_all f fn h
theorem soundD0 (xt:Addr->Option Value):qA7 (ED xt):=fun call hs nt ops tm h x tm' h' he=>qAM wO mixed hs he
theorem code0_ok (xt:Addr->Option Value):zC (ED xt) (ev (ED xt) 100 60).code:=(ev_ok (E:=ED xt) (ftok0 xt) wO (fun _ _ _ _ _ _ _ h=>by cases h) (soundD0 xt) 100 60).1
theorem natF_ok (xt:Addr->Option Value) {call:jC} (hs:jX Tryz.prog xt call) {f:Nat} {args:List AV} {h h':Hp} {res:CR} (he:natF xt call f args h=some (res,h')):
  h.n<=h'.n/\ ∀lim,h'.n<=lim->bZ Tryz.prog xt lim (.val (.func (.func f) #[] #[])) args h res h':=by
 unfold natF at he;cases h1:Nat.beq f 37 with
 |true=>
  rw [h1] at he;have:=xZZ h1;subst this;simp only [cond_true] at he;obtain ⟨n1,s1⟩:=dfr_ok (E:=ED xt) wO (bW (E:=ED xt) (ftok0 xt) wO (soundD0 xt) hs 300) (code0_ok xt) d135_is he;refine ⟨n1,fun lim hl c w fv' args' g hxt hf ha=> ?_⟩;simp only [R] at hf;subst hf;refine ⟨_,rfl,.inl ⟨37,args'.toArray,?_,s1 lim hl c w args' g hxt ha⟩⟩;show (callFunc 37 ((#[]++args'.toArray)++ #[])).run Tryz.prog w=_;have hbd:D135.fn.body.isNone=false:=by rw [d135_is.fb];rfl
  simp only [callFunc,Sem.run_bind,run_program,Result.andThen_ok,d135_is.f,d135_is.fnm,hbd,Bool.false_eq_true,if_false,Sem.run_pure];simp
 |false=>
  rw [h1] at he;simp only [cond_false] at he;cases h2:Nat.beq f 89 with
  |true=>
   rw [h2] at he;have:=xZZ h2;subst this;simp only [cond_true] at he;split at he
   ·split at he
    ·obtain ⟨rfl,_⟩:=qBW (xt:=xt) isJoin he 0;exact ⟨xZY _,fun lim hl=>(qBW isJoin he lim).2⟩
    ·cases he
   ·cases he
  |false=>
   rw [h2] at he;simp only [cond_false] at he;cases h3:Nat.beq f 183 with
   |true=>
    rw [h3] at he;have:=xZZ h3;subst this;simp only [cond_true] at he;split at he
    ·split at he
     ·rename_i s n;cases he;exact ⟨xZY _,fun lim hl=>ext_ok (vs:=[.string s,.int .u8 n]) isCount (fun w=>Lib.run_countString s n w) lim h⟩
     ·cases he
    ·cases he
   |false=>
    rw [h3] at he;simp only [cond_false] at he;cases h4:Nat.beq f 203 with
    |true=>
     rw [h4] at he;have:=xZZ h4;subst this;simp only [cond_true] at he;split at he
     ·split at he
      ·rename_i s n;cases he;exact ⟨xZY _,fun lim hl=>ext_ok (vs:=[.string s,.int .u8 n]) isIndex (fun w=>Lib.run_indexByteString s n w) lim h⟩
      ·cases he
     ·cases he
    |false=>
     rw [h4] at he;cases he
theorem soundN (xt:Addr->Option Value):qA6 (E xt):=by
 intro call hs fv args h res h' he;change nat0 xt call fv args h=some (res,h') at he;unfold nat0 at he;split at he
 ·rename_i f first captured;split at he
  ·rename_i h1 h2;have e1:first= #[]:=by apply xZX;exact h1
   have e2:captured= #[]:=by apply xZX;exact h2
   subst e1;subst e2;exact natF_ok xt hs he
  ·cases he
 ·cases he
theorem soundD (xt:Addr->Option Value):qA7 (E xt):=fun call hs nt ops tm h x tm' h' he=>qAM wO mixed hs he
theorem zR (xt:Addr->Option Value) (m n:Nat):zC (E xt) (ev (E xt) m n).code/\jX Tryz.prog xt (ev (E xt) m n).call:=ev_ok (E:=E xt) (ftok xt) wO (soundN xt) (soundD xt) m n
end Go.Proofs.Kn
end
