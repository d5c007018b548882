/- Parts. -/
import Derived.KernelRfl
import Derived.Test.YthimlgffanlomaaGreatDoorProg
import Derived.Test.YthimlgffanlomaaGreatDoorQB
import Derived.Test.YthimlgffanlomaaGreatDoorQC
set_option linter.all false
open And renaming intro → xZZ
open Nat renaming le_refl → xZY, lt_of_lt_of_le → xZW, zero_add → xZR, mul_one → xZQ, ble_eq → xZP
open List renaming getElem?_eq_some_iff → xZX, getElem?_append_right → xZU, getElem?_append_left → xZT, getElem?_cons_zero → xZS, length_cons → xZO
open Go.Ev.T renaming get_put → xZV
namespace Go.Proofs.Kn
open Go Go.Ev
set_option maxRecDepth 100000
abbrev u0:Value:= .int .i64 (.ofNat 0)
abbrev u1:Value:= .slice none 0 0
abbrev u2:Value:= .pointer none
abbrev u3:Value:= .bool false
abbrev u4:Value:= .string (.mk (.mk []))
abbrev z8:Value:= .int .u8 (.ofNat 0)
abbrev s1 (z:Value) (c:Bool) (n:Nat) (d:TD):TE:= .mk 1 false [z] z c n d
abbrev sA (n:Nat) (l:List Value) (c:Bool) (b:Nat) (d:TD):TE:= .mk n true l (.agg (.mk l)) c b d
abbrev l1 {α:Type} (x:α):T α:= .n .e (some x) .e
noncomputable def te0:TE:=s1 (.tuple (.mk [])) true 0 .other
noncomputable def te1:TE:=s1 .nilFunc true 8 .other
noncomputable def te2:TE:=s1 u0 true 8 (.int .i64)
noncomputable abbrev te3:TE:=te2
noncomputable def te4:TE:=s1 u3 true 1 .other
noncomputable def te5:TE:=s1 z8 true 1 (.int .u8)
noncomputable abbrev te6:TE:=te5
noncomputable def te7:TE:=sA 4 [u0,u0,u3,z8] true 24 (.struct [(0,(1,2)),(1,(1,3)),(2,(1,4)),(3,(1,6))])
noncomputable abbrev te8:TE:=te7
noncomputable def te9:TE:=s1 u4 true 16 .str
noncomputable abbrev te10:TE:=te9
noncomputable abbrev te11:TE:=te9
noncomputable def te12:TE:=s1 (.int .u64 (.ofNat 0)) true 8 (.int .u64)
noncomputable def te16:TE:=s1 u2 true 8 (.ptr 304)
noncomputable def te20:TE:=s1 .nilIface false 16 .iface
noncomputable def te21:TE:=s1 (.int .i32 (.ofNat 0)) true 4 (.int .i32)
noncomputable def te22:TE:=s1 u1 true 24 (.slice 114)
noncomputable def te23:TE:=s1 u1 true 24 (.slice 117)
noncomputable def te24:TE:=s1 u1 true 24 (.slice 120)
noncomputable def te25:TE:=s1 u1 true 24 (.slice 122)
noncomputable def te27:TE:=sA 6 [u1,u0,u0,u1,u1,u1] true 112 (.struct [(0,(1,22)),(1,(1,3)),(2,(1,3)),(3,(1,23)),(4,(1,24)),(5,(1,25))])
noncomputable def te28:TE:=s1 u1 true 24 (.slice 111)
noncomputable def te30:TE:=sA 8 [u1,u0,u0,u1,u1,u1,u1,u0] true 144 (.struct [(0,(6,27)),(6,(1,28)),(7,(1,3))])
noncomputable def te31:TE:=s1 u1 true 24 (.slice 3)
noncomputable def te32:TE:=s1 u1 true 24 (.slice 52)
noncomputable def te34:TE:=sA 2 [u1,u1] true 48 (.struct [(0,(1,31)),(1,(1,32))])
noncomputable abbrev te38:TE:=te2
noncomputable def te39:TE:=s1 (.tuple (.mk [.agg (.mk [u1,u1]),u0,u0])) true 0 .other
noncomputable def te41:TE:=s1 (.tuple (.mk [u0,u0])) true 0 .other
noncomputable def te48:TE:=s1 (.tuple (.mk [u0,u3])) true 0 .other
noncomputable def te52:TE:=sA 3 [u0,u0,u1] true 40 (.struct [(0,(1,3)),(1,(1,3)),(2,(1,31))])
noncomputable def te53:TE:=s1 u1 true 24 (.slice 80)
noncomputable def te54:TE:=s1 (.tuple (.mk [u1,u0])) true 0 .other
noncomputable def te58:TE:=sA 2 [u0,u0] true 16 (.struct [(0,(1,3)),(1,(1,3))])
noncomputable def te59:TE:=s1 (.tuple (.mk [.agg (.mk [u0,u0]),u0])) true 0 .other
noncomputable def te63:TE:=sA 3 [u0,u0,u0] true 24 (.struct [(0,(1,3)),(1,(1,3)),(2,(1,3))])
noncomputable abbrev te64:TE:=te1
noncomputable def te65:TE:=s1 u1 true 24 (.slice 63)
noncomputable def te66:TE:=s1 (.tuple (.mk [u1,u0,u0])) true 0 .other
noncomputable def te72:TE:=s1 u1 true 24 (.slice 145)
noncomputable def te74:TE:=sA 5 [u0,u1,u1,u0,u0] true 72 (.struct [(0,(1,3)),(1,(1,72)),(2,(1,31)),(3,(1,3)),(4,(1,3))])
noncomputable def te77:TE:=s1 (.tuple (.mk [.agg (.mk [u1,u0,u0,u1,u1,u1]),u0])) true 0 .other
noncomputable def te80:TE:=s1 u1 true 24 (.slice 58)
noncomputable def te85:TE:=sA 9 [u1,u0,u0,u1,u1,u1,u1,u0,u1] true 168 (.struct [(0,(8,30)),(8,(1,53))])
noncomputable def te86:TE:=s1 (.tuple (.mk [.agg (.mk [u1,u0,u0,u1,u1,u1,u1,u0,u1]),u0])) true 0 .other
noncomputable def te90:TE:=s1 u2 true 8 (.ptr 52)
noncomputable abbrev te95:TE:=te1
noncomputable abbrev te98:TE:=te1
noncomputable def te100:TE:=s1 u1 true 24 (.slice 31)
noncomputable abbrev te105:TE:=te54
noncomputable abbrev te111:TE:=te63
noncomputable def te114:TE:=s1 u1 true 24 (.slice 155)
noncomputable def te117:TE:=sA 4 [u0,u0,u0,u0] true 32 (.struct [(0,(1,3)),(1,(1,3)),(2,(1,3)),(3,(1,3))])
noncomputable def te120:TE:=sA 3 [u0,u0,u3] true 24 (.struct [(0,(1,3)),(1,(1,3)),(2,(1,4))])
noncomputable abbrev te122:TE:=te58
noncomputable def te124:TE:=sA 2 [u0,u0] true 16 (.array 2 3)
noncomputable abbrev te125:TE:=te1
noncomputable def te126:TE:=sA 2 [.nilFunc,.nilFunc] true 16 (.array 2 125)
noncomputable def te128:TE:=sA 2 [u1,u0] true 32 (.struct [(0,(1,65)),(1,(1,3))])
noncomputable abbrev te129:TE:=te1
noncomputable abbrev te131:TE:=te1
noncomputable abbrev te136:TE:=te1
noncomputable def te140:TE:=sA 3 [u0,u0,u0] true 24 (.array 3 3)
noncomputable abbrev te143:TE:=te1
noncomputable def te145:TE:=sA 3 [u0,u0,u0] true 24 (.struct [(0,(1,3)),(1,(2,58))])
noncomputable def te147:TE:=s1 (.map none) true 8 (.map 140 3)
noncomputable def te149:TE:=sA 7 [u0,u1,u1,u0,u0,u0,.map none] true 88 (.struct [(0,(5,74)),(5,(1,3)),(6,(1,147))])
noncomputable def te153:TE:=s1 u1 true 24 (.slice 9)
noncomputable def te154:TE:=s1 u1 true 24 (.slice 5)
noncomputable abbrev te155:TE:=te2
noncomputable abbrev te158:TE:=te1
noncomputable abbrev te161:TE:=te1
noncomputable def te169:TE:=s1 u1 true 24 (.slice 65)
noncomputable abbrev te173:TE:=te1
noncomputable abbrev te176:TE:=te1
noncomputable abbrev te178:TE:=te41
noncomputable abbrev te180:TE:=te1
noncomputable abbrev te182:TE:=te1
noncomputable def te184:TE:=s1 u1 true 24 (.slice 128)
noncomputable abbrev te188:TE:=te1
noncomputable abbrev te189:TE:=te1
noncomputable abbrev te193:TE:=te12
noncomputable abbrev te195:TE:=te1
noncomputable abbrev te198:TE:=te1
noncomputable abbrev te200:TE:=te58
noncomputable def te202:TE:=sA 1 [u4] true 16 (.struct [(0,(1,9))])
noncomputable abbrev te206:TE:=te48
noncomputable def te208:TE:=s1 (.tuple (.mk [u4,u4,u3])) true 0 .other
noncomputable abbrev te215:TE:=te1
noncomputable def te220:TE:=s1 (.map none) true 8 (.map 3 128)
noncomputable def te221:TE:=s1 (.tuple (.mk [.agg (.mk [u1,u0]),u3])) true 0 .other
noncomputable abbrev te224:TE:=te1
noncomputable abbrev te227:TE:=te2
noncomputable abbrev te228:TE:=te41
noncomputable def te234:TE:=s1 (.int .u32 (.ofNat 0)) true 4 (.int .u32)
noncomputable abbrev te236:TE:=te12
noncomputable abbrev te237:TE:=te1
noncomputable abbrev te238:TE:=te1
noncomputable def te242:TE:=sA 3 [u0,u0,u0] true 24 (.array 3 155)
noncomputable def te246:TE:=s1 u2 true 8 (.ptr 58)
noncomputable abbrev te249:TE:=te12
noncomputable def te253:TE:=s1 u2 true 8 (.ptr 3)
noncomputable abbrev te256:TE:=te1
noncomputable def te257:TE:=s1 u2 true 8 (.ptr 259)
noncomputable def te259:TE:=sA 2 [u2,u1] true 32 (.struct [(0,(1,257)),(1,(1,154))])
noncomputable abbrev te262:TE:=te20
noncomputable def te263:TE:=s1 (.tuple (.mk [u0,.nilIface])) true 0 .other
noncomputable def te271:TE:=s1 u2 true 8 (.ptr 249)
noncomputable def te273:TE:=s1 (.tuple (.mk [.int .i32 (.ofNat 0),u0])) true 0 .other
noncomputable def te278:TE:=s1 u2 true 8 (.ptr 5)
noncomputable def te281:TE:=s1 (.tuple (.mk [.int .u32 (.ofNat 0),.int .u32 (.ofNat 0)])) true 0 .other
noncomputable def te283:TE:=sA 24 (List.replicate 24 z8) true 24 (.array 24 5)
noncomputable def te285:TE:=s1 (.tuple (.mk [u1,u4])) true 0 .other
noncomputable def te287:TE:=s1 u2 true 8 .other
noncomputable def te291:TE:=sA 256 (List.replicate 256 z8) true 256 (.array 256 5)
noncomputable def te293:TE:=sA 2 [z8,z8] true 2 (.struct [(0,(1,5)),(1,(1,5))])
noncomputable def te294:TE:=sA 32 (List.replicate 32 z8) true 32 (.array 16 293)
noncomputable def te296:TE:=sA 20 (List.replicate 20 (.int .u64 (.ofNat 0))) true 160 (.array 20 236)
noncomputable def te297:TE:=sA 65 (List.replicate 65 z8) true 65 (.array 65 5)
noncomputable def te298:TE:=sA 32 (List.replicate 32 z8) true 32 (.array 32 5)
noncomputable def te299:TE:=sA 64 (List.replicate 64 z8) true 64 (.array 64 5)
noncomputable def te302:TE:=sA 0 [] true 0 (.array 0 16)
noncomputable def te304:TE:=sA 0 [] true 0 (.struct [(0,(0,302))])
noncomputable def tb:T TE:=(.n (.n (.n (.n (.n (.n (l1 te63) (some te31) (.n (.n (l1 te287) none .e) (some te95) .e)) none (.n (.n (.n (l1 te271) (some te143) .e) none .e) none (l1 te111))) (some te7) (.n (.n (.n (.n (l1 te263) none .e) none .e) (some te39) .e) (some te23) (.n (.n .e none (l1 te215)) none .e))) (some te3) (.n (.n (.n (.n (.n (l1 te259) (some te131) .e) none (l1 te195)) none (.n (.n (l1 te291) none .e) none (l1 te227))) none (.n (.n (l1 te147) none .e) none .e)) (some te11) (.n (.n .e none (.n (.n (l1 te299) none .e) none .e)) (some te27) (.n (.n (.n (l1 te283) (some te155) .e) none .e) (some te59) .e)))) (some te1) (.n (.n (.n (.n (.n (.n (l1 te257) (some te129) .e) (some te65) (l1 te193)) none (.n (l1 te161) none .e)) none (.n (.n (.n (l1 te273) (some te145) .e) none .e) none .e)) (some te9) (.n (.n .e (some te41) (.n (.n (l1 te297) (some te169) .e) (some te105) .e)) (some te25) (.n (.n (.n (l1 te281) (some te153) .e) none .e) none (.n .e none (l1 te249))))) (some te5) (.n (.n (.n .e none (.n (.n (l1 te293) none .e) none .e)) (some te21) (.n (.n (l1 te149) (some te85) .e) (some te53) (l1 te117))) none (.n (.n (l1 te77) none (.n (l1 te173) none (l1 te237))) none (.n (.n (.n (l1 te285) none .e) none (l1 te221)) none (.n (l1 te189) (some te125) (l1 te253))))))) (some te0) (.n (.n (.n (.n (.n (.n (.n (l1 te256) (some te128) .e) (some te64) .e) (some te32) (.n .e none (l1 te224))) (some te16) (.n (.n .e (some te80) (l1 te208)) (some te48) (.n (.n (l1 te304) (some te176) .e) none .e))) (some te8) (.n (.n (.n (l1 te136) (some te72) (l1 te200)) none (.n (.n (l1 te296) none .e) none .e)) (some te24) (.n .e none (.n (l1 te184) (some te120) .e)))) (some te4) (.n (.n (.n .e none (.n .e (some te100) (l1 te228))) (some te20) (.n .e (some te52) (.n (l1 te180) none .e))) (some te12) (.n (.n (.n (l1 te140) none .e) none (.n .e none (l1 te236))) (some te28) (.n (.n .e none (l1 te220)) none (.n (l1 te188) (some te124) .e))))) (some te2) (.n (.n (.n (.n (l1 te66) (some te34) (l1 te98)) none (.n .e none (.n (l1 te178) (some te114) (l1 te242)))) (some te10) (.n (.n (.n .e (some te74) (l1 te202)) none (.n (.n (l1 te298) none .e) none (l1 te234))) none (.n (.n (l1 te154) (some te90) .e) (some te58) (l1 te122)))) (some te6) (.n (.n (.n (.n (.n (l1 te262) none .e) none (l1 te198)) (some te38) (.n (.n (l1 te294) none .e) none .e)) (some te22) (.n (.n (.n (l1 te278) none .e) (some te86) .e) (some te54) (.n (l1 te182) none (l1 te246)))) none (.n (.n (.n .e none (l1 te206)) none (.n (.n (l1 te302) none .e) none (l1 te238))) (some te30) (.n (.n (l1 te158) none .e) none (l1 te126)))))))
open Tryz in
noncomputable def ft:T Func:=(.n (.n (.n (.n (.n (.n (.n (l1 f127) (some f63) (l1 f191)) (some f31) (.n (l1 f159) (some f95) (l1 f223))) (some f15) (.n (.n (l1 f143) (some f79) (l1 f207)) (some f47) (.n (l1 f175) (some f111) .e))) (some f7) (.n (.n (.n (l1 f135) (some f71) (l1 f199)) (some f39) (.n (l1 f167) (some f103) (l1 f231))) (some f23) (.n (.n (l1 f151) (some f87) (l1 f215)) (some f55) (.n (l1 f183) (some f119) .e)))) (some f3) (.n (.n (.n (.n (l1 f131) (some f67) (l1 f195)) (some f35) (.n (l1 f163) (some f99) (l1 f227))) (some f19) (.n (.n (l1 f147) (some f83) (l1 f211)) (some f51) (.n (l1 f179) (some f115) .e))) (some f11) (.n (.n (.n (l1 f139) (some f75) (l1 f203)) (some f43) (.n (l1 f171) (some f107) (l1 f235))) (some f27) (.n (.n (l1 f155) (some f91) (l1 f219)) (some f59) (.n (l1 f187) (some f123) .e))))) none (.n (.n (.n (.n (.n (l1 f129) (some f65) (l1 f193)) (some f33) (.n (l1 f161) (some f97) (l1 f225))) (some f17) (.n (.n (l1 f145) (some f81) (l1 f209)) (some f49) (.n (l1 f177) (some f113) .e))) (some f9) (.n (.n (.n (l1 f137) (some f73) (l1 f201)) (some f41) (.n (l1 f169) (some f105) (l1 f233))) (some f25) (.n (.n (l1 f153) (some f89) (l1 f217)) (some f57) (.n (l1 f185) (some f121) .e)))) (some f5) (.n (.n (.n (.n (l1 f133) (some f69) (l1 f197)) (some f37) (.n (l1 f165) (some f101) (l1 f229))) (some f21) (.n (.n (l1 f149) (some f85) (l1 f213)) (some f53) (.n (l1 f181) (some f117) .e))) (some f13) (.n (.n (.n (l1 f141) (some f77) (l1 f205)) (some f45) (.n (l1 f173) (some f109) (l1 f237))) (some f29) (.n (.n (l1 f157) (some f93) (l1 f221)) (some f61) (.n (l1 f189) (some f125) .e)))))) none (.n (.n (.n (.n (.n (.n (l1 f128) (some f64) (l1 f192)) (some f32) (.n (l1 f160) (some f96) (l1 f224))) (some f16) (.n (.n (l1 f144) (some f80) (l1 f208)) (some f48) (.n (l1 f176) (some f112) .e))) (some f8) (.n (.n (.n (l1 f136) (some f72) (l1 f200)) (some f40) (.n (l1 f168) (some f104) (l1 f232))) (some f24) (.n (.n (l1 f152) (some f88) (l1 f216)) (some f56) (.n (l1 f184) (some f120) .e)))) (some f4) (.n (.n (.n (.n (l1 f132) (some f68) (l1 f196)) (some f36) (.n (l1 f164) (some f100) (l1 f228))) (some f20) (.n (.n (l1 f148) (some f84) (l1 f212)) (some f52) (.n (l1 f180) (some f116) .e))) (some f12) (.n (.n (.n (l1 f140) (some f76) (l1 f204)) (some f44) (.n (l1 f172) (some f108) (l1 f236))) (some f28) (.n (.n (l1 f156) (some f92) (l1 f220)) (some f60) (.n (l1 f188) (some f124) .e))))) none (.n (.n (.n (.n (.n (l1 f130) (some f66) (l1 f194)) (some f34) (.n (l1 f162) (some f98) (l1 f226))) (some f18) (.n (.n (l1 f146) (some f82) (l1 f210)) (some f50) (.n (l1 f178) (some f114) .e))) (some f10) (.n (.n (.n (l1 f138) (some f74) (l1 f202)) (some f42) (.n (l1 f170) (some f106) (l1 f234))) (some f26) (.n (.n (l1 f154) (some f90) (l1 f218)) (some f58) (.n (l1 f186) (some f122) .e)))) (some f6) (.n (.n (.n (.n (l1 f134) (some f70) (l1 f198)) (some f38) (.n (l1 f166) (some f102) (l1 f230))) (some f22) (.n (.n (l1 f150) (some f86) (l1 f214)) (some f54) (.n (l1 f182) (some f118) .e))) (some f14) (.n (.n (.n (l1 f142) (some f78) (l1 f206)) (some f46) (.n (l1 f174) (some f110) .e)) (some f30) (.n (.n (l1 f158) (some f94) (l1 f222)) (some f62) (.n (l1 f190) (some f126) .e)))))))
theorem qAu:Tb Tryz.prog tb:=tb_of_chk (by kernel_rfl)
theorem fa {k:Nat} {y:Func} (h:Tryz.prog.funcs[k]? =some y) (n:(y.name== "runtime.NumGoroutine")=false:=by kernel_rfl): ∀x,some y=some x->Tryz.prog.funcs[k]? =some x/\(x.name== "runtime.NumGoroutine")=false:=fun x e=>by cases e;exact ⟨h,n⟩
open Tryz in
theorem ft_all:T.All (fun k x=>Tryz.prog.funcs[k]? =some x/\(x.name== "runtime.NumGoroutine")=false) ft 0 1:=⟨nofun,⟨nofun,⟨fa func3,⟨fa func7,⟨fa func15,⟨fa func31,⟨fa func63,⟨fa func127,trivial,trivial⟩,⟨fa func191,trivial,trivial⟩⟩,⟨fa func95,⟨fa func159,trivial,trivial⟩,⟨fa func223,trivial,trivial⟩⟩⟩,⟨fa func47,⟨fa func79,⟨fa func143,trivial,trivial⟩,⟨fa func207,trivial,trivial⟩⟩,⟨fa func111,⟨fa func175,trivial,trivial⟩,trivial⟩⟩⟩,⟨fa func23,⟨fa func39,⟨fa func71,⟨fa func135,trivial,trivial⟩,⟨fa func199,trivial,trivial⟩⟩,⟨fa func103,⟨fa func167,trivial,trivial⟩,⟨fa func231,trivial,trivial⟩⟩⟩,⟨fa func55,⟨fa func87,⟨fa func151,trivial,trivial⟩,⟨fa func215,trivial,trivial⟩⟩,⟨fa func119,⟨fa func183,trivial,trivial⟩,trivial⟩⟩⟩⟩,⟨fa func11,⟨fa func19,⟨fa func35,⟨fa func67,⟨fa func131,trivial,trivial⟩,⟨fa func195,trivial,trivial⟩⟩,⟨fa func99,⟨fa func163,trivial,trivial⟩,⟨fa func227,trivial,trivial⟩⟩⟩,⟨fa func51,⟨fa func83,⟨fa func147,trivial,trivial⟩,⟨fa func211,trivial,trivial⟩⟩,⟨fa func115,⟨fa func179,trivial,trivial⟩,trivial⟩⟩⟩,⟨fa func27,⟨fa func43,⟨fa func75,⟨fa func139,trivial,trivial⟩,⟨fa func203,trivial,trivial⟩⟩,⟨fa func107,⟨fa func171,trivial,trivial⟩,⟨fa func235,trivial,trivial⟩⟩⟩,⟨fa func59,⟨fa func91,⟨fa func155,trivial,trivial⟩,⟨fa func219,trivial,trivial⟩⟩,⟨fa func123,⟨fa func187,trivial,trivial⟩,trivial⟩⟩⟩⟩⟩,⟨fa func5,⟨fa func9,⟨fa func17,⟨fa func33,⟨fa func65,⟨fa func129,trivial,trivial⟩,⟨fa func193,trivial,trivial⟩⟩,⟨fa func97,⟨fa func161,trivial,trivial⟩,⟨fa func225,trivial,trivial⟩⟩⟩,⟨fa func49,⟨fa func81,⟨fa func145,trivial,trivial⟩,⟨fa func209,trivial,trivial⟩⟩,⟨fa func113,⟨fa func177,trivial,trivial⟩,trivial⟩⟩⟩,⟨fa func25,⟨fa func41,⟨fa func73,⟨fa func137,trivial,trivial⟩,⟨fa func201,trivial,trivial⟩⟩,⟨fa func105,⟨fa func169,trivial,trivial⟩,⟨fa func233,trivial,trivial⟩⟩⟩,⟨fa func57,⟨fa func89,⟨fa func153,trivial,trivial⟩,⟨fa func217,trivial,trivial⟩⟩,⟨fa func121,⟨fa func185,trivial,trivial⟩,trivial⟩⟩⟩⟩,⟨fa func13,⟨fa func21,⟨fa func37,⟨fa func69,⟨fa func133,trivial,trivial⟩,⟨fa func197,trivial,trivial⟩⟩,⟨fa func101,⟨fa func165,trivial,trivial⟩,⟨fa func229,trivial,trivial⟩⟩⟩,⟨fa func53,⟨fa func85,⟨fa func149,trivial,trivial⟩,⟨fa func213,trivial,trivial⟩⟩,⟨fa func117,⟨fa func181,trivial,trivial⟩,trivial⟩⟩⟩,⟨fa func29,⟨fa func45,⟨fa func77,⟨fa func141,trivial,trivial⟩,⟨fa func205,trivial,trivial⟩⟩,⟨fa func109,⟨fa func173,trivial,trivial⟩,⟨fa func237,trivial,trivial⟩⟩⟩,⟨fa func61,⟨fa func93,⟨fa func157,trivial,trivial⟩,⟨fa func221,trivial,trivial⟩⟩,⟨fa func125,⟨fa func189,trivial,trivial⟩,trivial⟩⟩⟩⟩⟩⟩,⟨nofun,⟨fa func4,⟨fa func8,⟨fa func16,⟨fa func32,⟨fa func64,⟨fa func128,trivial,trivial⟩,⟨fa func192,trivial,trivial⟩⟩,⟨fa func96,⟨fa func160,trivial,trivial⟩,⟨fa func224,trivial,trivial⟩⟩⟩,⟨fa func48,⟨fa func80,⟨fa func144,trivial,trivial⟩,⟨fa func208,trivial,trivial⟩⟩,⟨fa func112,⟨fa func176,trivial,trivial⟩,trivial⟩⟩⟩,⟨fa func24,⟨fa func40,⟨fa func72,⟨fa func136,trivial,trivial⟩,⟨fa func200,trivial,trivial⟩⟩,⟨fa func104,⟨fa func168,trivial,trivial⟩,⟨fa func232,trivial,trivial⟩⟩⟩,⟨fa func56,⟨fa func88,⟨fa func152,trivial,trivial⟩,⟨fa func216,trivial,trivial⟩⟩,⟨fa func120,⟨fa func184,trivial,trivial⟩,trivial⟩⟩⟩⟩,⟨fa func12,⟨fa func20,⟨fa func36,⟨fa func68,⟨fa func132,trivial,trivial⟩,⟨fa func196,trivial,trivial⟩⟩,⟨fa func100,⟨fa func164,trivial,trivial⟩,⟨fa func228,trivial,trivial⟩⟩⟩,⟨fa func52,⟨fa func84,⟨fa func148,trivial,trivial⟩,⟨fa func212,trivial,trivial⟩⟩,⟨fa func116,⟨fa func180,trivial,trivial⟩,trivial⟩⟩⟩,⟨fa func28,⟨fa func44,⟨fa func76,⟨fa func140,trivial,trivial⟩,⟨fa func204,trivial,trivial⟩⟩,⟨fa func108,⟨fa func172,trivial,trivial⟩,⟨fa func236,trivial,trivial⟩⟩⟩,⟨fa func60,⟨fa func92,⟨fa func156,trivial,trivial⟩,⟨fa func220,trivial,trivial⟩⟩,⟨fa func124,⟨fa func188,trivial,trivial⟩,trivial⟩⟩⟩⟩⟩,⟨fa func6,⟨fa func10,⟨fa func18,⟨fa func34,⟨fa func66,⟨fa func130,trivial,trivial⟩,⟨fa func194,trivial,trivial⟩⟩,⟨fa func98,⟨fa func162,trivial,trivial⟩,⟨fa func226,trivial,trivial⟩⟩⟩,⟨fa func50,⟨fa func82,⟨fa func146,trivial,trivial⟩,⟨fa func210,trivial,trivial⟩⟩,⟨fa func114,⟨fa func178,trivial,trivial⟩,trivial⟩⟩⟩,⟨fa func26,⟨fa func42,⟨fa func74,⟨fa func138,trivial,trivial⟩,⟨fa func202,trivial,trivial⟩⟩,⟨fa func106,⟨fa func170,trivial,trivial⟩,⟨fa func234,trivial,trivial⟩⟩⟩,⟨fa func58,⟨fa func90,⟨fa func154,trivial,trivial⟩,⟨fa func218,trivial,trivial⟩⟩,⟨fa func122,⟨fa func186,trivial,trivial⟩,trivial⟩⟩⟩⟩,⟨fa func14,⟨fa func22,⟨fa func38,⟨fa func70,⟨fa func134,trivial,trivial⟩,⟨fa func198,trivial,trivial⟩⟩,⟨fa func102,⟨fa func166,trivial,trivial⟩,⟨fa func230,trivial,trivial⟩⟩⟩,⟨fa func54,⟨fa func86,⟨fa func150,trivial,trivial⟩,⟨fa func214,trivial,trivial⟩⟩,⟨fa func118,⟨fa func182,trivial,trivial⟩,trivial⟩⟩⟩,⟨fa func30,⟨fa func46,⟨fa func78,⟨fa func142,trivial,trivial⟩,⟨fa func206,trivial,trivial⟩⟩,⟨fa func110,⟨fa func174,trivial,trivial⟩,trivial⟩⟩,⟨fa func62,⟨fa func94,⟨fa func158,trivial,trivial⟩,⟨fa func222,trivial,trivial⟩⟩,⟨fa func126,⟨fa func190,trivial,trivial⟩,trivial⟩⟩⟩⟩⟩⟩⟩
theorem mixed:Tryz.prog.follows .mixedOrders=true:=by kernel_rfl
noncomputable def SE (xt:Xt):Env:={P:=Tryz.prog,tb:=tb,xt:=xt,ft:=ft,nat:=fun _ _ _ _=>none,drw:=fun _ _ _ _ _=>none}
theorem SE_P (xt:Xt):(SE xt).P=Tryz.prog:=rfl
theorem SE_tb (xt:Xt):(SE xt).tb=tb:=rfl
theorem SE_xt (xt:Xt):(SE xt).xt=xt:=rfl
theorem sok (xt:Xt):SyOk (SE xt):=⟨fun f fn h=>T.All.of ft_all f fn h,qAu,mixed⟩
theorem cAS {xt:Xt} {h:Hp} {f:FuncId} {args:List AV} {K:KP} (hc:FnA (SE xt) f args h K):CallA (SE xt) (.val (.func (.func f) #[] #[])) args h K:=qGL (sok xt) hc
theorem tg3:tb.get 3=some te3:=by kernel_rfl
theorem tg4:tb.get 4=some te4:=by kernel_rfl
theorem tg22:tb.get 22=some te22:=by kernel_rfl
theorem qAs:tb.get 23=some te23:=by kernel_rfl
theorem tg24:tb.get 24=some te24:=by kernel_rfl
theorem tg25:tb.get 25=some te25:=by kernel_rfl
theorem qAg:tb.get 28=some te28:=by kernel_rfl
theorem tg33:tb.get 65=some te65:=by kernel_rfl
theorem tg34:tb.get 38=some te38:=by kernel_rfl
theorem tg51:tb.get 53=some te53:=by kernel_rfl
theorem tg55:tb.get 80=some te80:=by kernel_rfl
theorem gC:tb.get 114=some te114:=by kernel_rfl
theorem tg69:tb.get 100=some te100:=by kernel_rfl
theorem vX:tb.get 31=some te31:=by kernel_rfl
theorem qBG:tb.get 155=some te155:=by kernel_rfl
theorem tg27:tb.get 27=some te27:=by kernel_rfl
theorem tg30:tb.get 30=some te30:=by kernel_rfl
theorem tg43:tb.get 58=some te58:=by kernel_rfl
theorem gD:tb.get 117=some te117:=by kernel_rfl
theorem qBY:tb.get 120=some te120:=by kernel_rfl
theorem bU:tb.get 63=some te63:=by kernel_rfl
theorem yF:tb.get 111=some te111:=by kernel_rfl
theorem tg121:tb.get 85=some te85:=by kernel_rfl
theorem qAt:tb.get 122=some te122:=by kernel_rfl
theorem tg225:tb.get 200=some te200:=by kernel_rfl
theorem ld3 (xt:Xt) (h:Hp) (b off:Nat):qO tb xt h 3 (.ptr b off)=jX (h.t.get b) off:=xE tg3 rfl
theorem st3 (h:Hp) (b off:Nat) (v:AV):jS tb h 3 (.ptr b off) v=jG 1 h b off v (h.t.get b):=zS tg3 rfl
theorem ld4 (xt:Xt) (h:Hp) (b off:Nat):qO tb xt h 4 (.ptr b off)=jX (h.t.get b) off:=xE tg4 rfl
theorem st4 (h:Hp) (b off:Nat) (v:AV):jS tb h 4 (.ptr b off) v=jG 1 h b off v (h.t.get b):=zS tg4 rfl
theorem ld22 (xt:Xt) (h:Hp) (b off:Nat):qO tb xt h 22 (.ptr b off)=jX (h.t.get b) off:=xE tg22 rfl
theorem st22 (h:Hp) (b off:Nat) (v:AV):jS tb h 22 (.ptr b off) v=jG 1 h b off v (h.t.get b):=zS tg22 rfl
theorem ld23 (xt:Xt) (h:Hp) (b off:Nat):qO tb xt h 23 (.ptr b off)=jX (h.t.get b) off:=xE qAs rfl
theorem st23 (h:Hp) (b off:Nat) (v:AV):jS tb h 23 (.ptr b off) v=jG 1 h b off v (h.t.get b):=zS qAs rfl
theorem ld24 (xt:Xt) (h:Hp) (b off:Nat):qO tb xt h 24 (.ptr b off)=jX (h.t.get b) off:=xE tg24 rfl
theorem st24 (h:Hp) (b off:Nat) (v:AV):jS tb h 24 (.ptr b off) v=jG 1 h b off v (h.t.get b):=zS tg24 rfl
theorem ld25 (xt:Xt) (h:Hp) (b off:Nat):qO tb xt h 25 (.ptr b off)=jX (h.t.get b) off:=xE tg25 rfl
theorem st25 (h:Hp) (b off:Nat) (v:AV):jS tb h 25 (.ptr b off) v=jG 1 h b off v (h.t.get b):=zS tg25 rfl
theorem ld28 (xt:Xt) (h:Hp) (b off:Nat):qO tb xt h 28 (.ptr b off)=jX (h.t.get b) off:=xE qAg rfl
theorem st28 (h:Hp) (b off:Nat) (v:AV):jS tb h 28 (.ptr b off) v=jG 1 h b off v (h.t.get b):=zS qAg rfl
theorem ld33 (xt:Xt) (h:Hp) (b off:Nat):qO tb xt h 65 (.ptr b off)=jX (h.t.get b) off:=xE tg33 rfl
theorem st33 (h:Hp) (b off:Nat) (v:AV):jS tb h 65 (.ptr b off) v=jG 1 h b off v (h.t.get b):=zS tg33 rfl
theorem ld34 (xt:Xt) (h:Hp) (b off:Nat):qO tb xt h 38 (.ptr b off)=jX (h.t.get b) off:=xE tg34 rfl
theorem st34 (h:Hp) (b off:Nat) (v:AV):jS tb h 38 (.ptr b off) v=jG 1 h b off v (h.t.get b):=zS tg34 rfl
theorem ld51 (xt:Xt) (h:Hp) (b off:Nat):qO tb xt h 53 (.ptr b off)=jX (h.t.get b) off:=xE tg51 rfl
theorem st51 (h:Hp) (b off:Nat) (v:AV):jS tb h 53 (.ptr b off) v=jG 1 h b off v (h.t.get b):=zS tg51 rfl
theorem ld55 (xt:Xt) (h:Hp) (b off:Nat):qO tb xt h 80 (.ptr b off)=jX (h.t.get b) off:=xE tg55 rfl
theorem st55 (h:Hp) (b off:Nat) (v:AV):jS tb h 80 (.ptr b off) v=jG 1 h b off v (h.t.get b):=zS tg55 rfl
theorem ld58 (xt:Xt) (h:Hp) (b off:Nat):qO tb xt h 114 (.ptr b off)=jX (h.t.get b) off:=xE gC rfl
theorem st58 (h:Hp) (b off:Nat) (v:AV):jS tb h 114 (.ptr b off) v=jG 1 h b off v (h.t.get b):=zS gC rfl
theorem ld69 (xt:Xt) (h:Hp) (b off:Nat):qO tb xt h 100 (.ptr b off)=jX (h.t.get b) off:=xE tg69 rfl
theorem st69 (h:Hp) (b off:Nat) (v:AV):jS tb h 100 (.ptr b off) v=jG 1 h b off v (h.t.get b):=zS tg69 rfl
theorem ld75 (xt:Xt) (h:Hp) (b off:Nat):qO tb xt h 31 (.ptr b off)=jX (h.t.get b) off:=xE vX rfl
theorem st75 (h:Hp) (b off:Nat) (v:AV):jS tb h 31 (.ptr b off) v=jG 1 h b off v (h.t.get b):=zS vX rfl
theorem ld136 (xt:Xt) (h:Hp) (b off:Nat):qO tb xt h 155 (.ptr b off)=jX (h.t.get b) off:=xE qBG rfl
theorem st136 (h:Hp) (b off:Nat) (v:AV):jS tb h 155 (.ptr b off) v=jG 1 h b off v (h.t.get b):=zS qBG rfl
theorem ld27 (xt:Xt) (h:Hp) (b off:Nat):qO tb xt h 27 (.ptr b off)=zR 6 (h.t.get b) off:=xN tg27 rfl rfl
theorem st27 (h:Hp) (b off:Nat) (v:AV):jS tb h 27 (.ptr b off) v=jG 6 h b off v (h.t.get b):=zS tg27 rfl
theorem fa27_0 (b off:Nat):qL tb 27 (.ptr b off) 0=some (.ptr b (off+0)):=zG tg27 rfl rfl
theorem fa27_1 (b off:Nat):qL tb 27 (.ptr b off) 1=some (.ptr b (off+1)):=zG tg27 rfl rfl
theorem fa27_2 (b off:Nat):qL tb 27 (.ptr b off) 2=some (.ptr b (off+2)):=zG tg27 rfl rfl
theorem fa27_3 (b off:Nat):qL tb 27 (.ptr b off) 3=some (.ptr b (off+3)):=zG tg27 rfl rfl
theorem fa27_4 (b off:Nat):qL tb 27 (.ptr b off) 4=some (.ptr b (off+4)):=zG tg27 rfl rfl
theorem fa27_5 (b off:Nat):qL tb 27 (.ptr b off) 5=some (.ptr b (off+5)):=zG tg27 rfl rfl
theorem ld30 (xt:Xt) (h:Hp) (b off:Nat):qO tb xt h 30 (.ptr b off)=zR 8 (h.t.get b) off:=xN tg30 rfl rfl
theorem st30 (h:Hp) (b off:Nat) (v:AV):jS tb h 30 (.ptr b off) v=jG 8 h b off v (h.t.get b):=zS tg30 rfl
theorem fa30_0 (b off:Nat):qL tb 30 (.ptr b off) 0=some (.ptr b (off+0)):=zG tg30 rfl rfl
theorem fa30_1 (b off:Nat):qL tb 30 (.ptr b off) 1=some (.ptr b (off+6)):=zG tg30 rfl rfl
theorem fa30_2 (b off:Nat):qL tb 30 (.ptr b off) 2=some (.ptr b (off+7)):=zG tg30 rfl rfl
theorem ld43 (xt:Xt) (h:Hp) (b off:Nat):qO tb xt h 58 (.ptr b off)=zR 2 (h.t.get b) off:=xN tg43 rfl rfl
theorem st43 (h:Hp) (b off:Nat) (v:AV):jS tb h 58 (.ptr b off) v=jG 2 h b off v (h.t.get b):=zS tg43 rfl
theorem fa43_0 (b off:Nat):qL tb 58 (.ptr b off) 0=some (.ptr b (off+0)):=zG tg43 rfl rfl
theorem fa43_1 (b off:Nat):qL tb 58 (.ptr b off) 1=some (.ptr b (off+1)):=zG tg43 rfl rfl
theorem ld48 (xt:Xt) (h:Hp) (b off:Nat):qO tb xt h 117 (.ptr b off)=zR 4 (h.t.get b) off:=xN gD rfl rfl
theorem st48 (h:Hp) (b off:Nat) (v:AV):jS tb h 117 (.ptr b off) v=jG 4 h b off v (h.t.get b):=zS gD rfl
theorem fa48_0 (b off:Nat):qL tb 117 (.ptr b off) 0=some (.ptr b (off+0)):=zG gD rfl rfl
theorem fa48_1 (b off:Nat):qL tb 117 (.ptr b off) 1=some (.ptr b (off+1)):=zG gD rfl rfl
theorem fa48_2 (b off:Nat):qL tb 117 (.ptr b off) 2=some (.ptr b (off+2)):=zG gD rfl rfl
theorem fa48_3 (b off:Nat):qL tb 117 (.ptr b off) 3=some (.ptr b (off+3)):=zG gD rfl rfl
theorem ld50 (xt:Xt) (h:Hp) (b off:Nat):qO tb xt h 120 (.ptr b off)=zR 3 (h.t.get b) off:=xN qBY rfl rfl
theorem st50 (h:Hp) (b off:Nat) (v:AV):jS tb h 120 (.ptr b off) v=jG 3 h b off v (h.t.get b):=zS qBY rfl
theorem fa50_0 (b off:Nat):qL tb 120 (.ptr b off) 0=some (.ptr b (off+0)):=zG qBY rfl rfl
theorem fa50_1 (b off:Nat):qL tb 120 (.ptr b off) 1=some (.ptr b (off+1)):=zG qBY rfl rfl
theorem fa50_2 (b off:Nat):qL tb 120 (.ptr b off) 2=some (.ptr b (off+2)):=zG qBY rfl rfl
theorem ld61 (xt:Xt) (h:Hp) (b off:Nat):qO tb xt h 63 (.ptr b off)=zR 3 (h.t.get b) off:=xN bU rfl rfl
theorem st61 (h:Hp) (b off:Nat) (v:AV):jS tb h 63 (.ptr b off) v=jG 3 h b off v (h.t.get b):=zS bU rfl
theorem fa61_0 (b off:Nat):qL tb 63 (.ptr b off) 0=some (.ptr b (off+0)):=zG bU rfl rfl
theorem fa61_1 (b off:Nat):qL tb 63 (.ptr b off) 1=some (.ptr b (off+1)):=zG bU rfl rfl
theorem fa61_2 (b off:Nat):qL tb 63 (.ptr b off) 2=some (.ptr b (off+2)):=zG bU rfl rfl
theorem ld90 (xt:Xt) (h:Hp) (b off:Nat):qO tb xt h 111 (.ptr b off)=zR 3 (h.t.get b) off:=xN yF rfl rfl
theorem st90 (h:Hp) (b off:Nat) (v:AV):jS tb h 111 (.ptr b off) v=jG 3 h b off v (h.t.get b):=zS yF rfl
theorem fa90_0 (b off:Nat):qL tb 111 (.ptr b off) 0=some (.ptr b (off+0)):=zG yF rfl rfl
theorem fa90_1 (b off:Nat):qL tb 111 (.ptr b off) 1=some (.ptr b (off+1)):=zG yF rfl rfl
theorem fa90_2 (b off:Nat):qL tb 111 (.ptr b off) 2=some (.ptr b (off+2)):=zG yF rfl rfl
theorem ld121 (xt:Xt) (h:Hp) (b off:Nat):qO tb xt h 85 (.ptr b off)=zR 9 (h.t.get b) off:=xN tg121 rfl rfl
theorem st121 (h:Hp) (b off:Nat) (v:AV):jS tb h 85 (.ptr b off) v=jG 9 h b off v (h.t.get b):=zS tg121 rfl
theorem fa121_0 (b off:Nat):qL tb 85 (.ptr b off) 0=some (.ptr b (off+0)):=zG tg121 rfl rfl
theorem fa121_1 (b off:Nat):qL tb 85 (.ptr b off) 1=some (.ptr b (off+8)):=zG tg121 rfl rfl
theorem ld141 (xt:Xt) (h:Hp) (b off:Nat):qO tb xt h 122 (.ptr b off)=zR 2 (h.t.get b) off:=xN qAt rfl rfl
theorem st141 (h:Hp) (b off:Nat) (v:AV):jS tb h 122 (.ptr b off) v=jG 2 h b off v (h.t.get b):=zS qAt rfl
theorem fa141_0 (b off:Nat):qL tb 122 (.ptr b off) 0=some (.ptr b (off+0)):=zG qAt rfl rfl
theorem fa141_1 (b off:Nat):qL tb 122 (.ptr b off) 1=some (.ptr b (off+1)):=zG qAt rfl rfl
theorem ld225 (xt:Xt) (h:Hp) (b off:Nat):qO tb xt h 200 (.ptr b off)=zR 2 (h.t.get b) off:=xN tg225 rfl rfl
theorem st225 (h:Hp) (b off:Nat) (v:AV):jS tb h 200 (.ptr b off) v=jG 2 h b off v (h.t.get b):=zS tg225 rfl
theorem fa225_0 (b off:Nat):qL tb 200 (.ptr b off) 0=some (.ptr b (off+0)):=zG tg225 rfl rfl
theorem fa225_1 (b off:Nat):qL tb 200 (.ptr b off) 1=some (.ptr b (off+1)):=zG tg225 rfl rfl
theorem al3 (h:Hp):jT tb h 3=some (.ptr h.n 0,h.new (.cells (([(.int .i64 0)]:List Value).map .val) 3)):=yP tg3 rfl
theorem al4 (h:Hp):jT tb h 4=some (.ptr h.n 0,h.new (.cells (([(.bool false)]:List Value).map .val) 4)):=yP tg4 rfl
theorem al34 (h:Hp):jT tb h 38=some (.ptr h.n 0,h.new (.cells (([(.int .i64 0)]:List Value).map .val) 38)):=yP tg34 rfl
theorem al43 (h:Hp):jT tb h 58=some (.ptr h.n 0,h.new (.cells (([(.int .i64 0),(.int .i64 0)]:List Value).map .val) 58)):=yP tg43 rfl
theorem al121 (h:Hp):jT tb h 85=some (.ptr h.n 0,h.new (.cells (([(.slice none 0 0),(.int .i64 0),(.int .i64 0),(.slice none 0 0),(.slice none 0 0),(.slice none 0 0),(.slice none 0 0),(.int .i64 0),(.slice none 0 0)]:List Value).map .val) 85)):=yP tg121 rfl
theorem al30 (h:Hp):jT tb h 30=some (.ptr h.n 0,h.new (.cells (([(.slice none 0 0),(.int .i64 0),(.int .i64 0),(.slice none 0 0),(.slice none 0 0),(.slice none 0 0),(.slice none 0 0),(.int .i64 0)]:List Value).map .val) 30)):=yP tg30 rfl
theorem al55 (h:Hp):jT tb h 80=some (.ptr h.n 0,h.new (.cells (([(.slice none 0 0)]:List Value).map .val) 80)):=yP tg55 rfl
theorem al51 (h:Hp):jT tb h 53=some (.ptr h.n 0,h.new (.cells (([(.slice none 0 0)]:List Value).map .val) 53)):=yP tg51 rfl
theorem al58 (h:Hp):jT tb h 114=some (.ptr h.n 0,h.new (.cells (([(.slice none 0 0)]:List Value).map .val) 114)):=yP gC rfl
noncomputable def sy:=PLift.up (xZZ @WO_nil (
 xZZ @WO_cons (
 xZZ @gate_t (
 xZZ @gate_fs (
 xZZ @gate_fn (
 xZZ @WOn_some (
 xZZ @WOn_none (
 xZZ @WOn_pan (
 xZZ @qAH (
 xZZ @qA5 (
 xZZ @qEA (
 xZZ @qET (
 xZZ @gdst_some (
 xZZ @wntd_some (
 xZZ @wnt_t (
 xZZ @wnt_f (
 xZZ @WOp_move (
 xZZ @qGS (
 xZZ @WOp_bin (
 xZZ @WOp_un (
 xZZ @WOp_pick (
 xZZ @WOp_box (
 xZZ @WOp_load (
 xZZ @WOp_store (
 xZZ @qDy (
 xZZ @WOp_field (
 xZZ @qDx (
 xZZ @WOp_index (
 xZZ @qGf (
 xZZ @qGg (
 xZZ @WOp_call (
 xZZ @WOp_func (
 xZZ @WOp_build (
 xZZ @qE2 (
 xZZ @optK_some (
 xZZ @wH (
 xZZ @optH_some (
 xZZ @resK_ret (
 xZZ @resK_pan (
 xZZ @aoPick_b (
 xZZ @abin_lss (
 xZZ @abin_leq (
 xZZ @abin_gtr (
 xZZ @abin_geq (
 xZZ @abin_eql (
 xZZ @abin_neq (
 xZZ @abin_add (
 xZZ @abin_sub (
 xZZ @abin_mul (
 xZZ @aun_not (
 xZZ @aeval_tmp (
 xZZ @qGa (
 xZZ @qGN (
 xZZ @xZV (
 xZZ @Option.getD_some.{0} (
 xZZ @decide_true (
 xZZ @decide_false (
 xZZ @true_and (
 xZZ @and_true (
 xZZ @List.toList_toArray.{0} (
 xZZ @List.map_cons.{0,0} (
 xZZ @List.map_nil.{0,0} (
 xZZ @List.getElem?_toArray.{0} (
 xZZ @List.getElem?_cons_succ.{0} (
 xZZ @xZS.{0} (
 xZZ @Option.bind_some.{0,0} (
 xZZ @Option.map_some.{0,0} (
 xZZ @cond_true.{1} (
 xZZ @cond_false.{1} (
 xZZ @Bool.not_true (
 xZZ @Bool.not_false (
 xZZ @SE_P (
 xZZ @SE_tb (
 xZZ @SE_xt (
 xZZ @Hp.up_t (
 xZZ @Hp.up_n (
 xZZ @Nat.add_zero (
 xZZ @xZR (
 xZZ @qEc (
 xZZ @Hp.new_t (
 xZZ @Hp.new_n (
 xZZ @Hp.set_t (
 xZZ @Hp.set_n (
 xZZ @qEO (
 xZZ @qAY (
 xZZ @yC (
 xZZ @qFV (
 xZZ @qEN (
 xZZ @qEM (
 xZZ @qFU (
 xZZ @qGJ (
 xZZ @qFT (
 xZZ @qGK (
 xZZ @qFS (
 xZZ @qAC (
 xZZ @one_bool (
 xZZ @one_slv (
 xZZ @one_sl (
 xZZ @one_ptr (
 xZZ @one_fn (
 xZZ @one_yld (
 xZZ @qE0 (
 xZZ @qE1 (
 xZZ @xZO.{0} (
 xZZ @List.length_nil.{0} (
 xZZ @List.drop_zero.{0} (
 xZZ @List.drop_succ_cons.{0} (
 xZZ @List.drop_nil.{0} (
 xZZ @List.take_zero.{0} (
 xZZ @List.take_succ_cons.{0} (
 xZZ @List.take_nil.{0} (
 xZZ @List.cons_append.{0} (
 xZZ @List.nil_append.{0} (
 xZZ @List.append_nil.{0} (
 xZZ @List.all_cons.{0} (
 xZZ @List.all_nil.{0} (
 xZZ @Bool.and_self (
 xZZ @and_self (
 xZZ @xZY (
 xZZ @WOC_nil (
 xZZ @WOC_cons (
 xZZ @gateC_t (
 xZZ @gateC_fs (
 xZZ @WOCn_f (
 xZZ @qFF (
 xZZ @qCO (
 xZZ @qFD (
 xZZ @qDr (
 xZZ @qFC (
 xZZ @qFE (
 xZZ @qGB (
 xZZ @isCall_un (
 xZZ @isCall_fa (
 xZZ @isCall_f (
 xZZ @isCall_ia (
 xZZ @isCall_i (
 xZZ @qEy (
 xZZ @isCall_ex (
 xZZ @isCall_mf (
 xZZ @ld3 (
 xZZ @st3 (
 xZZ @ld4 (
 xZZ @st4 (
 xZZ @ld22 (
 xZZ @st22 (
 xZZ @ld23 (
 xZZ @st23 (
 xZZ @ld24 (
 xZZ @st24 (
 xZZ @ld25 (
 xZZ @st25 (
 xZZ @ld28 (
 xZZ @st28 (
 xZZ @ld33 (
 xZZ @st33 (
 xZZ @ld34 (
 xZZ @st34 (
 xZZ @ld51 (
 xZZ @st51 (
 xZZ @ld55 (
 xZZ @st55 (
 xZZ @ld58 (
 xZZ @st58 (
 xZZ @ld69 (
 xZZ @st69 (
 xZZ @ld75 (
 xZZ @st75 (
 xZZ @ld136 (
 xZZ @st136 (
 xZZ @ld27 (
 xZZ @st27 (
 xZZ @fa27_0 (
 xZZ @fa27_1 (
 xZZ @fa27_2 (
 xZZ @fa27_3 (
 xZZ @fa27_4 (
 xZZ @fa27_5 (
 xZZ @ld30 (
 xZZ @st30 (
 xZZ @fa30_0 (
 xZZ @fa30_1 (
 xZZ @fa30_2 (
 xZZ @ld43 (
 xZZ @st43 (
 xZZ @fa43_0 (
 xZZ @fa43_1 (
 xZZ @ld48 (
 xZZ @st48 (
 xZZ @fa48_0 (
 xZZ @fa48_1 (
 xZZ @fa48_2 (
 xZZ @fa48_3 (
 xZZ @ld50 (
 xZZ @st50 (
 xZZ @fa50_0 (
 xZZ @fa50_1 (
 xZZ @fa50_2 (
 xZZ @ld61 (
 xZZ @st61 (
 xZZ @fa61_0 (
 xZZ @fa61_1 (
 xZZ @fa61_2 (
 xZZ @ld90 (
 xZZ @st90 (
 xZZ @fa90_0 (
 xZZ @fa90_1 (
 xZZ @fa90_2 (
 xZZ @ld121 (
 xZZ @st121 (
 xZZ @fa121_0 (
 xZZ @fa121_1 (
 xZZ @ld141 (
 xZZ @st141 (
 xZZ @fa141_0 (
 xZZ @fa141_1 (
 xZZ @ld225 (
 xZZ @st225 (
 xZZ @fa225_0 (
 xZZ @fa225_1 (
 xZZ @al3 (
 xZZ @al4 (
 xZZ @al34 (
 xZZ @al43 (
 xZZ @al121 (
 xZZ @al30 (
 xZZ @al55 (
 xZZ @al51 @al58)))))))))))))))))))))))))))))))))))))))))))))))))))))))))))))))))))))))))))))))))))))))))))))))))))))))))))))))))))))))))))))))))))))))))))))))))))))))))))))))))))))))))))))))))))))))))))))))))))))))))))))))))))))))))))))))))))
noncomputable def sw:=PLift.up (xZZ sy.1 (xZZ @argsTo.eq_1 (xZZ @argsTo.eq_2 @kF)))
end Go.Proofs.Kn
noncomputable section
namespace Go.Ev
section
variable {P:Program} {tb:T TE} {xt:Xt} {h:Hp} {N sz isz n m by_:Nat} {t tx e ex:TypeId} {te xe ee:TE} {v x a:AV} {cs cz:List AV} {rs:List (List Value)} {ll:List (List (List Value))}
theorem OwnSl.append2 (o:OwnSl h N sz e v n cs) (hN:N<=h.n) (ht:tb.get t=some te) (hd:te.d= .slice e) (he:tb.get e=some ee) (hs:ee.size=sz) (hby:ee.bytes=by_) (htx:tb.get tx=some xe) (hdx:xe.d= .slice ex)
  (hsrc:gS xt h sz x=some (m,cz)) (hm:0<m) (hcz:cz.length=m*sz) (hl:(n+m)*by_<=140737488355328) (hl2:n+m<=9223372036854775807):
  ∃h',qT P tb xt .append [t,tx] [v,x] h=some (.sl h.n 0 (n+m) sz,h')/\OwnSl h' N sz e (.sl h.n 0 (n+m) sz) (n+m) (cs++cz)/\Fr N h h'/\h'.n=h.n+1/\ ∀k,k<h.n->(∀off n s,v≠ .sl k off n s)->h'.t.get k=h.t.get k:=by
 have b3:Nat.ble ((n+m)*by_) 140737488355328=true:=by rw [xZP];exact hl
 have b4:Nat.ble (n+m) 9223372036854775807=true:=by rw [xZP];exact hl2
 rcases o with ⟨rfl,rfl,rfl⟩|⟨b,rfl,h2,h3,h4,h5⟩
 ·have b0:Nat.beq m 0=false:=by
   cases hb:Nat.beq m 0 with
   |false=>rfl
   |true=>have:=Nat.eq_of_beq_eq_true hb;omega
  rw [xZR] at b3 b4 ⊢;refine ⟨h.new (.cells cz e),?_,.inr ⟨h.n,rfl,hN,by simp [Hp.new_n],by simp [Hp.new_t,xZV],by simpa using hcz⟩,Fr.new (Fr.refl hN) _,rfl,fun k hk _=>by simp only [Hp.new_t,xZV];rw [if_neg (by omega)]⟩;have:zM tb xt h t tx (.val (.slice none 0 0)) x=some (.sl h.n 0 m sz,h.new (.cells cz e)):=by
   unfold zM;simp only [ht,hd,he,htx,hdx,hs,hsrc,b0,hby,b3,b4];simp
  simp only [qT,this]
 ·have b5:Nat.ble (n*sz) cs.length=true:=by rw [xZP,h5];exact xZY _
  have e1:cs.take (n*sz)=cs:=List.take_of_length_le (by rw [h5];exact xZY _);refine ⟨(h.del b).new (.cells (cs++cz) e),?_,.inr ⟨h.n,rfl,hN,by simp [Hp.new_n,Hp.del_n],by simp [Hp.new_t,Hp.del_n,xZV],by simp [h5,hcz,Nat.add_mul]⟩,Fr.new ((Fr.refl hN).del h2 h3) _,rfl,fun k hk hv=> ?_⟩
  ·have:zM tb xt h t tx (.sl b 0 n sz) x=some (.sl h.n 0 (n+m) sz,(h.del b).new (.cells (cs++cz) e)):=by
    unfold zM;simp only [ht,hd,he,htx,hdx,hs,hsrc,h4,hby,b3,b4,b5,e1];simp
   simp only [qT,this]
  ·simp only [Hp.new_t,Hp.del_t,Hp.del_n,xZV];rw [if_neg (by omega),if_neg (by rintro rfl;exact hv 0 n sz rfl)]
theorem qF3 (ht:tb.get t=some te) (hd:te.d= .slice e) (he:tb.get e=some ee) (hs:ee.size=sz) (htx:tb.get tx=some xe) (hdx:xe.d= .slice ex) (hsrc:gS xt h sz x=some (0,[])):
  qT P tb xt .append [t,tx] [.val (.slice none 0 0),x] h=some (.val (.slice none 0 0),h):=by
 have:zM tb xt h t tx (.val (.slice none 0 0)) x=some (.val (.slice none 0 0),h):=by
  unfold zM;simp only [ht,hd,he,htx,hdx,hs,hsrc];simp
 simp only [qT,this]
theorem RowAt.keepB {h':Hp} (r:RowAt xt h isz v rs) (hn:h.n<=h'.n) (hk: ∀b off n s,v= .sl b off n s->b<h.n->h'.t.get b=h.t.get b):RowAt xt h' isz v rs:=by
 obtain ⟨h1,h2,h3⟩:=r;refine ⟨h1,h2,?_⟩;rcases h3 with h3|h3|⟨b,off,av,e,hv,⟨hlt,hle,hb⟩,hc⟩
 ·exact .inl h3
 ·exact .inr (.inl h3)
 ·exact .inr (.inr ⟨b,off,av,e,hv,⟨xZW hlt hn,hle,by rw [hk b _ _ _ hv hlt];exact hb⟩,hc⟩)
theorem RowAt.lt (r:RowAt xt h isz v rs) {b off n s:Nat} (hv:v= .sl b off n s):b<h.n:=by
 obtain ⟨_,_,h3⟩:=r;rcases h3 with ⟨rfl,_⟩|⟨_,_,rfl,_⟩|⟨b',_,_,_,rfl,⟨h1,_⟩,_⟩
 ·cases hv
 ·cases hv
 ·cases hv;exact h1
def xR (v a:AV):Prop:= ∀b off n s,a= .sl b off n s-> ∀off n s,v≠ .sl b off n s
def LRows (xt:Xt) (h:Hp) (N isz:Nat) (e:TypeId) (v:AV) (ll:List (List (List Value))):Prop:=
 ∃avs:List AV,OwnSl h N 1 e v ll.length avs/\ ∀(i:Nat) (l:List (List Value)),ll[i]? =some l-> ∃a,avs[i]? =some a/\RowAt xt h isz a l/\xR v a
theorem LRows.lt (r:LRows xt h N isz e v ll) {b off n s:Nat} (hv:v= .sl b off n s):N<=b/\b<h.n:=by
 obtain ⟨_,h1,_⟩:=r;rcases h1 with ⟨_,_,rfl⟩|⟨b',rfl,h2,h3,_⟩
 ·cases hv
 ·cases hv;exact ⟨h2,h3⟩
theorem Fr.lower {n m:Nat} {h h':Hp} (f:Fr n h h') (hm:m<=n):Fr m h h':=⟨Nat.le_trans hm f.lo,f.le,fun k hk=>f.at_ k (by omega)⟩
theorem LRows.nil:LRows xt h N isz e (.val (.slice none 0 0)) []:=⟨[],OwnSl.nil,fun i l hl=>by simp at hl⟩
theorem LRows.fr {h':Hp} {M:Nat} (r:LRows xt h N isz e v ll) (f:Fr M h h') (hM:h.n<=M):LRows xt h' N isz e v ll:=by
 obtain ⟨avs,h1,h2⟩:=r;exact ⟨avs,h1.fr f hM,fun i l hl=>by obtain ⟨a,q1,q2,q3⟩:=h2 i l hl;exact ⟨a,q1,q2.fr f hM,q3⟩⟩
theorem LRows.up (r:LRows xt h N isz e v ll) {k:Nat} (hk:h.n<=k):LRows xt (h.up k) N isz e v ll:=r.fr (Fr.up (Fr.refl (xZY _)) hk) (xZY _)
theorem LRows.new (r:LRows xt h N isz e v ll) (o:AO):LRows xt (h.new o) N isz e v ll:=r.fr (Fr.new (Fr.refl (xZY _)) o) (xZY _)
theorem LRows.len (r:LRows xt h N isz e v ll) (ht:tb.get t=some te) (hd:te.d= .slice e) {h':Hp}:zI tb h' t v=some ll.length:=by
 obtain ⟨avs,h1,_⟩:=r;exact h1.len ht hd
theorem LRows.one (r:LRows xt h N isz e v ll):Go.Ev.one v=true:=by obtain ⟨_,h1,_⟩:=r;exact h1.one
theorem LRows.cells (r:LRows xt h N isz e v ll):cellsOf v=[v]:=by obtain ⟨_,h1,_⟩:=r;exact h1.cells
theorem LRows.at_ (r:LRows xt h N isz e v ll) (ht:tb.get t=some te) (hd:te.d= .slice e) (he:tb.get e=some ee) (hs:ee.size=1) {i:Nat} {l:List (List Value)} (hl:ll[i]? =some l) {k:IntKind}:
  ∃b a cs,qM tb t v (.val (.int k (i:Int)))=some (.ptr b i)/\h.t.get b=some (.cells cs e)/\cs[i]? =some a/\RowAt xt h isz a l/\b<h.n/\N<=b/\v= .sl b 0 ll.length 1:=by
 obtain ⟨avs,h1,h2⟩:=r;have hi:=(xZX.1 hl).1;obtain ⟨a,q1,q2,q3⟩:=h2 i l hl;obtain ⟨b,p1,p2,p3,p4,p5⟩:=h1.idx ht hd he hs hi (k:=k);rw [xZQ] at p1;refine ⟨b,a,avs,p1,p4,q1,q2,p3,p2,?_⟩;rcases h1 with ⟨h0,_⟩|⟨b',rfl,_⟩
 ·rw [h0] at hi;exact absurd hi (Nat.not_lt_zero _)
 ·have e1:qAm (.val (.int k (i:Int)))=some (Int.ofNat i):=rfl;have e2:Nat.blt i ll.length=true:=by rw [Nat.blt_eq];exact hi
  simp [qM,ht,e1,hd,he,e2,hs] at p1;rw [p1]
theorem LRows.append {l:List (List Value)} (r:LRows xt h N isz e v ll) (hN:N<=h.n) (ht:tb.get t=some te) (hd:te.d= .slice e) (he:tb.get e=some ee) (hs:ee.size=1) (hby:ee.bytes=by_) (htx:tb.get tx=some xe) (hdx:xe.d= .slice ex)
  (hsrc:gS xt h 1 x=some (1,[a])) (ha:RowAt xt h isz a l) (hap:xR v a) (hl:(ll.length+1)*by_<=140737488355328) (hl2:ll.length+1<=9223372036854775807):
  ∃v' h',qT P tb xt .append [t,tx] [v,x] h=some (v',h')/\LRows xt h' N isz e v' (ll++[l])/\Fr N h h'/\h'.n=h.n+1/\v'= .sl h.n 0 (ll.length+1) 1/\ ∀k,k<h.n->(∀off n s,v≠ .sl k off n s)->h'.t.get k=h.t.get k:=by
 obtain ⟨avs,h1,h2⟩:=r;have hlen:avs.length=ll.length:=by
  rcases h1 with ⟨p1,rfl,_⟩|⟨b,_,_,_,_,p5⟩
  ·rw [p1];rfl
  ·simpa using p5
 obtain ⟨h',p1,p2,p3,p4,p5⟩:=h1.append2 (P:=P) (m:=1) (cz:=[a]) hN ht hd he hs hby htx hdx hsrc (by omega) rfl hl hl2;refine ⟨_,h',p1,⟨avs++[a],by simpa using p2,fun i l' hl'=> ?_⟩,p3,p4,rfl,p5⟩;have keep: ∀{a':AV} {rs:List (List Value)},RowAt xt h isz a' rs->xR v a'->RowAt xt h' isz a' rs/\xR (.sl h.n 0 (ll.length+1) 1) a':=fun {a' rs} hr hp=>by
  refine ⟨hr.keepB (by omega) fun b off n s hv hb=>p5 b hb fun off' n' s' hq=>hp b off n s hv off' n' s' hq,fun b off n s hv off' n' s' hq=> ?_⟩;have:=hr.lt hv;cases hq;omega
 rcases Nat.lt_or_ge i ll.length with hi|hi
 ·rw [xZT hi] at hl';obtain ⟨a',q1,q2,q3⟩:=h2 i l' hl';exact ⟨a',by rw [xZT (by omega)];exact q1,keep q2 q3⟩
 ·have hi2:i=ll.length:=by
   have:=(xZX.1 hl').1;simp only [List.length_append,xZO,List.length_nil] at this;omega
  subst hi2;rw [xZU (xZY _),Nat.sub_self] at hl';simp only [xZS,Option.some.injEq] at hl';subst hl';exact ⟨a,by rw [<-hlen,xZU (xZY _),Nat.sub_self];rfl,keep ha hap⟩
end
def GridAt (xt:Xt) (h:Hp) (isz:Nat) (v:AV) (ll:List (List (List Value))):Prop:=
 (∃vs:List Value,RowAt xt h 1 v (vs.map fun u=>[u])/\vs.length=ll.length/\ ∀(i:Nat) (l:List (List Value)),ll[i]? =some l-> ∃u,vs[i]? =some u/\RowAt xt h isz (.val u) l)\/
 (∃(b off:Nat) (avs:List AV) (e:TypeId),v= .sl b off ll.length 1/\(b<h.n/\off+ll.length<=avs.length/\h.t.get b=some (.cells avs e))/\ ∀(i:Nat) (l:List (List Value)),ll[i]? =some l-> ∃a,avs[off+i]? =some a/\RowAt xt h isz a l)
section
variable {xt:Xt} {h:Hp} {isz:Nat} {v:AV} {ll:List (List (List Value))} {tb:T TE} {t e:TypeId} {te ee:TE} {N:Nat}
theorem GridAt.keep {h':Hp} (r:GridAt xt h isz v ll) (hn:h.n<=h'.n) (hk: ∀b,b<h.n->h'.t.get b=h.t.get b):GridAt xt h' isz v ll:=by
 rcases r with ⟨vs,r1,r2,r3⟩|⟨b,off,avs,e,rfl,⟨q1,q2,q3⟩,r3⟩
 ·exact .inl ⟨vs,r1.keep hn hk,r2,fun i l hl=>by obtain ⟨u,p1,p2⟩:=r3 i l hl;exact ⟨u,p1,p2.keep hn hk⟩⟩
 ·exact .inr ⟨b,off,avs,e,rfl,⟨xZW q1 hn,q2,by rw [hk b q1];exact q3⟩,fun i l hl=>by obtain ⟨u,p1,p2⟩:=r3 i l hl;exact ⟨u,p1,p2.keep hn hk⟩⟩
theorem GridAt.fr {h':Hp} {m:Nat} (r:GridAt xt h isz v ll) (f:Fr m h h') (hm:h.n<=m):GridAt xt h' isz v ll:=r.keep f.le fun b hb=>f.at_ b (.inl (xZW hb hm))
theorem GridAt.up (r:GridAt xt h isz v ll) {n:Nat} (hn:h.n<=n):GridAt xt (h.up n) isz v ll:=r.keep hn fun _ _=>rfl
theorem GridAt.new (r:GridAt xt h isz v ll) (o:AO):GridAt xt (h.new o) isz v ll:=r.keep (Nat.le_succ _) fun b hb=>by
 show (h.t.put (some o) h.n).get b=_;rw [xZV,if_neg (by omega)]
theorem GridAt.one (r:GridAt xt h isz v ll):Go.Ev.one v=true:=by
 rcases r with ⟨vs,r1,_⟩|⟨b,off,avs,e,rfl,_⟩
 ·exact r1.one
 ·rfl
theorem GridAt.cells (r:GridAt xt h isz v ll):cellsOf v=[v]:=by
 rcases r with ⟨vs,r1,_⟩|⟨b,off,avs,e,rfl,_⟩
 ·exact r1.cells
 ·rfl
theorem GridAt.len (r:GridAt xt h isz v ll) (ht:tb.get t=some te) (hd:te.d= .slice e) {h':Hp}:zI tb h' t v=some ll.length:=by
 rcases r with ⟨vs,r1,r2,_⟩|⟨b,off,avs,e,rfl,_⟩
 ·rw [r1.len ht hd,List.length_map,r2]
 ·simp [zI,ht,hd]
theorem GridAt.at_ (r:GridAt xt h isz v ll) (ht:tb.get t=some te) (hd:te.d= .slice e) (he:tb.get e=some ee) (hs:ee.size=1) (ha:ee.agg=false) {i:Nat} {l:List (List Value)} (hl:ll[i]? =some l):
  ∃a,(∀k:IntKind,qM tb t v (.val (.int k (i:Int)))=some (elp v i))/\qO tb xt h e (elp v i)=some a/\RowAt xt h isz a l:=by
 have hi:=(xZX.1 hl).1;rcases r with ⟨vs,r1,r2,r3⟩|⟨b,off,avs,e',rfl,⟨q1,q2,q3⟩,r3⟩
 ·obtain ⟨u,p1,p2⟩:=r3 i l hl;refine ⟨.val u,fun k=> ?_,?_,p2⟩
  ·have:=r1.idx ht hd he hs (i:=i) (by rw [List.length_map,r2];exact hi) (k:=k)
   rwa [xZQ] at this
  ·have:=r1.load0 he ha (i:=i) (c:=[u]) (u:=u) (by simp [p1]) rfl
   rwa [xZQ] at this
 ·obtain ⟨a,p1,p2⟩:=r3 i l hl;refine ⟨a,fun k=> ?_,?_,p2⟩
  ·have e1:qAm (.val (.int k (i:Int)))=some (Int.ofNat i):=rfl;have e2:Nat.blt i ll.length=true:=by rw [Nat.blt_eq];exact hi
   simp [qM,ht,e1,hd,he,e2,hs,elp]
  ·simp [qO,he,ha,elp,q3,p1]
theorem LRows.grid (r:LRows xt h N isz e v ll):GridAt xt h isz v ll:=by
 obtain ⟨avs,h1,h2⟩:=r;rcases h1 with ⟨p1,rfl,rfl⟩|⟨b,rfl,p2,p3,p4,p5⟩
 ·have hn:ll=[]:=List.length_eq_zero_iff.1 p1;subst hn;exact .inl ⟨[],⟨(by simp),Nat.one_pos,.inl ⟨rfl,rfl⟩⟩,rfl,fun i l hl=>by simp at hl⟩
 ·refine .inr ⟨b,0,avs,e,rfl,⟨p3,by simp at p5;omega,p4⟩,fun i l hl=> ?_⟩;obtain ⟨a,q1,q2,_⟩:=h2 i l hl;exact ⟨a,by rw [xZR];exact q1,q2⟩
end
end Go.Ev
end
