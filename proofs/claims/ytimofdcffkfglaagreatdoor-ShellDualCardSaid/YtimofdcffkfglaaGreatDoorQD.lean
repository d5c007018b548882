/- Parts. -/
import Derived.KernelRfl
import Derived.Test.YtimofdcffkfglaaGreatDoorProg
import Derived.Test.YtimofdcffkfglaaGreatDoorQB
import Derived.Test.YtimofdcffkfglaaGreatDoorQC
set_option linter.all false
open Nat renaming reduceEqDiff → rE, reduceLeDiff → rD, reduceAdd → rA, reduceMul → rM, reduceLT → rL
open And renaming intro → xZZ
open Go.Ev.T renaming get_put → xZY
open Nat renaming le_refl → xZX, le_of_lt → xZR, le_trans → xZO, zero_le → xZK, mul_one → xYZ, add_assoc → xYX, blt_eq → xYP, lt_of_lt_of_le → xYK
open Option renaming bind_some → xZW, map_some → xZG, toList_some → xYO
open List renaming getElem?_eq_getElem → xZV, mem_of_getElem? → xZU, drop_eq_nil_of_le → xZM, getElem?_map → xZJ, length_map → xZF, getElem?_range → xZE, mem_map → xZC, getElem?_eq_none → xZB, map_congr_left → xZA, any_map → xYW, take_length → xYU, take_succ → xYT, mem_range → xYS, getElem?_eq_some_iff → xYR, getElem?_take → xYM, getElem?_set → xYJ, ext_getElem? → xYI, all_eq_false → xYH, cons_append → xYG, all_eq_true → xYF
open Go.Ev.Fr renaming refl → xZT
open Go.Ev.Hp renaming up_up → xZS, up_n → xZI, set_t → xZH
open Bool renaming false_and → xZQ, true_and → xZL, not_false → xZD, not_true → xYY, and_false → xYQ, and_eq_true_iff → xYN, false_eq_true → xYL, and_eq_true → xYE
open Go.Ev.FnA renaming walk → xZP, calm → xZN
open Int renaming toNat_natCast → xYV
noncomputable section
namespace Go.Proofs.Kn
open Go Go.Ev
set_option maxRecDepth 100000
abbrev u0:Value:= .int .i64 (.ofNat 0)
abbrev u1:Value:= .slice none 0 0
abbrev u2:Value:= .pointer none
abbrev u3:Value:= .bool false
abbrev u4:Value:= .string (.mk (.mk []))
abbrev z8:Value:= .int .u8 (.ofNat 0)
abbrev s1 (z:Value) (c:Bool) (n:Nat) (d:TD):TE:= .mk 1 false [z] z c n d
abbrev sA (n:Nat) (l:List Value) (c:Bool) (b:Nat) (d:TD):TE:= .mk n true l (.agg (.mk l)) c b d
abbrev l1 {α:Type} (x:α):T α:= .n .e (some x) .e
noncomputable def te0:TE:=s1 (.tuple (.mk [])) true 0 .other
noncomputable def te1:TE:=s1 .nilFunc true 8 .other
noncomputable def te2:TE:=s1 u0 true 8 (.int .i64)
noncomputable abbrev te3:TE:=te2
noncomputable def te4:TE:=s1 u3 true 1 .other
noncomputable def te5:TE:=s1 z8 true 1 (.int .u8)
noncomputable abbrev te6:TE:=te5
noncomputable def te7:TE:=sA 4 [u0,u0,u3,z8] true 24 (.struct [(0,(1,2)),(1,(1,3)),(2,(1,4)),(3,(1,6))])
noncomputable abbrev te8:TE:=te7
noncomputable def te9:TE:=s1 u4 true 16 .str
noncomputable abbrev te10:TE:=te9
noncomputable abbrev te11:TE:=te9
noncomputable def te12:TE:=s1 (.int .u64 (.ofNat 0)) true 8 (.int .u64)
noncomputable def te16:TE:=s1 u2 true 8 (.ptr 329)
noncomputable def te20:TE:=s1 .nilIface false 16 .iface
noncomputable def te21:TE:=s1 (.int .i32 (.ofNat 0)) true 4 (.int .i32)
noncomputable def te22:TE:=s1 u1 true 24 (.slice 58)
noncomputable def te23:TE:=s1 u1 true 24 (.slice 48)
noncomputable def te24:TE:=s1 u1 true 24 (.slice 50)
noncomputable def te25:TE:=s1 u1 true 24 (.slice 142)
noncomputable def te27:TE:=sA 6 [u1,u0,u0,u1,u1,u1] true 112 (.struct [(0,(1,22)),(1,(1,3)),(2,(1,3)),(3,(1,23)),(4,(1,24)),(5,(1,25))])
noncomputable def te28:TE:=s1 u1 true 24 (.slice 130)
noncomputable def te30:TE:=sA 8 [u1,u0,u0,u1,u1,u1,u1,u0] true 144 (.struct [(0,(6,27)),(6,(1,28)),(7,(1,3))])
noncomputable def te33:TE:=s1 u1 true 24 (.slice 61)
noncomputable abbrev te34:TE:=te2
noncomputable def te35:TE:=s1 (.tuple (.mk [u1,u0,u0])) true 0 .other
noncomputable def te43:TE:=sA 2 [u0,u0] true 16 (.struct [(0,(1,3)),(1,(1,3))])
noncomputable def te44:TE:=s1 (.tuple (.mk [.agg (.mk [u0,u0]),u0])) true 0 .other
noncomputable def te48:TE:=sA 4 [u0,u0,u0,u0] true 32 (.struct [(0,(1,3)),(1,(1,3)),(2,(1,3)),(3,(1,3))])
noncomputable def te50:TE:=sA 3 [u0,u0,u3] true 24 (.struct [(0,(1,3)),(1,(1,3)),(2,(1,4))])
noncomputable def te51:TE:=s1 u1 true 24 (.slice 55)
noncomputable def te52:TE:=s1 (.tuple (.mk [u1,u0])) true 0 .other
noncomputable def te55:TE:=s1 u1 true 24 (.slice 43)
noncomputable def te58:TE:=s1 u1 true 24 (.slice 137)
noncomputable def te61:TE:=sA 3 [u0,u0,u0] true 24 (.struct [(0,(1,3)),(1,(1,3)),(2,(1,3))])
noncomputable abbrev te65:TE:=te1
noncomputable def te69:TE:=s1 u1 true 24 (.slice 75)
noncomputable def te75:TE:=s1 u1 true 24 (.slice 3)
noncomputable def te76:TE:=s1 (.tuple (.mk [u0,u0])) true 0 .other
noncomputable def te89:TE:=s1 u1 true 24 (.slice 117)
noncomputable def te91:TE:=sA 2 [u1,u1] true 48 (.struct [(0,(1,75)),(1,(1,89))])
noncomputable def te93:TE:=s1 (.tuple (.mk [.agg (.mk [u1,u1]),u0,u0])) true 0 .other
noncomputable def te100:TE:=s1 (.tuple (.mk [u0,u3])) true 0 .other
noncomputable def te108:TE:=s1 u1 true 24 (.slice 179)
noncomputable def te110:TE:=sA 5 [u0,u1,u1,u0,u0] true 72 (.struct [(0,(1,3)),(1,(1,108)),(2,(1,75)),(3,(1,3)),(4,(1,3))])
noncomputable def te113:TE:=s1 (.tuple (.mk [.agg (.mk [u1,u0,u0,u1,u1,u1]),u0])) true 0 .other
noncomputable def te117:TE:=sA 3 [u0,u0,u1] true 40 (.struct [(0,(1,3)),(1,(1,3)),(2,(1,75))])
noncomputable def te120:TE:=sA 9 [u1,u0,u0,u1,u1,u1,u1,u0,u1] true 168 (.struct [(0,(8,30)),(8,(1,51))])
noncomputable def te121:TE:=s1 (.tuple (.mk [.agg (.mk [u1,u0,u0,u1,u1,u1,u1,u0,u1]),u0])) true 0 .other
noncomputable def te124:TE:=sA 2 [u1,u0] true 32 (.struct [(0,(1,33)),(1,(1,3))])
noncomputable abbrev te125:TE:=te1
noncomputable def te126:TE:=s1 u1 true 24 (.slice 33)
noncomputable abbrev te130:TE:=te61
noncomputable abbrev te134:TE:=te1
noncomputable def te135:TE:=sA 2 [u0,u0] true 16 (.array 2 3)
noncomputable def te136:TE:=sA 2 [.nilFunc,.nilFunc] true 16 (.array 2 134)
noncomputable abbrev te137:TE:=te2
noncomputable abbrev te142:TE:=te43
noncomputable abbrev te144:TE:=te1
noncomputable abbrev te149:TE:=te1
noncomputable abbrev te153:TE:=te1
noncomputable def te159:TE:=s1 u2 true 8 (.ptr 117)
noncomputable abbrev te162:TE:=te1
noncomputable abbrev te165:TE:=te1
noncomputable def te174:TE:=sA 3 [u0,u0,u0] true 24 (.array 3 3)
noncomputable abbrev te177:TE:=te1
noncomputable def te179:TE:=sA 3 [u0,u0,u0] true 24 (.struct [(0,(1,3)),(1,(2,43))])
noncomputable def te181:TE:=s1 (.map none) true 8 (.map 174 3)
noncomputable def te183:TE:=sA 7 [u0,u1,u1,u0,u0,u0,.map none] true 88 (.struct [(0,(5,110)),(5,(1,3)),(6,(1,181))])
noncomputable def te187:TE:=s1 u1 true 24 (.slice 9)
noncomputable def te188:TE:=s1 u1 true 24 (.slice 5)
noncomputable abbrev te191:TE:=te1
noncomputable def te193:TE:=s1 u1 true 24 (.slice 124)
noncomputable abbrev te198:TE:=te1
noncomputable abbrev te200:TE:=te1
noncomputable abbrev te203:TE:=te1
noncomputable abbrev te205:TE:=te76
noncomputable abbrev te207:TE:=te1
noncomputable abbrev te213:TE:=te1
noncomputable abbrev te216:TE:=te12
noncomputable abbrev te217:TE:=te1
noncomputable abbrev te221:TE:=te1
noncomputable abbrev te224:TE:=te1
noncomputable abbrev te226:TE:=te43
noncomputable def te228:TE:=sA 1 [u4] true 16 (.struct [(0,(1,9))])
noncomputable abbrev te232:TE:=te100
noncomputable def te234:TE:=s1 (.tuple (.mk [u4,u4,u3])) true 0 .other
noncomputable def te241:TE:=s1 (.map none) true 8 (.map 3 124)
noncomputable def te242:TE:=s1 (.tuple (.mk [.agg (.mk [u1,u0]),u3])) true 0 .other
noncomputable abbrev te245:TE:=te1
noncomputable abbrev te251:TE:=te2
noncomputable abbrev te252:TE:=te76
noncomputable abbrev te256:TE:=te1
noncomputable def te258:TE:=s1 (.int .u32 (.ofNat 0)) true 4 (.int .u32)
noncomputable abbrev te260:TE:=te12
noncomputable abbrev te261:TE:=te1
noncomputable abbrev te262:TE:=te1
noncomputable abbrev te263:TE:=te1
noncomputable def te267:TE:=sA 3 [u0,u0,u0] true 24 (.array 3 137)
noncomputable def te271:TE:=s1 u2 true 8 (.ptr 43)
noncomputable abbrev te274:TE:=te12
noncomputable def te278:TE:=s1 u2 true 8 (.ptr 3)
noncomputable def te282:TE:=s1 u2 true 8 (.ptr 284)
noncomputable def te284:TE:=sA 2 [u2,u1] true 32 (.struct [(0,(1,282)),(1,(1,188))])
noncomputable abbrev te287:TE:=te20
noncomputable def te288:TE:=s1 (.tuple (.mk [u0,.nilIface])) true 0 .other
noncomputable def te296:TE:=s1 u2 true 8 (.ptr 274)
noncomputable def te298:TE:=s1 (.tuple (.mk [.int .i32 (.ofNat 0),u0])) true 0 .other
noncomputable def te303:TE:=s1 u2 true 8 (.ptr 5)
noncomputable def te306:TE:=s1 (.tuple (.mk [.int .u32 (.ofNat 0),.int .u32 (.ofNat 0)])) true 0 .other
noncomputable def te308:TE:=sA 24 (List.replicate 24 z8) true 24 (.array 24 5)
noncomputable def te310:TE:=s1 (.tuple (.mk [u1,u4])) true 0 .other
noncomputable def te312:TE:=s1 u2 true 8 .other
noncomputable def te316:TE:=sA 256 (List.replicate 256 z8) true 256 (.array 256 5)
noncomputable def te318:TE:=sA 2 [z8,z8] true 2 (.struct [(0,(1,5)),(1,(1,5))])
noncomputable def te319:TE:=sA 32 (List.replicate 32 z8) true 32 (.array 16 318)
noncomputable def te321:TE:=sA 20 (List.replicate 20 (.int .u64 (.ofNat 0))) true 160 (.array 20 260)
noncomputable def te322:TE:=sA 65 (List.replicate 65 z8) true 65 (.array 65 5)
noncomputable def te327:TE:=sA 0 [] true 0 (.array 0 16)
noncomputable def te329:TE:=sA 0 [] true 0 (.struct [(0,(0,327))])
noncomputable def tb:T TE:=(.n (.n (.n (.n (.n (.n (.n .e none (.n (l1 te319) (some te191) .e)) none (.n (.n (l1 te287) (some te159) .e) none .e)) none (.n (.n (.n (l1 te271) none .e) none (l1 te207)) none (.n (.n (l1 te303) none .e) none .e))) (some te7) (.n (.n (.n (.n (l1 te263) (some te135) .e) none (.n (l1 te327) none .e)) none .e) (some te23) (.n .e (some te55) (.n (l1 te183) none .e)))) (some te3) (.n (.n (l1 te35) none (.n .e (some te51) (.n (l1 te179) none .e))) (some te11) (.n (.n (.n (.n (l1 te267) none .e) (some te75) (l1 te203)) (some te43) .e) (some te27) (.n (l1 te91) none (.n (l1 te187) none (l1 te251)))))) (some te1) (.n (.n (.n (.n (.n .e (some te65) (.n (l1 te321) (some te193) .e)) (some te33) .e) none (.n .e none (.n (l1 te177) (some te113) (l1 te241)))) (some te9) (.n (.n (.n (l1 te137) none (.n (l1 te329) none .e)) none .e) (some te25) (.n (.n (l1 te153) (some te89) (l1 te217)) none (l1 te121)))) (some te5) (.n (.n (.n (.n (.n (l1 te261) none .e) (some te69) .e) none (.n (l1 te165) none .e)) (some te21) (.n (.n (l1 te149) none (l1 te213)) none (.n (l1 te181) (some te117) (l1 te245)))) none (.n (.n (.n .e none (l1 te205)) none .e) none (.n (.n .e (some te93) (l1 te221)) (some te61) (l1 te125)))))) (some te0) (.n (.n (.n (.n (.n (.n (.n (l1 te256) none .e) none .e) none (.n (.n (l1 te288) none .e) none (l1 te224))) (some te16) (.n (.n (l1 te144) none .e) (some te48) .e)) (some te8) (.n (.n (.n (l1 te136) none (l1 te200)) none (.n (.n (l1 te296) none .e) none (l1 te232))) (some te24) (.n (.n .e none (l1 te216)) none (.n (.n (l1 te312) none .e) (some te120) .e)))) (some te4) (.n (.n (.n (.n (.n (l1 te260) none .e) none .e) none (.n .e (some te100) (l1 te228))) (some te20) (.n .e (some te52) (.n (.n (l1 te308) none .e) none .e))) (some te12) (.n (.n (l1 te76) (some te44) (l1 te108)) (some te28) (.n (.n (.n (l1 te284) none .e) none .e) none (.n (.n (l1 te316) (some te188) .e) (some te124) (l1 te252)))))) (some te2) (.n (.n (.n (.n (.n (.n (l1 te258) (some te130) .e) none (.n (l1 te322) none .e)) (some te34) (.n (l1 te162) none (l1 te226))) none (.n (.n (.n (l1 te274) none .e) none .e) (some te50) (.n (.n (l1 te306) none .e) none (l1 te242)))) (some te10) (.n (.n .e none (.n (.n (l1 te298) none .e) none (l1 te234))) none (.n (.n (.n (l1 te282) none .e) none .e) (some te58) .e))) (some te6) (.n (.n (.n (.n (.n (l1 te262) (some te134) .e) none (l1 te198)) none .e) (some te22) (.n (.n (.n (l1 te278) none .e) none .e) none (.n (.n (l1 te310) none .e) none .e))) none (.n (.n (.n (l1 te142) none .e) none (.n (l1 te174) (some te110) .e)) (some te30) (.n .e none (.n (.n (l1 te318) none .e) (some te126) .e)))))))
open Tryz in
noncomputable def ft:T Func:=(.n (.n (.n (.n (.n (.n (.n (.n (l1 f255) (some f127) .e) (some f63) (l1 f191)) (some f31) (.n (l1 f159) none (l1 f223))) (some f15) (.n (.n (.n (l1 f271) (some f143) .e) (some f79) (l1 f207)) none (.n (l1 f175) (some f111) (l1 f239)))) none (.n (.n (.n (.n (l1 f263) (some f135) .e) (some f71) (l1 f199)) (some f39) (.n (l1 f167) (some f103) (l1 f231))) (some f23) (.n (.n (l1 f151) (some f87) (l1 f215)) (some f55) (.n (l1 f183) (some f119) (l1 f247))))) none (.n (.n (.n (.n (.n (l1 f259) (some f131) .e) (some f67) (l1 f195)) none (.n (l1 f163) (some f99) (l1 f227))) none (.n (.n (.n (l1 f275) (some f147) .e) (some f83) (l1 f211)) none (.n (l1 f179) (some f115) (l1 f243)))) none (.n (.n (.n (.n (l1 f267) (some f139) .e) none (l1 f203)) (some f43) (.n (l1 f171) none (l1 f235))) (some f27) (.n (.n (l1 f155) none (l1 f219)) (some f59) (.n (l1 f187) (some f123) (l1 f251)))))) none (.n (.n (.n (.n (.n (.n (l1 f257) (some f129) .e) (some f65) (l1 f193)) (some f33) (.n .e none (l1 f225))) (some f17) (.n (.n (.n (l1 f273) (some f145) .e) (some f81) (l1 f209)) none (.n (l1 f177) (some f113) (l1 f241)))) none (.n (.n (.n (.n (l1 f265) (some f137) .e) (some f73) (l1 f201)) none (.n (l1 f169) none (l1 f233))) (some f25) (.n (.n (l1 f153) (some f89) (l1 f217)) none (.n (l1 f185) (some f121) (l1 f249))))) none (.n (.n (.n (.n (.n (l1 f261) (some f133) .e) (some f69) (l1 f197)) (some f37) (.n .e (some f101) (l1 f229))) (some f21) (.n (.n (l1 f149) (some f85) (l1 f213)) (some f53) (.n (l1 f181) (some f117) (l1 f245)))) none (.n (.n (.n (.n (l1 f269) (some f141) .e) (some f77) (l1 f205)) none (.n (l1 f173) (some f109) (l1 f237))) none (.n (.n (l1 f157) none (l1 f221)) (some f61) (.n (l1 f189) (some f125) (l1 f253))))))) none (.n (.n (.n (.n (.n (.n (.n (l1 f256) (some f128) .e) (some f64) (l1 f192)) none (.n .e none (l1 f224))) (some f16) (.n (.n (.n (l1 f272) (some f144) .e) (some f80) (l1 f208)) none (.n (l1 f176) (some f112) (l1 f240)))) none (.n (.n (.n (.n (l1 f264) (some f136) .e) (some f72) (l1 f200)) none (.n (l1 f168) (some f104) (l1 f232))) none (.n (.n (l1 f152) (some f88) (l1 f216)) none (.n (l1 f184) (some f120) (l1 f248))))) none (.n (.n (.n (.n (.n (l1 f260) (some f132) .e) (some f68) (l1 f196)) none (.n (l1 f164) (some f100) (l1 f228))) (some f20) (.n (.n (l1 f148) (some f84) (l1 f212)) none (.n (l1 f180) (some f116) (l1 f244)))) none (.n (.n (.n (.n (l1 f268) (some f140) .e) (some f76) (l1 f204)) none (.n (l1 f172) none (l1 f236))) (some f28) (.n (.n (l1 f156) (some f92) (l1 f220)) none (.n (l1 f188) none (l1 f252)))))) none (.n (.n (.n (.n (.n (.n (l1 f258) (some f130) .e) (some f66) (l1 f194)) none (.n .e none (l1 f226))) none (.n (.n (.n (l1 f274) (some f146) .e) none (l1 f210)) none (.n (l1 f178) (some f114) (l1 f242)))) none (.n (.n (.n (.n (l1 f266) (some f138) .e) (some f74) (l1 f202)) none (.n (l1 f170) none (l1 f234))) none (.n (.n (l1 f154) none (l1 f218)) none (.n (l1 f186) (some f122) (l1 f250))))) none (.n (.n (.n (.n (.n (l1 f262) (some f134) .e) (some f70) (l1 f198)) none (.n (l1 f166) (some f102) (l1 f230))) (some f22) (.n (.n (l1 f150) (some f86) (l1 f214)) (some f54) (.n (l1 f182) (some f118) (l1 f246)))) (some f14) (.n (.n (.n (.n (l1 f270) (some f142) .e) (some f78) (l1 f206)) none (.n (l1 f174) none (l1 f238))) (some f30) (.n (.n (l1 f158) (some f94) (l1 f222)) (some f62) (.n (l1 f190) (some f126) (l1 f254))))))))
theorem qAp:Tb Tryz.prog tb:=tb_of_chk (by kernel_rfl)
theorem fa {k:Nat} {y:Func} (h:Tryz.prog.funcs[k]? =some y) (n:(y.name== "runtime.NumGoroutine")=false:=by kernel_rfl): ∀x,some y=some x->Tryz.prog.funcs[k]? =some x/\(x.name== "runtime.NumGoroutine")=false:=fun x e=>by cases e;exact ⟨h,n⟩
open Tryz in
theorem ft_all:T.All (fun k x=>Tryz.prog.funcs[k]? =some x/\(x.name== "runtime.NumGoroutine")=false) ft 0 1:=⟨nofun,⟨nofun,⟨nofun,⟨nofun,⟨fa func15,⟨fa func31,⟨fa func63,⟨fa func127,⟨fa func255,trivial,trivial⟩,trivial⟩,⟨fa func191,trivial,trivial⟩⟩,⟨nofun,⟨fa func159,trivial,trivial⟩,⟨fa func223,trivial,trivial⟩⟩⟩,⟨nofun,⟨fa func79,⟨fa func143,⟨fa func271,trivial,trivial⟩,trivial⟩,⟨fa func207,trivial,trivial⟩⟩,⟨fa func111,⟨fa func175,trivial,trivial⟩,⟨fa func239,trivial,trivial⟩⟩⟩⟩,⟨fa func23,⟨fa func39,⟨fa func71,⟨fa func135,⟨fa func263,trivial,trivial⟩,trivial⟩,⟨fa func199,trivial,trivial⟩⟩,⟨fa func103,⟨fa func167,trivial,trivial⟩,⟨fa func231,trivial,trivial⟩⟩⟩,⟨fa func55,⟨fa func87,⟨fa func151,trivial,trivial⟩,⟨fa func215,trivial,trivial⟩⟩,⟨fa func119,⟨fa func183,trivial,trivial⟩,⟨fa func247,trivial,trivial⟩⟩⟩⟩⟩,⟨nofun,⟨nofun,⟨nofun,⟨fa func67,⟨fa func131,⟨fa func259,trivial,trivial⟩,trivial⟩,⟨fa func195,trivial,trivial⟩⟩,⟨fa func99,⟨fa func163,trivial,trivial⟩,⟨fa func227,trivial,trivial⟩⟩⟩,⟨nofun,⟨fa func83,⟨fa func147,⟨fa func275,trivial,trivial⟩,trivial⟩,⟨fa func211,trivial,trivial⟩⟩,⟨fa func115,⟨fa func179,trivial,trivial⟩,⟨fa func243,trivial,trivial⟩⟩⟩⟩,⟨fa func27,⟨fa func43,⟨nofun,⟨fa func139,⟨fa func267,trivial,trivial⟩,trivial⟩,⟨fa func203,trivial,trivial⟩⟩,⟨nofun,⟨fa func171,trivial,trivial⟩,⟨fa func235,trivial,trivial⟩⟩⟩,⟨fa func59,⟨nofun,⟨fa func155,trivial,trivial⟩,⟨fa func219,trivial,trivial⟩⟩,⟨fa func123,⟨fa func187,trivial,trivial⟩,⟨fa func251,trivial,trivial⟩⟩⟩⟩⟩⟩,⟨nofun,⟨nofun,⟨fa func17,⟨fa func33,⟨fa func65,⟨fa func129,⟨fa func257,trivial,trivial⟩,trivial⟩,⟨fa func193,trivial,trivial⟩⟩,⟨nofun,trivial,⟨fa func225,trivial,trivial⟩⟩⟩,⟨nofun,⟨fa func81,⟨fa func145,⟨fa func273,trivial,trivial⟩,trivial⟩,⟨fa func209,trivial,trivial⟩⟩,⟨fa func113,⟨fa func177,trivial,trivial⟩,⟨fa func241,trivial,trivial⟩⟩⟩⟩,⟨fa func25,⟨nofun,⟨fa func73,⟨fa func137,⟨fa func265,trivial,trivial⟩,trivial⟩,⟨fa func201,trivial,trivial⟩⟩,⟨nofun,⟨fa func169,trivial,trivial⟩,⟨fa func233,trivial,trivial⟩⟩⟩,⟨nofun,⟨fa func89,⟨fa func153,trivial,trivial⟩,⟨fa func217,trivial,trivial⟩⟩,⟨fa func121,⟨fa func185,trivial,trivial⟩,⟨fa func249,trivial,trivial⟩⟩⟩⟩⟩,⟨nofun,⟨fa func21,⟨fa func37,⟨fa func69,⟨fa func133,⟨fa func261,trivial,trivial⟩,trivial⟩,⟨fa func197,trivial,trivial⟩⟩,⟨fa func101,trivial,⟨fa func229,trivial,trivial⟩⟩⟩,⟨fa func53,⟨fa func85,⟨fa func149,trivial,trivial⟩,⟨fa func213,trivial,trivial⟩⟩,⟨fa func117,⟨fa func181,trivial,trivial⟩,⟨fa func245,trivial,trivial⟩⟩⟩⟩,⟨nofun,⟨nofun,⟨fa func77,⟨fa func141,⟨fa func269,trivial,trivial⟩,trivial⟩,⟨fa func205,trivial,trivial⟩⟩,⟨fa func109,⟨fa func173,trivial,trivial⟩,⟨fa func237,trivial,trivial⟩⟩⟩,⟨fa func61,⟨nofun,⟨fa func157,trivial,trivial⟩,⟨fa func221,trivial,trivial⟩⟩,⟨fa func125,⟨fa func189,trivial,trivial⟩,⟨fa func253,trivial,trivial⟩⟩⟩⟩⟩⟩⟩,⟨nofun,⟨nofun,⟨nofun,⟨fa func16,⟨nofun,⟨fa func64,⟨fa func128,⟨fa func256,trivial,trivial⟩,trivial⟩,⟨fa func192,trivial,trivial⟩⟩,⟨nofun,trivial,⟨fa func224,trivial,trivial⟩⟩⟩,⟨nofun,⟨fa func80,⟨fa func144,⟨fa func272,trivial,trivial⟩,trivial⟩,⟨fa func208,trivial,trivial⟩⟩,⟨fa func112,⟨fa func176,trivial,trivial⟩,⟨fa func240,trivial,trivial⟩⟩⟩⟩,⟨nofun,⟨nofun,⟨fa func72,⟨fa func136,⟨fa func264,trivial,trivial⟩,trivial⟩,⟨fa func200,trivial,trivial⟩⟩,⟨fa func104,⟨fa func168,trivial,trivial⟩,⟨fa func232,trivial,trivial⟩⟩⟩,⟨nofun,⟨fa func88,⟨fa func152,trivial,trivial⟩,⟨fa func216,trivial,trivial⟩⟩,⟨fa func120,⟨fa func184,trivial,trivial⟩,⟨fa func248,trivial,trivial⟩⟩⟩⟩⟩,⟨nofun,⟨fa func20,⟨nofun,⟨fa func68,⟨fa func132,⟨fa func260,trivial,trivial⟩,trivial⟩,⟨fa func196,trivial,trivial⟩⟩,⟨fa func100,⟨fa func164,trivial,trivial⟩,⟨fa func228,trivial,trivial⟩⟩⟩,⟨nofun,⟨fa func84,⟨fa func148,trivial,trivial⟩,⟨fa func212,trivial,trivial⟩⟩,⟨fa func116,⟨fa func180,trivial,trivial⟩,⟨fa func244,trivial,trivial⟩⟩⟩⟩,⟨fa func28,⟨nofun,⟨fa func76,⟨fa func140,⟨fa func268,trivial,trivial⟩,trivial⟩,⟨fa func204,trivial,trivial⟩⟩,⟨nofun,⟨fa func172,trivial,trivial⟩,⟨fa func236,trivial,trivial⟩⟩⟩,⟨nofun,⟨fa func92,⟨fa func156,trivial,trivial⟩,⟨fa func220,trivial,trivial⟩⟩,⟨nofun,⟨fa func188,trivial,trivial⟩,⟨fa func252,trivial,trivial⟩⟩⟩⟩⟩⟩,⟨nofun,⟨nofun,⟨nofun,⟨nofun,⟨fa func66,⟨fa func130,⟨fa func258,trivial,trivial⟩,trivial⟩,⟨fa func194,trivial,trivial⟩⟩,⟨nofun,trivial,⟨fa func226,trivial,trivial⟩⟩⟩,⟨nofun,⟨nofun,⟨fa func146,⟨fa func274,trivial,trivial⟩,trivial⟩,⟨fa func210,trivial,trivial⟩⟩,⟨fa func114,⟨fa func178,trivial,trivial⟩,⟨fa func242,trivial,trivial⟩⟩⟩⟩,⟨nofun,⟨nofun,⟨fa func74,⟨fa func138,⟨fa func266,trivial,trivial⟩,trivial⟩,⟨fa func202,trivial,trivial⟩⟩,⟨nofun,⟨fa func170,trivial,trivial⟩,⟨fa func234,trivial,trivial⟩⟩⟩,⟨nofun,⟨nofun,⟨fa func154,trivial,trivial⟩,⟨fa func218,trivial,trivial⟩⟩,⟨fa func122,⟨fa func186,trivial,trivial⟩,⟨fa func250,trivial,trivial⟩⟩⟩⟩⟩,⟨fa func14,⟨fa func22,⟨nofun,⟨fa func70,⟨fa func134,⟨fa func262,trivial,trivial⟩,trivial⟩,⟨fa func198,trivial,trivial⟩⟩,⟨fa func102,⟨fa func166,trivial,trivial⟩,⟨fa func230,trivial,trivial⟩⟩⟩,⟨fa func54,⟨fa func86,⟨fa func150,trivial,trivial⟩,⟨fa func214,trivial,trivial⟩⟩,⟨fa func118,⟨fa func182,trivial,trivial⟩,⟨fa func246,trivial,trivial⟩⟩⟩⟩,⟨fa func30,⟨nofun,⟨fa func78,⟨fa func142,⟨fa func270,trivial,trivial⟩,trivial⟩,⟨fa func206,trivial,trivial⟩⟩,⟨nofun,⟨fa func174,trivial,trivial⟩,⟨fa func238,trivial,trivial⟩⟩⟩,⟨fa func62,⟨fa func94,⟨fa func158,trivial,trivial⟩,⟨fa func222,trivial,trivial⟩⟩,⟨fa func126,⟨fa func190,trivial,trivial⟩,⟨fa func254,trivial,trivial⟩⟩⟩⟩⟩⟩⟩⟩
theorem mixed:Tryz.prog.follows .mixedOrders=true:=by kernel_rfl
noncomputable def SE (xt:Xt):Env:={P:=Tryz.prog,tb:=tb,xt:=xt,ft:=ft,nat:=fun _ _ _ _=>none,drw:=fun _ _ _ _ _=>none}
theorem SE_P (xt:Xt):(SE xt).P=Tryz.prog:=rfl
theorem SE_tb (xt:Xt):(SE xt).tb=tb:=rfl
theorem SE_xt (xt:Xt):(SE xt).xt=xt:=rfl
theorem sok (xt:Xt):SyOk (SE xt):=⟨fun f fn h=>T.All.of ft_all f fn h,qAp,mixed⟩
theorem cAS {xt:Xt} {h:Hp} {f:FuncId} {args:List AV} {K:KP} (hc:FnA (SE xt) f args h K):CallA (SE xt) (.val (.func (.func f) #[] #[])) args h K:=qGM (sok xt) hc
theorem tg3:tb.get 3=some te3:=by kernel_rfl
theorem tg4:tb.get 4=some te4:=by kernel_rfl
theorem tg22:tb.get 22=some te22:=by kernel_rfl
theorem tg23:tb.get 23=some te23:=by kernel_rfl
theorem tg24:tb.get 24=some te24:=by kernel_rfl
theorem tg25:tb.get 25=some te25:=by kernel_rfl
theorem qAn:tb.get 28=some te28:=by kernel_rfl
theorem tg33:tb.get 33=some te33:=by kernel_rfl
theorem tg34:tb.get 34=some te34:=by kernel_rfl
theorem tg51:tb.get 51=some te51:=by kernel_rfl
theorem tg55:tb.get 55=some te55:=by kernel_rfl
theorem qA8:tb.get 58=some te58:=by kernel_rfl
theorem tg69:tb.get 69=some te69:=by kernel_rfl
theorem yG:tb.get 75=some te75:=by kernel_rfl
theorem qCk:tb.get 137=some te137:=by kernel_rfl
theorem tg27:tb.get 27=some te27:=by kernel_rfl
theorem tg30:tb.get 30=some te30:=by kernel_rfl
theorem tg43:tb.get 43=some te43:=by kernel_rfl
theorem qA9:tb.get 48=some te48:=by kernel_rfl
theorem qBW:tb.get 50=some te50:=by kernel_rfl
theorem qA7:tb.get 61=some te61:=by kernel_rfl
theorem yF:tb.get 130=some te130:=by kernel_rfl
theorem tg121:tb.get 120=some te120:=by kernel_rfl
theorem qAo:tb.get 142=some te142:=by kernel_rfl
theorem tg225:tb.get 226=some te226:=by kernel_rfl
theorem ld3 (xt:Xt) (h:Hp) (b off:Nat):qN tb xt h 3 (.ptr b off)=jZ (h.t.get b) off:=kN tg3 rfl
theorem st3 (h:Hp) (b off:Nat) (v:AV):jH tb h 3 (.ptr b off) v=qX 1 h b off v (h.t.get b):=zG tg3 rfl
theorem ld4 (xt:Xt) (h:Hp) (b off:Nat):qN tb xt h 4 (.ptr b off)=jZ (h.t.get b) off:=kN tg4 rfl
theorem st4 (h:Hp) (b off:Nat) (v:AV):jH tb h 4 (.ptr b off) v=qX 1 h b off v (h.t.get b):=zG tg4 rfl
theorem ld22 (xt:Xt) (h:Hp) (b off:Nat):qN tb xt h 22 (.ptr b off)=jZ (h.t.get b) off:=kN tg22 rfl
theorem st22 (h:Hp) (b off:Nat) (v:AV):jH tb h 22 (.ptr b off) v=qX 1 h b off v (h.t.get b):=zG tg22 rfl
theorem ld23 (xt:Xt) (h:Hp) (b off:Nat):qN tb xt h 23 (.ptr b off)=jZ (h.t.get b) off:=kN tg23 rfl
theorem st23 (h:Hp) (b off:Nat) (v:AV):jH tb h 23 (.ptr b off) v=qX 1 h b off v (h.t.get b):=zG tg23 rfl
theorem ld24 (xt:Xt) (h:Hp) (b off:Nat):qN tb xt h 24 (.ptr b off)=jZ (h.t.get b) off:=kN tg24 rfl
theorem st24 (h:Hp) (b off:Nat) (v:AV):jH tb h 24 (.ptr b off) v=qX 1 h b off v (h.t.get b):=zG tg24 rfl
theorem ld25 (xt:Xt) (h:Hp) (b off:Nat):qN tb xt h 25 (.ptr b off)=jZ (h.t.get b) off:=kN tg25 rfl
theorem st25 (h:Hp) (b off:Nat) (v:AV):jH tb h 25 (.ptr b off) v=qX 1 h b off v (h.t.get b):=zG tg25 rfl
theorem ld28 (xt:Xt) (h:Hp) (b off:Nat):qN tb xt h 28 (.ptr b off)=jZ (h.t.get b) off:=kN qAn rfl
theorem st28 (h:Hp) (b off:Nat) (v:AV):jH tb h 28 (.ptr b off) v=qX 1 h b off v (h.t.get b):=zG qAn rfl
theorem ld33 (xt:Xt) (h:Hp) (b off:Nat):qN tb xt h 33 (.ptr b off)=jZ (h.t.get b) off:=kN tg33 rfl
theorem st33 (h:Hp) (b off:Nat) (v:AV):jH tb h 33 (.ptr b off) v=qX 1 h b off v (h.t.get b):=zG tg33 rfl
theorem ld34 (xt:Xt) (h:Hp) (b off:Nat):qN tb xt h 34 (.ptr b off)=jZ (h.t.get b) off:=kN tg34 rfl
theorem st34 (h:Hp) (b off:Nat) (v:AV):jH tb h 34 (.ptr b off) v=qX 1 h b off v (h.t.get b):=zG tg34 rfl
theorem ld51 (xt:Xt) (h:Hp) (b off:Nat):qN tb xt h 51 (.ptr b off)=jZ (h.t.get b) off:=kN tg51 rfl
theorem st51 (h:Hp) (b off:Nat) (v:AV):jH tb h 51 (.ptr b off) v=qX 1 h b off v (h.t.get b):=zG tg51 rfl
theorem ld55 (xt:Xt) (h:Hp) (b off:Nat):qN tb xt h 55 (.ptr b off)=jZ (h.t.get b) off:=kN tg55 rfl
theorem st55 (h:Hp) (b off:Nat) (v:AV):jH tb h 55 (.ptr b off) v=qX 1 h b off v (h.t.get b):=zG tg55 rfl
theorem ld58 (xt:Xt) (h:Hp) (b off:Nat):qN tb xt h 58 (.ptr b off)=jZ (h.t.get b) off:=kN qA8 rfl
theorem st58 (h:Hp) (b off:Nat) (v:AV):jH tb h 58 (.ptr b off) v=qX 1 h b off v (h.t.get b):=zG qA8 rfl
theorem ld69 (xt:Xt) (h:Hp) (b off:Nat):qN tb xt h 69 (.ptr b off)=jZ (h.t.get b) off:=kN tg69 rfl
theorem st69 (h:Hp) (b off:Nat) (v:AV):jH tb h 69 (.ptr b off) v=qX 1 h b off v (h.t.get b):=zG tg69 rfl
theorem ld75 (xt:Xt) (h:Hp) (b off:Nat):qN tb xt h 75 (.ptr b off)=jZ (h.t.get b) off:=kN yG rfl
theorem st75 (h:Hp) (b off:Nat) (v:AV):jH tb h 75 (.ptr b off) v=qX 1 h b off v (h.t.get b):=zG yG rfl
theorem ld136 (xt:Xt) (h:Hp) (b off:Nat):qN tb xt h 137 (.ptr b off)=jZ (h.t.get b) off:=kN qCk rfl
theorem st136 (h:Hp) (b off:Nat) (v:AV):jH tb h 137 (.ptr b off) v=qX 1 h b off v (h.t.get b):=zG qCk rfl
theorem ld27 (xt:Xt) (h:Hp) (b off:Nat):qN tb xt h 27 (.ptr b off)=zI 6 (h.t.get b) off:=yN tg27 rfl rfl
theorem st27 (h:Hp) (b off:Nat) (v:AV):jH tb h 27 (.ptr b off) v=qX 6 h b off v (h.t.get b):=zG tg27 rfl
theorem fa27_0 (b off:Nat):qI tb 27 (.ptr b off) 0=some (.ptr b (off+0)):=j6 tg27 rfl rfl
theorem fa27_1 (b off:Nat):qI tb 27 (.ptr b off) 1=some (.ptr b (off+1)):=j6 tg27 rfl rfl
theorem fa27_2 (b off:Nat):qI tb 27 (.ptr b off) 2=some (.ptr b (off+2)):=j6 tg27 rfl rfl
theorem fa27_3 (b off:Nat):qI tb 27 (.ptr b off) 3=some (.ptr b (off+3)):=j6 tg27 rfl rfl
theorem fa27_4 (b off:Nat):qI tb 27 (.ptr b off) 4=some (.ptr b (off+4)):=j6 tg27 rfl rfl
theorem fa27_5 (b off:Nat):qI tb 27 (.ptr b off) 5=some (.ptr b (off+5)):=j6 tg27 rfl rfl
theorem ld30 (xt:Xt) (h:Hp) (b off:Nat):qN tb xt h 30 (.ptr b off)=zI 8 (h.t.get b) off:=yN tg30 rfl rfl
theorem st30 (h:Hp) (b off:Nat) (v:AV):jH tb h 30 (.ptr b off) v=qX 8 h b off v (h.t.get b):=zG tg30 rfl
theorem fa30_0 (b off:Nat):qI tb 30 (.ptr b off) 0=some (.ptr b (off+0)):=j6 tg30 rfl rfl
theorem fa30_1 (b off:Nat):qI tb 30 (.ptr b off) 1=some (.ptr b (off+6)):=j6 tg30 rfl rfl
theorem fa30_2 (b off:Nat):qI tb 30 (.ptr b off) 2=some (.ptr b (off+7)):=j6 tg30 rfl rfl
theorem ld43 (xt:Xt) (h:Hp) (b off:Nat):qN tb xt h 43 (.ptr b off)=zI 2 (h.t.get b) off:=yN tg43 rfl rfl
theorem st43 (h:Hp) (b off:Nat) (v:AV):jH tb h 43 (.ptr b off) v=qX 2 h b off v (h.t.get b):=zG tg43 rfl
theorem fa43_0 (b off:Nat):qI tb 43 (.ptr b off) 0=some (.ptr b (off+0)):=j6 tg43 rfl rfl
theorem fa43_1 (b off:Nat):qI tb 43 (.ptr b off) 1=some (.ptr b (off+1)):=j6 tg43 rfl rfl
theorem ld48 (xt:Xt) (h:Hp) (b off:Nat):qN tb xt h 48 (.ptr b off)=zI 4 (h.t.get b) off:=yN qA9 rfl rfl
theorem st48 (h:Hp) (b off:Nat) (v:AV):jH tb h 48 (.ptr b off) v=qX 4 h b off v (h.t.get b):=zG qA9 rfl
theorem fa48_0 (b off:Nat):qI tb 48 (.ptr b off) 0=some (.ptr b (off+0)):=j6 qA9 rfl rfl
theorem fa48_1 (b off:Nat):qI tb 48 (.ptr b off) 1=some (.ptr b (off+1)):=j6 qA9 rfl rfl
theorem fa48_2 (b off:Nat):qI tb 48 (.ptr b off) 2=some (.ptr b (off+2)):=j6 qA9 rfl rfl
theorem fa48_3 (b off:Nat):qI tb 48 (.ptr b off) 3=some (.ptr b (off+3)):=j6 qA9 rfl rfl
theorem ld50 (xt:Xt) (h:Hp) (b off:Nat):qN tb xt h 50 (.ptr b off)=zI 3 (h.t.get b) off:=yN qBW rfl rfl
theorem st50 (h:Hp) (b off:Nat) (v:AV):jH tb h 50 (.ptr b off) v=qX 3 h b off v (h.t.get b):=zG qBW rfl
theorem fa50_0 (b off:Nat):qI tb 50 (.ptr b off) 0=some (.ptr b (off+0)):=j6 qBW rfl rfl
theorem fa50_1 (b off:Nat):qI tb 50 (.ptr b off) 1=some (.ptr b (off+1)):=j6 qBW rfl rfl
theorem fa50_2 (b off:Nat):qI tb 50 (.ptr b off) 2=some (.ptr b (off+2)):=j6 qBW rfl rfl
theorem ld61 (xt:Xt) (h:Hp) (b off:Nat):qN tb xt h 61 (.ptr b off)=zI 3 (h.t.get b) off:=yN qA7 rfl rfl
theorem st61 (h:Hp) (b off:Nat) (v:AV):jH tb h 61 (.ptr b off) v=qX 3 h b off v (h.t.get b):=zG qA7 rfl
theorem fa61_0 (b off:Nat):qI tb 61 (.ptr b off) 0=some (.ptr b (off+0)):=j6 qA7 rfl rfl
theorem fa61_1 (b off:Nat):qI tb 61 (.ptr b off) 1=some (.ptr b (off+1)):=j6 qA7 rfl rfl
theorem fa61_2 (b off:Nat):qI tb 61 (.ptr b off) 2=some (.ptr b (off+2)):=j6 qA7 rfl rfl
theorem ld90 (xt:Xt) (h:Hp) (b off:Nat):qN tb xt h 130 (.ptr b off)=zI 3 (h.t.get b) off:=yN yF rfl rfl
theorem st90 (h:Hp) (b off:Nat) (v:AV):jH tb h 130 (.ptr b off) v=qX 3 h b off v (h.t.get b):=zG yF rfl
theorem fa90_0 (b off:Nat):qI tb 130 (.ptr b off) 0=some (.ptr b (off+0)):=j6 yF rfl rfl
theorem fa90_1 (b off:Nat):qI tb 130 (.ptr b off) 1=some (.ptr b (off+1)):=j6 yF rfl rfl
theorem fa90_2 (b off:Nat):qI tb 130 (.ptr b off) 2=some (.ptr b (off+2)):=j6 yF rfl rfl
theorem ld121 (xt:Xt) (h:Hp) (b off:Nat):qN tb xt h 120 (.ptr b off)=zI 9 (h.t.get b) off:=yN tg121 rfl rfl
theorem st121 (h:Hp) (b off:Nat) (v:AV):jH tb h 120 (.ptr b off) v=qX 9 h b off v (h.t.get b):=zG tg121 rfl
theorem fa121_0 (b off:Nat):qI tb 120 (.ptr b off) 0=some (.ptr b (off+0)):=j6 tg121 rfl rfl
theorem fa121_1 (b off:Nat):qI tb 120 (.ptr b off) 1=some (.ptr b (off+8)):=j6 tg121 rfl rfl
theorem ld141 (xt:Xt) (h:Hp) (b off:Nat):qN tb xt h 142 (.ptr b off)=zI 2 (h.t.get b) off:=yN qAo rfl rfl
theorem st141 (h:Hp) (b off:Nat) (v:AV):jH tb h 142 (.ptr b off) v=qX 2 h b off v (h.t.get b):=zG qAo rfl
theorem fa141_0 (b off:Nat):qI tb 142 (.ptr b off) 0=some (.ptr b (off+0)):=j6 qAo rfl rfl
theorem fa141_1 (b off:Nat):qI tb 142 (.ptr b off) 1=some (.ptr b (off+1)):=j6 qAo rfl rfl
theorem ld225 (xt:Xt) (h:Hp) (b off:Nat):qN tb xt h 226 (.ptr b off)=zI 2 (h.t.get b) off:=yN tg225 rfl rfl
theorem st225 (h:Hp) (b off:Nat) (v:AV):jH tb h 226 (.ptr b off) v=qX 2 h b off v (h.t.get b):=zG tg225 rfl
theorem fa225_0 (b off:Nat):qI tb 226 (.ptr b off) 0=some (.ptr b (off+0)):=j6 tg225 rfl rfl
theorem fa225_1 (b off:Nat):qI tb 226 (.ptr b off) 1=some (.ptr b (off+1)):=j6 tg225 rfl rfl
theorem al3 (h:Hp):jP tb h 3=some (.ptr h.n 0,h.new (.cells (([(.int .i64 0)]:List Value).map .val) 3)):=vU tg3 rfl
theorem al4 (h:Hp):jP tb h 4=some (.ptr h.n 0,h.new (.cells (([(.bool false)]:List Value).map .val) 4)):=vU tg4 rfl
theorem al34 (h:Hp):jP tb h 34=some (.ptr h.n 0,h.new (.cells (([(.int .i64 0)]:List Value).map .val) 34)):=vU tg34 rfl
theorem al43 (h:Hp):jP tb h 43=some (.ptr h.n 0,h.new (.cells (([(.int .i64 0),(.int .i64 0)]:List Value).map .val) 43)):=vU tg43 rfl
theorem al121 (h:Hp):jP tb h 120=some (.ptr h.n 0,h.new (.cells (([(.slice none 0 0),(.int .i64 0),(.int .i64 0),(.slice none 0 0),(.slice none 0 0),(.slice none 0 0),(.slice none 0 0),(.int .i64 0),(.slice none 0 0)]:List Value).map .val) 120)):=vU tg121 rfl
theorem al30 (h:Hp):jP tb h 30=some (.ptr h.n 0,h.new (.cells (([(.slice none 0 0),(.int .i64 0),(.int .i64 0),(.slice none 0 0),(.slice none 0 0),(.slice none 0 0),(.slice none 0 0),(.int .i64 0)]:List Value).map .val) 30)):=vU tg30 rfl
theorem al55 (h:Hp):jP tb h 55=some (.ptr h.n 0,h.new (.cells (([(.slice none 0 0)]:List Value).map .val) 55)):=vU tg55 rfl
theorem al51 (h:Hp):jP tb h 51=some (.ptr h.n 0,h.new (.cells (([(.slice none 0 0)]:List Value).map .val) 51)):=vU tg51 rfl
theorem al58 (h:Hp):jP tb h 58=some (.ptr h.n 0,h.new (.cells (([(.slice none 0 0)]:List Value).map .val) 58)):=vU qA8 rfl
noncomputable def sy:=PLift.up (xZZ @WO_nil (
 xZZ @WO_cons (
 xZZ @gate_t (
 xZZ @gate_fs (
 xZZ @gate_fn (
 xZZ @WOn_some (
 xZZ @WOn_none (
 xZZ @WOn_pan (
 xZZ @qEI (
 xZZ @qEZ (
 xZZ @qEH (
 xZZ @qEY (
 xZZ @gdst_some (
 xZZ @wntd_some (
 xZZ @wnt_t (
 xZZ @wnt_f (
 xZZ @WOp_move (
 xZZ @qGT (
 xZZ @WOp_bin (
 xZZ @WOp_un (
 xZZ @WOp_pick (
 xZZ @WOp_box (
 xZZ @WOp_load (
 xZZ @WOp_store (
 xZZ @qDz (
 xZZ @WOp_field (
 xZZ @qDy (
 xZZ @WOp_index (
 xZZ @qGi (
 xZZ @qGj (
 xZZ @WOp_call (
 xZZ @WOp_func (
 xZZ @WOp_build (
 xZZ @qE8 (
 xZZ @optK_some (
 xZZ @xO (
 xZZ @optH_some (
 xZZ @resK_ret (
 xZZ @resK_pan (
 xZZ @aoPick_b (
 xZZ @abin_lss (
 xZZ @abin_leq (
 xZZ @abin_gtr (
 xZZ @abin_geq (
 xZZ @abin_eql (
 xZZ @abin_neq (
 xZZ @abin_add (
 xZZ @abin_sub (
 xZZ @abin_mul (
 xZZ @aun_not (
 xZZ @aeval_tmp (
 xZZ @qGf (
 xZZ @qGO (
 xZZ @xZY (
 xZZ @Option.getD_some.{0} (
 xZZ @decide_true (
 xZZ @decide_false (
 xZZ @true_and (
 xZZ @and_true (
 xZZ @List.toList_toArray.{0} (
 xZZ @List.map_cons.{0,0} (
 xZZ @List.map_nil.{0,0} (
 xZZ @List.getElem?_toArray.{0} (
 xZZ @List.getElem?_cons_succ.{0} (
 xZZ @List.getElem?_cons_zero.{0} (
 xZZ @xZW.{0,0} (
 xZZ @xZG.{0,0} (
 xZZ @cond_true.{1} (
 xZZ @cond_false.{1} (
 xZZ @xYY (
 xZZ @xZD (
 xZZ @SE_P (
 xZZ @SE_tb (
 xZZ @SE_xt (
 xZZ @Hp.up_t (
 xZZ @xZI (
 xZZ @Nat.add_zero (
 xZZ @Nat.zero_add (
 xZZ @WOp_alloc (
 xZZ @Hp.new_t (
 xZZ @Hp.new_n (
 xZZ @xZH (
 xZZ @Hp.set_n (
 xZZ @qEV (
 xZZ @qAV (
 xZZ @uL (
 xZZ @qF1 (
 xZZ @qEU (
 xZZ @qET (
 xZZ @qF0 (
 xZZ @qGK (
 xZZ @qFZ (
 xZZ @qGL (
 xZZ @qFY (
 xZZ @qAy (
 xZZ @one_bool (
 xZZ @one_slv (
 xZZ @one_sl (
 xZZ @one_ptr (
 xZZ @one_fn (
 xZZ @one_yld (
 xZZ @qE6 (
 xZZ @qE7 (
 xZZ @List.length_cons.{0} (
 xZZ @List.length_nil.{0} (
 xZZ @List.drop_zero.{0} (
 xZZ @List.drop_succ_cons.{0} (
 xZZ @List.drop_nil.{0} (
 xZZ @List.take_zero.{0} (
 xZZ @List.take_succ_cons.{0} (
 xZZ @List.take_nil.{0} (
 xZZ @xYG.{0} (
 xZZ @List.nil_append.{0} (
 xZZ @List.append_nil.{0} (
 xZZ @List.all_cons.{0} (
 xZZ @List.all_nil.{0} (
 xZZ @Bool.and_self (
 xZZ @and_self (
 xZZ @xZX (
 xZZ @WOC_nil (
 xZZ @WOC_cons (
 xZZ @gateC_t (
 xZZ @gateC_fs (
 xZZ @WOCn_f (
 xZZ @qFH (
 xZZ @qCK (
 xZZ @qFF (
 xZZ @qDr (
 xZZ @qFE (
 xZZ @qFG (
 xZZ @qGD (
 xZZ @isCall_un (
 xZZ @isCall_fa (
 xZZ @isCall_f (
 xZZ @isCall_ia (
 xZZ @isCall_i (
 xZZ @qEF (
 xZZ @isCall_ex (
 xZZ @isCall_mf (
 xZZ @ld3 (
 xZZ @st3 (
 xZZ @ld4 (
 xZZ @st4 (
 xZZ @ld22 (
 xZZ @st22 (
 xZZ @ld23 (
 xZZ @st23 (
 xZZ @ld24 (
 xZZ @st24 (
 xZZ @ld25 (
 xZZ @st25 (
 xZZ @ld28 (
 xZZ @st28 (
 xZZ @ld33 (
 xZZ @st33 (
 xZZ @ld34 (
 xZZ @st34 (
 xZZ @ld51 (
 xZZ @st51 (
 xZZ @ld55 (
 xZZ @st55 (
 xZZ @ld58 (
 xZZ @st58 (
 xZZ @ld69 (
 xZZ @st69 (
 xZZ @ld75 (
 xZZ @st75 (
 xZZ @ld136 (
 xZZ @st136 (
 xZZ @ld27 (
 xZZ @st27 (
 xZZ @fa27_0 (
 xZZ @fa27_1 (
 xZZ @fa27_2 (
 xZZ @fa27_3 (
 xZZ @fa27_4 (
 xZZ @fa27_5 (
 xZZ @ld30 (
 xZZ @st30 (
 xZZ @fa30_0 (
 xZZ @fa30_1 (
 xZZ @fa30_2 (
 xZZ @ld43 (
 xZZ @st43 (
 xZZ @fa43_0 (
 xZZ @fa43_1 (
 xZZ @ld48 (
 xZZ @st48 (
 xZZ @fa48_0 (
 xZZ @fa48_1 (
 xZZ @fa48_2 (
 xZZ @fa48_3 (
 xZZ @ld50 (
 xZZ @st50 (
 xZZ @fa50_0 (
 xZZ @fa50_1 (
 xZZ @fa50_2 (
 xZZ @ld61 (
 xZZ @st61 (
 xZZ @fa61_0 (
 xZZ @fa61_1 (
 xZZ @fa61_2 (
 xZZ @ld90 (
 xZZ @st90 (
 xZZ @fa90_0 (
 xZZ @fa90_1 (
 xZZ @fa90_2 (
 xZZ @ld121 (
 xZZ @st121 (
 xZZ @fa121_0 (
 xZZ @fa121_1 (
 xZZ @ld141 (
 xZZ @st141 (
 xZZ @fa141_0 (
 xZZ @fa141_1 (
 xZZ @ld225 (
 xZZ @st225 (
 xZZ @fa225_0 (
 xZZ @fa225_1 (
 xZZ @al3 (
 xZZ @al4 (
 xZZ @al34 (
 xZZ @al43 (
 xZZ @al121 (
 xZZ @al30 (
 xZZ @al55 (
 xZZ @al51 @al58)))))))))))))))))))))))))))))))))))))))))))))))))))))))))))))))))))))))))))))))))))))))))))))))))))))))))))))))))))))))))))))))))))))))))))))))))))))))))))))))))))))))))))))))))))))))))))))))))))))))))))))))))))))))))))))))))))
noncomputable def sw:=PLift.up (xZZ sy.1 (xZZ @argsTo.eq_1 (xZZ @argsTo.eq_2 @yD)))
abbrev iv (n:Int):AV:= .val (.int .i64 n)
theorem ft117 (xt:Xt):(SE xt).ft.get 117=some Tryz.f117:=by kernel_rfl
theorem res117:Tryz.f117.results.toList=[.tmp 6]:=by kernel_rfl
theorem in_ok (xt:Xt) (h:Hp) (x lo hi:Int):FnA (SE xt) 117 [.val (.int .i64 x),.val (.int .i64 lo),.val (.int .i64 hi)] h (fun r h'=>r= .ret (.val (.bool (decide (lo<=x) && decide (x<=hi))))/\Fr h.n h h'):=by
 refine xZP (sok xt) (ft117 xt) rfl 15 rfl ?_;refine qA fun K hn hp=> ?_;simp only [sw.1,rL,rA];apply hn;cases hx:decide (lo<=x)
 ·refine qA fun K hn hp=> ?_;simp only [sy.1,rE,reduceIte,rL,hx];apply hn;refine qC (qH res117 ⟨?_,xZT (xZX _)⟩);simp [xZY]
 ·refine qA fun K hn hp=> ?_;simp only [sy.1,rE,reduceIte,rL,hx];apply hn;refine qC (qH res117 ⟨?_,xZT (xZX _)⟩);simp [xZY]
theorem wU (xt:Xt) (h:Hp) (x lo hi:Int) {K:KP} (hk: ∀n,h.n<n->K (.ret (.val (.bool (decide (lo<=x) && decide (x<=hi))))) (h.up n)):
  FnA (SE xt) 117 [.val (.int .i64 x),.val (.int .i64 lo),.val (.int .i64 hi)] h K:=xZN (in_ok xt h x lo hi) hk
theorem ft76 (xt:Xt):(SE xt).ft.get 76=some Tryz.f76:=by kernel_rfl
theorem res76:Tryz.f76.results.toList=[.tmp 6]:=by kernel_rfl
theorem rin_ok (xt:Xt) (h:Hp) (x lo hi:Int):FnA (SE xt) 76 [.val (.int .i64 x),.val (.int .i64 lo),.val (.int .i64 hi)] h (fun r h'=>r= .ret (.val (.bool (decide (lo<=x) && decide (x<=hi))))/\Fr h.n h h'):=by
 refine xZP (sok xt) (ft76 xt) rfl 15 rfl ?_;refine qA fun K hn hp=> ?_;simp only [sw.1,rL,rA];apply hn;cases hx:decide (lo<=x)
 ·refine qA fun K hn hp=> ?_;simp only [sy.1,rE,reduceIte,rL,hx];apply hn;refine qC (qH res76 ⟨?_,xZT (xZX _)⟩);simp [xZY]
 ·refine qA fun K hn hp=> ?_;simp only [sy.1,rE,reduceIte,rL,hx];apply hn;refine qC (qH res76 ⟨?_,xZT (xZX _)⟩);simp [xZY]
theorem kZ (xt:Xt) (h:Hp) (x lo hi:Int) {K:KP} (hk: ∀n,h.n<n->K (.ret (.val (.bool (decide (lo<=x) && decide (x<=hi))))) (h.up n)):
  FnA (SE xt) 76 [.val (.int .i64 x),.val (.int .i64 lo),.val (.int .i64 hi)] h K:=xZN (rin_ok xt h x lo hi) hk
def kD (E:Env) (h0:Hp) (fv:AV) (el:List Value->AV) (cs:List (List Value)) (p:List Value->Bool):Prop:=
 ∀(n:Nat) (c:List Value) (K:KP),h0.n<=n->c∈cs->(∀n',n<n'->K (.ret (.val (.bool (p c)))) (h0.up n'))->CallA E fv [el c] (h0.up n) K
theorem ft196 (xt:Xt):(SE xt).ft.get 196=some Tryz.f196:=by kernel_rfl
theorem res196:Tryz.f196.results.toList=[.tmp 4]:=by kernel_rfl
theorem idx196_ok (xt:Xt) (h:Hp) (v fv:AV) (cs:List (List Value)) (p:List Value->Bool) (hv:RowAt xt h 1 v cs) (hl:cs.length<=9223372036854775807) (hf:kD (SE xt) h fv (fun c=> .val (c.headD default)) cs p):
  FnA (SE xt) 196 [v,fv] h (fun r h'=>r= .ret (iv (kY p cs 0))/\Fr h.n h h'):=by
 refine xZP (sok xt) (ft196 xt) rfl 19 rfl ?_;have hlen:=fun h'=>hv.len (h':=h') qA8 rfl;refine qA fun K hn hp=> ?_;simp only [sw.1,rL];apply hn;clear hn hp K;refine qB fun K hn hp=> ?_;simp only [sy.1,rE,reduceIte,rL,hlen];apply hn;clear hn hp K;refine qD fun K k1 k2 k3 k4 k5=> ?_;refine qM (sok xt) (fun st=> ∃(k n:Nat) (tm:T AV),st=⟨tm,19,h.up n,[]⟩/\h.n<=n/\k<=cs.length/\tm.get 0=some v/\tm.get 1=some fv/\tm.get 7=some (iv cs.length)/\tm.get 8=some (iv k)/\kY p cs 0=kY p (cs.drop k) k)
  (fun st=>cs.length - (match st.tm.get 8 with|some (.val (.int _ n))=>n.toNat|_=>0)) ?_ ?_
 ·rintro st ⟨k,n,tm,rfl,hn1,hk,g0,g1,g7,g8,hfi⟩;refine qA fun K hn hp=> ?_;simp only [sy.1,rL,g7,g8];apply hn;clear hn hp K;have ht:(decide ((k:Int)<(cs.length:Int)))=decide (k<cs.length):=by simp
  by_cases hlt:k<cs.length
  ·obtain ⟨c,hc⟩: ∃c,cs[k]? =some c:=⟨_,xZV hlt⟩;have hidx:=hv.idx qA8 rfl qCk rfl hlt (k:= .i64);have hld:qN tb xt (h.up n) 137 (elp v (k*1))=some (.val (c.headD default)):=by
    have hcl:c.length=1:=hv.1 c (xZU hc);obtain ⟨u,rfl⟩: ∃u,c=[u]:=by cases c with
     |nil=>simp at hcl
     |cons u l=>cases l with
      |nil=>exact ⟨u,rfl⟩
      |cons _ _=>simp at hcl
    exact (hv.up hn1).load0 qCk rfl hc rfl
   refine jC (by simp only [sy.1,reduceIte,ht,hlt]) ?_;refine qD fun K' k1' k2' k3' k4' k5'=> ?_;refine qA fun K hn hp=> ?_;simp only [sy.1,rE,reduceIte,rL,g8];apply hn;clear hn hp K;refine qA fun K hn hp=> ?_;simp only [sy.1,rE,reduceIte,rL,g0,g1,hidx,hld];refine hf n c _ hn1 (xZU hc) fun n1 hn1'=> ?_;have hn1':=xZR hn1';simp only [sy.1,rL];apply hn;clear hn hp;rw [wF p hc] at hfi;cases hp:p c with
   |true=>
    refine wcT (by simp only [sy.1,rE,reduceIte]) ?_;refine qA fun K hn hp=> ?_;simp only [sy.1,rE,reduceIte,rL];apply hn;clear hn hp K;refine qC (k4' _ (k4 _ (qH res196 ⟨?_,(xZT (xZX _)).up (xZO hn1 hn1')⟩)));simp [xZY,hfi,hp]
   |false=>
    refine wcF (by simp only [sy.1,rE,reduceIte]) ?_;refine qR (k1' _ ?_);refine reg fun K hn hp'=> ?_;have hw:IntKind.i64.wrap ((k:Int)+1)=((k+1:Nat):Int):=by rw [qG _ (by omega) (by omega)];simp
    simp only [sy.1,rE,reduceIte,rL,g8,hw];apply hn;refine ⟨⟨k+1,n1,_,rfl,xZO hn1 hn1',hlt,?_,?_,?_,?_,?_⟩,?_⟩
    ·simp [xZY,g0]
    ·simp [xZY,g1]
    ·simp [xZY,g7]
    ·simp [xZY]
    ·rw [hfi,hp];simp
    ·have hm:cs.length - (k+1)<cs.length - k:=by omega
     simpa [xZY,g8] using hm
  ·refine jD (by simp only [sy.1,reduceIte,ht,hlt]) ?_;refine qL (k2 _ ?_);refine qA fun K hn hp=> ?_;simp only [sy.1,rL];apply hn;clear hn hp K;refine qC (qH res196 ⟨?_,(xZT (xZX _)).up hn1⟩);have:cs.drop k=[]:=xZM (by omega);simp [xZY,hfi,this,kY]
 ·refine ⟨0,h.n,_,rfl,xZX _,xZK _,?_,?_,?_,?_,?_⟩;all_goals simp [xZY]
theorem idx196_c (xt:Xt) (h:Hp) (v fv:AV) (cs:List (List Value)) (p:List Value->Bool) (hv:RowAt xt h 1 v cs) (hl:cs.length<=9223372036854775807) (hf:kD (SE xt) h fv (fun c=> .val (c.headD default)) cs p)
  {K:KP} (hk: ∀n,h.n<n->K (.ret (iv (kY p cs 0))) (h.up n)):FnA (SE xt) 196 [v,fv] h K:=xZN (idx196_ok xt h v fv cs p hv hl hf) hk
theorem ft149 (xt:Xt):(SE xt).ft.get 149=some Tryz.f149:=by kernel_rfl
theorem res149:Tryz.f149.results.toList=[.tmp 4]:=by kernel_rfl
theorem any149_c (xt:Xt) (h:Hp) (v fv:AV) (cs:List (List Value)) (p:List Value->Bool) (hv:RowAt xt h 1 v cs) (hl:cs.length<=9223372036854775807) (hf:kD (SE xt) h fv (fun c=> .val (c.headD default)) cs p)
  {K:KP} (hk: ∀n,h.n<n->K (.ret (.val (.bool (cs.any p)))) (h.up n)):FnA (SE xt) 149 [v,fv] h K:=by
 refine xZN ?_ hk;refine xZP (sok xt) (ft149 xt) rfl 9 rfl ?_;refine qA fun K hn hp=> ?_;simp only [sw.1,rL];apply hn;refine qA fun K hn hp=> ?_;simp only [sy.1,rE,reduceIte,rL];refine cAS (idx196_c xt h v fv cs p hv hl hf fun n1 hn1=> ?_);have hn1:=xZR hn1;simp only [sy.1,rE,reduceIte,rL,wG];refine hn _ _ (qC (qH res149 ⟨?_,(xZT (xZX _)).up hn1⟩));simp [xZY]
theorem ft197 (xt:Xt):(SE xt).ft.get 197=some Tryz.f197:=by kernel_rfl
theorem res197:Tryz.f197.results.toList=[.tmp 4]:=by kernel_rfl
theorem idx197_ok (xt:Xt) (h:Hp) (v fv:AV) (cs:List (List Value)) (p:List Value->Bool) (hv:RowAt xt h 4 v cs) (hl:cs.length<=9223372036854775807) (hf:kD (SE xt) h fv (fun c=> .agg (c.map .val)) cs p):
  FnA (SE xt) 197 [v,fv] h (fun r h'=>r= .ret (iv (kY p cs 0))/\Fr h.n h h'):=by
 refine xZP (sok xt) (ft197 xt) rfl 19 rfl ?_;have hlen:=fun h'=>hv.len (h':=h') tg23 rfl;refine qA fun K hn hp=> ?_;simp only [sw.1,rL];apply hn;clear hn hp K;refine qB fun K hn hp=> ?_;simp only [sy.1,rE,reduceIte,rL,hlen];apply hn;clear hn hp K;refine qD fun K k1 k2 k3 k4 k5=> ?_;refine qM (sok xt) (fun st=> ∃(k n:Nat) (tm:T AV),st=⟨tm,19,h.up n,[]⟩/\h.n<=n/\k<=cs.length/\tm.get 0=some v/\tm.get 1=some fv/\tm.get 7=some (iv cs.length)/\tm.get 8=some (iv k)/\kY p cs 0=kY p (cs.drop k) k)
  (fun st=>cs.length - (match st.tm.get 8 with|some (.val (.int _ n))=>n.toNat|_=>0)) ?_ ?_
 ·rintro st ⟨k,n,tm,rfl,hn1,hk,g0,g1,g7,g8,hfi⟩;refine qA fun K hn hp=> ?_;simp only [sy.1,rL,g7,g8];apply hn;clear hn hp K;have ht:(decide ((k:Int)<(cs.length:Int)))=decide (k<cs.length):=by simp
  by_cases hlt:k<cs.length
  ·obtain ⟨c,hc⟩: ∃c,cs[k]? =some c:=⟨_,xZV hlt⟩;have hidx:=hv.idx tg23 rfl qA9 rfl hlt (k:= .i64);have hld:qN tb xt (h.up n) 48 (elp v (k*4))=some (.agg (c.map .val)):=(hv.up hn1).loadA qA9 rfl rfl hc;refine jC (by simp only [sy.1,reduceIte,ht,hlt]) ?_;refine qD fun K' k1' k2' k3' k4' k5'=> ?_;refine qA fun K hn hp=> ?_;simp only [sy.1,rE,reduceIte,rL,g8];apply hn;clear hn hp K;refine qA fun K hn hp=> ?_;simp only [sy.1,rE,reduceIte,rL,g0,g1,hidx,hld];refine hf n c _ hn1 (xZU hc) fun n1 hn1'=> ?_;have hn1':=xZR hn1';simp only [sy.1,rL];apply hn;clear hn hp;rw [wF p hc] at hfi;cases hp:p c with
   |true=>
    refine wcT (by simp only [sy.1,rE,reduceIte]) ?_;refine qA fun K hn hp=> ?_;simp only [sy.1,rE,reduceIte,rL];apply hn;clear hn hp K;refine qC (k4' _ (k4 _ (qH res197 ⟨?_,(xZT (xZX _)).up (xZO hn1 hn1')⟩)));simp [xZY,hfi,hp]
   |false=>
    refine wcF (by simp only [sy.1,rE,reduceIte]) ?_;refine qR (k1' _ ?_);refine reg fun K hn hp'=> ?_;have hw:IntKind.i64.wrap ((k:Int)+1)=((k+1:Nat):Int):=by rw [qG _ (by omega) (by omega)];simp
    simp only [sy.1,rE,reduceIte,rL,g8,hw];apply hn;refine ⟨⟨k+1,n1,_,rfl,xZO hn1 hn1',hlt,?_,?_,?_,?_,?_⟩,?_⟩
    ·simp [xZY,g0]
    ·simp [xZY,g1]
    ·simp [xZY,g7]
    ·simp [xZY]
    ·rw [hfi,hp];simp
    ·have hm:cs.length - (k+1)<cs.length - k:=by omega
     simpa [xZY,g8] using hm
  ·refine jD (by simp only [sy.1,reduceIte,ht,hlt]) ?_;refine qL (k2 _ ?_);refine qA fun K hn hp=> ?_;simp only [sy.1,rL];apply hn;clear hn hp K;refine qC (qH res197 ⟨?_,(xZT (xZX _)).up hn1⟩);have:cs.drop k=[]:=xZM (by omega);simp [xZY,hfi,this,kY]
 ·refine ⟨0,h.n,_,rfl,xZX _,xZK _,?_,?_,?_,?_,?_⟩;all_goals simp [xZY]
theorem idx197_c (xt:Xt) (h:Hp) (v fv:AV) (cs:List (List Value)) (p:List Value->Bool) (hv:RowAt xt h 4 v cs) (hl:cs.length<=9223372036854775807) (hf:kD (SE xt) h fv (fun c=> .agg (c.map .val)) cs p)
  {K:KP} (hk: ∀n,h.n<n->K (.ret (iv (kY p cs 0))) (h.up n)):FnA (SE xt) 197 [v,fv] h K:=xZN (idx197_ok xt h v fv cs p hv hl hf) hk
theorem ft151 (xt:Xt):(SE xt).ft.get 151=some Tryz.f151:=by kernel_rfl
theorem res151:Tryz.f151.results.toList=[.tmp 4]:=by kernel_rfl
theorem any151_c (xt:Xt) (h:Hp) (v fv:AV) (cs:List (List Value)) (p:List Value->Bool) (hv:RowAt xt h 4 v cs) (hl:cs.length<=9223372036854775807) (hf:kD (SE xt) h fv (fun c=> .agg (c.map .val)) cs p)
  {K:KP} (hk: ∀n,h.n<n->K (.ret (.val (.bool (cs.any p)))) (h.up n)):FnA (SE xt) 151 [v,fv] h K:=by
 refine xZN ?_ hk;refine xZP (sok xt) (ft151 xt) rfl 9 rfl ?_;refine qA fun K hn hp=> ?_;simp only [sw.1,rL];apply hn;refine qA fun K hn hp=> ?_;simp only [sy.1,rE,reduceIte,rL];refine cAS (idx197_c xt h v fv cs p hv hl hf fun n1 hn1=> ?_);have hn1:=xZR hn1;simp only [sy.1,rE,reduceIte,rL,wG];refine hn _ _ (qC (qH res151 ⟨?_,(xZT (xZX _)).up hn1⟩));simp [xZY]
theorem ft198 (xt:Xt):(SE xt).ft.get 198=some Tryz.f198:=by kernel_rfl
theorem res198:Tryz.f198.results.toList=[.tmp 4]:=by kernel_rfl
theorem idx198_ok (xt:Xt) (h:Hp) (v fv:AV) (cs:List (List Value)) (p:List Value->Bool) (hv:RowAt xt h 3 v cs) (hl:cs.length<=9223372036854775807) (hf:kD (SE xt) h fv (fun c=> .agg (c.map .val)) cs p):
  FnA (SE xt) 198 [v,fv] h (fun r h'=>r= .ret (iv (kY p cs 0))/\Fr h.n h h'):=by
 refine xZP (sok xt) (ft198 xt) rfl 19 rfl ?_;have hlen:=fun h'=>hv.len (h':=h') tg24 rfl;refine qA fun K hn hp=> ?_;simp only [sw.1,rL];apply hn;clear hn hp K;refine qB fun K hn hp=> ?_;simp only [sy.1,rE,reduceIte,rL,hlen];apply hn;clear hn hp K;refine qD fun K k1 k2 k3 k4 k5=> ?_;refine qM (sok xt) (fun st=> ∃(k n:Nat) (tm:T AV),st=⟨tm,19,h.up n,[]⟩/\h.n<=n/\k<=cs.length/\tm.get 0=some v/\tm.get 1=some fv/\tm.get 7=some (iv cs.length)/\tm.get 8=some (iv k)/\kY p cs 0=kY p (cs.drop k) k)
  (fun st=>cs.length - (match st.tm.get 8 with|some (.val (.int _ n))=>n.toNat|_=>0)) ?_ ?_
 ·rintro st ⟨k,n,tm,rfl,hn1,hk,g0,g1,g7,g8,hfi⟩;refine qA fun K hn hp=> ?_;simp only [sy.1,rL,g7,g8];apply hn;clear hn hp K;have ht:(decide ((k:Int)<(cs.length:Int)))=decide (k<cs.length):=by simp
  by_cases hlt:k<cs.length
  ·obtain ⟨c,hc⟩: ∃c,cs[k]? =some c:=⟨_,xZV hlt⟩;have hidx:=hv.idx tg24 rfl qBW rfl hlt (k:= .i64);have hld:qN tb xt (h.up n) 50 (elp v (k*3))=some (.agg (c.map .val)):=(hv.up hn1).loadA qBW rfl rfl hc;refine jC (by simp only [sy.1,reduceIte,ht,hlt]) ?_;refine qD fun K' k1' k2' k3' k4' k5'=> ?_;refine qA fun K hn hp=> ?_;simp only [sy.1,rE,reduceIte,rL,g8];apply hn;clear hn hp K;refine qA fun K hn hp=> ?_;simp only [sy.1,rE,reduceIte,rL,g0,g1,hidx,hld];refine hf n c _ hn1 (xZU hc) fun n1 hn1'=> ?_;have hn1':=xZR hn1';simp only [sy.1,rL];apply hn;clear hn hp;rw [wF p hc] at hfi;cases hp:p c with
   |true=>
    refine wcT (by simp only [sy.1,rE,reduceIte]) ?_;refine qA fun K hn hp=> ?_;simp only [sy.1,rE,reduceIte,rL];apply hn;clear hn hp K;refine qC (k4' _ (k4 _ (qH res198 ⟨?_,(xZT (xZX _)).up (xZO hn1 hn1')⟩)));simp [xZY,hfi,hp]
   |false=>
    refine wcF (by simp only [sy.1,rE,reduceIte]) ?_;refine qR (k1' _ ?_);refine reg fun K hn hp'=> ?_;have hw:IntKind.i64.wrap ((k:Int)+1)=((k+1:Nat):Int):=by rw [qG _ (by omega) (by omega)];simp
    simp only [sy.1,rE,reduceIte,rL,g8,hw];apply hn;refine ⟨⟨k+1,n1,_,rfl,xZO hn1 hn1',hlt,?_,?_,?_,?_,?_⟩,?_⟩
    ·simp [xZY,g0]
    ·simp [xZY,g1]
    ·simp [xZY,g7]
    ·simp [xZY]
    ·rw [hfi,hp];simp
    ·have hm:cs.length - (k+1)<cs.length - k:=by omega
     simpa [xZY,g8] using hm
  ·refine jD (by simp only [sy.1,reduceIte,ht,hlt]) ?_;refine qL (k2 _ ?_);refine qA fun K hn hp=> ?_;simp only [sy.1,rL];apply hn;clear hn hp K;refine qC (qH res198 ⟨?_,(xZT (xZX _)).up hn1⟩);have:cs.drop k=[]:=xZM (by omega);simp [xZY,hfi,this,kY]
 ·refine ⟨0,h.n,_,rfl,xZX _,xZK _,?_,?_,?_,?_,?_⟩;all_goals simp [xZY]
theorem idx198_c (xt:Xt) (h:Hp) (v fv:AV) (cs:List (List Value)) (p:List Value->Bool) (hv:RowAt xt h 3 v cs) (hl:cs.length<=9223372036854775807) (hf:kD (SE xt) h fv (fun c=> .agg (c.map .val)) cs p)
  {K:KP} (hk: ∀n,h.n<n->K (.ret (iv (kY p cs 0))) (h.up n)):FnA (SE xt) 198 [v,fv] h K:=xZN (idx198_ok xt h v fv cs p hv hl hf) hk
theorem ft155 (xt:Xt):(SE xt).ft.get 155=some Tryz.f155:=by kernel_rfl
theorem res155:Tryz.f155.results.toList=[.tmp 4]:=by kernel_rfl
theorem qGc (xt:Xt) (h:Hp) (v fv:AV) (cs:List (List Value)) (p:List Value->Bool) (hv:RowAt xt h 3 v cs) (hl:cs.length<=9223372036854775807) (hf:kD (SE xt) h fv (fun c=> .agg (c.map .val)) cs p)
  {K:KP} (hk: ∀n,h.n<n->K (.ret (.val (.bool (cs.any p)))) (h.up n)):FnA (SE xt) 155 [v,fv] h K:=by
 refine xZN ?_ hk;refine xZP (sok xt) (ft155 xt) rfl 9 rfl ?_;refine qA fun K hn hp=> ?_;simp only [sw.1,rL];apply hn;refine qA fun K hn hp=> ?_;simp only [sy.1,rE,reduceIte,rL];refine cAS (idx198_c xt h v fv cs p hv hl hf fun n1 hn1=> ?_);have hn1:=xZR hn1;simp only [sy.1,rE,reduceIte,rL,wG];refine hn _ _ (qC (qH res155 ⟨?_,(xZT (xZX _)).up hn1⟩));simp [xZY]
theorem ft163 (xt:Xt):(SE xt).ft.get 163=some Tryz.f163:=by kernel_rfl
theorem res163:Tryz.f163.results.toList=[.tmp 4]:=by kernel_rfl
theorem idx163_ok (xt:Xt) (h:Hp) (v fv:AV) (cs:List (List Value)) (p:List Value->Bool) (hv:RowAt xt h 2 v cs) (hl:cs.length<=9223372036854775807) (hf:kD (SE xt) h fv (fun c=> .agg (c.map .val)) cs p):
  FnA (SE xt) 163 [v,fv] h (fun r h'=>r= .ret (iv (kY p cs 0))/\Fr h.n h h'):=by
 refine xZP (sok xt) (ft163 xt) rfl 19 rfl ?_;have hlen:=fun h'=>hv.len (h':=h') tg25 rfl;refine qA fun K hn hp=> ?_;simp only [sw.1,rL];apply hn;clear hn hp K;refine qB fun K hn hp=> ?_;simp only [sy.1,rE,reduceIte,rL,hlen];apply hn;clear hn hp K;refine qD fun K k1 k2 k3 k4 k5=> ?_;refine qM (sok xt) (fun st=> ∃(k n:Nat) (tm:T AV),st=⟨tm,19,h.up n,[]⟩/\h.n<=n/\k<=cs.length/\tm.get 0=some v/\tm.get 1=some fv/\tm.get 7=some (iv cs.length)/\tm.get 8=some (iv k)/\kY p cs 0=kY p (cs.drop k) k)
  (fun st=>cs.length - (match st.tm.get 8 with|some (.val (.int _ n))=>n.toNat|_=>0)) ?_ ?_
 ·rintro st ⟨k,n,tm,rfl,hn1,hk,g0,g1,g7,g8,hfi⟩;refine qA fun K hn hp=> ?_;simp only [sy.1,rL,g7,g8];apply hn;clear hn hp K;have ht:(decide ((k:Int)<(cs.length:Int)))=decide (k<cs.length):=by simp
  by_cases hlt:k<cs.length
  ·obtain ⟨c,hc⟩: ∃c,cs[k]? =some c:=⟨_,xZV hlt⟩;have hidx:=hv.idx tg25 rfl qAo rfl hlt (k:= .i64);have hld:qN tb xt (h.up n) 142 (elp v (k*2))=some (.agg (c.map .val)):=(hv.up hn1).loadA qAo rfl rfl hc;refine jC (by simp only [sy.1,reduceIte,ht,hlt]) ?_;refine qD fun K' k1' k2' k3' k4' k5'=> ?_;refine qA fun K hn hp=> ?_;simp only [sy.1,rE,reduceIte,rL,g8];apply hn;clear hn hp K;refine qA fun K hn hp=> ?_;simp only [sy.1,rE,reduceIte,rL,g0,g1,hidx,hld];refine hf n c _ hn1 (xZU hc) fun n1 hn1'=> ?_;have hn1':=xZR hn1';simp only [sy.1,rL];apply hn;clear hn hp;rw [wF p hc] at hfi;cases hp:p c with
   |true=>
    refine wcT (by simp only [sy.1,rE,reduceIte]) ?_;refine qA fun K hn hp=> ?_;simp only [sy.1,rE,reduceIte,rL];apply hn;clear hn hp K;refine qC (k4' _ (k4 _ (qH res163 ⟨?_,(xZT (xZX _)).up (xZO hn1 hn1')⟩)));simp [xZY,hfi,hp]
   |false=>
    refine wcF (by simp only [sy.1,rE,reduceIte]) ?_;refine qR (k1' _ ?_);refine reg fun K hn hp'=> ?_;have hw:IntKind.i64.wrap ((k:Int)+1)=((k+1:Nat):Int):=by rw [qG _ (by omega) (by omega)];simp
    simp only [sy.1,rE,reduceIte,rL,g8,hw];apply hn;refine ⟨⟨k+1,n1,_,rfl,xZO hn1 hn1',hlt,?_,?_,?_,?_,?_⟩,?_⟩
    ·simp [xZY,g0]
    ·simp [xZY,g1]
    ·simp [xZY,g7]
    ·simp [xZY]
    ·rw [hfi,hp];simp
    ·have hm:cs.length - (k+1)<cs.length - k:=by omega
     simpa [xZY,g8] using hm
  ·refine jD (by simp only [sy.1,reduceIte,ht,hlt]) ?_;refine qL (k2 _ ?_);refine qA fun K hn hp=> ?_;simp only [sy.1,rL];apply hn;clear hn hp K;refine qC (qH res163 ⟨?_,(xZT (xZX _)).up hn1⟩);have:cs.drop k=[]:=xZM (by omega);simp [xZY,hfi,this,kY]
 ·refine ⟨0,h.n,_,rfl,xZX _,xZK _,?_,?_,?_,?_,?_⟩;all_goals simp [xZY]
theorem idx163_c (xt:Xt) (h:Hp) (v fv:AV) (cs:List (List Value)) (p:List Value->Bool) (hv:RowAt xt h 2 v cs) (hl:cs.length<=9223372036854775807) (hf:kD (SE xt) h fv (fun c=> .agg (c.map .val)) cs p)
  {K:KP} (hk: ∀n,h.n<n->K (.ret (iv (kY p cs 0))) (h.up n)):FnA (SE xt) 163 [v,fv] h K:=xZN (idx163_ok xt h v fv cs p hv hl hf) hk
theorem ft92 (xt:Xt):(SE xt).ft.get 92=some Tryz.f92:=by kernel_rfl
theorem res92:Tryz.f92.results.toList=[.tmp 4]:=by kernel_rfl
theorem any92_c (xt:Xt) (h:Hp) (v fv:AV) (cs:List (List Value)) (p:List Value->Bool) (hv:RowAt xt h 2 v cs) (hl:cs.length<=9223372036854775807) (hf:kD (SE xt) h fv (fun c=> .agg (c.map .val)) cs p)
  {K:KP} (hk: ∀n,h.n<n->K (.ret (.val (.bool (cs.any p)))) (h.up n)):FnA (SE xt) 92 [v,fv] h K:=by
 refine xZN ?_ hk;refine xZP (sok xt) (ft92 xt) rfl 9 rfl ?_;refine qA fun K hn hp=> ?_;simp only [sw.1,rL];apply hn;refine qA fun K hn hp=> ?_;simp only [sy.1,rE,reduceIte,rL];refine cAS (idx163_c xt h v fv cs p hv hl hf fun n1 hn1=> ?_);have hn1:=xZR hn1;simp only [sy.1,rE,reduceIte,rL,wG];refine hn _ _ (qC (qH res92 ⟨?_,(xZT (xZX _)).up hn1⟩));simp [xZY]
theorem ft185 (xt:Xt):(SE xt).ft.get 185=some Tryz.f185:=by kernel_rfl
theorem res185:Tryz.f185.results.toList=[.tmp 4]:=by kernel_rfl
theorem idx185_ok (xt:Xt) (h:Hp) (v fv:AV) (cs:List (List Value)) (p:List Value->Bool) (hv:RowAt xt h 3 v cs) (hl:cs.length<=9223372036854775807) (hf:kD (SE xt) h fv (fun c=> .agg (c.map .val)) cs p):
  FnA (SE xt) 185 [v,fv] h (fun r h'=>r= .ret (iv (kY p cs 0))/\Fr h.n h h'):=by
 refine xZP (sok xt) (ft185 xt) rfl 19 rfl ?_;have hlen:=fun h'=>hv.len (h':=h') qAn rfl;refine qA fun K hn hp=> ?_;simp only [sw.1,rL];apply hn;clear hn hp K;refine qB fun K hn hp=> ?_;simp only [sy.1,rE,reduceIte,rL,hlen];apply hn;clear hn hp K;refine qD fun K k1 k2 k3 k4 k5=> ?_;refine qM (sok xt) (fun st=> ∃(k n:Nat) (tm:T AV),st=⟨tm,19,h.up n,[]⟩/\h.n<=n/\k<=cs.length/\tm.get 0=some v/\tm.get 1=some fv/\tm.get 7=some (iv cs.length)/\tm.get 8=some (iv k)/\kY p cs 0=kY p (cs.drop k) k)
  (fun st=>cs.length - (match st.tm.get 8 with|some (.val (.int _ n))=>n.toNat|_=>0)) ?_ ?_
 ·rintro st ⟨k,n,tm,rfl,hn1,hk,g0,g1,g7,g8,hfi⟩;refine qA fun K hn hp=> ?_;simp only [sy.1,rL,g7,g8];apply hn;clear hn hp K;have ht:(decide ((k:Int)<(cs.length:Int)))=decide (k<cs.length):=by simp
  by_cases hlt:k<cs.length
  ·obtain ⟨c,hc⟩: ∃c,cs[k]? =some c:=⟨_,xZV hlt⟩;have hidx:=hv.idx qAn rfl yF rfl hlt (k:= .i64);have hld:qN tb xt (h.up n) 130 (elp v (k*3))=some (.agg (c.map .val)):=(hv.up hn1).loadA yF rfl rfl hc;refine jC (by simp only [sy.1,reduceIte,ht,hlt]) ?_;refine qD fun K' k1' k2' k3' k4' k5'=> ?_;refine qA fun K hn hp=> ?_;simp only [sy.1,rE,reduceIte,rL,g8];apply hn;clear hn hp K;refine qA fun K hn hp=> ?_;simp only [sy.1,rE,reduceIte,rL,g0,g1,hidx,hld];refine hf n c _ hn1 (xZU hc) fun n1 hn1'=> ?_;have hn1':=xZR hn1';simp only [sy.1,rL];apply hn;clear hn hp;rw [wF p hc] at hfi;cases hp:p c with
   |true=>
    refine wcT (by simp only [sy.1,rE,reduceIte]) ?_;refine qA fun K hn hp=> ?_;simp only [sy.1,rE,reduceIte,rL];apply hn;clear hn hp K;refine qC (k4' _ (k4 _ (qH res185 ⟨?_,(xZT (xZX _)).up (xZO hn1 hn1')⟩)));simp [xZY,hfi,hp]
   |false=>
    refine wcF (by simp only [sy.1,rE,reduceIte]) ?_;refine qR (k1' _ ?_);refine reg fun K hn hp'=> ?_;have hw:IntKind.i64.wrap ((k:Int)+1)=((k+1:Nat):Int):=by rw [qG _ (by omega) (by omega)];simp
    simp only [sy.1,rE,reduceIte,rL,g8,hw];apply hn;refine ⟨⟨k+1,n1,_,rfl,xZO hn1 hn1',hlt,?_,?_,?_,?_,?_⟩,?_⟩
    ·simp [xZY,g0]
    ·simp [xZY,g1]
    ·simp [xZY,g7]
    ·simp [xZY]
    ·rw [hfi,hp];simp
    ·have hm:cs.length - (k+1)<cs.length - k:=by omega
     simpa [xZY,g8] using hm
  ·refine jD (by simp only [sy.1,reduceIte,ht,hlt]) ?_;refine qL (k2 _ ?_);refine qA fun K hn hp=> ?_;simp only [sy.1,rL];apply hn;clear hn hp K;refine qC (qH res185 ⟨?_,(xZT (xZX _)).up hn1⟩);have:cs.drop k=[]:=xZM (by omega);simp [xZY,hfi,this,kY]
 ·refine ⟨0,h.n,_,rfl,xZX _,xZK _,?_,?_,?_,?_,?_⟩;all_goals simp [xZY]
theorem idx185_c (xt:Xt) (h:Hp) (v fv:AV) (cs:List (List Value)) (p:List Value->Bool) (hv:RowAt xt h 3 v cs) (hl:cs.length<=9223372036854775807) (hf:kD (SE xt) h fv (fun c=> .agg (c.map .val)) cs p)
  {K:KP} (hk: ∀n,h.n<n->K (.ret (iv (kY p cs 0))) (h.up n)):FnA (SE xt) 185 [v,fv] h K:=xZN (idx185_ok xt h v fv cs p hv hl hf) hk
theorem ft140 (xt:Xt):(SE xt).ft.get 140=some Tryz.f140:=by kernel_rfl
theorem res140:Tryz.f140.results.toList=[.tmp 4]:=by kernel_rfl
theorem any140_c (xt:Xt) (h:Hp) (v fv:AV) (cs:List (List Value)) (p:List Value->Bool) (hv:RowAt xt h 3 v cs) (hl:cs.length<=9223372036854775807) (hf:kD (SE xt) h fv (fun c=> .agg (c.map .val)) cs p)
  {K:KP} (hk: ∀n,h.n<n->K (.ret (.val (.bool (cs.any p)))) (h.up n)):FnA (SE xt) 140 [v,fv] h K:=by
 refine xZN ?_ hk;refine xZP (sok xt) (ft140 xt) rfl 9 rfl ?_;refine qA fun K hn hp=> ?_;simp only [sw.1,rL];apply hn;refine qA fun K hn hp=> ?_;simp only [sy.1,rE,reduceIte,rL];refine cAS (idx185_c xt h v fv cs p hv hl hf fun n1 hn1=> ?_);have hn1:=xZR hn1;simp only [sy.1,rE,reduceIte,rL,wG];refine hn _ _ (qC (qH res140 ⟨?_,(xZT (xZX _)).up hn1⟩));simp [xZY]
def c1 (x:Int):List Value:=[.int .i64 x]
structure Mp where
 vc:AV
 vg:AV
 vk:AV
 vp:AV
 cells:List (List Int)
 T:Int
 H:Int
 gs:List (Int×Int×Int×Int)
 ks:List (Int×Int×Bool)
 ps:List (Int×Int)
def g4 (g:Int×Int×Int×Int):List Value:=[.int .i64 g.1,.int .i64 g.2.1,.int .i64 g.2.2.1,.int .i64 g.2.2.2]
def k3 (k:Int×Int×Bool):List Value:=[.int .i64 k.1,.int .i64 k.2.1,.bool k.2.2]
def p2 (p:Int×Int):List Value:=[.int .i64 p.1,.int .i64 p.2]
abbrev Mp.cs (m:Mp):List AV:=[m.vc,iv m.T,iv m.H,m.vg,m.vk,m.vp]
abbrev Mp.av (m:Mp):AV:= .agg m.cs
structure Mp.At (m:Mp) (xt:Xt) (h:Hp):Prop where
 cells:GridAt xt h 1 m.vc (m.cells.map fun l=>l.map c1)
 gs:RowAt xt h 4 m.vg (m.gs.map g4)
 ks:RowAt xt h 3 m.vk (m.ks.map k3)
 ps:RowAt xt h 2 m.vp (m.ps.map p2)
 lc:m.cells.length<=9223372036854775807
 lr: ∀l∈m.cells,l.length<=9223372036854775807
 lg:m.gs.length<=9223372036854775807
 lk:m.ks.length<=9223372036854775807
 lp:m.ps.length<=9223372036854775807
theorem Mp.At.new {m:Mp} {xt:Xt} {h:Hp} (a:m.At xt h) (o:AO):m.At xt (h.new o):=⟨a.cells.new o,a.gs.new o,a.ks.new o,a.ps.new o,a.lc,a.lr,a.lg,a.lk,a.lp⟩
theorem Mp.At.up {m:Mp} {xt:Xt} {h:Hp} (a:m.At xt h) {n:Nat} (hn:h.n<=n):m.At xt (h.up n):=⟨a.cells.up hn,a.gs.up hn,a.ks.up hn,a.ps.up hn,a.lc,a.lr,a.lg,a.lk,a.lp⟩
theorem Mp.At.fr {m:Mp} {xt:Xt} {h h':Hp} (a:m.At xt h) {M:Nat} (f:Fr M h h') (hM:h.n<=M):m.At xt h':=⟨a.cells.fr f hM,a.gs.fr f hM,a.ks.fr f hM,a.ps.fr f hM,a.lc,a.lr,a.lg,a.lk,a.lp⟩
theorem Mp.At.len {m:Mp} {xt:Xt} {h:Hp} (a:m.At xt h) (h':Hp):zA tb h' 22 m.vc=some m.cells.length:=by
 have:=a.cells.len (h':=h') tg22 rfl;simpa using this
def Mp.R (m:Mp):Int:=m.cells.length
def Mp.C (m:Mp):Int:=(m.cells.headD []).length
def inB (x lo hi:Int):Bool:=decide (lo<=x) && decide (x<=hi)
def Mp.inside (m:Mp) (r c:Int):Bool:=inB r 0 (m.R - 1) && inB c 0 (m.C - 1)
theorem Mp.At.row {m:Mp} {xt:Xt} {h:Hp} (a:m.At xt h) {i:Nat} {l:List Int} (hl:m.cells[i]? =some l): ∃v,(∀k:IntKind,qK tb 22 m.vc (.val (.int k (i:Int)))=some (elp m.vc i))/\qN tb xt h 58 (elp m.vc i)=some v/\RowAt xt h 1 v (l.map c1)/\(∀h':Hp,zA tb h' 58 v=some l.length):=by
 obtain ⟨v,h1,h2,h3⟩:=a.cells.at_ tg22 rfl qA8 rfl rfl (i:=i) (l:=l.map c1) (by simp [hl]);exact ⟨v,h1,h2,h3,fun h'=>by have:=h3.len (h':=h') qA8 rfl;simpa using this⟩
theorem ft153 (xt:Xt):(SE xt).ft.get 153=some Tryz.f153:=by kernel_rfl
theorem res153:Tryz.f153.results.toList=[.tmp 6]:=by kernel_rfl
theorem qAE (xt:Xt) (h:Hp) (m:Mp) (ha:m.At xt h) (r c:Int) {K:KP} (hk: ∀n,h.n<n->K (.ret (.val (.bool (m.inside r c)))) (h.up n)):FnA (SE xt) 153 [m.av,iv r,iv c] h K:=by
 refine xZN ?_ hk;clear hk K;refine xZP (sok xt) (ft153 xt) rfl 23 rfl ?_;have ha1:=ha.new (.cells m.cs 27);have hlen:=ha.len;have hlc:=ha.lc;have hw:IntKind.i64.wrap ((m.cells.length:Int) - 1)=m.R - 1:=by rw [qG _ (by omega) (by omega)];rfl
 refine qA fun K hn hp=> ?_;simp only [sw.1,rE,reduceIte,rL,rA];apply hn;refine qA fun K1 hn hp=> ?_;simp only [sy.1,rE,reduceIte,rL,hlen,hw];refine cAS (wU xt _ _ _ _ fun m1 hm1=> ?_);simp only [Hp.new_n] at hm1;cases q1:(decide (0<=r) && decide (r<=m.R - 1))
 ·simp only [sy.1,rE,reduceIte,rL];refine hn _ _ (qC (qH res153 ⟨?_,((xZT (xZX _)).new _).up (by simp [Hp.new_n];omega)⟩));simp [xZY,Mp.inside,inB,q1]
 ·obtain ⟨l,hl⟩: ∃l,m.cells[0]? =some l:=by
   obtain ⟨q2,q3⟩:=xYN.1 q1;have q2:=of_decide_eq_true q2;have q3:=of_decide_eq_true q3;unfold Mp.R at q3;have hp:0<m.cells.length:=by omega
   exact ⟨_,xZV hp⟩
  obtain ⟨v,h1,h2,h3,h4⟩:=(ha1.up (n:=m1) (by simp [Hp.new_n];omega)).row hl;have h1:=h1 .i64;simp only [Int.natCast_zero] at h1;have hll:=ha.lr l (xZU hl);have hC:m.C=l.length:=by
   simp only [Mp.C];cases hm:m.cells with
   |nil=>rw [hm] at hl;simp at hl
   |cons x y=>rw [hm] at hl;simp at hl;subst hl;rfl
  have hw2:IntKind.i64.wrap ((l.length:Int) - 1)=m.C - 1:=by rw [qG _ (by omega) (by omega),hC]
  simp only [sy.1,rE,reduceIte,rL,h1,h2,h4,hw2];refine cAS (wU xt _ _ _ _ fun m2 hm2=> ?_);simp only [xZI] at hm2;simp only [sy.1,rE,reduceIte,rL,xZS];refine hn _ _ (qC (qH res153 ⟨?_,((xZT (xZX _)).new _).up (by simp [Hp.new_n];omega)⟩));simp [xZY,Mp.inside,inB,q1]
def Mp.Rect (m:Mp):Prop:= ∀l∈m.cells,l.length=(m.cells.headD []).length
def Mp.kind (m:Mp) (r c:Int):Int:=(((m.cells[r.toNat]?).getD [])[c.toNat]?).getD 1
theorem xK {x lo hi:Int}:inB x lo hi=true↔lo<=x/\x<=hi:=by simp [inB]
theorem Mp.inside_iff {m:Mp} {r c:Int}:m.inside r c=true↔(0<=r/\r<m.R)/\0<=c/\c<m.C:=by
 simp only [Mp.inside,xYE,xK];omega
theorem Mp.At.cell {m:Mp} {xt:Xt} {h:Hp} (a:m.At xt h) (hr:m.Rect) {r c:Int} (hi:m.inside r c=true): ∃(i j:Nat) (l:List Int) (v:AV),r=i/\c=j/\m.cells[i]? =some l/\l.length=m.C/\l[j]? =some (m.kind r c)/\qK tb 22 m.vc (.val (.int .i64 r))=some (elp m.vc i)/\qN tb xt h 58 (elp m.vc i)=some v/\qK tb 58 v (.val (.int .i64 c))=some (elp v j)/\qN tb xt h 137 (elp v j)=some (iv (m.kind r c)):=by
 obtain ⟨⟨r0,r1⟩,c0,c1⟩:=Mp.inside_iff.1 hi;obtain ⟨i,rfl⟩: ∃i:Nat,r=i:=⟨r.toNat,by omega⟩;obtain ⟨j,rfl⟩: ∃j:Nat,c=j:=⟨c.toNat,by omega⟩;unfold Mp.R at r1;have hi':i<m.cells.length:=by omega
 obtain ⟨l,hl⟩: ∃l,m.cells[i]? =some l:=⟨_,xZV hi'⟩;have hll:(l.length:Int)=m.C:=by rw [Mp.C,hr l (xZU hl)]
 have hj':j<l.length:=by omega
 obtain ⟨x,hx⟩: ∃x,l[j]? =some x:=⟨_,xZV hj'⟩;have hk:m.kind i j=x:=by simp [Mp.kind,hl,hx]
 obtain ⟨v,h1,h2,h3,_⟩:=a.row hl;refine ⟨i,j,l,v,rfl,rfl,hl,hll,by rw [hk];exact hx,h1 .i64,h2,?_,?_⟩
 ·have:=h3.idx qA8 rfl qCk rfl (i:=j) (by rw [xZF];exact hj') (k:= .i64)
  rwa [xYZ] at this
 ·have:=h3.load0 qCk rfl (i:=j) (c:=Go.Proofs.Kn.c1 x) (u:= .int .i64 x) (by simp [hx]) rfl;rw [xYZ] at this;rw [hk];exact this
theorem ft154 (xt:Xt):(SE xt).ft.get 154=some Tryz.f154:=by kernel_rfl
theorem res154:Tryz.f154.results.toList=[.tmp 8]:=by kernel_rfl
def Mp.is (m:Mp) (r c k:Int):Bool:=m.inside r c && decide (m.kind r c=k)
theorem is_c (xt:Xt) (h:Hp) (m:Mp) (ha:m.At xt h) (hr:m.Rect) (r c k:Int) {K:KP} (hk: ∀n,h.n<n->K (.ret (.val (.bool (m.is r c k)))) (h.up n)):FnA (SE xt) 154 [m.av,iv r,iv c,iv k] h K:=by
 refine xZN ?_ hk;clear hk K;refine xZP (sok xt) (ft154 xt) rfl 25 rfl ?_;have ha1:=ha.new (.cells m.cs 27);refine qA fun K hn hp=> ?_;simp only [sw.1,rE,reduceIte,rL,rA];apply hn;refine qA fun K1 hn hp=> ?_;simp only [sy.1,rE,reduceIte,rL,rA];refine cAS (qAE xt _ m ha1 r c fun m1 hm1=> ?_);simp only [Hp.new_n] at hm1;cases q1:m.inside r c
 ·simp only [sy.1,rE,reduceIte,rL];refine hn _ _ (qC (qH res154 ⟨?_,((xZT (xZX _)).new _).up (by simp [Hp.new_n];omega)⟩));simp [xZY,Mp.is,q1]
 ·obtain ⟨i,j,l,v,e1,e2,_,_,_,h1,h2,h3,h4⟩:=(ha1.up (n:=m1) (by simp [Hp.new_n];omega)).cell hr q1;simp only [sy.1,rE,reduceIte,rL,h1,h2,h3,h4];refine hn _ _ (qC (qH res154 ⟨?_,((xZT (xZX _)).new _).up (by simp [Hp.new_n];omega)⟩));simp [xZY,Mp.is,q1]
theorem ft150 (xt:Xt):(SE xt).ft.get 150=some Tryz.f150:=by kernel_rfl
theorem res150:Tryz.f150.results.toList=[.tmp 2]:=by kernel_rfl
def zX (x:Int):Bool:=decide (x<1) || decide (3<x)
theorem bkind_ok (xt:Xt) (h:Hp) (x:Int):FnA (SE xt) 150 [iv x] h (fun r h'=>r= .ret (.val (.bool (zX x)))/\Fr h.n h h'):=by
 refine xZP (sok xt) (ft150 xt) rfl 9 rfl ?_;refine qA fun K hn hp=> ?_;simp only [sw.1,rL];apply hn;cases c1:decide (x<1)
 ·refine qA fun K hn hp=> ?_;simp only [sy.1,rE,reduceIte,rL,c1];apply hn;refine qC (qH res150 ⟨?_,xZT (xZX _)⟩);simp [xZY,zX,c1]
 ·refine qA fun K hn hp=> ?_;simp only [sy.1,rE,reduceIte,rL,c1];apply hn;refine qC (qH res150 ⟨?_,xZT (xZX _)⟩);simp [xZY,zX,c1]
theorem bkind_c (xt:Xt) (h:Hp) (x:Int) {K:KP} (hk: ∀n,h.n<n->K (.ret (.val (.bool (zX x)))) (h.up n)):FnA (SE xt) 150 [iv x] h K:=xZN (bkind_ok xt h x) hk
theorem ft152 (xt:Xt):(SE xt).ft.get 152=some Tryz.f152:=by kernel_rfl
theorem qEk:Tryz.f152.results.toList=[.tmp 3]:=by kernel_rfl
def Mp.badG (m:Mp) (g:Int×Int×Int×Int):Bool:= !m.inside g.1 g.2.1 || (m.is g.1 g.2.1 1 || (!inB g.2.2.1 0 60 || !inB g.2.2.2 0 9))
theorem badG_ok (xt:Xt) (h:Hp) (m:Mp) (ha:m.At xt h) (hr:m.Rect) (b:Nat) (hb:b<h.n) (q0:h.t.get b=some (.cells m.cs 27)) (g:Int×Int×Int×Int):FnA (SE xt) 152 [.agg [iv g.1,iv g.2.1,iv g.2.2.1,iv g.2.2.2],.ptr b 0] h (fun r h'=>r= .ret (.val (.bool (m.badG g)))/\Fr h.n h h'):=by
 refine xZP (sok xt) (ft152 xt) rfl 31 rfl ?_;refine qA fun K hn hp=> ?_;simp only [sw.1,rE,reduceIte,rL];apply hn;obtain ⟨h1,hh1⟩: ∃h1:Hp,h1=h.new (.cells [iv g.1,iv g.2.1,iv g.2.2.1,iv g.2.2.2] 48):=⟨_,rfl⟩;rw [<-hh1];have ha1:m.At xt h1:=by rw [hh1];exact ha.new _
 have f1:Fr h.n h h1:=by rw [hh1];exact (xZT (xZX _)).new _
 have q1:h1.t.get b=some (.cells m.cs 27):=by rw [f1.at_ b (.inl hb)];exact q0
 have q2:h1.t.get h.n=some (.cells [iv g.1,iv g.2.1,iv g.2.2.1,iv g.2.2.2] 48):=by rw [hh1,Hp.new_t,xZY,if_pos rfl]
 refine qA fun K1 hn hp=> ?_;simp only [sy.1,rE,reduceIte,rL,rA,q1,q2];refine cAS (qAE xt _ m ha1 _ _ fun m1 hm1=> ?_);have hm1:=xZR hm1;cases e1:m.inside g.1 g.2.1
 ·simp only [sy.1,rE,reduceIte,rL];refine hn _ _ (qC (qH qEk ⟨?_,f1.up hm1⟩));simp [xZY,Mp.badG,e1]
 simp only [sy.1,rE,reduceIte,rL,rA,q1,q2];refine cAS (is_c xt _ m (ha1.up hm1) hr _ _ _ fun m2 hm2=> ?_);simp only [xZI] at hm2;cases e2:m.is g.1 g.2.1 1
 rotate_left
 ·simp only [sy.1,rE,reduceIte,rL,xZS];refine hn _ _ (qC (qH qEk ⟨?_,f1.up (by omega)⟩));simp [xZY,Mp.badG,e1,e2]
 simp only [sy.1,rE,reduceIte,rL,q2,xZS];refine cAS (wU xt _ _ _ _ fun m3 hm3=> ?_);simp only [xZI] at hm3;cases e3:(decide (0<=g.2.2.1) && decide (g.2.2.1<=60))
 ·simp only [sy.1,rE,reduceIte,rL,xZS];refine hn _ _ (qC (qH qEk ⟨?_,f1.up (by omega)⟩));simp [xZY,Mp.badG,e1,e2,inB,e3]
 simp only [sy.1,rE,reduceIte,rL,q2,xZS];refine cAS (wU xt _ _ _ _ fun m4 hm4=> ?_);simp only [xZI] at hm4;simp only [sy.1,rE,reduceIte,rL,xZS];refine hn _ _ (qC (qH qEk ⟨?_,f1.up (by omega)⟩));simp [xZY,Mp.badG,e1,e2,inB,e3]
theorem badG_c (xt:Xt) (h:Hp) (m:Mp) (ha:m.At xt h) (hr:m.Rect) (b:Nat) (hb:b<h.n) (q0:h.t.get b=some (.cells m.cs 27)) (g:Int×Int×Int×Int) {K:KP} (hk: ∀n,h.n<n->K (.ret (.val (.bool (m.badG g)))) (h.up n)):FnA (SE xt) 152 [.agg [iv g.1,iv g.2.1,iv g.2.2.1,iv g.2.2.2],.ptr b 0] h K:=xZN (badG_ok xt h m ha hr b hb q0 g) hk
theorem ft157 (xt:Xt):(SE xt).ft.get 157=some Tryz.f157:=by kernel_rfl
theorem res157:Tryz.f157.results.toList=[.tmp 2,.tmp 3]:=by kernel_rfl
def bK (k:Int×Int×Bool):Int:=if k.2.2 then IntKind.i64.wrap (k.1+1) else k.1
def bL (k:Int×Int×Bool):Int:=if k.2.2 then k.2.1 else IntKind.i64.wrap (k.2.1+1)
theorem ex_tup0 (a b:AV):vJ (.tup [a,b]) 0=some a:=rfl
theorem ex_tup1 (a b:AV):vJ (.tup [a,b]) 1=some b:=rfl
theorem bey_ok (xt:Xt) (h:Hp) (k:Int×Int×Bool):FnA (SE xt) 157 [.agg [iv k.1,iv k.2.1,.val (.bool k.2.2)]] h (fun r h'=>r= .ret (.tup [iv (bK k),iv (bL k)])/\Fr h.n h h'):=by
 refine xZP (sok xt) (ft157 xt) rfl 16 rfl ?_;refine qA fun K hn hp=> ?_;simp only [sw.1,reduceIte,rL];apply hn;refine qB fun K hn hp=> ?_;simp only [sy.1,rE,reduceIte,rL];apply hn;cases e:k.2.2
 ·refine jB (by simp only [sy.1,rE,reduceIte]) ?_;refine zM (sok xt) 7 (by kernel_rfl) fun K hn hp=> ?_;simp only [sy.1,rE,reduceIte,rL];apply hn;refine qC (qAP res157 ⟨?_,(xZT (xZX _)).new _⟩);simp [xZY,bK,bL,e]
 ·refine qW (by simp only [sy.1,rE,reduceIte]) ?_;refine jK ?_;refine zM (sok xt) 7 (by kernel_rfl) fun K hn hp=> ?_;simp only [sy.1,rE,reduceIte,rL];apply hn;refine qQ (qAP res157 ⟨?_,(xZT (xZX _)).new _⟩);simp [xZY,bK,bL,e]
theorem bey_c (xt:Xt) (h:Hp) (k:Int×Int×Bool) {K:KP} (hk: ∀n,h.n<n->K (.ret (.tup [iv (bK k),iv (bL k)])) (h.up n)):FnA (SE xt) 157 [.agg [iv k.1,iv k.2.1,.val (.bool k.2.2)]] h K:=xZN (bey_ok xt h k) hk
theorem ft156 (xt:Xt):(SE xt).ft.get 156=some Tryz.f156:=by kernel_rfl
theorem res156:Tryz.f156.results.toList=[.tmp 3]:=by kernel_rfl
def Mp.badK (m:Mp) (k:Int×Int×Bool):Bool:= !m.inside k.1 k.2.1 || !m.inside (bK k) (bL k)
theorem badK_ok (xt:Xt) (h:Hp) (m:Mp) (ha:m.At xt h) (b:Nat) (hb:b<h.n) (q0:h.t.get b=some (.cells m.cs 27)) (k:Int×Int×Bool):FnA (SE xt) 156 [.agg [iv k.1,iv k.2.1,.val (.bool k.2.2)],.ptr b 0] h (fun r h'=>r= .ret (.val (.bool (m.badK k)))/\Fr h.n h h'):=by
 refine xZP (sok xt) (ft156 xt) rfl 25 rfl ?_;refine qA fun K hn hp=> ?_;simp only [sw.1,rE,reduceIte,rL];apply hn;obtain ⟨h1,hh1⟩: ∃h1:Hp,h1=h.new (.cells [iv k.1,iv k.2.1,.val (.bool k.2.2)] 50):=⟨_,rfl⟩;rw [<-hh1];have ha1:m.At xt h1:=by rw [hh1];exact ha.new _
 have f1:Fr h.n h h1:=by rw [hh1];exact (xZT (xZX _)).new _
 have q1:h1.t.get b=some (.cells m.cs 27):=by rw [f1.at_ b (.inl hb)];exact q0
 have q2:h1.t.get h.n=some (.cells [iv k.1,iv k.2.1,.val (.bool k.2.2)] 50):=by rw [hh1,Hp.new_t,xZY,if_pos rfl]
 refine qA fun K1 hn hp=> ?_;simp only [sy.1,rE,reduceIte,rL,rA,q2];refine cAS (bey_c xt _ k fun m0 hm0=> ?_);have hm0:=xZR hm0;simp only [sy.1,rE,reduceIte,rL,ex_tup0,ex_tup1];apply hn;clear hn hp K1;refine qA fun K1 hn hp=> ?_;simp only [sy.1,rE,reduceIte,rL,rA,q1,q2];refine cAS (qAE xt _ m (ha1.up hm0) _ _ fun m1 hm1=> ?_);simp only [xZI] at hm1;cases e1:m.inside k.1 k.2.1
 ·simp only [sy.1,rE,reduceIte,rL,xZS];refine hn _ _ (qC (qH res156 ⟨?_,f1.up (by omega)⟩));simp [xZY,Mp.badK,e1]
 simp only [sy.1,rE,reduceIte,rL,rA,q1,xZS];refine cAS (qAE xt _ m (ha1.up (by omega)) _ _ fun m2 hm2=> ?_);simp only [xZI] at hm2;simp only [sy.1,rE,reduceIte,rL,xZS];refine hn _ _ (qC (qH res156 ⟨?_,f1.up (by omega)⟩));simp [xZY,Mp.badK,e1]
theorem badK_c (xt:Xt) (h:Hp) (m:Mp) (ha:m.At xt h) (b:Nat) (hb:b<h.n) (q0:h.t.get b=some (.cells m.cs 27)) (k:Int×Int×Bool) {K:KP} (hk: ∀n,h.n<n->K (.ret (.val (.bool (m.badK k)))) (h.up n)):FnA (SE xt) 156 [.agg [iv k.1,iv k.2.1,.val (.bool k.2.2)],.ptr b 0] h K:=xZN (badK_ok xt h m ha b hb q0 k) hk
theorem ft158 (xt:Xt):(SE xt).ft.get 158=some Tryz.f158:=by kernel_rfl
theorem res158:Tryz.f158.results.toList=[.tmp 3]:=by kernel_rfl
theorem badP_ok (xt:Xt) (h:Hp) (m:Mp) (ha:m.At xt h) (hr:m.Rect) (b:Nat) (hb:b<h.n) (q0:h.t.get b=some (.cells m.cs 27)) (p:Int×Int):FnA (SE xt) 158 [.agg [iv p.1,iv p.2],.ptr b 0] h (fun r h'=>r= .ret (.val (.bool (!m.is p.1 p.2 2)))/\Fr h.n h h'):=by
 refine xZP (sok xt) (ft158 xt) rfl 11 rfl ?_;refine qA fun K hn hp=> ?_;simp only [sw.1,rE,reduceIte,rL];apply hn;obtain ⟨h1,hh1⟩: ∃h1:Hp,h1=h.new (.cells [iv p.1,iv p.2] 142):=⟨_,rfl⟩;rw [<-hh1];have ha1:m.At xt h1:=by rw [hh1];exact ha.new _
 have f1:Fr h.n h h1:=by rw [hh1];exact (xZT (xZX _)).new _
 have q1:h1.t.get b=some (.cells m.cs 27):=by rw [f1.at_ b (.inl hb)];exact q0
 have q2:h1.t.get h.n=some (.cells [iv p.1,iv p.2] 142):=by rw [hh1,Hp.new_t,xZY,if_pos rfl]
 refine qA fun K1 hn hp=> ?_;simp only [sy.1,rE,reduceIte,rL,rA,q1,q2];refine cAS (is_c xt _ m ha1 hr _ _ _ fun m1 hm1=> ?_);have hm1:=xZR hm1;simp only [sy.1,rE,reduceIte,rL];refine hn _ _ (qC (qH res158 ⟨?_,f1.up hm1⟩));simp [xZY]
theorem badP_c (xt:Xt) (h:Hp) (m:Mp) (ha:m.At xt h) (hr:m.Rect) (b:Nat) (hb:b<h.n) (q0:h.t.get b=some (.cells m.cs 27)) (p:Int×Int) {K:KP} (hk: ∀n,h.n<n->K (.ret (.val (.bool (!m.is p.1 p.2 2)))) (h.up n)):FnA (SE xt) 158 [.agg [iv p.1,iv p.2],.ptr b 0] h K:=xZN (badP_ok xt h m ha hr b hb q0 p) hk
theorem ft83 (xt:Xt):(SE xt).ft.get 83=some Tryz.f83:=by kernel_rfl
theorem res83:Tryz.f83.results.toList=[.tmp 2]:=by kernel_rfl
def Mp.rowOk (m:Mp) (l:List Int):Bool:=decide ((l.length:Int)=m.C) && (inB l.length 1 8 && !l.any zX)
def Mp.restOk (m:Mp):Bool:=inB m.T 0 9 && (inB m.H 0 3 && (decide ((m.gs.length:Int)<=8) && (decide ((m.ks.length:Int)<=8) && (decide ((m.ps.length:Int)<=12) && (!m.gs.any m.badG && (!m.ks.any m.badK && !m.ps.any (fun p=> !m.is p.1 p.2 2)))))))
def Mp.ok (m:Mp):Bool:=inB m.R 1 6 && (m.cells.all m.rowOk && m.restOk)
theorem kind_asks (xt:Xt) (h:Hp) (l:List Int):kD (SE xt) h (.val (.func (.func 150) #[] #[])) (fun c=> .val (c.headD default)) (l.map c1) (fun c=>match c with|[.int _ x]=>zX x|_=>false):=by
 intro n c K hn hc hk;obtain ⟨x,_,rfl⟩:=xZC.1 hc;exact cAS (bkind_c xt _ x fun n' hn'=>by have:=hk n' hn';rw [xZS];exact this)
theorem qE3 (l:List Int):((l.map c1).any fun c=>match c with|[.int _ x]=>zX x|_=>false)=l.any zX:=by
 rw [xYW];rfl
theorem gs_asks (xt:Xt) (h:Hp) (m:Mp) (ha:m.At xt h) (hr:m.Rect) (b:Nat) (hb:b<h.n) (q0:h.t.get b=some (.cells m.cs 27)):kD (SE xt) h (.fn (.func 152) [] [.ptr b 0]) (fun c=> .agg (c.map .val)) (m.gs.map g4) (fun c=>match c with|[.int _ x,.int _ y,.int _ z,.int _ w]=>m.badG (x,y,z,w)|_=>false):=by
 intro n c K hn hc hk;obtain ⟨g,_,rfl⟩:=xZC.1 hc;exact vE (sok xt) (badG_c xt _ m (ha.up hn) hr b (by simp;omega) q0 g fun n' hn'=>by have:=hk n' hn';rw [xZS];exact this)
theorem ks_asks (xt:Xt) (h:Hp) (m:Mp) (ha:m.At xt h) (b:Nat) (hb:b<h.n) (q0:h.t.get b=some (.cells m.cs 27)):kD (SE xt) h (.fn (.func 156) [] [.ptr b 0]) (fun c=> .agg (c.map .val)) (m.ks.map k3) (fun c=>match c with|[.int _ x,.int _ y,.bool z]=>m.badK (x,y,z)|_=>false):=by
 intro n c K hn hc hk;obtain ⟨g,_,rfl⟩:=xZC.1 hc;exact vE (sok xt) (badK_c xt _ m (ha.up hn) b (by simp;omega) q0 g fun n' hn'=>by have:=hk n' hn';rw [xZS];exact this)
theorem ps_asks (xt:Xt) (h:Hp) (m:Mp) (ha:m.At xt h) (hr:m.Rect) (b:Nat) (hb:b<h.n) (q0:h.t.get b=some (.cells m.cs 27)):kD (SE xt) h (.fn (.func 158) [] [.ptr b 0]) (fun c=> .agg (c.map .val)) (m.ps.map p2) (fun c=>match c with|[.int _ x,.int _ y]=> !m.is x y 2|_=>false):=by
 intro n c K hn hc hk;obtain ⟨g,_,rfl⟩:=xZC.1 hc;exact vE (sok xt) (badP_c xt _ m (ha.up hn) hr b (by simp;omega) q0 g fun n' hn'=>by have:=hk n' hn';rw [xZS];exact this)
theorem any_gs (m:Mp):((m.gs.map g4).any fun c=>match c with|[.int _ x,.int _ y,.int _ z,.int _ w]=>m.badG (x,y,z,w)|_=>false)=m.gs.any m.badG:=by
 rw [xYW];rfl
theorem any_ks (m:Mp):((m.ks.map k3).any fun c=>match c with|[.int _ x,.int _ y,.bool z]=>m.badK (x,y,z)|_=>false)=m.ks.any m.badK:=by
 rw [xYW];rfl
theorem any_ps (m:Mp):((m.ps.map p2).any fun c=>match c with|[.int _ x,.int _ y]=> !m.is x y 2|_=>false)=m.ps.any (fun p=> !m.is p.1 p.2 2):=by
 rw [xYW];rfl
theorem isMap_c (xt:Xt) (h:Hp) (m:Mp) (ha:m.At xt h) {K:KP} (hk: ∀n,h.n<n->K (.ret (.val (.bool m.ok))) (h.up n)):FnA (SE xt) 83 [m.av] h K:=by
 refine xZN ?_ hk;clear hk K;refine xZP (sok xt) (ft83 xt) rfl 83 rfl ?_;have hlen:=ha.len;have hlc:=ha.lc;refine qA fun K hn hp=> ?_;simp only [sw.1,reduceIte,rL];apply hn;clear hn hp K;obtain ⟨h1,hh1⟩: ∃h1:Hp,h1=h.new (.cells m.cs 27):=⟨_,rfl⟩;rw [<-hh1];have ha1:m.At xt h1:=by rw [hh1];exact ha.new _
 have n1:h1.n=h.n+1:=by rw [hh1];rfl
 have f1:Fr h.n h h1:=by rw [hh1];exact (xZT (xZX _)).new _
 have q2:h1.t.get h.n=some (.cells m.cs 27):=by rw [hh1,Hp.new_t,xZY,if_pos rfl]
 have retF: ∀(n:Nat) (tm:T AV),h1.n<=n->tm.get 2=some (.val (.bool false))->m.ok=false->xX (SE xt) Tryz.f83 (fun r h'=>r= .ret (.val (.bool m.ok))/\Fr h.n h h') .ret ⟨tm,83,h1.up n,[]⟩:=fun n tm hn g hm=>qH res83 ⟨by simp [g,hm],f1.up hn⟩;refine qB fun K1 hn hp=> ?_;simp only [sy.1,rE,reduceIte,rL,q2,hlen];refine cAS (wU xt _ _ _ _ fun m1 hm1=> ?_);have hm1:=xZR hm1;cases e1:(decide ((1:Int)<=m.cells.length) && decide ((m.cells.length:Int)<=6))
 ·simp only [sy.1,rE,reduceIte,rL];apply hn;clear hn hp K1;refine qW (by simp only [sy.1,rE,reduceIte]) ?_;refine qB fun K hn hp=> ?_;simp only [sy.1,rL];apply hn;clear hn hp K;refine qQ (retF _ _ hm1 (by simp [xZY]) (by have e2:inB m.R 1 6=false:=e1;simp only [Mp.ok,e2,xZQ]))
 simp only [sy.1,rE,reduceIte,rL];apply hn;clear hn hp K1;refine jB (by simp only [sy.1,rE,reduceIte]) ?_;refine qB fun K hn hp=> ?_;simp only [sy.1,rE,reduceIte,rL,q2,hlen];apply hn;clear hn hp K;refine qD fun K k1 k2 k3 k4 k5=> ?_;have hR:m.R=m.cells.length:=rfl;have hpos:0<m.cells.length:=by
  obtain ⟨z1,_⟩:=xYN.1 e1;have z1:=of_decide_eq_true z1;omega
 obtain ⟨l0,hl0⟩: ∃l,m.cells[0]? =some l:=⟨_,xZV hpos⟩;have hC:m.C=l0.length:=by
  simp only [Mp.C];cases hm:m.cells with
  |nil=>rw [hm] at hl0;simp at hl0
  |cons x y=>rw [hm] at hl0;simp at hl0;subst hl0;rfl
 refine qM (sok xt) (fun st=> ∃(k n:Nat) (tm:T AV),st=⟨tm,83,h1.up n,[]⟩/\h1.n<=n/\k<=m.cells.length/\(∀l∈m.cells.take k,m.rowOk l=true)/\tm.get 1=some (.ptr h.n 0)/\tm.get 11=some m.vc/\tm.get 12=some (iv m.cells.length)/\tm.get 13=some (iv k))
  (fun st=>m.cells.length - (match st.tm.get 13 with|some (.val (.int _ n))=>n.toNat|_=>0)) ?_ ?_
 ·rintro st ⟨k,n,tm,rfl,hn1,hk,hall,g1,g11,g12,g13⟩;have ht:(decide ((k:Int)<(m.cells.length:Int)))=decide (k<m.cells.length):=by simp
  refine qA fun K hn hp=> ?_;simp only [sy.1,rL,g12,g13];apply hn;clear hn hp K;by_cases hlt:k<m.cells.length
  ·obtain ⟨l,hl⟩: ∃l,m.cells[k]? =some l:=⟨_,xZV hlt⟩;obtain ⟨v,i1,i2,i3,i4⟩:=(ha1.up hn1).row hl;obtain ⟨v0,j1,j2,j3,j4⟩:=(ha1.up hn1).row hl0;have i1:=i1 .i64;have j1:=j1 .i64;simp only [Int.natCast_zero] at j1;refine jC (by simp only [sy.1,reduceIte,ht,hlt]) ?_;refine qD fun K' k1' k2' k3' k4' k5'=> ?_;refine qA fun K hn hp=> ?_;simp only [sy.1,rE,reduceIte,rL,g11,g13,i1,i2];apply hn;clear hn hp K;have bad: ∀(tm':T AV) (n':Nat),h1.n<=n'->tm'.get 2=some (.val (.bool false))->m.rowOk l=false->K' .ret ⟨tm',83,h1.up n',[]⟩:=fun tm' n' hn' g hb=>k4' _ (k4 _ (retF n' tm' hn' g (by
    have:m.cells.all m.rowOk=false:=by
     rw [xYH];exact ⟨l,xZU hl,by simp [hb]⟩
    simp only [Mp.ok,this,xZQ,xYQ])))
   by_cases w1:(l.length:Int)=m.C
   rotate_left
   ·refine qA fun K hn hp=> ?_;simp only [sy.1,rE,reduceIte,rL,g1,q2,i4,j1,j2,j4,hC.symm,decide_eq_false w1];apply hn;clear hn hp K;refine wcT (by simp only [sy.1,rE,reduceIte]) ?_;refine qA fun K hn hp=> ?_;simp only [sy.1,rL];apply hn;clear hn hp K;refine qC (bad _ n hn1 (by simp [xZY]) (by simp only [Mp.rowOk,decide_eq_false w1,xZQ]))
   refine qA fun K1 hn hp=> ?_;simp only [sy.1,rE,reduceIte,rL,g1,q2,i4,j1,j2,j4,hC.symm,decide_eq_true w1];refine cAS (wU xt _ _ _ _ fun n2 hn2=> ?_);simp only [xZI] at hn2;cases w2:(decide ((1:Int)<=l.length) && decide ((l.length:Int)<=8))
   ·simp only [sy.1,rE,reduceIte,rL,xZS];apply hn;clear hn hp K1;refine wcT (by simp only [sy.1,rE,reduceIte]) ?_;refine qA fun K hn hp=> ?_;simp only [sy.1,rL];apply hn;clear hn hp K;refine qC (bad _ n2 (by omega) (by simp [xZY]) (by have e2:inB l.length 1 8=false:=w2;simp only [Mp.rowOk,e2,xZQ,xYQ]))
   simp only [sy.1,rE,reduceIte,rL,xZS];refine cAS (any149_c xt _ v _ _ _ (i3.up (by simp;omega)) (by have:=ha.lr l (xZU hl);simpa using this) (kind_asks xt _ l) fun n3 hn3=> ?_);simp only [xZI] at hn3;rw [qE3];cases w3:l.any zX
   rotate_left
   ·simp only [sy.1,rE,reduceIte,rL,xZS];apply hn;clear hn hp K1;refine wcT (by simp only [sy.1,rE,reduceIte]) ?_;refine qA fun K hn hp=> ?_;simp only [sy.1,rL];apply hn;clear hn hp K;refine qC (bad _ n3 (by omega) (by simp [xZY]) (by simp only [Mp.rowOk,w3,xYY,xYQ]))
   simp only [sy.1,rE,reduceIte,rL,xZS];apply hn;clear hn hp K1;refine wcF (by simp only [sy.1,rE,reduceIte]) ?_;refine qR (k1' _ ?_);refine reg fun K1 hn hp=> ?_;have hw:IntKind.i64.wrap ((k:Int)+1)=((k+1:Nat):Int):=by rw [qG _ (by omega) (by omega)];simp
   simp only [sy.1,rE,reduceIte,rL,g13,hw];apply hn;refine ⟨⟨k+1,n3,_,rfl,by omega,hlt,fun x hx=> ?_,?_,?_,?_,?_⟩,?_⟩
   ·rw [xYT,hl] at hx;simp only [xYO,List.mem_append,List.mem_singleton] at hx;rcases hx with hx|rfl
    ·exact hall x hx
    ·have e2:inB x.length 1 8=true:=w2;simp only [Mp.rowOk,decide_eq_true w1,e2,w3,xZD,Bool.and_true]
   ·simp [xZY,g1]
   ·simp [xZY,g11]
   ·simp [xZY,g12]
   ·simp [xZY]
   ·have hm:m.cells.length - (k+1)<m.cells.length - k:=by omega
    simpa [xZY,g13] using hm
  ·refine jD (by simp only [sy.1,reduceIte,ht,hlt]) ?_;refine qL (k2 _ ?_);have hkk:k=m.cells.length:=by omega
   subst hkk;rw [xYU] at hall;have hcell:m.cells.all m.rowOk=true:=xYF.2 hall;have hrect:m.Rect:=fun l hl=>by
    have:=hall l hl;simp only [Mp.rowOk,xYE,decide_eq_true_eq] at this;have h2:=this.1;rw [Mp.C] at h2;omega
   have e1':inB m.R 1 6=true:=e1;have hok:m.ok=m.restOk:=by simp only [Mp.ok,e1',hcell,xZL]
   have hlg:=fun h'=>(ha.gs).len (h':=h') tg23 rfl;have hlk:=fun h'=>(ha.ks).len (h':=h') tg24 rfl;have hlp:=fun h'=>(ha.ps).len (h':=h') tg25 rfl;simp only [xZF] at hlg hlk hlp;have fin: ∀(n':Nat) (tm':T AV) (v:Bool),h1.n<=n'->tm'.get 2=some (.val (.bool v))->m.restOk=v->xX (SE xt) Tryz.f83 (fun r h'=>r= .ret (.val (.bool m.ok))/\Fr h.n h h') .ret ⟨tm',83,h1.up n',[]⟩:=fun n' tm' v hn' g hv=>qH res83 ⟨by simp [g,hok,hv],f1.up hn'⟩;refine qA fun K1 hn hp=> ?_;simp only [sy.1,rE,reduceIte,rL,g1,q2];refine cAS (wU xt _ _ _ _ fun n2 hn2=> ?_);simp only [xZI] at hn2;cases w1:(decide (0<=m.T) && decide (m.T<=9))
   ·simp only [sy.1,rE,reduceIte,rL,xZS];refine hn _ _ (qC (fin _ _ false (by omega) (by simp [xZY]) (by have e2:inB m.T 0 9=false:=w1;simp only [Mp.restOk,e2,xZQ])))
   have e2:inB m.T 0 9=true:=w1;simp only [sy.1,rE,reduceIte,rL,g1,q2,xZS];refine cAS (wU xt _ _ _ _ fun n3 hn3=> ?_);simp only [xZI] at hn3;cases w2:(decide (0<=m.H) && decide (m.H<=3))
   ·simp only [sy.1,rE,reduceIte,rL,xZS];refine hn _ _ (qC (fin _ _ false (by omega) (by simp [xZY]) (by have e3:inB m.H 0 3=false:=w2;simp only [Mp.restOk,e2,e3,xZQ,xZL])))
   have e3:inB m.H 0 3=true:=w2;cases w3:decide ((m.gs.length:Int)<=8)
   ·simp only [sy.1,rE,reduceIte,rL,w3,g1,q2,hlg,xZS];refine hn _ _ (qC (fin _ _ false (by omega) (by simp [xZY]) (by simp only [Mp.restOk,e2,e3,w3,xZQ,xZL])))
   cases w4:decide ((m.ks.length:Int)<=8)
   ·simp only [sy.1,rE,reduceIte,rL,w3,w4,g1,q2,hlg,hlk,xZS];refine hn _ _ (qC (fin _ _ false (by omega) (by simp [xZY]) (by simp only [Mp.restOk,e2,e3,w3,w4,xZQ,xZL])))
   cases w5:decide ((m.ps.length:Int)<=12)
   ·simp only [sy.1,rE,reduceIte,rL,w3,w4,w5,g1,q2,hlg,hlk,hlp,xZS];refine hn _ _ (qC (fin _ _ false (by omega) (by simp [xZY]) (by simp only [Mp.restOk,e2,e3,w3,w4,w5,xZQ,xZL])))
   simp only [sy.1,rE,reduceIte,rL,w3,w4,w5,g1,q2,hlg,hlk,hlp,xZS];refine cAS (any151_c xt _ _ _ _ _ (ha1.up (n:=n3) (by omega)).gs (by simpa using ha.lg) (gs_asks xt _ m (ha1.up (by omega)) hrect h.n (by simp;omega) q2) fun n4 hn4=> ?_);simp only [xZI] at hn4;rw [any_gs];cases w6:m.gs.any m.badG
   rotate_left
   ·simp only [sy.1,rE,reduceIte,rL,xZS];refine hn _ _ (qC (fin _ _ false (by omega) (by simp [xZY]) (by simp only [Mp.restOk,e2,e3,w3,w4,w5,w6,xYY,xZQ,xZL])))
   simp only [sy.1,rE,reduceIte,rL,g1,q2,xZS];refine cAS (qGc xt _ _ _ _ _ (ha1.up (n:=n4) (by omega)).ks (by simpa using ha.lk) (ks_asks xt _ m (ha1.up (by omega)) h.n (by simp;omega) q2) fun n5 hn5=> ?_);simp only [xZI] at hn5;rw [any_ks];cases w7:m.ks.any m.badK
   rotate_left
   ·simp only [sy.1,rE,reduceIte,rL,xZS];refine hn _ _ (qC (fin _ _ false (by omega) (by simp [xZY]) (by simp only [Mp.restOk,e2,e3,w3,w4,w5,w6,w7,xYY,xZD,xZQ,xZL])))
   simp only [sy.1,rE,reduceIte,rL,g1,q2,xZS];refine cAS (any92_c xt _ _ _ _ _ (ha1.up (n:=n5) (by omega)).ps (by simpa using ha.lp) (ps_asks xt _ m (ha1.up (by omega)) hrect h.n (by simp;omega) q2) fun n6 hn6=> ?_);simp only [xZI] at hn6;rw [any_ps];simp only [sy.1,rE,reduceIte,rL,xZS];refine hn _ _ (qC (fin _ _ (!m.ps.any fun p=> !m.is p.1 p.2 2) (by omega) (by simp [xZY]) (by simp only [Mp.restOk,e2,e3,w3,w4,w5,w6,w7,xZD,xZL])))
 ·refine ⟨0,m1,_,rfl,hm1,xZK _,by simp,?_,?_,?_,?_⟩;all_goals simp [xZY]
set_option maxRecDepth 100000
structure Gr where
 v:AV
 ll:List (List Int)
structure Gr.At (g:Gr) (xt:Xt) (h:Hp):Prop where
 grid:GridAt xt h 1 g.v (g.ll.map fun l=>l.map c1)
 lc:g.ll.length<=9223372036854775807
 lr: ∀l∈g.ll,l.length<=9223372036854775807
theorem Gr.At.new {g:Gr} {xt:Xt} {h:Hp} (a:g.At xt h) (o:AO):g.At xt (h.new o):=⟨a.grid.new o,a.lc,a.lr⟩
theorem Gr.At.up {g:Gr} {xt:Xt} {h:Hp} (a:g.At xt h) {n:Nat} (hn:h.n<=n):g.At xt (h.up n):=⟨a.grid.up hn,a.lc,a.lr⟩
theorem Gr.At.fr {g:Gr} {xt:Xt} {h h':Hp} (a:g.At xt h) {M:Nat} (f:Fr M h h') (hM:h.n<=M):g.At xt h':=⟨a.grid.fr f hM,a.lc,a.lr⟩
theorem Gr.At.len {g:Gr} {xt:Xt} {h:Hp} (a:g.At xt h) (h':Hp):zA tb h' 69 g.v=some g.ll.length:=by
 have:=a.grid.len (h':=h') tg69 rfl;simpa using this
theorem Gr.At.row {g:Gr} {xt:Xt} {h:Hp} (a:g.At xt h) {i:Nat} {l:List Int} (hl:g.ll[i]? =some l): ∃v,(∀k:IntKind,qK tb 69 g.v (.val (.int k (i:Int)))=some (elp g.v i))/\qN tb xt h 75 (elp g.v i)=some v/\RowAt xt h 1 v (l.map c1)/\(∀h':Hp,zA tb h' 75 v=some l.length):=by
 obtain ⟨v,h1,h2,h3⟩:=a.grid.at_ tg69 rfl yG rfl rfl (i:=i) (l:=l.map c1) (by simp [hl]);exact ⟨v,h1,h2,h3,fun h'=>by have:=h3.len (h':=h') yG rfl;simpa using this⟩
def Gr.shape (g:Gr) (m:Mp):Bool:=decide (g.ll.map List.length=m.cells.map List.length)
theorem wnt_d {b:Bool}:wnt b (some default)=false:=rfl
theorem ft37 (xt:Xt):(SE xt).ft.get 37=some Tryz.f37:=by kernel_rfl
theorem qAs:Tryz.f37.results.toList=[.tmp 2]:=by kernel_rfl
def Mp.short (m:Mp):Bool:=(m.cells.take 9).all (fun l=> !decide ((10:Int)<l.length)) && (decide ((m.cells.length:Int)<=8) && (decide ((m.gs.length:Int)<=11) && (decide ((m.ks.length:Int)<=11) && decide ((m.ps.length:Int)<=15))))
theorem short_c (xt:Xt) (h:Hp) (m:Mp) (hg:m.At xt h) {K:KP} (hk: ∀n,h.n<n->K (.ret (.val (.bool m.short))) (h.up n)):FnA (SE xt) 37 [m.av] h K:=by
 refine xZN ?_ hk;clear hk K;refine xZP (sok xt) (ft37 xt) rfl 44 rfl ?_;have hlg:=hg.len;have hlg1:=fun h'=>(hg.gs).len (h':=h') tg23 rfl;have hlk:=fun h'=>(hg.ks).len (h':=h') tg24 rfl;have hlp:=fun h'=>(hg.ps).len (h':=h') tg25 rfl;simp only [xZF] at hlg1 hlk hlp;refine qA fun K hn hp=> ?_;simp only [sw.1,reduceIte,rL];apply hn;obtain ⟨h1,hh1⟩: ∃h1:Hp,h1=h.new (.cells m.cs 27):=⟨_,rfl⟩;rw [<-hh1];have hg1:m.At xt h1:=by rw [hh1];exact hg.new _
 have f1:Fr h.n h h1:=by rw [hh1];exact (xZT (xZX _)).new _
 have q2:h1.t.get h.n=some (.cells m.cs 27):=by rw [hh1,Hp.new_t,xZY,if_pos rfl]
 refine qB fun K hn hp=> ?_;simp only [sy.1,rL];apply hn;refine qD fun K k1 k2 k3 k4 k5=> ?_;refine qM (sok xt) (fun st=> ∃(k:Nat) (tm:T AV),st=⟨tm,44,h1,[]⟩/\k<=9/\k<=m.cells.length/\(m.cells.take k).all (fun l=> !decide ((10:Int)<l.length))=true/\tm.get 1=some (.ptr h.n 0)/\tm.get 3=some (iv k))
  (fun st=>m.cells.length - (match st.tm.get 3 with|some (.val (.int _ n))=>n.toNat|_=>0)) ?_ ?_
 ·rintro st ⟨k,tm,rfl,hk9,hkl,hall,g0,g3⟩;have ht:(decide ((k:Int)<(m.cells.length:Int)))=decide (k<m.cells.length):=by simp
  have ht9:(decide ((k:Int)<9))=decide (k<9):=by
   by_cases q:k<9
   ·rw [decide_eq_true q];exact decide_eq_true (by omega)
   ·rw [decide_eq_false q];exact decide_eq_false (by omega)
  by_cases hlt:k<m.cells.length/\k<9
  ·refine qB fun K hn hp=> ?_;simp only [sy.1,rE,reduceIte,rL,g0,q2,g3,hlg,ht,ht9,decide_eq_true hlt.1,decide_eq_true hlt.2];apply hn;obtain ⟨l,hl⟩: ∃l,m.cells[k]? =some l:=⟨_,xZV hlt.1⟩;obtain ⟨v,i1,i2,i3,i4⟩:=hg1.row hl;have i1:=i1 .i64;refine jC (by simp only [sy.1,rE,reduceIte]) ?_;refine qD fun K' k1' k2' k3' k4' k5'=> ?_;refine qA fun K hn hp=> ?_;simp only [sy.1,rE,reduceIte,rL,g0,q2,g3,i1,i2,i4];apply hn;by_cases w1:(10:Int)<l.length
   ·refine wcT (by simp only [sy.1,rE,reduceIte,decide_eq_true w1]) ?_;refine qA fun K hn hp=> ?_;simp only [sy.1,rL];apply hn;refine qC (k4' _ (k4 _ (qH qAs ⟨?_,f1⟩)));have hs:m.short=false:=by
     have:(m.cells.take 9).all (fun l=> !decide ((10:Int)<l.length))=false:=by
      rw [xYH];exact ⟨l,xZU (i:=k) (by rw [xYM,if_pos hlt.2];exact hl),by simp [w1]⟩
     simp only [Mp.short,this,xZQ]
    simp [xZY,hs]
   ·refine wcF (by simp only [sy.1,rE,reduceIte,decide_eq_false w1]) ?_;refine qR (k1' _ ?_);refine reg fun K1 hn hp=> ?_;have hw:IntKind.i64.wrap ((k:Int)+1)=((k+1:Nat):Int):=by rw [qG _ (by omega) (by omega)];simp
    simp only [sy.1,rE,reduceIte,rL,g3,hw];apply hn;refine ⟨⟨k+1,_,rfl,by omega,by omega,?_,?_,?_⟩,?_⟩
    ·rw [xYT,hl];simp only [xYO,List.all_append,hall,List.all_cons,List.all_nil,decide_eq_false w1,xZD,Bool.and_self]
    ·simp [xZY,g0]
    ·simp [xZY]
    ·have hm:m.cells.length - (k+1)<m.cells.length - k:=by omega
     simpa [xZY,g3] using hm
  ·have hend:(m.cells.take 9).all (fun l=> !decide ((10:Int)<l.length))=true:=by
    by_cases q:k<m.cells.length
    ·have:k=9:=by omega
     rw [<-this];exact hall
    ·rw [show k=m.cells.length by omega,xYU] at hall;rw [xYF] at hall ⊢;exact fun x hx=>hall x (List.mem_of_mem_take hx)
   refine jK ?_;by_cases q:k<m.cells.length
   ·have q9: ¬k<9:=fun h9=>hlt ⟨q,h9⟩;refine qA fun K hn hp=> ?_;simp only [sy.1,rE,reduceIte,rL,g0,q2,g3,hlg,ht,ht9,decide_eq_true q,decide_eq_false q9];apply hn;refine jD (by simp only [sy.1,rE,reduceIte]) ?_;refine qL (k2 _ ?_);cases w1:decide ((m.cells.length:Int)<=8)
    ·refine qA fun K hn hp=> ?_;simp only [sy.1,rE,reduceIte,rL,g0,q2,hlg,w1];apply hn;refine qC (qH qAs ⟨?_,f1⟩);simp [xZY,Mp.short,w1]
    cases w2:decide ((m.gs.length:Int)<=11)
    ·refine qA fun K hn hp=> ?_;simp only [sy.1,rE,reduceIte,rL,g0,q2,hlg,hlg1,w1,w2];apply hn;refine qC (qH qAs ⟨?_,f1⟩);simp [xZY,Mp.short,w1,w2]
    cases w3:decide ((m.ks.length:Int)<=11)
    ·refine qA fun K hn hp=> ?_;simp only [sy.1,rE,reduceIte,rL,g0,q2,hlg,hlg1,hlk,w1,w2,w3];apply hn;refine qC (qH qAs ⟨?_,f1⟩);simp [xZY,Mp.short,w1,w2,w3]
    refine qA fun K hn hp=> ?_;simp only [sy.1,rE,reduceIte,rL,g0,q2,hlg,hlg1,hlk,hlp,w1,w2,w3];apply hn;refine qC (qH qAs ⟨?_,f1⟩);simp only [Mp.short,hend,w1,w2,w3,xZL];simp [xZY]
   ·refine qA fun K hn hp=> ?_;simp only [sy.1,rE,reduceIte,rL,g0,q2,g3,hlg,ht,decide_eq_false q];apply hn;refine jD (by simp only [sy.1,rE,reduceIte]) ?_;refine qL (k2 _ ?_);cases w1:decide ((m.cells.length:Int)<=8)
    ·refine qA fun K hn hp=> ?_;simp only [sy.1,rE,reduceIte,rL,g0,q2,hlg,w1];apply hn;refine qC (qH qAs ⟨?_,f1⟩);simp [xZY,Mp.short,w1]
    cases w2:decide ((m.gs.length:Int)<=11)
    ·refine qA fun K hn hp=> ?_;simp only [sy.1,rE,reduceIte,rL,g0,q2,hlg,hlg1,w1,w2];apply hn;refine qC (qH qAs ⟨?_,f1⟩);simp [xZY,Mp.short,w1,w2]
    cases w3:decide ((m.ks.length:Int)<=11)
    ·refine qA fun K hn hp=> ?_;simp only [sy.1,rE,reduceIte,rL,g0,q2,hlg,hlg1,hlk,w1,w2,w3];apply hn;refine qC (qH qAs ⟨?_,f1⟩);simp [xZY,Mp.short,w1,w2,w3]
    refine qA fun K hn hp=> ?_;simp only [sy.1,rE,reduceIte,rL,g0,q2,hlg,hlg1,hlk,hlp,w1,w2,w3];apply hn;refine qC (qH qAs ⟨?_,f1⟩);simp only [Mp.short,hend,w1,w2,w3,xZL];simp [xZY]
 ·refine ⟨0,_,rfl,xZK _,xZK _,by simp,?_,?_⟩;all_goals simp [xZY]
theorem aun_neg {P:Program} {k:IntKind} (n:Int):aun P .neg (.val (.int k n))=some (.val (.int k (k.wrap (-n)))):=by
 have e:(0:Int) - n= -n:=by omega
 rw [<-e];cases k<;>rfl
theorem aload_up (tb:T TE) (xt:Xt) (h:Hp) (n:Nat) (t:TypeId) (a:AV):qN tb xt (h.up n) t a=qN tb xt h t a:=rfl
theorem pT (h:Hp) (o:AO):(h.new o).t.get h.n=some o:=by rw [Hp.new_t,xZY,if_pos rfl]
theorem pR (h:Hp) (o:AO) {k:Nat} (hk:k<h.n):(h.new o).t.get k=h.t.get k:=by rw [Hp.new_t,xZY,if_neg (by omega)]
theorem newset_lt (h:Hp) (o o':AO) {k:Nat} (hk:k<h.n):((h.new o).set h.n o').t.get k=h.t.get k:=by rw [xZH,xZY,if_neg (by omega)];exact pR _ _ hk
theorem newset_fr (h:Hp) (o o':AO):Fr h.n h ((h.new o).set h.n o'):=((xZT (xZX _)).new o).set (xZX _) (by simp [Hp.new_n]) o'
theorem nwE (h:Hp) (o:AO): ∃h1:Hp,h1=h.new o/\h1.n=h.n+1/\h1.t.get h.n=some o/\(∀k,k<h.n->h1.t.get k=h.t.get k)/\Fr h.n h h1:=⟨_,rfl,rfl,pT _ _,fun k hk=>pR _ _ hk,(xZT (xZX _)).new _⟩
theorem nwS (h:Hp) (z o:AO): ∃h1:Hp,h1=(h.new z).set h.n o/\h1.n=h.n+1/\h1.t.get h.n=some o/\(∀k,k<h.n->h1.t.get k=h.t.get k)/\Fr h.n h h1:=⟨_,rfl,rfl,by rw [xZH,xZY,if_pos rfl],fun k hk=>newset_lt _ _ _ hk,newset_fr _ _ _⟩
theorem getD_some {α:Type} {l:List α} {i:Nat} (d:α) (h:i<l.length):l[i]? =some (l.getD i d):=by
 rw [List.getD_eq_getElem?_getD,xZV h];rfl
theorem _root_.Go.Ev.RowAt.c1 {xt:Xt} {h:Hp} {v:AV} {l:List Int} {t e:TypeId} {te ee:TE} (r:RowAt xt h 1 v (l.map c1)) (ht:tb.get t=some te) (hd:te.d= .slice e) (he:tb.get e=some ee) (hs:ee.size=1) (ha:ee.agg=false) {k:Nat} (hk:k<l.length):
  qK tb t v (.val (.int .i64 (k:Int)))=some (elp v k)/\qN tb xt h e (elp v k)=some (iv (l.getD k 0)):=by
 have h1:=r.idx ht hd he hs (i:=k) (by simpa using hk) (k:= .i64);have h2:=r.load0 he ha (i:=k) (c:=Kn.c1 (l.getD k 0)) (u:= .int .i64 (l.getD k 0)) (by rw [xZJ,getD_some 0 hk];rfl) rfl;rw [xYZ] at h1 h2;exact ⟨h1,h2⟩
theorem Mp.At.rowD {m:Mp} {xt:Xt} {h:Hp} (a:m.At xt h) {i:Nat} (hi:i<m.cells.length): ∃v,qK tb 22 m.vc (.val (.int .i64 (i:Int)))=some (elp m.vc i)/\qN tb xt h 58 (elp m.vc i)=some v/\RowAt xt h 1 v ((m.cells.getD i []).map Kn.c1)/\(∀h':Hp,zA tb h' 58 v=some (m.cells.getD i []).length):=by
 obtain ⟨v,h1,h2,h3,h4⟩:=a.row (getD_some [] hi);exact ⟨v,h1 .i64,h2,h3,h4⟩
theorem Gr.At.rowD {g:Gr} {xt:Xt} {h:Hp} (a:g.At xt h) {i:Nat} (hi:i<g.ll.length): ∃v,qK tb 69 g.v (.val (.int .i64 (i:Int)))=some (elp g.v i)/\qN tb xt h 75 (elp g.v i)=some v/\RowAt xt h 1 v ((g.ll.getD i []).map Kn.c1)/\(∀h':Hp,zA tb h' 75 v=some (g.ll.getD i []).length):=by
 obtain ⟨v,h1,h2,h3,h4⟩:=a.row (getD_some [] hi);exact ⟨v,h1 .i64,h2,h3,h4⟩
theorem _root_.Go.Ev.RowAt.m58 {xt:Xt} {h:Hp} {v:AV} {l:List Int} (r:RowAt xt h 1 v (l.map Kn.c1)) {k:Nat} (hk:k<l.length):qK tb 58 v (.val (.int .i64 (k:Int)))=some (elp v k)/\qN tb xt h 137 (elp v k)=some (iv (l.getD k 0)):=r.c1 qA8 rfl qCk rfl rfl hk
theorem _root_.Go.Ev.RowAt.m75 {xt:Xt} {h:Hp} {v:AV} {l:List Int} (r:RowAt xt h 1 v (l.map Kn.c1)) {k:Nat} (hk:k<l.length):qK tb 75 v (.val (.int .i64 (k:Int)))=some (elp v k)/\qN tb xt h 3 (elp v k)=some (iv (l.getD k 0)):=r.c1 yG rfl tg3 rfl rfl hk
theorem _root_.Go.Ev.GridAt.atF {xt:Xt} {h:Hp} {isz:Nat} {v:AV} {ll:List (List (List Value))} {tb:T TE} {t e:TypeId} {te ee:TE} (r:GridAt xt h isz v ll) (ht:tb.get t=some te) (hd:te.d= .slice e) (he:tb.get e=some ee) (hs:ee.size=1) (ha:ee.agg=false) {i:Nat} {l:List (List Value)} (hl:ll[i]? =some l):
  ∃a,(∀k:IntKind,qK tb t v (.val (.int k (i:Int)))=some (elp v i))/\(∀h',Fr h.n h h'->qN tb xt h' e (elp v i)=some a)/\RowAt xt h isz a l:=by
 have hi:=(xYR.1 hl).1;rcases r with ⟨vs,r1,r2,r3⟩|⟨b,off,avs,e',rfl,⟨q1,q2,q3⟩,r3⟩
 ·obtain ⟨u,p1,p2⟩:=r3 i l hl;refine ⟨.val u,fun k=> ?_,fun h' f=> ?_,p2⟩
  ·have:=r1.idx ht hd he hs (i:=i) (by rw [xZF,r2];exact hi) (k:=k)
   rwa [xYZ] at this
  ·have:=(r1.fr f (xZX _)).load0 he ha (i:=i) (c:=[u]) (u:=u) (by simp [p1]) rfl
   rwa [xYZ] at this
 ·obtain ⟨a,p1,p2⟩:=r3 i l hl;refine ⟨a,fun k=> ?_,fun h' f=> ?_,p2⟩
  ·have e1:qA1 (.val (.int k (i:Int)))=some (Int.ofNat i):=rfl;have e2:Nat.blt i ll.length=true:=by rw [xYP];exact hi
   simp [qK,ht,e1,hd,he,e2,hs,elp]
  ·have q4:h'.t.get b=some (.cells avs e'):=by rw [f.at_ b (.inl q1)];exact q3
   simp [qN,he,ha,elp,q4,p1]
theorem Mp.At.rowF {m:Mp} {xt:Xt} {h:Hp} (a:m.At xt h) {i:Nat} (hi:i<m.cells.length): ∃v,qK tb 22 m.vc (.val (.int .i64 (i:Int)))=some (elp m.vc i)/\(∀h',Fr h.n h h'->qN tb xt h' 58 (elp m.vc i)=some v)/\RowAt xt h 1 v ((m.cells.getD i []).map Kn.c1)/\(∀h':Hp,zA tb h' 58 v=some (m.cells.getD i []).length):=by
 obtain ⟨v,h1,h2,h3⟩:=a.cells.atF tg22 rfl qA8 rfl rfl (i:=i) (l:=(m.cells.getD i []).map Kn.c1) (by rw [xZJ,getD_some [] hi];rfl);exact ⟨v,h1 .i64,h2,h3,fun h'=>by have:=h3.len (h':=h') qA8 rfl;simpa using this⟩
theorem qV (a b:Nat):decide ((a:Int)<(b:Int))=decide (a<b):=by simp
theorem qF {k n:Nat} (h:k<n) (hn:n<=9223372036854775807):IntKind.i64.wrap ((k:Int)+1)=((k+1:Nat):Int):=by rw [qG _ (by omega) (by omega)];simp
def fitAt (T:Int) (l t:List Int) (c:Nat):Bool:=
 (inB (t.getD c 0) 0 60 && !(decide (l.getD c 0=1) && !decide (t.getD c 0=0))) && !(decide (0<c) && !decide (l.getD c 0=1) && !decide (l.getD (c - 1) 0=1) && !inB (t.getD (c - 1) 0 - t.getD c 0) 0 T)
def fitRow (T:Int) (l t:List Int):Bool:=(List.range l.length).all (fitAt T l t)
def Gr.cell (g:Gr) (r c:Int):Int:=(g.ll.getD r.toNat []).getD c.toNat 0
def gaugeOk (g:Gr) (x:Int×Int×Int×Int):Bool:=inB (g.cell x.1 x.2.1 - x.2.2.1) (-x.2.2.2) x.2.2.2
def fitRows (m:Mp) (g:Gr):Bool:=(List.range m.cells.length).all (fun r=>fitRow m.T (m.cells.getD r []) (g.ll.getD r []))
def fitsB (m:Mp) (g:Gr):Bool:=fitRows m g && m.gs.all (gaugeOk g)
def Mp.gsIn (m:Mp):Prop:= ∀x∈m.gs,(0<=x.1/\x.1.toNat<m.cells.length)/\(0<=x.2.1/\x.2.1.toNat<(m.cells.getD x.1.toNat []).length)/\(0<=x.2.2.1/\x.2.2.1<=60)/\(0<=x.2.2.2/\x.2.2.2<=9)
theorem eta_hp (h:Hp):({t:=h.t,n:=h.n}:Hp)=h:=rfl
noncomputable def syw:=PLift.up (xZZ @eta_hp (
 xZZ @WOWn_k (
 xZZ @xZI (
 xZZ @Hp.up_t (
 xZZ @sameQ_len (
 xZZ @qDw (
 xZZ @aload_t (
 xZZ @qED (
 xZZ @isRd_call (
 xZZ @qEE (
 xZZ @isCall_nc (
 xZZ @inP_nil (
 xZZ @inP_cons (
 xZZ @SameP_nil (
 xZZ @qGU (
 xZZ @Same1_nil (
 xZZ @qGW (
 xZZ @sameQ_f (
 xZZ @sameQ_ld (
 xZZ @true_and (
 xZZ @and_true (
 xZZ @WOW_nil (
 xZZ @WOW_cons (
 xZZ @gateW_t (
 xZZ @gateW_fs (
 xZZ @WOWn_c (
 xZZ @WOWn_r (
 xZZ @WOWn_s (
 xZZ @qGB (
 xZZ @qGw (
 xZZ @isEf_load (
 xZZ @isRd_load (
 xZZ @isEf_move (
 xZZ @isRd_move (
 xZZ @qFD (
 xZZ @qFB (
 xZZ @isEf_pick (
 xZZ @isRd_pick (
 xZZ @isEf_nc (
 xZZ @isRd_nc (
 xZZ @isEf_bin (
 xZZ @isRd_bin (
 xZZ @isEf_un (
 xZZ @isRd_un (
 xZZ @isEf_fa (
 xZZ @isRd_fa (
 xZZ @isEf_f (
 xZZ @isRd_f (
 xZZ @isEf_ia (
 xZZ @isRd_ia (
 xZZ @isEf_i (
 xZZ @isRd_i (
 xZZ @qGC (
 xZZ @qGx (
 xZZ @isEf_ex (
 xZZ @isRd_ex (
 xZZ @isEf_call (
 xZZ @isRd_len (
 xZZ @isRd_min (
 xZZ @isRd_max (
 xZZ @WOA_nil (
 xZZ @qEs (
 xZZ @qGu (
 xZZ @qE9 (
 xZZ @aun_neg (
 xZZ @aload_up @wnt_d))))))))))))))))))))))))))))))))))))))))))))))))))))))))))))))))))
end Go.Proofs.Kn
end
namespace Go.Proofs.Th
abbrev B:=Int×Int
def nar (x s:B):B:=(max x.1 s.1,min x.2 s.2)
def put (f:Nat->B) (c:Nat) (v:B):Nat->B:=fun k=>if k=c then v else f k
theorem put_at (f:Nat->B) (c:Nat) (v:B):put f c v c=v:=by simp [put]
theorem put_ne (f:Nat->B) {c k:Nat} (v:B) (h:k≠c):put f c v k=f k:=by simp [put,h]
def Sub (f g:Nat->B):Prop:= ∀c,(g c).1<=(f c).1/\(f c).2<=(g c).2
theorem Sub.refl (f:Nat->B):Sub f f:=fun _=>⟨Int.le_refl _,Int.le_refl _⟩
theorem Sub.trans {f g h:Nat->B} (a:Sub f g) (b:Sub g h):Sub f h:=fun c=>⟨Int.le_trans (b c).1 (a c).1,Int.le_trans (a c).2 (b c).2⟩
theorem Sub.antisymm {f g:Nat->B} (a:Sub f g) (b:Sub g f):f=g:=by
 funext c
 exact Prod.ext (Int.le_antisymm (b c).1 (a c).1) (Int.le_antisymm (a c).2 (b c).2)
def narrow (f:Nat->B) (c:Nat) (s:B):Option (Nat->B):=if (nar (f c) s).2<(nar (f c) s).1 then none else some (put f c (nar (f c) s))
section
variable (T:Int) (j:Nat->Bool)
def toR (x:B):B:=(x.1 - T,x.2)
def toL (x:B):B:=(x.1,x.2+T)
def stepR (f:Nat->B) (c:Nat):Option (Nat->B):=if j c then narrow f (c+1) (toR T (f c)) else some f
def stepL (f:Nat->B) (c:Nat):Option (Nat->B):=if j c then narrow f c (toL T (f (c+1))) else some f
def sweepR (f:Nat->B):Nat->Option (Nat->B)
 |0=>some f
 |k+1=>(sweepR f k).bind fun g=>stepR T j g k
def sweepL:(Nat->B)->Nat->Option (Nat->B)
 |f,0=>some f
 |f,k+1=>(stepL T j f k).bind fun g=>sweepL g k
def pair (f:Nat->B) (c:Nat):Nat->B:=if j c then put (put f c (nar (f c) (toL T (f (c+1))))) (c+1) (nar (f (c+1)) (toR T (f c))) else f
def round (f:Nat->B):Nat->Nat->B
 |0=>f
 |k+1=>pair T j (round f k) k
def vX (f:Nat->B) (n:Nat):Nat->Nat->B
 |0=>f
 |k+1=>round T j (vX f n k) n
def qBA (g:Nat->B) (n:Nat):Prop:= ∀c,c<n->j c=true->(g c).1 - T<=(g (c+1)).1/\(g (c+1)).2<=(g c).2/\(g (c+1)).1<=(g c).1/\(g c).2<=(g (c+1)).2+T
theorem kM {f g:Nat->B} {c:Nat} {s:B} (h:narrow f c s=some g):g=put f c (nar (f c) s)/\(nar (f c) s).1<=(nar (f c) s).2:=by
 unfold narrow at h;split at h
 ·cases h
 ·exact ⟨(Option.some.inj h).symm,by omega⟩
theorem qFv (f:Nat->B) (c:Nat):Sub (pair T j f c) f:=by
 intro k;unfold pair;split
 ·by_cases h1:k=c+1
  ·subst h1;rw [put_at];simp only [nar,toR];omega
  ·rw [put_ne _ _ h1];by_cases h2:k=c
   ·subst h2;rw [put_at];simp only [nar,toL];omega
   ·rw [put_ne _ _ h2];omega
 ·omega
theorem gO (f:Nat->B): ∀k,Sub (round T j f k) f
 |0=>Sub.refl f
 |k+1=>(qFv T j _ k).trans (gO f k)
theorem pair_keep {g f:Nat->B} {c:Nat} (hg:j c=true->(g c).1 - T<=(g (c+1)).1/\(g (c+1)).2<=(g c).2/\(g (c+1)).1<=(g c).1/\(g c).2<=(g (c+1)).2+T) (h:Sub g f):Sub g (pair T j f c):=by
 intro k;unfold pair;split
 ·rename_i hj;have h0:=h c;have h1:=h (c+1);have hh:=hg hj;by_cases q1:k=c+1
  ·subst q1;rw [put_at];simp only [nar,toR];omega
  ·rw [put_ne _ _ q1];by_cases q2:k=c
   ·subst q2;rw [put_at];simp only [nar,toL];omega
   ·rw [put_ne _ _ q2];exact h k
 ·exact h k
theorem qCt {g f:Nat->B} {n:Nat} (hg:qBA T j g n) (h:Sub g f): ∀k,k<=n->Sub g (round T j f k)
 |0,_=>h
 |k+1,hk=>pair_keep T j (hg k (by omega)) (qCt hg h k (by omega))
theorem qBF {g f:Nat->B} {n:Nat} (hg:qBA T j g n) (h:Sub g f): ∀k,Sub g (vX T j f n k)
 |0=>h
 |k+1=>qCt T j hg (qBF hg h k) n (xZX _)
theorem qBG {f f':Nat->B} (hs:Sub f' f): ∀(k:Nat) (g:Nat->B),sweepR T j f k=some g->Sub (round T j f' k) g
 |0,g,h=>by cases h;exact hs
 |k+1,g,h=>by
  simp only [sweepR] at h;cases h0:sweepR T j f k with
  |none=>rw [h0] at h;cases h
  |some g0=>
   rw [h0] at h;simp only [xZW] at h;have ih:=qBG hs k g0 h0;intro c;simp only [round];unfold stepR at h;unfold pair;split at h
   ·rename_i hj;rw [if_pos hj,(kM h).1];have i0:=ih k;have i1:=ih (k+1);by_cases q1:c=k+1
    ·subst q1;rw [put_at,put_at];simp only [nar,toR];omega
    ·rw [put_ne _ _ q1,put_ne _ _ q1];by_cases q2:c=k
     ·subst q2;rw [put_at];simp only [nar,toL];omega
     ·rw [put_ne _ _ q2];exact ih c
   ·rename_i hj;cases h;rw [if_neg hj];exact ih c
theorem qDC {f:Nat->B} (hle: ∀c,(f c).1<=(f c).2): ∀(k:Nat) (g:Nat->B),sweepR T j f k=some g->Sub g f/\(∀c,(g c).1<=(g c).2)/\ ∀c,c<k->j c=true->(g c).1 - T<=(g (c+1)).1/\(g (c+1)).2<=(g c).2
 |0,g,h=>by cases h;exact ⟨Sub.refl _,hle,fun c hc=>by omega⟩
 |k+1,g,h=>by
  simp only [sweepR] at h;cases h0:sweepR T j f k with
  |none=>rw [h0] at h;cases h
  |some g0=>
   rw [h0] at h;simp only [xZW] at h;obtain ⟨i1,i2,i3⟩:=qDC hle k g0 h0;unfold stepR at h;split at h
   ·rename_i hj;obtain ⟨rfl,hv⟩:=kM h;refine ⟨fun c=> ?_,fun c=> ?_,fun c hc hjc=> ?_⟩
    ·by_cases q:c=k+1
     ·subst q;rw [put_at];have:=i1 (k+1);simp only [nar];omega
     ·rw [put_ne _ _ q];exact i1 c
    ·by_cases q:c=k+1
     ·subst q;rw [put_at];exact hv
     ·rw [put_ne _ _ q];exact i2 c
    ·by_cases q:c=k
     ·subst q;rw [put_at,put_ne _ _ (by omega)];simp only [nar,toR];omega
     ·rw [put_ne _ _ (by omega),put_ne _ _ (by omega)];exact i3 c (by omega) hjc
   ·rename_i hj;cases h;refine ⟨i1,i2,fun c hc hjc=> ?_⟩;by_cases q:c=k
    ·subst q;exact absurd hjc hj
    ·exact i3 c (by omega) hjc
theorem qBa (hT:0<=T) {n:Nat}: ∀(k:Nat) (f g:Nat->B),sweepL T j f k=some g->(∀c,(f c).1<=(f c).2)->(∀c,c<n->j c=true->(f c).1 - T<=(f (c+1)).1/\(f (c+1)).2<=(f c).2)->(∀c,k<=c->c<n->j c=true->(f (c+1)).1<=(f c).1/\(f c).2<=(f (c+1)).2+T)->k<=n->Sub g f/\(∀c,(g c).1<=(g c).2)/\qBA T j g n
 |0,f,g,h,hle,hR,hL,_=>by
  cases h;exact ⟨Sub.refl _,hle,fun c hc hj=>⟨(hR c hc hj).1,(hR c hc hj).2,(hL c (xZK _) hc hj).1,(hL c (xZK _) hc hj).2⟩⟩
 |k+1,f,g,h,hle,hR,hL,hk=>by
  simp only [sweepL] at h;cases h0:stepL T j f k with
  |none=>rw [h0] at h;cases h
  |some f1=>
   rw [h0] at h;simp only [xZW] at h;unfold stepL at h0;split at h0
   ·rename_i hj;obtain ⟨rfl,hv⟩:=kM h0;have hk0:=hR k (by omega) hj;obtain ⟨s1,s2,s3⟩:=qBa hT k _ g h (fun c=>by
     by_cases q:c=k
     ·subst q;rw [put_at];exact hv
     ·rw [put_ne _ _ q];exact hle c) (fun c hc hjc=>by
     by_cases q:c=k
     ·subst q;rw [put_at,put_ne _ _ (by omega)];simp only [nar,toL];omega
     ·by_cases q1:c+1=k
      ·subst q1;rw [put_at,put_ne _ _ (by omega)];have:=hR c hc hjc;simp only [nar,toL];omega
      ·rw [put_ne _ _ q,put_ne _ _ q1];exact hR c hc hjc) (fun c hc hcn hjc=>by
     by_cases q:c=k
     ·subst q;rw [put_at,put_ne _ _ (by omega)];simp only [nar,toL];omega
     ·rw [put_ne _ _ q,put_ne _ _ (by omega)];exact hL c (by omega) hcn hjc) (by omega)
    refine ⟨s1.trans fun c=> ?_,s2,s3⟩;by_cases q:c=k
    ·subst q;rw [put_at];simp only [nar];omega
    ·rw [put_ne _ _ q];omega
   ·rename_i hj;cases h0;exact qBa hT k _ g h hle hR (fun c hc hcn hjc=>by
     by_cases q:c=k
     ·subst q;exact absurd hjc hj
     ·exact hL c (by omega) hcn hjc) (by omega)
theorem qDF: ∀(k:Nat) (f g:Nat->B),sweepL T j f k=some g->(∀c,k<=c->g c=f c)/\ ∀c,c<k->g c=if j c then nar (f c) (toL T (g (c+1))) else f c
 |0,f,g,h=>by
  cases h;exact ⟨fun _ _=>rfl,fun c hc=>by omega⟩
 |k+1,f,g,h=>by
  simp only [sweepL] at h;cases h0:stepL T j f k with
  |none=>rw [h0] at h;cases h
  |some f1=>
   rw [h0] at h;simp only [xZW] at h;obtain ⟨i1,i2⟩:=qDF k f1 g h;have hf: ∀c,c≠k->f1 c=f c:=fun c hc=>by
    unfold stepL at h0;split at h0
    ·rw [(kM h0).1,put_ne _ _ hc]
    ·cases h0;rfl
   refine ⟨fun c hc=>by rw [i1 c (by omega),hf c (by omega)],fun c hc=> ?_⟩;by_cases q:c=k
   ·subst q;rw [i1 c (xZX _),i1 (c+1) (by omega),hf (c+1) (by omega)];unfold stepL at h0;split at h0
    ·rename_i hj;rw [(kM h0).1,put_at,if_pos hj]
    ·rename_i hj;cases h0;rw [if_neg hj]
   ·rw [i2 c (by omega),hf c q]
theorem qCs (f:Nat->B) {c:Nat} (hj:j c=true): ∀k,c<k->(round T j f k c).2<=(f (c+1)).2+T/\(f (c+1)).1<=(round T j f k c).1
 |0,h=>by omega
 |k+1,h=>by
  by_cases q:c=k
  ·subst q;have hs:=gO T j f c (c+1);simp only [round,pair,hj,if_true];rw [put_ne _ _ (by omega),put_at];simp only [nar,toL];omega
  ·have ih:=qCs f hj k (by omega);have hs:=qFv T j (round T j f k) k c;simp only [round];omega
theorem rounds_eq (hT:0<=T) {n:Nat} {f fR g:Nat->B} (hle: ∀c,(f c).1<=(f c).2) (hR:sweepR T j f n=some fR) (hL:sweepL T j fR n=some g):(∀m,n+1<=m->vX T j f n m=g)/\Sub g f/\(∀c,(g c).1<=(g c).2)/\qBA T j g n:=by
 obtain ⟨r1,r2,r3⟩:=qDC T j hle n fR hR;obtain ⟨l1,l2,l3⟩:=qBa T j hT n fR g hL r2 r3 (fun c h1 h2=>by omega) (xZX _);obtain ⟨e1,e2⟩:=qDF T j n fR g hL;have hgf:Sub g f:=l1.trans r1;have hone: ∀i,Sub (vX T j f n (i+1)) fR:=fun i=>by
  induction i with
  |zero=>exact qBG T j (Sub.refl f) n fR hR
  |succ i ih=>exact (gO T j _ n).trans ih
 have key: ∀i,∀c,n<=c+i->(g c).1<=(vX T j f n (i+1) c).1/\(vX T j f n (i+1) c).2<=(g c).2:=fun i=>by
  induction i with
  |zero=>
   intro c hc;rw [e1 c (by omega)];exact hone 0 c
  |succ i ih=>
   intro c hc;have hs:=gO T j (vX T j f n (i+1)) n c;by_cases q:n<=c+i
   ·have:=ih c q;show (g c).1<=(round T j (vX T j f n (i+1)) n c).1/\(round T j (vX T j f n (i+1)) n c).2<=(g c).2;omega
   ·have h1:=hone (i+1) c;rw [e2 c (by omega)];split
    ·rename_i hj;have h2:=qCs T j (vX T j f n (i+1)) hj n (by omega);have h3:=ih (c+1) (by omega);change (fR c).1<=(round T j (vX T j f n (i+1)) n c).1/\(round T j (vX T j f n (i+1)) n c).2<=(fR c).2 at h1;show _<=(round T j (vX T j f n (i+1)) n c).1/\(round T j (vX T j f n (i+1)) n c).2<=_;simp only [nar,toL];omega
    ·exact h1
 refine ⟨fun m hm=> ?_,hgf,l2,l3⟩;obtain ⟨i,rfl⟩: ∃i,m=i+1:=⟨m - 1,by omega⟩;exact Sub.antisymm (fun c=>key i c (by omega)) (qBF T j l3 hgf (i+1))
def True1 (t:Nat->Int) (n:Nat):Prop:= ∀c,c<n->j c=true->t c - T<=t (c+1)/\t (c+1)<=t c
def In (t:Nat->Int) (f:Nat->B):Prop:= ∀c,(f c).1<=t c/\t c<=(f c).2
theorem qBf {t:Nat->Int} {f:Nat->B} {c:Nat} {s:B} (h:In t f) (hs:s.1<=t c/\t c<=s.2): ∃g,narrow f c s=some g/\In t g:=by
 have h0:=h c;refine ⟨put f c (nar (f c) s),?_,fun k=> ?_⟩
 ·unfold narrow;rw [if_neg (by simp only [nar];omega)]
 ·by_cases q:k=c
  ·subst q;rw [put_at];simp only [nar];omega
  ·rw [put_ne _ _ q];exact h k
theorem qDD {t:Nat->Int} {f:Nat->B} {n:Nat} (ht:True1 T j t n) (h:In t f): ∀k,k<=n-> ∃g,sweepR T j f k=some g/\In t g
 |0,_=>⟨f,rfl,h⟩
 |k+1,hk=>by
  obtain ⟨g,e,hg⟩:=qDD ht h k (by omega);simp only [sweepR,e,xZW];unfold stepR;split
  ·rename_i hj;have:=ht k (by omega) hj;have:=hg k;exact qBf hg (by simp only [toR];omega)
  ·exact ⟨g,rfl,hg⟩
theorem qDE {t:Nat->Int} {n:Nat} (ht:True1 T j t n): ∀(k:Nat) (f:Nat->B),In t f->k<=n-> ∃g,sweepL T j f k=some g/\In t g
 |0,f,h,_=>⟨f,rfl,h⟩
 |k+1,f,h,hk=>by
  have: ∃g,stepL T j f k=some g/\In t g:=by
   unfold stepL;split
   ·rename_i hj;have:=ht k (by omega) hj;have:=h (k+1);exact qBf h (by simp only [toL];omega)
   ·exact ⟨f,rfl,h⟩
  obtain ⟨g,e,hg⟩:=this;simp only [sweepL,e,xZW];exact qDE ht k g hg (by omega)
end
structure Gg where
 r:Nat
 c:Nat
 seen:Int
 off:Int
abbrev Grid:=Nat->Nat->B
def Gg.span (g:Gg):B:=(g.seen - g.off,g.seen+g.off)
def putRow (G:Grid) (r:Nat) (f:Nat->B):Grid:=fun k=>if k=r then f else G k
theorem putRow_at (G:Grid) (r:Nat) (f:Nat->B):putRow G r f r=f:=by simp [putRow]
theorem putRow_ne (G:Grid) {r k:Nat} (f:Nat->B) (h:k≠r):putRow G r f k=G k:=by simp [putRow,h]
def narrowG (G:Grid) (r c:Nat) (s:B):Option Grid:=(narrow (G r) c s).map (putRow G r)
def gaugesP:Grid->List Gg->Option Grid
 |G,[]=>some G
 |G,g::l=>(narrowG G g.r g.c g.span).bind fun G'=>gaugesP G' l
def qB5:Grid->List Gg->Grid
 |G,[]=>G
 |G,g::l=>qB5 (putRow G g.r (put (G g.r) g.c (nar (G g.r g.c) g.span))) l
def Ok (G:Grid):Prop:= ∀r c,(G r c).1<=(G r c).2
def SubG (G H:Grid):Prop:= ∀r,Sub (G r) (H r)
def InG (t:Nat->Nat->Int) (G:Grid):Prop:= ∀r,In (t r) (G r)
theorem qEu {G G':Grid} {r c:Nat} {s:B} (h:narrowG G r c s=some G'):G'=putRow G r (put (G r) c (nar (G r c) s))/\(nar (G r c) s).1<=(nar (G r c) s).2:=by
 unfold narrowG at h;cases hn:narrow (G r) c s with
 |none=>rw [hn] at h;cases h
 |some f=>
  rw [hn] at h;obtain ⟨h1,h2⟩:=kM hn;simp only [xZG,Option.some.injEq] at h;exact ⟨by rw [<-h,h1],h2⟩
theorem qCO: ∀(l:List Gg) (G G':Grid),gaugesP G l=some G'->Ok G->qB5 G l=G'/\SubG G' G/\Ok G'/\ ∀g∈l,g.span.1<=(G' g.r g.c).1/\(G' g.r g.c).2<=g.span.2
 |[],G,G',h,ho=>by
  cases h;exact ⟨rfl,fun _=>Sub.refl _,ho,fun g hg=>by cases hg⟩
 |g::l,G,G',h,ho=>by
  simp only [gaugesP] at h;cases hn:narrowG G g.r g.c g.span with
  |none=>rw [hn] at h;cases h
  |some G1=>
   rw [hn] at h;simp only [xZW] at h;obtain ⟨rfl,hv⟩:=qEu hn;have key: ∀r c,((putRow G g.r (put (G g.r) g.c (nar (G g.r g.c) g.span))) r c)=if r=g.r/\c=g.c then nar (G g.r g.c) g.span else G r c:=fun r c=>by
    by_cases q:r=g.r
    ·subst q;rw [putRow_at];by_cases q:c=g.c
     ·subst q;rw [put_at,if_pos ⟨rfl,rfl⟩]
     ·rw [put_ne _ _ q,if_neg (fun h=>q h.2)]
    ·rw [putRow_ne _ _ q,if_neg (fun h=>q h.1)]
   obtain ⟨i1,i2,i3,i4⟩:=qCO l _ G' h (fun r c=>by
    rw [key];split
    ·exact hv
    ·exact ho r c)
   refine ⟨i1,fun r=>(i2 r).trans fun c=> ?_,i3,fun x hx=> ?_⟩
   ·rw [key];split
    ·rename_i hq;rw [hq.1,hq.2];simp only [nar];omega
    ·omega
   ·rcases List.mem_cons.1 hx with rfl|hx
    ·have:=i2 x.r x.c;rw [key,if_pos ⟨rfl,rfl⟩] at this;simp only [nar] at this;omega
    ·exact i4 x hx
theorem qCP {t:Nat->Nat->Int}: ∀(l:List Gg) (G:Grid),InG t G->(∀g∈l,g.span.1<=t g.r g.c/\t g.r g.c<=g.span.2)-> ∃G',gaugesP G l=some G'/\InG t G'
 |[],G,h,_=>⟨G,rfl,h⟩
 |g::l,G,h,hg=>by
  obtain ⟨f,e,hf⟩:=qBf (h g.r) (hg g List.mem_cons_self);have hn:narrowG G g.r g.c g.span=some (putRow G g.r f):=by unfold narrowG;rw [e];rfl
  simp only [gaugesP,hn,xZW];refine qCP l _ (fun r=> ?_) fun x hx=>hg x (List.mem_cons_of_mem _ hx);by_cases q:r=g.r
  ·subst q;rw [putRow_at];exact hf
  ·rw [putRow_ne _ _ q];exact h r
section
variable (T:Int) (J:Nat->Nat->Bool) (n:Nat)
def rowP (G:Grid) (r:Nat):Option Grid:=(sweepR T (J r) (G r) n).bind fun f=>(sweepL T (J r) f n).map (putRow G r)
def rowsP (G:Grid):Nat->Option Grid
 |0=>some G
 |k+1=>(rowsP G k).bind fun G'=>rowP T J n G' k
theorem rowP_some {G G':Grid} {r:Nat} (h:rowP T J n G r=some G'): ∃f g,sweepR T (J r) (G r) n=some f/\sweepL T (J r) f n=some g/\G'=putRow G r g:=by
 unfold rowP at h;cases h1:sweepR T (J r) (G r) n with
 |none=>rw [h1] at h;cases h
 |some f=>
  rw [h1] at h;simp only [xZW] at h;cases h2:sweepL T (J r) f n with
  |none=>rw [h2] at h;cases h
  |some g=>
   rw [h2] at h;simp only [xZG,Option.some.injEq] at h;exact ⟨f,g,rfl,h2,h.symm⟩
theorem qFm: ∀(k:Nat) (G G':Grid),rowsP T J n G k=some G'->(∀r,k<=r->G' r=G r)/\ ∀r,r<k-> ∃f,sweepR T (J r) (G r) n=some f/\sweepL T (J r) f n=some (G' r)
 |0,G,G',h=>by cases h;exact ⟨fun _ _=>rfl,fun r hr=>by omega⟩
 |k+1,G,G',h=>by
  simp only [rowsP] at h;cases h1:rowsP T J n G k with
  |none=>rw [h1] at h;cases h
  |some G1=>
   rw [h1] at h;simp only [xZW] at h;obtain ⟨i1,i2⟩:=qFm k G G1 h1;obtain ⟨f,g,e1,e2,rfl⟩:=rowP_some T J n h;refine ⟨fun r hr=>by rw [putRow_ne _ _ (by omega)];exact i1 r (by omega),fun r hr=> ?_⟩;by_cases q:r=k
   ·subst q;rw [i1 r (xZX _)] at e1;exact ⟨f,e1,by rw [putRow_at];exact e2⟩
   ·rw [putRow_ne _ _ q];exact i2 r (by omega)
theorem qFn {t:Nat->Nat->Int}: ∀(k:Nat) (G:Grid),InG t G->(∀r,r<k->True1 T (J r) (t r) n)-> ∃G',rowsP T J n G k=some G'/\InG t G'
 |0,G,h,_=>⟨G,rfl,h⟩
 |k+1,G,h,ht=>by
  obtain ⟨G1,e,h1⟩:=qFn k G h (fun r hr=>ht r (by omega));obtain ⟨f,e2,h2⟩:=qDD T (J k) (ht k (by omega)) (h1 k) n (xZX _);obtain ⟨g,e3,h3⟩:=qDE T (J k) (ht k (by omega)) n f h2 (xZX _);refine ⟨putRow G1 k g,?_,fun r=> ?_⟩
  ·simp only [rowsP,e,xZW,rowP,e2,e3,xZG]
  ·by_cases q:r=k
   ·subst q;rw [putRow_at];exact h3
   ·rw [putRow_ne _ _ q];exact h1 r
def boundP (G:Grid) (gs:List Gg) (R:Nat):Option Grid:=(gaugesP G gs).bind fun G'=>rowsP T J n G' R
def thickR (G:Grid) (gs:List Gg) (R m:Nat):Grid:=fun r=>if r<R then vX T (J r) (qB5 G gs r) n m else qB5 G gs r
structure TrueG (t:Nat->Nat->Int) (gs:List Gg) (R:Nat):Prop where
 row: ∀r,r<R->True1 T (J r) (t r) n
 gs: ∀g∈gs,g.span.1<=t g.r g.c/\t g.r g.c<=g.span.2
theorem bound_ok (hT:0<=T) {G G':Grid} {gs:List Gg} {R:Nat} (ho:Ok G) (h:boundP T J n G gs R=some G') {m:Nat} (hm:n+1<=m):thickR T J n G gs R m=G'/\SubG G' G/\Ok G'/\(∀r,r<R->qBA T (J r) (G' r) n)/\TrueG T J n (fun r c=>(G' r c).1) gs R/\TrueG T J n (fun r c=>(G' r c).2) gs R:=by
 unfold boundP at h;cases h1:gaugesP G gs with
 |none=>rw [h1] at h;cases h
 |some G1=>
  rw [h1] at h;simp only [xZW] at h;obtain ⟨g1,g2,g3,g4⟩:=qCO gs G G1 h1 ho;obtain ⟨r1,r2⟩:=qFm T J n R G1 G' h;have hrow: ∀r,r<R->(∀m,n+1<=m->vX T (J r) (G1 r) n m=G' r)/\Sub (G' r) (G1 r)/\(∀c,(G' r c).1<=(G' r c).2)/\qBA T (J r) (G' r) n:=fun r hr=>by
   obtain ⟨f,e1,e2⟩:=r2 r hr;exact rounds_eq T (J r) hT (g3 r) e1 e2
  have hsub:SubG G' G1:=fun r=>by
   by_cases q:r<R
   ·exact (hrow r q).2.1
   ·rw [r1 r (by omega)];exact Sub.refl _
  have hok:Ok G':=fun r c=>by
   by_cases q:r<R
   ·exact (hrow r q).2.2.1 c
   ·rw [r1 r (by omega)];exact g3 r c
  refine ⟨?_,fun r=>(hsub r).trans (g2 r),hok,fun r hr=>(hrow r hr).2.2.2,⟨fun r hr c hc hj=> ?_,fun g hg=> ?_⟩,⟨fun r hr c hc hj=> ?_,fun g hg=> ?_⟩⟩
  ·funext r
   unfold thickR;rw [g1];split
   ·rename_i q;exact (hrow r q).1 m hm
   ·rename_i q;rw [r1 r (by omega)]
  ·have:=(hrow r hr).2.2.2 c hc hj;exact ⟨this.1,this.2.2.1⟩
  ·have a1:=g4 g hg;have a2:=hsub g.r g.c;have a3:=hok g.r g.c;show _<=(G' g.r g.c).1/\(G' g.r g.c).1<=_;omega
  ·have:=(hrow r hr).2.2.2 c hc hj;show (G' r c).2 - T<=(G' r (c+1)).2/\(G' r (c+1)).2<=(G' r c).2;omega
  ·have a1:=g4 g hg;have a2:=hsub g.r g.c;have a3:=hok g.r g.c;show _<=(G' g.r g.c).2/\(G' g.r g.c).2<=_;omega
theorem bound_in {t:Nat->Nat->Int} {G:Grid} {gs:List Gg} {R:Nat} (ht:TrueG T J n t gs R) (h:InG t G): ∃G',boundP T J n G gs R=some G'/\InG t G':=by
 obtain ⟨G1,e1,h1⟩:=qCP gs G h ht.gs;obtain ⟨G2,e2,h2⟩:=qFn T J n R G1 h1 ht.row;exact ⟨G2,by simp only [boundP,e1,xZW,e2],h2⟩
end
end Go.Proofs.Th
noncomputable section
namespace Go.Proofs.Kn
open Go Go.Ev
set_option maxRecDepth 100000
def j9 (f:Nat->Int×Int) (C:Nat):List AV:=(List.range (C*2)).map fun k=>if k % 2=0 then iv (f (k / 2)).1 else iv (f (k / 2)).2
theorem yO (f:Nat->Int×Int) (C:Nat):(j9 f C).length=C*2:=by simp [j9]
theorem wE (f:Nat->Int×Int) {C c:Nat} (h:c<C):(j9 f C)[c*2]? =some (iv (f c).1):=by
 simp only [j9,xZJ];rw [xZE (by omega)];simp
theorem pX (f:Nat->Int×Int) {C c:Nat} (h:c<C):(j9 f C)[c*2+1]? =some (iv (f c).2):=by
 simp only [j9,xZJ];rw [xZE (by omega)];have e1:(c*2+1) % 2=1:=by omega
 have e2:(c*2+1) / 2=c:=by omega
 simp [e1,e2]
theorem flatR_two (f:Nat->Int×Int) {C c:Nat} (h:c<C):((j9 f C).drop (c*2)).take 2=[iv (f c).1,iv (f c).2]:=by
 apply xYI
 intro k;rw [xYM,List.getElem?_drop];by_cases h0:k=0
 ·subst h0;rw [if_pos (by omega),Nat.add_zero,wE f h];rfl
 by_cases h1:k=1
 ·subst h1;rw [if_pos (by omega),pX f h];rfl
 rw [if_neg (by omega)];exact (xZB (by simp;omega)).symm
theorem qBj (f:Nat->Int×Int) {C c:Nat} (h:c<C) (x y:Int):((j9 f C).set (c*2) (iv x)).set (c*2+1) (iv y)=j9 (Th.put f c (x,y)) C:=by
 apply xYI
 intro k;rw [xYJ,xYJ];simp only [List.length_set,yO];by_cases h1:c*2+1=k
 ·subst h1;rw [if_pos rfl,if_pos (by omega),pX _ h,Th.put_at]
 ·rw [if_neg h1];by_cases h0:c*2=k
  ·subst h0;rw [if_pos rfl,if_pos (by omega),wE _ h,Th.put_at]
  ·rw [if_neg h0];by_cases hk:k<C*2
   ·simp only [j9,xZJ];rw [xZE hk];simp only [xZG];rw [Th.put_ne _ _ (by omega)]
   ·rw [xZB (by rw [yO];omega),xZB (by rw [yO];omega)]
theorem zO {h:Hp} {b off:Nat} {v:AV} {cs:List AV} {e:TypeId} (hv:cellsOf v=[v]) (ho:Go.Ev.one v=true) (hl:off<cs.length):qX 1 h b off v (some (.cells cs e))=some (h.set b (.cells (cs.set off v) e)):=by
 rw [yD,hv,if_pos ⟨rfl,by omega,by simp [ho]⟩,List.set_eq_take_append_cons_drop,if_pos hl];simp
structure FrR (N M:Nat) (h h':Hp):Prop where
 le:h.n<=h'.n
 at_: ∀k,(k<N\/(M<=k/\k<h.n)\/h'.n<=k)->h'.t.get k=h.t.get k
theorem FrR.refl {N M:Nat} (h:Hp):FrR N M h h:=⟨xZX _,fun _ _=>rfl⟩
theorem FrR.trans {N M:Nat} {h h1 h2:Hp} (a:FrR N M h h1) (b:FrR N M h1 h2):FrR N M h h2:=by
 refine ⟨xZO a.le b.le,fun k hk=> ?_⟩;have:=a.le;have:=b.le;rw [b.at_ k (by omega),a.at_ k (by omega)]
theorem FrR.new {N M:Nat} {h h':Hp} (a:FrR N M h h') (hN:N<=h.n) (o:AO):FrR N M h (h'.new o):=by
 have:=a.le;refine ⟨by simp [Hp.new_n];omega,fun k hk=> ?_⟩;simp only [Hp.new_n] at hk;rw [Hp.new_t,xZY,if_neg (by omega)];exact a.at_ k (by omega)
theorem FrR.set {N M:Nat} {h h':Hp} (a:FrR N M h h') {b:Nat} (h1:N<=b) (h2:b<M) (h3:M<=h'.n) (o:AO):FrR N M h (h'.set b o):=by
 refine ⟨a.le,fun k hk=> ?_⟩;simp only [Hp.set_n] at hk;rw [xZH,xZY,if_neg (by omega)];exact a.at_ k hk
theorem FrR.up {N M:Nat} {h h':Hp} (a:FrR N M h h') {n:Nat} (hn:h'.n<=n):FrR N M h (h'.up n):=⟨xZO a.le hn,fun k hk=>a.at_ k (by simp only [xZI] at hk;omega)⟩
theorem FrR.fr {N M:Nat} {h h':Hp} (a:FrR N M h h') (hN:N<=h.n):Fr N h h':=⟨xZO hN a.le,a.le,fun k hk=>a.at_ k (by omega)⟩
theorem FrR.of {N M n:Nat} {h h':Hp} (a:Fr n h h') (hN:N<=h.n) (hn:h.n<=n):FrR N M h h':=⟨a.le,fun k hk=>a.at_ k (by omega)⟩
def SG (h:Hp) (N M:Nat) (v:AV) (R C:Nat) (F:Nat->Nat->Int×Int):Prop:=
 ∃bs:Nat->Nat,(∀r,r<R->N<=bs r/\bs r<M/\h.t.get (bs r)=some (.cells (j9 (F r) C) 43))/\(∀r s,r<R->s<R->bs r=bs s->r=s)/\
  ((R=0/\v= .val (.slice none 0 0))\/ ∃B,v= .sl B 0 R 1/\N<=B/\B<M/\(∀r,r<R->bs r≠B)/\h.t.get B=some (.cells ((List.range R).map fun r=> .sl (bs r) 0 C 2) 55))
section
variable {h:Hp} {N M R C:Nat} {v:AV} {F:Nat->Nat->Int×Int}
theorem SG.keep {h':Hp} (s:SG h N M v R C F) (hk: ∀k,N<=k->k<M->h'.t.get k=h.t.get k):SG h' N M v R C F:=by
 obtain ⟨bs,h1,h2,h3⟩:=s;refine ⟨bs,fun r hr=>⟨(h1 r hr).1,(h1 r hr).2.1,by rw [hk _ (h1 r hr).1 (h1 r hr).2.1];exact (h1 r hr).2.2⟩,h2,?_⟩;rcases h3 with h3|⟨B,q1,q2,q3,q4,q5⟩
 ·exact .inl h3
 ·exact .inr ⟨B,q1,q2,q3,q4,by rw [hk _ q2 q3];exact q5⟩
theorem SG.new (s:SG h N M v R C F) (hM:M<=h.n) (o:AO):SG (h.new o) N M v R C F:=s.keep fun k _ hk=>pR _ _ (by omega)
theorem SG.up (s:SG h N M v R C F) (n:Nat):SG (h.up n) N M v R C F:=s.keep fun _ _ _=>rfl
theorem SG.fr {h':Hp} {n:Nat} (s:SG h N M v R C F) (f:Fr n h h') (hn:M<=n):SG h' N M v R C F:=s.keep fun k _ hk=>f.at_ k (.inl (by omega))
theorem SG.grow (s:SG h N M v R C F) {M':Nat} (hM:M<=M'):SG h N M' v R C F:=by
 obtain ⟨bs,h1,h2,h3⟩:=s;refine ⟨bs,fun r hr=>⟨(h1 r hr).1,xYK (h1 r hr).2.1 hM,(h1 r hr).2.2⟩,h2,?_⟩;rcases h3 with h3|⟨B,q1,q2,q3,q4,q5⟩
 ·exact .inl h3
 ·exact .inr ⟨B,q1,q2,xYK q3 hM,q4,q5⟩
theorem SG.nil (h:Hp) (N M C:Nat) (F:Nat->Nat->Int×Int):SG h N M (.val (.slice none 0 0)) 0 C F:=⟨fun _=>0,fun r hr=>absurd hr (Nat.not_lt_zero _),fun r s hr=>absurd hr (Nat.not_lt_zero _),.inl ⟨rfl,rfl⟩⟩
theorem SG.congr {F':Nat->Nat->Int×Int} (s:SG h N M v R C F) (hF: ∀r,r<R-> ∀c,c<C->F' r c=F r c):SG h N M v R C F':=by
 obtain ⟨bs,h1,h2,h3⟩:=s;refine ⟨bs,fun r hr=>⟨(h1 r hr).1,(h1 r hr).2.1,?_⟩,h2,h3⟩;rw [(h1 r hr).2.2];have:j9 (F r) C=j9 (F' r) C:=by
  apply xZA
  intro k hk;rw [hF r hr _ (by have:=xYS.1 hk;omega)]
 rw [this]
theorem SG.one (s:SG h N M v R C F):Go.Ev.one v=true:=by
 obtain ⟨bs,h1,h2,h3⟩:=s;rcases h3 with ⟨_,rfl⟩|⟨B,rfl,_⟩<;>rfl
theorem SG.cells (s:SG h N M v R C F):cellsOf v=[v]:=by
 obtain ⟨bs,h1,h2,h3⟩:=s;rcases h3 with ⟨_,rfl⟩|⟨B,rfl,_⟩<;>rfl
theorem SG.len (s:SG h N M v R C F) (h':Hp):zA tb h' 51 v=some R:=by
 obtain ⟨bs,h1,h2,h3⟩:=s;rcases h3 with ⟨rfl,rfl⟩|⟨B,rfl,_⟩<;>simp [zA,tg51,te51,s1,sA]
theorem SG.at_ (s:SG h N M v R C F) {r:Nat} (hr:r<R): ∃B b rws,qK tb 51 v (.val (.int .i64 (r:Int)))=some (.ptr B r)/\h.t.get B=some (.cells rws 55)/\rws[r]? =some (.sl b 0 C 2)/\h.t.get b=some (.cells (j9 (F r) C) 43)/\N<=b/\b<M/\N<=B/\B<M/\b≠B/\
  ∀f,SG (h.set b (.cells (j9 f C) 43)) N M v R C (Th.putRow F r f):=by
 obtain ⟨bs,h1,h2,h3⟩:=s;rcases h3 with ⟨rfl,_⟩|⟨B,rfl,q2,q3,q4,q5⟩
 ·omega
 have e1:qA1 (.val (.int .i64 (r:Int)))=some (Int.ofNat r):=rfl;have e2:Nat.blt r R=true:=by rw [xYP];exact hr
 refine ⟨B,bs r,_,by simp [qK,tg51,te51,s1,sA,tg55,te55,e1,e2],q5,by simp [xZE hr],(h1 r hr).2.2,(h1 r hr).1,(h1 r hr).2.1,q2,q3,q4 r hr,fun f=> ?_⟩;refine ⟨bs,fun x hx=>⟨(h1 x hx).1,(h1 x hx).2.1,?_⟩,h2,.inr ⟨B,rfl,q2,q3,q4,?_⟩⟩
 ·rw [xZH,xZY];by_cases hxr:x=r
  ·subst hxr;rw [if_pos rfl,Th.putRow_at]
  ·rw [if_neg (fun hq=>hxr (h2 x r hx hr hq)),Th.putRow_ne _ _ hxr];exact (h1 x hx).2.2
 ·rw [xZH,xZY,if_neg (fun hq=>q4 r hr hq.symm)];exact q5
theorem sl55 {b:Nat} {c:Nat} (hc:c<C):qK tb 55 (.sl b 0 C 2) (.val (.int .i64 (c:Int)))=some (.ptr b (c*2)):=by
 have e1:qA1 (.val (.int .i64 (c:Int)))=some (Int.ofNat c):=rfl;have e2:Nat.blt c C=true:=by rw [xYP];exact hc
 simp [qK,tg55,te55,s1,sA,tg43,te43,e1,e2]
end
def t3 (t:Int×Int×Int):List Value:=[.int .i64 t.1,.int .i64 t.2.1,.int .i64 t.2.2]
structure Wk where
 m:Mp
 vt:AV
 ts:List (Int×Int×Int)
 kerf:Int
abbrev Wk.cs (w:Wk):List AV:=[w.m.vc,iv w.m.T,iv w.m.H,w.m.vg,w.m.vk,w.m.vp,w.vt,iv w.kerf]
abbrev Wk.av (w:Wk):AV:= .agg w.cs
abbrev Wk.bc (w:Wk) (v:AV):List AV:=[w.m.vc,iv w.m.T,iv w.m.H,w.m.vg,w.m.vk,w.m.vp,w.vt,iv w.kerf,v]
structure Wk.At (w:Wk) (xt:Xt) (h:Hp):Prop where
 m:w.m.At xt h
 ts:RowAt xt h 3 w.vt (w.ts.map t3)
 lt:w.ts.length<=9223372036854775807
theorem Wk.At.new {w:Wk} {xt:Xt} {h:Hp} (a:w.At xt h) (o:AO):w.At xt (h.new o):=⟨a.m.new o,a.ts.new o,a.lt⟩
theorem Wk.At.up {w:Wk} {xt:Xt} {h:Hp} (a:w.At xt h) {n:Nat} (hn:h.n<=n):w.At xt (h.up n):=⟨a.m.up hn,a.ts.up hn,a.lt⟩
theorem Wk.At.fr {w:Wk} {xt:Xt} {h h':Hp} (a:w.At xt h) {M:Nat} (f:Fr M h h') (hM:h.n<=M):w.At xt h':=⟨a.m.fr f hM,a.ts.fr f hM,a.lt⟩
structure Wk.Ones (w:Wk):Prop where
 c:Go.Ev.one w.m.vc=true
 g:Go.Ev.one w.m.vg=true
 k:Go.Ev.one w.m.vk=true
 p:Go.Ev.one w.m.vp=true
 t:Go.Ev.one w.vt=true
theorem Wk.At.ones {w:Wk} {xt:Xt} {h:Hp} (a:w.At xt h):w.Ones:=⟨a.m.cells.one,a.m.gs.one,a.m.ks.one,a.m.ps.one,a.ts.one⟩
theorem bd43 (a b:Int):zE tb 43 [(0,iv a),(1,iv b)]=some (.agg [iv a,iv b]):=by kernel_rfl
theorem bd225 (a b:Int):zE tb 226 [(0,iv a),(1,iv b)]=some (.agg [iv a,iv b]):=by kernel_rfl
theorem if225 (h:Hp) (v:AV):qE2 tb h 226 v=some (.ifc 226 v,h):=by kernel_rfl
theorem ft186 (xt:Xt):(SE xt).ft.get 186=some Tryz.f186:=by kernel_rfl
theorem res186:Tryz.f186.results.toList=[]:=by kernel_rfl
def NarR (h:Hp) (N M:Nat) (v:AV) (R C:Nat) (F:Nat->Nat->Int×Int) (r c:Nat) (s:Int×Int) (res:CR) (h':Hp):Prop:=
 FrR N M h h'/\((∃x,res= .ret x/\(Th.nar (F r c) s).1<=(Th.nar (F r c) s).2/\SG h' N M v R C (Th.putRow F r (Th.put (F r) c (Th.nar (F r c) s))))\/((Th.nar (F r c) s).2<(Th.nar (F r c) s).1/\res= .pan (.ifc 226 (.agg [iv r,iv c]))))
theorem qCF (xt:Xt) (h:Hp) (w:Wk) (ho:w.Ones) (N M:Nat) (v:AV) (R C:Nat) (F:Nat->Nat->Int×Int) (hs:SG h N M v R C F) (hN:N<=M) (hM:M<=h.n) (r c:Nat) (hr:r<R) (hc:c<C) (lo hi:Int):FnA (SE xt) 186 [.agg (w.bc v),iv r,iv c,.agg [iv lo,iv hi]] h (NarR h N M v R C F r c (lo,hi)):=by
 refine xZP (sok xt) (ft186 xt) rfl 49 rfl ?_;obtain ⟨o1,o2,o3,o4,o5⟩:=ho;refine qA fun K hn hp=> ?_;simp only [sw.1,rE,reduceIte,rL,rA];apply hn;obtain ⟨h1,hh1,nh1,sh1,_,fbh1⟩:=nwE h (.cells (w.bc v) 120);rw [<-hh1];have fh1:=fbh1;obtain ⟨h2,hh2,nh2,sh2,kh2,fbh2⟩:=nwE h1 (.cells [iv lo,iv hi] 43);rw [<-hh2];have fh2:Fr h.n h h2:=fh1.trans fbh2 (by omega);simp only [nh1,xYX,rA] at nh2 sh2 kh2;have s1:=(kh2 h.n (by omega)).trans sh1;have hs2:=hs.fr fh2 hM;obtain ⟨B,b,rws,i1,i2,i3,i4,i5,i6,i7,i8,i9,hset⟩:=hs2.at_ hr;have i10:=sl55 (C:=C) (b:=b) hc;refine qA fun K hn hp=> ?_;simp only [sy.1,rE,reduceIte,rL,s1,i1,i2,i3,i10];apply hn;have i11:=wE (F r) hc;have i12:=pX (F r) hc;refine jL (sok xt) 0 0 22 [(14,1)] (by kernel_rfl) fun K hn hp=> ?_;obtain ⟨A1,hA1⟩: ∃A1,A1=max (F r c).1 lo:=⟨_,rfl⟩;obtain ⟨A2,hA2⟩: ∃A2,A2=min (F r c).2 hi:=⟨_,rfl⟩;have hlf:=yO (F r) C;have p1:=zO (h:=h2) (b:=b) (off:=c*2) (v:=iv A1) (cs:=j9 (F r) C) (e:=43) rfl rfl (by omega);have p2:=zO (h:=h2.set b (.cells ((j9 (F r) C).set (c*2) (iv A1)) 43)) (b:=b) (off:=c*2+1) (v:=iv A2) (cs:=(j9 (F r) C).set (c*2) (iv A1)) (e:=43) rfl rfl (by rw [List.length_set];omega);have b2: ¬h.n+1=b:=by omega
 simp only [sy.1,rE,reduceIte,rL,rA,syw.1,sh2,i4,i11,i12,<-hA1,<-hA2,p1,p2,b2];apply hn;obtain ⟨h3,hh3⟩: ∃h3,h3=(h2.set b (.cells ((j9 (F r) C).set (c*2) (iv A1)) 43)).set b (.cells (((j9 (F r) C).set (c*2) (iv A1)).set (c*2+1) (iv A2)) 43):=⟨_,rfl⟩;rw [<-hh3];have hb3:h3.t.get b=some (.cells (j9 (Th.put (F r) c (A1,A2)) C) 43):=by
  rw [hh3,xZH,xZY,if_pos rfl,qBj _ hc]
 have hn3:h3.n=h2.n:=by rw [hh3];rfl
 have hs3:SG h3 N M v R C (Th.putRow F r (Th.put (F r) c (A1,A2))):=(hset (Th.put (F r) c (A1,A2))).keep fun k _ _=>by
  rw [hh3];simp only [xZH,xZY];split
  ·rw [qBj _ hc]
  ·rfl
 have fr3:FrR N M h h3:=by
  rw [hh3];exact ((FrR.of fh2 (by omega) (xZX _)).set i5 i6 (by omega) _).set i5 i6 (by simp [Hp.set_n];omega) _
 have j1:=wE (Th.put (F r) c (A1,A2)) hc;have j2:=pX (Th.put (F r) c (A1,A2)) hc;rw [Th.put_at] at j1 j2;refine zM (sok xt) 9 (by kernel_rfl) fun K hn hp=> ?_;simp only [sy.1,rE,reduceIte,rL,syw.1,hb3,j1,j2];apply hn;have hnar:Th.nar (F r c) (lo,hi)=(A1,A2):=by rw [hA1,hA2];rfl
 cases q:decide (A2<A1)
 ·refine wcF (by simp only [sy.1,rE,reduceIte]) ?_;refine qR ?_;have q:=of_decide_eq_false q;refine ⟨h3,[],rfl,?_,fr3,.inl ⟨_,rfl,by rw [hnar];simp;omega,by rw [hnar];exact hs3⟩⟩;rw [res186];rfl
 ·refine wcT (by simp only [sy.1,rE,reduceIte]) ?_;have q:=of_decide_eq_true q;refine reg fun K hn hp=> ?_;simp only [sy.1,rE,reduceIte,rL,bd225,if225,WOp_iface,WOp_panic,panK_ifc];refine hp _ _ _ ⟨h3,rfl,fr3,.inr ⟨by rw [hnar];exact q,rfl⟩⟩
def Mp.cell (m:Mp) (r c:Nat):Int:=(m.cells.getD r []).getD c 0
def Mp.J (m:Mp) (r c:Nat):Bool:= !decide (m.cell r c=1) && !decide (m.cell r (c+1)=1)
theorem ft187 (xt:Xt):(SE xt).ft.get 187=some Tryz.f187:=by kernel_rfl
theorem res187:Tryz.f187.results.toList=[.tmp 3]:=by kernel_rfl
theorem qFA (xt:Xt) (h:Hp) (b:Nat) (v:AV) (l:List Int) (hr:RowAt xt h 1 v (l.map c1)) (q0:h.t.get b=some (.cells [v] 58)) (c:Nat) (hc:c+1<l.length) (hl:l.length<=9223372036854775807) {K:KP} (hk: ∀n,h.n<n->K (.ret (.val (.bool (!decide (l.getD c 0=1) && !decide (l.getD (c+1) 0=1))))) (h.up n)):
  FnA (SE xt) 187 [iv c,.ptr b 0] h K:=by
 refine xZN ?_ hk;clear hk K;refine xZP (sok xt) (ft187 xt) rfl 17 rfl ?_;obtain ⟨x1,x2⟩:=hr.m58 (k:=c) (by omega);obtain ⟨x3,x4⟩:=hr.m58 (k:=c+1) hc;have w:=qF (k:=c) (n:=l.length) (by omega) hl;refine qA fun K hn hp=> ?_;simp only [sw.1,rL];apply hn;cases e:decide (l.getD c 0=1)
 ·refine qA fun K hn hp=> ?_;simp only [sy.1,rE,reduceIte,rL,q0,x1,x2,x3,x4,w,e];apply hn;refine qC (qH res187 ⟨?_,xZT (xZX _)⟩);simp [xZY]
 ·refine qA fun K hn hp=> ?_;simp only [sy.1,rE,reduceIte,rL,q0,x1,x2,e];apply hn;refine qC (qH res187 ⟨?_,xZT (xZX _)⟩);simp [xZY]
theorem SG.append {P:Program} {xt:Xt} {h:Hp} {N M R C b:Nat} {v x:AV} {F:Nat->Nat->Int×Int} (s:SG h N M v R C F) (hN:N<=M) (hM:M<=h.n) (hb1:M<=b) (hb2:b<h.n) (q:h.t.get b=some (.cells (j9 (F R) C) 43)) (hx:gH xt h 1 x=some (1,[.sl b 0 C 2])) (hR:R<=100):
  ∃h',qS P tb xt .append [51,51] [v,x] h=some (.sl h.n 0 (R+1) 1,h')/\SG h' N h'.n (.sl h.n 0 (R+1) 1) (R+1) C F/\h'.n=h.n+1/\(∀k,k<N->h'.t.get k=h.t.get k)/\ ∀k,h'.n<=k->h'.t.get k=h.t.get k:=by
 obtain ⟨bs,h1,h2,h3⟩:=s;obtain ⟨avs,havs⟩: ∃avs:List AV,avs=(List.range R).map fun r=> .sl (bs r) 0 C 2:=⟨_,rfl⟩;have ho:OwnSl h N 1 55 v R avs:=by
  rcases h3 with ⟨rfl,rfl⟩|⟨B,rfl,q2,q3,q4,q5⟩
  ·rw [havs];exact .inl ⟨rfl,rfl,rfl⟩
  ·exact .inr ⟨B,rfl,q2,by omega,by rw [q5,havs],by rw [havs];simp⟩
 obtain ⟨h',p1,p2,p3,p4,p5⟩:=ho.append2 (P:=P) (m:=1) (cz:=[.sl b 0 C 2]) (by omega) tg51 rfl tg55 rfl (show te55.bytes=24 from rfl) tg51 rfl hx (by omega) rfl (by omega) (by omega);refine ⟨h',p1,?_,p4,fun k hk=>p3.at_ k (.inl hk),fun k hk=>p3.at_ k (.inr hk)⟩;have hvk: ∀k,k<h.n->(∀r,r<R->True)->(k=b\/ ∃r,r<R/\k=bs r)->h'.t.get k=h.t.get k:=fun k hk _ hkk=>p5 k hk fun off n s hv=>by
  rcases h3 with ⟨_,h3⟩|⟨B,h3,q2,q3,q4,q5⟩
  ·rw [h3] at hv;cases hv
  ·rw [h3] at hv;cases hv;rcases hkk with rfl|⟨r,hr,rfl⟩
   ·omega
   ·exact q4 r hr rfl
 refine ⟨fun r=>if r=R then b else bs r,fun r hr=> ?_,fun r s hr hs hq=> ?_,.inr ⟨h.n,rfl,by omega,by omega,fun r hr=> ?_,?_⟩⟩
 ·by_cases e:r=R
  ·subst e;simp only [if_true];exact ⟨by omega,by omega,by rw [hvk b hb2 (fun _ _=>trivial) (.inl rfl)];exact q⟩
  ·simp only [if_neg e];have:=h1 r (by omega);exact ⟨this.1,by omega,by rw [hvk (bs r) (by omega) (fun _ _=>trivial) (.inr ⟨r,by omega,rfl⟩)];exact this.2.2⟩
 ·by_cases e1:r=R<;>by_cases e2:s=R
  ·omega
  ·simp only [if_pos e1,if_neg e2] at hq;have:=h1 s (by omega);omega
  ·simp only [if_neg e1,if_pos e2] at hq;have:=h1 r (by omega);omega
  ·simp only [if_neg e1,if_neg e2] at hq;exact h2 r s (by omega) (by omega) hq
 ·by_cases e:r=R
  ·simp only [if_pos e];omega
  ·simp only [if_neg e];have:=h1 r (by omega);omega
 ·rcases p2 with ⟨p0,_⟩|⟨B',e1,_,_,e4,_⟩
  ·omega
  ·cases e1;rw [e4,havs,List.range_succ,List.map_append]
   congr 2
   congr 1
   ·apply xZA
    intro r hr;have:=xYS.1 hr;simp only [if_neg (show¬r=R by omega)]
   ·simp
theorem al27 (h:Hp):jP tb h 27=some (.ptr h.n 0,h.new (.cells (([(.slice none 0 0),(.int .i64 0),(.int .i64 0),(.slice none 0 0),(.slice none 0 0),(.slice none 0 0)]:List Value).map .val) 27)):=vU tg27 rfl
theorem al48 (h:Hp):jP tb h 48=some (.ptr h.n 0,h.new (.cells (([(.int .i64 0),(.int .i64 0),(.int .i64 0),(.int .i64 0)]:List Value).map .val) 48)):=vU qA9 rfl
theorem al225 (h:Hp):jP tb h 226=some (.ptr h.n 0,h.new (.cells (([(.int .i64 0),(.int .i64 0)]:List Value).map .val) 226)):=vU tg225 rfl
theorem al50 (h:Hp):jP tb h 50=some (.ptr h.n 0,h.new (.cells (([(.int .i64 0),(.int .i64 0),(.bool false)]:List Value).map .val) 50)):=vU qBW rfl
theorem qFM (f:Nat->Int×Int) {C c:Nat} (h:c<C) (y:Int):(j9 f C).set (c*2+1) (iv y)=j9 (Th.put f c ((f c).1,y)) C:=by
 rw [<-qBj f h]
 congr 1
 have:=wE f h;obtain ⟨hk,he⟩:=xYR.1 this;rw [<-he,List.set_getElem_self]
theorem mk55 (h:Hp) {C:Nat} (hC:C<=100):kQ tb h 55 (iv (C:Int)) (iv (C:Int))=some (.sl h.n 0 C 2,h.new (.cells (j9 (fun _=>(0,0)) C) 43)):=by
 have e1:anat (iv (C:Int))=some C:=rfl;have e2:(Nat.beq C C && (Nat.blt 0 te43.size && (Nat.ble (te43.bytes*C) 281474976710656 && Nat.ble C 9223372036854775807)))=true:=by
  have a1:te43.size=2:=rfl;have a2:te43.bytes=16:=rfl;rw [a1,a2];simp [xYP,Nat.ble_eq];omega
 have e3:jU (te43.zero.map .val) C=j9 (fun _=>(0,0)) C:=by
  have h1:te43.zero.map AV.val=[iv 0,iv 0]:=rfl;have h2: ∀n,jU [iv 0,iv 0] n=List.replicate (n*2) (iv 0):=fun n=>by
   induction n with
   |zero=>rfl
   |succ n ih=>simp only [jU,ih,Nat.add_mul];rfl
  rw [h1,h2];refine (List.eq_replicate_iff.2 ⟨yO _ _,fun b hb=> ?_⟩).symm;simp only [j9,xZC] at hb;obtain ⟨k,_,rfl⟩:=hb;split<;>rfl
 simp only [kQ,tg55,te55,s1,sA,tg43,e1,e2,e3];rfl
theorem bs51 (h:Hp) (b C:Nat):jN tb h 51 1 [(0,.sl b 0 C 2)]=some (.sl h.n 0 1 1,h.new (.cells [.sl b 0 C 2] 55)):=bs_of (sz:=1) (zs:=[.slice none 0 0]) tg51 rfl tg55 rfl rfl (by omega) (by omega) rfl
def Mp.F0 (m:Mp):Nat->Nat->Int×Int:=fun r c=>if m.cell r c=1 then (0,0) else (0,60)
def gg (x:Int×Int×Int×Int):Th.Gg:=⟨x.1.toNat,x.2.1.toNat,x.2.2.1,x.2.2.2⟩
def rowTo (m:Mp) (r j:Nat):Nat->Int×Int:=fun x=>if x<j/\ ¬m.cell r x=1 then (0,60) else (0,0)
theorem qGo (m:Mp) (r:Nat):rowTo m r 0=fun _=>(0,0):=by funext x;simp [rowTo]
theorem rowTo_yes {m:Mp} {r j:Nat} (h: ¬m.cell r j=1):Th.put (rowTo m r j) j (0,60)=rowTo m r (j+1):=by
 funext x
 by_cases e:x=j
 ·subst e;rw [Th.put_at];simp [rowTo,h]
 ·rw [Th.put_ne _ _ e];have:(x<j+1)=(x<j):=by apply propext;omega
  simp only [rowTo,this]
theorem rowTo_no {m:Mp} {r j:Nat} (h:m.cell r j=1):rowTo m r j=rowTo m r (j+1):=by
 funext x
 by_cases e:x=j
 ·subst e;simp [rowTo,h]
 ·have:(x<j+1)=(x<j):=by apply propext;omega
  simp only [rowTo,this]
theorem rowTo_all {m:Mp} {r C x:Nat} (h:x<C):rowTo m r C x=m.F0 r x:=by
 simp only [rowTo,Mp.F0,h,true_and];by_cases e:m.cell r x=1<;>simp [e]
theorem qFN {f g:Nat->Int×Int} {C:Nat} (h: ∀c,c<C->f c=g c):j9 f C=j9 g C:=by
 apply xZA
 intro k hk;rw [h _ (by have:=xYS.1 hk;omega)]
structure BInv (h:Hp) (w:Wk) (C:Nat) (hc:Hp) (v:AV) (M R:Nat) (F:Nat->Nat->Int×Int):Prop where
 fr:Fr h.n h hc
 b1: ∃z,z.length=9/\hc.t.get (h.n+1)=some (.cells z 120)
 b2:hc.t.get (h.n+2)=some (.cells (w.bc v) 120)
 b3:hc.t.get (h.n+3)=some (.cells w.m.cs 27)
 sg:SG hc (h.n+4) M v R C F
 le:h.n+4<=M
 hi:M<=hc.n
theorem BInv.keep {h hc hd:Hp} {w:Wk} {C:Nat} {v:AV} {M R:Nat} {F:Nat->Nat->Int×Int} (b:BInv h w C hc v M R F) {n:Nat} (f:Fr n hc hd) (hn:M<=n):BInv h w C hd v M R F:=by
 have h1:=b.le;have h2:=b.hi;have h3:=f.le;refine ⟨b.fr.trans f (by omega),?_,?_,?_,b.sg.fr f hn,b.le,by omega⟩
 ·obtain ⟨z,q1,q2⟩:=b.b1;exact ⟨z,q1,by rw [f.at_ _ (by omega)];exact q2⟩
 ·rw [f.at_ _ (by omega)];exact b.b2
 ·rw [f.at_ _ (by omega)];exact b.b3
theorem BInv.frR {h hc hd:Hp} {w:Wk} {C:Nat} {v:AV} {M R:Nat} {F G:Nat->Nat->Int×Int} (b:BInv h w C hc v M R F) (f:FrR (h.n+4) M hc hd) (hs:SG hd (h.n+4) M v R C G):BInv h w C hd v M R G:=by
 have h1:=b.le;have h2:=b.hi;have h3:=f.le;refine ⟨b.fr.trans (f.fr (by omega)) (by omega),?_,?_,?_,hs,b.le,by omega⟩
 ·obtain ⟨z,q1,q2⟩:=b.b1;exact ⟨z,q1,by rw [f.at_ _ (by omega)];exact q2⟩
 ·rw [f.at_ _ (by omega)];exact b.b2
 ·rw [f.at_ _ (by omega)];exact b.b3
def Bd (F:Nat->Nat->Int×Int):Prop:= ∀r c,0<=(F r c).1/\(F r c).1<=(F r c).2/\(F r c).2<=60
theorem Bd.F0 (m:Mp):Bd m.F0:=fun r c=>by
 simp only [Mp.F0];split<;>simp
theorem Bd.nar {F:Nat->Nat->Int×Int} (h:Bd F) {r c:Nat} {s:Int×Int} (hn:(Th.nar (F r c) s).1<=(Th.nar (F r c) s).2):Bd (Th.putRow F r (Th.put (F r) c (Th.nar (F r c) s))):=fun x y=>by
 have h0:=h r c;by_cases e:x=r
 ·subst e;rw [Th.putRow_at];by_cases e:y=c
  ·subst e;rw [Th.put_at];simp only [Th.nar] at hn ⊢;omega
  ·rw [Th.put_ne _ _ e];exact h x y
 ·rw [Th.putRow_ne _ _ e];exact h x y
theorem xV (l':List Th.Gg): ∀(l:List Th.Gg) (G:Th.Grid),Th.gaugesP G (l++l')=(Th.gaugesP G l).bind fun G'=>Th.gaugesP G' l'
 |[],G=>rfl
 |g::l,G=>by
  simp only [xYG,Th.gaugesP];cases Th.narrowG G g.r g.c g.span with
  |none=>rfl
  |some G1=>simp only [xZW];exact xV l' l G1
theorem qEL {l:List Th.Gg} {G G':Th.Grid} {g:Th.Gg} (h:Th.gaugesP G l=some G'):Th.gaugesP G (l++[g])=Th.narrowG G' g.r g.c g.span:=by
 rw [xV,h];simp only [xZW,Th.gaugesP];cases Th.narrowG G' g.r g.c g.span<;>rfl
theorem qFx {G:Th.Grid} {r c:Nat} {s:Int×Int} (h:(Th.nar (G r c) s).1<=(Th.nar (G r c) s).2):Th.narrowG G r c s=some (Th.putRow G r (Th.put (G r) c (Th.nar (G r c) s))):=by
 simp only [Th.narrowG,Th.narrow];rw [if_neg (by omega)];rfl
theorem qFy {G:Th.Grid} {r c:Nat} {s:Int×Int} (h:(Th.nar (G r c) s).2<(Th.nar (G r c) s).1):Th.narrowG G r c s=none:=by
 simp only [Th.narrowG,Th.narrow];rw [if_pos h];rfl
theorem take_snoc {α β:Type} (f:α->β) {l:List α} {i:Nat} {x:α} (h:l[i]? =some x):(l.take (i+1)).map f=(l.take i).map f++[f x]:=by
 rw [xYT,h];simp
theorem qEK {gs:List (Int×Int×Int×Int)} {i:Nat} {G:Th.Grid} (h:Th.gaugesP G ((gs.take i).map gg)=none):Th.gaugesP G (gs.map gg)=none:=by
 rw [<-List.take_append_drop i gs,List.map_append,xV,h];rfl
theorem yR (G:Th.Grid) (r:Nat) (f g:Nat->Int×Int):Th.putRow (Th.putRow G r f) r g=Th.putRow G r g:=by
 funext k
 by_cases e:k=r
 ·subst e;rw [Th.putRow_at,Th.putRow_at]
 ·rw [Th.putRow_ne _ _ e,Th.putRow_ne _ _ e,Th.putRow_ne _ _ e]
theorem qBJ (G:Th.Grid) (r:Nat):Th.putRow G r (G r)=G:=by
 funext k
 by_cases e:k=r
 ·subst e;rw [Th.putRow_at]
 ·rw [Th.putRow_ne _ _ e]
theorem qCE {f:Nat->Int×Int} {c:Nat} {s:Int×Int} (h:(Th.nar (f c) s).1<=(Th.nar (f c) s).2):Th.narrow f c s=some (Th.put f c (Th.nar (f c) s)):=by
 simp only [Th.narrow];rw [if_neg (by omega)]
theorem qAa {f:Nat->Int×Int} {c:Nat} {s:Int×Int} (h:(Th.nar (f c) s).2<(Th.nar (f c) s).1):Th.narrow f c s=none:=by
 simp only [Th.narrow];rw [if_pos h]
theorem qFf {T:Int} {j:Nat->Bool} {f g:Nat->Int×Int} {k:Nat} (h:Th.sweepR T j f k=some g):Th.sweepR T j f (k+1)=Th.stepR T j g k:=by
 simp only [Th.sweepR,h,xZW]
theorem qBD {T:Int} {j:Nat->Bool} {f:Nat->Int×Int}: ∀{n k:Nat},k<=n->Th.sweepR T j f k=none->Th.sweepR T j f n=none
 |0,k,hk,h=>by
  have:k=0:=by omega
  subst this;exact h
 |n+1,k,hk,h=>by
  by_cases e:k=n+1
  ·subst e;exact h
  ·simp only [Th.sweepR,qBD (show k<=n by omega) h];rfl
theorem qCr {T:Int} {J:Nat->Nat->Bool} {n:Nat} {G:Th.Grid}: ∀{R k:Nat},k<=R->Th.rowsP T J n G k=none->Th.rowsP T J n G R=none
 |0,k,hk,h=>by
  have:k=0:=by omega
  subst this;exact h
 |R+1,k,hk,h=>by
  by_cases e:k=R+1
  ·subst e;exact h
  ·simp only [Th.rowsP,qCr (show k<=R by omega) h];rfl
theorem qF2 {f:Nat->Int×Int} {C c:Nat} (h:c<C):(if c*2+2<=(j9 f C).length then some (AV.agg (((j9 f C).drop (c*2)).take 2)) else none)=some (.agg [iv (f c).1,iv (f c).2]):=by
 rw [if_pos (by rw [yO];omega),flatR_two f h]
theorem qBE {T:Int} {j:Nat->Bool} {f:Nat->Int×Int} {k:Nat}:Th.sweepL T j f (k+1)=(Th.stepL T j f k).bind fun g=>Th.sweepL T j g k:=rfl
theorem ft143 (xt:Xt):(SE xt).ft.get 143=some Tryz.f143:=by kernel_rfl
theorem res143:Tryz.f143.results.toList=[.cell 2 120]:=by kernel_rfl
structure Mp.Is (m:Mp) (R C:Nat):Prop where
 hR:m.cells.length=R
 hC: ∀r,r<R->(m.cells.getD r []).length=C
 r0:0<R
 c0:0<C
 r6:R<=6
 c8:C<=8
 gs:m.gsIn
 T:0<=m.T/\m.T<=9
def BndR (h:Hp) (w:Wk) (R C:Nat) (res:CR) (h':Hp):Prop:=Fr h.n h h'/\match Th.boundP w.m.T w.m.J (C - 1) w.m.F0 (w.m.gs.map gg) R with
 |some G=> ∃v M,res= .ret (.agg (w.bc v))/\SG h' (h.n+4) M v R C G/\h.n+4<=M/\M<=h'.n
 |none=> ∃a b:Int,res= .pan (.ifc 226 (.agg [iv a,iv b]))
theorem bd121 (w:Wk):zE tb 120 [(0,w.av)]=some (.agg (w.bc (.val (.slice none 0 0)))):=by kernel_rfl
theorem bound_c (xt:Xt) (h:Hp) (w:Wk) (ha:w.At xt h) (R C:Nat) (hm:w.m.Is R C):FnA (SE xt) 143 [w.av] h (BndR h w R C):=by
 refine xZP (sok xt) (ft143 xt) rfl 152 rfl ?_;obtain ⟨o1,o2,o3,o4,o5⟩:=ha.ones;have bd:=bd121 w;have hR:=hm.hR;have hR0:=hm.r0;have hC0:=hm.c0;have hR6:=hm.r6;have hC8:=hm.c8;have hlen: ∀h':Hp,zA tb h' 22 w.m.vc=some R:=fun h'=>by rw [ha.m.len h',hR]
 refine qA fun K hn hp=> ?_;simp only [sw.1,reduceIte,rL];apply hn;clear hn hp K;obtain ⟨h1,hh1,nh1,sh1,kh1,fbh1⟩:=nwE h (.cells w.cs 30);rw [<-hh1];have fh1:=fbh1;obtain ⟨h2,hh2,nh2,sh2,kh2,fbh2⟩:=nwE h1 (.cells [.val (.slice none 0 0),iv 0,iv 0,.val (.slice none 0 0),.val (.slice none 0 0),.val (.slice none 0 0),.val (.slice none 0 0),iv 0,.val (.slice none 0 0)] 120);rw [<-hh2];have fh2:Fr h.n h h2:=fh1.trans fbh2 (by omega);simp only [nh1,xYX,rA] at nh2 sh2 kh2;have s1:=(kh2 h.n (by omega)).trans sh1;refine qA fun K hn hp=> ?_;simp only [sw.1,rE,reduceIte,rL,rA,o1,o2,o3,o4,o5,bd,nh2,s1];apply hn;clear hn hp K;obtain ⟨h3,hh3,nh3,sh3,kh3,fbh3⟩:=nwS h2 (.cells [.val (.slice none 0 0),iv 0,iv 0,.val (.slice none 0 0),.val (.slice none 0 0),.val (.slice none 0 0),.val (.slice none 0 0),iv 0,.val (.slice none 0 0)] 120) (.cells (w.bc (.val (.slice none 0 0))) 120);have fh3:Fr h.n h h3:=fh2.trans fbh3 (by omega);simp only [nh2,xYX,rA] at nh3 sh3 kh3 hh3;rw [<-hh3];have t1:=(kh3 h.n (by omega)).trans s1;have t2:=(kh3 (h.n+1) (by omega)).trans sh2;refine qA fun K hn hp=> ?_;simp only [sw.1,rE,reduceIte,rL,rA,rD,al27,o1,o2,o3,o4,nh3,t1];apply hn;clear hn hp K;obtain ⟨h4,hh4,nh4,sh4,kh4,fbh4⟩:=nwS h3 (.cells [.val (.slice none 0 0),iv 0,iv 0,.val (.slice none 0 0),.val (.slice none 0 0),.val (.slice none 0 0)] 27) (.cells w.m.cs 27);have fh4:Fr h.n h h4:=fh3.trans fbh4 (by omega);simp only [nh3,xYX,rA] at nh4 sh4 kh4 hh4;rw [<-hh4];have r1:=(kh4 (h.n+1) (by omega)).trans t2;have r2:=(kh4 (h.n+2) (by omega)).trans sh3;refine qB fun K hn hp=> ?_;simp only [sy.1,rE,reduceIte,rL,syw.1,hlen,sh4];apply hn;clear hn hp K;have B0:BInv h w C h4 (.val (.slice none 0 0)) h4.n 0 w.m.F0:=⟨fh4,⟨_,rfl,r1⟩,r2,sh4,SG.nil _ _ _ _ _,by omega,xZX _⟩;clear r1 r2 t1 t2 s1 sh1 sh2 sh3 sh4 kh1 kh2 kh3 kh4;refine qD fun KA A1 A2 A3 A4 A5=> ?_;refine qM (sok xt) (fun st=> ∃(k:Nat) (v:AV) (hc:Hp) (tm:T AV),st=⟨tm,152,hc,[]⟩/\k<=R/\tm.get 2=some (.ptr (h.n+1) 0)/\tm.get 3=some (.ptr (h.n+2) 0)/\tm.get 4=some (.ptr (h.n+3) 0)/\tm.get 24=some (w.m.vc)/\tm.get 25=some (iv R)/\tm.get 26=some (iv k)/\BInv h w C hc v hc.n k w.m.F0) (fun st=>R - (match st.tm.get 26 with|some (.val (.int _ n))=>n.toNat|_=>0)) ?_ ?_
 ·rintro st ⟨k,v,hc,tm,rfl,hkA,g2,g3,g4,g24,g25,g26,bi⟩;have muA:=g26;refine qA fun K hn hp=> ?_;simp only [sy.1,rL,qV,g25,g26];apply hn;clear hn hp K;have hac:=ha.fr bi.fr (xZX _);by_cases hk:k<R
  ·refine qW (by simp only [sy.1,reduceIte,hk]) ?_;obtain ⟨rv,i1,i2,i3,i4⟩:=hac.m.rowD (i:=k) (by omega);have hCk:=hm.hC k hk;rw [hCk] at i4;have mk:=mk55 hc (C:=C) (by omega);refine vH ?_;refine qD fun KB B1 B2 B3 B4 B5=> ?_;refine qA fun K hn hp=> ?_;simp only [sy.1,rE,reduceIte,rL,g24,g26,i1,i2];apply hn;clear hn hp K;refine qA fun K hn hp=> ?_;simp only [sy.1,rE,reduceIte,rL,syw.1,i4,mk,uQ];apply hn;clear hn hp K;obtain ⟨hd,hhd,nhd,shd,_,fbhd⟩:=nwE hc (.cells (j9 (fun _=>(0,0)) C) 43);rw [<-hhd];refine qB fun K hn hp=> ?_;simp only [sy.1,rE,reduceIte,rL,syw.1,i4];apply hn;clear hn hp K;refine qD fun KD D1 D2 D3 D4 D5=> ?_;refine qM (sok xt) (fun st=> ∃(c:Nat) (he:Hp) (tm:T AV),st=⟨tm,152,he,[]⟩/\c<=C/\tm.get 2=some (.ptr (h.n+1) 0)/\tm.get 3=some (.ptr (h.n+2) 0)/\tm.get 4=some (.ptr (h.n+3) 0)/\tm.get 6=some (rv)/\tm.get 7=some (.sl hc.n 0 C 2)/\tm.get 24=some (w.m.vc)/\tm.get 25=some (iv R)/\tm.get 26=some (iv k)/\tm.get 33=some (rv)/\tm.get 34=some (iv C)/\tm.get 35=some (iv c)/\he.n=hc.n+1/\(∀x,x≠hc.n->he.t.get x=hc.t.get x)/\he.t.get hc.n=some (.cells (j9 (rowTo w.m k c) C) 43)) (fun st=>C - (match st.tm.get 35 with|some (.val (.int _ n))=>n.toNat|_=>0)) ?_ ?_
   ·rintro st ⟨c,he,tm,rfl,hkD,g2,g3,g4,g6,g7,g24,g25,g26,g33,g34,g35,e1,e2,e3⟩;have muD:=g35;refine qA fun K hn hp=> ?_;simp only [sy.1,rL,qV,g34,g35];apply hn;clear hn hp K;by_cases hc':c<C
    ·refine qW (by simp only [sy.1,reduceIte,hc']) ?_;have i5:=i3.keep (h':=he) (by omega) (fun b hb=>e2 b (by omega));obtain ⟨x1,x2⟩:=i5.m58 (k:=c) (by omega);have hcell:(w.m.cells.getD k []).getD c 0=w.m.cell k c:=rfl;rw [hcell] at x2;refine vH ?_;refine qD fun KE E1 E2 E3 E4 E5=> ?_;refine qA fun K hn hp=> ?_;simp only [sy.1,rE,reduceIte,rL,g33,g35,x1,x2];apply hn;clear hn hp K;refine qA fun K hn hp=> ?_;simp only [sy.1,rE,reduceIte,rL];apply hn;clear hn hp K;cases q:decide (w.m.cell k c=1)
     ·refine wcT (by simp only [sy.1,rE,reduceIte]) ?_;have x3:=sl55 (C:=C) (b:=hc.n) hc';have hlf:=yO (rowTo w.m k c) C;have p1:=zO (h:=he) (b:=hc.n) (off:=c*2+1) (v:=iv 60) (cs:=j9 (rowTo w.m k c) C) (e:=43) rfl rfl (by omega);refine reg fun K hn hp=> ?_;simp only [sy.1,rE,reduceIte,rL,g7,x3,p1,e3];refine hn _ _ (E1 _ ?_);clear hn hp K;refine reg fun K hn hp=> ?_;simp only [sy.1,rE,reduceIte,rL,g35,qF hc' (show C<=9223372036854775807 by omega)];apply hn;clear hn hp K;refine ⟨⟨c+1,_,_,rfl,by omega,(by simp [xZY,g2]),(by simp [xZY,g3]),(by simp [xZY,g4]),(by simp [xZY,g6]),(by simp [xZY,g7]),(by simp [xZY,g24]),(by simp [xZY,g25]),(by simp [xZY,g26]),(by simp [xZY,g33]),(by simp [xZY,g34]),(by simp [xZY]),e1,fun x hx=> ?_,?_⟩,by simpa [xZY,muD] using (by omega:C - (c+1)<C - c)⟩
      ·rw [xZH,xZY,if_neg hx];exact e2 x hx
      ·rw [xZH,xZY,if_pos rfl,qFM _ hc'];have q:=of_decide_eq_false q;have e0:(rowTo w.m k c c).1=0:=by simp [rowTo]
       rw [e0,rowTo_yes q]
     ·refine wcF (by simp only [sy.1,rE,reduceIte]) ?_;refine qR (E1 _ ?_);refine reg fun K hn hp=> ?_;simp only [sy.1,rE,reduceIte,rL,g35,qF hc' (show C<=9223372036854775807 by omega)];apply hn;clear hn hp K;refine ⟨⟨c+1,he,_,rfl,by omega,(by simp [xZY,g2]),(by simp [xZY,g3]),(by simp [xZY,g4]),(by simp [xZY,g6]),(by simp [xZY,g7]),(by simp [xZY,g24]),(by simp [xZY,g25]),(by simp [xZY,g26]),(by simp [xZY,g33]),(by simp [xZY,g34]),(by simp [xZY]),e1,e2,by rw [e3,rowTo_no (of_decide_eq_true q)]⟩,by simpa [xZY,muD] using (by omega:C - (c+1)<C - c)⟩
    ·refine jD (by simp only [sy.1,reduceIte,hc']) ?_;have hcC:c=C:=by omega
     refine qL (D2 _ ?_);rw [hcC] at e3;have e3:he.t.get hc.n=some (.cells (j9 (w.m.F0 k) C) 43):=by rw [e3,qFN fun x hx=>rowTo_all hx]
     have hle:=bi.le;have hsge:SG he (h.n+4) hc.n v k C w.m.F0:=bi.sg.keep fun x _ hx=>e2 x (by omega);have hb2:he.t.get (h.n+2)=some (.cells (w.bc v) 120):=by rw [e2 _ (by omega)];exact bi.b2
     have bs:=bs51 he hc.n C;refine reg fun K hn hp=> ?_;obtain ⟨h6,hh6⟩: ∃h6,h6=he.new (.cells [.sl hc.n 0 C 2] 55):=⟨_,rfl⟩;have n6:h6.n=he.n+1:=by rw [hh6];rfl
     have s6:h6.t.get he.n=some (.cells [.sl hc.n 0 C 2] 55):=by rw [hh6];exact pT _ _
     have k6: ∀x,x<he.n->h6.t.get x=he.t.get x:=fun x hx=>by rw [hh6];exact pR _ _ hx
     obtain ⟨h7,p1,p2,p3,p4,p5⟩:=SG.append (P:=Tryz.prog) (xt:=xt) (h:=h6) (x:= .sl he.n 0 1 1) (b:=hc.n) (hsge.keep fun x _ hx=>k6 x (by omega)) hle (by omega) (xZX _) (by omega) (by rw [k6 _ (by omega)];exact e3) (wO s6 rfl rfl) (by omega);have b7:h7.t.get (h.n+2)=some (.cells (w.bc v) 120):=by rw [p4 _ (by omega),k6 _ (by omega)];exact hb2
     simp only [sy.1,rE,reduceIte,rL,g3,g7,hb2,jF,bs,<-hh6,p1,b7];have p6:qX 1 h7 (h.n+2) 8 (.sl h6.n 0 (k+1) 1) (some (.cells (w.bc v) 120))=some (h7.set (h.n+2) (.cells (w.bc (.sl h6.n 0 (k+1) 1)) 120)):=zO rfl rfl (show 8<9 by omega);simp only [sy.1,p6];refine hn _ _ (B1 _ ?_);clear hn hp K;obtain ⟨h8,hh8⟩: ∃h8,h8=h7.set (h.n+2) (.cells (w.bc (.sl h6.n 0 (k+1) 1)) 120):=⟨_,rfl⟩;rw [<-hh8];have n8:h8.n=h7.n:=by rw [hh8];rfl
     have k8: ∀x,x≠h.n+2->h8.t.get x=h7.t.get x:=fun x hx=>by rw [hh8,xZH,xZY,if_neg hx]
     have B8:BInv h w C h8 (.sl h6.n 0 (k+1) 1) h8.n (k+1) w.m.F0:=by
      have hfr:=bi.fr;refine ⟨⟨by omega,by omega,fun x hx=> ?_⟩,?_,?_,?_,?_,by omega,xZX _⟩
      ·rw [k8 x (by omega)];rcases hx with hx|hx
       ·rw [p4 x (by omega),k6 x (by omega),e2 x (by omega)];exact hfr.at_ x (.inl hx)
       ·rw [p5 x (by omega),hh6,Hp.new_t,xZY,if_neg (by omega),e2 x (by omega)];exact hfr.at_ x (.inr (by omega))
      ·obtain ⟨z,z1,z2⟩:=bi.b1;exact ⟨z,z1,by rw [k8 _ (by omega),p4 _ (by omega),k6 _ (by omega),e2 _ (by omega)];exact z2⟩
      ·rw [hh8,xZH,xZY,if_pos rfl]
      ·rw [k8 _ (by omega),p4 _ (by omega),k6 _ (by omega),e2 _ (by omega)];exact bi.b3
      ·rw [n8];exact p2.keep fun x hx _=>k8 x (by omega)
     refine reg fun K hn hp=> ?_;simp only [sy.1,rE,reduceIte,rL,g26,qF hk (show R<=9223372036854775807 by omega)];apply hn;clear hn hp K;refine ⟨⟨k+1,_,h8,_,rfl,by omega,(by simp [xZY,g2]),(by simp [xZY,g3]),(by simp [xZY,g4]),(by simp [xZY,g24]),(by simp [xZY,g25]),(by simp [xZY]),B8⟩,by simpa [xZY,muA] using (by omega:R - (k+1)<R - k)⟩
   ·exact ⟨0,hd,_,rfl,(by omega),(by simp [xZY,g2]),(by simp [xZY,g3]),(by simp [xZY,g4]),(by simp [xZY]),(by simp [xZY]),(by simp [xZY,g24]),(by simp [xZY,g25]),(by simp [xZY,g26]),(by simp [xZY]),(by simp [xZY]),(by simp [xZY]),nhd,fun x hx=>by rw [hhd,Hp.new_t,xZY,if_neg hx],by rw [qGo];exact shd⟩
  ·refine jD (by simp only [sy.1,reduceIte,hk]) ?_;have hkR:k=R:=by omega
   rw [hkR] at bi;clear hkR;obtain ⟨M,hM⟩: ∃M,M=hc.n:=⟨_,rfl⟩;rw [<-hM] at bi;refine qL (A2 _ ?_);refine jK ?_;have hgl:=fun h':Hp=>(ha.m.gs).len (h':=h') tg23 rfl;simp only [xZF] at hgl;have b3:=bi.b3;refine qA fun K hn hp=> ?_;simp only [sy.1,rE,reduceIte,rL,syw.1,g4,hgl,b3];apply hn;clear hn hp K;refine qD fun KG G1 G2 G3 G4 G5=> ?_;refine qM (sok xt) (fun st=> ∃(i:Nat) (hg:Hp) (F:Nat->Nat->Int×Int) (tm:T AV),st=⟨tm,152,hg,[]⟩/\i<=w.m.gs.length/\tm.get 2=some (.ptr (h.n+1) 0)/\tm.get 3=some (.ptr (h.n+2) 0)/\tm.get 4=some (.ptr (h.n+3) 0)/\tm.get 55=some (w.m.vg)/\tm.get 56=some (iv w.m.gs.length)/\tm.get 57=some (iv i)/\BInv h w C hg v M R F/\Bd F/\Th.gaugesP w.m.F0 ((w.m.gs.take i).map gg)=some F) (fun st=>w.m.gs.length - (match st.tm.get 57 with|some (.val (.int _ n))=>n.toNat|_=>0)) ?_ ?_
   ·rintro st ⟨i,hg,F,tm,rfl,hkG,g2,g3,g4,g55,g56,g57,bg,bd60,hga⟩;have muG:=g57;refine qA fun K hn hp=> ?_;simp only [sy.1,rL,qV,g56,g57];apply hn;clear hn hp K;by_cases hi:i<w.m.gs.length
    ·refine qW (by simp only [sy.1,reduceIte,hi]) ?_;have hag:=ha.fr bg.fr (xZX _);obtain ⟨x,hx⟩: ∃x,w.m.gs[i]? =some x:=⟨_,xZV hi⟩;obtain ⟨y1,y2,y3,y4⟩:=hm.gs x (xZU hx);have i1:=hag.m.gs.idx tg23 rfl qA9 rfl (i:=i) (by simpa using hi) (k:= .i64);have i2:=hag.m.gs.loadA qA9 rfl rfl (i:=i) (c:=Kn.g4 x) (by rw [xZJ,hx];rfl);obtain ⟨xr,xc,xs,xo⟩:=x;simp only [Kn.g4,List.map_cons,List.map_nil] at i2 y1 y2 y3 y4;obtain ⟨r',rfl⟩: ∃r':Nat,xr=r':=⟨xr.toNat,by omega⟩;obtain ⟨c',rfl⟩: ∃c':Nat,xc=c':=⟨xc.toNat,by omega⟩;simp only [xYV] at y1 y2;have hr':r'<R:=by omega
     have hc':c'<C:=by have:=hm.hC r' hr';omega
     refine vH ?_;refine qD fun KH H1 H2 H3 H4 H5=> ?_;have hle:=bg.le;have hhi:=bg.hi;refine qA fun K hn hp=> ?_;simp only [sw.1,rE,reduceIte,rL,rA,al48,g55,g57,i1,i2];apply hn;clear hn hp K;obtain ⟨h9,hh9,nh9,sh9,_,fbh9⟩:=nwS hg (.cells [iv 0,iv 0,iv 0,iv 0] 48) (.cells [iv (r':Int),iv (c':Int),iv xs,iv xo] 48);rw [<-hh9];have bg9:=bg.keep fbh9 hhi;have b2:=bg9.b2;have w1:IntKind.i64.wrap (xs - xo)=xs - xo:=qG _ (by omega) (by omega);have w2:IntKind.i64.wrap (xs+xo)=xs+xo:=qG _ (by omega) (by omega);refine reg fun K hn hp=> ?_;simp only [sy.1,rE,reduceIte,rL,rA,g3,sh9,b2,w1,w2,bd43];refine cAS (FnA.mono (qCF xt h9 w ha.ones (h.n+4) M v R C F bg9.sg hle bg9.hi r' c' hr' hc' _ _) fun res h' hres=> ?_);obtain ⟨fr,hres⟩:=hres;have esnoc:=qEL (g:=gg ((r':Int),(c':Int),xs,xo)) hga;rw [<-take_snoc gg hx] at esnoc;have e5:(gg ((r':Int),(c':Int),xs,xo)).span=(xs - xo,xs+xo):=rfl;have e6:(gg ((r':Int),(c':Int),xs,xo)).r=r':=xYV _;have e7:(gg ((r':Int),(c':Int),xs,xo)).c=c':=xYV _;rw [e5,e6,e7] at esnoc;rcases hres with ⟨x,rfl,hnar,sg9⟩|⟨hnar,rfl⟩
     ·simp only [sy.1,rL];refine hn _ _ (H1 _ ?_);clear hn hp K;rw [qFx hnar] at esnoc;refine reg fun K hn hp=> ?_;simp only [sy.1,rE,reduceIte,rL,g57,qF hi ha.m.lg];apply hn;clear hn hp K;refine ⟨⟨i+1,h',_,_,rfl,by omega,(by simp [xZY,g2]),(by simp [xZY,g3]),(by simp [xZY,g4]),(by simp [xZY,g55]),(by simp [xZY,g56]),(by simp [xZY]),bg9.frR fr sg9,bd60.nar hnar,esnoc⟩,by simpa [xZY,muG] using (by omega:w.m.gs.length - (i+1)<w.m.gs.length - i)⟩
     ·simp only [sy.1];refine hp _ _ _ (H5 _ _ (G5 _ _ ⟨h',rfl,?_,?_⟩))
      ·exact bg9.fr.trans (fr.fr (by omega)) (by omega)
      ·rw [qFy hnar] at esnoc;have:Th.boundP w.m.T w.m.J (C - 1) w.m.F0 (w.m.gs.map gg) R=none:=by
        simp only [Th.boundP,qEK esnoc];rfl
       rw [this];exact ⟨_,_,rfl⟩
    ·refine jD (by simp only [sy.1,reduceIte,hi]) ?_;have hiN:i=w.m.gs.length:=by omega
     rw [hiN,xYU] at hga;clear hiN;refine qL (G2 _ ?_);refine jK ?_;have b3:=bg.b3;refine qA fun K hn hp=> ?_;simp only [sy.1,rE,reduceIte,rL,syw.1,hlen,g4,b3];apply hn;clear hn hp K;have hT:=hm.T;refine qD fun KI I1 I2 I3 I4 I5=> ?_;refine qM (sok xt) (fun st=> ∃(r:Nat) (hr:Hp) (F':Nat->Nat->Int×Int) (tm:T AV),st=⟨tm,152,hr,[]⟩/\r<=R/\tm.get 2=some (.ptr (h.n+1) 0)/\tm.get 3=some (.ptr (h.n+2) 0)/\tm.get 4=some (.ptr (h.n+3) 0)/\tm.get 80=some (w.m.vc)/\tm.get 81=some (iv R)/\tm.get 82=some (iv r)/\BInv h w C hr v M R F'/\Bd F'/\Th.rowsP w.m.T w.m.J (C - 1) F r=some F') (fun st=>R - (match st.tm.get 82 with|some (.val (.int _ n))=>n.toNat|_=>0)) ?_ ?_
     ·rintro st ⟨r,hr,F',tm,rfl,hkI,g2,g3,g4,g80,g81,g82,br,br60,hrp⟩;have muI:=g82;refine qA fun K hn hp=> ?_;simp only [sy.1,rL,qV,g81,g82];apply hn;clear hn hp K;by_cases hr':r<R
      ·refine qW (by simp only [sy.1,reduceIte,hr']) ?_;obtain ⟨rv,i1,i2,i3,i4⟩:=ha.m.rowF (i:=r) (by omega);have i2:=i2 hr br.fr;have hCr:=hm.hC r hr';rw [hCr] at i4;have hhi:=br.hi;have stop:Th.rowP w.m.T w.m.J (C - 1) F' r=none->Th.boundP w.m.T w.m.J (C - 1) w.m.F0 (w.m.gs.map gg) R=none:=fun hq=>by
        have:Th.rowsP w.m.T w.m.J (C - 1) F (r+1)=none:=by simp only [Th.rowsP,hrp,xZW,hq]
        simp only [Th.boundP,hga,xZW];exact qCr (show r+1<=R by omega) this
       have crv:=i3.cells;have orv:=i3.one;refine vH ?_;refine qD fun KJ J1 J2 J3 J4 J5=> ?_;refine qA fun K hn hp=> ?_;simp only [sw.1,rE,reduceIte,rL,g80,g82,i1,i2,crv,orv];apply hn;clear hn hp K;obtain ⟨ha1,hha1,nha1,sha1,_,fbha1⟩:=nwS hr (.cells [.val (.slice none 0 0)] 58) (.cells [rv] 58);rw [<-hha1];refine qA fun K hn hp=> ?_;simp only [sy.1,rE,reduceIte,rL];apply hn;clear hn hp K;have wC:IntKind.i64.wrap ((C:Int) - 1)=((C - 1:Nat):Int):=by rw [qG _ (by omega) (by omega)];omega
       refine qB fun K hn hp=> ?_;simp only [sy.1,rE,reduceIte,rL,syw.1,i4,sha1,wC];apply hn;clear hn hp K;have ba:=br.keep fbha1 hhi;refine qD fun KL L1 L2 L3 L4 L5=> ?_;refine qM (sok xt) (fun st=> ∃(c:Nat) (hl:Hp) (f:Nat->Int×Int) (tm:T AV),st=⟨tm,152,hl,[]⟩/\c<=(C - 1)/\tm.get 2=some (.ptr (h.n+1) 0)/\tm.get 3=some (.ptr (h.n+2) 0)/\tm.get 4=some (.ptr (h.n+3) 0)/\tm.get 12=some (iv r)/\tm.get 13=some (.ptr hr.n 0)/\tm.get 14=some (.fn (.func 187) [] [.ptr hr.n 0])/\tm.get 80=some (w.m.vc)/\tm.get 81=some (iv R)/\tm.get 82=some (iv r)/\tm.get 90=some (iv ((C - 1:Nat):Int))/\tm.get 91=some (iv c)/\BInv h w C hl v M R (Th.putRow F' r f)/\Bd (Th.putRow F' r f)/\hr.n<hl.n/\hl.t.get hr.n=some (.cells [rv] 58)/\Th.sweepR w.m.T (w.m.J r) (F' r) c=some f) (fun st=>(C - 1) - (match st.tm.get 91 with|some (.val (.int _ n))=>n.toNat|_=>0)) ?_ ?_
       ·rintro st ⟨c,hl,f,tm,rfl,hkL,g2,g3,g4,g12,g13,g14,g80,g81,g82,g90,g91,bl,bl60,e1,e2,hsw⟩;have muL:=g91;refine qA fun K hn hp=> ?_;simp only [sy.1,rL,qV,g90,g91];apply hn;clear hn hp K;by_cases hc':c<C - 1
        ·refine jC (by simp only [sy.1,reduceIte,hc']) ?_;refine qD fun KN N1 N2 N3 N4 N5=> ?_;refine qA fun K hn hp=> ?_;simp only [sy.1,rE,reduceIte,rL,g91];apply hn;clear hn hp K;refine qA fun K hn hp=> ?_;simp only [sy.1,rE,reduceIte,rL,g14];refine vE (sok xt) (qFA xt hl hr.n rv (w.m.cells.getD r []) (i3.fr bl.fr (xZX _)) e2 c (by omega) (by omega) fun n1 hn1=> ?_);have hJ:(!decide ((w.m.cells.getD r []).getD c 0=1) && !decide ((w.m.cells.getD r []).getD (c+1) 0=1))=w.m.J r c:=rfl;rw [hJ];simp only [sy.1,rL];apply hn;clear hn hp K;obtain ⟨h11,hh11⟩: ∃h11,h11=hl.up n1:=⟨_,rfl⟩;have n11:hl.n<h11.n:=by rw [hh11];exact hn1
         have f11:Fr hl.n hl h11:=by rw [hh11];exact (xZT (xZX _)).up (xZR hn1)
         rw [<-hh11];have bl11:=bl.keep f11 bl.hi;have e2':h11.t.get hr.n=some (.cells [rv] 58):=by rw [f11.at_ _ (.inl e1)];exact e2
         have hhi11:=bl11.hi;have sstep:=qFf hsw;cases qJ:w.m.J r c
         ·refine wcF (by simp only [sy.1,rE,reduceIte]) ?_;refine qR (N1 _ ?_);simp only [Th.stepR,qJ,xYL,if_false] at sstep;refine reg fun K hn hp=> ?_;simp only [sy.1,rE,reduceIte,rL,g91,qF hc' (show C - 1<=9223372036854775807 by omega)];apply hn;clear hn hp K;refine ⟨⟨c+1,h11,f,_,rfl,by omega,(by simp [xZY,g2]),(by simp [xZY,g3]),(by simp [xZY,g4]),(by simp [xZY,g12]),(by simp [xZY,g13]),(by simp [xZY,g14]),(by simp [xZY,g80]),(by simp [xZY,g81]),(by simp [xZY,g82]),(by simp [xZY,g90]),(by simp [xZY]),bl11,bl60,by omega,e2',sstep⟩,by simpa [xZY,muL] using (by omega:(C - 1) - (c+1)<(C - 1) - c)⟩
         ·refine wcT (by simp only [sy.1,rE,reduceIte]) ?_;simp only [Th.stepR,qJ,if_true] at sstep;obtain ⟨B,b,rws,z1,z2,z3,z4,z5,z6,z7,z8,z9,_⟩:=bl11.sg.at_ hr';rw [Th.putRow_at] at z4;have z10:=sl55 (C:=C) (b:=b) (show c<C by omega);have z11:=qF2 (f:=f) (show c<C by omega);have b2:=bl11.b2;refine qA fun K hn hp=> ?_;simp only [sw.1,rE,reduceIte,rL,rA,g3,g12,z1,z2,z3,z4,z10,z11,b2];apply hn;clear hn hp K;obtain ⟨h12,hh12,nh12,sh12,kh12,fbh12⟩:=nwS h11 (.cells [iv 0,iv 0] 43) (.cells [iv (f c).1,iv (f c).2] 43);rw [<-hh12];have b12:=bl11.keep fbh12 hhi11;have b2':=b12.b2;have b3':=b12.b3;have f60:=bl60 r c;rw [Th.putRow_at] at f60;have w3:=qF (k:=c) (n:=C) (by omega) (by omega);have w4:IntKind.i64.wrap ((f c).1 - w.m.T)=(f c).1 - w.m.T:=qG _ (by omega) (by omega);refine reg fun K hn hp=> ?_;simp only [sy.1,rE,reduceIte,rL,rA,g3,g4,g12,sh12,b2',b3',w3,w4,bd43];refine cAS (FnA.mono (qCF xt h12 w ha.ones (h.n+4) M v R C _ b12.sg b12.le b12.hi r (c+1) hr' (by omega) _ _) fun res h' hres=> ?_);obtain ⟨fr,hres⟩:=hres;rw [Th.putRow_at,yR] at hres;rcases hres with ⟨x,rfl,hnar,sg9⟩|⟨hnar,rfl⟩
          ·simp only [sy.1,rL];refine hn _ _ (N1 _ ?_);clear hn hp K;have e3:h'.t.get hr.n=some (.cells [rv] 58):=by rw [fr.at_ _ (by omega),kh12 _ (by omega)];exact e2'
           have hb60:=bl60.nar (r:=r) (c:=c+1) (s:=((f c).1 - w.m.T,(f c).2)) (by rw [Th.putRow_at];exact hnar);rw [Th.putRow_at,yR] at hb60;have hle':=fr.le;refine reg fun K hn hp=> ?_;simp only [sy.1,rE,reduceIte,rL,g91,qF hc' (show C - 1<=9223372036854775807 by omega)];apply hn;clear hn hp K;refine ⟨⟨c+1,h',_,_,rfl,by omega,(by simp [xZY,g2]),(by simp [xZY,g3]),(by simp [xZY,g4]),(by simp [xZY,g12]),(by simp [xZY,g13]),(by simp [xZY,g14]),(by simp [xZY,g80]),(by simp [xZY,g81]),(by simp [xZY,g82]),(by simp [xZY,g90]),(by simp [xZY]),b12.frR fr sg9,hb60,by omega,e3,by rw [sstep];exact qCE hnar⟩,by simpa [xZY,muL] using (by omega:(C - 1) - (c+1)<(C - 1) - c)⟩
          ·simp only [sy.1];refine hp _ _ _ (N5 _ _ (L5 _ _ (J5 _ _ (I5 _ _ ⟨h',rfl,?_,?_⟩))))
           ·exact b12.fr.trans (fr.fr (by have:=b12.le;omega)) (by omega)
           ·have hno:Th.stepR w.m.T (w.m.J r) f c=none:=by
             simp only [Th.stepR,qJ,if_true];exact qAa hnar
            have:Th.rowP w.m.T w.m.J (C - 1) F' r=none:=by
             simp only [Th.rowP,qBD (show c+1<=C - 1 by omega) (by rw [sstep];exact qAa hnar)];rfl
            rw [stop this];exact ⟨_,_,rfl⟩
        ·refine jD (by simp only [sy.1,reduceIte,hc']) ?_;have hcC:c=C - 1:=by omega
         rw [hcC] at hsw;clear hcC;refine qL (L2 _ ?_);have wC2:IntKind.i64.wrap ((C:Int) - 2)=(C:Int) - 2:=qG _ (by omega) (by omega);refine qA fun K hn hp=> ?_;simp only [sy.1,rE,reduceIte,rL,syw.1,i4,g13,e2,wC2];apply hn;clear hn hp K;refine qZ fun KP P1 P2 P3 P4 P5=> ?_;refine qM (sok xt) (fun st=> ∃(k:Nat) (hn:Hp) (g:Nat->Int×Int) (tm:T AV),st=⟨tm,152,hn,[]⟩/\k<=C - 1/\tm.get 2=some (.ptr (h.n+1) 0)/\tm.get 3=some (.ptr (h.n+2) 0)/\tm.get 4=some (.ptr (h.n+3) 0)/\tm.get 12=some (iv r)/\tm.get 13=some (.ptr hr.n 0)/\tm.get 14=some (.fn (.func 187) [] [.ptr hr.n 0])/\tm.get 17=some (iv ((C:Int) - 2 - k))/\tm.get 80=some w.m.vc/\tm.get 81=some (iv R)/\tm.get 82=some (iv r)/\BInv h w C hn v M R (Th.putRow F' r g)/\Bd (Th.putRow F' r g)/\hr.n<hn.n/\hn.t.get hr.n=some (.cells [rv] 58)/\Th.sweepL w.m.T (w.m.J r) f (C - 1)=Th.sweepL w.m.T (w.m.J r) g (C - 1 - k)) (fun st=>match st.tm.get 17 with|some (.val (.int _ x))=>(x+1).toNat|_=>0) ?_ ?_
         ·rintro st ⟨k,hn,g,tm,rfl,hkC,g2,g3,g4,g12,g13,g14,g17,g80,g81,g82,bn,bn60,p1,p2,hsl⟩;have mu17:=g17;refine jK ?_;have hck:decide ((0:Int)<=(C:Int) - 2 - k)=decide (k<C - 1):=by
           by_cases q:k<C - 1
           ·rw [decide_eq_true q];exact decide_eq_true (by omega)
           ·rw [decide_eq_false q];exact decide_eq_false (by omega)
          refine qA fun K hn hp=> ?_;simp only [sy.1,reduceIte,rL,g17,hck];apply hn;clear hn hp K;by_cases hk:k<C - 1
          ·refine qW (by simp only [sy.1,rE,reduceIte,hk]) ?_;obtain ⟨c,hcd⟩: ∃c,c=C - 2 - k:=⟨_,rfl⟩;have hcc:(C:Int) - 2 - k=(c:Int):=by omega
           rw [hcc] at g17 mu17;have hjc:C - 1 - k=c+1:=by omega
           have hjc':C - 1 - (k+1)=c:=by omega
           refine vH ?_;refine qD fun KN N1 N2 N3 N4 N5=> ?_;refine qA fun K hn' hp=> ?_;simp only [sy.1,rE,reduceIte,rL,g14,g17];refine vE (sok xt) (qFA xt hn hr.n rv (w.m.cells.getD r []) (i3.fr bn.fr (xZX _)) p2 c (by omega) (by omega) fun n1 hn1=> ?_);have hJ:(!decide ((w.m.cells.getD r []).getD c 0=1) && !decide ((w.m.cells.getD r []).getD (c+1) 0=1))=w.m.J r c:=rfl;rw [hJ];simp only [sy.1,rL];refine hn' _ _ ?_;clear hn' hp K;obtain ⟨h11,hh11⟩: ∃h11,h11=hn.up n1:=⟨_,rfl⟩;have n11:hn.n<h11.n:=by rw [hh11];exact hn1
           have f11:Fr hn.n hn h11:=by rw [hh11];exact (xZT (xZX _)).up (xZR hn1)
           rw [<-hh11];have bl11:=bn.keep f11 bn.hi;have e2':h11.t.get hr.n=some (.cells [rv] 58):=by rw [f11.at_ _ (.inl p1)];exact p2
           have hhi11:=bl11.hi;have wk:IntKind.i64.wrap ((c:Int) - 1)=(c:Int) - 1:=qG _ (by omega) (by omega);have again: ∀(tm':T AV) (h':Hp) (g':Nat->Int×Int),tm'.get 2=some (.ptr (h.n+1) 0)->tm'.get 3=some (.ptr (h.n+2) 0)->tm'.get 4=some (.ptr (h.n+3) 0)->tm'.get 12=some (iv r)->tm'.get 13=some (.ptr hr.n 0)->tm'.get 14=some (.fn (.func 187) [] [.ptr hr.n 0])->tm'.get 17=some (iv c)->tm'.get 80=some w.m.vc->tm'.get 81=some (iv R)->tm'.get 82=some (iv r)->BInv h w C h' v M R (Th.putRow F' r g')->Bd (Th.putRow F' r g')->hr.n<h'.n->h'.t.get hr.n=some (.cells [rv] 58)->Th.stepL w.m.T (w.m.J r) g c=some g'->KN .normal ⟨tm',152,h',[]⟩:=by
            intro tm' h' g' g2 g3 g4 g12 g13 g14 g17 g80 g81 g82 b1 b2 b3 b4 b5;refine N1 _ ?_;refine reg fun K hn hp=> ?_;simp only [sy.1,rE,reduceIte,rL,g17,wk];apply hn;clear hn hp K;refine ⟨⟨k+1,h',g',_,rfl,by omega,(by simp [xZY,g2]),(by simp [xZY,g3]),(by simp [xZY,g4]),(by simp [xZY,g12]),(by simp [xZY,g13]),(by simp [xZY,g14]),?_,(by simp [xZY,g80]),(by simp [xZY,g81]),(by simp [xZY,g82]),b1,b2,b3,b4,?_⟩,?_⟩
            ·have:(c:Int) - 1=(C:Int) - 2 - ((k+1:Nat):Int):=by omega
             rw [<-this];simp [xZY]
            ·rw [hsl,hjc,hjc',qBE,b5];rfl
            ·simp only [xZY,if_true,mu17];show ((c:Int) - 1+1).toNat<((c:Int)+1).toNat;omega
           have stopL:Th.stepL w.m.T (w.m.J r) g c=none->Th.rowP w.m.T w.m.J (C - 1) F' r=none:=fun hq=>by
            simp only [Th.rowP,hsw,xZW];rw [hsl,hjc,qBE,hq];rfl
           cases qJ:w.m.J r c
           ·refine wcF (by simp only [sy.1,rE,reduceIte]) ?_;refine qR (again _ h11 g ?_ ?_ ?_ ?_ ?_ ?_ ?_ ?_ ?_ ?_ bl11 bn60 (by omega) e2' (by simp only [Th.stepL,qJ,xYL,if_false]));all_goals simp [xZY,g2,g3,g4,g12,g13,g14,g17,g80,g81,g82]
           ·refine wcT (by simp only [sy.1,rE,reduceIte]) ?_;have sstep:Th.stepL w.m.T (w.m.J r) g c=Th.narrow g c (Th.toL w.m.T (g (c+1))):=by simp only [Th.stepL,qJ,if_true]
            obtain ⟨B,b,rws,z1,z2,z3,z4,z5,z6,z7,z8,z9,_⟩:=bl11.sg.at_ hr';rw [Th.putRow_at] at z4;have w3:=qF (k:=c) (n:=C) (by omega) (by omega);have z10:=sl55 (C:=C) (b:=b) (show c+1<C by omega);have z11:=qF2 (f:=g) (show c+1<C by omega);have b2:=bl11.b2;refine qA fun K hn hp=> ?_;simp only [sw.1,rE,reduceIte,rL,rA,g3,g12,g17,z1,z2,z3,z4,z10,z11,w3,b2];apply hn;clear hn hp K;obtain ⟨h12,hh12,nh12,sh12,kh12,fbh12⟩:=nwS h11 (.cells [iv 0,iv 0] 43) (.cells [iv (g (c+1)).1,iv (g (c+1)).2] 43);rw [<-hh12];have b12:=bl11.keep fbh12 hhi11;have b2':=b12.b2;have b3':=b12.b3;have f60:=bn60 r (c+1);rw [Th.putRow_at] at f60;have w4:IntKind.i64.wrap ((g (c+1)).2+w.m.T)=(g (c+1)).2+w.m.T:=qG _ (by omega) (by omega);refine reg fun K hn' hp=> ?_;simp only [sy.1,rE,reduceIte,rL,rA,g3,g4,g12,g17,sh12,b2',b3',w4,bd43];refine cAS (FnA.mono (qCF xt h12 w ha.ones (h.n+4) M v R C _ b12.sg b12.le b12.hi r c hr' (by omega) _ _) fun res h' hres=> ?_);obtain ⟨fr,hres⟩:=hres;rw [Th.putRow_at,yR] at hres;rcases hres with ⟨x,rfl,hnar,sg9⟩|⟨hnar,rfl⟩
            ·simp only [sy.1,rL];refine hn' _ _ ?_;clear hn' hp K;have e3:h'.t.get hr.n=some (.cells [rv] 58):=by rw [fr.at_ _ (by omega),kh12 _ (by omega)];exact e2'
             have hb60:=bn60.nar (r:=r) (c:=c) (s:=((g (c+1)).1,(g (c+1)).2+w.m.T)) (by rw [Th.putRow_at];exact hnar);rw [Th.putRow_at,yR] at hb60;have hle':=fr.le;refine again _ h' _ ?_ ?_ ?_ ?_ ?_ ?_ ?_ ?_ ?_ ?_ (b12.frR fr sg9) hb60 (by omega) e3 (by rw [sstep];exact qCE hnar);all_goals simp [xZY,g2,g3,g4,g12,g13,g14,g17,g80,g81,g82]
            ·simp only [sy.1];refine hp _ _ _ (N5 _ _ (P5 _ _ (J5 _ _ (I5 _ _ ⟨h',rfl,?_,?_⟩))))
             ·exact b12.fr.trans (fr.fr (by have:=b12.le;omega)) (by omega)
             ·rw [stop (stopL (by rw [sstep];exact qAa hnar))];exact ⟨_,_,rfl⟩
          ·refine jD (by simp only [sy.1,rE,reduceIte,hk]) ?_;have hkC':C - 1 - k=0:=by omega
           rw [hkC'] at hsl;refine qL (P2 _ (J1 _ ?_));have hrow:Th.rowsP w.m.T w.m.J (C - 1) F (r+1)=some (Th.putRow F' r g):=by
            simp only [Th.rowsP,hrp,xZW,Th.rowP,hsw,hsl];rfl
           refine reg fun K hn hp=> ?_;simp only [sy.1,rE,reduceIte,rL,g82,qF hr' (show R<=9223372036854775807 by omega)];apply hn;clear hn hp K;refine ⟨⟨r+1,hn,_,_,rfl,by omega,(by simp [xZY,g2]),(by simp [xZY,g3]),(by simp [xZY,g4]),(by simp [xZY,g80]),(by simp [xZY,g81]),(by simp [xZY]),bn,bn60,hrow⟩,by simpa [xZY,muI] using (by omega:R - (r+1)<R - r)⟩
         ·refine ⟨0,hl,f,_,rfl,xZK _,?_,?_,?_,?_,?_,?_,?_,?_,?_,?_,bl,bl60,e1,e2,rfl⟩;all_goals simp [xZY,g2,g3,g4,g12,g13,g14,g80,g81,g82]
       ·exact ⟨0,ha1,F' r,_,rfl,(by omega),(by simp [xZY,g2]),(by simp [xZY,g3]),(by simp [xZY,g4]),(by simp [xZY]),(by simp [xZY]),(by simp [xZY]),(by simp [xZY,g80]),(by simp [xZY,g81]),(by simp [xZY,g82]),(by simp [xZY]),(by simp [xZY]),by rw [qBJ];exact ba,by rw [qBJ];exact br60,by omega,sha1,rfl⟩
      ·refine jD (by simp only [sy.1,reduceIte,hr']) ?_;have hrR:r=R:=by omega
       rw [hrR] at hrp;clear hrR;refine qL (I2 _ ?_);have hle:=br.le;have hhi:=br.hi;have b2:=br.b2;obtain ⟨z,zl,b1⟩:=br.b1;have onev:=br.sg.one;have px:qX 9 hr (h.n+1) 0 (.agg (w.bc v)) (some (.cells z 120))=some (hr.set (h.n+1) (.cells (w.bc v) 120)):=by
        rw [yD,if_pos ⟨rfl,by omega,by simp [uL,o1,o2,o3,o4,o5,onev,qAy]⟩];have:z.drop (0+9)=[]:=xZM (by omega);rw [this];rfl
       refine qA fun K hn hp=> ?_;simp only [sy.1,rE,reduceIte,rL,rA,g2,g3,b2,b1,px];refine hn _ _ (qC (bX (v:= .agg (w.bc v)) res143 ?_ ⟨?_,?_⟩))
       ·simp only [sy.1,rE,reduceIte,rA,g2]
       ·exact br.fr.set (by omega) (by omega) _
       ·have:Th.boundP w.m.T w.m.J (C - 1) w.m.F0 (w.m.gs.map gg) R=some F':=by
         simp only [Th.boundP,hga,xZW,hrp]
        rw [this];exact ⟨v,M,rfl,br.sg.keep fun k hk _=>by rw [xZH,xZY,if_neg (by omega)],hle,hhi⟩
     ·exact ⟨0,hg,F,_,rfl,(by omega),(by simp [xZY,g2]),(by simp [xZY,g3]),(by simp [xZY,g4]),(by simp [xZY]),(by simp [xZY]),(by simp [xZY]),bg,bd60,rfl⟩
   ·exact ⟨0,hc,w.m.F0,_,rfl,(by omega),(by simp [xZY,g2]),(by simp [xZY,g3]),(by simp [xZY,g4]),(by simp [xZY]),(by simp [xZY]),(by simp [xZY]),bi,Bd.F0 _,rfl⟩
 ·exact ⟨0,_,h4,_,rfl,(by omega),(by simp [xZY]),(by simp [xZY]),(by simp [xZY]),(by simp [xZY]),(by simp [xZY]),(by simp [xZY]),B0⟩
end Go.Proofs.Kn
end
