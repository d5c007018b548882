/- Parts of the proof, joined by a program. -/
import Derived.KernelRfl
import Derived.Test.YtmklipblkmlojaaGreatDoorProg
import Derived.Test.YtmklipblkmlojaaGreatDoorQB
import Derived.Test.YtmklipblkmlojaaGreatDoorQC
set_option linter.all false
open And renaming intro → xZZ
open Nat renaming le_refl → xZY, lt_of_lt_of_le → xZW, zero_add → xZR, mul_one → xZQ, ble_eq → xZP
open List renaming getElem?_eq_some_iff → xZX, getElem?_append_right → xZU, getElem?_append_left → xZT, getElem?_cons_zero → xZS, length_cons → xZO
open Go.Ev.T renaming get_put → xZV
namespace Go.Proofs.Kn
open Go Go.Ev
set_option maxRecDepth 100000
noncomputable abbrev z8:Value:= .int .u8 (.ofNat 0)
noncomputable def te0:TE:= .mk 1 false [(.tuple (.mk []))] (.tuple (.mk [])) true 0 .other
noncomputable def te1:TE:= .mk 1 false [.nilFunc] .nilFunc true 8 .other
noncomputable def te2:TE:= .mk 1 false [(.int .i64 (.ofNat 0))] (.int .i64 (.ofNat 0)) true 8 (.int .i64)
noncomputable def te3:TE:= .mk 1 false [(.int .i64 (.ofNat 0))] (.int .i64 (.ofNat 0)) true 8 (.int .i64)
noncomputable def te4:TE:= .mk 1 false [(.bool false)] (.bool false) true 1 .other
noncomputable def te5:TE:= .mk 1 false [(.int .u8 (.ofNat 0))] (.int .u8 (.ofNat 0)) true 1 (.int .u8)
noncomputable def te6:TE:= .mk 1 false [(.int .u8 (.ofNat 0))] (.int .u8 (.ofNat 0)) true 1 (.int .u8)
noncomputable def te7:TE:= .mk 4 true [(.int .i64 (.ofNat 0)),(.int .i64 (.ofNat 0)),(.bool false),(.int .u8 (.ofNat 0))] (.agg (.mk [(.int .i64 (.ofNat 0)),(.int .i64 (.ofNat 0)),(.bool false),(.int .u8 (.ofNat 0))])) true 24 (.struct [(0,(1,2)),(1,(1,3)),(2,(1,4)),(3,(1,6))])
noncomputable def te8:TE:= .mk 4 true [(.int .i64 (.ofNat 0)),(.int .i64 (.ofNat 0)),(.bool false),(.int .u8 (.ofNat 0))] (.agg (.mk [(.int .i64 (.ofNat 0)),(.int .i64 (.ofNat 0)),(.bool false),(.int .u8 (.ofNat 0))])) true 24 (.struct [(0,(1,2)),(1,(1,3)),(2,(1,4)),(3,(1,6))])
noncomputable def te9:TE:= .mk 1 false [(.string (.mk (.mk [])))] (.string (.mk (.mk []))) true 16 .str
noncomputable def te10:TE:= .mk 1 false [(.string (.mk (.mk [])))] (.string (.mk (.mk []))) true 16 .str
noncomputable def te11:TE:= .mk 1 false [(.string (.mk (.mk [])))] (.string (.mk (.mk []))) true 16 .str
noncomputable def te12:TE:= .mk 1 false [(.int .u64 (.ofNat 0))] (.int .u64 (.ofNat 0)) true 8 (.int .u64)
noncomputable def te13:TE:= .mk 2 true [(.string (.mk (.mk []))),(.int .u64 (.ofNat 0))] (.agg (.mk [(.string (.mk (.mk []))),(.int .u64 (.ofNat 0))])) true 24 (.struct [(0,(1,9)),(1,(1,12))])
noncomputable def te14:TE:= .mk 2 true [(.string (.mk (.mk []))),(.int .u64 (.ofNat 0))] (.agg (.mk [(.string (.mk (.mk []))),(.int .u64 (.ofNat 0))])) true 24 (.struct [(0,(1,9)),(1,(1,12))])
noncomputable def te15:TE:= .mk 1 false [(.pointer none)] (.pointer none) true 8 (.ptr 282)
noncomputable def te16:TE:= .mk 1 false [(.pointer none)] (.pointer none) true 8 (.ptr 285)
noncomputable def te17:TE:= .mk 1 false [(.pointer none)] (.pointer none) true 8 (.ptr 292)
noncomputable def te18:TE:= .mk 1 true [(.pointer none)] (.agg (.mk [(.pointer none)])) true 8 (.struct [(0,(1,17))])
noncomputable def te19:TE:= .mk 1 true [(.pointer none)] (.agg (.mk [(.pointer none)])) true 8 (.struct [(0,(1,17))])
noncomputable def te20:TE:= .mk 1 false [.nilIface] .nilIface false 16 .iface
noncomputable def te21:TE:= .mk 1 false [(.int .i32 (.ofNat 0))] (.int .i32 (.ofNat 0)) true 4 (.int .i32)
noncomputable def te22:TE:= .mk 1 false [(.slice none 0 0)] (.slice none 0 0) true 24 (.slice 42)
noncomputable def te23:TE:= .mk 1 false [(.slice none 0 0)] (.slice none 0 0) true 24 (.slice 87)
noncomputable def te24:TE:= .mk 1 false [(.slice none 0 0)] (.slice none 0 0) true 24 (.slice 90)
noncomputable def te25:TE:= .mk 1 false [(.slice none 0 0)] (.slice none 0 0) true 24 (.slice 92)
noncomputable def te26:TE:= .mk 6 true [(.slice none 0 0),(.int .i64 (.ofNat 0)),(.int .i64 (.ofNat 0)),(.slice none 0 0),(.slice none 0 0),(.slice none 0 0)] (.agg (.mk [(.slice none 0 0),(.int .i64 (.ofNat 0)),(.int .i64 (.ofNat 0)),(.slice none 0 0),(.slice none 0 0),(.slice none 0 0)])) true 112 (.struct [(0,(1,22)),(1,(1,3)),(2,(1,3)),(3,(1,23)),(4,(1,24)),(5,(1,25))])
noncomputable def te27:TE:= .mk 6 true [(.slice none 0 0),(.int .i64 (.ofNat 0)),(.int .i64 (.ofNat 0)),(.slice none 0 0),(.slice none 0 0),(.slice none 0 0)] (.agg (.mk [(.slice none 0 0),(.int .i64 (.ofNat 0)),(.int .i64 (.ofNat 0)),(.slice none 0 0),(.slice none 0 0),(.slice none 0 0)])) true 112 (.struct [(0,(1,22)),(1,(1,3)),(2,(1,3)),(3,(1,23)),(4,(1,24)),(5,(1,25))])
noncomputable def te28:TE:= .mk 1 false [.nilFunc] .nilFunc true 8 .other
noncomputable def te29:TE:= .mk 1 false [.nilFunc] .nilFunc true 8 .other
noncomputable def te30:TE:= .mk 1 false [(.int .i64 (.ofNat 0))] (.int .i64 (.ofNat 0)) true 8 (.int .i64)
noncomputable def te31:TE:= .mk 1 false [(.tuple (.mk [(.string (.mk (.mk []))),(.int .i64 (.ofNat 0))]))] (.tuple (.mk [(.string (.mk (.mk []))),(.int .i64 (.ofNat 0))])) true 0 .other
noncomputable def te32:TE:= .mk 1 false [.nilFunc] .nilFunc true 8 .other
noncomputable def te33:TE:= .mk 1 false [(.tuple (.mk [(.agg (.mk [(.slice none 0 0),(.int .i64 (.ofNat 0)),(.int .i64 (.ofNat 0)),(.slice none 0 0),(.slice none 0 0),(.slice none 0 0)])),(.int .i64 (.ofNat 0))]))] (.tuple (.mk [(.agg (.mk [(.slice none 0 0),(.int .i64 (.ofNat 0)),(.int .i64 (.ofNat 0)),(.slice none 0 0),(.slice none 0 0),(.slice none 0 0)])),(.int .i64 (.ofNat 0))])) true 0 .other
noncomputable def te34:TE:= .mk 1 false [.nilFunc] .nilFunc true 8 .other
noncomputable def te35:TE:= .mk 1 false [.nilFunc] .nilFunc true 8 .other
noncomputable def te36:TE:= .mk 1 false [.nilFunc] .nilFunc true 8 .other
noncomputable def te37:TE:= .mk 1 false [(.tuple (.mk [(.agg (.mk [(.slice none 0 0),(.int .i64 (.ofNat 0)),(.int .i64 (.ofNat 0)),(.slice none 0 0),(.slice none 0 0),(.slice none 0 0)])),(.bool false)]))] (.tuple (.mk [(.agg (.mk [(.slice none 0 0),(.int .i64 (.ofNat 0)),(.int .i64 (.ofNat 0)),(.slice none 0 0),(.slice none 0 0),(.slice none 0 0)])),(.bool false)])) true 0 .other
noncomputable def te38:TE:= .mk 1 false [.nilFunc] .nilFunc true 8 .other
noncomputable def te39:TE:= .mk 1 false [.nilFunc] .nilFunc true 8 .other
noncomputable def te40:TE:= .mk 1 false [(.slice none 0 0)] (.slice none 0 0) true 24 (.slice 5)
noncomputable def te41:TE:= .mk 1 false [.nilFunc] .nilFunc true 8 .other
noncomputable def te42:TE:= .mk 1 false [(.slice none 0 0)] (.slice none 0 0) true 24 (.slice 85)
noncomputable def te43:TE:= .mk 1 false [(.slice none 0 0)] (.slice none 0 0) true 24 (.slice 78)
noncomputable def te44:TE:= .mk 1 false [(.tuple (.mk [(.slice none 0 0),(.int .i64 (.ofNat 0))]))] (.tuple (.mk [(.slice none 0 0),(.int .i64 (.ofNat 0))])) true 0 .other
noncomputable def te45:TE:= .mk 1 false [.nilFunc] .nilFunc true 8 .other
noncomputable def te46:TE:= .mk 1 false [.nilFunc] .nilFunc true 8 .other
noncomputable def te47:TE:= .mk 2 true [(.int .i64 (.ofNat 0)),(.int .i64 (.ofNat 0))] (.agg (.mk [(.int .i64 (.ofNat 0)),(.int .i64 (.ofNat 0))])) true 16 (.struct [(0,(1,3)),(1,(1,3))])
noncomputable def te48:TE:= .mk 2 true [(.int .i64 (.ofNat 0)),(.int .i64 (.ofNat 0))] (.agg (.mk [(.int .i64 (.ofNat 0)),(.int .i64 (.ofNat 0))])) true 16 (.struct [(0,(1,3)),(1,(1,3))])
noncomputable def te49:TE:= .mk 1 false [(.tuple (.mk [(.agg (.mk [(.int .i64 (.ofNat 0)),(.int .i64 (.ofNat 0))])),(.int .i64 (.ofNat 0))]))] (.tuple (.mk [(.agg (.mk [(.int .i64 (.ofNat 0)),(.int .i64 (.ofNat 0))])),(.int .i64 (.ofNat 0))])) true 0 .other
noncomputable def te50:TE:= .mk 1 false [.nilFunc] .nilFunc true 8 .other
noncomputable def te51:TE:= .mk 1 false [(.slice none 0 0)] (.slice none 0 0) true 24 (.slice 114)
noncomputable def te52:TE:= .mk 8 true [(.slice none 0 0),(.int .i64 (.ofNat 0)),(.int .i64 (.ofNat 0)),(.slice none 0 0),(.slice none 0 0),(.slice none 0 0),(.slice none 0 0),(.int .i64 (.ofNat 0))] (.agg (.mk [(.slice none 0 0),(.int .i64 (.ofNat 0)),(.int .i64 (.ofNat 0)),(.slice none 0 0),(.slice none 0 0),(.slice none 0 0),(.slice none 0 0),(.int .i64 (.ofNat 0))])) true 144 (.struct [(0,(6,27)),(6,(1,51)),(7,(1,3))])
noncomputable def te53:TE:= .mk 8 true [(.slice none 0 0),(.int .i64 (.ofNat 0)),(.int .i64 (.ofNat 0)),(.slice none 0 0),(.slice none 0 0),(.slice none 0 0),(.slice none 0 0),(.int .i64 (.ofNat 0))] (.agg (.mk [(.slice none 0 0),(.int .i64 (.ofNat 0)),(.int .i64 (.ofNat 0)),(.slice none 0 0),(.slice none 0 0),(.slice none 0 0),(.slice none 0 0),(.int .i64 (.ofNat 0))])) true 144 (.struct [(0,(6,27)),(6,(1,51)),(7,(1,3))])
noncomputable def te54:TE:= .mk 1 false [.nilFunc] .nilFunc true 8 .other
noncomputable def te55:TE:= .mk 3 true [(.int .i64 (.ofNat 0)),(.int .i64 (.ofNat 0)),(.int .i64 (.ofNat 0))] (.agg (.mk [(.int .i64 (.ofNat 0)),(.int .i64 (.ofNat 0)),(.int .i64 (.ofNat 0))])) true 24 (.struct [(0,(1,3)),(1,(1,3)),(2,(1,3))])
noncomputable def te56:TE:= .mk 3 true [(.int .i64 (.ofNat 0)),(.int .i64 (.ofNat 0)),(.int .i64 (.ofNat 0))] (.agg (.mk [(.int .i64 (.ofNat 0)),(.int .i64 (.ofNat 0)),(.int .i64 (.ofNat 0))])) true 24 (.struct [(0,(1,3)),(1,(1,3)),(2,(1,3))])
noncomputable def te57:TE:= .mk 1 false [.nilFunc] .nilFunc true 8 .other
noncomputable def te58:TE:= .mk 1 false [(.slice none 0 0)] (.slice none 0 0) true 24 (.slice 56)
noncomputable def te59:TE:= .mk 1 false [(.tuple (.mk [(.slice none 0 0),(.int .i64 (.ofNat 0)),(.int .i64 (.ofNat 0))]))] (.tuple (.mk [(.slice none 0 0),(.int .i64 (.ofNat 0)),(.int .i64 (.ofNat 0))])) true 0 .other
noncomputable def te60:TE:= .mk 1 false [.nilFunc] .nilFunc true 8 .other
noncomputable def te61:TE:= .mk 1 false [.nilFunc] .nilFunc true 8 .other
noncomputable def te62:TE:= .mk 1 false [.nilFunc] .nilFunc true 8 .other
noncomputable def te63:TE:= .mk 1 false [(.tuple (.mk [(.int .i64 (.ofNat 0)),(.int .i64 (.ofNat 0))]))] (.tuple (.mk [(.int .i64 (.ofNat 0)),(.int .i64 (.ofNat 0))])) true 0 .other
noncomputable def te64:TE:= .mk 1 false [.nilFunc] .nilFunc true 8 .other
noncomputable def te65:TE:= .mk 1 false [(.slice none 0 0)] (.slice none 0 0) true 24 (.slice 3)
noncomputable def te66:TE:= .mk 1 false [(.slice none 0 0)] (.slice none 0 0) true 24 (.slice 82)
noncomputable def te67:TE:= .mk 2 true [(.slice none 0 0),(.slice none 0 0)] (.agg (.mk [(.slice none 0 0),(.slice none 0 0)])) true 48 (.struct [(0,(1,65)),(1,(1,66))])
noncomputable def te68:TE:= .mk 2 true [(.slice none 0 0),(.slice none 0 0)] (.agg (.mk [(.slice none 0 0),(.slice none 0 0)])) true 48 (.struct [(0,(1,65)),(1,(1,66))])
noncomputable def te69:TE:= .mk 1 false [(.tuple (.mk [(.agg (.mk [(.slice none 0 0),(.slice none 0 0)])),(.int .i64 (.ofNat 0)),(.int .i64 (.ofNat 0))]))] (.tuple (.mk [(.agg (.mk [(.slice none 0 0),(.slice none 0 0)])),(.int .i64 (.ofNat 0)),(.int .i64 (.ofNat 0))])) true 0 .other
noncomputable def te70:TE:= .mk 1 false [.nilFunc] .nilFunc true 8 .other
noncomputable def te71:TE:= .mk 1 false [.nilFunc] .nilFunc true 8 .other
noncomputable def te72:TE:= .mk 1 false [(.slice none 0 0)] (.slice none 0 0) true 24 (.slice 139)
noncomputable def te73:TE:= .mk 5 true [(.int .i64 (.ofNat 0)),(.slice none 0 0),(.slice none 0 0),(.int .i64 (.ofNat 0)),(.int .i64 (.ofNat 0))] (.agg (.mk [(.int .i64 (.ofNat 0)),(.slice none 0 0),(.slice none 0 0),(.int .i64 (.ofNat 0)),(.int .i64 (.ofNat 0))])) true 72 (.struct [(0,(1,3)),(1,(1,72)),(2,(1,65)),(3,(1,3)),(4,(1,3))])
noncomputable def te74:TE:= .mk 5 true [(.int .i64 (.ofNat 0)),(.slice none 0 0),(.slice none 0 0),(.int .i64 (.ofNat 0)),(.int .i64 (.ofNat 0))] (.agg (.mk [(.int .i64 (.ofNat 0)),(.slice none 0 0),(.slice none 0 0),(.int .i64 (.ofNat 0)),(.int .i64 (.ofNat 0))])) true 72 (.struct [(0,(1,3)),(1,(1,72)),(2,(1,65)),(3,(1,3)),(4,(1,3))])
noncomputable def te75:TE:= .mk 1 false [.nilFunc] .nilFunc true 8 .other
noncomputable def te76:TE:= .mk 1 false [.nilFunc] .nilFunc true 8 .other
noncomputable def te77:TE:= .mk 1 false [.nilFunc] .nilFunc true 8 .other
noncomputable def te78:TE:= .mk 1 false [(.slice none 0 0)] (.slice none 0 0) true 24 (.slice 48)
noncomputable def te79:TE:= .mk 1 false [.nilFunc] .nilFunc true 8 .other
noncomputable def te80:TE:= .mk 1 false [.nilFunc] .nilFunc true 8 .other
noncomputable def te81:TE:= .mk 3 true [(.int .i64 (.ofNat 0)),(.int .i64 (.ofNat 0)),(.slice none 0 0)] (.agg (.mk [(.int .i64 (.ofNat 0)),(.int .i64 (.ofNat 0)),(.slice none 0 0)])) true 40 (.struct [(0,(1,3)),(1,(1,3)),(2,(1,65))])
noncomputable def te82:TE:= .mk 3 true [(.int .i64 (.ofNat 0)),(.int .i64 (.ofNat 0)),(.slice none 0 0)] (.agg (.mk [(.int .i64 (.ofNat 0)),(.int .i64 (.ofNat 0)),(.slice none 0 0)])) true 40 (.struct [(0,(1,3)),(1,(1,3)),(2,(1,65))])
noncomputable def te83:TE:= .mk 1 false [.nilFunc] .nilFunc true 8 .other
noncomputable def te84:TE:= .mk 1 false [.nilFunc] .nilFunc true 8 .other
noncomputable def te85:TE:= .mk 1 false [(.int .i64 (.ofNat 0))] (.int .i64 (.ofNat 0)) true 8 (.int .i64)
noncomputable def te86:TE:= .mk 4 true [(.int .i64 (.ofNat 0)),(.int .i64 (.ofNat 0)),(.int .i64 (.ofNat 0)),(.int .i64 (.ofNat 0))] (.agg (.mk [(.int .i64 (.ofNat 0)),(.int .i64 (.ofNat 0)),(.int .i64 (.ofNat 0)),(.int .i64 (.ofNat 0))])) true 32 (.struct [(0,(1,3)),(1,(1,3)),(2,(1,3)),(3,(1,3))])
noncomputable def te87:TE:= .mk 4 true [(.int .i64 (.ofNat 0)),(.int .i64 (.ofNat 0)),(.int .i64 (.ofNat 0)),(.int .i64 (.ofNat 0))] (.agg (.mk [(.int .i64 (.ofNat 0)),(.int .i64 (.ofNat 0)),(.int .i64 (.ofNat 0)),(.int .i64 (.ofNat 0))])) true 32 (.struct [(0,(1,3)),(1,(1,3)),(2,(1,3)),(3,(1,3))])
noncomputable def te88:TE:= .mk 1 false [.nilFunc] .nilFunc true 8 .other
noncomputable def te89:TE:= .mk 3 true [(.int .i64 (.ofNat 0)),(.int .i64 (.ofNat 0)),(.bool false)] (.agg (.mk [(.int .i64 (.ofNat 0)),(.int .i64 (.ofNat 0)),(.bool false)])) true 24 (.struct [(0,(1,3)),(1,(1,3)),(2,(1,4))])
noncomputable def te90:TE:= .mk 3 true [(.int .i64 (.ofNat 0)),(.int .i64 (.ofNat 0)),(.bool false)] (.agg (.mk [(.int .i64 (.ofNat 0)),(.int .i64 (.ofNat 0)),(.bool false)])) true 24 (.struct [(0,(1,3)),(1,(1,3)),(2,(1,4))])
noncomputable def te91:TE:= .mk 2 true [(.int .i64 (.ofNat 0)),(.int .i64 (.ofNat 0))] (.agg (.mk [(.int .i64 (.ofNat 0)),(.int .i64 (.ofNat 0))])) true 16 (.struct [(0,(1,3)),(1,(1,3))])
noncomputable def te92:TE:= .mk 2 true [(.int .i64 (.ofNat 0)),(.int .i64 (.ofNat 0))] (.agg (.mk [(.int .i64 (.ofNat 0)),(.int .i64 (.ofNat 0))])) true 16 (.struct [(0,(1,3)),(1,(1,3))])
noncomputable def te93:TE:= .mk 1 false [.nilFunc] .nilFunc true 8 .other
noncomputable def te94:TE:= .mk 1 false [.nilFunc] .nilFunc true 8 .other
noncomputable def te95:TE:= .mk 1 false [.nilFunc] .nilFunc true 8 .other
noncomputable def te96:TE:= .mk 1 false [(.slice none 0 0)] (.slice none 0 0) true 24 (.slice 9)
noncomputable def te97:TE:= .mk 1 false [.nilFunc] .nilFunc true 8 .other
noncomputable def te98:TE:= .mk 1 false [.nilFunc] .nilFunc true 8 .other
noncomputable def te99:TE:= .mk 1 false [(.tuple (.mk [(.slice none 0 0),(.bool false)]))] (.tuple (.mk [(.slice none 0 0),(.bool false)])) true 0 .other
noncomputable def te100:TE:= .mk 1 false [.nilFunc] .nilFunc true 8 .other
noncomputable def te101:TE:= .mk 9 true [(.slice none 0 0),(.int .i64 (.ofNat 0)),(.int .i64 (.ofNat 0)),(.slice none 0 0),(.slice none 0 0),(.slice none 0 0),(.slice none 0 0),(.int .i64 (.ofNat 0)),(.slice none 0 0)] (.agg (.mk [(.slice none 0 0),(.int .i64 (.ofNat 0)),(.int .i64 (.ofNat 0)),(.slice none 0 0),(.slice none 0 0),(.slice none 0 0),(.slice none 0 0),(.int .i64 (.ofNat 0)),(.slice none 0 0)])) true 168 (.struct [(0,(8,53)),(8,(1,43))])
noncomputable def te102:TE:= .mk 9 true [(.slice none 0 0),(.int .i64 (.ofNat 0)),(.int .i64 (.ofNat 0)),(.slice none 0 0),(.slice none 0 0),(.slice none 0 0),(.slice none 0 0),(.int .i64 (.ofNat 0)),(.slice none 0 0)] (.agg (.mk [(.slice none 0 0),(.int .i64 (.ofNat 0)),(.int .i64 (.ofNat 0)),(.slice none 0 0),(.slice none 0 0),(.slice none 0 0),(.slice none 0 0),(.int .i64 (.ofNat 0)),(.slice none 0 0)])) true 168 (.struct [(0,(8,53)),(8,(1,43))])
noncomputable def te103:TE:= .mk 1 false [(.tuple (.mk [(.agg (.mk [(.slice none 0 0),(.int .i64 (.ofNat 0)),(.int .i64 (.ofNat 0)),(.slice none 0 0),(.slice none 0 0),(.slice none 0 0),(.slice none 0 0),(.int .i64 (.ofNat 0)),(.slice none 0 0)])),(.int .i64 (.ofNat 0))]))] (.tuple (.mk [(.agg (.mk [(.slice none 0 0),(.int .i64 (.ofNat 0)),(.int .i64 (.ofNat 0)),(.slice none 0 0),(.slice none 0 0),(.slice none 0 0),(.slice none 0 0),(.int .i64 (.ofNat 0)),(.slice none 0 0)])),(.int .i64 (.ofNat 0))])) true 0 .other
noncomputable def te104:TE:= .mk 1 false [.nilFunc] .nilFunc true 8 .other
noncomputable def te105:TE:= .mk 1 false [.nilFunc] .nilFunc true 8 .other
noncomputable def te106:TE:= .mk 1 false [.nilFunc] .nilFunc true 8 .other
noncomputable def te107:TE:= .mk 1 false [.nilFunc] .nilFunc true 8 .other
noncomputable def te108:TE:= .mk 1 false [.nilFunc] .nilFunc true 8 .other
noncomputable def te109:TE:= .mk 1 false [.nilFunc] .nilFunc true 8 .other
noncomputable def te110:TE:= .mk 2 true [(.int .i64 (.ofNat 0)),(.int .i64 (.ofNat 0))] (.agg (.mk [(.int .i64 (.ofNat 0)),(.int .i64 (.ofNat 0))])) true 16 (.array 2 3)
noncomputable def te111:TE:= .mk 1 false [.nilFunc] .nilFunc true 8 .other
noncomputable def te112:TE:= .mk 2 true [.nilFunc,.nilFunc] (.agg (.mk [.nilFunc,.nilFunc])) true 16 (.array 2 111)
noncomputable def te113:TE:= .mk 3 true [(.int .i64 (.ofNat 0)),(.int .i64 (.ofNat 0)),(.int .i64 (.ofNat 0))] (.agg (.mk [(.int .i64 (.ofNat 0)),(.int .i64 (.ofNat 0)),(.int .i64 (.ofNat 0))])) true 24 (.struct [(0,(1,3)),(1,(1,3)),(2,(1,3))])
noncomputable def te114:TE:= .mk 3 true [(.int .i64 (.ofNat 0)),(.int .i64 (.ofNat 0)),(.int .i64 (.ofNat 0))] (.agg (.mk [(.int .i64 (.ofNat 0)),(.int .i64 (.ofNat 0)),(.int .i64 (.ofNat 0))])) true 24 (.struct [(0,(1,3)),(1,(1,3)),(2,(1,3))])
noncomputable def te115:TE:= .mk 2 true [(.slice none 0 0),(.int .i64 (.ofNat 0))] (.agg (.mk [(.slice none 0 0),(.int .i64 (.ofNat 0))])) true 32 (.struct [(0,(1,58)),(1,(1,3))])
noncomputable def te116:TE:= .mk 2 true [(.slice none 0 0),(.int .i64 (.ofNat 0))] (.agg (.mk [(.slice none 0 0),(.int .i64 (.ofNat 0))])) true 32 (.struct [(0,(1,58)),(1,(1,3))])
noncomputable def te117:TE:= .mk 1 false [.nilFunc] .nilFunc true 8 .other
noncomputable def te118:TE:= .mk 1 false [.nilFunc] .nilFunc true 8 .other
noncomputable def te119:TE:= .mk 1 false [.nilFunc] .nilFunc true 8 .other
noncomputable def te120:TE:= .mk 1 false [.nilFunc] .nilFunc true 8 .other
noncomputable def te121:TE:= .mk 1 false [.nilFunc] .nilFunc true 8 .other
noncomputable def te122:TE:= .mk 1 false [.nilFunc] .nilFunc true 8 .other
noncomputable def te123:TE:= .mk 1 false [.nilFunc] .nilFunc true 8 .other
noncomputable def te124:TE:= .mk 1 false [.nilFunc] .nilFunc true 8 .other
noncomputable def te125:TE:= .mk 1 false [.nilFunc] .nilFunc true 8 .other
noncomputable def te126:TE:= .mk 1 false [.nilFunc] .nilFunc true 8 .other
noncomputable def te127:TE:= .mk 1 false [.nilFunc] .nilFunc true 8 .other
noncomputable def te128:TE:= .mk 1 false [(.pointer none)] (.pointer none) true 8 (.ptr 82)
noncomputable def te129:TE:= .mk 1 false [.nilFunc] .nilFunc true 8 .other
noncomputable def te130:TE:= .mk 1 false [.nilFunc] .nilFunc true 8 .other
noncomputable def te131:TE:= .mk 1 false [.nilFunc] .nilFunc true 8 .other
noncomputable def te132:TE:= .mk 1 false [.nilFunc] .nilFunc true 8 .other
noncomputable def te133:TE:= .mk 3 true [(.int .i64 (.ofNat 0)),(.int .i64 (.ofNat 0)),(.int .i64 (.ofNat 0))] (.agg (.mk [(.int .i64 (.ofNat 0)),(.int .i64 (.ofNat 0)),(.int .i64 (.ofNat 0))])) true 24 (.array 3 3)
noncomputable def te134:TE:= .mk 3 true [(.int .i64 (.ofNat 0)),(.int .i64 (.ofNat 0)),(.int .i64 (.ofNat 0))] (.agg (.mk [(.int .i64 (.ofNat 0)),(.int .i64 (.ofNat 0)),(.int .i64 (.ofNat 0))])) true 24 (.array 3 3)
noncomputable def te135:TE:= .mk 1 false [.nilFunc] .nilFunc true 8 .other
noncomputable def te136:TE:= .mk 1 false [.nilFunc] .nilFunc true 8 .other
noncomputable def te137:TE:= .mk 1 false [.nilFunc] .nilFunc true 8 .other
noncomputable def te138:TE:= .mk 3 true [(.int .i64 (.ofNat 0)),(.int .i64 (.ofNat 0)),(.int .i64 (.ofNat 0))] (.agg (.mk [(.int .i64 (.ofNat 0)),(.int .i64 (.ofNat 0)),(.int .i64 (.ofNat 0))])) true 24 (.struct [(0,(1,3)),(1,(2,48))])
noncomputable def te139:TE:= .mk 3 true [(.int .i64 (.ofNat 0)),(.int .i64 (.ofNat 0)),(.int .i64 (.ofNat 0))] (.agg (.mk [(.int .i64 (.ofNat 0)),(.int .i64 (.ofNat 0)),(.int .i64 (.ofNat 0))])) true 24 (.struct [(0,(1,3)),(1,(2,48))])
noncomputable def te140:TE:= .mk 1 false [.nilFunc] .nilFunc true 8 .other
noncomputable def te141:TE:= .mk 1 false [(.map none)] (.map none) true 8 (.map 134 3)
noncomputable def te142:TE:= .mk 7 true [(.int .i64 (.ofNat 0)),(.slice none 0 0),(.slice none 0 0),(.int .i64 (.ofNat 0)),(.int .i64 (.ofNat 0)),(.int .i64 (.ofNat 0)),(.map none)] (.agg (.mk [(.int .i64 (.ofNat 0)),(.slice none 0 0),(.slice none 0 0),(.int .i64 (.ofNat 0)),(.int .i64 (.ofNat 0)),(.int .i64 (.ofNat 0)),(.map none)])) true 88 (.struct [(0,(5,74)),(5,(1,3)),(6,(1,141))])
noncomputable def te143:TE:= .mk 7 true [(.int .i64 (.ofNat 0)),(.slice none 0 0),(.slice none 0 0),(.int .i64 (.ofNat 0)),(.int .i64 (.ofNat 0)),(.int .i64 (.ofNat 0)),(.map none)] (.agg (.mk [(.int .i64 (.ofNat 0)),(.slice none 0 0),(.slice none 0 0),(.int .i64 (.ofNat 0)),(.int .i64 (.ofNat 0)),(.int .i64 (.ofNat 0)),(.map none)])) true 88 (.struct [(0,(5,74)),(5,(1,3)),(6,(1,141))])
noncomputable def te144:TE:= .mk 1 false [.nilFunc] .nilFunc true 8 .other
noncomputable def te145:TE:= .mk 1 false [.nilFunc] .nilFunc true 8 .other
noncomputable def te146:TE:= .mk 1 false [.nilFunc] .nilFunc true 8 .other
noncomputable def te147:TE:= .mk 1 false [.nilFunc] .nilFunc true 8 .other
noncomputable def te148:TE:= .mk 1 false [.nilFunc] .nilFunc true 8 .other
noncomputable def te149:TE:= .mk 1 false [.nilFunc] .nilFunc true 8 .other
noncomputable def te150:TE:= .mk 1 false [(.tuple (.mk [(.int .i64 (.ofNat 0)),(.int .i64 (.ofNat 0))]))] (.tuple (.mk [(.int .i64 (.ofNat 0)),(.int .i64 (.ofNat 0))])) true 0 .other
noncomputable def te151:TE:= .mk 1 false [.nilFunc] .nilFunc true 8 .other
noncomputable def te152:TE:= .mk 1 false [.nilFunc] .nilFunc true 8 .other
noncomputable def te153:TE:= .mk 1 false [.nilFunc] .nilFunc true 8 .other
noncomputable def te154:TE:= .mk 1 false [.nilFunc] .nilFunc true 8 .other
noncomputable def te155:TE:= .mk 1 false [.nilFunc] .nilFunc true 8 .other
noncomputable def te156:TE:= .mk 1 false [.nilFunc] .nilFunc true 8 .other
noncomputable def te157:TE:= .mk 1 false [.nilFunc] .nilFunc true 8 .other
noncomputable def te158:TE:= .mk 1 false [.nilFunc] .nilFunc true 8 .other
noncomputable def te159:TE:= .mk 2 true [(.int .i64 (.ofNat 0)),(.int .i64 (.ofNat 0))] (.agg (.mk [(.int .i64 (.ofNat 0)),(.int .i64 (.ofNat 0))])) true 16 (.struct [(0,(1,3)),(1,(1,3))])
noncomputable def te160:TE:= .mk 2 true [(.int .i64 (.ofNat 0)),(.int .i64 (.ofNat 0))] (.agg (.mk [(.int .i64 (.ofNat 0)),(.int .i64 (.ofNat 0))])) true 16 (.struct [(0,(1,3)),(1,(1,3))])
noncomputable def te161:TE:= .mk 1 true [(.string (.mk (.mk [])))] (.agg (.mk [(.string (.mk (.mk [])))])) true 16 (.struct [(0,(1,9))])
noncomputable def te162:TE:= .mk 1 true [(.string (.mk (.mk [])))] (.agg (.mk [(.string (.mk (.mk [])))])) true 16 (.struct [(0,(1,9))])
noncomputable def te163:TE:= .mk 1 false [.nilFunc] .nilFunc true 8 .other
noncomputable def te164:TE:= .mk 1 false [.nilFunc] .nilFunc true 8 .other
noncomputable def te165:TE:= .mk 1 false [.nilFunc] .nilFunc true 8 .other
noncomputable def te166:TE:= .mk 1 false [(.tuple (.mk [(.int .i64 (.ofNat 0)),(.bool false)]))] (.tuple (.mk [(.int .i64 (.ofNat 0)),(.bool false)])) true 0 .other
noncomputable def te167:TE:= .mk 1 false [.nilFunc] .nilFunc true 8 .other
noncomputable def te168:TE:= .mk 1 false [(.tuple (.mk [(.string (.mk (.mk []))),(.string (.mk (.mk []))),(.bool false)]))] (.tuple (.mk [(.string (.mk (.mk []))),(.string (.mk (.mk []))),(.bool false)])) true 0 .other
noncomputable def te169:TE:= .mk 1 false [.nilFunc] .nilFunc true 8 .other
noncomputable def te170:TE:= .mk 1 false [.nilFunc] .nilFunc true 8 .other
noncomputable def te171:TE:= .mk 1 false [.nilFunc] .nilFunc true 8 .other
noncomputable def te172:TE:= .mk 1 false [.nilFunc] .nilFunc true 8 .other
noncomputable def te173:TE:= .mk 1 false [.nilFunc] .nilFunc true 8 .other
noncomputable def te174:TE:= .mk 1 false [.nilFunc] .nilFunc true 8 .other
noncomputable def te175:TE:= .mk 1 false [.nilFunc] .nilFunc true 8 .other
noncomputable def te176:TE:= .mk 1 false [(.slice none 0 0)] (.slice none 0 0) true 24 (.slice 116)
noncomputable def te177:TE:= .mk 1 false [.nilFunc] .nilFunc true 8 .other
noncomputable def te178:TE:= .mk 1 false [.nilFunc] .nilFunc true 8 .other
noncomputable def te179:TE:= .mk 1 false [.nilFunc] .nilFunc true 8 .other
noncomputable def te180:TE:= .mk 1 false [.nilFunc] .nilFunc true 8 .other
noncomputable def te181:TE:= .mk 1 false [.nilFunc] .nilFunc true 8 .other
noncomputable def te182:TE:= .mk 1 false [.nilFunc] .nilFunc true 8 .other
noncomputable def te183:TE:= .mk 1 false [.nilFunc] .nilFunc true 8 .other
noncomputable def te184:TE:= .mk 1 false [.nilFunc] .nilFunc true 8 .other
noncomputable def te185:TE:= .mk 1 false [.nilFunc] .nilFunc true 8 .other
noncomputable def te186:TE:= .mk 1 false [(.int .u64 (.ofNat 0))] (.int .u64 (.ofNat 0)) true 8 (.int .u64)
noncomputable def te187:TE:= .mk 1 false [.nilFunc] .nilFunc true 8 .other
noncomputable def te188:TE:= .mk 1 false [.nilFunc] .nilFunc true 8 .other
noncomputable def te189:TE:= .mk 1 false [.nilFunc] .nilFunc true 8 .other
noncomputable def te190:TE:= .mk 1 false [.nilFunc] .nilFunc true 8 .other
noncomputable def te191:TE:= .mk 1 false [.nilFunc] .nilFunc true 8 .other
noncomputable def te192:TE:= .mk 1 false [.nilFunc] .nilFunc true 8 .other
noncomputable def te193:TE:= .mk 1 false [.nilFunc] .nilFunc true 8 .other
noncomputable def te194:TE:= .mk 1 false [(.tuple (.mk [(.int .i64 (.ofNat 0)),(.bool false)]))] (.tuple (.mk [(.int .i64 (.ofNat 0)),(.bool false)])) true 0 .other
noncomputable def te195:TE:= .mk 1 false [.nilFunc] .nilFunc true 8 .other
noncomputable def te196:TE:= .mk 1 false [.nilFunc] .nilFunc true 8 .other
noncomputable def te197:TE:= .mk 1 false [.nilFunc] .nilFunc true 8 .other
noncomputable def te198:TE:= .mk 1 false [.nilFunc] .nilFunc true 8 .other
noncomputable def te199:TE:= .mk 1 false [(.pointer none)] (.pointer none) true 8 (.ptr 201)
noncomputable def te200:TE:= .mk 2 true [(.pointer none),(.slice none 0 0)] (.agg (.mk [(.pointer none),(.slice none 0 0)])) true 32 (.struct [(0,(1,199)),(1,(1,40))])
noncomputable def te201:TE:= .mk 2 true [(.pointer none),(.slice none 0 0)] (.agg (.mk [(.pointer none),(.slice none 0 0)])) true 32 (.struct [(0,(1,199)),(1,(1,40))])
noncomputable def te202:TE:= .mk 1 false [.nilFunc] .nilFunc true 8 .other
noncomputable def te203:TE:= .mk 1 false [.nilIface] .nilIface false 16 .iface
noncomputable def te204:TE:= .mk 1 false [.nilIface] .nilIface false 16 .iface
noncomputable def te205:TE:= .mk 1 false [(.tuple (.mk [(.int .i64 (.ofNat 0)),.nilIface]))] (.tuple (.mk [(.int .i64 (.ofNat 0)),.nilIface])) true 0 .other
noncomputable def te206:TE:= .mk 1 false [.nilFunc] .nilFunc true 8 .other
noncomputable def te207:TE:= .mk 1 false [.nilFunc] .nilFunc true 8 .other
noncomputable def te208:TE:= .mk 1 false [.nilFunc] .nilFunc true 8 .other
noncomputable def te209:TE:= .mk 3 true [(.int .i64 (.ofNat 0)),(.int .i64 (.ofNat 0)),(.int .i64 (.ofNat 0))] (.agg (.mk [(.int .i64 (.ofNat 0)),(.int .i64 (.ofNat 0)),(.int .i64 (.ofNat 0))])) true 24 (.array 3 85)
noncomputable def te210:TE:= .mk 1 false [.nilFunc] .nilFunc true 8 .other
noncomputable def te211:TE:= .mk 1 false [.nilFunc] .nilFunc true 8 .other
noncomputable def te212:TE:= .mk 1 false [.nilFunc] .nilFunc true 8 .other
noncomputable def te213:TE:= .mk 1 false [.nilFunc] .nilFunc true 8 .other
noncomputable def te214:TE:= .mk 1 false [(.map none)] (.map none) true 8 (.map 3 116)
noncomputable def te215:TE:= .mk 1 false [(.tuple (.mk [(.agg (.mk [(.slice none 0 0),(.int .i64 (.ofNat 0))])),(.bool false)]))] (.tuple (.mk [(.agg (.mk [(.slice none 0 0),(.int .i64 (.ofNat 0))])),(.bool false)])) true 0 .other
noncomputable def te216:TE:= .mk 1 false [.nilFunc] .nilFunc true 8 .other
noncomputable def te217:TE:= .mk 1 false [.nilFunc] .nilFunc true 8 .other
noncomputable def te218:TE:= .mk 1 false [.nilFunc] .nilFunc true 8 .other
noncomputable def te219:TE:= .mk 1 false [.nilFunc] .nilFunc true 8 .other
noncomputable def te220:TE:= .mk 1 false [.nilFunc] .nilFunc true 8 .other
noncomputable def te221:TE:= .mk 1 false [(.int .i64 (.ofNat 0))] (.int .i64 (.ofNat 0)) true 8 (.int .i64)
noncomputable def te222:TE:= .mk 1 false [(.tuple (.mk [(.int .i64 (.ofNat 0)),(.int .i64 (.ofNat 0))]))] (.tuple (.mk [(.int .i64 (.ofNat 0)),(.int .i64 (.ofNat 0))])) true 0 .other
noncomputable def te223:TE:= .mk 1 false [.nilFunc] .nilFunc true 8 .other
noncomputable def te224:TE:= .mk 1 false [.nilFunc] .nilFunc true 8 .other
noncomputable def te225:TE:= .mk 1 false [.nilFunc] .nilFunc true 8 .other
noncomputable def te226:TE:= .mk 1 false [.nilFunc] .nilFunc true 8 .other
noncomputable def te227:TE:= .mk 1 false [.nilFunc] .nilFunc true 8 .other
noncomputable def te228:TE:= .mk 1 false [(.int .u32 (.ofNat 0))] (.int .u32 (.ofNat 0)) true 4 (.int .u32)
noncomputable def te229:TE:= .mk 1 false [.nilFunc] .nilFunc true 8 .other
noncomputable def te230:TE:= .mk 1 false [(.int .u64 (.ofNat 0))] (.int .u64 (.ofNat 0)) true 8 (.int .u64)
noncomputable def te231:TE:= .mk 1 false [.nilFunc] .nilFunc true 8 .other
noncomputable def te232:TE:= .mk 1 false [.nilFunc] .nilFunc true 8 .other
noncomputable def te233:TE:= .mk 1 false [.nilFunc] .nilFunc true 8 .other
noncomputable def te234:TE:= .mk 1 false [.nilFunc] .nilFunc true 8 .other
noncomputable def te235:TE:= .mk 1 false [.nilFunc] .nilFunc true 8 .other
noncomputable def te236:TE:= .mk 1 false [(.pointer none)] (.pointer none) true 8 (.ptr 5)
noncomputable def te237:TE:= .mk 1 false [.nilFunc] .nilFunc true 8 .other
noncomputable def te238:TE:= .mk 1 false [.nilFunc] .nilFunc true 8 .other
noncomputable def te239:TE:= .mk 1 false [(.pointer none)] (.pointer none) true 8 (.ptr 48)
noncomputable def te240:TE:= .mk 1 false [.nilFunc] .nilFunc true 8 .other
noncomputable def te241:TE:= .mk 1 false [(.slice none 0 0)] (.slice none 0 0) true 24 (.slice 58)
noncomputable def te242:TE:= .mk 1 false [.nilFunc] .nilFunc true 8 .other
noncomputable def te243:TE:= .mk 1 false [(.int .u64 (.ofNat 0))] (.int .u64 (.ofNat 0)) true 8 (.int .u64)
noncomputable def te244:TE:= .mk 1 false [.nilFunc] .nilFunc true 8 .other
noncomputable def te245:TE:= .mk 1 false [.nilFunc] .nilFunc true 8 .other
noncomputable def te246:TE:= .mk 1 false [.nilFunc] .nilFunc true 8 .other
noncomputable def te247:TE:= .mk 1 false [(.pointer none)] (.pointer none) true 8 (.ptr 3)
noncomputable def te248:TE:= .mk 1 false [.nilFunc] .nilFunc true 8 .other
noncomputable def te249:TE:= .mk 24 true [z8,z8,z8,z8,z8,z8,z8,z8,z8,z8,z8,z8,z8,z8,z8,z8,z8,z8,z8,z8,z8,z8,z8,z8] (.agg (.mk [z8,z8,z8,z8,z8,z8,z8,z8,z8,z8,z8,z8,z8,z8,z8,z8,z8,z8,z8,z8,z8,z8,z8,z8])) true 24 (.array 24 5)
noncomputable def te250:TE:= .mk 1 false [.nilFunc] .nilFunc true 8 .other
noncomputable def te251:TE:= .mk 1 false [(.tuple (.mk [(.slice none 0 0),(.string (.mk (.mk [])))]))] (.tuple (.mk [(.slice none 0 0),(.string (.mk (.mk [])))])) true 0 .other
noncomputable def te252:TE:= .mk 1 false [.nilFunc] .nilFunc true 8 .other
noncomputable def te253:TE:= .mk 1 false [(.pointer none)] (.pointer none) true 8 .other
noncomputable def te254:TE:= .mk 1 false [.nilFunc] .nilFunc true 8 .other
noncomputable def te255:TE:= .mk 1 false [.nilFunc] .nilFunc true 8 .other
noncomputable def te256:TE:= .mk 1 false [(.tuple (.mk [(.int .i32 (.ofNat 0)),(.int .i64 (.ofNat 0))]))] (.tuple (.mk [(.int .i32 (.ofNat 0)),(.int .i64 (.ofNat 0))])) true 0 .other
noncomputable def te257:TE:= .mk 1 false [.nilFunc] .nilFunc true 8 .other
noncomputable def te258:TE:= .mk 1 false [.nilFunc] .nilFunc true 8 .other
noncomputable def te259:TE:= .mk 1 false [.nilFunc] .nilFunc true 8 .other
noncomputable def te260:TE:= .mk 1 false [.nilFunc] .nilFunc true 8 .other
noncomputable def te261:TE:= .mk 1 false [.nilFunc] .nilFunc true 8 .other
noncomputable def te262:TE:= .mk 1 false [.nilFunc] .nilFunc true 8 .other
noncomputable def te263:TE:= .mk 1 false [.nilFunc] .nilFunc true 8 .other
noncomputable def te264:TE:= .mk 1 false [.nilFunc] .nilFunc true 8 .other
noncomputable def te265:TE:= .mk 1 false [(.pointer none)] (.pointer none) true 8 (.ptr 243)
noncomputable def te266:TE:= .mk 1 false [.nilFunc] .nilFunc true 8 .other
noncomputable def te267:TE:= .mk 1 false [.nilFunc] .nilFunc true 8 .other
noncomputable def te268:TE:= .mk 20 true [(.int .u64 (.ofNat 0)),(.int .u64 (.ofNat 0)),(.int .u64 (.ofNat 0)),(.int .u64 (.ofNat 0)),(.int .u64 (.ofNat 0)),(.int .u64 (.ofNat 0)),(.int .u64 (.ofNat 0)),(.int .u64 (.ofNat 0)),(.int .u64 (.ofNat 0)),(.int .u64 (.ofNat 0)),(.int .u64 (.ofNat 0)),(.int .u64 (.ofNat 0)),(.int .u64 (.ofNat 0)),(.int .u64 (.ofNat 0)),(.int .u64 (.ofNat 0)),(.int .u64 (.ofNat 0)),(.int .u64 (.ofNat 0)),(.int .u64 (.ofNat 0)),(.int .u64 (.ofNat 0)),(.int .u64 (.ofNat 0))] (.agg (.mk [(.int .u64 (.ofNat 0)),(.int .u64 (.ofNat 0)),(.int .u64 (.ofNat 0)),(.int .u64 (.ofNat 0)),(.int .u64 (.ofNat 0)),(.int .u64 (.ofNat 0)),(.int .u64 (.ofNat 0)),(.int .u64 (.ofNat 0)),(.int .u64 (.ofNat 0)),(.int .u64 (.ofNat 0)),(.int .u64 (.ofNat 0)),(.int .u64 (.ofNat 0)),(.int .u64 (.ofNat 0)),(.int .u64 (.ofNat 0)),(.int .u64 (.ofNat 0)),(.int .u64 (.ofNat 0)),(.int .u64 (.ofNat 0)),(.int .u64 (.ofNat 0)),(.int .u64 (.ofNat 0)),(.int .u64 (.ofNat 0))])) true 160 (.array 20 230)
noncomputable def te269:TE:= .mk 65 true [z8,z8,z8,z8,z8,z8,z8,z8,z8,z8,z8,z8,z8,z8,z8,z8,z8,z8,z8,z8,z8,z8,z8,z8,z8,z8,z8,z8,z8,z8,z8,z8,z8,z8,z8,z8,z8,z8,z8,z8,z8,z8,z8,z8,z8,z8,z8,z8,z8,z8,z8,z8,z8,z8,z8,z8,z8,z8,z8,z8,z8,z8,z8,z8,z8] (.agg (.mk [z8,z8,z8,z8,z8,z8,z8,z8,z8,z8,z8,z8,z8,z8,z8,z8,z8,z8,z8,z8,z8,z8,z8,z8,z8,z8,z8,z8,z8,z8,z8,z8,z8,z8,z8,z8,z8,z8,z8,z8,z8,z8,z8,z8,z8,z8,z8,z8,z8,z8,z8,z8,z8,z8,z8,z8,z8,z8,z8,z8,z8,z8,z8,z8,z8])) true 65 (.array 65 5)
noncomputable def te270:TE:= .mk 1 false [(.tuple (.mk [(.int .u32 (.ofNat 0)),(.int .u32 (.ofNat 0))]))] (.tuple (.mk [(.int .u32 (.ofNat 0)),(.int .u32 (.ofNat 0))])) true 0 .other
noncomputable def te271:TE:= .mk 1 false [.nilFunc] .nilFunc true 8 .other
noncomputable def te272:TE:= .mk 1 false [.nilFunc] .nilFunc true 8 .other
noncomputable def te273:TE:= .mk 1 false [.nilFunc] .nilFunc true 8 .other
noncomputable def te274:TE:= .mk 256 true [z8,z8,z8,z8,z8,z8,z8,z8,z8,z8,z8,z8,z8,z8,z8,z8,z8,z8,z8,z8,z8,z8,z8,z8,z8,z8,z8,z8,z8,z8,z8,z8,z8,z8,z8,z8,z8,z8,z8,z8,z8,z8,z8,z8,z8,z8,z8,z8,z8,z8,z8,z8,z8,z8,z8,z8,z8,z8,z8,z8,z8,z8,z8,z8,z8,z8,z8,z8,z8,z8,z8,z8,z8,z8,z8,z8,z8,z8,z8,z8,z8,z8,z8,z8,z8,z8,z8,z8,z8,z8,z8,z8,z8,z8,z8,z8,z8,z8,z8,z8,z8,z8,z8,z8,z8,z8,z8,z8,z8,z8,z8,z8,z8,z8,z8,z8,z8,z8,z8,z8,z8,z8,z8,z8,z8,z8,z8,z8,z8,z8,z8,z8,z8,z8,z8,z8,z8,z8,z8,z8,z8,z8,z8,z8,z8,z8,z8,z8,z8,z8,z8,z8,z8,z8,z8,z8,z8,z8,z8,z8,z8,z8,z8,z8,z8,z8,z8,z8,z8,z8,z8,z8,z8,z8,z8,z8,z8,z8,z8,z8,z8,z8,z8,z8,z8,z8,z8,z8,z8,z8,z8,z8,z8,z8,z8,z8,z8,z8,z8,z8,z8,z8,z8,z8,z8,z8,z8,z8,z8,z8,z8,z8,z8,z8,z8,z8,z8,z8,z8,z8,z8,z8,z8,z8,z8,z8,z8,z8,z8,z8,z8,z8,z8,z8,z8,z8,z8,z8,z8,z8,z8,z8,z8,z8,z8,z8,z8,z8,z8,z8,z8,z8,z8,z8,z8,z8] (.agg (.mk [z8,z8,z8,z8,z8,z8,z8,z8,z8,z8,z8,z8,z8,z8,z8,z8,z8,z8,z8,z8,z8,z8,z8,z8,z8,z8,z8,z8,z8,z8,z8,z8,z8,z8,z8,z8,z8,z8,z8,z8,z8,z8,z8,z8,z8,z8,z8,z8,z8,z8,z8,z8,z8,z8,z8,z8,z8,z8,z8,z8,z8,z8,z8,z8,z8,z8,z8,z8,z8,z8,z8,z8,z8,z8,z8,z8,z8,z8,z8,z8,z8,z8,z8,z8,z8,z8,z8,z8,z8,z8,z8,z8,z8,z8,z8,z8,z8,z8,z8,z8,z8,z8,z8,z8,z8,z8,z8,z8,z8,z8,z8,z8,z8,z8,z8,z8,z8,z8,z8,z8,z8,z8,z8,z8,z8,z8,z8,z8,z8,z8,z8,z8,z8,z8,z8,z8,z8,z8,z8,z8,z8,z8,z8,z8,z8,z8,z8,z8,z8,z8,z8,z8,z8,z8,z8,z8,z8,z8,z8,z8,z8,z8,z8,z8,z8,z8,z8,z8,z8,z8,z8,z8,z8,z8,z8,z8,z8,z8,z8,z8,z8,z8,z8,z8,z8,z8,z8,z8,z8,z8,z8,z8,z8,z8,z8,z8,z8,z8,z8,z8,z8,z8,z8,z8,z8,z8,z8,z8,z8,z8,z8,z8,z8,z8,z8,z8,z8,z8,z8,z8,z8,z8,z8,z8,z8,z8,z8,z8,z8,z8,z8,z8,z8,z8,z8,z8,z8,z8,z8,z8,z8,z8,z8,z8,z8,z8,z8,z8,z8,z8,z8,z8,z8,z8,z8,z8])) true 256 (.array 256 5)
noncomputable def te275:TE:= .mk 2 true [(.int .u8 (.ofNat 0)),(.int .u8 (.ofNat 0))] (.agg (.mk [(.int .u8 (.ofNat 0)),(.int .u8 (.ofNat 0))])) true 2 (.struct [(0,(1,5)),(1,(1,5))])
noncomputable def te276:TE:= .mk 2 true [(.int .u8 (.ofNat 0)),(.int .u8 (.ofNat 0))] (.agg (.mk [(.int .u8 (.ofNat 0)),(.int .u8 (.ofNat 0))])) true 2 (.struct [(0,(1,5)),(1,(1,5))])
noncomputable def te277:TE:= .mk 32 true [z8,z8,z8,z8,z8,z8,z8,z8,z8,z8,z8,z8,z8,z8,z8,z8,z8,z8,z8,z8,z8,z8,z8,z8,z8,z8,z8,z8,z8,z8,z8,z8] (.agg (.mk [z8,z8,z8,z8,z8,z8,z8,z8,z8,z8,z8,z8,z8,z8,z8,z8,z8,z8,z8,z8,z8,z8,z8,z8,z8,z8,z8,z8,z8,z8,z8,z8])) true 32 (.array 16 276)
noncomputable def te278:TE:= .mk 1 false [.nilFunc] .nilFunc true 8 .other
noncomputable def te279:TE:= .mk 32 true [z8,z8,z8,z8,z8,z8,z8,z8,z8,z8,z8,z8,z8,z8,z8,z8,z8,z8,z8,z8,z8,z8,z8,z8,z8,z8,z8,z8,z8,z8,z8,z8] (.agg (.mk [z8,z8,z8,z8,z8,z8,z8,z8,z8,z8,z8,z8,z8,z8,z8,z8,z8,z8,z8,z8,z8,z8,z8,z8,z8,z8,z8,z8,z8,z8,z8,z8])) true 32 (.array 32 5)
noncomputable def te280:TE:= .mk 64 true [z8,z8,z8,z8,z8,z8,z8,z8,z8,z8,z8,z8,z8,z8,z8,z8,z8,z8,z8,z8,z8,z8,z8,z8,z8,z8,z8,z8,z8,z8,z8,z8,z8,z8,z8,z8,z8,z8,z8,z8,z8,z8,z8,z8,z8,z8,z8,z8,z8,z8,z8,z8,z8,z8,z8,z8,z8,z8,z8,z8,z8,z8,z8,z8] (.agg (.mk [z8,z8,z8,z8,z8,z8,z8,z8,z8,z8,z8,z8,z8,z8,z8,z8,z8,z8,z8,z8,z8,z8,z8,z8,z8,z8,z8,z8,z8,z8,z8,z8,z8,z8,z8,z8,z8,z8,z8,z8,z8,z8,z8,z8,z8,z8,z8,z8,z8,z8,z8,z8,z8,z8,z8,z8,z8,z8,z8,z8,z8,z8,z8,z8])) true 64 (.array 64 5)
noncomputable def te281:TE:= .mk 4 true [(.pointer none),(.pointer none),(.pointer none),(.string (.mk (.mk [])))] (.agg (.mk [(.pointer none),(.pointer none),(.pointer none),(.string (.mk (.mk [])))])) true 40 (.struct [(0,(1,17)),(1,(1,17)),(2,(1,17)),(3,(1,9))])
noncomputable def te282:TE:= .mk 4 true [(.pointer none),(.pointer none),(.pointer none),(.string (.mk (.mk [])))] (.agg (.mk [(.pointer none),(.pointer none),(.pointer none),(.string (.mk (.mk [])))])) true 40 (.struct [(0,(1,17)),(1,(1,17)),(2,(1,17)),(3,(1,9))])
noncomputable def te283:TE:= .mk 0 true [] (.agg (.mk [])) true 0 (.array 0 16)
noncomputable def te284:TE:= .mk 0 true [] (.agg (.mk [])) true 0 (.struct [(0,(0,283))])
noncomputable def te285:TE:= .mk 0 true [] (.agg (.mk [])) true 0 (.struct [(0,(0,283))])
noncomputable def te286:TE:= .mk 1 false [(.int .u8 (.ofNat 0))] (.int .u8 (.ofNat 0)) true 1 (.int .u8)
noncomputable def te287:TE:= .mk 1 false [(.int .u8 (.ofNat 0))] (.int .u8 (.ofNat 0)) true 1 (.int .u8)
noncomputable def te288:TE:= .mk 1 false [.nilFunc] .nilFunc true 8 .other
noncomputable def te289:TE:= .mk 1 false [(.int .i32 (.ofNat 0))] (.int .i32 (.ofNat 0)) true 4 (.int .i32)
noncomputable def te290:TE:= .mk 1 false [(.int .i32 (.ofNat 0))] (.int .i32 (.ofNat 0)) true 4 (.int .i32)
noncomputable def te291:TE:= .mk 11 true [(.int .u64 (.ofNat 0)),(.int .u64 (.ofNat 0)),(.int .u32 (.ofNat 0)),(.int .u8 (.ofNat 0)),(.int .u8 (.ofNat 0)),(.int .u8 (.ofNat 0)),(.int .u8 (.ofNat 0)),.nilFunc,(.pointer none),(.int .i32 (.ofNat 0)),(.int .i32 (.ofNat 0))] (.agg (.mk [(.int .u64 (.ofNat 0)),(.int .u64 (.ofNat 0)),(.int .u32 (.ofNat 0)),(.int .u8 (.ofNat 0)),(.int .u8 (.ofNat 0)),(.int .u8 (.ofNat 0)),(.int .u8 (.ofNat 0)),.nilFunc,(.pointer none),(.int .i32 (.ofNat 0)),(.int .i32 (.ofNat 0))])) true 48 (.struct [(0,(1,12)),(1,(1,12)),(2,(1,228)),(3,(1,286)),(4,(1,5)),(5,(1,5)),(6,(1,287)),(7,(1,288)),(8,(1,236)),(9,(1,289)),(10,(1,290))])
noncomputable def te292:TE:= .mk 11 true [(.int .u64 (.ofNat 0)),(.int .u64 (.ofNat 0)),(.int .u32 (.ofNat 0)),(.int .u8 (.ofNat 0)),(.int .u8 (.ofNat 0)),(.int .u8 (.ofNat 0)),(.int .u8 (.ofNat 0)),.nilFunc,(.pointer none),(.int .i32 (.ofNat 0)),(.int .i32 (.ofNat 0))] (.agg (.mk [(.int .u64 (.ofNat 0)),(.int .u64 (.ofNat 0)),(.int .u32 (.ofNat 0)),(.int .u8 (.ofNat 0)),(.int .u8 (.ofNat 0)),(.int .u8 (.ofNat 0)),(.int .u8 (.ofNat 0)),.nilFunc,(.pointer none),(.int .i32 (.ofNat 0)),(.int .i32 (.ofNat 0))])) true 48 (.struct [(0,(1,12)),(1,(1,12)),(2,(1,228)),(3,(1,286)),(4,(1,5)),(5,(1,5)),(6,(1,287)),(7,(1,288)),(8,(1,236)),(9,(1,289)),(10,(1,290))])
noncomputable def tb:T TE:=(.n (.n (.n (.n (.n (.n (.n (.n (.n .e (some te255) .e) (some te127) .e) (some te63) (.n .e (some te191) .e)) (some te31) (.n (.n (.n .e (some te287) .e) (some te159) .e) (some te95) (.n .e (some te223) .e))) (some te15) (.n (.n (.n (.n .e (some te271) .e) (some te143) .e) (some te79) (.n .e (some te207) .e)) (some te47) (.n (.n .e (some te175) .e) (some te111) (.n .e (some te239) .e)))) (some te7) (.n (.n (.n (.n (.n .e (some te263) .e) (some te135) .e) (some te71) (.n .e (some te199) .e)) (some te39) (.n (.n .e (some te167) .e) (some te103) (.n .e (some te231) .e))) (some te23) (.n (.n (.n (.n .e (some te279) .e) (some te151) .e) (some te87) (.n .e (some te215) .e)) (some te55) (.n (.n .e (some te183) .e) (some te119) (.n .e (some te247) .e))))) (some te3) (.n (.n (.n (.n (.n (.n .e (some te259) .e) (some te131) .e) (some te67) (.n .e (some te195) .e)) (some te35) (.n (.n (.n .e (some te291) .e) (some te163) .e) (some te99) (.n .e (some te227) .e))) (some te19) (.n (.n (.n (.n .e (some te275) .e) (some te147) .e) (some te83) (.n .e (some te211) .e)) (some te51) (.n (.n .e (some te179) .e) (some te115) (.n .e (some te243) .e)))) (some te11) (.n (.n (.n (.n (.n .e (some te267) .e) (some te139) .e) (some te75) (.n .e (some te203) .e)) (some te43) (.n (.n .e (some te171) .e) (some te107) (.n .e (some te235) .e))) (some te27) (.n (.n (.n (.n .e (some te283) .e) (some te155) .e) (some te91) (.n .e (some te219) .e)) (some te59) (.n (.n .e (some te187) .e) (some te123) (.n .e (some te251) .e)))))) (some te1) (.n (.n (.n (.n (.n (.n (.n .e (some te257) .e) (some te129) .e) (some te65) (.n .e (some te193) .e)) (some te33) (.n (.n (.n .e (some te289) .e) (some te161) .e) (some te97) (.n .e (some te225) .e))) (some te17) (.n (.n (.n (.n .e (some te273) .e) (some te145) .e) (some te81) (.n .e (some te209) .e)) (some te49) (.n (.n .e (some te177) .e) (some te113) (.n .e (some te241) .e)))) (some te9) (.n (.n (.n (.n (.n .e (some te265) .e) (some te137) .e) (some te73) (.n .e (some te201) .e)) (some te41) (.n (.n .e (some te169) .e) (some te105) (.n .e (some te233) .e))) (some te25) (.n (.n (.n (.n .e (some te281) .e) (some te153) .e) (some te89) (.n .e (some te217) .e)) (some te57) (.n (.n .e (some te185) .e) (some te121) (.n .e (some te249) .e))))) (some te5) (.n (.n (.n (.n (.n (.n .e (some te261) .e) (some te133) .e) (some te69) (.n .e (some te197) .e)) (some te37) (.n (.n .e (some te165) .e) (some te101) (.n .e (some te229) .e))) (some te21) (.n (.n (.n (.n .e (some te277) .e) (some te149) .e) (some te85) (.n .e (some te213) .e)) (some te53) (.n (.n .e (some te181) .e) (some te117) (.n .e (some te245) .e)))) (some te13) (.n (.n (.n (.n (.n .e (some te269) .e) (some te141) .e) (some te77) (.n .e (some te205) .e)) (some te45) (.n (.n .e (some te173) .e) (some te109) (.n .e (some te237) .e))) (some te29) (.n (.n (.n (.n .e (some te285) .e) (some te157) .e) (some te93) (.n .e (some te221) .e)) (some te61) (.n (.n .e (some te189) .e) (some te125) (.n .e (some te253) .e))))))) (some te0) (.n (.n (.n (.n (.n (.n (.n (.n .e (some te256) .e) (some te128) .e) (some te64) (.n .e (some te192) .e)) (some te32) (.n (.n (.n .e (some te288) .e) (some te160) .e) (some te96) (.n .e (some te224) .e))) (some te16) (.n (.n (.n (.n .e (some te272) .e) (some te144) .e) (some te80) (.n .e (some te208) .e)) (some te48) (.n (.n .e (some te176) .e) (some te112) (.n .e (some te240) .e)))) (some te8) (.n (.n (.n (.n (.n .e (some te264) .e) (some te136) .e) (some te72) (.n .e (some te200) .e)) (some te40) (.n (.n .e (some te168) .e) (some te104) (.n .e (some te232) .e))) (some te24) (.n (.n (.n (.n .e (some te280) .e) (some te152) .e) (some te88) (.n .e (some te216) .e)) (some te56) (.n (.n .e (some te184) .e) (some te120) (.n .e (some te248) .e))))) (some te4) (.n (.n (.n (.n (.n (.n .e (some te260) .e) (some te132) .e) (some te68) (.n .e (some te196) .e)) (some te36) (.n (.n (.n .e (some te292) .e) (some te164) .e) (some te100) (.n .e (some te228) .e))) (some te20) (.n (.n (.n (.n .e (some te276) .e) (some te148) .e) (some te84) (.n .e (some te212) .e)) (some te52) (.n (.n .e (some te180) .e) (some te116) (.n .e (some te244) .e)))) (some te12) (.n (.n (.n (.n (.n .e (some te268) .e) (some te140) .e) (some te76) (.n .e (some te204) .e)) (some te44) (.n (.n .e (some te172) .e) (some te108) (.n .e (some te236) .e))) (some te28) (.n (.n (.n (.n .e (some te284) .e) (some te156) .e) (some te92) (.n .e (some te220) .e)) (some te60) (.n (.n .e (some te188) .e) (some te124) (.n .e (some te252) .e)))))) (some te2) (.n (.n (.n (.n (.n (.n (.n .e (some te258) .e) (some te130) .e) (some te66) (.n .e (some te194) .e)) (some te34) (.n (.n (.n .e (some te290) .e) (some te162) .e) (some te98) (.n .e (some te226) .e))) (some te18) (.n (.n (.n (.n .e (some te274) .e) (some te146) .e) (some te82) (.n .e (some te210) .e)) (some te50) (.n (.n .e (some te178) .e) (some te114) (.n .e (some te242) .e)))) (some te10) (.n (.n (.n (.n (.n .e (some te266) .e) (some te138) .e) (some te74) (.n .e (some te202) .e)) (some te42) (.n (.n .e (some te170) .e) (some te106) (.n .e (some te234) .e))) (some te26) (.n (.n (.n (.n .e (some te282) .e) (some te154) .e) (some te90) (.n .e (some te218) .e)) (some te58) (.n (.n .e (some te186) .e) (some te122) (.n .e (some te250) .e))))) (some te6) (.n (.n (.n (.n (.n (.n .e (some te262) .e) (some te134) .e) (some te70) (.n .e (some te198) .e)) (some te38) (.n (.n .e (some te166) .e) (some te102) (.n .e (some te230) .e))) (some te22) (.n (.n (.n (.n .e (some te278) .e) (some te150) .e) (some te86) (.n .e (some te214) .e)) (some te54) (.n (.n .e (some te182) .e) (some te118) (.n .e (some te246) .e)))) (some te14) (.n (.n (.n (.n (.n .e (some te270) .e) (some te142) .e) (some te78) (.n .e (some te206) .e)) (some te46) (.n (.n .e (some te174) .e) (some te110) (.n .e (some te238) .e))) (some te30) (.n (.n (.n (.n .e (some te286) .e) (some te158) .e) (some te94) (.n .e (some te222) .e)) (some te62) (.n (.n .e (some te190) .e) (some te126) (.n .e (some te254) .e))))))))
noncomputable def ft:T Func:=(.n (.n (.n (.n (.n (.n (.n (.n .e (some Tryz.f127) .e) (some Tryz.f63) (.n .e (some Tryz.f191) .e)) (some Tryz.f31) (.n (.n .e (some Tryz.f159) .e) (some Tryz.f95) (.n .e (some Tryz.f223) .e))) (some Tryz.f15) (.n (.n (.n .e (some Tryz.f143) .e) (some Tryz.f79) (.n .e (some Tryz.f207) .e)) (some Tryz.f47) (.n (.n .e (some Tryz.f175) .e) (some Tryz.f111) .e))) (some Tryz.f7) (.n (.n (.n (.n .e (some Tryz.f135) .e) (some Tryz.f71) (.n .e (some Tryz.f199) .e)) (some Tryz.f39) (.n (.n .e (some Tryz.f167) .e) (some Tryz.f103) (.n .e (some Tryz.f231) .e))) (some Tryz.f23) (.n (.n (.n .e (some Tryz.f151) .e) (some Tryz.f87) (.n .e (some Tryz.f215) .e)) (some Tryz.f55) (.n (.n .e (some Tryz.f183) .e) (some Tryz.f119) .e)))) (some Tryz.f3) (.n (.n (.n (.n (.n .e (some Tryz.f131) .e) (some Tryz.f67) (.n .e (some Tryz.f195) .e)) (some Tryz.f35) (.n (.n .e (some Tryz.f163) .e) (some Tryz.f99) (.n .e (some Tryz.f227) .e))) (some Tryz.f19) (.n (.n (.n .e (some Tryz.f147) .e) (some Tryz.f83) (.n .e (some Tryz.f211) .e)) (some Tryz.f51) (.n (.n .e (some Tryz.f179) .e) (some Tryz.f115) .e))) (some Tryz.f11) (.n (.n (.n (.n .e (some Tryz.f139) .e) (some Tryz.f75) (.n .e (some Tryz.f203) .e)) (some Tryz.f43) (.n (.n .e (some Tryz.f171) .e) (some Tryz.f107) (.n .e (some Tryz.f235) .e))) (some Tryz.f27) (.n (.n (.n .e (some Tryz.f155) .e) (some Tryz.f91) (.n .e (some Tryz.f219) .e)) (some Tryz.f59) (.n (.n .e (some Tryz.f187) .e) (some Tryz.f123) .e))))) (some Tryz.f1) (.n (.n (.n (.n (.n (.n .e (some Tryz.f129) .e) (some Tryz.f65) (.n .e (some Tryz.f193) .e)) (some Tryz.f33) (.n (.n .e (some Tryz.f161) .e) (some Tryz.f97) (.n .e (some Tryz.f225) .e))) (some Tryz.f17) (.n (.n (.n .e (some Tryz.f145) .e) (some Tryz.f81) (.n .e (some Tryz.f209) .e)) (some Tryz.f49) (.n (.n .e (some Tryz.f177) .e) (some Tryz.f113) .e))) (some Tryz.f9) (.n (.n (.n (.n .e (some Tryz.f137) .e) (some Tryz.f73) (.n .e (some Tryz.f201) .e)) (some Tryz.f41) (.n (.n .e (some Tryz.f169) .e) (some Tryz.f105) (.n .e (some Tryz.f233) .e))) (some Tryz.f25) (.n (.n (.n .e (some Tryz.f153) .e) (some Tryz.f89) (.n .e (some Tryz.f217) .e)) (some Tryz.f57) (.n (.n .e (some Tryz.f185) .e) (some Tryz.f121) .e)))) (some Tryz.f5) (.n (.n (.n (.n (.n .e (some Tryz.f133) .e) (some Tryz.f69) (.n .e (some Tryz.f197) .e)) (some Tryz.f37) (.n (.n .e (some Tryz.f165) .e) (some Tryz.f101) (.n .e (some Tryz.f229) .e))) (some Tryz.f21) (.n (.n (.n .e (some Tryz.f149) .e) (some Tryz.f85) (.n .e (some Tryz.f213) .e)) (some Tryz.f53) (.n (.n .e (some Tryz.f181) .e) (some Tryz.f117) .e))) (some Tryz.f13) (.n (.n (.n (.n .e (some Tryz.f141) .e) (some Tryz.f77) (.n .e (some Tryz.f205) .e)) (some Tryz.f45) (.n (.n .e (some Tryz.f173) .e) (some Tryz.f109) .e)) (some Tryz.f29) (.n (.n (.n .e (some Tryz.f157) .e) (some Tryz.f93) (.n .e (some Tryz.f221) .e)) (some Tryz.f61) (.n (.n .e (some Tryz.f189) .e) (some Tryz.f125) .e)))))) (some Tryz.f0) (.n (.n (.n (.n (.n (.n (.n .e (some Tryz.f128) .e) (some Tryz.f64) (.n .e (some Tryz.f192) .e)) (some Tryz.f32) (.n (.n .e (some Tryz.f160) .e) (some Tryz.f96) (.n .e (some Tryz.f224) .e))) (some Tryz.f16) (.n (.n (.n .e (some Tryz.f144) .e) (some Tryz.f80) (.n .e (some Tryz.f208) .e)) (some Tryz.f48) (.n (.n .e (some Tryz.f176) .e) (some Tryz.f112) .e))) (some Tryz.f8) (.n (.n (.n (.n .e (some Tryz.f136) .e) (some Tryz.f72) (.n .e (some Tryz.f200) .e)) (some Tryz.f40) (.n (.n .e (some Tryz.f168) .e) (some Tryz.f104) (.n .e (some Tryz.f232) .e))) (some Tryz.f24) (.n (.n (.n .e (some Tryz.f152) .e) (some Tryz.f88) (.n .e (some Tryz.f216) .e)) (some Tryz.f56) (.n (.n .e (some Tryz.f184) .e) (some Tryz.f120) .e)))) (some Tryz.f4) (.n (.n (.n (.n (.n .e (some Tryz.f132) .e) (some Tryz.f68) (.n .e (some Tryz.f196) .e)) (some Tryz.f36) (.n (.n .e (some Tryz.f164) .e) (some Tryz.f100) (.n .e (some Tryz.f228) .e))) (some Tryz.f20) (.n (.n (.n .e (some Tryz.f148) .e) (some Tryz.f84) (.n .e (some Tryz.f212) .e)) (some Tryz.f52) (.n (.n .e (some Tryz.f180) .e) (some Tryz.f116) .e))) (some Tryz.f12) (.n (.n (.n (.n .e (some Tryz.f140) .e) (some Tryz.f76) (.n .e (some Tryz.f204) .e)) (some Tryz.f44) (.n (.n .e (some Tryz.f172) .e) (some Tryz.f108) .e)) (some Tryz.f28) (.n (.n (.n .e (some Tryz.f156) .e) (some Tryz.f92) (.n .e (some Tryz.f220) .e)) (some Tryz.f60) (.n (.n .e (some Tryz.f188) .e) (some Tryz.f124) .e))))) (some Tryz.f2) (.n (.n (.n (.n (.n (.n .e (some Tryz.f130) .e) (some Tryz.f66) (.n .e (some Tryz.f194) .e)) (some Tryz.f34) (.n (.n .e (some Tryz.f162) .e) (some Tryz.f98) (.n .e (some Tryz.f226) .e))) (some Tryz.f18) (.n (.n (.n .e (some Tryz.f146) .e) (some Tryz.f82) (.n .e (some Tryz.f210) .e)) (some Tryz.f50) (.n (.n .e (some Tryz.f178) .e) (some Tryz.f114) .e))) (some Tryz.f10) (.n (.n (.n (.n .e (some Tryz.f138) .e) (some Tryz.f74) (.n .e (some Tryz.f202) .e)) (some Tryz.f42) (.n (.n .e (some Tryz.f170) .e) (some Tryz.f106) (.n .e (some Tryz.f234) .e))) (some Tryz.f26) (.n (.n (.n .e (some Tryz.f154) .e) (some Tryz.f90) (.n .e (some Tryz.f218) .e)) (some Tryz.f58) (.n (.n .e (some Tryz.f186) .e) (some Tryz.f122) .e)))) (some Tryz.f6) (.n (.n (.n (.n (.n .e (some Tryz.f134) .e) (some Tryz.f70) (.n .e (some Tryz.f198) .e)) (some Tryz.f38) (.n (.n .e (some Tryz.f166) .e) (some Tryz.f102) (.n .e (some Tryz.f230) .e))) (some Tryz.f22) (.n (.n (.n .e (some Tryz.f150) .e) (some Tryz.f86) (.n .e (some Tryz.f214) .e)) (some Tryz.f54) (.n (.n .e (some Tryz.f182) .e) (some Tryz.f118) .e))) (some Tryz.f14) (.n (.n (.n (.n .e (some Tryz.f142) .e) (some Tryz.f78) (.n .e (some Tryz.f206) .e)) (some Tryz.f46) (.n (.n .e (some Tryz.f174) .e) (some Tryz.f110) .e)) (some Tryz.f30) (.n (.n (.n .e (some Tryz.f158) .e) (some Tryz.f94) (.n .e (some Tryz.f222) .e)) (some Tryz.f62) (.n (.n .e (some Tryz.f190) .e) (some Tryz.f126) .e)))))))
theorem wO:Tb Tryz.prog tb:=tb_of_chk (by kernel_rfl)
theorem fa {k:Nat} {y:Func} (h:Tryz.prog.funcs[k]? =some y) (n:(y.name== "runtime.NumGoroutine")=false): ∀x,some y=some x->Tryz.prog.funcs[k]? =some x/\(x.name== "runtime.NumGoroutine")=false:=fun x e=>by cases e;exact ⟨h,n⟩
theorem ft_all:T.All (fun k x=>Tryz.prog.funcs[k]? =some x/\(x.name== "runtime.NumGoroutine")=false) ft 0 1:=⟨fa Tryz.func0 (by kernel_rfl),⟨fa Tryz.func1 (by kernel_rfl),⟨fa Tryz.func3 (by kernel_rfl),⟨fa Tryz.func7 (by kernel_rfl),⟨fa Tryz.func15 (by kernel_rfl),⟨fa Tryz.func31 (by kernel_rfl),⟨fa Tryz.func63 (by kernel_rfl),⟨fa Tryz.func127 (by kernel_rfl),trivial,trivial⟩,⟨fa Tryz.func191 (by kernel_rfl),trivial,trivial⟩⟩,⟨fa Tryz.func95 (by kernel_rfl),⟨fa Tryz.func159 (by kernel_rfl),trivial,trivial⟩,⟨fa Tryz.func223 (by kernel_rfl),trivial,trivial⟩⟩⟩,⟨fa Tryz.func47 (by kernel_rfl),⟨fa Tryz.func79 (by kernel_rfl),⟨fa Tryz.func143 (by kernel_rfl),trivial,trivial⟩,⟨fa Tryz.func207 (by kernel_rfl),trivial,trivial⟩⟩,⟨fa Tryz.func111 (by kernel_rfl),⟨fa Tryz.func175 (by kernel_rfl),trivial,trivial⟩,trivial⟩⟩⟩,⟨fa Tryz.func23 (by kernel_rfl),⟨fa Tryz.func39 (by kernel_rfl),⟨fa Tryz.func71 (by kernel_rfl),⟨fa Tryz.func135 (by kernel_rfl),trivial,trivial⟩,⟨fa Tryz.func199 (by kernel_rfl),trivial,trivial⟩⟩,⟨fa Tryz.func103 (by kernel_rfl),⟨fa Tryz.func167 (by kernel_rfl),trivial,trivial⟩,⟨fa Tryz.func231 (by kernel_rfl),trivial,trivial⟩⟩⟩,⟨fa Tryz.func55 (by kernel_rfl),⟨fa Tryz.func87 (by kernel_rfl),⟨fa Tryz.func151 (by kernel_rfl),trivial,trivial⟩,⟨fa Tryz.func215 (by kernel_rfl),trivial,trivial⟩⟩,⟨fa Tryz.func119 (by kernel_rfl),⟨fa Tryz.func183 (by kernel_rfl),trivial,trivial⟩,trivial⟩⟩⟩⟩,⟨fa Tryz.func11 (by kernel_rfl),⟨fa Tryz.func19 (by kernel_rfl),⟨fa Tryz.func35 (by kernel_rfl),⟨fa Tryz.func67 (by kernel_rfl),⟨fa Tryz.func131 (by kernel_rfl),trivial,trivial⟩,⟨fa Tryz.func195 (by kernel_rfl),trivial,trivial⟩⟩,⟨fa Tryz.func99 (by kernel_rfl),⟨fa Tryz.func163 (by kernel_rfl),trivial,trivial⟩,⟨fa Tryz.func227 (by kernel_rfl),trivial,trivial⟩⟩⟩,⟨fa Tryz.func51 (by kernel_rfl),⟨fa Tryz.func83 (by kernel_rfl),⟨fa Tryz.func147 (by kernel_rfl),trivial,trivial⟩,⟨fa Tryz.func211 (by kernel_rfl),trivial,trivial⟩⟩,⟨fa Tryz.func115 (by kernel_rfl),⟨fa Tryz.func179 (by kernel_rfl),trivial,trivial⟩,trivial⟩⟩⟩,⟨fa Tryz.func27 (by kernel_rfl),⟨fa Tryz.func43 (by kernel_rfl),⟨fa Tryz.func75 (by kernel_rfl),⟨fa Tryz.func139 (by kernel_rfl),trivial,trivial⟩,⟨fa Tryz.func203 (by kernel_rfl),trivial,trivial⟩⟩,⟨fa Tryz.func107 (by kernel_rfl),⟨fa Tryz.func171 (by kernel_rfl),trivial,trivial⟩,⟨fa Tryz.func235 (by kernel_rfl),trivial,trivial⟩⟩⟩,⟨fa Tryz.func59 (by kernel_rfl),⟨fa Tryz.func91 (by kernel_rfl),⟨fa Tryz.func155 (by kernel_rfl),trivial,trivial⟩,⟨fa Tryz.func219 (by kernel_rfl),trivial,trivial⟩⟩,⟨fa Tryz.func123 (by kernel_rfl),⟨fa Tryz.func187 (by kernel_rfl),trivial,trivial⟩,trivial⟩⟩⟩⟩⟩,⟨fa Tryz.func5 (by kernel_rfl),⟨fa Tryz.func9 (by kernel_rfl),⟨fa Tryz.func17 (by kernel_rfl),⟨fa Tryz.func33 (by kernel_rfl),⟨fa Tryz.func65 (by kernel_rfl),⟨fa Tryz.func129 (by kernel_rfl),trivial,trivial⟩,⟨fa Tryz.func193 (by kernel_rfl),trivial,trivial⟩⟩,⟨fa Tryz.func97 (by kernel_rfl),⟨fa Tryz.func161 (by kernel_rfl),trivial,trivial⟩,⟨fa Tryz.func225 (by kernel_rfl),trivial,trivial⟩⟩⟩,⟨fa Tryz.func49 (by kernel_rfl),⟨fa Tryz.func81 (by kernel_rfl),⟨fa Tryz.func145 (by kernel_rfl),trivial,trivial⟩,⟨fa Tryz.func209 (by kernel_rfl),trivial,trivial⟩⟩,⟨fa Tryz.func113 (by kernel_rfl),⟨fa Tryz.func177 (by kernel_rfl),trivial,trivial⟩,trivial⟩⟩⟩,⟨fa Tryz.func25 (by kernel_rfl),⟨fa Tryz.func41 (by kernel_rfl),⟨fa Tryz.func73 (by kernel_rfl),⟨fa Tryz.func137 (by kernel_rfl),trivial,trivial⟩,⟨fa Tryz.func201 (by kernel_rfl),trivial,trivial⟩⟩,⟨fa Tryz.func105 (by kernel_rfl),⟨fa Tryz.func169 (by kernel_rfl),trivial,trivial⟩,⟨fa Tryz.func233 (by kernel_rfl),trivial,trivial⟩⟩⟩,⟨fa Tryz.func57 (by kernel_rfl),⟨fa Tryz.func89 (by kernel_rfl),⟨fa Tryz.func153 (by kernel_rfl),trivial,trivial⟩,⟨fa Tryz.func217 (by kernel_rfl),trivial,trivial⟩⟩,⟨fa Tryz.func121 (by kernel_rfl),⟨fa Tryz.func185 (by kernel_rfl),trivial,trivial⟩,trivial⟩⟩⟩⟩,⟨fa Tryz.func13 (by kernel_rfl),⟨fa Tryz.func21 (by kernel_rfl),⟨fa Tryz.func37 (by kernel_rfl),⟨fa Tryz.func69 (by kernel_rfl),⟨fa Tryz.func133 (by kernel_rfl),trivial,trivial⟩,⟨fa Tryz.func197 (by kernel_rfl),trivial,trivial⟩⟩,⟨fa Tryz.func101 (by kernel_rfl),⟨fa Tryz.func165 (by kernel_rfl),trivial,trivial⟩,⟨fa Tryz.func229 (by kernel_rfl),trivial,trivial⟩⟩⟩,⟨fa Tryz.func53 (by kernel_rfl),⟨fa Tryz.func85 (by kernel_rfl),⟨fa Tryz.func149 (by kernel_rfl),trivial,trivial⟩,⟨fa Tryz.func213 (by kernel_rfl),trivial,trivial⟩⟩,⟨fa Tryz.func117 (by kernel_rfl),⟨fa Tryz.func181 (by kernel_rfl),trivial,trivial⟩,trivial⟩⟩⟩,⟨fa Tryz.func29 (by kernel_rfl),⟨fa Tryz.func45 (by kernel_rfl),⟨fa Tryz.func77 (by kernel_rfl),⟨fa Tryz.func141 (by kernel_rfl),trivial,trivial⟩,⟨fa Tryz.func205 (by kernel_rfl),trivial,trivial⟩⟩,⟨fa Tryz.func109 (by kernel_rfl),⟨fa Tryz.func173 (by kernel_rfl),trivial,trivial⟩,trivial⟩⟩,⟨fa Tryz.func61 (by kernel_rfl),⟨fa Tryz.func93 (by kernel_rfl),⟨fa Tryz.func157 (by kernel_rfl),trivial,trivial⟩,⟨fa Tryz.func221 (by kernel_rfl),trivial,trivial⟩⟩,⟨fa Tryz.func125 (by kernel_rfl),⟨fa Tryz.func189 (by kernel_rfl),trivial,trivial⟩,trivial⟩⟩⟩⟩⟩⟩,⟨fa Tryz.func2 (by kernel_rfl),⟨fa Tryz.func4 (by kernel_rfl),⟨fa Tryz.func8 (by kernel_rfl),⟨fa Tryz.func16 (by kernel_rfl),⟨fa Tryz.func32 (by kernel_rfl),⟨fa Tryz.func64 (by kernel_rfl),⟨fa Tryz.func128 (by kernel_rfl),trivial,trivial⟩,⟨fa Tryz.func192 (by kernel_rfl),trivial,trivial⟩⟩,⟨fa Tryz.func96 (by kernel_rfl),⟨fa Tryz.func160 (by kernel_rfl),trivial,trivial⟩,⟨fa Tryz.func224 (by kernel_rfl),trivial,trivial⟩⟩⟩,⟨fa Tryz.func48 (by kernel_rfl),⟨fa Tryz.func80 (by kernel_rfl),⟨fa Tryz.func144 (by kernel_rfl),trivial,trivial⟩,⟨fa Tryz.func208 (by kernel_rfl),trivial,trivial⟩⟩,⟨fa Tryz.func112 (by kernel_rfl),⟨fa Tryz.func176 (by kernel_rfl),trivial,trivial⟩,trivial⟩⟩⟩,⟨fa Tryz.func24 (by kernel_rfl),⟨fa Tryz.func40 (by kernel_rfl),⟨fa Tryz.func72 (by kernel_rfl),⟨fa Tryz.func136 (by kernel_rfl),trivial,trivial⟩,⟨fa Tryz.func200 (by kernel_rfl),trivial,trivial⟩⟩,⟨fa Tryz.func104 (by kernel_rfl),⟨fa Tryz.func168 (by kernel_rfl),trivial,trivial⟩,⟨fa Tryz.func232 (by kernel_rfl),trivial,trivial⟩⟩⟩,⟨fa Tryz.func56 (by kernel_rfl),⟨fa Tryz.func88 (by kernel_rfl),⟨fa Tryz.func152 (by kernel_rfl),trivial,trivial⟩,⟨fa Tryz.func216 (by kernel_rfl),trivial,trivial⟩⟩,⟨fa Tryz.func120 (by kernel_rfl),⟨fa Tryz.func184 (by kernel_rfl),trivial,trivial⟩,trivial⟩⟩⟩⟩,⟨fa Tryz.func12 (by kernel_rfl),⟨fa Tryz.func20 (by kernel_rfl),⟨fa Tryz.func36 (by kernel_rfl),⟨fa Tryz.func68 (by kernel_rfl),⟨fa Tryz.func132 (by kernel_rfl),trivial,trivial⟩,⟨fa Tryz.func196 (by kernel_rfl),trivial,trivial⟩⟩,⟨fa Tryz.func100 (by kernel_rfl),⟨fa Tryz.func164 (by kernel_rfl),trivial,trivial⟩,⟨fa Tryz.func228 (by kernel_rfl),trivial,trivial⟩⟩⟩,⟨fa Tryz.func52 (by kernel_rfl),⟨fa Tryz.func84 (by kernel_rfl),⟨fa Tryz.func148 (by kernel_rfl),trivial,trivial⟩,⟨fa Tryz.func212 (by kernel_rfl),trivial,trivial⟩⟩,⟨fa Tryz.func116 (by kernel_rfl),⟨fa Tryz.func180 (by kernel_rfl),trivial,trivial⟩,trivial⟩⟩⟩,⟨fa Tryz.func28 (by kernel_rfl),⟨fa Tryz.func44 (by kernel_rfl),⟨fa Tryz.func76 (by kernel_rfl),⟨fa Tryz.func140 (by kernel_rfl),trivial,trivial⟩,⟨fa Tryz.func204 (by kernel_rfl),trivial,trivial⟩⟩,⟨fa Tryz.func108 (by kernel_rfl),⟨fa Tryz.func172 (by kernel_rfl),trivial,trivial⟩,trivial⟩⟩,⟨fa Tryz.func60 (by kernel_rfl),⟨fa Tryz.func92 (by kernel_rfl),⟨fa Tryz.func156 (by kernel_rfl),trivial,trivial⟩,⟨fa Tryz.func220 (by kernel_rfl),trivial,trivial⟩⟩,⟨fa Tryz.func124 (by kernel_rfl),⟨fa Tryz.func188 (by kernel_rfl),trivial,trivial⟩,trivial⟩⟩⟩⟩⟩,⟨fa Tryz.func6 (by kernel_rfl),⟨fa Tryz.func10 (by kernel_rfl),⟨fa Tryz.func18 (by kernel_rfl),⟨fa Tryz.func34 (by kernel_rfl),⟨fa Tryz.func66 (by kernel_rfl),⟨fa Tryz.func130 (by kernel_rfl),trivial,trivial⟩,⟨fa Tryz.func194 (by kernel_rfl),trivial,trivial⟩⟩,⟨fa Tryz.func98 (by kernel_rfl),⟨fa Tryz.func162 (by kernel_rfl),trivial,trivial⟩,⟨fa Tryz.func226 (by kernel_rfl),trivial,trivial⟩⟩⟩,⟨fa Tryz.func50 (by kernel_rfl),⟨fa Tryz.func82 (by kernel_rfl),⟨fa Tryz.func146 (by kernel_rfl),trivial,trivial⟩,⟨fa Tryz.func210 (by kernel_rfl),trivial,trivial⟩⟩,⟨fa Tryz.func114 (by kernel_rfl),⟨fa Tryz.func178 (by kernel_rfl),trivial,trivial⟩,trivial⟩⟩⟩,⟨fa Tryz.func26 (by kernel_rfl),⟨fa Tryz.func42 (by kernel_rfl),⟨fa Tryz.func74 (by kernel_rfl),⟨fa Tryz.func138 (by kernel_rfl),trivial,trivial⟩,⟨fa Tryz.func202 (by kernel_rfl),trivial,trivial⟩⟩,⟨fa Tryz.func106 (by kernel_rfl),⟨fa Tryz.func170 (by kernel_rfl),trivial,trivial⟩,⟨fa Tryz.func234 (by kernel_rfl),trivial,trivial⟩⟩⟩,⟨fa Tryz.func58 (by kernel_rfl),⟨fa Tryz.func90 (by kernel_rfl),⟨fa Tryz.func154 (by kernel_rfl),trivial,trivial⟩,⟨fa Tryz.func218 (by kernel_rfl),trivial,trivial⟩⟩,⟨fa Tryz.func122 (by kernel_rfl),⟨fa Tryz.func186 (by kernel_rfl),trivial,trivial⟩,trivial⟩⟩⟩⟩,⟨fa Tryz.func14 (by kernel_rfl),⟨fa Tryz.func22 (by kernel_rfl),⟨fa Tryz.func38 (by kernel_rfl),⟨fa Tryz.func70 (by kernel_rfl),⟨fa Tryz.func134 (by kernel_rfl),trivial,trivial⟩,⟨fa Tryz.func198 (by kernel_rfl),trivial,trivial⟩⟩,⟨fa Tryz.func102 (by kernel_rfl),⟨fa Tryz.func166 (by kernel_rfl),trivial,trivial⟩,⟨fa Tryz.func230 (by kernel_rfl),trivial,trivial⟩⟩⟩,⟨fa Tryz.func54 (by kernel_rfl),⟨fa Tryz.func86 (by kernel_rfl),⟨fa Tryz.func150 (by kernel_rfl),trivial,trivial⟩,⟨fa Tryz.func214 (by kernel_rfl),trivial,trivial⟩⟩,⟨fa Tryz.func118 (by kernel_rfl),⟨fa Tryz.func182 (by kernel_rfl),trivial,trivial⟩,trivial⟩⟩⟩,⟨fa Tryz.func30 (by kernel_rfl),⟨fa Tryz.func46 (by kernel_rfl),⟨fa Tryz.func78 (by kernel_rfl),⟨fa Tryz.func142 (by kernel_rfl),trivial,trivial⟩,⟨fa Tryz.func206 (by kernel_rfl),trivial,trivial⟩⟩,⟨fa Tryz.func110 (by kernel_rfl),⟨fa Tryz.func174 (by kernel_rfl),trivial,trivial⟩,trivial⟩⟩,⟨fa Tryz.func62 (by kernel_rfl),⟨fa Tryz.func94 (by kernel_rfl),⟨fa Tryz.func158 (by kernel_rfl),trivial,trivial⟩,⟨fa Tryz.func222 (by kernel_rfl),trivial,trivial⟩⟩,⟨fa Tryz.func126 (by kernel_rfl),⟨fa Tryz.func190 (by kernel_rfl),trivial,trivial⟩,trivial⟩⟩⟩⟩⟩⟩⟩
theorem mixed:Tryz.prog.follows .mixedOrders=true:=by kernel_rfl
end Go.Proofs.Kn
namespace Go.Proofs.Kn
open Go Go.Ev
noncomputable def SE (xt:Addr->Option Value):Env:={P:=Tryz.prog,tb:=tb,xt:=xt,ft:=ft,nat:=fun _ _ _ _=>none,drw:=fun _ _ _ _ _=>none}
theorem SE_P (xt:Addr->Option Value):(SE xt).P=Tryz.prog:=rfl
theorem SE_tb (xt:Addr->Option Value):(SE xt).tb=tb:=rfl
theorem SE_xt (xt:Addr->Option Value):(SE xt).xt=xt:=rfl
theorem sok (xt:Addr->Option Value):SyOk (SE xt):=⟨fun f fn h=>T.All.of ft_all f fn h,wO,mixed⟩
end Go.Proofs.Kn
namespace Go.Proofs.Kn
open Go Go.Ev
set_option maxRecDepth 100000
theorem tg3:tb.get 3=some te3:=by kernel_rfl
theorem tg4:tb.get 4=some te4:=by kernel_rfl
theorem tg22:tb.get 22=some te22:=by kernel_rfl
theorem wY:tb.get 23=some te23:=by kernel_rfl
theorem wX:tb.get 24=some te24:=by kernel_rfl
theorem wW:tb.get 25=some te25:=by kernel_rfl
theorem tg28:tb.get 51=some te51:=by kernel_rfl
theorem tg33:tb.get 58=some te58:=by kernel_rfl
theorem tg34:tb.get 30=some te30:=by kernel_rfl
theorem tg51:tb.get 43=some te43:=by kernel_rfl
theorem tg55:tb.get 78=some te78:=by kernel_rfl
theorem wV:tb.get 42=some te42:=by kernel_rfl
theorem xR:tb.get 65=some te65:=by kernel_rfl
theorem bO:tb.get 85=some te85:=by kernel_rfl
theorem tg27:tb.get 27=some te27:=by kernel_rfl
theorem tg30:tb.get 53=some te53:=by kernel_rfl
theorem tg43:tb.get 48=some te48:=by kernel_rfl
theorem uE:tb.get 87=some te87:=by kernel_rfl
theorem uJ:tb.get 90=some te90:=by kernel_rfl
theorem tg61:tb.get 56=some te56:=by kernel_rfl
theorem tg90:tb.get 114=some te114:=by kernel_rfl
theorem tg121:tb.get 102=some te102:=by kernel_rfl
theorem kW:tb.get 92=some te92:=by kernel_rfl
theorem tg225:tb.get 160=some te160:=by kernel_rfl
theorem ld3 (xt:Addr->Option Value) (h:Hp) (b off:Nat):qW tb xt h 3 (.ptr b off)=jV (h.t.get b) off:=yR tg3 rfl
theorem st3 (h:Hp) (b off:Nat) (v:AV):jP tb h 3 (.ptr b off) v=jL 1 h b off v (h.t.get b):=zS tg3 rfl
theorem ld4 (xt:Addr->Option Value) (h:Hp) (b off:Nat):qW tb xt h 4 (.ptr b off)=jV (h.t.get b) off:=yR tg4 rfl
theorem st4 (h:Hp) (b off:Nat) (v:AV):jP tb h 4 (.ptr b off) v=jL 1 h b off v (h.t.get b):=zS tg4 rfl
theorem ld22 (xt:Addr->Option Value) (h:Hp) (b off:Nat):qW tb xt h 22 (.ptr b off)=jV (h.t.get b) off:=yR tg22 rfl
theorem st22 (h:Hp) (b off:Nat) (v:AV):jP tb h 22 (.ptr b off) v=jL 1 h b off v (h.t.get b):=zS tg22 rfl
theorem ld23 (xt:Addr->Option Value) (h:Hp) (b off:Nat):qW tb xt h 23 (.ptr b off)=jV (h.t.get b) off:=yR wY rfl
theorem st23 (h:Hp) (b off:Nat) (v:AV):jP tb h 23 (.ptr b off) v=jL 1 h b off v (h.t.get b):=zS wY rfl
theorem ld24 (xt:Addr->Option Value) (h:Hp) (b off:Nat):qW tb xt h 24 (.ptr b off)=jV (h.t.get b) off:=yR wX rfl
theorem st24 (h:Hp) (b off:Nat) (v:AV):jP tb h 24 (.ptr b off) v=jL 1 h b off v (h.t.get b):=zS wX rfl
theorem ld25 (xt:Addr->Option Value) (h:Hp) (b off:Nat):qW tb xt h 25 (.ptr b off)=jV (h.t.get b) off:=yR wW rfl
theorem st25 (h:Hp) (b off:Nat) (v:AV):jP tb h 25 (.ptr b off) v=jL 1 h b off v (h.t.get b):=zS wW rfl
theorem ld28 (xt:Addr->Option Value) (h:Hp) (b off:Nat):qW tb xt h 51 (.ptr b off)=jV (h.t.get b) off:=yR tg28 rfl
theorem st28 (h:Hp) (b off:Nat) (v:AV):jP tb h 51 (.ptr b off) v=jL 1 h b off v (h.t.get b):=zS tg28 rfl
theorem ld33 (xt:Addr->Option Value) (h:Hp) (b off:Nat):qW tb xt h 58 (.ptr b off)=jV (h.t.get b) off:=yR tg33 rfl
theorem st33 (h:Hp) (b off:Nat) (v:AV):jP tb h 58 (.ptr b off) v=jL 1 h b off v (h.t.get b):=zS tg33 rfl
theorem ld34 (xt:Addr->Option Value) (h:Hp) (b off:Nat):qW tb xt h 30 (.ptr b off)=jV (h.t.get b) off:=yR tg34 rfl
theorem st34 (h:Hp) (b off:Nat) (v:AV):jP tb h 30 (.ptr b off) v=jL 1 h b off v (h.t.get b):=zS tg34 rfl
theorem ld51 (xt:Addr->Option Value) (h:Hp) (b off:Nat):qW tb xt h 43 (.ptr b off)=jV (h.t.get b) off:=yR tg51 rfl
theorem st51 (h:Hp) (b off:Nat) (v:AV):jP tb h 43 (.ptr b off) v=jL 1 h b off v (h.t.get b):=zS tg51 rfl
theorem ld55 (xt:Addr->Option Value) (h:Hp) (b off:Nat):qW tb xt h 78 (.ptr b off)=jV (h.t.get b) off:=yR tg55 rfl
theorem st55 (h:Hp) (b off:Nat) (v:AV):jP tb h 78 (.ptr b off) v=jL 1 h b off v (h.t.get b):=zS tg55 rfl
theorem ld58 (xt:Addr->Option Value) (h:Hp) (b off:Nat):qW tb xt h 42 (.ptr b off)=jV (h.t.get b) off:=yR wV rfl
theorem st58 (h:Hp) (b off:Nat) (v:AV):jP tb h 42 (.ptr b off) v=jL 1 h b off v (h.t.get b):=zS wV rfl
theorem ld75 (xt:Addr->Option Value) (h:Hp) (b off:Nat):qW tb xt h 65 (.ptr b off)=jV (h.t.get b) off:=yR xR rfl
theorem st75 (h:Hp) (b off:Nat) (v:AV):jP tb h 65 (.ptr b off) v=jL 1 h b off v (h.t.get b):=zS xR rfl
theorem ld136 (xt:Addr->Option Value) (h:Hp) (b off:Nat):qW tb xt h 85 (.ptr b off)=jV (h.t.get b) off:=yR bO rfl
theorem st136 (h:Hp) (b off:Nat) (v:AV):jP tb h 85 (.ptr b off) v=jL 1 h b off v (h.t.get b):=zS bO rfl
theorem ld27 (xt:Addr->Option Value) (h:Hp) (b off:Nat):qW tb xt h 27 (.ptr b off)=vR 6 (h.t.get b) off:=xE tg27 rfl rfl
theorem st27 (h:Hp) (b off:Nat) (v:AV):jP tb h 27 (.ptr b off) v=jL 6 h b off v (h.t.get b):=zS tg27 rfl
theorem fa27_0 (b off:Nat):qR tb 27 (.ptr b off) 0=some (.ptr b (off+0)):=zG tg27 rfl rfl
theorem fa27_1 (b off:Nat):qR tb 27 (.ptr b off) 1=some (.ptr b (off+1)):=zG tg27 rfl rfl
theorem fa27_2 (b off:Nat):qR tb 27 (.ptr b off) 2=some (.ptr b (off+2)):=zG tg27 rfl rfl
theorem fa27_3 (b off:Nat):qR tb 27 (.ptr b off) 3=some (.ptr b (off+3)):=zG tg27 rfl rfl
theorem fa27_4 (b off:Nat):qR tb 27 (.ptr b off) 4=some (.ptr b (off+4)):=zG tg27 rfl rfl
theorem fa27_5 (b off:Nat):qR tb 27 (.ptr b off) 5=some (.ptr b (off+5)):=zG tg27 rfl rfl
theorem ld30 (xt:Addr->Option Value) (h:Hp) (b off:Nat):qW tb xt h 53 (.ptr b off)=vR 8 (h.t.get b) off:=xE tg30 rfl rfl
theorem st30 (h:Hp) (b off:Nat) (v:AV):jP tb h 53 (.ptr b off) v=jL 8 h b off v (h.t.get b):=zS tg30 rfl
theorem fa30_0 (b off:Nat):qR tb 53 (.ptr b off) 0=some (.ptr b (off+0)):=zG tg30 rfl rfl
theorem fa30_1 (b off:Nat):qR tb 53 (.ptr b off) 1=some (.ptr b (off+6)):=zG tg30 rfl rfl
theorem fa30_2 (b off:Nat):qR tb 53 (.ptr b off) 2=some (.ptr b (off+7)):=zG tg30 rfl rfl
theorem ld43 (xt:Addr->Option Value) (h:Hp) (b off:Nat):qW tb xt h 48 (.ptr b off)=vR 2 (h.t.get b) off:=xE tg43 rfl rfl
theorem st43 (h:Hp) (b off:Nat) (v:AV):jP tb h 48 (.ptr b off) v=jL 2 h b off v (h.t.get b):=zS tg43 rfl
theorem fa43_0 (b off:Nat):qR tb 48 (.ptr b off) 0=some (.ptr b (off+0)):=zG tg43 rfl rfl
theorem fa43_1 (b off:Nat):qR tb 48 (.ptr b off) 1=some (.ptr b (off+1)):=zG tg43 rfl rfl
theorem ld48 (xt:Addr->Option Value) (h:Hp) (b off:Nat):qW tb xt h 87 (.ptr b off)=vR 4 (h.t.get b) off:=xE uE rfl rfl
theorem st48 (h:Hp) (b off:Nat) (v:AV):jP tb h 87 (.ptr b off) v=jL 4 h b off v (h.t.get b):=zS uE rfl
theorem fa48_0 (b off:Nat):qR tb 87 (.ptr b off) 0=some (.ptr b (off+0)):=zG uE rfl rfl
theorem fa48_1 (b off:Nat):qR tb 87 (.ptr b off) 1=some (.ptr b (off+1)):=zG uE rfl rfl
theorem fa48_2 (b off:Nat):qR tb 87 (.ptr b off) 2=some (.ptr b (off+2)):=zG uE rfl rfl
theorem fa48_3 (b off:Nat):qR tb 87 (.ptr b off) 3=some (.ptr b (off+3)):=zG uE rfl rfl
theorem ld50 (xt:Addr->Option Value) (h:Hp) (b off:Nat):qW tb xt h 90 (.ptr b off)=vR 3 (h.t.get b) off:=xE uJ rfl rfl
theorem st50 (h:Hp) (b off:Nat) (v:AV):jP tb h 90 (.ptr b off) v=jL 3 h b off v (h.t.get b):=zS uJ rfl
theorem fa50_0 (b off:Nat):qR tb 90 (.ptr b off) 0=some (.ptr b (off+0)):=zG uJ rfl rfl
theorem fa50_1 (b off:Nat):qR tb 90 (.ptr b off) 1=some (.ptr b (off+1)):=zG uJ rfl rfl
theorem fa50_2 (b off:Nat):qR tb 90 (.ptr b off) 2=some (.ptr b (off+2)):=zG uJ rfl rfl
theorem ld61 (xt:Addr->Option Value) (h:Hp) (b off:Nat):qW tb xt h 56 (.ptr b off)=vR 3 (h.t.get b) off:=xE tg61 rfl rfl
theorem st61 (h:Hp) (b off:Nat) (v:AV):jP tb h 56 (.ptr b off) v=jL 3 h b off v (h.t.get b):=zS tg61 rfl
theorem fa61_0 (b off:Nat):qR tb 56 (.ptr b off) 0=some (.ptr b (off+0)):=zG tg61 rfl rfl
theorem fa61_1 (b off:Nat):qR tb 56 (.ptr b off) 1=some (.ptr b (off+1)):=zG tg61 rfl rfl
theorem fa61_2 (b off:Nat):qR tb 56 (.ptr b off) 2=some (.ptr b (off+2)):=zG tg61 rfl rfl
theorem ld90 (xt:Addr->Option Value) (h:Hp) (b off:Nat):qW tb xt h 114 (.ptr b off)=vR 3 (h.t.get b) off:=xE tg90 rfl rfl
theorem st90 (h:Hp) (b off:Nat) (v:AV):jP tb h 114 (.ptr b off) v=jL 3 h b off v (h.t.get b):=zS tg90 rfl
theorem fa90_0 (b off:Nat):qR tb 114 (.ptr b off) 0=some (.ptr b (off+0)):=zG tg90 rfl rfl
theorem fa90_1 (b off:Nat):qR tb 114 (.ptr b off) 1=some (.ptr b (off+1)):=zG tg90 rfl rfl
theorem fa90_2 (b off:Nat):qR tb 114 (.ptr b off) 2=some (.ptr b (off+2)):=zG tg90 rfl rfl
theorem ld121 (xt:Addr->Option Value) (h:Hp) (b off:Nat):qW tb xt h 102 (.ptr b off)=vR 9 (h.t.get b) off:=xE tg121 rfl rfl
theorem st121 (h:Hp) (b off:Nat) (v:AV):jP tb h 102 (.ptr b off) v=jL 9 h b off v (h.t.get b):=zS tg121 rfl
theorem fa121_0 (b off:Nat):qR tb 102 (.ptr b off) 0=some (.ptr b (off+0)):=zG tg121 rfl rfl
theorem fa121_1 (b off:Nat):qR tb 102 (.ptr b off) 1=some (.ptr b (off+8)):=zG tg121 rfl rfl
theorem ld141 (xt:Addr->Option Value) (h:Hp) (b off:Nat):qW tb xt h 92 (.ptr b off)=vR 2 (h.t.get b) off:=xE kW rfl rfl
theorem st141 (h:Hp) (b off:Nat) (v:AV):jP tb h 92 (.ptr b off) v=jL 2 h b off v (h.t.get b):=zS kW rfl
theorem fa141_0 (b off:Nat):qR tb 92 (.ptr b off) 0=some (.ptr b (off+0)):=zG kW rfl rfl
theorem fa141_1 (b off:Nat):qR tb 92 (.ptr b off) 1=some (.ptr b (off+1)):=zG kW rfl rfl
theorem ld225 (xt:Addr->Option Value) (h:Hp) (b off:Nat):qW tb xt h 160 (.ptr b off)=vR 2 (h.t.get b) off:=xE tg225 rfl rfl
theorem st225 (h:Hp) (b off:Nat) (v:AV):jP tb h 160 (.ptr b off) v=jL 2 h b off v (h.t.get b):=zS tg225 rfl
theorem fa225_0 (b off:Nat):qR tb 160 (.ptr b off) 0=some (.ptr b (off+0)):=zG tg225 rfl rfl
theorem fa225_1 (b off:Nat):qR tb 160 (.ptr b off) 1=some (.ptr b (off+1)):=zG tg225 rfl rfl
theorem al3 (h:Hp):j7 tb h 3=some (.ptr h.n 0,h.new (.cells (([(.int .i64 0)]:List Value).map .val) 3)):=yH tg3 rfl
theorem al4 (h:Hp):j7 tb h 4=some (.ptr h.n 0,h.new (.cells (([(.bool false)]:List Value).map .val) 4)):=yH tg4 rfl
theorem al34 (h:Hp):j7 tb h 30=some (.ptr h.n 0,h.new (.cells (([(.int .i64 0)]:List Value).map .val) 30)):=yH tg34 rfl
theorem al43 (h:Hp):j7 tb h 48=some (.ptr h.n 0,h.new (.cells (([(.int .i64 0),(.int .i64 0)]:List Value).map .val) 48)):=yH tg43 rfl
theorem al121 (h:Hp):j7 tb h 102=some (.ptr h.n 0,h.new (.cells (([(.slice none 0 0),(.int .i64 0),(.int .i64 0),(.slice none 0 0),(.slice none 0 0),(.slice none 0 0),(.slice none 0 0),(.int .i64 0),(.slice none 0 0)]:List Value).map .val) 102)):=yH tg121 rfl
theorem al30 (h:Hp):j7 tb h 53=some (.ptr h.n 0,h.new (.cells (([(.slice none 0 0),(.int .i64 0),(.int .i64 0),(.slice none 0 0),(.slice none 0 0),(.slice none 0 0),(.slice none 0 0),(.int .i64 0)]:List Value).map .val) 53)):=yH tg30 rfl
theorem al55 (h:Hp):j7 tb h 78=some (.ptr h.n 0,h.new (.cells (([(.slice none 0 0)]:List Value).map .val) 78)):=yH tg55 rfl
theorem al51 (h:Hp):j7 tb h 43=some (.ptr h.n 0,h.new (.cells (([(.slice none 0 0)]:List Value).map .val) 43)):=yH tg51 rfl
theorem al58 (h:Hp):j7 tb h 42=some (.ptr h.n 0,h.new (.cells (([(.slice none 0 0)]:List Value).map .val) 42)):=yH wV rfl
end Go.Proofs.Kn
namespace Go.Proofs.Kn
open Go Go.Ev
set_option maxRecDepth 100000
noncomputable def sy:=PLift.up (xZZ @WO_nil (
 xZZ @WO_cons (
 xZZ @gate_t (
 xZZ @gate_fs (
 xZZ @gate_fn (
 xZZ @WOn_some (
 xZZ @WOn_none (
 xZZ @gK (
 xZZ @qB2 (
 xZZ @qCg (
 xZZ @qB1 (
 xZZ @qCf (
 xZZ @gdst_some (
 xZZ @wntd_some (
 xZZ @wnt_t (
 xZZ @wnt_f (
 xZZ @WOp_move (
 xZZ @qDJ (
 xZZ @WOp_bin (
 xZZ @WOp_un (
 xZZ @WOp_pick (
 xZZ @WOp_box (
 xZZ @WOp_load (
 xZZ @WOp_store (
 xZZ @qBl (
 xZZ @WOp_field (
 xZZ @qBk (
 xZZ @WOp_index (
 xZZ @qDe (
 xZZ @qDf (
 xZZ @WOp_call (
 xZZ @WOp_func (
 xZZ @WOp_build (
 xZZ @qCq (
 xZZ @optK_some (
 xZZ @xM (
 xZZ @optH_some (
 xZZ @resK_ret (
 xZZ @uL (
 xZZ @aoPick_b (
 xZZ @abin_lss (
 xZZ @abin_leq (
 xZZ @abin_gtr (
 xZZ @abin_geq (
 xZZ @abin_eql (
 xZZ @abin_neq (
 xZZ @abin_add (
 xZZ @abin_sub (
 xZZ @abin_mul (
 xZZ @aun_not (
 xZZ @aeval_tmp (
 xZZ @qC9 (
 xZZ @qDE (
 xZZ @xZV (
 xZZ @Option.getD_some.{0} (
 xZZ @decide_true (
 xZZ @decide_false (
 xZZ @true_and (
 xZZ @and_true (
 xZZ @List.toList_toArray.{0} (
 xZZ @List.map_cons.{0,0} (
 xZZ @List.map_nil.{0,0} (
 xZZ @List.getElem?_toArray.{0} (
 xZZ @List.getElem?_cons_succ.{0} (
 xZZ @xZS.{0} (
 xZZ @Option.bind_some.{0,0} (
 xZZ @Option.map_some.{0,0} (
 xZZ @cond_true.{1} (
 xZZ @cond_false.{1} (
 xZZ @Bool.not_true (
 xZZ @Bool.not_false (
 xZZ @SE_P (
 xZZ @SE_tb (
 xZZ @SE_xt (
 xZZ @Hp.up_t (
 xZZ @Hp.up_n (
 xZZ @Nat.add_zero (
 xZZ @xZR (
 xZZ @WOp_alloc (
 xZZ @Hp.new_t (
 xZZ @Hp.new_n (
 xZZ @Hp.set_t (
 xZZ @Hp.set_n (
 xZZ @zY (
 xZZ @qCd (
 xZZ @qC3 (
 xZZ @qC2 (
 xZZ @qCb (
 xZZ @qCa (
 xZZ @qC1 (
 xZZ @qDB (
 xZZ @qC0 (
 xZZ @qDC (
 xZZ @qCZ (
 xZZ @one_int (
 xZZ @one_bool (
 xZZ @one_slv (
 xZZ @one_sl (
 xZZ @one_ptr (
 xZZ @one_fn (
 xZZ @one_yld (
 xZZ @qCo (
 xZZ @qCp (
 xZZ @xZO.{0} (
 xZZ @List.length_nil.{0} (
 xZZ @List.drop_zero.{0} (
 xZZ @List.drop_succ_cons.{0} (
 xZZ @List.drop_nil.{0} (
 xZZ @List.take_zero.{0} (
 xZZ @List.take_succ_cons.{0} (
 xZZ @List.take_nil.{0} (
 xZZ @List.cons_append.{0} (
 xZZ @List.nil_append.{0} (
 xZZ @List.append_nil.{0} (
 xZZ @List.all_cons.{0} (
 xZZ @List.all_nil.{0} (
 xZZ @Bool.and_self (
 xZZ @and_self (
 xZZ @xZY (
 xZZ @WOC_nil (
 xZZ @WOC_cons (
 xZZ @gateC_t (
 xZZ @gateC_fs (
 xZZ @WOCn_f (
 xZZ @qCO (
 xZZ @qAF (
 xZZ @qCM (
 xZZ @qBd (
 xZZ @qCL (
 xZZ @qCN (
 xZZ @qDu (
 xZZ @isCall_un (
 xZZ @isCall_fa (
 xZZ @isCall_f (
 xZZ @isCall_ia (
 xZZ @isCall_i (
 xZZ @qBZ (
 xZZ @isCall_ex (
 xZZ @isCall_mf (
 xZZ @ld3 (
 xZZ @st3 (
 xZZ @ld4 (
 xZZ @st4 (
 xZZ @ld22 (
 xZZ @st22 (
 xZZ @ld23 (
 xZZ @st23 (
 xZZ @ld24 (
 xZZ @st24 (
 xZZ @ld25 (
 xZZ @st25 (
 xZZ @ld28 (
 xZZ @st28 (
 xZZ @ld33 (
 xZZ @st33 (
 xZZ @ld34 (
 xZZ @st34 (
 xZZ @ld51 (
 xZZ @st51 (
 xZZ @ld55 (
 xZZ @st55 (
 xZZ @ld58 (
 xZZ @st58 (
 xZZ @ld75 (
 xZZ @st75 (
 xZZ @ld136 (
 xZZ @st136 (
 xZZ @ld27 (
 xZZ @st27 (
 xZZ @fa27_0 (
 xZZ @fa27_1 (
 xZZ @fa27_2 (
 xZZ @fa27_3 (
 xZZ @fa27_4 (
 xZZ @fa27_5 (
 xZZ @ld30 (
 xZZ @st30 (
 xZZ @fa30_0 (
 xZZ @fa30_1 (
 xZZ @fa30_2 (
 xZZ @ld43 (
 xZZ @st43 (
 xZZ @fa43_0 (
 xZZ @fa43_1 (
 xZZ @ld48 (
 xZZ @st48 (
 xZZ @fa48_0 (
 xZZ @fa48_1 (
 xZZ @fa48_2 (
 xZZ @fa48_3 (
 xZZ @ld50 (
 xZZ @st50 (
 xZZ @fa50_0 (
 xZZ @fa50_1 (
 xZZ @fa50_2 (
 xZZ @ld61 (
 xZZ @st61 (
 xZZ @fa61_0 (
 xZZ @fa61_1 (
 xZZ @fa61_2 (
 xZZ @ld90 (
 xZZ @st90 (
 xZZ @fa90_0 (
 xZZ @fa90_1 (
 xZZ @fa90_2 (
 xZZ @ld121 (
 xZZ @st121 (
 xZZ @fa121_0 (
 xZZ @fa121_1 (
 xZZ @ld141 (
 xZZ @st141 (
 xZZ @fa141_0 (
 xZZ @fa141_1 (
 xZZ @ld225 (
 xZZ @st225 (
 xZZ @fa225_0 (
 xZZ @fa225_1 (
 xZZ @al3 (
 xZZ @al4 (
 xZZ @al34 (
 xZZ @al43 (
 xZZ @al121 (
 xZZ @al30 (
 xZZ @al55 (
 xZZ @al51 @al58)))))))))))))))))))))))))))))))))))))))))))))))))))))))))))))))))))))))))))))))))))))))))))))))))))))))))))))))))))))))))))))))))))))))))))))))))))))))))))))))))))))))))))))))))))))))))))))))))))))))))))))))))))))))))))))))))
noncomputable def sw:=PLift.up (xZZ sy.1 (xZZ @argsTo.eq_1 (xZZ @argsTo.eq_2 @gC)))
end Go.Proofs.Kn
noncomputable section
namespace Go.Ev
section
variable {P:Program} {tb:T TE} {xt:Addr->Option Value} {h:Hp} {N sz isz n m by_:Nat} {t tx e ex:TypeId} {te xe ee:TE} {v x a:AV} {cs cz:List AV} {rs:List (List Value)} {ll:List (List (List Value))}
theorem OwnSl.append2 (o:OwnSl h N sz e v n cs) (hN:N<=h.n) (ht:tb.get t=some te) (hd:te.d= .slice e) (he:tb.get e=some ee) (hs:ee.size=sz) (hby:ee.bytes=by_) (htx:tb.get tx=some xe) (hdx:xe.d= .slice ex)
  (hsrc:hJ xt h sz x=some (m,cz)) (hm:0<m) (hcz:cz.length=m*sz) (hl:(n+m)*by_<=140737488355328) (hl2:n+m<=9223372036854775807):
  ∃h',qZ P tb xt .append [t,tx] [v,x] h=some (.sl h.n 0 (n+m) sz,h')/\OwnSl h' N sz e (.sl h.n 0 (n+m) sz) (n+m) (cs++cz)/\Fr N h h'/\h'.n=h.n+1/\ ∀k,k<h.n->(∀off n s,v≠ .sl k off n s)->h'.t.get k=h.t.get k:=by
 have b3:Nat.ble ((n+m)*by_) 140737488355328=true:=by rw [xZP];exact hl
 have b4:Nat.ble (n+m) 9223372036854775807=true:=by rw [xZP];exact hl2
 rcases o with ⟨rfl,rfl,rfl⟩|⟨b,rfl,h2,h3,h4,h5⟩
 ·have b0:Nat.beq m 0=false:=by
   cases hb:Nat.beq m 0 with
   |false=>rfl
   |true=>have:=Nat.eq_of_beq_eq_true hb;omega
  rw [xZR] at b3 b4 ⊢;refine ⟨h.new (.cells cz e),?_,.inr ⟨h.n,rfl,hN,by simp [Hp.new_n],by simp [Hp.new_t,xZV],by simpa using hcz⟩,Fr.new (Fr.refl hN) _,rfl,fun k hk _=>by simp only [Hp.new_t,xZV];rw [if_neg (by omega)]⟩;have:vS tb xt h t tx (.val (.slice none 0 0)) x=some (.sl h.n 0 m sz,h.new (.cells cz e)):=by
   unfold vS;simp only [ht,hd,he,htx,hdx,hs,hsrc,b0,hby,b3,b4];simp
  simp only [qZ,this]
 ·have b5:Nat.ble (n*sz) cs.length=true:=by rw [xZP,h5];exact xZY _
  have e1:cs.take (n*sz)=cs:=List.take_of_length_le (by rw [h5];exact xZY _);refine ⟨(h.del b).new (.cells (cs++cz) e),?_,.inr ⟨h.n,rfl,hN,by simp [Hp.new_n,Hp.del_n],by simp [Hp.new_t,Hp.del_n,xZV],by simp [h5,hcz,Nat.add_mul]⟩,Fr.new ((Fr.refl hN).del h2 h3) _,rfl,fun k hk hv=> ?_⟩
  ·have:vS tb xt h t tx (.sl b 0 n sz) x=some (.sl h.n 0 (n+m) sz,(h.del b).new (.cells (cs++cz) e)):=by
    unfold vS;simp only [ht,hd,he,htx,hdx,hs,hsrc,h4,hby,b3,b4,b5,e1];simp [Hp.del_n]
   simp only [qZ,this]
  ·simp only [Hp.new_t,Hp.del_t,Hp.del_n,xZV];rw [if_neg (by omega),if_neg (by rintro rfl;exact hv 0 n sz rfl)]
theorem RowAt.keepB {h':Hp} (r:RowAt xt h isz v rs) (hn:h.n<=h'.n) (hk: ∀b off n s,v= .sl b off n s->b<h.n->h'.t.get b=h.t.get b):RowAt xt h' isz v rs:=by
 obtain ⟨h1,h2,h3⟩:=r;refine ⟨h1,h2,?_⟩;rcases h3 with h3|h3|⟨b,off,av,e,hv,⟨hlt,hle,hb⟩,hc⟩
 ·exact .inl h3
 ·exact .inr (.inl h3)
 ·exact .inr (.inr ⟨b,off,av,e,hv,⟨xZW hlt hn,hle,by rw [hk b _ _ _ hv hlt];exact hb⟩,hc⟩)
theorem RowAt.lt (r:RowAt xt h isz v rs) {b off n s:Nat} (hv:v= .sl b off n s):b<h.n:=by
 obtain ⟨_,_,h3⟩:=r;rcases h3 with ⟨rfl,_⟩|⟨_,_,rfl,_⟩|⟨b',_,_,_,rfl,⟨h1,_⟩,_⟩
 ·cases hv
 ·cases hv
 ·cases hv;exact h1
def Apart (v a:AV):Prop:= ∀b off n s,a= .sl b off n s-> ∀off n s,v≠ .sl b off n s
def LRows (xt:Addr->Option Value) (h:Hp) (N isz:Nat) (e:TypeId) (v:AV) (ll:List (List (List Value))):Prop:=
 ∃avs:List AV,OwnSl h N 1 e v ll.length avs/\ ∀(i:Nat) (l:List (List Value)),ll[i]? =some l-> ∃a,avs[i]? =some a/\RowAt xt h isz a l/\Apart v a
theorem LRows.lt (r:LRows xt h N isz e v ll) {b off n s:Nat} (hv:v= .sl b off n s):N<=b/\b<h.n:=by
 obtain ⟨_,h1,_⟩:=r;rcases h1 with ⟨_,_,rfl⟩|⟨b',rfl,h2,h3,_⟩
 ·cases hv
 ·cases hv;exact ⟨h2,h3⟩
theorem Fr.lower {n m:Nat} {h h':Hp} (f:Fr n h h') (hm:m<=n):Fr m h h':=⟨Nat.le_trans hm f.lo,f.le,fun k hk=>f.at_ k (by omega)⟩
theorem LRows.nil:LRows xt h N isz e (.val (.slice none 0 0)) []:=⟨[],OwnSl.nil,fun i l hl=>by simp at hl⟩
theorem LRows.fr {h':Hp} {M:Nat} (r:LRows xt h N isz e v ll) (f:Fr M h h') (hM:h.n<=M):LRows xt h' N isz e v ll:=by
 obtain ⟨avs,h1,h2⟩:=r;exact ⟨avs,h1.fr f hM,fun i l hl=>by obtain ⟨a,q1,q2,q3⟩:=h2 i l hl;exact ⟨a,q1,q2.fr f hM,q3⟩⟩
theorem LRows.up (r:LRows xt h N isz e v ll) {k:Nat} (hk:h.n<=k):LRows xt (h.up k) N isz e v ll:=r.fr (Fr.up (Fr.refl (xZY _)) hk) (xZY _)
theorem LRows.new (r:LRows xt h N isz e v ll) (o:AO):LRows xt (h.new o) N isz e v ll:=r.fr (Fr.new (Fr.refl (xZY _)) o) (xZY _)
theorem LRows.len (r:LRows xt h N isz e v ll) (ht:tb.get t=some te) (hd:te.d= .slice e) {h':Hp}:vN tb h' t v=some ll.length:=by
 obtain ⟨avs,h1,_⟩:=r;exact h1.len ht hd
theorem LRows.one (r:LRows xt h N isz e v ll):Go.Ev.one v=true:=by obtain ⟨_,h1,_⟩:=r;exact h1.one
theorem LRows.cells (r:LRows xt h N isz e v ll):cellsOf v=[v]:=by obtain ⟨_,h1,_⟩:=r;exact h1.cells
theorem LRows.at_ (r:LRows xt h N isz e v ll) (ht:tb.get t=some te) (hd:te.d= .slice e) (he:tb.get e=some ee) (hs:ee.size=1) {i:Nat} {l:List (List Value)} (hl:ll[i]? =some l) {k:IntKind}:
  ∃b a cs,qK tb t v (.val (.int k (i:Int)))=some (.ptr b i)/\h.t.get b=some (.cells cs e)/\cs[i]? =some a/\RowAt xt h isz a l/\b<h.n/\N<=b/\v= .sl b 0 ll.length 1:=by
 obtain ⟨avs,h1,h2⟩:=r;have hi:=(xZX.1 hl).1;obtain ⟨a,q1,q2,q3⟩:=h2 i l hl;obtain ⟨b,p1,p2,p3,p4,p5⟩:=h1.idx ht hd he hs hi (k:=k);rw [xZQ] at p1;refine ⟨b,a,avs,p1,p4,q1,q2,p3,p2,?_⟩;rcases h1 with ⟨h0,_⟩|⟨b',rfl,_⟩
 ·rw [h0] at hi;exact absurd hi (Nat.not_lt_zero _)
 ·have e1:gI (.val (.int k (i:Int)))=some (Int.ofNat i):=rfl;have e2:Nat.blt i ll.length=true:=by rw [Nat.blt_eq];exact hi
  simp [qK,ht,e1,hd,he,e2,hs] at p1;rw [p1]
theorem LRows.append {l:List (List Value)} (r:LRows xt h N isz e v ll) (hN:N<=h.n) (ht:tb.get t=some te) (hd:te.d= .slice e) (he:tb.get e=some ee) (hs:ee.size=1) (hby:ee.bytes=by_) (htx:tb.get tx=some xe) (hdx:xe.d= .slice ex)
  (hsrc:hJ xt h 1 x=some (1,[a])) (ha:RowAt xt h isz a l) (hap:Apart v a) (hl:(ll.length+1)*by_<=140737488355328) (hl2:ll.length+1<=9223372036854775807):
  ∃v' h',qZ P tb xt .append [t,tx] [v,x] h=some (v',h')/\LRows xt h' N isz e v' (ll++[l])/\Fr N h h'/\h'.n=h.n+1/\v'= .sl h.n 0 (ll.length+1) 1/\ ∀k,k<h.n->(∀off n s,v≠ .sl k off n s)->h'.t.get k=h.t.get k:=by
 obtain ⟨avs,h1,h2⟩:=r;have hlen:avs.length=ll.length:=by
  rcases h1 with ⟨p1,rfl,_⟩|⟨b,_,_,_,_,p5⟩
  ·rw [p1];rfl
  ·simpa using p5
 obtain ⟨h',p1,p2,p3,p4,p5⟩:=h1.append2 (P:=P) (m:=1) (cz:=[a]) hN ht hd he hs hby htx hdx hsrc (by omega) rfl hl hl2;refine ⟨_,h',p1,⟨avs++[a],by simpa using p2,fun i l' hl'=> ?_⟩,p3,p4,rfl,p5⟩;have keep: ∀{a':AV} {rs:List (List Value)},RowAt xt h isz a' rs->Apart v a'->RowAt xt h' isz a' rs/\Apart (.sl h.n 0 (ll.length+1) 1) a':=fun {a' rs} hr hp=>by
  refine ⟨hr.keepB (by omega) fun b off n s hv hb=>p5 b hb fun off' n' s' hq=>hp b off n s hv off' n' s' hq,fun b off n s hv off' n' s' hq=> ?_⟩;have:=hr.lt hv;cases hq;omega
 rcases Nat.lt_or_ge i ll.length with hi|hi
 ·rw [xZT hi] at hl';obtain ⟨a',q1,q2,q3⟩:=h2 i l' hl';exact ⟨a',by rw [xZT (by omega)];exact q1,keep q2 q3⟩
 ·have hi2:i=ll.length:=by
   have:=(xZX.1 hl').1;simp only [List.length_append,xZO,List.length_nil] at this;omega
  subst hi2;rw [xZU (xZY _),Nat.sub_self] at hl';simp only [xZS,Option.some.injEq] at hl';subst hl';exact ⟨a,by rw [<-hlen,xZU (xZY _),Nat.sub_self];rfl,keep ha hap⟩
end
end Go.Ev
end
noncomputable section
namespace Go.Ev
def GridAt (xt:Addr->Option Value) (h:Hp) (isz:Nat) (v:AV) (ll:List (List (List Value))):Prop:=
 (∃vs:List Value,RowAt xt h 1 v (vs.map fun u=>[u])/\vs.length=ll.length/\ ∀(i:Nat) (l:List (List Value)),ll[i]? =some l-> ∃u,vs[i]? =some u/\RowAt xt h isz (.val u) l)\/
 (∃(b off:Nat) (avs:List AV) (e:TypeId),v= .sl b off ll.length 1/\(b<h.n/\off+ll.length<=avs.length/\h.t.get b=some (.cells avs e))/\ ∀(i:Nat) (l:List (List Value)),ll[i]? =some l-> ∃a,avs[off+i]? =some a/\RowAt xt h isz a l)
section
variable {xt:Addr->Option Value} {h:Hp} {isz:Nat} {v:AV} {ll:List (List (List Value))} {tb:T TE} {t e:TypeId} {te ee:TE} {N:Nat}
theorem GridAt.keep {h':Hp} (r:GridAt xt h isz v ll) (hn:h.n<=h'.n) (hk: ∀b,b<h.n->h'.t.get b=h.t.get b):GridAt xt h' isz v ll:=by
 rcases r with ⟨vs,r1,r2,r3⟩|⟨b,off,avs,e,rfl,⟨q1,q2,q3⟩,r3⟩
 ·exact .inl ⟨vs,r1.keep hn hk,r2,fun i l hl=>by obtain ⟨u,p1,p2⟩:=r3 i l hl;exact ⟨u,p1,p2.keep hn hk⟩⟩
 ·exact .inr ⟨b,off,avs,e,rfl,⟨xZW q1 hn,q2,by rw [hk b q1];exact q3⟩,fun i l hl=>by obtain ⟨u,p1,p2⟩:=r3 i l hl;exact ⟨u,p1,p2.keep hn hk⟩⟩
theorem GridAt.fr {h':Hp} {m:Nat} (r:GridAt xt h isz v ll) (f:Fr m h h') (hm:h.n<=m):GridAt xt h' isz v ll:=r.keep f.le fun b hb=>f.at_ b (.inl (xZW hb hm))
theorem GridAt.up (r:GridAt xt h isz v ll) {n:Nat} (hn:h.n<=n):GridAt xt (h.up n) isz v ll:=r.keep hn fun _ _=>rfl
theorem GridAt.new (r:GridAt xt h isz v ll) (o:AO):GridAt xt (h.new o) isz v ll:=r.keep (Nat.le_succ _) fun b hb=>by
 show (h.t.put (some o) h.n).get b=_;rw [xZV,if_neg (by omega)]
theorem GridAt.one (r:GridAt xt h isz v ll):Go.Ev.one v=true:=by
 rcases r with ⟨vs,r1,_⟩|⟨b,off,avs,e,rfl,_⟩
 ·exact r1.one
 ·rfl
theorem GridAt.cells (r:GridAt xt h isz v ll):cellsOf v=[v]:=by
 rcases r with ⟨vs,r1,_⟩|⟨b,off,avs,e,rfl,_⟩
 ·exact r1.cells
 ·rfl
theorem GridAt.len (r:GridAt xt h isz v ll) (ht:tb.get t=some te) (hd:te.d= .slice e) {h':Hp}:vN tb h' t v=some ll.length:=by
 rcases r with ⟨vs,r1,r2,_⟩|⟨b,off,avs,e,rfl,_⟩
 ·rw [r1.len ht hd,List.length_map,r2]
 ·simp [vN,ht,hd]
theorem GridAt.at_ (r:GridAt xt h isz v ll) (ht:tb.get t=some te) (hd:te.d= .slice e) (he:tb.get e=some ee) (hs:ee.size=1) (ha:ee.agg=false) {i:Nat} {l:List (List Value)} (hl:ll[i]? =some l):
  ∃a,(∀k:IntKind,qK tb t v (.val (.int k (i:Int)))=some (elp v i))/\qW tb xt h e (elp v i)=some a/\RowAt xt h isz a l:=by
 have hi:=(xZX.1 hl).1;rcases r with ⟨vs,r1,r2,r3⟩|⟨b,off,avs,e',rfl,⟨q1,q2,q3⟩,r3⟩
 ·obtain ⟨u,p1,p2⟩:=r3 i l hl;refine ⟨.val u,fun k=> ?_,?_,p2⟩
  ·have:=r1.idx ht hd he hs (i:=i) (by rw [List.length_map,r2];exact hi) (k:=k)
   rwa [xZQ] at this
  ·have:=r1.load0 he ha (i:=i) (c:=[u]) (u:=u) (by simp [p1]) rfl
   rwa [xZQ] at this
 ·obtain ⟨a,p1,p2⟩:=r3 i l hl;refine ⟨a,fun k=> ?_,?_,p2⟩
  ·have e1:gI (.val (.int k (i:Int)))=some (Int.ofNat i):=rfl;have e2:Nat.blt i ll.length=true:=by rw [Nat.blt_eq];exact hi
   simp [qK,ht,e1,hd,he,e2,hs,elp]
  ·simp [qW,he,ha,elp,q3,p1]
theorem LRows.grid (r:LRows xt h N isz e v ll):GridAt xt h isz v ll:=by
 obtain ⟨avs,h1,h2⟩:=r;rcases h1 with ⟨p1,rfl,rfl⟩|⟨b,rfl,p2,p3,p4,p5⟩
 ·have hn:ll=[]:=List.length_eq_zero_iff.1 p1;subst hn;exact .inl ⟨[],⟨(by simp),Nat.one_pos,.inl ⟨rfl,rfl⟩⟩,rfl,fun i l hl=>by simp at hl⟩
 ·refine .inr ⟨b,0,avs,e,rfl,⟨p3,by simp at p5;omega,p4⟩,fun i l hl=> ?_⟩;obtain ⟨a,q1,q2,_⟩:=h2 i l hl;exact ⟨a,by rw [xZR];exact q1,q2⟩
end
end Go.Ev
end
