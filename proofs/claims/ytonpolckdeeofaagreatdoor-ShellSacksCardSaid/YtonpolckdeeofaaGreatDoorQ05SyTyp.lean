/-
  What the table says of the types that are used.
-/
import Derived.Test.YtonpolckdeeofaaGreatDoorQ02
import Derived.Test.YtonpolckdeeofaaGreatDoorQ04SyP0
namespace Go.Proofs.Kn
open Go Go.Ev
set_option maxRecDepth 100000
theorem tg3 : tb.get 3 = some te3 := by kernel_rfl
theorem tg4 : tb.get 4 = some te4 := by kernel_rfl
theorem tg22 : tb.get 22 = some te22 := by kernel_rfl
theorem tg23 : tb.get 23 = some te23 := by kernel_rfl
theorem tg28 : tb.get 28 = some te28 := by kernel_rfl
theorem tg43 : tb.get 43 = some te43 := by kernel_rfl
theorem tg93 : tb.get 93 = some te93 := by kernel_rfl
theorem tg97 : tb.get 97 = some te97 := by kernel_rfl
theorem tg203 : tb.get 203 = some te203 := by kernel_rfl
theorem tg204 : tb.get 204 = some te204 := by kernel_rfl
theorem tg25 : tb.get 25 = some te25 := by kernel_rfl
theorem tg95 : tb.get 95 = some te95 := by kernel_rfl
theorem tg36 : tb.get 36 = some te36 := by kernel_rfl
theorem tg101 : tb.get 101 = some te101 := by kernel_rfl
theorem ld3 (xt : Addr → Option Value) (h : Hp) (b off : Nat) : aload tb xt h 3 (.ptr b off) = cellGet (h.t.get b) off := ld_of tg3 rfl
theorem st3 (h : Hp) (b off : Nat) (v : AV) : astore tb h 3 (.ptr b off) v = cellPut 1 h b off v (h.t.get b) := st_of tg3 rfl
theorem ld4 (xt : Addr → Option Value) (h : Hp) (b off : Nat) : aload tb xt h 4 (.ptr b off) = cellGet (h.t.get b) off := ld_of tg4 rfl
theorem st4 (h : Hp) (b off : Nat) (v : AV) : astore tb h 4 (.ptr b off) v = cellPut 1 h b off v (h.t.get b) := st_of tg4 rfl
theorem ld22 (xt : Addr → Option Value) (h : Hp) (b off : Nat) : aload tb xt h 22 (.ptr b off) = cellGet (h.t.get b) off := ld_of tg22 rfl
theorem st22 (h : Hp) (b off : Nat) (v : AV) : astore tb h 22 (.ptr b off) v = cellPut 1 h b off v (h.t.get b) := st_of tg22 rfl
theorem ld23 (xt : Addr → Option Value) (h : Hp) (b off : Nat) : aload tb xt h 23 (.ptr b off) = cellGet (h.t.get b) off := ld_of tg23 rfl
theorem st23 (h : Hp) (b off : Nat) (v : AV) : astore tb h 23 (.ptr b off) v = cellPut 1 h b off v (h.t.get b) := st_of tg23 rfl
theorem ld28 (xt : Addr → Option Value) (h : Hp) (b off : Nat) : aload tb xt h 28 (.ptr b off) = cellGet (h.t.get b) off := ld_of tg28 rfl
theorem st28 (h : Hp) (b off : Nat) (v : AV) : astore tb h 28 (.ptr b off) v = cellPut 1 h b off v (h.t.get b) := st_of tg28 rfl
theorem ld43 (xt : Addr → Option Value) (h : Hp) (b off : Nat) : aload tb xt h 43 (.ptr b off) = cellGet (h.t.get b) off := ld_of tg43 rfl
theorem st43 (h : Hp) (b off : Nat) (v : AV) : astore tb h 43 (.ptr b off) v = cellPut 1 h b off v (h.t.get b) := st_of tg43 rfl
theorem ld93 (xt : Addr → Option Value) (h : Hp) (b off : Nat) : aload tb xt h 93 (.ptr b off) = cellGet (h.t.get b) off := ld_of tg93 rfl
theorem st93 (h : Hp) (b off : Nat) (v : AV) : astore tb h 93 (.ptr b off) v = cellPut 1 h b off v (h.t.get b) := st_of tg93 rfl
theorem ld97 (xt : Addr → Option Value) (h : Hp) (b off : Nat) : aload tb xt h 97 (.ptr b off) = cellGet (h.t.get b) off := ld_of tg97 rfl
theorem st97 (h : Hp) (b off : Nat) (v : AV) : astore tb h 97 (.ptr b off) v = cellPut 1 h b off v (h.t.get b) := st_of tg97 rfl
theorem ld203 (xt : Addr → Option Value) (h : Hp) (b off : Nat) : aload tb xt h 203 (.ptr b off) = cellGet (h.t.get b) off := ld_of tg203 rfl
theorem st203 (h : Hp) (b off : Nat) (v : AV) : astore tb h 203 (.ptr b off) v = cellPut 1 h b off v (h.t.get b) := st_of tg203 rfl
theorem ld204 (xt : Addr → Option Value) (h : Hp) (b off : Nat) : aload tb xt h 204 (.ptr b off) = cellGet (h.t.get b) off := ld_of tg204 rfl
theorem st204 (h : Hp) (b off : Nat) (v : AV) : astore tb h 204 (.ptr b off) v = cellPut 1 h b off v (h.t.get b) := st_of tg204 rfl
theorem ld25 (xt : Addr → Option Value) (h : Hp) (b off : Nat) : aload tb xt h 25 (.ptr b off) = cellAgg 5 (h.t.get b) off := lda_of tg25 rfl rfl
theorem st25 (h : Hp) (b off : Nat) (v : AV) : astore tb h 25 (.ptr b off) v = cellPut 5 h b off v (h.t.get b) := st_of tg25 rfl
theorem fa25_0 (b off : Nat) : afieldAddr tb 25 (.ptr b off) 0 = some (.ptr b (off + 0)) := fa_of tg25 rfl rfl
theorem fa25_1 (b off : Nat) : afieldAddr tb 25 (.ptr b off) 1 = some (.ptr b (off + 1)) := fa_of tg25 rfl rfl
theorem fa25_2 (b off : Nat) : afieldAddr tb 25 (.ptr b off) 2 = some (.ptr b (off + 2)) := fa_of tg25 rfl rfl
theorem fa25_3 (b off : Nat) : afieldAddr tb 25 (.ptr b off) 3 = some (.ptr b (off + 3)) := fa_of tg25 rfl rfl
theorem fa25_4 (b off : Nat) : afieldAddr tb 25 (.ptr b off) 4 = some (.ptr b (off + 4)) := fa_of tg25 rfl rfl
theorem ld95 (xt : Addr → Option Value) (h : Hp) (b off : Nat) : aload tb xt h 95 (.ptr b off) = cellAgg 3 (h.t.get b) off := lda_of tg95 rfl rfl
theorem st95 (h : Hp) (b off : Nat) (v : AV) : astore tb h 95 (.ptr b off) v = cellPut 3 h b off v (h.t.get b) := st_of tg95 rfl
theorem ld36 (xt : Addr → Option Value) (h : Hp) (b off : Nat) : aload tb xt h 36 (.ptr b off) = cellAgg 2 (h.t.get b) off := lda_of tg36 rfl rfl
theorem st36 (h : Hp) (b off : Nat) (v : AV) : astore tb h 36 (.ptr b off) v = cellPut 2 h b off v (h.t.get b) := st_of tg36 rfl
theorem fa36_0 (b off : Nat) : afieldAddr tb 36 (.ptr b off) 0 = some (.ptr b (off + 0)) := fa_of tg36 rfl rfl
theorem fa36_1 (b off : Nat) : afieldAddr tb 36 (.ptr b off) 1 = some (.ptr b (off + 1)) := fa_of tg36 rfl rfl
theorem ld101 (xt : Addr → Option Value) (h : Hp) (b off : Nat) : aload tb xt h 101 (.ptr b off) = cellAgg 3 (h.t.get b) off := lda_of tg101 rfl rfl
theorem st101 (h : Hp) (b off : Nat) (v : AV) : astore tb h 101 (.ptr b off) v = cellPut 3 h b off v (h.t.get b) := st_of tg101 rfl
theorem fa101_0 (b off : Nat) : afieldAddr tb 101 (.ptr b off) 0 = some (.ptr b (off + 0)) := fa_of tg101 rfl rfl
theorem fa101_1 (b off : Nat) : afieldAddr tb 101 (.ptr b off) 1 = some (.ptr b (off + 1)) := fa_of tg101 rfl rfl
theorem al3 (h : Hp) : aoAlloc tb h 3 = some (.ptr h.n 0, h.new (.cells (([(.int .i64 0)] : List Value).map .val) 3)) := al_of tg3 rfl
theorem al4 (h : Hp) : aoAlloc tb h 4 = some (.ptr h.n 0, h.new (.cells (([(.bool false)] : List Value).map .val) 4)) := al_of tg4 rfl
theorem al95 (h : Hp) : aoAlloc tb h 95 = some (.ptr h.n 0, h.new (.cells (([(.int .i64 0), (.int .i64 0), (.int .i64 0)] : List Value).map .val) 95)) := al_of tg95 rfl
theorem al36 (h : Hp) : aoAlloc tb h 36 = some (.ptr h.n 0, h.new (.cells (([(.int .i64 0), (.int .i64 0)] : List Value).map .val) 36)) := al_of tg36 rfl
theorem al101 (h : Hp) : aoAlloc tb h 101 = some (.ptr h.n 0, h.new (.cells (([(.int .i64 0), (.int .i64 0), (.int .i64 0)] : List Value).map .val) 101)) := al_of tg101 rfl
theorem al204 (h : Hp) : aoAlloc tb h 204 = some (.ptr h.n 0, h.new (.cells (([.nilFunc] : List Value).map .val) 204)) := al_of tg204 rfl
theorem al25 (h : Hp) : aoAlloc tb h 25 = some (.ptr h.n 0, h.new (.cells (([(.int .i64 0), (.slice none 0 0), (.slice none 0 0), (.int .i64 0), (.int .i64 0)] : List Value).map .val) 25)) := al_of tg25 rfl
theorem ia95 (b off i : Nat) (hi : i < 3) : aindexAddr tb 95 (.ptr b off) (.val (.int .i64 (i : Int))) = some (.ptr b (off + i * 1)) := ia_of tg95 rfl tg3 rfl hi
end Go.Proofs.Kn
