/- Parts of the proof, joined by a program. -/
import Derived.Test.YtafhmammmgbdgaaGreatDoorQC
import Derived.Test.YtafhmammmgbdgaaGreatDoorQXKnTab
set_option linter.all false
namespace Go.Proofs.Kn
open Go Go.Ev
noncomputable def SE (xt:Addr→Option Value):Env:={P:=Tryz.prog,tb:=tb,xt:=xt,ft:=ft,nat:=fun _ _ _ _=>none,drw:=fun _ _ _ _ _=>none}
theorem SE_P (xt:Addr→Option Value):(SE xt).P=Tryz.prog:=rfl
theorem SE_tb (xt:Addr→Option Value):(SE xt).tb=tb:=rfl
theorem SE_xt (xt:Addr→Option Value):(SE xt).xt=xt:=rfl
theorem sok (xt:Addr→Option Value):SyOk (SE xt):=⟨fun f fn h=>T.All.of ft_all f fn h,tb_ok,mixed⟩
end Go.Proofs.Kn
namespace Go.Proofs.Kn
open Go Go.Ev
set_option maxRecDepth 100000
theorem tg3:tb.get 3=some te3:=by kernel_rfl
theorem tg4:tb.get 4=some te4:=by kernel_rfl
theorem tg5:tb.get 5=some te5:=by kernel_rfl
theorem tg9:tb.get 9=some te9:=by kernel_rfl
theorem tg21:tb.get 21=some te21:=by kernel_rfl
theorem tg22:tb.get 22=some te22:=by kernel_rfl
theorem tg23:tb.get 23=some te23:=by kernel_rfl
theorem tg26:tb.get 26=some te26:=by kernel_rfl
theorem tg30:tb.get 30=some te30:=by kernel_rfl
theorem tg54:tb.get 54=some te54:=by kernel_rfl
theorem tg55:tb.get 55=some te55:=by kernel_rfl
theorem tg73:tb.get 73=some te73:=by kernel_rfl
theorem tg76:tb.get 76=some te76:=by kernel_rfl
theorem tg111:tb.get 111=some te111:=by kernel_rfl
theorem tg25:tb.get 25=some te25:=by kernel_rfl
theorem tg28:tb.get 28=some te28:=by kernel_rfl
theorem tg53:tb.get 53=some te53:=by kernel_rfl
theorem tg78:tb.get 78=some te78:=by kernel_rfl
theorem tg80:tb.get 80=some te80:=by kernel_rfl
theorem tg106:tb.get 106=some te106:=by kernel_rfl
theorem tg162:tb.get 162=some te162:=by kernel_rfl
theorem ld3 (xt:Addr→Option Value) (h:Hp) (b off:Nat):aload tb xt h 3 (.ptr b off)=cellGet (h.t.get b) off:=ld_of tg3 rfl
theorem st3 (h:Hp) (b off:Nat) (v:AV):astore tb h 3 (.ptr b off) v=cellPut 1 h b off v (h.t.get b):=st_of tg3 rfl
theorem ld4 (xt:Addr→Option Value) (h:Hp) (b off:Nat):aload tb xt h 4 (.ptr b off)=cellGet (h.t.get b) off:=ld_of tg4 rfl
theorem st4 (h:Hp) (b off:Nat) (v:AV):astore tb h 4 (.ptr b off) v=cellPut 1 h b off v (h.t.get b):=st_of tg4 rfl
theorem ld5 (xt:Addr→Option Value) (h:Hp) (b off:Nat):aload tb xt h 5 (.ptr b off)=cellGet (h.t.get b) off:=ld_of tg5 rfl
theorem st5 (h:Hp) (b off:Nat) (v:AV):astore tb h 5 (.ptr b off) v=cellPut 1 h b off v (h.t.get b):=st_of tg5 rfl
theorem ld9 (xt:Addr→Option Value) (h:Hp) (b off:Nat):aload tb xt h 9 (.ptr b off)=cellGet (h.t.get b) off:=ld_of tg9 rfl
theorem st9 (h:Hp) (b off:Nat) (v:AV):astore tb h 9 (.ptr b off) v=cellPut 1 h b off v (h.t.get b):=st_of tg9 rfl
theorem ld21 (xt:Addr→Option Value) (h:Hp) (b off:Nat):aload tb xt h 21 (.ptr b off)=cellGet (h.t.get b) off:=ld_of tg21 rfl
theorem st21 (h:Hp) (b off:Nat) (v:AV):astore tb h 21 (.ptr b off) v=cellPut 1 h b off v (h.t.get b):=st_of tg21 rfl
theorem ld22 (xt:Addr→Option Value) (h:Hp) (b off:Nat):aload tb xt h 22 (.ptr b off)=cellGet (h.t.get b) off:=ld_of tg22 rfl
theorem st22 (h:Hp) (b off:Nat) (v:AV):astore tb h 22 (.ptr b off) v=cellPut 1 h b off v (h.t.get b):=st_of tg22 rfl
theorem ld23 (xt:Addr→Option Value) (h:Hp) (b off:Nat):aload tb xt h 23 (.ptr b off)=cellGet (h.t.get b) off:=ld_of tg23 rfl
theorem st23 (h:Hp) (b off:Nat) (v:AV):astore tb h 23 (.ptr b off) v=cellPut 1 h b off v (h.t.get b):=st_of tg23 rfl
theorem ld26 (xt:Addr→Option Value) (h:Hp) (b off:Nat):aload tb xt h 26 (.ptr b off)=cellGet (h.t.get b) off:=ld_of tg26 rfl
theorem st26 (h:Hp) (b off:Nat) (v:AV):astore tb h 26 (.ptr b off) v=cellPut 1 h b off v (h.t.get b):=st_of tg26 rfl
theorem ld30 (xt:Addr→Option Value) (h:Hp) (b off:Nat):aload tb xt h 30 (.ptr b off)=cellGet (h.t.get b) off:=ld_of tg30 rfl
theorem st30 (h:Hp) (b off:Nat) (v:AV):astore tb h 30 (.ptr b off) v=cellPut 1 h b off v (h.t.get b):=st_of tg30 rfl
theorem ld54 (xt:Addr→Option Value) (h:Hp) (b off:Nat):aload tb xt h 54 (.ptr b off)=cellGet (h.t.get b) off:=ld_of tg54 rfl
theorem st54 (h:Hp) (b off:Nat) (v:AV):astore tb h 54 (.ptr b off) v=cellPut 1 h b off v (h.t.get b):=st_of tg54 rfl
theorem ld55 (xt:Addr→Option Value) (h:Hp) (b off:Nat):aload tb xt h 55 (.ptr b off)=cellGet (h.t.get b) off:=ld_of tg55 rfl
theorem st55 (h:Hp) (b off:Nat) (v:AV):astore tb h 55 (.ptr b off) v=cellPut 1 h b off v (h.t.get b):=st_of tg55 rfl
theorem ld73 (xt:Addr→Option Value) (h:Hp) (b off:Nat):aload tb xt h 73 (.ptr b off)=cellGet (h.t.get b) off:=ld_of tg73 rfl
theorem st73 (h:Hp) (b off:Nat) (v:AV):astore tb h 73 (.ptr b off) v=cellPut 1 h b off v (h.t.get b):=st_of tg73 rfl
theorem ld76 (xt:Addr→Option Value) (h:Hp) (b off:Nat):aload tb xt h 76 (.ptr b off)=cellGet (h.t.get b) off:=ld_of tg76 rfl
theorem st76 (h:Hp) (b off:Nat) (v:AV):astore tb h 76 (.ptr b off) v=cellPut 1 h b off v (h.t.get b):=st_of tg76 rfl
theorem ld111 (xt:Addr→Option Value) (h:Hp) (b off:Nat):aload tb xt h 111 (.ptr b off)=cellGet (h.t.get b) off:=ld_of tg111 rfl
theorem st111 (h:Hp) (b off:Nat) (v:AV):astore tb h 111 (.ptr b off) v=cellPut 1 h b off v (h.t.get b):=st_of tg111 rfl
theorem ld25 (xt:Addr→Option Value) (h:Hp) (b off:Nat):aload tb xt h 25 (.ptr b off)=cellAgg 2 (h.t.get b) off:=lda_of tg25 rfl rfl
theorem st25 (h:Hp) (b off:Nat) (v:AV):astore tb h 25 (.ptr b off) v=cellPut 2 h b off v (h.t.get b):=st_of tg25 rfl
theorem fa25_0 (b off:Nat):afieldAddr tb 25 (.ptr b off) 0=some (.ptr b (off+0)):=fa_of tg25 rfl rfl
theorem fa25_1 (b off:Nat):afieldAddr tb 25 (.ptr b off) 1=some (.ptr b (off+1)):=fa_of tg25 rfl rfl
theorem ld28 (xt:Addr→Option Value) (h:Hp) (b off:Nat):aload tb xt h 28 (.ptr b off)=cellAgg 2 (h.t.get b) off:=lda_of tg28 rfl rfl
theorem st28 (h:Hp) (b off:Nat) (v:AV):astore tb h 28 (.ptr b off) v=cellPut 2 h b off v (h.t.get b):=st_of tg28 rfl
theorem fa28_0 (b off:Nat):afieldAddr tb 28 (.ptr b off) 0=some (.ptr b (off+0)):=fa_of tg28 rfl rfl
theorem fa28_1 (b off:Nat):afieldAddr tb 28 (.ptr b off) 1=some (.ptr b (off+1)):=fa_of tg28 rfl rfl
theorem ld53 (xt:Addr→Option Value) (h:Hp) (b off:Nat):aload tb xt h 53 (.ptr b off)=cellAgg 22 (h.t.get b) off:=lda_of tg53 rfl rfl
theorem st53 (h:Hp) (b off:Nat) (v:AV):astore tb h 53 (.ptr b off) v=cellPut 22 h b off v (h.t.get b):=st_of tg53 rfl
theorem fa53_0 (b off:Nat):afieldAddr tb 53 (.ptr b off) 0=some (.ptr b (off+0)):=fa_of tg53 rfl rfl
theorem fa53_1 (b off:Nat):afieldAddr tb 53 (.ptr b off) 1=some (.ptr b (off+19)):=fa_of tg53 rfl rfl
theorem fa53_2 (b off:Nat):afieldAddr tb 53 (.ptr b off) 2=some (.ptr b (off+20)):=fa_of tg53 rfl rfl
theorem fa53_3 (b off:Nat):afieldAddr tb 53 (.ptr b off) 3=some (.ptr b (off+21)):=fa_of tg53 rfl rfl
theorem ld78 (xt:Addr→Option Value) (h:Hp) (b off:Nat):aload tb xt h 78 (.ptr b off)=cellAgg 2 (h.t.get b) off:=lda_of tg78 rfl rfl
theorem st78 (h:Hp) (b off:Nat) (v:AV):astore tb h 78 (.ptr b off) v=cellPut 2 h b off v (h.t.get b):=st_of tg78 rfl
theorem fa78_0 (b off:Nat):afieldAddr tb 78 (.ptr b off) 0=some (.ptr b (off+0)):=fa_of tg78 rfl rfl
theorem fa78_1 (b off:Nat):afieldAddr tb 78 (.ptr b off) 1=some (.ptr b (off+1)):=fa_of tg78 rfl rfl
theorem ld80 (xt:Addr→Option Value) (h:Hp) (b off:Nat):aload tb xt h 80 (.ptr b off)=cellAgg 3 (h.t.get b) off:=lda_of tg80 rfl rfl
theorem st80 (h:Hp) (b off:Nat) (v:AV):astore tb h 80 (.ptr b off) v=cellPut 3 h b off v (h.t.get b):=st_of tg80 rfl
theorem fa80_0 (b off:Nat):afieldAddr tb 80 (.ptr b off) 0=some (.ptr b (off+0)):=fa_of tg80 rfl rfl
theorem fa80_1 (b off:Nat):afieldAddr tb 80 (.ptr b off) 1=some (.ptr b (off+2)):=fa_of tg80 rfl rfl
theorem ld106 (xt:Addr→Option Value) (h:Hp) (b off:Nat):aload tb xt h 106 (.ptr b off)=cellAgg 3 (h.t.get b) off:=lda_of tg106 rfl rfl
theorem st106 (h:Hp) (b off:Nat) (v:AV):astore tb h 106 (.ptr b off) v=cellPut 3 h b off v (h.t.get b):=st_of tg106 rfl
theorem fa106_0 (b off:Nat):afieldAddr tb 106 (.ptr b off) 0=some (.ptr b (off+0)):=fa_of tg106 rfl rfl
theorem fa106_1 (b off:Nat):afieldAddr tb 106 (.ptr b off) 1=some (.ptr b (off+2)):=fa_of tg106 rfl rfl
theorem ld162 (xt:Addr→Option Value) (h:Hp) (b off:Nat):aload tb xt h 162 (.ptr b off)=cellAgg 1 (h.t.get b) off:=lda_of tg162 rfl rfl
theorem st162 (h:Hp) (b off:Nat) (v:AV):astore tb h 162 (.ptr b off) v=cellPut 1 h b off v (h.t.get b):=st_of tg162 rfl
theorem fa162_0 (b off:Nat):afieldAddr tb 162 (.ptr b off) 0=some (.ptr b (off+0)):=fa_of tg162 rfl rfl
theorem al4 (h:Hp):aoAlloc tb h 4=some (.ptr h.n 0,h.new (.cells (([(.bool false)]:List Value).map .val) 4)):=al_of tg4 rfl
theorem al23 (h:Hp):aoAlloc tb h 23=some (.ptr h.n 0,h.new (.cells (([(.slice none 0 0)]:List Value).map .val) 23)):=al_of tg23 rfl
theorem al25 (h:Hp):aoAlloc tb h 25=some (.ptr h.n 0,h.new (.cells (([(.int .i64 0),(.slice none 0 0)]:List Value).map .val) 25)):=al_of tg25 rfl
theorem al76 (h:Hp):aoAlloc tb h 76=some (.ptr h.n 0,h.new (.cells (([.nilIface]:List Value).map .val) 76)):=al_of tg76 rfl
end Go.Proofs.Kn
namespace Go.Proofs.Kn
open Go Go.Ev
set_option maxRecDepth 100000
noncomputable def sy:=PLift.up (And.intro @WO_nil (
 And.intro @WO_cons (
 And.intro @gate_t (
 And.intro @gate_fs (
 And.intro @gate_fn (
 And.intro @WOn_some (
 And.intro @WOn_none (
 And.intro @WOn_pan (
 And.intro @guardOk_none (
 And.intro @awanted_none (
 And.intro @guardOk_some (
 And.intro @awanted_some (
 And.intro @gdst_some (
 And.intro @wntd_some (
 And.intro @wnt_t (
 And.intro @wnt_f (
 And.intro @WOp_move (
 And.intro @WOp_assign (
 And.intro @WOp_bin (
 And.intro @WOp_un (
 And.intro @WOp_pick (
 And.intro @WOp_box (
 And.intro @WOp_load (
 And.intro @WOp_store (
 And.intro @WOp_fieldAddr (
 And.intro @WOp_field (
 And.intro @WOp_indexAddr (
 And.intro @WOp_index (
 And.intro @WOp_extract (
 And.intro @WOp_builtin (
 And.intro @WOp_call (
 And.intro @WOp_func (
 And.intro @WOp_build (
 And.intro @abuiltin_len (
 And.intro @optK_some (
 And.intro @optP_some (
 And.intro @optH_some (
 And.intro @resK_ret (
 And.intro @resK_pan (
 And.intro @aoPick_b (
 And.intro @abin_lss (
 And.intro @abin_leq (
 And.intro @abin_gtr (
 And.intro @abin_geq (
 And.intro @abin_eql (
 And.intro @abin_neq (
 And.intro @abin_add (
 And.intro @abin_sub (
 And.intro @abin_mul (
 And.intro @aun_not (
 And.intro @aeval_tmp (
 And.intro @aeval_const (
 And.intro @aeval_func (
 And.intro @T.get_put (
 And.intro @Option.getD_some.{0} (
 And.intro @decide_true (
 And.intro @decide_false (
 And.intro @true_and (
 And.intro @and_true (
 And.intro @List.toList_toArray.{0} (
 And.intro @List.map_cons.{0,0} (
 And.intro @List.map_nil.{0,0} (
 And.intro @List.getElem?_toArray.{0} (
 And.intro @List.getElem?_cons_succ.{0} (
 And.intro @List.getElem?_cons_zero.{0} (
 And.intro @Option.bind_some.{0,0} (
 And.intro @Option.map_some.{0,0} (
 And.intro @cond_true.{1} (
 And.intro @cond_false.{1} (
 And.intro @Bool.not_true (
 And.intro @Bool.not_false (
 And.intro @SE_P (
 And.intro @SE_tb (
 And.intro @SE_xt (
 And.intro @Hp.up_t (
 And.intro @Hp.up_n (
 And.intro @Nat.add_zero (
 And.intro @Nat.zero_add (
 And.intro @WOp_alloc (
 And.intro @Hp.new_t (
 And.intro @Hp.new_n (
 And.intro @Hp.set_t (
 And.intro @Hp.set_n (
 And.intro @cellGet_some (
 And.intro @cellAgg_some (
 And.intro @cellsOf_agg (
 And.intro @cellsOf_int (
 And.intro @cellsOf_bool (
 And.intro @cellsOf_vagg (
 And.intro @cellsOf_ptr (
 And.intro @cellsOf_sl (
 And.intro @cellsOf_slv (
 And.intro @cellsOf_fn (
 And.intro @cellsOf_yld (
 And.intro @one_int (
 And.intro @one_bool (
 And.intro @one_slv (
 And.intro @one_sl (
 And.intro @one_ptr (
 And.intro @one_fn (
 And.intro @one_yld (
 And.intro @abuiltin_min (
 And.intro @abuiltin_max (
 And.intro @List.length_cons.{0} (
 And.intro @List.length_nil.{0} (
 And.intro @List.drop_zero.{0} (
 And.intro @List.drop_succ_cons.{0} (
 And.intro @List.drop_nil.{0} (
 And.intro @List.take_zero.{0} (
 And.intro @List.take_succ_cons.{0} (
 And.intro @List.take_nil.{0} (
 And.intro @List.cons_append.{0} (
 And.intro @List.nil_append.{0} (
 And.intro @List.append_nil.{0} (
 And.intro @List.all_cons.{0} (
 And.intro @List.all_nil.{0} (
 And.intro @Bool.and_self (
 And.intro @and_self (
 And.intro @Nat.le_refl (
 And.intro @WOC_nil (
 And.intro @WOC_cons (
 And.intro @gateC_t (
 And.intro @gateC_fs (
 And.intro @WOCn_f (
 And.intro @isCall_call (
 And.intro @isCall_builtin (
 And.intro @isCall_move (
 And.intro @isCall_assign (
 And.intro @isCall_pick (
 And.intro @isCall_load (
 And.intro @isCall_bin (
 And.intro @isCall_un (
 And.intro @isCall_fa (
 And.intro @isCall_f (
 And.intro @isCall_ia (
 And.intro @isCall_i (
 And.intro @isCall_build (
 And.intro @isCall_ex (
 And.intro @isCall_mf (
 And.intro @ld3 (
 And.intro @st3 (
 And.intro @ld4 (
 And.intro @st4 (
 And.intro @ld5 (
 And.intro @st5 (
 And.intro @ld9 (
 And.intro @st9 (
 And.intro @ld21 (
 And.intro @st21 (
 And.intro @ld22 (
 And.intro @st22 (
 And.intro @ld23 (
 And.intro @st23 (
 And.intro @ld26 (
 And.intro @st26 (
 And.intro @ld30 (
 And.intro @st30 (
 And.intro @ld54 (
 And.intro @st54 (
 And.intro @ld55 (
 And.intro @st55 (
 And.intro @ld73 (
 And.intro @st73 (
 And.intro @ld76 (
 And.intro @st76 (
 And.intro @ld111 (
 And.intro @st111 (
 And.intro @ld25 (
 And.intro @st25 (
 And.intro @fa25_0 (
 And.intro @fa25_1 (
 And.intro @ld28 (
 And.intro @st28 (
 And.intro @fa28_0 (
 And.intro @fa28_1 (
 And.intro @ld53 (
 And.intro @st53 (
 And.intro @fa53_0 (
 And.intro @fa53_1 (
 And.intro @fa53_2 (
 And.intro @fa53_3 (
 And.intro @ld78 (
 And.intro @st78 (
 And.intro @fa78_0 (
 And.intro @fa78_1 (
 And.intro @ld80 (
 And.intro @st80 (
 And.intro @fa80_0 (
 And.intro @fa80_1 (
 And.intro @ld106 (
 And.intro @st106 (
 And.intro @fa106_0 (
 And.intro @fa106_1 (
 And.intro @ld162 (
 And.intro @st162 (
 And.intro @fa162_0 (
 And.intro @al4 (
 And.intro @al23 (
 And.intro @al25 @al76)))))))))))))))))))))))))))))))))))))))))))))))))))))))))))))))))))))))))))))))))))))))))))))))))))))))))))))))))))))))))))))))))))))))))))))))))))))))))))))))))))))))))))))))))))))))))))))))))))))))
noncomputable def sw:=PLift.up (And.intro sy.down (And.intro @argsTo.eq_1 (And.intro @argsTo.eq_2 @cellPut_some)))
end Go.Proofs.Kn
noncomputable section
namespace Go.Ev
section
variable {P:Program} {tb:T TE} {xt:Addr→Option Value} {h:Hp} {N sz isz n m by_:Nat} {t tx e ex:TypeId} {te xe ee:TE} {v x a:AV} {cs cz:List AV} {rs:List (List Value)} {ll:List (List (List Value))}
theorem OwnSl.append2 (o:OwnSl h N sz e v n cs) (hN:N≤h.n) (ht:tb.get t=some te) (hd:te.d= .slice e) (he:tb.get e=some ee) (hs:ee.size=sz) (hby:ee.bytes=by_) (htx:tb.get tx=some xe) (hdx:xe.d= .slice ex)
  (hsrc:asrc xt h sz x=some (m,cz)) (hm:0<m) (hcz:cz.length=m*sz) (hl:(n+m)*by_≤140737488355328) (hl2:n+m≤9223372036854775807):
  ∃h',abuiltin P tb xt .append [t,tx] [v,x] h=some (.sl h.n 0 (n+m) sz,h')∧OwnSl h' N sz e (.sl h.n 0 (n+m) sz) (n+m) (cs++cz)∧Fr N h h'∧h'.n=h.n+1∧ ∀k,k<h.n→(∀off n s,v≠ .sl k off n s)→h'.t.get k=h.t.get k:=by
 have b3:Nat.ble ((n+m)*by_) 140737488355328=true:=by rw [Nat.ble_eq];exact hl
 have b4:Nat.ble (n+m) 9223372036854775807=true:=by rw [Nat.ble_eq];exact hl2
 rcases o with ⟨rfl,rfl,rfl⟩|⟨b,rfl,h2,h3,h4,h5⟩
 ·have b0:Nat.beq m 0=false:=by
   cases hb:Nat.beq m 0 with
   |false=>rfl
   |true=>have:=Nat.eq_of_beq_eq_true hb;omega
  rw [Nat.zero_add] at b3 b4 ⊢;refine ⟨h.new (.cells cz e),?_,.inr ⟨h.n,rfl,hN,by simp [Hp.new_n],by simp [Hp.new_t,T.get_put],by simpa using hcz⟩,Fr.new (Fr.refl hN) _,rfl,fun k hk _=>by simp only [Hp.new_t,T.get_put];rw [if_neg (by omega)]⟩;have:aappend tb xt h t tx (.val (.slice none 0 0)) x=some (.sl h.n 0 m sz,h.new (.cells cz e)):=by
   unfold aappend;simp only [ht,hd,he,htx,hdx,hs,hsrc,b0,hby,b3,b4];simp
  simp only [abuiltin,this]
 ·have b5:Nat.ble (n*sz) cs.length=true:=by rw [Nat.ble_eq,h5];exact Nat.le_refl _
  have e1:cs.take (n*sz)=cs:=List.take_of_length_le (by rw [h5];exact Nat.le_refl _);refine ⟨(h.del b).new (.cells (cs++cz) e),?_,.inr ⟨h.n,rfl,hN,by simp [Hp.new_n,Hp.del_n],by simp [Hp.new_t,Hp.del_n,T.get_put],by simp [h5,hcz,Nat.add_mul]⟩,Fr.new ((Fr.refl hN).del h2 h3) _,rfl,fun k hk hv=> ?_⟩
  ·have:aappend tb xt h t tx (.sl b 0 n sz) x=some (.sl h.n 0 (n+m) sz,(h.del b).new (.cells (cs++cz) e)):=by
    unfold aappend;simp only [ht,hd,he,htx,hdx,hs,hsrc,h4,hby,b3,b4,b5,e1];simp [Hp.del_n]
   simp only [abuiltin,this]
  ·simp only [Hp.new_t,Hp.del_t,Hp.del_n,T.get_put];rw [if_neg (by omega),if_neg (by rintro rfl;exact hv 0 n sz rfl)]
theorem RowAt.keepB {h':Hp} (r:RowAt xt h isz v rs) (hn:h.n≤h'.n) (hk: ∀b off n s,v= .sl b off n s→b<h.n→h'.t.get b=h.t.get b):RowAt xt h' isz v rs:=by
 obtain ⟨h1,h2,h3⟩:=r;refine ⟨h1,h2,?_⟩;rcases h3 with h3|h3|⟨b,off,av,e,hv,⟨hlt,hle,hb⟩,hc⟩
 ·exact .inl h3
 ·exact .inr (.inl h3)
 ·exact .inr (.inr ⟨b,off,av,e,hv,⟨Nat.lt_of_lt_of_le hlt hn,hle,by rw [hk b _ _ _ hv hlt];exact hb⟩,hc⟩)
theorem RowAt.lt (r:RowAt xt h isz v rs) {b off n s:Nat} (hv:v= .sl b off n s):b<h.n:=by
 obtain ⟨_,_,h3⟩:=r;rcases h3 with ⟨rfl,_⟩|⟨_,_,rfl,_⟩|⟨b',_,_,_,rfl,⟨h1,_⟩,_⟩
 ·cases hv
 ·cases hv
 ·cases hv;exact h1
def Apart (v a:AV):Prop:= ∀b off n s,a= .sl b off n s→ ∀off n s,v≠ .sl b off n s
def LRows (xt:Addr→Option Value) (h:Hp) (N isz:Nat) (e:TypeId) (v:AV) (ll:List (List (List Value))):Prop:=
 ∃avs:List AV,OwnSl h N 1 e v ll.length avs∧ ∀(i:Nat) (l:List (List Value)),ll[i]? =some l→ ∃a,avs[i]? =some a∧RowAt xt h isz a l∧Apart v a
theorem LRows.lt (r:LRows xt h N isz e v ll) {b off n s:Nat} (hv:v= .sl b off n s):N≤b∧b<h.n:=by
 obtain ⟨_,h1,_⟩:=r;rcases h1 with ⟨_,_,rfl⟩|⟨b',rfl,h2,h3,_⟩
 ·cases hv
 ·cases hv;exact ⟨h2,h3⟩
theorem Fr.lower {n m:Nat} {h h':Hp} (f:Fr n h h') (hm:m≤n):Fr m h h':=⟨Nat.le_trans hm f.lo,f.le,fun k hk=>f.at_ k (by omega)⟩
theorem LRows.nil:LRows xt h N isz e (.val (.slice none 0 0)) []:=⟨[],OwnSl.nil,fun i l hl=>by simp at hl⟩
theorem LRows.fr {h':Hp} {M:Nat} (r:LRows xt h N isz e v ll) (f:Fr M h h') (hM:h.n≤M):LRows xt h' N isz e v ll:=by
 obtain ⟨avs,h1,h2⟩:=r;exact ⟨avs,h1.fr f hM,fun i l hl=>by obtain ⟨a,q1,q2,q3⟩:=h2 i l hl;exact ⟨a,q1,q2.fr f hM,q3⟩⟩
theorem LRows.up (r:LRows xt h N isz e v ll) {k:Nat} (hk:h.n≤k):LRows xt (h.up k) N isz e v ll:=r.fr (Fr.up (Fr.refl (Nat.le_refl _)) hk) (Nat.le_refl _)
theorem LRows.new (r:LRows xt h N isz e v ll) (o:AO):LRows xt (h.new o) N isz e v ll:=r.fr (Fr.new (Fr.refl (Nat.le_refl _)) o) (Nat.le_refl _)
theorem LRows.len (r:LRows xt h N isz e v ll) (ht:tb.get t=some te) (hd:te.d= .slice e) {h':Hp}:alen tb h' t v=some ll.length:=by
 obtain ⟨avs,h1,_⟩:=r;exact h1.len ht hd
theorem LRows.one (r:LRows xt h N isz e v ll):Go.Ev.one v=true:=by obtain ⟨_,h1,_⟩:=r;exact h1.one
theorem LRows.cells (r:LRows xt h N isz e v ll):cellsOf v=[v]:=by obtain ⟨_,h1,_⟩:=r;exact h1.cells
theorem LRows.at_ (r:LRows xt h N isz e v ll) (ht:tb.get t=some te) (hd:te.d= .slice e) (he:tb.get e=some ee) (hs:ee.size=1) {i:Nat} {l:List (List Value)} (hl:ll[i]? =some l) {k:IntKind}:
  ∃b a cs,aindexAddr tb t v (.val (.int k (i:Int)))=some (.ptr b i)∧h.t.get b=some (.cells cs e)∧cs[i]? =some a∧RowAt xt h isz a l∧b<h.n∧N≤b∧v= .sl b 0 ll.length 1:=by
 obtain ⟨avs,h1,h2⟩:=r;have hi:=(List.getElem?_eq_some_iff.1 hl).1;obtain ⟨a,q1,q2,q3⟩:=h2 i l hl;obtain ⟨b,p1,p2,p3,p4,p5⟩:=h1.idx ht hd he hs hi (k:=k);rw [Nat.mul_one] at p1;refine ⟨b,a,avs,p1,p4,q1,q2,p3,p2,?_⟩;rcases h1 with ⟨h0,_⟩|⟨b',rfl,_⟩
 ·rw [h0] at hi;exact absurd hi (Nat.not_lt_zero _)
 ·have e1:aint (.val (.int k (i:Int)))=some (Int.ofNat i):=rfl;have e2:Nat.blt i ll.length=true:=by rw [Nat.blt_eq];exact hi
  simp [aindexAddr,ht,e1,hd,he,e2,hs] at p1;rw [p1]
theorem LRows.append {l:List (List Value)} (r:LRows xt h N isz e v ll) (hN:N≤h.n) (ht:tb.get t=some te) (hd:te.d= .slice e) (he:tb.get e=some ee) (hs:ee.size=1) (hby:ee.bytes=by_) (htx:tb.get tx=some xe) (hdx:xe.d= .slice ex)
  (hsrc:asrc xt h 1 x=some (1,[a])) (ha:RowAt xt h isz a l) (hap:Apart v a) (hl:(ll.length+1)*by_≤140737488355328) (hl2:ll.length+1≤9223372036854775807):
  ∃v' h',abuiltin P tb xt .append [t,tx] [v,x] h=some (v',h')∧LRows xt h' N isz e v' (ll++[l])∧Fr N h h'∧h'.n=h.n+1∧v'= .sl h.n 0 (ll.length+1) 1∧ ∀k,k<h.n→(∀off n s,v≠ .sl k off n s)→h'.t.get k=h.t.get k:=by
 obtain ⟨avs,h1,h2⟩:=r;have hlen:avs.length=ll.length:=by
  rcases h1 with ⟨p1,rfl,_⟩|⟨b,_,_,_,_,p5⟩
  ·rw [p1];rfl
  ·simpa using p5
 obtain ⟨h',p1,p2,p3,p4,p5⟩:=h1.append2 (P:=P) (m:=1) (cz:=[a]) hN ht hd he hs hby htx hdx hsrc (by omega) rfl hl hl2;refine ⟨_,h',p1,⟨avs++[a],by simpa using p2,fun i l' hl'=> ?_⟩,p3,p4,rfl,p5⟩;have keep: ∀{a':AV} {rs:List (List Value)},RowAt xt h isz a' rs→Apart v a'→RowAt xt h' isz a' rs∧Apart (.sl h.n 0 (ll.length+1) 1) a':=fun {a' rs} hr hp=>by
  refine ⟨hr.keepB (by omega) fun b off n s hv hb=>p5 b hb fun off' n' s' hq=>hp b off n s hv off' n' s' hq,fun b off n s hv off' n' s' hq=> ?_⟩;have:=hr.lt hv;cases hq;omega
 rcases Nat.lt_or_ge i ll.length with hi|hi
 ·rw [List.getElem?_append_left hi] at hl';obtain ⟨a',q1,q2,q3⟩:=h2 i l' hl';exact ⟨a',by rw [List.getElem?_append_left (by omega)];exact q1,keep q2 q3⟩
 ·have hi2:i=ll.length:=by
   have:=(List.getElem?_eq_some_iff.1 hl').1;simp only [List.length_append,List.length_cons,List.length_nil] at this;omega
  subst hi2;rw [List.getElem?_append_right (Nat.le_refl _),Nat.sub_self] at hl';simp only [List.getElem?_cons_zero,Option.some.injEq] at hl';subst hl';exact ⟨a,by rw [←hlen,List.getElem?_append_right (Nat.le_refl _),Nat.sub_self];rfl,keep ha hap⟩
end
end Go.Ev
end
noncomputable section
namespace Go.Ev
structure FrM (M:Nat→Prop) (n:Nat) (h h':Hp):Prop where
 lo:n≤h'.n
 le:h.n≤h'.n
 at_: ∀k,(k<n∨h'.n≤k)→ ¬M k→h'.t.get k=h.t.get k
section
variable {M:Nat→Prop} {n m:Nat} {h h1 h2:Hp}
theorem FrM.refl (hn:n≤h.n):FrM M n h h:=⟨hn,Nat.le_refl _,fun _ _ _=>rfl⟩
theorem FrM.of (f:Fr n h h1):FrM M n h h1:=⟨f.lo,f.le,fun k hk _=>f.at_ k hk⟩
theorem FrM.trans (f:FrM M n h h1) (g:FrM M m h1 h2) (hm:n≤m):FrM M n h h2:=by
 refine ⟨Nat.le_trans hm g.lo,Nat.le_trans f.le g.le,fun k hk hM=> ?_⟩;have:=f.lo;have:=g.le;have:=g.lo;rw [g.at_ k (by omega) hM,f.at_ k (by omega) hM]
theorem FrM.fr (f:FrM M n h h1) (g:Fr m h1 h2) (hm:n≤m):FrM M n h h2:=f.trans (FrM.of g) hm
theorem FrM.new (f:FrM M n h h1) (o:AO):FrM M n h (h1.new o):=f.fr (Fr.new (Fr.refl f.lo) o) (Nat.le_refl _)
theorem FrM.up (f:FrM M n h h1) (hm:h1.n≤m):FrM M n h (h1.up m):=f.fr (Fr.up (Fr.refl f.lo) hm) (Nat.le_refl _)
theorem FrM.set (f:FrM M n h h1) {b:Nat} (hb:(n≤b∧b<h1.n)∨M b) (o:AO):FrM M n h (h1.set b o):=by
 refine ⟨f.lo,f.le,fun k hk hM=> ?_⟩;simp only [Hp.set_t,Hp.set_n] at hk ⊢;rw [T.get_put,if_neg (by rintro rfl;rcases hb with hb|hb;omega;exact hM hb)];exact f.at_ k hk hM
theorem FrM.del (f:FrM M n h h1) {b:Nat} (hb:n≤b) (hb':b<h1.n):FrM M n h (h1.del b):=by
 refine ⟨f.lo,f.le,fun k hk hM=> ?_⟩;simp only [Hp.del_t,Hp.del_n] at hk ⊢;rw [T.get_put,if_neg (by omega)];exact f.at_ k hk hM
theorem FrM.get (f:FrM M n h h1) {k:Nat} (hk:k<n) (hM: ¬M k):h1.t.get k=h.t.get k:=f.at_ k (.inl hk) hM
end
theorem newE (h:Hp) (o:AO): ∃h1:Hp,h1=h.new o∧h1.n=h.n+1∧h1.t.get h.n=some o∧(∀k,k<h.n→h1.t.get k=h.t.get k)∧Fr h.n h h1:=
 ⟨_,rfl,rfl,by simp [Hp.new_t,T.get_put],fun k hk=>by simp only [Hp.new_t];rw [T.get_put,if_neg (by omega)],(Fr.refl (Nat.le_refl _)).new _⟩
theorem FrM.sub {M M':Nat→Prop} {n:Nat} {h h1:Hp} (f:FrM M n h h1) (hm: ∀k,M k→M' k):FrM M' n h h1:=⟨f.lo,f.le,fun k hk hM=>f.at_ k hk fun e=>hM (hm k e)⟩
abbrev ALoop.busy (rc:ALoop):ALoop:={rc with state:= .busy}
abbrev ALoop.left (rc:ALoop) (c:Code):ALoop:={rc with state:= .done,pending:=some c}
theorem SemC.goto {E:Env} {r:Option Nat} {t:Nat} {st:St}:SemC E r (.goto t) st (.goto t) st:=⟨Nat.le_refl _,fun _ _ _ c _ _ s _ _ hQ=>wpB_goto (hQ _ _ _ ⟨c,Stp.refl s.good,rfl,s⟩)⟩
end Go.Ev
end
