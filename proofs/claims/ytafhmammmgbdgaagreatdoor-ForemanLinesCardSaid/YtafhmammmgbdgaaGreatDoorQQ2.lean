/- Parts of the proof, joined by a program. -/
import Derived.Test.YtafhmammmgbdgaaGreatDoorQQ1
set_option linter.all false
open Nat renaming reduceEqDiff → rE, reduceLeDiff → rD, reduceAdd → rA, reduceMul → rM, reduceLT → rL
namespace Go.Proofs.Kn
open Go Go.Ev
set_option maxRecDepth 100000
set_option maxHeartbeats 4000000
theorem ft11s (xt:Addr→Option Value):(SE xt).ft.get 11=some Tryz.f11:=by kernel_rfl
theorem res11s:Tryz.f11.results.toList=[.tmp 2]:=by kernel_rfl
theorem rformed_c (xt:Addr→Option Value) (h:Hp) (k:Int) (v:AV) (l:List Int) (o:RowAt xt h 1 v (l.map c1)) (hl:l.length≤1000) {K:CR→Hp→Prop} (hk: ∀n,h.n<n→K (.ret (.val (.bool (formedB k l)))) (h.up n)):FnA (SE xt) 11 [entA k v] h K:=by
 refine FnA.calm ?_ hk;clear hk K;refine FnA.walk (sok xt) (ft11s xt) rfl 25 rfl ?_;have hlen:=fun h'=>o.l23 h';have ov:=o.one;refine seq_reg fun K hn hp=> ?_;simp only [sw.down,rE,reduceIte,rL,rA,rM,rD,svn.down,syw.down,aext0,aext1,hlen,ov,ent_cells];refine hn _ _ ?_;clear hn hp K;obtain ⟨h1,hh1,n1,s1,k1,f1⟩:=newE h (.cells [iv k,v] 25);rw [←hh1];clear hh1;refine seq_seq ?_;refine seq_regD (sok xt) 7 (by kernel_rfl) fun K hn hp=> ?_;simp only [sw.down,rE,reduceIte,rL,rA,rM,rD,svn.down,syw.down,aext0,aext1,hlen,ov,ent_cells,s1,Bool.false_eq_true];refine callA_func (sok xt) (rmany_c xt h1 k fun n2 hn2=> ?_);simp only [sw.down,rE,reduceIte,rL,rA,rM,rD,svn.down,syw.down,aext0,aext1,hlen,ov,ent_cells,s1,Bool.false_eq_true,WOCn_t hn2];by_cases hlm:(l.length:Int)=manyE k
 ·simp only [sw.down,rE,reduceIte,rL,rA,rM,rD,svn.down,syw.down,aext0,aext1,hlen,ov,ent_cells,s1,Bool.false_eq_true,decide_eq_true hlm];refine hn _ _ ?_;clear hn hp K;refine seq_cond false (by simp only [sw.down,rE,reduceIte,rL,rA,rM,rD,svn.down,syw.down,aext0,aext1,hlen,ov,ent_cells,s1,Bool.not_true]) (fun hx=>by cases hx) (fun _=> ?_);refine seq_skip ?_;obtain ⟨h2,hh2⟩: ∃h2:Hp,h2=h1.up n2:=⟨_,rfl⟩;have f2:Fr h.n h h2:=by rw [hh2];exact f1.up (by omega)
  have s2:h2.t.get h.n=some (.cells [iv k,v] 25):=by rw [hh2];exact s1
  have lt2:h.n<h2.n:=by rw [hh2,Hp.up_n];omega
  rw [←hh2];clear hh2;refine seq_seq ?_;refine seq_reg fun K hn hp=> ?_;simp only [sw.down,rE,reduceIte,rL,rA,rM,rD,svn.down,syw.down,aext0,aext1,hlen,ov,ent_cells];refine hn _ _ ?_;clear hn hp K;refine seq_block fun KA A1 A2 A3 A4 A5=> ?_;refine wpc_loop (sok xt) (fun st=> ∃(i:Nat) (hg:Hp) (tm:T AV),st=⟨tm,25,hg,[]⟩∧i≤l.length∧tm.get 1=some (.ptr h.n 0)∧tm.get 3=some (iv i)∧Fr h2.n h2 hg∧(l.take i).all inB=true) (fun st=>l.length - (match st.tm.get 3 with|some (.val (.int _ n))=>n.toNat|_=>0)) ?_ ?_
  ·rintro st ⟨i,hg,tm,rfl,hkA,g1,g3,fg,hal⟩;have muA:=g3;have q:decide ((i:Int)<(l.length:Int))=decide (i<l.length):=lt_dec _ _;have hf2:=f2.lo;have sg:hg.t.get h.n=some (.cells [iv k,v] 25):=by rw [fg.at_ _ (.inl lt2)];exact s2
   refine seq_seq ?_;refine seq_reg fun K hn hp=> ?_;simp only [sw.down,rE,reduceIte,rL,rA,rM,rD,svn.down,syw.down,aext0,aext1,hlen,ov,ent_cells,g1,g3,sg,q];refine hn _ _ ?_;clear hn hp K;by_cases hlt:i<l.length
   ·refine seq_cond true (by simp only [sw.down,rE,reduceIte,rL,rA,rM,rD,svn.down,syw.down,aext0,aext1,hlen,ov,ent_cells,g1,g3,hlt]) (fun _=> ?_) (fun hx=>by cases hx);refine seq_skip ?_;refine seq_block fun K2 e1 e2 e3 e4 e5=> ?_;have fgh:=f2.trans fg (by omega);obtain ⟨i1,hld⟩:=(o.fr fgh (Nat.le_refl _)).m23 hlt;have w1:=wrap_succ hlt (by omega);have hmem:l.getD i 0∈l:=by rw [List.getD_eq_getElem?_getD,List.getElem?_eq_getElem hlt];exact List.getElem_mem hlt
    refine seq_reg fun K hn hp=> ?_;simp only [sw.down,rE,reduceIte,rL,rA,rM,rD,svn.down,syw.down,aext0,aext1,hlen,ov,ent_cells,g1,g3,sg,i1,hld];refine callA_func (sok xt) (rin_c xt hg (l.getD i 0) 0 9999 fun n3 hn3=> ?_);have hib:(decide ((0:Int)≤l.getD i 0) && decide (l.getD i 0≤(9999:Int)))=inB (l.getD i 0):=rfl;rw [hib];simp only [sw.down,rE,reduceIte,rL,rA,rM,rD,svn.down,syw.down,aext0,aext1,hlen,ov,ent_cells,g1,g3];refine hn _ _ ?_;clear hn hp K;cases hb:inB (l.getD i 0) with
    |false=>
     refine wpc_cond true (by simp only [sw.down,rE,reduceIte,rL,rA,rM,rD,svn.down,syw.down,aext0,aext1,hlen,ov,ent_cells,g1,g3,Bool.not_false]) (fun _=> ?_) (fun hx=>by cases hx);refine seq_reg fun K hn hp=> ?_;simp only [sw.down,rE,reduceIte,rL,rA,rM,rD,svn.down,syw.down,aext0,aext1,hlen,ov,ent_cells,g1,g3];refine hn _ _ ?_;clear hn hp K;refine wpc_ret (e4 _ (A4 _ (end_1 res11s ⟨?_,fgh.up (by omega)⟩)));have:l.all inB=false:=by
      rw [List.all_eq_false];exact ⟨_,hmem,by rw [hb];simp⟩
     rw [formedB,this,Bool.and_false];simp [T.get_put]
    |true=>
     refine wpc_cond false (by simp only [sw.down,rE,reduceIte,rL,rA,rM,rD,svn.down,syw.down,aext0,aext1,hlen,ov,ent_cells,g1,g3,Bool.not_true]) (fun hx=>by cases hx) (fun _=> ?_);refine wpc_skip (e1 _ ?_);refine reg fun K hn hp=> ?_;simp only [sw.down,rE,reduceIte,rL,rA,rM,rD,svn.down,syw.down,aext0,aext1,hlen,ov,ent_cells,g1,g3,w1];refine hn _ _ ?_;clear hn hp K;have ht:(l.take (i+1)).all inB=true:=by
      rw [List.take_succ,getD_some 0 hlt,List.all_append,hal];simp only [Option.toList_some,List.all_cons,List.all_nil,hb,Bool.and_true]
     refine ⟨⟨i+1,hg.up n3,_,rfl,by omega,(by simp [T.get_put,g1,g3]),(by simp [T.get_put,g1,g3]),fg.up (by omega),ht⟩,by simpa [T.get_put,muA] using (by omega:l.length - (i+1)<l.length - i)⟩
   ·have hkl:i=l.length:=by omega
    subst hkl;rw [List.take_length] at hal;refine seq_cond false (by simp only [sw.down,rE,reduceIte,rL,rA,rM,rD,svn.down,syw.down,aext0,aext1,hlen,ov,ent_cells,g1,g3,hlt]) (fun hx=>by cases hx) (fun _=> ?_);refine seq_exit (A2 _ ?_);refine seq_reg fun K hn hp=> ?_;simp only [sw.down,rE,reduceIte,rL,rA,rM,rD,svn.down,syw.down,aext0,aext1,hlen,ov,ent_cells,g1,g3];refine hn _ _ ?_;clear hn hp K;refine wpc_ret (end_1 res11s ⟨?_,f2.trans fg (by omega)⟩);rw [formedB,decide_eq_true hlm,hal];simp [T.get_put]
  ·exact ⟨0,h2,_,rfl,by omega,by simp [T.get_put,argsTo],by simp [T.get_put],Fr.refl (Nat.le_refl _),rfl⟩
 ·simp only [sw.down,rE,reduceIte,rL,rA,rM,rD,svn.down,syw.down,aext0,aext1,hlen,ov,ent_cells,s1,Bool.false_eq_true,decide_eq_false hlm];refine hn _ _ ?_;clear hn hp K;refine seq_cond true (by simp only [sw.down,rE,reduceIte,rL,rA,rM,rD,svn.down,syw.down,aext0,aext1,hlen,ov,ent_cells,s1,Bool.not_false]) (fun _=> ?_) (fun hx=>by cases hx);refine seq_seq ?_;refine seq_reg fun K hn hp=> ?_;simp only [sw.down,rE,reduceIte,rL,rA,rM,rD,svn.down,syw.down,aext0,aext1,hlen,ov,ent_cells,s1];refine hn _ _ ?_;clear hn hp K;refine seq_ret (end_1 res11s ⟨?_,f1.up (by omega)⟩);rw [formedB,decide_eq_false hlm];simp [T.get_put]
theorem ft13s (xt:Addr→Option Value):(SE xt).ft.get 13=some Tryz.f13:=by kernel_rfl
theorem res13s:Tryz.f13.results.toList=[.tmp 2]:=by kernel_rfl
def lineR (k:Int) (l:List Int):List UInt8:=nameE k++wordsL l
theorem rline_c (xt:Addr→Option Value) (h:Hp) (k:Int) (v:AV) (l:List Int) (o:RowAt xt h 1 v (l.map c1)) (hf:formedB k l=true) {K:CR→Hp→Prop} (hk: ∀n,h.n<n→K (.ret (sv (lineR k l))) (h.up n)):FnA (SE xt) 13 [entA k v] h K:=by
 refine FnA.calm ?_ hk;clear hk K;obtain ⟨q1,q2,q3,q4,q5,q6⟩:=formed_is hf;obtain ⟨j,rfl⟩: ∃j:Nat,k=(j:Int):=⟨k.toNat,by omega⟩;refine FnA.walk (sok xt) (ft13s xt) rfl 10 rfl ?_;have ov:=o.one;refine seq_reg fun K hn hp=> ?_;simp only [sw.down,rE,reduceIte,rL,rA,rM,rD,svn.down,syw.down,aext0,aext1,ov,ent_cells];refine hn _ _ ?_;clear hn hp K;obtain ⟨h1,hh1,n1,s1,k1,f1⟩:=newE h (.cells [iv j,v] 25);rw [←hh1];clear hh1;have hnl:=nameE_len (j:Int);have hwl:=wordsL_len l;have cat: ∀(ox oy:Operand),abin Tryz.prog tb .add 9 ox oy (sv (nameE j)) (sv (wordsL l))=some (sv (lineR j l)):=fun ox oy=>abin_cat _ _ (by omega);refine seq_regD (sok xt) 8 (by kernel_rfl) fun K hn hp=> ?_;simp only [sw.down,rE,reduceIte,rL,rA,rM,rD,svn.down,syw.down,aext0,aext1,ov,ent_cells,s1,Bool.false_eq_true];refine callA_func (sok xt) (name_c xt h1 j (by omega) (by omega) fun n2 hn2=> ?_);simp only [sw.down,rE,reduceIte,rL,rA,rM,rD,svn.down,syw.down,aext0,aext1,ov,ent_cells,s1,Bool.false_eq_true,WOCn_t hn2];have o2:RowAt xt (h1.up n2) 1 v (l.map c1):=(o.fr f1 (Nat.le_refl _)).up (by omega);refine callA_func (sok xt) (words_c xt _ v l o2 (by omega) q6 fun n3 hn3=> ?_);simp only [sw.down,rE,reduceIte,rL,rA,rM,rD,svn.down,syw.down,aext0,aext1,ov,ent_cells,s1,Bool.false_eq_true,WOCn_t hn3,cat];rw [Hp.up_n] at hn3;simp only [sw.down,rE,reduceIte,rL,rA,rM,rD,svn.down,syw.down,aext0,aext1,ov,ent_cells,s1,Hp.up_up];have f3:Fr h.n h (h1.up n3):=f1.up (by omega);refine hn _ _ (wpc_ret (end_1 res13s ⟨?_,f3⟩));simp [T.get_put]
end Go.Proofs.Kn
namespace Go.Proofs.Kn
open Go Go.Ev
set_option maxRecDepth 100000
set_option maxHeartbeats 4000000
theorem ft93s (xt:Addr→Option Value):(SE xt).ft.get 93=some Tryz.f93:=by kernel_rfl
theorem res93s:Tryz.f93.results.toList=[.tmp 4]:=by kernel_rfl
theorem same6_c (xt:Addr→Option Value) (h:Hp) (v w:AV) (l m:List Int) (o:RowAt xt h 1 v (l.map c1)) (o2:RowAt xt h 1 w (m.map c1)) (hl:l.length≤9223372036854775807) (hm:m.length≤9223372036854775807) {K:CR→Hp→Prop} (hk: ∀n,h.n<n→K (.ret (.val (.bool (decide (l=m))))) (h.up n)):FnA (SE xt) 93 [v,w] h K:=by
 refine FnA.calm ?_ hk;clear hk K;refine FnA.walk (sok xt) (ft93s xt) rfl 26 rfl ?_;have hlen:=fun h'=>o.l23 h';have hlen2:=fun h'=>o2.l23 h';have ov:=o.one;have ov2:=o2.one;refine seq_reg fun K hn hp=> ?_;simp only [sw.down,rE,reduceIte,rL,rA,rM,rD,svn.down,syw.down,aext0,aext1,hlen,hlen2];refine hn _ _ ?_;clear hn hp K;refine seq_seq ?_;by_cases hlm:l.length=m.length
 ·refine seq_reg fun K hn hp=> ?_;simp only [sw.down,rE,reduceIte,rL,rA,rM,rD,svn.down,syw.down,aext0,aext1,hlen,hlen2,decide_eq_true (show (l.length:Int)=(m.length:Int) by omega)];refine hn _ _ ?_;clear hn hp K;refine seq_cond false (by simp only [sw.down,rE,reduceIte,rL,rA,rM,rD,svn.down,syw.down,aext0,aext1,hlen,hlen2,Bool.not_true]) (fun hx=>by cases hx) (fun _=> ?_);refine seq_skip ?_;refine seq_seq ?_;refine seq_reg fun K hn hp=> ?_;simp only [sw.down,rE,reduceIte,rL,rA,rM,rD,svn.down,syw.down,aext0,aext1,hlen,hlen2];refine hn _ _ ?_;clear hn hp K;refine seq_block fun KA A1 A2 A3 A4 A5=> ?_;refine wpc_loop (sok xt) (fun st=> ∃(i:Nat) (tm:T AV),st=⟨tm,26,h,[]⟩∧i≤l.length∧tm.get 0=some (v)∧tm.get 1=some (w)∧tm.get 5=some (iv i)∧l.take i=m.take i) (fun st=>l.length - (match st.tm.get 5 with|some (.val (.int _ n))=>n.toNat|_=>0)) ?_ ?_
  ·rintro st ⟨i,tm,rfl,hkA,g0,g1,g5,heq⟩;have muA:=g5;have q:decide ((i:Int)<(l.length:Int))=decide (i<l.length):=lt_dec _ _;refine seq_seq ?_;refine seq_reg fun K hn hp=> ?_;simp only [sw.down,rE,reduceIte,rL,rA,rM,rD,svn.down,syw.down,aext0,aext1,hlen,hlen2,g0,g1,g5,q];refine hn _ _ ?_;clear hn hp K;by_cases hlt:i<l.length
   ·refine seq_cond true (by simp only [sw.down,rE,reduceIte,rL,rA,rM,rD,svn.down,syw.down,aext0,aext1,hlen,hlen2,g0,g1,g5,hlt]) (fun _=> ?_) (fun hx=>by cases hx);refine seq_skip ?_;refine seq_block fun K2 e1 e2 e3 e4 e5=> ?_;obtain ⟨i1,ld1⟩:=o.m23 hlt;have hlt2:i<m.length:=by omega
    obtain ⟨i2,ld2⟩:=o2.m23 hlt2;have w1:=wrap_succ hlt (by omega);by_cases hx:l.getD i 0=m.getD i 0
    ·refine seq_regD (sok xt) 9 (by kernel_rfl) fun K hn hp=> ?_;simp only [sw.down,rE,reduceIte,rL,rA,rM,rD,svn.down,syw.down,aext0,aext1,hlen,hlen2,g0,g1,g5,i1,ld1,i2,ld2,decide_eq_true hx,Bool.false_eq_true];refine hn _ _ ?_;clear hn hp K;refine wpc_cond false (by simp only [sw.down,rE,reduceIte,rL,rA,rM,rD,svn.down,syw.down,aext0,aext1,hlen,hlen2,g0,g1,g5,Bool.not_true]) (fun hx=>by cases hx) (fun _=> ?_);refine wpc_skip (e1 _ ?_);refine reg fun K hn hp=> ?_;simp only [sw.down,rE,reduceIte,rL,rA,rM,rD,svn.down,syw.down,aext0,aext1,hlen,hlen2,g0,g1,g5,w1];refine hn _ _ ?_;clear hn hp K;have ht:l.take (i+1)=m.take (i+1):=by
      rw [List.take_succ,List.take_succ,getD_some 0 hlt,getD_some 0 hlt2,heq,hx]
     refine ⟨⟨i+1,_,rfl,by omega,(by simp [T.get_put,g0,g1,g5]),(by simp [T.get_put,g0,g1,g5]),(by simp [T.get_put,g0,g1,g5]),ht⟩,by simpa [T.get_put,muA] using (by omega:l.length - (i+1)<l.length - i)⟩
    ·refine seq_regD (sok xt) 9 (by kernel_rfl) fun K hn hp=> ?_;simp only [sw.down,rE,reduceIte,rL,rA,rM,rD,svn.down,syw.down,aext0,aext1,hlen,hlen2,g0,g1,g5,i1,ld1,i2,ld2,decide_eq_false hx,Bool.false_eq_true];refine hn _ _ ?_;clear hn hp K;refine wpc_cond true (by simp only [sw.down,rE,reduceIte,rL,rA,rM,rD,svn.down,syw.down,aext0,aext1,hlen,hlen2,g0,g1,g5,Bool.not_false]) (fun _=> ?_) (fun hx=>by cases hx);refine seq_reg fun K hn hp=> ?_;simp only [sw.down,rE,reduceIte,rL,rA,rM,rD,svn.down,syw.down,aext0,aext1,hlen,hlen2,g0,g1,g5];refine hn _ _ ?_;clear hn hp K;refine wpc_ret (e4 _ (A4 _ (end_1 res93s ⟨?_,Fr.refl (Nat.le_refl _)⟩)));rw [decide_eq_false (show¬l=m from fun q=>hx (by rw [q]))];simp [T.get_put]
   ·have hkl:i=l.length:=by omega
    subst hkl;rw [List.take_length,hlm,List.take_length] at heq;refine seq_cond false (by simp only [sw.down,rE,reduceIte,rL,rA,rM,rD,svn.down,syw.down,aext0,aext1,hlen,hlen2,g0,g1,g5,hlt]) (fun hx=>by cases hx) (fun _=> ?_);refine seq_exit (A2 _ ?_);refine seq_reg fun K hn hp=> ?_;simp only [sw.down,rE,reduceIte,rL,rA,rM,rD,svn.down,syw.down,aext0,aext1,hlen,hlen2,g0,g1,g5];refine hn _ _ ?_;clear hn hp K;refine wpc_ret (end_1 res93s ⟨?_,Fr.refl (Nat.le_refl _)⟩);rw [decide_eq_true heq];simp [T.get_put]
  ·exact ⟨0,_,rfl,by omega,by simp [T.get_put,argsTo],by simp [T.get_put,argsTo],by simp [T.get_put],rfl⟩
 ·refine seq_reg fun K hn hp=> ?_;simp only [sw.down,rE,reduceIte,rL,rA,rM,rD,svn.down,syw.down,aext0,aext1,hlen,hlen2,decide_eq_false (show¬(l.length:Int)=(m.length:Int) by omega)];refine hn _ _ ?_;clear hn hp K;refine seq_cond true (by simp only [sw.down,rE,reduceIte,rL,rA,rM,rD,svn.down,syw.down,aext0,aext1,hlen,hlen2,Bool.not_false]) (fun _=> ?_) (fun hx=>by cases hx);refine seq_seq ?_;refine seq_reg fun K hn hp=> ?_;simp only [sw.down,rE,reduceIte,rL,rA,rM,rD,svn.down,syw.down,aext0,aext1,hlen,hlen2];refine hn _ _ ?_;clear hn hp K;refine seq_ret (end_1 res93s ⟨?_,Fr.refl (Nat.le_refl _)⟩);rw [decide_eq_false (show¬l=m from fun q=>hlm (by rw [q]))];simp [T.get_put]
theorem ft47s (xt:Addr→Option Value):(SE xt).ft.get 47=some Tryz.f47:=by kernel_rfl
theorem res47s:Tryz.f47.results.toList=[.tmp 4]:=by kernel_rfl
theorem same_c (xt:Addr→Option Value) (h:Hp) (v w:AV) (l m:List Int) (o:RowAt xt h 1 v (l.map c1)) (o2:RowAt xt h 1 w (m.map c1)) (hl:l.length≤9223372036854775807) (hm:m.length≤9223372036854775807) {K:CR→Hp→Prop} (hk: ∀n,h.n<n→K (.ret (.val (.bool (decide (l=m))))) (h.up n)):FnA (SE xt) 47 [v,w] h K:=by
 refine FnA.calm ?_ hk;clear hk K;refine FnA.walk (sok xt) (ft47s xt) rfl 8 rfl ?_;refine seq_reg fun K hn hp=> ?_;simp only [sw.down,rE,reduceIte,rL,rA,rM,rD,svn.down,syw.down,aext0,aext1];refine hn _ _ ?_;clear hn hp K;refine seq_reg fun K hn hp=> ?_;simp only [sw.down,rE,reduceIte,rL,rA,rM,rD,svn.down,syw.down,aext0,aext1];refine callA_func (sok xt) (same6_c xt h v w l m o o2 hl hm fun n hn2=> ?_);simp only [sw.down,rE,reduceIte,rL,rA,rM,rD,svn.down,syw.down,aext0,aext1];refine hn _ _ (wpc_ret (end_1 res47s ⟨?_,(Fr.refl (Nat.le_refl _)).up (Nat.le_of_lt hn2)⟩));simp [T.get_put]
theorem ft14s (xt:Addr→Option Value):(SE xt).ft.get 14=some Tryz.f14:=by kernel_rfl
theorem res14s:Tryz.f14.results.toList=[.tmp 4]:=by kernel_rfl
theorem sameE_c (xt:Addr→Option Value) (h:Hp) (j k:Int) (v w:AV) (l m:List Int) (o:RowAt xt h 1 v (l.map c1)) (o2:RowAt xt h 1 w (m.map c1)) (hl:l.length≤9223372036854775807) (hm:m.length≤9223372036854775807) {K:CR→Hp→Prop} (hk: ∀n,h.n<n→K (.ret (.val (.bool (decide (j=k) && decide (l=m))))) (h.up n)):FnA (SE xt) 14 [entA j v,entA k w] h K:=by
 refine FnA.calm ?_ hk;clear hk K;refine FnA.walk (sok xt) (ft14s xt) rfl 17 rfl ?_;have ov:=o.one;have ov2:=o2.one;refine seq_reg fun K hn hp=> ?_;simp only [sw.down,rE,reduceIte,rL,rA,rM,rD,svn.down,syw.down,aext0,aext1,ov,ov2,ent_cells];refine hn _ _ ?_;clear hn hp K;obtain ⟨h1,hh1,n1,s1,k1,f1⟩:=newE h (.cells [iv j,v] 25);obtain ⟨h2,hh2,n2,s2,k2,f2⟩:=newE h1 (.cells [iv k,w] 25);rw [←hh1,←hh2];have q1:h2.t.get h.n=some (.cells [iv j,v] 25):=(k2 h.n (by omega)).trans s1;have q2:h2.t.get (h.n+1)=some (.cells [iv k,w] 25):=by rw [←n1];exact s2
 have fr2:Fr h.n h h2:=f1.trans f2 (by omega);clear hh1 hh2;by_cases hjk:j=k
 ·refine seq_reg fun K hn hp=> ?_;simp only [sw.down,rE,reduceIte,rL,rA,rM,rD,svn.down,syw.down,aext0,aext1,ov,ov2,ent_cells,q1,q2,decide_eq_true hjk];refine callA_func (sok xt) (same_c xt _ v w l m (o.fr fr2 (Nat.le_refl _)) (o2.fr fr2 (Nat.le_refl _)) hl hm fun n hn2=> ?_);simp only [sw.down,rE,reduceIte,rL,rA,rM,rD,svn.down,syw.down,aext0,aext1,ov,ov2,ent_cells,q1,q2];refine hn _ _ (wpc_ret (end_1 res14s ⟨?_,fr2.up (Nat.le_of_lt hn2)⟩));rw [decide_eq_true hjk];simp [T.get_put]
 ·refine seq_reg fun K hn hp=> ?_;simp only [sw.down,rE,reduceIte,rL,rA,rM,rD,svn.down,syw.down,aext0,aext1,ov,ov2,ent_cells,q1,q2,decide_eq_false hjk];refine hn _ _ ?_;clear hn hp K;refine wpc_ret (end_1 res14s ⟨?_,fr2⟩);rw [decide_eq_false hjk];simp [T.get_put]
end Go.Proofs.Kn
namespace Go.Proofs.Kn
open Go Go.Ev
set_option maxRecDepth 100000
set_option maxHeartbeats 4000000
def kinds:List Int:=[1,2,3,4,5,6]
def kindIs (w0:List UInt8) (ns:List Int) (k:Int):Bool:=decide (w0=nameE k) && formedB k ns
def refP (s:List UInt8):Option (Int×List Int):=
 match numsP (spl 32 s).tail with
 |none=>none
 |some ns=>(kinds.find? (kindIs ((spl 32 s).headD []) ns)).map fun k=>(k,ns)
theorem kinds_at (k:Nat) (h1:1≤k) (h6:k≤6):kinds[k - 1]? =some (k:Int):=by
 obtain rfl|rfl|rfl|rfl|rfl|rfl:k=1∨k=2∨k=3∨k=4∨k=5∨k=6:=by omega
 all_goals rfl
theorem find_atI {p:Int→Bool}: ∀(L:List Int) (i:Nat) (r:Int),(∀j,j<i→ ∀x,L[j]? =some x→p x=false)→L[i]? =some r→p r=true→L.find? p=some r
 |[],i,r,_,h,_=>by simp at h
 |x::L,0,r,_,h,hp=>by
  simp only [List.getElem?_cons_zero,Option.some.injEq] at h;subst h;rw [List.find?_cons,hp]
 |x::L,i+1,r,hno,h,hp=>by
  rw [List.find?_cons,hno 0 (by omega) x rfl];exact find_atI L i r (fun j hj y hy=>hno (j+1) (by omega) y (by simpa using hy)) (by simpa using h) hp
theorem row_tail {xt:Addr→Option Value} {h:Hp} {b:Nat} {ws:List (List UInt8)} (hb:b<h.n) (hg:h.t.get b=some (.cells (ws.map sv) 9)) (h0:0<ws.length):RowAt xt h 1 (.sl b 1 (ws.length - 1) 1) (ws.tail.map fun x=>[.string (bs x)]):=by
 have hl:(ws.tail.map fun x=>[Value.string (bs x)]).length=ws.length - 1:=by simp
 refine ⟨fun c hc=>by obtain ⟨x,_,rfl⟩:=List.mem_map.1 hc;rfl,by omega,.inr (.inr ⟨b,1,ws.map sv,9,by rw [hl],⟨hb,by rw [hl,List.length_map];omega,hg⟩,fun i c hi j u hu=> ?_⟩)⟩;rw [List.getElem?_map,List.getElem?_tail] at hi;cases hw:ws[i+1]? with
 |none=>rw [hw] at hi;cases hi
 |some x=>
  rw [hw] at hi;simp only [Option.map_some,Option.some.injEq] at hi;subst hi;cases j with
  |zero=>
   simp only [List.getElem?_cons_zero,Option.some.injEq] at hu;subst hu;rw [Nat.mul_one,Nat.add_zero,Nat.add_comm,List.getElem?_map,hw];rfl
  |succ j=>simp at hu
theorem ft15s (xt:Addr→Option Value):(SE xt).ft.get 15=some Tryz.f15:=by kernel_rfl
theorem res15s:Tryz.f15.results.toList=[.cell 2 25,.tmp 3]:=by kernel_rfl
def refR (h:Hp) (s:List UInt8) (res:CR) (h':Hp):Prop:=
 match refP s with
 |none=>res= .ret (.tup [entA 0 nilV,.val (.bool false)])
 |some (k,ns)=> ∃u,res= .ret (.tup [entA k u,.val (.bool true)])∧OwnSl h' h.n 1 3 u ns.length (ns.map iv)
theorem ref_w (xt:Addr→Option Value) (h:Hp) (s:List UInt8) (hs:s.length≤1000):FnA (SE xt) 15 [sv s] h (fun res h'=>Fr h.n h h'∧refR h s res h'):=by
 refine FnA.walk (sok xt) (ft15s xt) rfl 39 rfl ?_;refine seq_reg fun K hn hp=> ?_;simp only [sw.down,rE,reduceIte,rL,rA,rM,rD,svn.down,syw.down,aext0,aext1];refine hn _ _ ?_;clear hn hp K;obtain ⟨h1,hh1,n1,s1,k1,f1⟩:=newE h (.cells [iv 0,nilV] 25);rw [←hh1];clear hh1;have lt25:(2≤([iv 0,nilV]:List AV).length)=True:=by simp
 obtain ⟨ws,hws⟩: ∃ws,ws=spl 32 s:=⟨_,rfl⟩;have hw0:0<ws.length:=by rw [hws];exact spl_pos _ _
 have hwl:ws.length≤1001:=by
  have:=spl_len 32 s;rw [←hws] at this;omega
 have hrp:refP s=match numsP ws.tail with|none=>none|some ns=>(kinds.find? (kindIs (ws.headD []) ns)).map fun k=>(k,ns):=by rw [refP,hws]
 refine seq_reg fun K hn hp=> ?_;simp only [sw.down,rE,reduceIte,rL,rA,rM,rD,svn.down,syw.down,aext0,aext1];refine callA_func (sok xt) ((split_r xt h1 s (by omega) 32).mono fun res h2 ⟨f2,u,hr,o2⟩=> ?_);subst hr;rw [←hws] at o2;have hl2:=f2.lo;rcases o2 with ⟨o2,_⟩|⟨b,rfl,ob1,ob2,ob3,_⟩
 ·omega
 simp only [sw.down,rE,reduceIte,rL,rA,rM,rD,svn.down,syw.down,aext0,aext1];refine hn _ _ ?_;clear hn hp K;have s2:h2.t.get h.n=some (.cells [iv 0,nilV] 25):=by rw [f2.at_ _ (.inl (by omega))];exact s1
 have fr2:Fr h.n h h2:=f1.trans f2 (by omega);have slr:=sl_1n h2 ws.length (b:=b) hw0;have ot:=row_tail (xt:=xt) ob2 ob3 hw0;have hel: ∀x∈ws.tail,x.length≤1000000:=fun x hx=>by
  have:=spl_each 32 s x (by rw [←hws];exact List.mem_of_mem_tail hx);omega
 refine seq_reg fun K hn hp=> ?_;simp only [sw.down,rE,reduceIte,rL,rA,rM,rD,svn.down,syw.down,aext0,aext1,slr,WOp_slice,Option.map_none];refine callA_func (sok xt) ((numbers_r xt h2 _ ws.tail ot (by rw [List.length_tail];omega) hel).mono fun res h3 ⟨f3,hr⟩=> ?_);have hl3:=f3.lo;have s3:h3.t.get h.n=some (.cells [iv 0,nilV] 25):=by rw [f3.at_ _ (.inl (by omega))];exact s2
 have b3:h3.t.get b=some (.cells (ws.map sv) 9):=by rw [f3.at_ _ (.inl ob2)];exact ob3
 have fr3:Fr h.n h h3:=fr2.trans f3 (by omega);have noRes:refP s=none→ ∀(tm:T AV) (hg:Hp),tm.get 2=some (.ptr h.n 0)→tm.get 3=some (.val (.bool false))→Fr h.n h hg→hg.t.get h.n=some (.cells [iv 0,nilV] 25)→endK (SE xt) Tryz.f15 (fun res h'=>Fr h.n h h'∧refR h s res h') .ret ⟨tm,39,hg,[]⟩:=fun hno tm hg p2 p3 fg sg=>by
  refine end_c1 res15s (v:=entA 0 nilV) ?_ ⟨fg,?_⟩
  ·simp only [sw.down,rE,reduceIte,rL,rA,rM,rD,svn.down,syw.down,aext0,aext1,p2,sg,lt25];rfl
  ·rw [refR,hno];simp [p3]
 cases hnum:numsP ws.tail with
 |none=>
  rw [hnum] at hr;subst hr;have hno:refP s=none:=by rw [hrp,hnum]
  simp only [sw.down,rE,reduceIte,rL,rA,rM,rD,svn.down,syw.down,aext0,aext1];refine hn _ _ ?_;clear hn hp K;refine seq_seq ?_;refine seq_reg fun K hn hp=> ?_;simp only [sw.down,rE,reduceIte,rL,rA,rM,rD,svn.down,syw.down,aext0,aext1];refine hn _ _ ?_;clear hn hp K;refine seq_block fun KA A1 A2 A3 A4 A5=> ?_;refine wpc_loop (sok xt) (fun st=> ∃(k:Nat) (tm:T AV),st=⟨tm,39,h3,[]⟩∧k≤7∧tm.get 2=some (.ptr h.n 0)∧tm.get 6=some (.val (.bool false))∧tm.get 7=some (iv k)) (fun st=>7 - (match st.tm.get 7 with|some (.val (.int _ n))=>n.toNat|_=>0)) ?_ ?_
  ·rintro st ⟨k,tm,rfl,hkA,g2,g6,g7⟩;have muA:=g7;refine seq_seq ?_;refine seq_reg fun K hn hp=> ?_;simp only [sw.down,rE,reduceIte,rL,rA,rM,rD,svn.down,syw.down,aext0,aext1,g2,g6,g7];refine hn _ _ ?_;clear hn hp K;refine seq_cond false (by simp only [sw.down,rE,reduceIte,rL,rA,rM,rD,svn.down,syw.down,aext0,aext1,g2,g6,g7]) (fun hx=>by cases hx) (fun _=> ?_);refine seq_exit (A2 _ ?_);refine seq_reg fun K hn hp=> ?_;simp only [sw.down,rE,reduceIte,rL,rA,rM,rD,svn.down,syw.down,aext0,aext1,g2,g6,g7,bd25z,ent_cells,s3];refine hn _ _ ?_;clear hn hp K;refine wpc_ret (noRes hno _ _ ?_ ?_ (fr3.set (Nat.le_refl _) (by omega) _) ?_)<;>simp [T.get_put,g2,Hp.set_t]
  ·exact ⟨1,_,rfl,by omega,by simp [T.get_put],by simp [T.get_put],by simp [T.get_put]⟩
 |some ns=>
  rw [hnum] at hr;obtain ⟨u,rfl,ou⟩:=hr;have huo:=ou.one;have huc:=own_cells ou;obtain ⟨w0,hw0e⟩: ∃w0,w0=ws.headD []:=⟨_,rfl⟩;have hwm:(ws.map sv)[0]? =some (sv w0):=by
   rw [hw0e];cases hq:ws with
   |nil=>rw [hq] at hw0;simp at hw0
   |cons x l=>rfl
  have ia0:=ia1110 b ws.length hw0;have hrp2:refP s=(kinds.find? (kindIs w0 ns)).map fun k=>(k,ns):=by rw [hrp,hnum,hw0e]
  have hnl:ns.length≤1000:=by
   have:=numsP_len _ _ hnum;rw [List.length_tail] at this;omega
  simp only [sw.down,rE,reduceIte,rL,rA,rM,rD,svn.down,syw.down,aext0,aext1,huo];refine hn _ _ ?_;clear hn hp K;refine seq_seq ?_;refine seq_reg fun K hn hp=> ?_;simp only [sw.down,rE,reduceIte,rL,rA,rM,rD,svn.down,syw.down,aext0,aext1];refine hn _ _ ?_;clear hn hp K;refine seq_block fun KA A1 A2 A3 A4 A5=> ?_;refine wpc_loop (sok xt) (fun st=> ∃(k:Nat) (hg:Hp) (tm:T AV),st=⟨tm,39,hg,[]⟩∧k≤7∧tm.get 2=some (.ptr h.n 0)∧tm.get 4=some (.sl b 0 ws.length 1)∧tm.get 5=some (u)∧tm.get 6=some (.val (.bool true))∧tm.get 7=some (iv k)∧1≤k∧Fr h3.n h3 hg∧ ∀j:Nat,1≤j→j<k→kindIs w0 ns j=false) (fun st=>7 - (match st.tm.get 7 with|some (.val (.int _ n))=>n.toNat|_=>0)) ?_ ?_
  ·rintro st ⟨k,hg,tm,rfl,hkA,g2,g4,g5,g6,g7,hk1,fg,hno⟩;have muA:=g7;have q:decide ((k:Int)≤(6:Int))=decide (k≤6):=decide_eq_decide.2 ⟨fun h=>by omega,fun h=>by omega⟩;have hle:=fg.le;have sg:hg.t.get h.n=some (.cells [iv 0,nilV] 25):=by rw [fg.at_ _ (.inl (by omega))];exact s3
   have bg:hg.t.get b=some (.cells (ws.map sv) 9):=by rw [fg.at_ _ (.inl (by omega))];exact b3
   have frg:Fr h.n h hg:=fr3.trans fg (by omega);refine seq_seq ?_;refine seq_reg fun K hn hp=> ?_;simp only [sw.down,rE,reduceIte,rL,rA,rM,rD,svn.down,syw.down,aext0,aext1,g2,g4,g5,g6,g7,q];refine hn _ _ ?_;clear hn hp K;by_cases hlt:k≤6
   ·refine seq_cond true (by simp only [sw.down,rE,reduceIte,rL,rA,rM,rD,svn.down,syw.down,aext0,aext1,g2,g4,g5,g6,g7,hlt]) (fun _=> ?_) (fun hx=>by cases hx);refine seq_skip ?_;refine seq_block fun K2 e1 e2 e3 e4 e5=> ?_;have bdk:=bd25 (k:Int) u huc;have lt2u:(2≤([iv k,u]:List AV).length)=True:=by simp
    have wk:IntKind.i64.wrap ((k:Int)+1)=((k+1:Nat):Int):=wrap_succ (k:=k) (n:=7) (by omega) (by omega);refine seq_reg fun K hn hp=> ?_;simp only [sw.down,rE,reduceIte,rL,rA,rM,rD,svn.down,syw.down,aext0,aext1,g2,g4,g5,g6,g7,bdk,huo,ent_cells];refine hn _ _ ?_;clear hn hp K;obtain ⟨h4,hh4⟩: ∃h4:Hp,h4=(hg.new (.cells [iv 0,nilV] 25)).set hg.n (.cells [iv k,u] 25):=⟨_,rfl⟩;have nh4:h4.n=hg.n+1:=by rw [hh4];rfl
    have sh4:h4.t.get hg.n=some (.cells [iv k,u] 25):=by rw [hh4,Hp.set_t,T.get_put,if_pos rfl]
    have kh4: ∀k,k<hg.n→h4.t.get k=hg.t.get k:=fun k hk=>by rw [hh4];exact newset_lt _ _ _ hk
    have fbh4:Fr hg.n hg h4:=by rw [hh4];exact newset_fr _ _ _
    have fh4:=fbh4;rw [←hh4];have b4:=(kh4 b (by omega)).trans bg;have s4:=(kh4 h.n (by omega)).trans sg;have f4:Fr h3.n h3 h4:=fg.trans fbh4 hle;have o4:OwnSl h4 h.n 1 3 u ns.length (ns.map iv):=own_lower (ou.fr f4 (Nat.le_refl _)) (by omega);have r4:=own_iv (xt:=xt) o4;have again:kindIs w0 ns k=false→ ∀(tm2:T AV) (n5:Nat),h4.n≤n5→tm2.get 2=some (.ptr h.n 0)→tm2.get 4=some (.sl b 0 ws.length 1)→tm2.get 5=some u→tm2.get 6=some (.val (.bool true))→tm2.get 7=some (iv k)→K2 .normal ⟨tm2,39,h4.up n5,[]⟩:=fun hf tm2 n5 hn5 p2 p4 p5 p6 p7=>by
     refine e1 _ ?_;refine reg fun K hn hp=> ?_;simp only [sw.down,rE,reduceIte,rL,rA,rM,rD,svn.down,syw.down,aext0,aext1,sh4,nh4,p2,p4,p5,p6,p7,wk];refine hn _ _ ?_;clear hn hp K;refine ⟨⟨k+1,h4.up n5,_,rfl,by omega,by simp [T.get_put,p2],by simp [T.get_put,p4],by simp [T.get_put,p5],by simp [T.get_put,p6],by simp [T.get_put],by omega,f4.up hn5,fun j a b=>by
      by_cases hjk:j=k
      ·rw [hjk];exact hf
      ·exact hno j a (by omega)⟩,by simpa [T.get_put,muA] using (by omega:7 - (k+1)<7 - k)⟩
    refine seq_regD (sok xt) 10 (by kernel_rfl) fun K hn hp=> ?_;simp only [sw.down,rE,reduceIte,rL,rA,rM,rD,svn.down,syw.down,aext0,aext1,g2,g4,g5,g6,g7,sh4,nh4,ia0,b4,hwm,Bool.false_eq_true];refine callA_func (sok xt) (name_c xt h4 k hk1 hlt fun n5 hn5=> ?_);simp only [sw.down,rE,reduceIte,rL,rA,rM,rD,svn.down,syw.down,aext0,aext1,g2,g4,g5,g6,g7,sh4,nh4,Bool.false_eq_true,WOCn_t hn5];by_cases hA:w0=nameE (k:Int)
    ·simp only [sw.down,rE,reduceIte,rL,rA,rM,rD,svn.down,syw.down,aext0,aext1,g2,g4,g5,g6,g7,nh4,decide_eq_true hA,Bool.false_eq_true,sh4,lt2u];refine callA_func (sok xt) (rformed_c xt _ (k:Int) u ns (r4.up (by omega)) hnl fun n6 hn6=> ?_);simp only [sw.down,rE,reduceIte,rL,rA,rM,rD,svn.down,syw.down,aext0,aext1,g2,g4,g5,g6,g7,sh4,nh4,Bool.false_eq_true,WOCn_t hn6];rw [Hp.up_n] at hn6;cases hB:formedB (k:Int) ns with
     |true=>
      have hyes:kindIs w0 ns k=true:=by rw [kindIs,decide_eq_true hA,hB];rfl
      have hfind:refP s=some ((k:Int),ns):=by
       rw [hrp2,find_atI kinds (k - 1) (k:Int) (fun j hj x hx=> ?_) (kinds_at k hk1 hlt) hyes]
       ·rfl
       have:=kinds_at (j+1) (by omega) (by omega);rw [Nat.add_sub_cancel] at this;rw [this] at hx;cases hx;exact hno (j+1) (by omega) (by omega)
      simp only [sw.down,rE,reduceIte,rL,rA,rM,rD,svn.down,syw.down,aext0,aext1,g2,g4,g5,g6,g7,sh4,nh4,Hp.up_up];refine hn _ _ ?_;clear hn hp K;refine wpc_cond true (by simp only [sw.down,rE,reduceIte,rL,rA,rM,rD,svn.down,syw.down,aext0,aext1,g2,g4,g5,g6,g7,sh4,nh4]) (fun _=> ?_) (fun hx=>by cases hx);refine seq_reg fun K hn hp=> ?_;simp only [sw.down,rE,reduceIte,rL,rA,rM,rD,svn.down,syw.down,aext0,aext1,g2,g4,g5,g6,g7,nh4,sh4,lt2u,s4,ent_cells,huo];refine hn _ _ ?_;clear hn hp K;refine wpc_ret (e4 _ (A4 _ (end_c1 res15s (v:=entA (k:Int) u) ?_ ⟨(((fr3.trans f4 (by omega)).up (by omega:h4.n≤n6)).set (Nat.le_refl _) (by rw [Hp.up_n];omega) _),?_⟩)))
      ·simp only [sw.down,rE,reduceIte,rL,rA,rM,rD,svn.down,syw.down,aext0,aext1,g2,g4,g5,g6,g7,sh4,nh4,lt2u];rfl
      ·rw [refR,hfind];refine ⟨u,by simp [T.get_put],?_⟩;have o5:OwnSl h4 (h.n+1) 1 3 u ns.length (ns.map iv):=own_lower (ou.fr f4 (Nat.le_refl _)) (by omega);exact own_lower (own_set (o5.up (by omega)) (by omega) _) (by omega)
     |false=>
      simp only [sw.down,rE,reduceIte,rL,rA,rM,rD,svn.down,syw.down,aext0,aext1,g2,g4,g5,g6,g7,sh4,nh4,Hp.up_up];refine hn _ _ ?_;clear hn hp K;refine wpc_cond false (by simp only [sw.down,rE,reduceIte,rL,rA,rM,rD,svn.down,syw.down,aext0,aext1,g2,g4,g5,g6,g7,sh4,nh4]) (fun hx=>by cases hx) (fun _=> ?_);refine wpc_skip (again (by rw [kindIs,hB,Bool.and_false]) _ n6 (by omega) ?_ ?_ ?_ ?_ ?_)<;>simp [T.get_put,g2,g4,g5,g6,g7]
    ·simp only [sw.down,rE,reduceIte,rL,rA,rM,rD,svn.down,syw.down,aext0,aext1,g2,g4,g5,g6,g7,sh4,nh4,decide_eq_false hA,Bool.false_eq_true];refine hn _ _ ?_;clear hn hp K;refine wpc_cond false (by simp only [sw.down,rE,reduceIte,rL,rA,rM,rD,svn.down,syw.down,aext0,aext1,g2,g4,g5,g6,g7,sh4,nh4]) (fun hx=>by cases hx) (fun _=> ?_);refine wpc_skip (again (by rw [kindIs,decide_eq_false hA,Bool.false_and]) _ n5 (by omega) ?_ ?_ ?_ ?_ ?_)<;>simp [T.get_put,g2,g4,g5,g6,g7]
   ·refine seq_cond false (by simp only [sw.down,rE,reduceIte,rL,rA,rM,rD,svn.down,syw.down,aext0,aext1,g2,g4,g5,g6,g7,hlt]) (fun hx=>by cases hx) (fun _=> ?_);refine seq_exit (A2 _ ?_);have hno2:refP s=none:=by
     rw [hrp2,List.find?_eq_none.2]
     ·rfl
     intro x hx;simp only [kinds,List.mem_cons,List.mem_nil_iff,or_false] at hx;have: ∀j:Nat,1≤j→j≤6→ ¬kindIs w0 ns j=true:=fun j a b=>by rw [hno j a (by omega)];simp
     rcases hx with rfl|rfl|rfl|rfl|rfl|rfl
     ·exact this 1 (by omega) (by omega)
     ·exact this 2 (by omega) (by omega)
     ·exact this 3 (by omega) (by omega)
     ·exact this 4 (by omega) (by omega)
     ·exact this 5 (by omega) (by omega)
     ·exact this 6 (by omega) (by omega)
    refine seq_reg fun K hn hp=> ?_;simp only [sw.down,rE,reduceIte,rL,rA,rM,rD,svn.down,syw.down,aext0,aext1,g2,g4,g5,g6,g7,bd25z,ent_cells,sg];refine hn _ _ ?_;clear hn hp K;refine wpc_ret (noRes hno2 _ _ ?_ ?_ (frg.set (Nat.le_refl _) (by omega) _) ?_)<;>simp [T.get_put,g2,Hp.set_t]
  ·exact ⟨1,h3,_,rfl,by omega,by simp [T.get_put],by simp [T.get_put],by simp [T.get_put],by simp [T.get_put],by simp [T.get_put],by omega,Fr.refl (Nat.le_refl _),fun j a b=>by omega⟩
end Go.Proofs.Kn
namespace Go.Proofs.Kn
open Go Go.Ev
set_option maxRecDepth 100000
theorem numP_is {w:List UInt8} {n:Nat} (h:numP w=some n):n<10000∧dec n=w:=by
 unfold numP at h;split at h
 ·rename_i q;cases h;exact ⟨valP_4 q.2.2.1 q.2.1,q.2.2.2⟩
 ·cases h
theorem numsP_is: ∀(ws:List (List UInt8)) (ns:List Int),numsP ws=some ns→(∀x∈ns,num4 x)∧ns.map (fun x=>dec x.toNat)=ws
 |[],ns,h=>by simp [numsP] at h;subst h;simp
 |x::xs,ns,h=>by
  rw [numsP] at h;split at h
  ·cases h
  ·rename_i n hn;cases hq:numsP xs with
   |none=>rw [hq] at h;cases h
   |some l=>
    rw [hq] at h;cases h;obtain ⟨i1,i2⟩:=numsP_is xs l hq;obtain ⟨j1,j2⟩:=numP_is hn;refine ⟨fun y hy=> ?_,by simp [i2,j2]⟩;rcases List.mem_cons.1 hy with rfl|hy
    ·simp only [num4];omega
    ·exact i1 y hy
theorem dig_all: ∀d:Fin 10,isDig (dg d.val)=true∧(dg d.val).toNat=48+d.val:=by decide
theorem dg_mod (n:Nat):dg n=dg (n % 10):=by rw [dg,dg,Nat.mod_mod]
theorem dg_is (n:Nat):isDig (dg n)=true∧(dg n).toNat=48+n % 10:=by
 rw [dg_mod];exact dig_all ⟨n % 10,Nat.mod_lt _ (by omega)⟩
theorem dec_digs (n:Nat):(dec n).all isDig=true:=by
 unfold dec;have:=fun m=>(dg_is m).1;split
 ·simp [this]
 ·split
  ·simp [this]
  ·split<;>simp [this]
theorem dec_val {n:Nat} (h:n<10000):valP (dec n)=n:=by
 have:=fun m=>(dg_is m).2;unfold dec;split
 ·simp [valP,this];omega
 ·split
  ·simp [valP,this];omega
  ·split
   ·simp [valP,this];omega
   ·simp [valP,this];omega
theorem numP_dec {n:Nat} (h:n<10000):numP (dec n)=some n:=by
 have hv:=dec_val h;have:numP (dec n)=some (valP (dec n)):=if_pos ⟨dec_ne n,dec_len n,dec_digs n,by rw [hv]⟩;rw [this,hv]
theorem numsP_dec: ∀l:List Int,(∀x∈l,num4 x)→numsP (l.map fun x=>dec x.toNat)=some l
 |[],_=>rfl
 |x::l,h=>by
  have h1:num4 x:=h x List.mem_cons_self;obtain ⟨n,hn⟩: ∃n:Nat,x=(n:Int):=⟨x.toNat,by have:=h1.1;omega⟩;subst hn;have:=numsP_dec l fun y hy=>h y (List.mem_cons_of_mem _ hy);rw [List.map_cons,numsP,Int.toNat_natCast,numP_dec (by have:=h1.2;omega),this];rfl
theorem dec_no32 (n:Nat):(32:UInt8) ∉ dec n:=fun h=>by
 have:=List.all_eq_true.1 (dec_digs n) 32 h;exact absurd this (by decide)
theorem names_no32: ∀k:Fin 6,(32:UInt8) ∉ nameE ((k.val:Int)+1):=by decide
theorem name_no32 {k:Int} (h:1≤k∧k≤6):(32:UInt8) ∉ nameE k:=by
 have:=names_no32 ⟨(k - 1).toNat,by omega⟩;have e:(((k - 1).toNat:Int)+1)=k:=by omega
 rwa [show (((⟨(k - 1).toNat,by omega⟩:Fin 6).val:Int)+1)=k from e] at this
theorem tail_words: ∀(l:List Int),Lib.joinTail [32] (l.map fun x=>dec x.toNat)=wordsL l
 |[]=>rfl
 |x::l=>by
  have ih:=tail_words l;rw [List.map_cons];show [32]++dec x.toNat++Lib.joinTail [32] (l.map fun x=>dec x.toNat)=_;rw [ih];simp [wordsL]
theorem join_words: ∀(l:List Int),0<l.length→[32]++digL l=wordsL l
 |[],h=>by simp at h
 |x::l,_=>by
  rw [digL,lineL,List.map_cons,Lib.join_cons,tail_words];simp [wordsL]
theorem line_eq {k:Int} {l:List Int} (h:0<l.length):lineB k l=lineR k l:=by
 rw [lineB,lineR,List.append_assoc,join_words l h]
theorem spl_words (c:UInt8): ∀(ws:List (List UInt8)) (a:List UInt8),c ∉ a→(∀w∈ws,c ∉ w)→spl c (a++ws.flatMap fun w=>c::w)=a::ws
 |[],a,ha,_=>by simp [spl_end c a ha]
 |w::ws,a,ha,h=>by
  have ih:=spl_words c ws w (h w List.mem_cons_self) fun x hx=>h x (List.mem_cons_of_mem _ hx);rw [List.flatMap_cons,List.cons_append,spl_cut c a _ ha,ih]
theorem spl_line {k:Int} {l:List Int} (h:1≤k∧k≤6):spl 32 (lineR k l)=nameE k::l.map fun x=>dec x.toNat:=by
 have:lineR k l=nameE k++(l.map fun x=>dec x.toNat).flatMap fun w=>32::w:=by
  rw [lineR,wordsL,List.flatMap_map]
 rw [this];exact spl_words 32 _ _ (name_no32 h) fun w hw=>by
  obtain ⟨x,_,rfl⟩:=List.mem_map.1 hw;exact dec_no32 _
theorem spl_join (c:UInt8): ∀s:List UInt8,(spl c s).headD []++((spl c s).tail.flatMap fun w=>c::w)=s
 |[]=>rfl
 |x::l=>by
  have ih:=spl_join c l;simp only [spl];split
  ·rename_i hx;cases hs:spl c l with
   |nil=>exact absurd hs (spl_ne c l)
   |cons p r=>
    rw [hs] at ih;simp only [List.headD_cons,List.tail_cons] at ih;simp [hx,ih]
  ·cases hs:spl c l with
   |nil=>exact absurd hs (spl_ne c l)
   |cons p r=>
    rw [hs] at ih;simp only [List.headD_cons,List.tail_cons] at ih;simp [pre1,ih]
theorem names_eq: ∀r∈RW,r.1=true→r.2.1=nameE r.2.2.2:=by decide
theorem names_one: ∀r∈RW,∀q∈RW,r.2.1=q.2.1→r=q:=by decide
theorem kinds_mem: ∀k∈kinds,1≤k∧k≤6:=by decide
theorem parse_ref (s:List UInt8):parseP s=refP s:=by
 obtain ⟨ws,hws⟩: ∃ws,ws=spl 32 s:=⟨_,rfl⟩;have hw0:0<ws.length:=by rw [hws];exact spl_pos _ _
 rw [parseP,parsedP,refP,←hws];cases hnum:numsP ws.tail with
 |none=>
  cases hf:RW.find? (rowIs ws) with
  |none=>rfl
  |some r=>rfl
 |some ns=>
  have hnl:=numsP_len _ _ hnum;rw [List.length_tail] at hnl;have hin:ns.all inB=true:=List.all_eq_true.2 fun x hx=>inB_num.2 ((numsP_is _ _ hnum).1 x hx);show _=Option.map (fun k=>(k,ns)) (kinds.find? (kindIs (ws.headD []) ns));cases hk:kinds.find? (kindIs (ws.headD []) ns) with
  |some k=>
   have hkm:=List.mem_of_find?_eq_some hk;have hki:=List.find?_some hk;simp only [kindIs,Bool.and_eq_true,decide_eq_true_eq] at hki;obtain ⟨r,hr,hr1,hr2⟩:=kind_some (kinds_mem k hkm);obtain ⟨_,_,_,_,hlen,_⟩:=formed_is hki.2;have hri:rowIs ws r=true:=by
    rw [rowIs,Bool.and_eq_true,decide_eq_true_eq,decide_eq_true_eq];refine ⟨by rw [hki.1,←hr2];exact names_eq r hr hr1,?_⟩;rw [RW_many r hr hr1,hr2,←hlen,hnl]
   have hfind:RW.find? (rowIs ws)=some r:=by
    cases hf:RW.find? (rowIs ws) with
    |none=>exact absurd hri (by rw [List.find?_eq_none] at hf;exact hf r hr)
    |some q=>
     have hqi:=List.find?_some hf;rw [rowIs,Bool.and_eq_true,decide_eq_true_eq,decide_eq_true_eq] at hqi hri;rw [names_one q (List.mem_of_find?_eq_some hf) r hr (hqi.1.trans hri.1.symm)]
   rw [hfind];show (bif r.1 then some (r.2.2.2,ns) else none)=some (k,ns);rw [hr1,hr2];rfl
  |none=>
   cases hf:RW.find? (rowIs ws) with
   |none=>rfl
   |some r=>
    have hrm:=List.mem_of_find?_eq_some hf;have hri:=List.find?_some hf;rw [rowIs,Bool.and_eq_true,decide_eq_true_eq,decide_eq_true_eq] at hri;show (bif r.1 then some (r.2.2.2,ns) else none)=none;cases hr1:r.1 with
    |false=>rfl
    |true=>
     rw [List.find?_eq_none] at hk;have hkk:=RW_kind r hrm hr1;refine absurd ?_ (hk r.2.2.2 (by
      simp only [kinds,List.mem_cons,List.mem_nil_iff,or_false];omega))
     rw [kindIs,Bool.and_eq_true,decide_eq_true_eq];refine ⟨by rw [←hri.1];exact names_eq r hrm hr1,?_⟩;rw [formedB,hin,Bool.and_true,decide_eq_true_eq,←RW_many r hrm hr1,hri.2,hnl]
theorem parse_line {k:Int} {l:List Int} (hf:formedB k l=true):refP (lineR k l)=some (k,l):=by
 obtain ⟨q1,q2,q3,q4,q5,q6⟩:=formed_is hf;rw [refP,spl_line ⟨q1,q2⟩];show (match numsP (l.map fun x=>dec x.toNat) with|none=>none|some ns=>(kinds.find? (kindIs (nameE k) ns)).map fun k=>(k,ns))=_;rw [numsP_dec l q6];show (kinds.find? (kindIs (nameE k) l)).map (fun k=>(k,l))=some (k,l);have hki:kindIs (nameE k) l k=true:=by rw [kindIs,hf];simp
 have hkm:k∈kinds:=by simp only [kinds,List.mem_cons,List.mem_nil_iff,or_false];omega
 cases hk:kinds.find? (kindIs (nameE k) l) with
 |none=>exact absurd hki (by rw [List.find?_eq_none] at hk;exact hk k hkm)
 |some j=>
  have hjm:=List.mem_of_find?_eq_some hk;have hji:=List.find?_some hk;rw [kindIs,Bool.and_eq_true,decide_eq_true_eq] at hji;obtain ⟨r,hr,hr1,hr2⟩:=kind_some (kinds_mem k hkm);obtain ⟨p,hp,hp1,hp2⟩:=kind_some (kinds_mem j hjm);have:r=p:=names_one r hr p hp (by rw [names_eq r hr hr1,names_eq p hp hp1,hr2,hp2];exact hji.1);rw [←hp2,←this,hr2];rfl
theorem line_parse {s:List UInt8} {k:Int} {l:List Int} (h:refP s=some (k,l)):formedB k l=true∧lineR k l=s:=by
 rw [refP] at h;cases hnum:numsP (spl 32 s).tail with
 |none=>rw [hnum] at h;cases h
 |some ns=>
  rw [hnum] at h
  replace h:Option.map (fun k=>(k,ns)) (kinds.find? (kindIs ((spl 32 s).headD []) ns))=some (k,l):=h
  cases hk:kinds.find? (kindIs ((spl 32 s).headD []) ns) with
  |none=>rw [hk] at h;cases h
  |some j=>
   rw [hk] at h;cases h;have hki:=List.find?_some hk;rw [kindIs,Bool.and_eq_true,decide_eq_true_eq] at hki;refine ⟨hki.2,?_⟩;have hw:=(numsP_is _ _ hnum).2;have:lineR k l=nameE k++(l.map fun x=>dec x.toNat).flatMap fun w=>32::w:=by
    rw [lineR,wordsL,List.flatMap_map]
   rw [this,hw,←hki.1];have hj:=spl_join 32 s;cases hs:spl 32 s with
   |nil=>exact absurd hs (spl_ne 32 s)
   |cons p r=>rw [hs] at hj;exact hj
theorem lineR_len {k:Int} {l:List Int} (h:formedB k l=true):(lineR k l).length≤21:=by
 obtain ⟨_,_,_,q4,_,_⟩:=formed_is h;have h1:=nameE_len k;have h2:=wordsL_len l;rw [lineR,List.length_append];omega
end Go.Proofs.Kn
