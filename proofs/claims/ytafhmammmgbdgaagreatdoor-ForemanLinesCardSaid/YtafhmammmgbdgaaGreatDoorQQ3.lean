/- Parts of the proof, joined by a program. -/
import Derived.Test.YtafhmammmgbdgaaGreatDoorQN
import Derived.Test.YtafhmammmgbdgaaGreatDoorQT
import Derived.Test.YtafhmammmgbdgaaGreatDoorQK
import Derived.Test.YtafhmammmgbdgaaGreatDoorQKk
import Derived.Test.YtafhmammmgbdgaaGreatDoorQQ2
set_option linter.all false
open Nat renaming reduceEqDiff → rE, reduceLeDiff → rD, reduceAdd → rA, reduceMul → rM, reduceLT → rL
namespace Go.Proofs.Kn
open Go Go.Ev
set_option maxRecDepth 100000
theorem ft6s (xt:Addr→Option Value):(SE xt).ft.get 6=some Tryz.f6:=by kernel_rfl
theorem known_c (xt:Addr→Option Value) (hx:Lx xt) (h:Hp) {K:CR→Hp→Prop} (hk: ∀n,h.n<n→K (.ret (.val (.bool true))) (h.up n)):FnA (SE xt) 6 [] h K:=by
 refine FnA.calm (v:= .ret (.val (.bool true))) ⟨_,h,⟨Nat.le_refl _,⟨_,ft6s xt,rfl⟩,fun lim _ c w args' g hxt ha=> ?_⟩,rfl,Fr.refl (Nat.le_refl _)⟩ hk;have:args'=[]:=by simpa [Go.Ev.RL] using ha
 subst this;refine (callsIn_wide.2 (known_ok w fun a v e=>(g.ext a v (hxt a v (hx.p a v e))).1)).mono fun e w' ⟨h1,h2⟩=>⟨c,Stp.below g h2,_,h1,by simp only [R]⟩
end Go.Proofs.Kn
namespace Go.Proofs.Kn
open Go Go.Ev
set_option maxRecDepth 100000
set_option maxHeartbeats 4000000
theorem ft4s (xt:Addr→Option Value):(SE xt).ft.get 4=some Tryz.f4:=by kernel_rfl
theorem res4s:Tryz.f4.results.toList=[.tmp 2]:=by kernel_rfl
theorem ey00:decide ((0:Int)=0)=true:=by decide
theorem ey22:decide ((2:Int)=2)=true:=by decide
theorem ey33:decide ((3:Int)=3)=true:=by decide
theorem ey44:decide ((4:Int)=4)=true:=by decide
theorem eyee:decide (([]:List UInt8)=[])=true:=by decide
theorem lines_true (xt:Addr→Option Value) (hx:Lx xt) (h:Hp) (k:Int) (s:Value) (l:List Int) (a:KnAt xt h k s l):FnA (SE xt) 4 [knV k s] h isTrue:=by
 have o:RowAt xt h 1 (.val s) (l.map c1):=a.row;have hll:=a.len;obtain ⟨v,hv⟩: ∃v:AV,v= .val s:=⟨_,rfl⟩;have hkv:knV k s=entA k v:=by rw [hv];rfl
 rw [hkv];rw [←hv] at o;refine FnA.walk (sok xt) (ft4s xt) rfl 54 rfl ?_;have hlen:=fun h'=>o.l23 h';have ov:=o.one;have le2:(2≤([iv k,v]:List AV).length)=True:=by simp
 refine seq_reg fun K hn hp=> ?_;simp only [sw.down,rE,reduceIte,rL,rA,rM,rD,svn.down,syw.down,aext0,aext1,hlen,ov,ent_cells,le2];refine hn _ _ ?_;clear hn hp K;obtain ⟨h1,hh1,n1,s1,k1,f1⟩:=newE h (.cells [iv k,v] 25);rw [←hh1];clear hh1;refine seq_seq ?_;by_cases hb:(6:Int)<(l.length:Int)
 ·refine seq_reg fun K hn hp=> ?_;simp only [sw.down,rE,reduceIte,rL,rA,rM,rD,svn.down,syw.down,aext0,aext1,hlen,ov,ent_cells,le2,s1,decide_eq_true hb];refine hn _ _ ?_;clear hn hp K;refine seq_cond true (by simp only [sw.down,rE,reduceIte,rL,rA,rM,rD,svn.down,syw.down,aext0,aext1,hlen,ov,ent_cells,le2,s1]) (fun _=> ?_) (fun hx=>by cases hx);refine seq_seq ?_;refine seq_reg fun K hn hp=> ?_;simp only [sw.down,rE,reduceIte,rL,rA,rM,rD,svn.down,syw.down,aext0,aext1,hlen,ov,ent_cells,le2,s1];refine callA_func (sok xt) (known_c xt hx _ fun n2 hn2=> ?_);simp only [sw.down,rE,reduceIte,rL,rA,rM,rD,svn.down,syw.down,aext0,aext1,hlen,ov,ent_cells,le2,s1];refine hn _ _ (seq_ret (end_1 res4s ?_));simp [T.get_put,isTrue]
 have hl6:l.length≤6:=by omega
 refine seq_reg fun K hn hp=> ?_;simp only [sw.down,rE,reduceIte,rL,rA,rM,rD,svn.down,syw.down,aext0,aext1,hlen,ov,ent_cells,le2,s1,decide_eq_false hb];refine hn _ _ ?_;clear hn hp K;refine seq_cond false (by simp only [sw.down,rE,reduceIte,rL,rA,rM,rD,svn.down,syw.down,aext0,aext1,hlen,ov,ent_cells,le2,s1]) (fun hx=>by cases hx) (fun _=> ?_);refine seq_skip ?_;have o1:=o.fr f1 (Nat.le_refl _);refine seq_reg fun K hn hp=> ?_;simp only [sw.down,rE,reduceIte,rL,rA,rM,rD,svn.down,syw.down,aext0,aext1,hlen,ov,ent_cells,le2,s1];refine callA_func (sok xt) (write_c xt hx h1 k v l o1 (by omega) fun n2 hn2=> ?_);cases hf:formedB k l with
 |false=>
  have hw:writeR k l= .tup [sv [],iv 2]:=by rw [writeR,hf];rfl
  rw [hw];simp only [sw.down,rE,reduceIte,rL,rA,rM,rD,svn.down,syw.down,aext0,aext1,hlen,ov,ent_cells,le2,s1];refine hn _ _ ?_;clear hn hp K;refine seq_seq ?_;refine seq_reg fun K hn hp=> ?_;simp only [sw.down,rE,reduceIte,rL,rA,rM,rD,svn.down,syw.down,aext0,aext1,hlen,ov,ent_cells,le2,s1];refine callA_func (sok xt) (rformed_c xt _ k v l (o1.up (by omega)) (by omega) fun n3 hn3=> ?_);simp only [sw.down,rE,reduceIte,rL,rA,rM,rD,svn.down,syw.down,aext0,aext1,hlen,ov,ent_cells,le2,s1,hf];refine hn _ _ ?_;clear hn hp K;refine seq_cond true (by simp only [sw.down,rE,reduceIte,rL,rA,rM,rD,svn.down,syw.down,aext0,aext1,hlen,ov,ent_cells,le2,s1,Bool.not_false]) (fun _=> ?_) (fun hx=>by cases hx);refine seq_seq ?_;refine seq_reg fun K hn hp=> ?_;simp only [sw.down,rE,reduceIte,rL,rA,rM,rD,svn.down,syw.down,aext0,aext1,hlen,ov,ent_cells,le2,s1,ey22,eyee];refine callA_func (sok xt) (known_c xt hx _ fun n4 hn4=> ?_);simp only [sw.down,rE,reduceIte,rL,rA,rM,rD,svn.down,syw.down,aext0,aext1,hlen,ov,ent_cells,le2,s1];refine hn _ _ (seq_ret (end_1 res4s ?_));simp [T.get_put,isTrue]
 |true=>
  obtain ⟨q1,q2,q3,q4,q5,q6⟩:=formed_is hf;have hw:writeR k l= .tup [sv (lineR k l),iv 0]:=by rw [writeR,hf,←line_eq q3];rfl
  have hlr:=lineR_len hf;have hpl:=parse_line hf;obtain ⟨ln,hln⟩: ∃ln,ln=lineR k l:=⟨_,rfl⟩;rw [←hln] at hw hlr hpl;rw [hw];simp only [sw.down,rE,reduceIte,rL,rA,rM,rD,svn.down,syw.down,aext0,aext1,hlen,ov,ent_cells,le2,s1];refine hn _ _ ?_;clear hn hp K;refine seq_seq ?_;refine seq_reg fun K hn hp=> ?_;simp only [sw.down,rE,reduceIte,rL,rA,rM,rD,svn.down,syw.down,aext0,aext1,hlen,ov,ent_cells,le2,s1];refine callA_func (sok xt) (rformed_c xt _ k v l (o1.up (by omega)) (by omega) fun n3 hn3=> ?_);rw [Hp.up_n] at hn3;simp only [sw.down,rE,reduceIte,rL,rA,rM,rD,svn.down,syw.down,aext0,aext1,hlen,ov,ent_cells,le2,s1,hf,Hp.up_up];refine hn _ _ ?_;clear hn hp K;refine seq_cond false (by simp only [sw.down,rE,reduceIte,rL,rA,rM,rD,svn.down,syw.down,aext0,aext1,hlen,ov,ent_cells,le2,s1,Bool.not_true]) (fun hx=>by cases hx) (fun _=> ?_);refine seq_skip ?_;obtain ⟨h3,hh3⟩: ∃h3:Hp,h3=h1.up n3:=⟨_,rfl⟩;have f3:Fr h.n h h3:=by rw [hh3];exact f1.up (by omega)
  have s3:h3.t.get h.n=some (.cells [iv k,v] 25):=by rw [hh3];exact s1
  have lt3:h.n<h3.n:=by rw [hh3,Hp.up_n];omega
  rw [←hh3];clear hh3;refine seq_reg fun K hn hp=> ?_;simp only [sw.down,rE,reduceIte,rL,rA,rM,rD,svn.down,syw.down,aext0,aext1,hlen,ov,ent_cells,le2];refine callA_func (sok xt) ((Parse_w xt hx h3 ln (by omega)).mono fun res h4 ⟨f4,hres⟩=> ?_);rw [ParseR,if_neg (by omega),parse_ref,hpl] at hres;obtain ⟨u,rfl,ou⟩:=hres;have huo:=ou.one;have s4:h4.t.get h.n=some (.cells [iv k,v] 25):=by rw [f4.at_ _ (.inl lt3)];exact s3
  have fr4:Fr h.n h h4:=f3.trans f4 (by omega);have hl4:=f4.lo;simp only [sw.down,rE,reduceIte,rL,rA,rM,rD,svn.down,syw.down,aext0,aext1,hlen,ov,ent_cells,le2,huo];refine hn _ _ ?_;clear hn hp K;obtain ⟨h5,hh5⟩: ∃h5:Hp,h5=(h4.new (.cells [iv 0,nilV] 25)).set h4.n (.cells [iv k,u] 25):=⟨_,rfl⟩;have nh5:h5.n=h4.n+1:=by rw [hh5];rfl
  have sh5:h5.t.get h4.n=some (.cells [iv k,u] 25):=by rw [hh5,Hp.set_t,T.get_put,if_pos rfl]
  have kh5: ∀k,k<h4.n→h5.t.get k=h4.t.get k:=fun k hk=>by rw [hh5];exact newset_lt _ _ _ hk
  have fbh5:Fr h4.n h4 h5:=by rw [hh5];exact newset_fr _ _ _
  have fh5:=fbh5;rw [←hh5];have s5:=(kh5 h.n (by omega)).trans s4;have fr5:Fr h.n h h5:=fr4.trans fbh5 (by omega);have o5:=o.fr fr5 (Nat.le_refl _);have ou5:OwnSl h5 h.n 1 3 u l.length (l.map iv):=own_lower (ou.fr fbh5 (Nat.le_refl _)) (by omega);have ro5:=own_iv (xt:=xt) ou5;have le2u:(2≤([iv k,u]:List AV).length)=True:=by simp
  refine seq_reg fun K hn hp=> ?_;simp only [sw.down,rE,reduceIte,rL,rA,rM,rD,svn.down,syw.down,aext0,aext1,hlen,ov,ent_cells,le2,sh5,nh5,ey00,s5];refine callA_func (sok xt) (rline_c xt h5 k v l o5 hf fun n6 hn6=> ?_);rw [←hln];have eln:decide (ln=ln)=true:=decide_eq_true rfl;simp only [sw.down,rE,reduceIte,rL,rA,rM,rD,svn.down,syw.down,aext0,aext1,hlen,ov,ent_cells,le2,sh5,nh5,ey00,eln,s5,le2u];refine callA_func (sok xt) (sameE_c xt _ k k v u l l (o5.up (by omega)) (ro5.up (by omega)) hll hll fun n7 hn7=> ?_);have ekk:(decide (k=k) && decide (l=l))=true:=by simp
  simp only [sw.down,rE,reduceIte,rL,rA,rM,rD,svn.down,syw.down,aext0,aext1,hlen,ov,ent_cells,le2,sh5,nh5,ekk];refine callA_func (sok xt) (known_c xt hx _ fun n8 hn8=> ?_);simp only [sw.down,rE,reduceIte,rL,rA,rM,rD,svn.down,syw.down,aext0,aext1,hlen,ov,ent_cells,le2,sh5,nh5];refine hn _ _ (wpc_ret (end_1 res4s ?_));simp [T.get_put,isTrue]
end Go.Proofs.Kn
namespace Go.Proofs.Kn
open Go Go.Ev
set_option maxRecDepth 100000
set_option maxHeartbeats 4000000
theorem ft5s (xt:Addr→Option Value):(SE xt).ft.get 5=some Tryz.f5:=by kernel_rfl
theorem res5s:Tryz.f5.results.toList=[.tmp 2]:=by kernel_rfl
theorem nil_row (xt:Addr→Option Value) (h:Hp):RowAt xt h 1 nilV (([]:List Int).map c1):=⟨by simp,by omega,.inl ⟨rfl,rfl⟩⟩
theorem dn03:decide ((3:Int)=0)=false:=by decide
theorem dn04:decide ((4:Int)=0)=false:=by decide
theorem parses_true (xt:Addr→Option Value) (hx:Lx xt) (h:Hp) (s:List UInt8) (hs:s.length≤9223372036854775807):FnA (SE xt) 5 [sv s] h isTrue:=by
 refine FnA.walk (sok xt) (ft5s xt) rfl 66 rfl ?_;refine seq_reg fun K hn hp=> ?_;simp only [sw.down,rE,reduceIte,rL,rA,rM,rD,svn.down,syw.down,aext0,aext1,ent_cells];refine hn _ _ ?_;clear hn hp K;refine seq_seq ?_;by_cases hb:(100:Int)<(s.length:Int)
 ·refine seq_reg fun K hn hp=> ?_;simp only [sw.down,rE,reduceIte,rL,rA,rM,rD,svn.down,syw.down,aext0,aext1,ent_cells,decide_eq_true hb];refine hn _ _ ?_;clear hn hp K;refine seq_cond true (by simp only [sw.down,rE,reduceIte,rL,rA,rM,rD,svn.down,syw.down,aext0,aext1,ent_cells]) (fun _=> ?_) (fun hx=>by cases hx);refine seq_seq ?_;refine seq_reg fun K hn hp=> ?_;simp only [sw.down,rE,reduceIte,rL,rA,rM,rD,svn.down,syw.down,aext0,aext1,ent_cells];refine callA_func (sok xt) (known_c xt hx _ fun n2 hn2=> ?_);simp only [sw.down,rE,reduceIte,rL,rA,rM,rD,svn.down,syw.down,aext0,aext1,ent_cells];refine hn _ _ (seq_ret (end_1 res5s ?_));simp [T.get_put,isTrue]
 have hl:s.length≤100:=by omega
 refine seq_reg fun K hn hp=> ?_;simp only [sw.down,rE,reduceIte,rL,rA,rM,rD,svn.down,syw.down,aext0,aext1,ent_cells,decide_eq_false hb];refine hn _ _ ?_;clear hn hp K;refine seq_cond false (by simp only [sw.down,rE,reduceIte,rL,rA,rM,rD,svn.down,syw.down,aext0,aext1,ent_cells]) (fun hx=>by cases hx) (fun _=> ?_);refine seq_skip ?_;have zle:(2≤([iv 0,nilV]:List AV).length)=True:=by simp
 refine seq_reg fun K hn hp=> ?_;simp only [sw.down,rE,reduceIte,rL,rA,rM,rD,svn.down,syw.down,aext0,aext1,ent_cells];refine callA_func (sok xt) ((Parse_w xt hx h s hs).mono fun res h1 ⟨f1,hres⟩=> ?_);obtain ⟨k1,u1,l1,e1,rfl,hu1,hc1,r1,hcase⟩: ∃(k1:Int) (u1:AV) (l1:List Int) (e1:Int),res= .ret (.tup [entA k1 u1,iv e1])∧Go.Ev.one u1=true∧cellsOf u1=[u1]∧(∃N,OwnSl h1 N 1 3 u1 l1.length (l1.map iv))∧l1.length≤1000∧
   ((60<s.length∧e1=3∧k1=0∧l1=[])∨(¬60<s.length∧refP s=none∧e1=4∧k1=0∧l1=[])∨(¬60<s.length∧refP s=some (k1,l1)∧e1=0)):=by
  rw [ParseR,parse_ref] at hres;by_cases h60:60<s.length
  ·rw [if_pos h60] at hres;exact ⟨0,nilV,[],3,hres,rfl,rfl,⟨0,OwnSl.nil⟩,by simp,.inl ⟨h60,rfl,rfl,rfl⟩⟩
  ·rw [if_neg h60] at hres;cases hr:refP s with
   |none=>
    rw [hr] at hres;exact ⟨0,nilV,[],4,hres,rfl,rfl,⟨0,OwnSl.nil⟩,by simp,.inr (.inl ⟨h60,rfl,rfl,rfl,rfl⟩)⟩
   |some p=>
    obtain ⟨k,l⟩:=p;rw [hr] at hres;obtain ⟨u,hu,ou⟩:=hres;obtain ⟨_,_,_,q4,_,_⟩:=formed_is (line_parse hr).1;exact ⟨k,u,l,0,hu,ou.one,own_cells ou,⟨_,ou⟩,by omega,.inr (.inr ⟨h60,rfl,rfl⟩)⟩
 obtain ⟨N1,ou1⟩:=r1;obtain ⟨hl1,hcase⟩:=hcase;simp only [sw.down,rE,reduceIte,rL,rA,rM,rD,svn.down,syw.down,aext0,aext1,ent_cells,hu1];refine hn _ _ ?_;clear hn hp K;obtain ⟨h2,hh2⟩: ∃h2:Hp,h2=(h1.new (.cells [iv 0,nilV] 25)).set h1.n (.cells [iv k1,u1] 25):=⟨_,rfl⟩;have nh2:h2.n=h1.n+1:=by rw [hh2];rfl
 have sh2:h2.t.get h1.n=some (.cells [iv k1,u1] 25):=by rw [hh2,Hp.set_t,T.get_put,if_pos rfl]
 have kh2: ∀k,k<h1.n→h2.t.get k=h1.t.get k:=fun k hk=>by rw [hh2];exact newset_lt _ _ _ hk
 have fbh2:Fr h1.n h1 h2:=by rw [hh2];exact newset_fr _ _ _
 have fh2:=fbh2;rw [←hh2];have o2:OwnSl h2 N1 1 3 u1 l1.length (l1.map iv):=ou1.fr fbh2 (Nat.le_refl _);refine seq_reg fun K hn hp=> ?_;simp only [sw.down,rE,reduceIte,rL,rA,rM,rD,svn.down,syw.down,aext0,aext1,ent_cells,sh2,nh2];refine callA_func (sok xt) ((ref_w xt h2 s (by omega)).mono fun res h3 ⟨f3,hres⟩=> ?_);obtain ⟨k2,u2,l2,b2,rfl,hu2,⟨N2,ou2⟩,hcase2⟩: ∃(k2:Int) (u2:AV) (l2:List Int) (b2:Bool),res= .ret (.tup [entA k2 u2,.val (.bool b2)])∧Go.Ev.one u2=true∧(∃N,OwnSl h3 N 1 3 u2 l2.length (l2.map iv))∧
   ((refP s=none∧b2=false)∨(refP s=some (k2,l2)∧b2=true)):=by
  rw [refR] at hres;cases hr:refP s with
  |none=>
   rw [hr] at hres;exact ⟨0,nilV,[],false,hres,rfl,⟨0,OwnSl.nil⟩,.inl ⟨rfl,rfl⟩⟩
  |some p=>
   obtain ⟨k,l⟩:=p;rw [hr] at hres;obtain ⟨u,hu,ou⟩:=hres;exact ⟨k,u,l,true,hu,ou.one,⟨_,ou⟩,.inr ⟨rfl,rfl⟩⟩
 have s3:h3.t.get h1.n=some (.cells [iv k1,u1] 25):=by rw [f3.at_ _ (.inl (by omega))];exact sh2
 have o3:OwnSl h3 N1 1 3 u1 l1.length (l1.map iv):=o2.fr f3 (Nat.le_refl _);simp only [sw.down,rE,reduceIte,rL,rA,rM,rD,svn.down,syw.down,aext0,aext1,ent_cells,sh2,nh2,hu2];refine hn _ _ ?_;clear hn hp K;obtain ⟨h4,hh4⟩: ∃h4:Hp,h4=(h3.new (.cells [iv 0,nilV] 25)).set h3.n (.cells [iv k2,u2] 25):=⟨_,rfl⟩;have nh4:h4.n=h3.n+1:=by rw [hh4];rfl
 have sh4:h4.t.get h3.n=some (.cells [iv k2,u2] 25):=by rw [hh4,Hp.set_t,T.get_put,if_pos rfl]
 have kh4: ∀k,k<h3.n→h4.t.get k=h3.t.get k:=fun k hk=>by rw [hh4];exact newset_lt _ _ _ hk
 have fbh4:Fr h3.n h3 h4:=by rw [hh4];exact newset_fr _ _ _
 have fh4:=fbh4;rw [←hh4];have lo3:=f3.lo;have s4:h4.t.get h1.n=some (.cells [iv k1,u1] 25):=(kh4 _ (by omega)).trans s3;have o4:OwnSl h4 N1 1 3 u1 l1.length (l1.map iv):=o3.fr fbh4 (Nat.le_refl _);have p4:OwnSl h4 N2 1 3 u2 l2.length (l2.map iv):=ou2.fr fbh4 (Nat.le_refl _);have ro4:=own_iv (xt:=xt) o4;have rp4:=own_iv (xt:=xt) p4;have le1:(2≤([iv k1,u1]:List AV).length)=True:=by simp
 have le2:(2≤([iv k2,u2]:List AV).length)=True:=by simp
 have d60:decide ((60:Int)<(s.length:Int))=decide (60<s.length):=lt_dec 60 _;refine seq_reg fun K hn hp=> ?_;simp only [sw.down,rE,reduceIte,rL,rA,rM,rD,svn.down,syw.down,aext0,aext1,ent_cells,sh2,nh2,sh4,nh4];refine hn _ _ ?_;clear hn hp K;refine seq_seq ?_;by_cases h60:60<s.length
 ·refine seq_reg fun K hn hp=> ?_;simp only [sw.down,rE,reduceIte,rL,rA,rM,rD,svn.down,syw.down,aext0,aext1,ent_cells,sh2,nh2,sh4,nh4,d60,decide_eq_true h60];refine hn _ _ ?_;clear hn hp K;refine seq_cond true (by simp only [sw.down,rE,reduceIte,rL,rA,rM,rD,svn.down,syw.down,aext0,aext1,ent_cells,sh2,nh2,sh4,nh4]) (fun _=> ?_) (fun hx=>by cases hx);obtain ⟨_,rfl,rfl,rfl⟩:60<s.length∧e1=3∧k1=0∧l1=[]:=by
   rcases hcase with q|q|q
   ·exact q
   ·exact absurd h60 q.1
   ·exact absurd h60 q.1
  have dd:(decide ((0:Int)=0) && decide (([]:List Int)=[]))=true:=by decide
  refine seq_reg fun K hn hp=> ?_;simp only [sw.down,rE,reduceIte,rL,rA,rM,rD,svn.down,syw.down,aext0,aext1,ent_cells,sh2,nh2,sh4,nh4];refine hn _ _ ?_;clear hn hp K;refine seq_seq ?_;refine seq_reg fun K hn hp=> ?_;simp only [sw.down,rE,reduceIte,rL,rA,rM,rD,svn.down,syw.down,aext0,aext1,ent_cells,sh2,nh2,sh4,nh4,dn03];refine hn _ _ ?_;clear hn hp K;refine seq_cond true (by simp only [sw.down,rE,reduceIte,rL,rA,rM,rD,svn.down,syw.down,aext0,aext1,ent_cells,sh2,nh2,sh4,nh4,Bool.not_false]) (fun _=> ?_) (fun hx=>by cases hx);refine seq_seq ?_;refine seq_reg fun K hn hp=> ?_;simp only [sw.down,rE,reduceIte,rL,rA,rM,rD,svn.down,syw.down,aext0,aext1,ent_cells,sh2,nh2,sh4,nh4,ey33,s4,le1,bd25z];refine callA_func (sok xt) (sameE_c xt _ 0 0 u1 nilV [] [] ro4 (nil_row xt _) (by simp) (by simp) fun n5 hn5=> ?_);simp only [sw.down,rE,reduceIte,rL,rA,rM,rD,svn.down,syw.down,aext0,aext1,ent_cells,sh2,nh2,sh4,nh4,dd];refine callA_func (sok xt) (known_c xt hx _ fun n6 hn6=> ?_);simp only [sw.down,rE,reduceIte,rL,rA,rM,rD,svn.down,syw.down,aext0,aext1,ent_cells,sh2,nh2,sh4,nh4];refine hn _ _ (seq_ret (end_1 res5s ?_));simp [T.get_put,isTrue]
 ·refine seq_reg fun K hn hp=> ?_;simp only [sw.down,rE,reduceIte,rL,rA,rM,rD,svn.down,syw.down,aext0,aext1,ent_cells,sh2,nh2,sh4,nh4,d60,decide_eq_false h60];refine hn _ _ ?_;clear hn hp K;refine seq_cond false (by simp only [sw.down,rE,reduceIte,rL,rA,rM,rD,svn.down,syw.down,aext0,aext1,ent_cells,sh2,nh2,sh4,nh4]) (fun hx=>by cases hx) (fun _=> ?_);refine seq_seq ?_;refine seq_reg fun K hn hp=> ?_;simp only [sw.down,rE,reduceIte,rL,rA,rM,rD,svn.down,syw.down,aext0,aext1,ent_cells,sh2,nh2,sh4,nh4];refine hn _ _ ?_;clear hn hp K;rcases hcase2 with ⟨hr,rfl⟩|⟨hr,rfl⟩
  ·obtain ⟨rfl,rfl,rfl⟩:e1=4∧k1=0∧l1=[]:=by
    rcases hcase with q|q|q
    ·exact absurd q.1 h60
    ·exact q.2.2
    ·rw [hr] at q;cases q.2.1
   have dd:(decide ((0:Int)=0) && decide (([]:List Int)=[]))=true:=by decide
   refine seq_cond true (by simp only [sw.down,rE,reduceIte,rL,rA,rM,rD,svn.down,syw.down,aext0,aext1,ent_cells,sh2,nh2,sh4,nh4,Bool.not_false]) (fun _=> ?_) (fun hx=>by cases hx);refine seq_reg fun K hn hp=> ?_;simp only [sw.down,rE,reduceIte,rL,rA,rM,rD,svn.down,syw.down,aext0,aext1,ent_cells,sh2,nh2,sh4,nh4];refine hn _ _ ?_;clear hn hp K;refine seq_seq ?_;refine seq_reg fun K hn hp=> ?_;simp only [sw.down,rE,reduceIte,rL,rA,rM,rD,svn.down,syw.down,aext0,aext1,ent_cells,sh2,nh2,sh4,nh4,dn04];refine hn _ _ ?_;clear hn hp K;refine seq_cond true (by simp only [sw.down,rE,reduceIte,rL,rA,rM,rD,svn.down,syw.down,aext0,aext1,ent_cells,sh2,nh2,sh4,nh4,Bool.not_false]) (fun _=> ?_) (fun hx=>by cases hx);refine seq_seq ?_;refine seq_reg fun K hn hp=> ?_;simp only [sw.down,rE,reduceIte,rL,rA,rM,rD,svn.down,syw.down,aext0,aext1,ent_cells,sh2,nh2,sh4,nh4,ey44,s4,le1,bd25z];refine callA_func (sok xt) (sameE_c xt _ 0 0 u1 nilV [] [] ro4 (nil_row xt _) (by simp) (by simp) fun n5 hn5=> ?_);simp only [sw.down,rE,reduceIte,rL,rA,rM,rD,svn.down,syw.down,aext0,aext1,ent_cells,sh2,nh2,sh4,nh4,dd];refine callA_func (sok xt) (known_c xt hx _ fun n6 hn6=> ?_);simp only [sw.down,rE,reduceIte,rL,rA,rM,rD,svn.down,syw.down,aext0,aext1,ent_cells,sh2,nh2,sh4,nh4];refine hn _ _ (seq_ret (end_1 res5s ?_));simp [T.get_put,isTrue]
  ·obtain ⟨hr2,rfl⟩:refP s=some (k1,l1)∧e1=0:=by
    rcases hcase with q|q|q
    ·exact absurd q.1 h60
    ·rw [hr] at q;cases q.2.1
    ·exact q.2
   obtain ⟨rfl,rfl⟩:k2=k1∧l2=l1:=by
    rw [hr] at hr2;cases hr2;exact ⟨rfl,rfl⟩
   obtain ⟨hf,hln⟩:=line_parse hr2;obtain ⟨q1,q2,q3,q4,q5,q6⟩:=formed_is hf;have hw:writeR k2 l2= .tup [sv s,iv 0]:=by rw [writeR,hf,←hln,←line_eq q3];rfl
   refine seq_cond false (by simp only [sw.down,rE,reduceIte,rL,rA,rM,rD,svn.down,syw.down,aext0,aext1,ent_cells,sh2,nh2,sh4,nh4,Bool.not_true]) (fun hx=>by cases hx) (fun _=> ?_);refine seq_skip ?_;refine seq_seq ?_;refine seq_reg fun K hn hp=> ?_;simp only [sw.down,rE,reduceIte,rL,rA,rM,rD,svn.down,syw.down,aext0,aext1,ent_cells,sh2,nh2,sh4,nh4,ey00];refine hn _ _ ?_;clear hn hp K;refine seq_cond false (by simp only [sw.down,rE,reduceIte,rL,rA,rM,rD,svn.down,syw.down,aext0,aext1,ent_cells,sh2,nh2,sh4,nh4,Bool.not_true]) (fun hx=>by cases hx) (fun _=> ?_);refine seq_skip ?_;refine seq_reg fun K hn hp=> ?_;simp only [sw.down,rE,reduceIte,rL,rA,rM,rD,svn.down,syw.down,aext0,aext1,ent_cells,sh2,nh2,sh4,nh4,s4,le1];refine callA_func (sok xt) (write_c xt hx _ k2 u1 l2 ro4 (by omega) fun n5 hn5=> ?_);rw [hw];simp only [sw.down,rE,reduceIte,rL,rA,rM,rD,svn.down,syw.down,aext0,aext1,ent_cells,sh2,nh2,sh4,nh4];refine hn _ _ ?_;clear hn hp K;have dd:(decide (k2=k2) && decide (l2=l2))=true:=by simp
   have ess:decide (s=s)=true:=decide_eq_true rfl;refine seq_reg fun K hn hp=> ?_;simp only [sw.down,rE,reduceIte,rL,rA,rM,rD,svn.down,syw.down,aext0,aext1,ent_cells,sh2,nh2,nh4,ey00,s4,le1,sh4,le2];refine callA_func (sok xt) (sameE_c xt _ k2 k2 u1 u2 l2 l2 (ro4.up (by omega)) (rp4.up (by omega)) (by omega) (by omega) fun n6 hn6=> ?_);simp only [sw.down,rE,reduceIte,rL,rA,rM,rD,svn.down,syw.down,aext0,aext1,ent_cells,sh2,nh2,sh4,nh4,dd,ey00,ess];refine callA_func (sok xt) (known_c xt hx _ fun n7 hn7=> ?_);simp only [sw.down,rE,reduceIte,rL,rA,rM,rD,svn.down,syw.down,aext0,aext1,ent_cells,sh2,nh2,sh4,nh4];refine hn _ _ (wpc_ret (end_1 res5s ?_));simp [T.get_put,isTrue]
end Go.Proofs.Kn
