/- Parts of the proof, joined by a program. -/
import Derived.Test.YtafhmammmgbdgaaGreatDoorQP1
import Derived.Test.YtafhmammmgbdgaaGreatDoorQI1
set_option linter.all false
open Nat renaming reduceEqDiff → rE, reduceLeDiff → rD, reduceAdd → rA, reduceMul → rM, reduceLT → rL
namespace Go.Proofs.Kn
open Go Go.Ev
set_option maxRecDepth 100000
set_option maxHeartbeats 4000000
theorem ft91s (xt:Addr→Option Value):(SE xt).ft.get 91=some Tryz.f91:=by kernel_rfl
theorem res91s:Tryz.f91.results.toList=[.tmp 2]:=by kernel_rfl
theorem bd162 (a:List UInt8):abuildA tb 162 [(0,sv a)]=some (.agg [sv a]):=by kernel_rfl
theorem if162 (h:Hp) (v:AV):aoIface tb h 162 v=some (.ifc 162 v,h):=by kernel_rfl
def noneV (w:List UInt8):AV:= .ifc 162 (.agg [sv w])
def isDig (b:UInt8):Bool:=decide (48≤b.toNat) && decide (b.toNat≤57)
def valP (w:List UInt8):Nat:=w.foldl (fun n b=>10*n+(b.toNat - 48)) 0
def numP (w:List UInt8):Option Nat:=if w≠[]∧w.length≤4∧w.all isDig=true∧dec (valP w)=w then some (valP w) else none
theorem valP_snoc (w:List UInt8) (b:UInt8):valP (w++[b])=10*valP w+(b.toNat - 48):=by simp [valP,List.foldl_append]
theorem fold_lt: ∀(w:List UInt8) (n:Nat),w.all isDig=true→w.foldl (fun n b=>10*n+(b.toNat - 48)) n+1≤(n+1)*10 ^ w.length
 |[],n,_=>by simp
 |b::w,n,h=>by
  rw [List.all_cons,Bool.and_eq_true] at h;have h2:=h.1;simp only [isDig,Bool.and_eq_true,decide_eq_true_eq] at h2;have ih:=fold_lt w (10*n+(b.toNat - 48)) h.2;rw [List.foldl_cons,List.length_cons,Nat.pow_succ];refine Nat.le_trans ih ?_;rw [Nat.mul_comm (10 ^ w.length) 10,←Nat.mul_assoc];exact Nat.mul_le_mul_right _ (by omega)
theorem valP_lt (w:List UInt8) (h:w.all isDig=true):valP w<10 ^ w.length:=by
 have:=fold_lt w 0 h;simpa [valP,Nat.succ_le_iff] using this
theorem valP_4 {w:List UInt8} (h:w.all isDig=true) (hl:w.length≤4):valP w<10000:=Nat.lt_of_lt_of_le (valP_lt w h) (Nat.pow_le_pow_right (by omega) hl:_≤10 ^ 4)
theorem dec_or (w:List UInt8) (k:Nat) (hk:k<w.length):((w[k]).toNat<128∧Utf8.decode (bs w) k=((w[k]).toNat,1))∨(128≤(w[k]).toNat∧128≤(Utf8.decode (bs w) k).1):=by
 by_cases h:(w[k]).toNat<128
 ·exact .inl ⟨h,dec_ascii w k hk h⟩
 ·exact .inr ⟨by omega,dec_else w k hk (by omega)⟩
theorem numP_none {w:List UInt8} (h: ¬(w≠[]∧w.length≤4∧w.all isDig=true∧dec (valP w)=w)):numP w=none:=if_neg h
theorem number_c (xt:Addr→Option Value) (hx:Lx xt) (h:Hp) (w:List UInt8) (hl:w.length≤9223372036854775807) {K:CR→Hp→Prop} (h1: ∀n,numP w=some n→ ∀m,h.n<m→K (.ret (iv n)) (h.up m)) (h2:numP w=none→ ∀m,h.n<m→K (.pan (noneV w)) (h.up m)):FnA (SE xt) 91 [sv w] h K:=by
 refine FnA.calm (v:=match numP w with|some n=> .ret (iv n)|none=> .pan (noneV w)) ?_ (fun m hm=>by
  cases q:numP w with
  |some n=>exact h1 n q m hm
  |none=>exact h2 q m hm)
 clear h1 h2 K;refine FnA.walk (sok xt) (ft91s xt) rfl 43 rfl ?_;refine seq_reg fun K hn hp=> ?_;simp only [sw.down,rE,reduceIte,rL,rA,rM,rD,svn.down];refine hn _ _ ?_;clear hn hp K;refine seq_reg fun K hn hp=> ?_;simp only [sw.down,rE,reduceIte,rL,rA,rM,rD,svn.down];refine hn _ _ ?_;clear hn hp K;refine seq_seq ?_;refine seq_reg fun K hn hp=> ?_;simp only [sw.down,rE,reduceIte,rL,rA,rM,rD,svn.down];refine hn _ _ ?_;clear hn hp K;obtain ⟨h1,hh1⟩: ∃h1:Hp,h1=h.new (.siter (bs w) 0):=⟨_,rfl⟩;rw [←hh1];have nh1:h1.n=h.n+1:=by rw [hh1];rfl
 have sh1:h1.t.get h.n=some (.siter (bs w) 0):=by rw [hh1];exact new_at _ _
 have kh1: ∀k,k<h.n→h1.t.get k=h.t.get k:=fun k hk=>by rw [hh1];exact new_lt _ _ hk
 have fbh1:Fr h.n h h1:=by rw [hh1];exact (Fr.refl (Nat.le_refl _)).new _
 have fh1:=fbh1;refine seq_block fun KA A1 A2 A3 A4 A5=> ?_;refine wpc_loop (sok xt) (fun st=> ∃(k:Nat) (hg:Hp) (tm:T AV),st=⟨tm,43,hg,[]⟩∧k≤w.length∧tm.get 0=some (sv w)∧tm.get 3=some (iv (valP (w.take k)))∧tm.get 7=some (.ptr h.n 0)∧Fr h.n h hg∧h.n<hg.n∧hg.t.get h.n=some (.siter (bs w) k)∧(w.take k).all isDig=true∧(0<k→w.length≤4)) (fun st=>w.length - (match st.h.t.get h.n with|some (.siter _ p)=>p|_=>0)) ?_ ?_
 ·rintro st ⟨k,hg,tm,rfl,hkA,g0,g3,g7,fg,ng,sg,hdig,h3⟩;have muA:=g7;by_cases hlt:k<w.length
  ·have nx:=aoNext_t sg hlt;obtain ⟨c,hc⟩: ∃c:Int,c=((Utf8.decode (bs w) k).1:Int):=⟨_,rfl⟩;obtain ⟨d,hd⟩: ∃d:Nat,d=k+(Utf8.decode (bs w) k).2:=⟨_,rfl⟩;rw [←hc,←hd] at nx;refine seq_reg fun K hn hp=> ?_;simp only [sw.down,rE,reduceIte,rL,rA,rM,rD,svn.down,sh1,nh1,g0,g3,g7,nx];refine hn _ _ ?_;clear hn hp K;refine seq_cond true (by simp only [sw.down,rE,reduceIte,rL,rA,rM,rD,svn.down,sh1,nh1,g0,g3,g7]) (fun _=> ?_) (fun hx=>by cases hx);refine seq_skip ?_;refine wpc_block fun K2 e1 e2 e3 e4 e5=> ?_;refine seq_reg fun K hn hp=> ?_;simp only [sw.down,rE,reduceIte,rL,rA,rM,rD,svn.down,sh1,nh1,g0,g3,g7];refine hn _ _ ?_;clear hn hp K;have fg2:=fg.set (Nat.le_refl _) ng (.siter (bs w) d);have hnone: ¬(isDig w[k]=true∧w.length≤4)→numP w=none:=fun hh=>numP_none fun ⟨q1,q2,q3,q4⟩=>hh ⟨List.all_eq_true.1 q3 _ (List.getElem_mem hlt),q2⟩;have hdg:(decide (48≤c) && decide (c≤57))=isDig w[k]:=by
    rcases dec_or w k hlt with ⟨a1,a2⟩|⟨a1,a2⟩
    ·rw [hc,a2];simp only [isDig];rw [Bool.eq_iff_iff];simp only [Bool.and_eq_true,decide_eq_true_eq];omega
    ·rw [hc];simp only [isDig];rw [Bool.eq_iff_iff];simp only [Bool.and_eq_true,decide_eq_true_eq];omega
   have hbad:numP w=none→ ∀(tm:T AV),K2 (.panic (noneV w)) ⟨tm,43,hg.set h.n (.siter (bs w) d),[]⟩:=fun hn tm=>by
    refine e5 _ _ (A5 _ _ ⟨_,rfl,?_,fg2⟩);rw [hn]
   refine seq_seq ?_;by_cases q1:c<(48:Int)
   ·have hb: ¬(isDig w[k]=true∧w.length≤4):=fun ⟨a,_⟩=>by
     rw [←hdg,Bool.and_eq_true,decide_eq_true_eq] at a;omega
    refine seq_reg fun K hn hp=> ?_;simp only [sw.down,rE,reduceIte,rL,rA,rM,rD,svn.down,sh1,nh1,g0,g3,g7,decide_eq_true q1];refine hn _ _ ?_;clear hn hp K;refine seq_cond true (by simp only [sw.down,rE,reduceIte,rL,rA,rM,rD,svn.down,sh1,nh1,g0,g3,g7]) (fun _=> ?_) (fun hx=>by cases hx);refine seq_reg fun K hn hp=> ?_;simp only [sw.down,rE,reduceIte,rL,rA,rM,rD,svn.down,sh1,nh1,g0,g3,g7,bd162,if162,WOp_iface,WOp_panic,panK_ifc];exact hp _ _ _ (hbad (hnone hb) _)
   by_cases q2:(57:Int)<c
   ·have hb: ¬(isDig w[k]=true∧w.length≤4):=fun ⟨a,_⟩=>by
     rw [←hdg,Bool.and_eq_true,decide_eq_true_eq,decide_eq_true_eq] at a;omega
    refine seq_reg fun K hn hp=> ?_;simp only [sw.down,rE,reduceIte,rL,rA,rM,rD,svn.down,sh1,nh1,g0,g3,g7,decide_eq_false q1,decide_eq_true q2];refine hn _ _ ?_;clear hn hp K;refine seq_cond true (by simp only [sw.down,rE,reduceIte,rL,rA,rM,rD,svn.down,sh1,nh1,g0,g3,g7]) (fun _=> ?_) (fun hx=>by cases hx);refine seq_reg fun K hn hp=> ?_;simp only [sw.down,rE,reduceIte,rL,rA,rM,rD,svn.down,sh1,nh1,g0,g3,g7,bd162,if162,WOp_iface,WOp_panic,panK_ifc];exact hp _ _ _ (hbad (hnone hb) _)
   by_cases q3:(4:Int)<(w.length:Int)
   ·have hb: ¬(isDig w[k]=true∧w.length≤4):=fun ⟨_,a⟩=>by omega
    refine seq_reg fun K hn hp=> ?_;simp only [sw.down,rE,reduceIte,rL,rA,rM,rD,svn.down,sh1,nh1,g0,g3,g7,decide_eq_false q1,decide_eq_false q2,decide_eq_true q3];refine hn _ _ ?_;clear hn hp K;refine seq_cond true (by simp only [sw.down,rE,reduceIte,rL,rA,rM,rD,svn.down,sh1,nh1,g0,g3,g7]) (fun _=> ?_) (fun hx=>by cases hx);refine seq_reg fun K hn hp=> ?_;simp only [sw.down,rE,reduceIte,rL,rA,rM,rD,svn.down,sh1,nh1,g0,g3,g7,bd162,if162,WOp_iface,WOp_panic,panK_ifc];exact hp _ _ _ (hbad (hnone hb) _)
   refine seq_reg fun K hn hp=> ?_;simp only [sw.down,rE,reduceIte,rL,rA,rM,rD,svn.down,sh1,nh1,g0,g3,g7,decide_eq_false q1,decide_eq_false q2,decide_eq_false q3];refine hn _ _ ?_;clear hn hp K;refine seq_cond false (by simp only [sw.down,rE,reduceIte,rL,rA,rM,rD,svn.down,sh1,nh1,g0,g3,g7]) (fun hx=>by cases hx) (fun _=> ?_);refine seq_skip ?_;have hdw:isDig w[k]=true:=by rw [←hdg,Bool.and_eq_true,decide_eq_true_eq,decide_eq_true_eq];omega
   have hl4:w.length≤4:=by omega
   obtain ⟨hcw,hd1⟩:c=((w[k]).toNat:Int)∧d=k+1:=by
    rcases dec_or w k hlt with ⟨a1,a2⟩|⟨a1,a2⟩
    ·rw [a2] at hc hd;exact ⟨hc,hd⟩
    ·omega
   subst hd1;have hv:valP (w.take k)<10000:=valP_4 hdig (by rw [List.length_take];omega);have w1:IntKind.i32.wrap (c - 48)=c - 48:=wrap_i32 _ (by omega) (by omega);have w2:IntKind.i64.wrap (c - 48)=c - 48:=wrap_i64 _ (by omega) (by omega);have w3:IntKind.i64.wrap (10*(valP (w.take k):Int))=10*(valP (w.take k):Int):=wrap_i64 _ (by omega) (by omega);have hs:w.take (k+1)=w.take k++[w[k]]:=by rw [List.take_succ,List.getElem?_eq_getElem hlt];rfl
   have w4:IntKind.i64.wrap (10*(valP (w.take k):Int)+(c - 48))=((valP (w.take (k+1)):Nat):Int):=by
    rw [wrap_i64 _ (by omega) (by omega),hs,valP_snoc];omega
   refine reg fun K hn hp=> ?_;simp only [sw.down,rE,reduceIte,rL,rA,rM,rD,svn.down,sh1,nh1,g0,g3,g7,w1,w2,w3,w4];refine hn _ _ ?_;clear hn hp K;refine e1 _ ?_;refine ⟨⟨k+1,_,_,rfl,by omega,by simp [T.get_put,g0],by simp [T.get_put],by simp [T.get_put,g7],fg2,by rw [Hp.set_n];omega,by rw [Hp.set_t,T.get_put,if_pos rfl],?_,fun _=>by omega⟩,?_⟩
   ·rw [hs,List.all_append,hdig];simpa using hdw
   ·simp only [sg,Hp.set_t,T.get_put,if_true];exact (by omega:w.length - (k+1)<w.length - k)
  ·have hk:k=w.length:=by omega
   subst hk;rw [List.take_length] at g3 hdig;have nx:=aoNext_f sg (Nat.le_refl _);refine seq_reg fun K hn hp=> ?_;simp only [sw.down,rE,reduceIte,rL,rA,rM,rD,svn.down,sh1,nh1,g0,g3,g7,nx];refine hn _ _ ?_;clear hn hp K;refine seq_cond false (by simp only [sw.down,rE,reduceIte,rL,rA,rM,rD,svn.down,sh1,nh1,g0,g3,g7]) (fun hx=>by cases hx) (fun _=> ?_);refine seq_exit (A2 _ ?_);refine seq_seq ?_;have hee:decide (([]:List UInt8)=[])=true:=by decide
   by_cases he:w=[]
   ·have hn0:numP w=none:=numP_none fun q=>q.1 he;subst he;refine seq_reg fun K hn hp=> ?_;simp only [sw.down,rE,reduceIte,rL,rA,rM,rD,svn.down,sh1,nh1,g0,g3,g7,hee];refine hn _ _ ?_;clear hn hp K;refine seq_cond true (by simp only [sw.down,rE,reduceIte,rL,rA,rM,rD,svn.down,sh1,nh1,g0,g3,g7]) (fun _=> ?_) (fun hx=>by cases hx);refine seq_reg fun K hn hp=> ?_;simp only [sw.down,rE,reduceIte,rL,rA,rM,rD,svn.down,sh1,nh1,g0,g3,g7,bd162,if162,WOp_iface,WOp_panic,panK_ifc];refine hp _ _ _ ⟨_,rfl,by rw [hn0];rfl,fg⟩
   have hw0:0<w.length:=List.length_pos_iff.2 he;have hw3:=h3 hw0;have hv:valP w<10000:=valP_4 hdig hw3;have hed:decide (w=[])=false:=decide_eq_false he;refine seq_reg fun K hn hp=> ?_;simp only [sw.down,rE,reduceIte,rL,rA,rM,rD,svn.down,sh1,nh1,g0,g3,g7,hed];refine callA_func (sok xt) (itoa_c xt hx _ _ hv fun n1 hn1=> ?_);by_cases hq:dec (valP w)=w
   ·have hn0:numP w=some (valP w):=if_pos ⟨he,hw3,hdig,hq⟩;have hqd:decide (dec (valP w)=w)=true:=decide_eq_true hq;simp only [sw.down,rE,reduceIte,rL,rA,rM,rD,svn.down,sh1,nh1,g0,g3,g7,hqd];refine hn _ _ ?_;clear hn hp K;refine seq_cond false (by simp only [sw.down,rE,reduceIte,rL,rA,rM,rD,svn.down,sh1,nh1,g0,g3,g7,Bool.not_true]) (fun hx=>by cases hx) (fun _=> ?_);refine seq_skip ?_;refine seq_reg fun K hn hp=> ?_;simp only [sw.down,rE,reduceIte,rL,rA,rM,rD,svn.down,sh1,nh1,g0,g3,g7];refine hn _ _ ?_;clear hn hp K;refine wpc_ret (end_1 res91s ⟨?_,?_⟩)
    ·rw [hn0];simp [T.get_put]
    ·exact fg.up (Nat.le_of_lt hn1)
   ·have hn0:numP w=none:=numP_none fun q=>hq q.2.2.2;have hqd:decide (dec (valP w)=w)=false:=decide_eq_false hq;simp only [sw.down,rE,reduceIte,rL,rA,rM,rD,svn.down,sh1,nh1,g0,g3,g7,hqd];refine hn _ _ ?_;clear hn hp K;refine seq_cond true (by simp only [sw.down,rE,reduceIte,rL,rA,rM,rD,svn.down,sh1,nh1,g0,g3,g7,Bool.not_false]) (fun _=> ?_) (fun hx=>by cases hx);refine seq_reg fun K hn hp=> ?_;simp only [sw.down,rE,reduceIte,rL,rA,rM,rD,svn.down,sh1,nh1,g0,g3,g7,bd162,if162,WOp_iface,WOp_panic,panK_ifc];refine hp _ _ _ ⟨_,rfl,by rw [hn0];rfl,fg.up (Nat.le_of_lt hn1)⟩
 ·exact ⟨0,_,_,rfl,by omega,by simp [T.get_put,argsTo],by simp [T.get_put,valP],by simp [T.get_put],fh1,by omega,sh1,rfl,fun hh=>by omega⟩
end Go.Proofs.Kn
namespace Go.Ev
theorem app_step {P:Program} {tb:T TE} {xt:Addr→Option Value} {h hB:Hp} {N sz by_ n:Nat} {t e:TypeId} {te ee:TE} {v:AV} {cs c:List AV} (ht:tb.get t=some te) (hd:te.d= .slice e) (he:tb.get e=some ee) (hs:ee.size=sz) (hby:ee.bytes=by_)
  (o:OwnSl h N sz e v n cs) (hN:N≤h.n) (fB:Fr h.n h hB) (nB:hB.n=h.n+1) (sB:hB.t.get h.n=some (.cells c e)) (hc:c.length=sz) (hco:c.all Go.Ev.one=true) (hl:(n+1)*by_≤140737488355328) (hl2:n+1≤9223372036854775807):
  ∃h',abuiltin P tb xt .append [t,t] [v,.sl h.n 0 1 sz] hB=some (.sl (h.n+1) 0 (n+1) sz,h')∧OwnSl h' N sz e (.sl (h.n+1) 0 (n+1) sz) (n+1) (cs++c)∧Fr N h h'∧h.n<h'.n:=by
 have o2:=o.fr fB (Nat.le_refl _);have hsrc:=src_own (xt:=xt) (m:=1) (sz:=sz) sB (by simp [hc]) hco;obtain ⟨h',b1,b2,b3,b4,b5⟩:=o2.append2 (P:=P) (by omega) ht hd he hs hby ht hd hsrc (by omega) (by simp [hc]) hl hl2;rw [nB] at b1 b2;exact ⟨h',b1,b2,(fB.lower hN).trans b3 (by omega),by omega⟩
end Go.Ev
namespace Go.Proofs.Kn
open Go Go.Ev
set_option maxRecDepth 100000
set_option maxHeartbeats 4000000
def c1 (x:Int):List Value:=[.int .i64 x]
theorem _root_.Go.Ev.RowAt.c1 {xt:Addr→Option Value} {h:Hp} {v:AV} {l:List Int} {t e:TypeId} {te ee:TE} (r:RowAt xt h 1 v (l.map c1)) (ht:tb.get t=some te) (hd:te.d= .slice e) (he:tb.get e=some ee) (hs:ee.size=1) (ha:ee.agg=false) {k:Nat} (hk:k<l.length):
  aindexAddr tb t v (.val (.int .i64 (k:Int)))=some (elp v k)∧aload tb xt h e (elp v k)=some (iv (l.getD k 0)):=by
 have h1:=r.idx ht hd he hs (i:=k) (by simpa using hk) (k:= .i64);have h2:=r.load0 he ha (i:=k) (c:=Kn.c1 (l.getD k 0)) (u:= .int .i64 (l.getD k 0)) (by rw [List.getElem?_map,getD_some 0 hk];rfl) rfl;rw [Nat.mul_one] at h1 h2;exact ⟨h1,h2⟩
theorem d23:te23.d= .slice 3:=by kernel_rfl
theorem d111:te111.d= .slice 9:=by kernel_rfl
theorem _root_.Go.Ev.RowAt.m23 {xt:Addr→Option Value} {h:Hp} {v:AV} {l:List Int} (r:RowAt xt h 1 v (l.map Kn.c1)) {k:Nat} (hk:k<l.length):aindexAddr tb 23 v (.val (.int .i64 (k:Int)))=some (elp v k)∧aload tb xt h 3 (elp v k)=some (iv (l.getD k 0)):=r.c1 tg23 d23 tg3 rfl rfl hk
theorem _root_.Go.Ev.RowAt.l23 {xt:Addr→Option Value} {h:Hp} {v:AV} {l:List Int} (r:RowAt xt h 1 v (l.map Kn.c1)) (h':Hp):alen tb h' 23 v=some l.length:=by
 have:=r.len (h':=h') tg23 d23;simpa using this
theorem row_own {xt:Addr→Option Value} {h:Hp} {N sz:Nat} {e:TypeId} {v:AV} {α:Type} (f:α→List Value) (hf: ∀x,(f x).length=sz) (h0:0<sz) {l:List α} (o:OwnSl h N sz e v l.length ((l.map f).flatten.map .val)):RowAt xt h sz v (l.map f):=
 OwnSl.row (by intro c hc;obtain ⟨x,_,rfl⟩:=List.mem_map.1 hc;exact hf x) h0 (by simpa using o)
theorem own_iv {xt:Addr→Option Value} {h:Hp} {N:Nat} {v:AV} {l:List Int} (o:OwnSl h N 1 3 v l.length (l.map iv)):RowAt xt h 1 v (l.map c1):=by
 refine row_own (sz:=1) c1 (fun _=>rfl) (by omega) (N:=N) (e:=3) ?_;have:(l.map c1).flatten.map AV.val=l.map iv:=by
  clear o;induction l with
  |nil=>rfl
  |cons x l ih=>simp only [List.map_cons,List.flatten_cons,List.map_append];rw [show List.map AV.val (List.map Kn.c1 l).flatten=List.map iv l from ih];rfl
 rw [this];exact o
abbrev lineL (ws:List (List UInt8)):List UInt8:=Lib.join ws [32]
def digL (l:List Int):List UInt8:=lineL (l.map fun x=>dec x.toNat)
def num4 (x:Int):Prop:=0≤x∧x<10000
theorem dec_len (n:Nat):(dec n).length≤4:=by unfold dec;split;simp;split;simp;split<;>simp
theorem join_len (sep:List UInt8) (b:Nat): ∀l:List (List UInt8),(∀x∈l,x.length≤b)→(Lib.join l sep).length≤l.length*(b+sep.length)
 |[],_=>by simp [Lib.join_nil]
 |x::r,h=>by
  rw [Lib.join_length];have: ∀l:List (List UInt8),(∀x∈l,x.length≤b)→Lib.lens l≤l.length*b:=fun l hl=>by
   induction l with
   |nil=>simp [Lib.lens]
   |cons y l ih=>
    have:=ih fun z hz=>hl z (List.mem_cons_of_mem _ hz);have h1:=hl y List.mem_cons_self;simp only [Lib.lens,List.map_cons,List.sum_cons,List.length_cons,Nat.add_mul] at this ⊢;omega
  have h2:=this (x::r) h;rw [Nat.mul_add];have h3:sep.length*r.length≤(x::r).length*sep.length:=by rw [Nat.mul_comm];exact Nat.mul_le_mul_right _ (by simp)
  omega
theorem dig_len (l:List Int):(digL l).length≤l.length*5:=by
 have:=join_len [32] 4 (l.map fun x=>dec x.toNat) (by intro x hx;obtain ⟨y,_,rfl⟩:=List.mem_map.1 hx;exact dec_len _);simpa [digL] using this
theorem bs111 (h:Hp) (a:List UInt8):aoBuildSlice tb h 111 1 [(0,sv a)]=some (.sl h.n 0 1 1,h.new (.cells [sv a] 9)):=by kernel_rfl
theorem app111 {xt:Addr→Option Value} {h hB:Hp} {N n:Nat} {v:AV} {cs:List AV} {a:List UInt8} (o:OwnSl h N 1 9 v n cs) (hN:N≤h.n) (fB:Fr h.n h hB) (nB:hB.n=h.n+1) (sB:hB.t.get h.n=some (.cells [sv a] 9)) (hl:n≤1000000):
  ∃h',abuiltin Tryz.prog tb xt .append [111,111] [v,.sl h.n 0 1 1] hB=some (.sl (h.n+1) 0 (n+1) 1,h')∧OwnSl h' N 1 9 (.sl (h.n+1) 0 (n+1) 1) (n+1) (cs++[sv a])∧Fr N h h'∧h.n<h'.n:=
 app_step (by_:=16) (ee:=te9) tg111 d111 tg9 rfl rfl o hN fB nB sB rfl rfl (by omega) (by omega)
theorem bs23 (h:Hp) (x:Int):aoBuildSlice tb h 23 1 [(0,iv x)]=some (.sl h.n 0 1 1,h.new (.cells [iv x] 3)):=by kernel_rfl
theorem fbn (h:Hp) (cs:List AV) (e:TypeId):Fr h.n h (h.new (.cells cs e)):=(Fr.refl (Nat.le_refl _)).new _
theorem app23 {xt:Addr→Option Value} {h:Hp} {N n:Nat} {v:AV} {cs:List AV} {a:Int} (o:OwnSl h N 1 3 v n cs) (hN:N≤h.n) (hl:n≤1000000):
  ∃h',abuiltin Tryz.prog tb xt .append [23,23] [v,.sl h.n 0 1 1] (h.new (.cells [iv a] 3))=some (.sl (h.n+1) 0 (n+1) 1,h')∧OwnSl h' N 1 3 (.sl (h.n+1) 0 (n+1) 1) (n+1) (cs++[iv a])∧Fr N h h'∧h.n<h'.n:=
 app_step (by_:=8) (ee:=te3) tg23 d23 tg3 rfl rfl o hN (fbn h [iv a] 3) (by rw [Hp.new_n]) (new_at _ _) rfl rfl (by omega) (by omega)
theorem ft78s (xt:Addr→Option Value):(SE xt).ft.get 78=some Tryz.f78:=by kernel_rfl
theorem res78s:Tryz.f78.results.toList=[.tmp 2]:=by kernel_rfl
theorem joined_c (xt:Addr→Option Value) (hx:Lx xt) (h:Hp) (v:AV) (l:List Int) (o:RowAt xt h 1 v (l.map c1)) (h0:0<l.length) (h1:l.length≤1000) (hl: ∀x∈l,num4 x) {K:CR→Hp→Prop} (hk: ∀n,h.n<n→K (.ret (sv (digL l))) (h.up n)):FnA (SE xt) 78 [v] h K:=by
 refine FnA.calm ?_ hk;clear hk K;refine FnA.walk (sok xt) (ft78s xt) rfl 20 rfl ?_;refine seq_reg fun K hn hp=> ?_;simp only [sw.down,rE,reduceIte,rL,rA,rM,rD,svn.down];refine hn _ _ ?_;clear hn hp K;refine seq_reg fun K hn hp=> ?_;simp only [sw.down,rE,reduceIte,rL,rA,rM,rD,svn.down];refine hn _ _ ?_;clear hn hp K;have hlen:=fun h'=>o.l23 h';have ov:=o.one;refine seq_seq ?_;refine seq_reg fun K hn hp=> ?_;simp only [sw.down,rE,reduceIte,rL,rA,rM,rD,svn.down,hlen];refine hn _ _ ?_;clear hn hp K;refine seq_block fun KA A1 A2 A3 A4 A5=> ?_;refine wpc_loop (sok xt) (fun st=> ∃(k:Nat) (hg:Hp) (u:AV) (tm:T AV),st=⟨tm,20,hg,[]⟩∧k≤l.length∧tm.get 3=some (u)∧tm.get 6=some (v)∧tm.get 7=some (iv l.length)∧tm.get 8=some (iv k)∧Fr h.n h hg∧OwnSl hg h.n 1 9 u k ((l.take k).map fun x=>sv (dec x.toNat))) (fun st=>l.length - (match st.tm.get 8 with|some (.val (.int _ n))=>n.toNat|_=>0)) ?_ ?_
 ·rintro st ⟨k,hg,u,tm,rfl,hkA,g3,g6,g7,g8,fg,os⟩;have muA:=g8;have q:decide ((k:Int)<(l.length:Int))=decide (k<l.length):=lt_dec _ _;refine seq_reg fun K hn hp=> ?_;simp only [sw.down,rE,reduceIte,rL,rA,rM,rD,svn.down,g3,g6,g7,g8,q];refine hn _ _ ?_;clear hn hp K;by_cases hlt:k<l.length
  ·refine seq_cond true (by simp only [sw.down,rE,reduceIte,rL,rA,rM,rD,svn.down,g3,g6,g7,g8,hlt]) (fun _=> ?_) (fun hx=>by cases hx);refine seq_skip ?_;refine wpc_block fun K2 e1 e2 e3 e4 e5=> ?_;obtain ⟨i1,hld⟩:=(o.fr fg (Nat.le_refl _)).m23 hlt;have hmem:l.getD k 0∈l:=by rw [List.getD_eq_getElem?_getD,List.getElem?_eq_getElem hlt];exact List.getElem_mem hlt
   obtain ⟨hx0,hx1⟩:=hl _ hmem;obtain ⟨n,hn⟩: ∃n:Nat,l.getD k 0=(n:Int):=⟨(l.getD k 0).toNat,by omega⟩;rw [hn] at hld;refine seq_reg fun K hn hp=> ?_;simp only [sw.down,rE,reduceIte,rL,rA,rM,rD,svn.down,g3,g6,g7,g8,i1,hld];refine hn _ _ ?_;clear hn hp K;have fgl:=fg.le;refine reg fun K hn' hp=> ?_;simp only [sw.down,rE,reduceIte,rL,rA,rM,rD,svn.down,g3,g6,g7,g8];refine callA_func (sok xt) (itoa_c xt hx _ n (by omega) fun n1 hn1=> ?_);have os1:=os.up (Nat.le_of_lt hn1);obtain ⟨hu,hhu⟩: ∃hu:Hp,hu=hg.up n1:=⟨_,rfl⟩;have fu:Fr h.n h hu:=by rw [hhu];exact fg.up (Nat.le_of_lt hn1)
   have ful:=fu.le;rw [←hhu] at os1 ⊢;obtain ⟨h3,p1,p2,p3,p4⟩:=app111 (xt:=xt) (a:=dec n) os1 ful (fbn hu [sv (dec n)] 9) (by rw [Hp.new_n]) (new_at _ _) (by omega);have ou:=os1.one;simp only [sw.down,rE,reduceIte,rL,rA,rM,rD,svn.down,g3,g6,g7,g8,WOp_buildSlice,bs111,p1];refine hn' _ _ (e1 _ ?_);clear hn' hp;have w1:=wrap_succ hlt (by omega);refine reg fun K hn hp=> ?_;simp only [sw.down,rE,reduceIte,rL,rA,rM,rD,svn.down,g3,g6,g7,g8,w1];refine hn _ _ ?_;clear hn hp K;have ht:(l.take (k+1)).map (fun x=>sv (dec x.toNat))=(l.take k).map (fun x=>sv (dec x.toNat))++[sv (dec n)]:=by
    rw [List.take_succ,getD_some 0 hlt,hn];simp
   rw [←ht] at p2;refine ⟨⟨k+1,h3,.sl (hu.n+1) 0 (k+1) 1,_,rfl,by omega,(by simp [T.get_put,g3,g6,g7,g8]),(by simp [T.get_put,g3,g6,g7,g8]),(by simp [T.get_put,g3,g6,g7,g8]),(by simp [T.get_put,g3,g6,g7,g8]),fu.trans p3 (Nat.le_refl _),p2⟩,by simpa [T.get_put,muA] using (by omega:l.length - (k+1)<l.length - k)⟩
  ·have hk:k=l.length:=by omega
   subst hk;rw [List.take_length] at os;refine seq_cond false (by simp only [sw.down,rE,reduceIte,rL,rA,rM,rD,svn.down,g3,g6,g7,g8,hlt]) (fun hx=>by cases hx) (fun _=> ?_);refine seq_exit (A2 _ ?_);have e0:(l.map fun x=>sv (dec x.toNat))=(l.map fun x=>dec x.toNat).map sv:=by rw [List.map_map];rfl
   rw [e0] at os;have hll:=dig_len l;refine seq_reg fun K hn hp=> ?_;simp only [sw.down,rE,reduceIte,rL,rA,rM,rD,svn.down,g3,g6,g7,g8];refine join_a xt _ u h.n (l.map fun x=>dec x.toNat) [32] (by rw [List.length_map];exact os) (by rw [List.length_map];exact h0) (by rw [List.length_map];omega) (by show (digL l).length≤_;omega) ?_;simp only [sw.down,rE,reduceIte,rL,rA,rM,rD,svn.down,g3,g6,g7,g8];refine hn _ _ (wpc_ret (end_1 res78s ⟨?_,fg⟩));simp [T.get_put,digL]
 ·exact ⟨0,_,_,_,rfl,by omega,by simp [T.get_put,argsTo],by simp [T.get_put],by simp [T.get_put],by simp [T.get_put],Fr.refl (Nat.le_refl _),OwnSl.nil⟩
end Go.Proofs.Kn
namespace Go.Proofs.Kn
open Go Go.Ev
set_option maxRecDepth 100000
set_option maxHeartbeats 4000000
theorem ft81s (xt:Addr→Option Value):(SE xt).ft.get 81=some Tryz.f81:=by kernel_rfl
theorem res81s:Tryz.f81.results.toList=[.tmp 6]:=by kernel_rfl
def inB (x:Int):Bool:=decide (0≤x) && decide (x≤9999)
theorem in_c (xt:Addr→Option Value) (h:Hp) (x lo hi:Int) {K:CR→Hp→Prop} (hk: ∀n,h.n<n→K (.ret (.val (.bool (decide (lo≤x) && decide (x≤hi))))) (h.up n)):
  FnA (SE xt) 81 [iv x,iv lo,iv hi] h K:=by
 refine FnA.calm ?_ hk;clear hk K;refine FnA.walk (sok xt) (ft81s xt) rfl 15 rfl ?_;refine seq_reg fun K hn hp=> ?_;simp only [sw.down,rE,reduceIte,rL,rA,rM,rD,svn.down];refine hn _ _ ?_;clear hn hp K;cases hx:decide (lo≤x)
 ·refine seq_reg fun K hn hp=> ?_;simp only [sw.down,rE,reduceIte,rL,rA,rM,rD,svn.down,hx];refine hn _ _ ?_;clear hn hp K;refine wpc_ret (end_1 res81s ⟨?_,Fr.refl (Nat.le_refl _)⟩);simp [T.get_put]
 ·refine seq_reg fun K hn hp=> ?_;simp only [sw.down,rE,reduceIte,rL,rA,rM,rD,svn.down,hx];refine hn _ _ ?_;clear hn hp K;refine wpc_ret (end_1 res81s ⟨?_,Fr.refl (Nat.le_refl _)⟩);simp [T.get_put]
theorem ft43s (xt:Addr→Option Value):(SE xt).ft.get 43=some Tryz.f43:=by kernel_rfl
theorem res43s:Tryz.f43.results.toList=[.tmp 6]:=by kernel_rfl
theorem rin_c (xt:Addr→Option Value) (h:Hp) (x lo hi:Int) {K:CR→Hp→Prop} (hk: ∀n,h.n<n→K (.ret (.val (.bool (decide (lo≤x) && decide (x≤hi))))) (h.up n)):
  FnA (SE xt) 43 [iv x,iv lo,iv hi] h K:=by
 refine FnA.calm ?_ hk;clear hk K;refine FnA.walk (sok xt) (ft43s xt) rfl 15 rfl ?_;refine seq_reg fun K hn hp=> ?_;simp only [sw.down,rE,reduceIte,rL,rA,rM,rD,svn.down];refine hn _ _ ?_;clear hn hp K;cases hx:decide (lo≤x)
 ·refine seq_reg fun K hn hp=> ?_;simp only [sw.down,rE,reduceIte,rL,rA,rM,rD,svn.down,hx];refine hn _ _ ?_;clear hn hp K;refine wpc_ret (end_1 res43s ⟨?_,Fr.refl (Nat.le_refl _)⟩);simp [T.get_put]
 ·refine seq_reg fun K hn hp=> ?_;simp only [sw.down,rE,reduceIte,rL,rA,rM,rD,svn.down,hx];refine hn _ _ ?_;clear hn hp K;refine wpc_ret (end_1 res43s ⟨?_,Fr.refl (Nat.le_refl _)⟩);simp [T.get_put]
theorem ft80s (xt:Addr→Option Value):(SE xt).ft.get 80=some Tryz.f80:=by kernel_rfl
theorem res80s:Tryz.f80.results.toList=[.tmp 2]:=by kernel_rfl
theorem out_c (xt:Addr→Option Value) (h:Hp) (x:Int) {K:CR→Hp→Prop} (hk: ∀n,h.n<n→K (.ret (.val (.bool (!inB x)))) (h.up n)):FnA (SE xt) 80 [iv x] h K:=by
 refine FnA.calm ?_ hk;clear hk K;refine FnA.walk (sok xt) (ft80s xt) rfl 6 rfl ?_;refine seq_reg fun K hn hp=> ?_;simp only [sw.down,rE,reduceIte,rL,rA,rM,rD,svn.down];refine hn _ _ ?_;clear hn hp K;refine seq_reg fun K hn hp=> ?_;simp only [sw.down,rE,reduceIte,rL,rA,rM,rD,svn.down];refine callA_func (sok xt) (in_c xt h x 0 9999 fun n hn2=> ?_);simp only [sw.down,rE,reduceIte,rL,rA,rM,rD,svn.down];refine hn _ _ (wpc_ret (end_1 res80s ⟨?_,(Fr.refl (Nat.le_refl _)).up (Nat.le_of_lt hn2)⟩));simp [T.get_put,inB]
theorem ft129s (xt:Addr→Option Value):(SE xt).ft.get 129=some Tryz.f129:=by kernel_rfl
theorem res129s:Tryz.f129.results.toList=[.tmp 4]:=by kernel_rfl
theorem idx_w (xt:Addr→Option Value) (h:Hp) (v:AV) (l:List Int) (o:RowAt xt h 1 v (l.map c1)) (h1:l.length≤1000):FnA (SE xt) 129 [v,.val (.func (.func 80) #[] #[])] h (fun r h'=>Fr h.n h h'∧ ∃i:Int,r= .ret (iv i)∧(decide (0≤i))= !(l.all inB)):=by
 refine FnA.walk (sok xt) (ft129s xt) rfl 19 rfl ?_;have hlen:=fun h'=>o.l23 h';have ov:=o.one;refine seq_reg fun K hn hp=> ?_;simp only [sw.down,rE,reduceIte,rL,rA,rM,rD,svn.down,hlen];refine hn _ _ ?_;clear hn hp K;refine seq_seq ?_;refine seq_reg fun K hn hp=> ?_;simp only [sw.down,rE,reduceIte,rL,rA,rM,rD,svn.down,hlen];refine hn _ _ ?_;clear hn hp K;refine seq_block fun KA A1 A2 A3 A4 A5=> ?_;refine wpc_loop (sok xt) (fun st=> ∃(k:Nat) (hg:Hp) (tm:T AV),st=⟨tm,19,hg,[]⟩∧k≤l.length∧tm.get 0=some (v)∧tm.get 1=some (.val (.func (.func 80) #[] #[]))∧tm.get 7=some (iv l.length)∧tm.get 8=some (iv k)∧Fr h.n h hg∧(l.take k).all inB=true) (fun st=>l.length - (match st.tm.get 8 with|some (.val (.int _ n))=>n.toNat|_=>0)) ?_ ?_
 ·rintro st ⟨k,hg,tm,rfl,hkA,g0,g1,g7,g8,fg,hal⟩;have muA:=g8;have q:decide ((k:Int)<(l.length:Int))=decide (k<l.length):=lt_dec _ _;refine seq_reg fun K hn hp=> ?_;simp only [sw.down,rE,reduceIte,rL,rA,rM,rD,svn.down,hlen,g0,g1,g7,g8,q];refine hn _ _ ?_;clear hn hp K;by_cases hlt:k<l.length
  ·refine seq_cond true (by simp only [sw.down,rE,reduceIte,rL,rA,rM,rD,svn.down,hlen,g0,g1,g7,g8,hlt]) (fun _=> ?_) (fun hx=>by cases hx);refine seq_skip ?_;refine wpc_block fun K2 e1 e2 e3 e4 e5=> ?_;obtain ⟨i1,hld⟩:=(o.fr fg (Nat.le_refl _)).m23 hlt;refine seq_reg fun K hn hp=> ?_;simp only [sw.down,rE,reduceIte,rL,rA,rM,rD,svn.down,hlen,g0,g1,g7,g8];refine hn _ _ ?_;clear hn hp K;refine seq_reg fun K hn hp=> ?_;simp only [sw.down,rE,reduceIte,rL,rA,rM,rD,svn.down,hlen,g0,g1,g7,g8,i1,hld];refine callA_func (sok xt) (out_c xt hg (l.getD k 0) fun n1 hn1=> ?_);simp only [sw.down,rE,reduceIte,rL,rA,rM,rD,svn.down,hlen,g0,g1,g7,g8];refine hn _ _ ?_;clear hn hp K;have fu:=fg.up (Nat.le_of_lt hn1);have hmem:l.getD k 0∈l:=by rw [List.getD_eq_getElem?_getD,List.getElem?_eq_getElem hlt];exact List.getElem_mem hlt
   cases hb:inB (l.getD k 0) with
   |false=>
    refine wpc_cond true (by simp only [sw.down,rE,reduceIte,rL,rA,rM,rD,svn.down,hlen,g0,g1,g7,g8,Bool.not_false]) (fun _=> ?_) (fun hx=>by cases hx);refine seq_reg fun K hn hp=> ?_;simp only [sw.down,rE,reduceIte,rL,rA,rM,rD,svn.down,hlen,g0,g1,g7,g8];refine hn _ _ ?_;clear hn hp K;refine wpc_ret (e4 _ (A4 _ (end_1 res129s ⟨fu,k,by simp [T.get_put],?_⟩)));have:l.all inB=false:=by
     rw [List.all_eq_false];exact ⟨_,hmem,by rw [hb];simp⟩
    rw [this];simp
   |true=>
    refine wpc_cond false (by simp only [sw.down,rE,reduceIte,rL,rA,rM,rD,svn.down,hlen,g0,g1,g7,g8,Bool.not_true]) (fun hx=>by cases hx) (fun _=> ?_);refine wpc_skip (e1 _ ?_);have w1:=wrap_succ hlt (by omega);refine reg fun K hn hp=> ?_;simp only [sw.down,rE,reduceIte,rL,rA,rM,rD,svn.down,hlen,g0,g1,g7,g8,w1];refine hn _ _ ?_;clear hn hp K;have ht:(l.take (k+1)).all inB=true:=by
     rw [List.take_succ,getD_some 0 hlt,List.all_append,hal];simp only [Option.toList_some,List.all_cons,List.all_nil,hb,Bool.and_true]
    refine ⟨⟨k+1,hg.up n1,_,rfl,by omega,(by simp [T.get_put,g0,g1,g7,g8]),(by simp [T.get_put,g0,g1,g7,g8]),(by simp [T.get_put,g0,g1,g7,g8]),(by simp [T.get_put,g0,g1,g7,g8]),fu,ht⟩,by simpa [T.get_put,muA] using (by omega:l.length - (k+1)<l.length - k)⟩
  ·have hk:k=l.length:=by omega
   subst hk;rw [List.take_length] at hal;refine seq_cond false (by simp only [sw.down,rE,reduceIte,rL,rA,rM,rD,svn.down,hlen,g0,g1,g7,g8,hlt]) (fun hx=>by cases hx) (fun _=> ?_);refine seq_exit (A2 _ ?_);refine seq_reg fun K hn hp=> ?_;simp only [sw.down,rE,reduceIte,rL,rA,rM,rD,svn.down,hlen,g0,g1,g7,g8];refine hn _ _ ?_;clear hn hp K;refine wpc_ret (end_1 res129s ⟨fg, -1,by simp [T.get_put],?_⟩);rw [hal];rfl
 ·exact ⟨0,h,_,rfl,by omega,by simp [T.get_put,argsTo],by simp [T.get_put,argsTo],by simp [T.get_put],by simp [T.get_put],Fr.refl (Nat.le_refl _),rfl⟩
theorem ft20s (xt:Addr→Option Value):(SE xt).ft.get 20=some Tryz.f20:=by kernel_rfl
theorem res20s:Tryz.f20.results.toList=[.tmp 2]:=by kernel_rfl
theorem fm_cells (a:List UInt8) (n:Int):cellsOf (.agg [sv a,iv n])=[sv a,iv n]:=rfl
theorem many_c (xt:Addr→Option Value) (h:Hp) (a:List UInt8) (m:Int) {K:CR→Hp→Prop} (hk: ∀n,h.n<n→K (.ret (iv m)) (h.up n)):FnA (SE xt) 20 [.agg [sv a,iv m]] h K:=by
 refine FnA.calm ?_ hk;clear hk K;refine FnA.walk (sok xt) (ft20s xt) rfl 5 rfl ?_;refine seq_reg fun K hn hp=> ?_;simp only [sw.down,rE,reduceIte,rL,rA,rM,rD,svn.down,fm_cells];refine hn _ _ ?_;clear hn hp K;obtain ⟨h1,hh1⟩: ∃h1:Hp,h1=h.new (.cells [sv a,iv m] 78):=⟨_,rfl⟩;rw [←hh1];have nh1:h1.n=h.n+1:=by rw [hh1];rfl
 have sh1:h1.t.get h.n=some (.cells [sv a,iv m] 78):=by rw [hh1];exact new_at _ _
 have kh1: ∀k,k<h.n→h1.t.get k=h.t.get k:=fun k hk=>by rw [hh1];exact new_lt _ _ hk
 have fbh1:Fr h.n h h1:=by rw [hh1];exact (Fr.refl (Nat.le_refl _)).new _
 have fh1:=fbh1;refine seq_reg fun K hn hp=> ?_;simp only [sw.down,rE,reduceIte,rL,rA,rM,rD,svn.down,sh1,nh1];refine hn _ _ ?_;clear hn hp K;refine wpc_ret (end_1 res20s ⟨?_,fh1⟩);simp [T.get_put]
theorem ft77s (xt:Addr→Option Value):(SE xt).ft.get 77=some Tryz.f77:=by kernel_rfl
theorem res77s:Tryz.f77.results.toList=[.tmp 2]:=by kernel_rfl
theorem word_c (xt:Addr→Option Value) (h:Hp) (a:List UInt8) (m:Int) {K:CR→Hp→Prop} (hk: ∀n,h.n<n→K (.ret (sv a)) (h.up n)):FnA (SE xt) 77 [.agg [sv a,iv m]] h K:=by
 refine FnA.calm ?_ hk;clear hk K;refine FnA.walk (sok xt) (ft77s xt) rfl 5 rfl ?_;refine seq_reg fun K hn hp=> ?_;simp only [sw.down,rE,reduceIte,rL,rA,rM,rD,svn.down,fm_cells];refine hn _ _ ?_;clear hn hp K;obtain ⟨h1,hh1⟩: ∃h1:Hp,h1=h.new (.cells [sv a,iv m] 78):=⟨_,rfl⟩;rw [←hh1];have nh1:h1.n=h.n+1:=by rw [hh1];rfl
 have sh1:h1.t.get h.n=some (.cells [sv a,iv m] 78):=by rw [hh1];exact new_at _ _
 have kh1: ∀k,k<h.n→h1.t.get k=h.t.get k:=fun k hk=>by rw [hh1];exact new_lt _ _ hk
 have fbh1:Fr h.n h h1:=by rw [hh1];exact (Fr.refl (Nat.le_refl _)).new _
 have fh1:=fbh1;refine seq_reg fun K hn hp=> ?_;simp only [sw.down,rE,reduceIte,rL,rA,rM,rD,svn.down,sh1,nh1];refine hn _ _ ?_;clear hn hp K;refine wpc_ret (end_1 res77s ⟨?_,fh1⟩);simp [T.get_put]
abbrev RWt:=Bool×List UInt8×Int×Int
def RW:List RWt:=[(true,[99,117,116],3,1),(true,[116,97,107,101],3,2),(true,[115,101,110,100],2,3),(true,[98,114,105,110,103],2,4),(true,[102,105,110,100],2,5),(true,[115,116,114,105,107,101],1,6),(false,[115,108,105,99,101,115],0,1),(false,[119,111,114,116,104],0,2),(false,[98,101,115,116],0,3),(false,[115,111,117,110,100],0,4),(false,[103,105,118,101,115],3,5),(false,[119,105,110,100,111,119],1,6),(false,[100,117,101],1,7),(false,[119,104,111],0,8),(false,[109,111,117,108,100,115],2,9),(false,[115,116,97,110,100,115],0,10)]
def rowV (r:RWt):AV:= .ifc (bif r.1 then 106 else 80) (.agg [sv r.2.1,iv r.2.2.1,iv r.2.2.2])
theorem bd78 (a:List UInt8) (n:Int):abuildA tb 78 [(0,sv a),(1,iv n)]=some (.agg [sv a,iv n]):=by kernel_rfl
theorem bd106 (a:List UInt8) (n k:Int):abuildA tb 106 [(0,.agg [sv a,iv n]),(1,iv k)]=some (.agg [sv a,iv n,iv k]):=by kernel_rfl
theorem bd80 (a:List UInt8) (n k:Int):abuildA tb 80 [(0,.agg [sv a,iv n]),(1,iv k)]=some (.agg [sv a,iv n,iv k]):=by kernel_rfl
theorem if106 (h:Hp) (v:AV):aoIface tb h 106 v=some (.ifc 106 v,h):=by kernel_rfl
theorem if80 (h:Hp) (v:AV):aoIface tb h 80 v=some (.ifc 80 v,h):=by kernel_rfl
theorem bs73 (h:Hp):aoBuildSlice tb h 73 16 [(0,.ifc 106 (.agg [sv [99,117,116],iv 3,iv 1])),(1,.ifc 106 (.agg [sv [116,97,107,101],iv 3,iv 2])),(2,.ifc 106 (.agg [sv [115,101,110,100],iv 2,iv 3])),(3,.ifc 106 (.agg [sv [98,114,105,110,103],iv 2,iv 4])),(4,.ifc 106 (.agg [sv [102,105,110,100],iv 2,iv 5])),(5,.ifc 106 (.agg [sv [115,116,114,105,107,101],iv 1,iv 6])),(6,.ifc 80 (.agg [sv [115,108,105,99,101,115],iv 0,iv 1])),(7,.ifc 80 (.agg [sv [119,111,114,116,104],iv 0,iv 2])),(8,.ifc 80 (.agg [sv [98,101,115,116],iv 0,iv 3])),(9,.ifc 80 (.agg [sv [115,111,117,110,100],iv 0,iv 4])),(10,.ifc 80 (.agg [sv [103,105,118,101,115],iv 3,iv 5])),(11,.ifc 80 (.agg [sv [119,105,110,100,111,119],iv 1,iv 6])),(12,.ifc 80 (.agg [sv [100,117,101],iv 1,iv 7])),(13,.ifc 80 (.agg [sv [119,104,111],iv 0,iv 8])),(14,.ifc 80 (.agg [sv [109,111,117,108,100,115],iv 2,iv 9])),(15,.ifc 80 (.agg [sv [115,116,97,110,100,115],iv 0,iv 10]))]=some (.sl h.n 0 16 1,h.new (.cells (RW.map rowV) 76)):=by kernel_rfl
theorem ft19s (xt:Addr→Option Value):(SE xt).ft.get 19=some Tryz.f19:=by kernel_rfl
theorem res19s:Tryz.f19.results.toList=[.tmp 0]:=by kernel_rfl
theorem rows_c (xt:Addr→Option Value) (h:Hp):FnA (SE xt) 19 [] h (fun r h'=>r= .ret (.sl h.n 0 16 1)∧h'=h.new (.cells (RW.map rowV) 76)):=by
 refine FnA.walk (sok xt) (ft19s xt) rfl 50 rfl ?_;refine seq_reg fun K hn hp=> ?_;simp only [sw.down,rE,reduceIte,rL,rA,rM,rD,svn.down];refine hn _ _ ?_;clear hn hp K;refine seq_reg fun K hn hp=> ?_;simp only [sw.down,rE,reduceIte,rL,rA,rM,rD,svn.down,bd78,bd106,bd80,if106,if80,WOp_iface,WOp_buildSlice,bs73];refine hn _ _ ?_;clear hn hp K;refine wpc_ret (end_1 res19s ⟨?_,rfl⟩);simp [T.get_put]
end Go.Proofs.Kn
namespace Go.Proofs.Kn
open Go Go.Ev
set_option maxRecDepth 100000
set_option maxHeartbeats 4000000
def entA (k:Int) (v:AV):AV:= .agg [iv k,v]
theorem ent_cells (k:Int) (v:AV):cellsOf (entA k v)=[iv k,v]:=rfl
theorem len73 (h:Hp) (b o n s:Nat):alen tb h 73 (.sl b o n s)=some n:=by simp only [alen,tg73];rfl
theorem ia73 (L k:Nat) (hk:k<16):aindexAddr tb 73 (.sl L 0 16 1) (.val (.int .i64 (k:Int)))=some (.ptr L (k*1)):=by
 have e1:aint (.val (.int .i64 (k:Int)))=some (Int.ofNat k):=rfl;have e2:te73.d= .slice 76:=rfl;have e3:te76.size=1:=rfl;have e4:Nat.blt k 16=true:=by rw [Nat.blt_eq];exact hk
 simp only [aindexAddr,tg73,tg76,e1,e2,e3,e4];show some (AV.ptr L (0+k*1))=_;rw [Nat.zero_add]
theorem as106t (v:AV):atypeAssert tb (.ifc 106 v) 106 true=some (.tup [v,.val (.bool true)]):=by kernel_rfl
theorem as106f (v:AV):atypeAssert tb (.ifc 80 v) 106 true=some (.tup [.val te106.zv,.val (.bool false)]):=by kernel_rfl
theorem zc106:cellsOf (.val te106.zv)=[sv [],iv 0,iv 0]:=by kernel_rfl
theorem al106 (h:Hp):aoAlloc tb h 106=some (.ptr h.n 0,h.new (.cells [sv [],iv 0,iv 0] 106)):=al_of (zs:=[.string (bs []),.int .i64 0,.int .i64 0]) tg106 rfl
theorem rowV_t (nm:List UInt8) (m kd:Int):rowV (true,nm,m,kd)= .ifc 106 (.agg [sv nm,iv m,iv kd]):=rfl
theorem rowV_f (nm:List UInt8) (m kd:Int):rowV (false,nm,m,kd)= .ifc 80 (.agg [sv nm,iv m,iv kd]):=rfl
theorem row_one (r:RWt):Go.Ev.one (rowV r)=true:=rfl
def manyE (k:Int):Int:=if k=1∨k=2 then 3 else if k=3∨k=4∨k=5 then 2 else if k=6 then 1 else -1
theorem RW_many: ∀r∈RW,r.1=true→r.2.2.1=manyE r.2.2.2:=by decide
theorem RW_kind: ∀r∈RW,r.1=true→1≤r.2.2.2∧r.2.2.2≤6:=by decide
theorem RW_has: ∀k:Fin 6,∃r∈RW,r.1=true∧r.2.2.2=(k.val:Int)+1:=by decide
def formedB (k:Int) (l:List Int):Bool:=decide ((l.length:Int)=manyE k) && l.all inB
theorem manyE_none {k:Int} (h: ¬(1≤k∧k≤6)):manyE k= -1:=by
 unfold manyE;rw [if_neg (by omega),if_neg (by omega),if_neg (by omega)]
theorem kind_some {k:Int} (h:1≤k∧k≤6): ∃r∈RW,r.1=true∧r.2.2.2=k:=by
 obtain ⟨r,h1,h2,h3⟩:=RW_has ⟨(k - 1).toNat,by omega⟩;exact ⟨r,h1,h2,by rw [h3];simp only;omega⟩
theorem row_get {i:Nat} (hi:i<16): ∃r,RW[i]? =some r∧(RW.map rowV)[i*1]? =some (rowV r):=by
 have:i<RW.length:=hi;refine ⟨RW[i],List.getElem?_eq_getElem this,?_⟩;rw [Nat.mul_one,List.getElem?_map,List.getElem?_eq_getElem this];rfl
theorem ft79s (xt:Addr→Option Value):(SE xt).ft.get 79=some Tryz.f79:=by kernel_rfl
theorem res79s:Tryz.f79.results.toList=[.tmp 4]:=by kernel_rfl
theorem bad_c (xt:Addr→Option Value) (h:Hp) (v:AV) (l:List Int) (o:RowAt xt h 1 v (l.map c1)) (h1:l.length≤1000) {K:CR→Hp→Prop} (hk: ∀n,h.n<n→K (.ret (.val (.bool (!(l.all inB))))) (h.up n)):FnA (SE xt) 79 [v,.val (.func (.func 80) #[] #[])] h K:=by
 refine FnA.calm ?_ hk;clear hk K;refine FnA.walk (sok xt) (ft79s xt) rfl 9 rfl ?_;refine seq_reg fun K hn hp=> ?_;simp only [sw.down,rE,reduceIte,rL,rA,rM,rD,svn.down,syw.down,aext0,aext1];refine hn _ _ ?_;clear hn hp K;refine seq_reg fun K hn hp=> ?_;simp only [sw.down,rE,reduceIte,rL,rA,rM,rD,svn.down,syw.down,aext0,aext1];refine callA_func (sok xt) ((idx_w xt h v l o h1).mono fun r h2 ⟨f2,i,hr,hi⟩=> ?_);subst hr;simp only [sw.down,rE,reduceIte,rL,rA,rM,rD,svn.down,syw.down,aext0,aext1,hi];refine hn _ _ (wpc_ret (end_1 res79s ⟨?_,f2⟩));simp [T.get_put]
theorem ft35s (xt:Addr→Option Value):(SE xt).ft.get 35=some Tryz.f35:=by kernel_rfl
theorem res35s:Tryz.f35.results.toList=[.tmp 2]:=by kernel_rfl
theorem formed_c (xt:Addr→Option Value) (h:Hp) (k:Int) (v:AV) (l:List Int) (o:RowAt xt h 1 v (l.map c1)) (hl:l.length≤1000) {K:CR→Hp→Prop} (hk: ∀n,h.n<n→K (.ret (.val (.bool (formedB k l)))) (h.up n)):FnA (SE xt) 35 [entA k v] h K:=by
 refine FnA.calm ?_ hk;clear hk K;refine FnA.walk (sok xt) (ft35s xt) rfl 40 rfl ?_;have hlen:=fun h'=>o.l23 h';have ov:=o.one;refine seq_reg fun K hn hp=> ?_;simp only [sw.down,rE,reduceIte,rL,rA,rM,rD,svn.down,syw.down,aext0,aext1,hlen,ov,ent_cells];refine hn _ _ ?_;clear hn hp K;obtain ⟨h1,hh1,n1,s1,k1,f1⟩:=newE h (.cells [iv k,v] 25);rw [←hh1];clear hh1;refine seq_seq ?_;refine seq_reg fun K hn hp=> ?_;simp only [sw.down,rE,reduceIte,rL,rA,rM,rD,svn.down,syw.down,aext0,aext1,hlen,ov,ent_cells];refine callA_func (sok xt) ((rows_c xt h1).mono fun r h2 ⟨hr,hh2⟩=> ?_);subst hr;have n2:h2.n=h1.n+1:=by rw [hh2];rfl
 have s2:h2.t.get h1.n=some (.cells (RW.map rowV) 76):=by rw [hh2];exact new_at _ _
 have f2:Fr h1.n h1 h2:=by rw [hh2];exact (Fr.refl (Nat.le_refl _)).new _
 have q2:h2.t.get h.n=some (.cells [iv k,v] 25):=by rw [f2.at_ _ (.inl (by omega))];exact s1
 have fr2:Fr h.n h h2:=f1.trans f2 (by omega);clear hh2;simp only [sw.down,rE,reduceIte,rL,rA,rM,rD,svn.down,syw.down,aext0,aext1,hlen,ov,ent_cells,len73];refine hn _ _ ?_;clear hn hp K;refine seq_block fun KA A1 A2 A3 A4 A5=> ?_;refine wpc_loop (sok xt) (fun st=> ∃(i:Nat) (hg:Hp) (tm:T AV),st=⟨tm,40,hg,[]⟩∧i≤16∧tm.get 1=some (.ptr h.n 0)∧tm.get 7=some (.sl h1.n 0 16 1)∧tm.get 8=some (iv 16)∧tm.get 9=some (iv i)∧Fr h2.n h2 hg∧ ∀j,j<i→ ∀r,RW[j]? =some r→r.1=true→r.2.2.2≠k) (fun st=>16 - (match st.tm.get 9 with|some (.val (.int _ n))=>n.toNat|_=>0)) ?_ ?_
 ·rintro st ⟨i,hg,tm,rfl,hkA,g1,g7,g8,g9,fg,hno⟩;have muA:=g9;have q:decide ((i:Int)<(16:Int))=decide (i<16):=lt_dec _ 16;refine seq_reg fun K hn hp=> ?_;simp only [sw.down,rE,reduceIte,rL,rA,rM,rD,svn.down,syw.down,aext0,aext1,hlen,ov,ent_cells,g1,g7,g8,g9,q];refine hn _ _ ?_;clear hn hp K;by_cases hlt:i<16
  ·refine seq_cond true (by simp only [sw.down,rE,reduceIte,rL,rA,rM,rD,svn.down,syw.down,aext0,aext1,hlen,ov,ent_cells,g1,g7,g8,g9,hlt]) (fun _=> ?_) (fun hx=>by cases hx);refine seq_skip ?_;refine wpc_block fun K2 e1 e2 e3 e4 e5=> ?_;obtain ⟨⟨e,nm,m,kd⟩,hr,hl2⟩:=row_get hlt;have i1:=ia73 h1.n i hlt;have g2:hg.t.get h1.n=some (.cells (RW.map rowV) 76):=by rw [fg.at_ _ (.inl (by omega))];exact s2
   have g3:hg.t.get h.n=some (.cells [iv k,v] 25):=by rw [fg.at_ _ (.inl (by omega))];exact q2
   have w1:=wrap_succ (k:=i) (n:=16) hlt (by omega);have hle:=fg.le;refine seq_reg fun K hn hp=> ?_;simp only [sw.down,rE,reduceIte,rL,rA,rM,rD,svn.down,syw.down,aext0,aext1,hlen,ov,ent_cells,g1,g7,g8,g9,i1,g2,hl2];refine hn _ _ ?_;clear hn hp K;cases e with
   |false=>
    refine seq_reg fun K hn hp=> ?_;simp only [sw.down,rE,reduceIte,rL,rA,rM,rD,svn.down,syw.down,aext0,aext1,hlen,ov,ent_cells,g1,g7,g8,g9,rowV_f,as106f,WOp_typeAssert,al106,zc106];refine hn _ _ ?_;clear hn hp K;obtain ⟨h3,hh3⟩: ∃h3:Hp,h3=(hg.new (.cells [sv [],iv 0,iv 0] 106)).set hg.n (.cells [sv [],iv 0,iv 0] 106):=⟨_,rfl⟩;have nh3:h3.n=hg.n+1:=by rw [hh3];rfl
    have sh3:h3.t.get hg.n=some (.cells [sv [],iv 0,iv 0] 106):=by rw [hh3,Hp.set_t,T.get_put,if_pos rfl]
    have kh3: ∀k,k<hg.n→h3.t.get k=hg.t.get k:=fun k hk=>by rw [hh3];exact newset_lt _ _ _ hk
    have fbh3:Fr hg.n hg h3:=by rw [hh3];exact newset_fr _ _ _
    have fh3:=fbh3;rw [←hh3];refine seq_reg fun K hn hp=> ?_;simp only [sw.down,rE,reduceIte,rL,rA,rM,rD,svn.down,syw.down,aext0,aext1,hlen,ov,ent_cells,g1,g7,g8,g9,sh3,nh3];refine hn _ _ ?_;clear hn hp K;refine wpc_cond false (by simp only [sw.down,rE,reduceIte,rL,rA,rM,rD,svn.down,syw.down,aext0,aext1,hlen,ov,ent_cells,g1,g7,g8,g9,sh3,nh3]) (fun hx=>by cases hx) (fun _=> ?_);refine wpc_skip (e1 _ ?_);refine reg fun K hn hp=> ?_;simp only [sw.down,rE,reduceIte,rL,rA,rM,rD,svn.down,syw.down,aext0,aext1,hlen,ov,ent_cells,g1,g7,g8,g9,sh3,nh3,w1];refine hn _ _ ?_;clear hn hp K;have hno2: ∀j,j<i+1→ ∀r,RW[j]? =some r→r.1=true→r.2.2.2≠k:=fun j hj r hr2 h2=>by
     by_cases hji:j=i
     ·subst hji;rw [hr] at hr2;cases hr2;cases h2
     ·exact hno j (by omega) r hr2 h2
    refine ⟨⟨i+1,h3,_,rfl,by omega,(by simp [T.get_put,g1,g7,g8,g9]),(by simp [T.get_put,g1,g7,g8,g9]),(by simp [T.get_put,g1,g7,g8,g9]),(by simp [T.get_put,g1,g7,g8,g9]),fg.trans fbh3 hle,hno2⟩,by simpa [T.get_put,muA] using (by omega:16 - (i+1)<16 - i)⟩
   |true=>
    refine seq_reg fun K hn hp=> ?_;simp only [sw.down,rE,reduceIte,rL,rA,rM,rD,svn.down,syw.down,aext0,aext1,hlen,ov,ent_cells,g1,g7,g8,g9,rowV_t,as106t,WOp_typeAssert,al106];refine hn _ _ ?_;clear hn hp K;obtain ⟨h3,hh3⟩: ∃h3:Hp,h3=(hg.new (.cells [sv [],iv 0,iv 0] 106)).set hg.n (.cells [sv nm,iv m,iv kd] 106):=⟨_,rfl⟩;have nh3:h3.n=hg.n+1:=by rw [hh3];rfl
    have sh3:h3.t.get hg.n=some (.cells [sv nm,iv m,iv kd] 106):=by rw [hh3,Hp.set_t,T.get_put,if_pos rfl]
    have kh3: ∀k,k<hg.n→h3.t.get k=hg.t.get k:=fun k hk=>by rw [hh3];exact newset_lt _ _ _ hk
    have fbh3:Fr hg.n hg h3:=by rw [hh3];exact newset_fr _ _ _
    have fh3:=fbh3;rw [←hh3];have g4:h3.t.get h.n=some (.cells [iv k,v] 25):=(kh3 _ (by omega)).trans g3;have f3:=fg.trans fbh3 hle;by_cases hkk:kd=k
    ·refine seq_reg fun K hn hp=> ?_;simp only [sw.down,rE,reduceIte,rL,rA,rM,rD,svn.down,syw.down,aext0,aext1,hlen,ov,ent_cells,g1,g7,g8,g9,sh3,nh3,g4,decide_eq_true hkk];refine hn _ _ ?_;clear hn hp K;refine wpc_cond true (by simp only [sw.down,rE,reduceIte,rL,rA,rM,rD,svn.down,syw.down,aext0,aext1,hlen,ov,ent_cells,g1,g7,g8,g9,sh3,nh3]) (fun _=> ?_) (fun hx=>by cases hx);have hmk:m=manyE k:=by
      rw [←hkk];exact RW_many _ (List.mem_of_getElem? hr) rfl
     refine seq_regD (sok xt) 14 (by kernel_rfl) fun K hn hp=> ?_;simp only [sw.down,rE,reduceIte,rL,rA,rM,rD,svn.down,syw.down,aext0,aext1,hlen,ov,ent_cells,g1,g7,g8,g9,sh3,nh3,g4];refine callA_func (sok xt) (many_c xt _ nm m fun n4 hn4=> ?_);simp only [sw.down,rE,reduceIte,rL,rA,rM,rD,svn.down,syw.down,aext0,aext1,hlen,ov,ent_cells,g1,g7,g8,g9,sh3,nh3,Bool.false_eq_true,WOCn_t hn4];by_cases hlm:(l.length:Int)=m
     ·have o3:RowAt xt (h3.up n4) 1 v (l.map c1):=(o.fr (fr2.trans f3 (by omega)) (Nat.le_refl _)).up (by omega);simp only [sw.down,rE,reduceIte,rL,rA,rM,rD,svn.down,syw.down,aext0,aext1,hlen,ov,ent_cells,g1,g7,g8,g9,sh3,nh3,Bool.false_eq_true,decide_eq_true hlm,g4];refine callA_func (sok xt) (bad_c xt _ v l o3 hl fun n5 hn5=> ?_);simp only [sw.down,rE,reduceIte,rL,rA,rM,rD,svn.down,syw.down,aext0,aext1,hlen,ov,ent_cells,g1,g7,g8,g9,sh3,nh3,Bool.false_eq_true,WOCn_t hn5,Bool.not_not];rw [Hp.up_n] at hn5;simp only [sw.down,rE,reduceIte,rL,rA,rM,rD,svn.down,syw.down,aext0,aext1,hlen,ov,ent_cells,g1,g7,g8,g9,sh3,nh3,Hp.up_up];have f5:Fr h.n h (h3.up n5):=(fr2.trans f3 (by omega)).up (by omega);refine hn _ _ (wpc_ret (e4 _ (A4 _ (end_1 res35s ⟨?_,f5⟩))));rw [formedB,←hmk,decide_eq_true hlm];simp [T.get_put]
     ·simp only [sw.down,rE,reduceIte,rL,rA,rM,rD,svn.down,syw.down,aext0,aext1,hlen,ov,ent_cells,g1,g7,g8,g9,sh3,nh3,Bool.false_eq_true,decide_eq_false hlm];refine hn _ _ (wpc_ret (e4 _ (A4 _ (end_1 res35s ⟨?_,(fr2.trans f3 (by omega)).up (by omega)⟩))));rw [formedB,←hmk,decide_eq_false hlm];simp [T.get_put]
    ·refine seq_reg fun K hn hp=> ?_;simp only [sw.down,rE,reduceIte,rL,rA,rM,rD,svn.down,syw.down,aext0,aext1,hlen,ov,ent_cells,g1,g7,g8,g9,sh3,nh3,g4,decide_eq_false hkk];refine hn _ _ ?_;clear hn hp K;refine wpc_cond false (by simp only [sw.down,rE,reduceIte,rL,rA,rM,rD,svn.down,syw.down,aext0,aext1,hlen,ov,ent_cells,g1,g7,g8,g9,sh3,nh3]) (fun hx=>by cases hx) (fun _=> ?_);refine wpc_skip (e1 _ ?_);refine reg fun K hn hp=> ?_;simp only [sw.down,rE,reduceIte,rL,rA,rM,rD,svn.down,syw.down,aext0,aext1,hlen,ov,ent_cells,g1,g7,g8,g9,sh3,nh3,w1];refine hn _ _ ?_;clear hn hp K;have hno2: ∀j,j<i+1→ ∀r,RW[j]? =some r→r.1=true→r.2.2.2≠k:=fun j hj r hr2 h2=>by
      by_cases hji:j=i
      ·subst hji;rw [hr] at hr2;cases hr2;exact hkk
      ·exact hno j (by omega) r hr2 h2
     refine ⟨⟨i+1,h3,_,rfl,by omega,(by simp [T.get_put,g1,g7,g8,g9]),(by simp [T.get_put,g1,g7,g8,g9]),(by simp [T.get_put,g1,g7,g8,g9]),(by simp [T.get_put,g1,g7,g8,g9]),f3,hno2⟩,by simpa [T.get_put,muA] using (by omega:16 - (i+1)<16 - i)⟩
  ·refine seq_cond false (by simp only [sw.down,rE,reduceIte,rL,rA,rM,rD,svn.down,syw.down,aext0,aext1,hlen,ov,ent_cells,g1,g7,g8,g9,hlt]) (fun hx=>by cases hx) (fun _=> ?_);refine seq_exit (A2 _ ?_);refine seq_reg fun K hn hp=> ?_;simp only [sw.down,rE,reduceIte,rL,rA,rM,rD,svn.down,syw.down,aext0,aext1,hlen,ov,ent_cells,g1,g7,g8,g9];refine hn _ _ ?_;clear hn hp K;refine wpc_ret (end_1 res35s ⟨?_,fr2.trans fg (by omega)⟩);have: ¬(1≤k∧k≤6):=fun hk=>by
    obtain ⟨r,hr,h2,h3⟩:=kind_some hk;obtain ⟨j,hj,rfl⟩:=List.getElem_of_mem hr;exact hno j (by have:RW.length=16:=rfl;omega) _ (List.getElem?_eq_getElem hj) h2 h3
   have:formedB k l=false:=by
    rw [formedB,manyE_none this,decide_eq_false (by omega)];rfl
   rw [this];simp [T.get_put]
 ·exact ⟨0,h2,_,rfl,by omega,by simp [T.get_put,argsTo],by simp [T.get_put,argsTo],by simp [T.get_put],by simp [T.get_put],Fr.refl (Nat.le_refl _),fun j hj=>by omega⟩
end Go.Proofs.Kn
namespace Go.Proofs.Kn
open Go Go.Ev
set_option maxRecDepth 100000
set_option maxHeartbeats 4000000
def nmF (k:Int) (a:List UInt8) (r:RWt):List UInt8:=bif r.1 && decide (r.2.2.2=k) then r.2.1 else a
def nameN (k:Int) (i:Nat):List UInt8:=(RW.take i).foldl (nmF k) []
def nameE (k:Int):List UInt8:=nameN k 16
theorem nm_len (k:Int): ∀(L:List RWt) (a:List UInt8),(∀r∈L,r.2.1.length≤6)→a.length≤6→(L.foldl (nmF k) a).length≤6
 |[],a,_,h=>h
 |r::L,a,hL,h=>by
  rw [List.foldl_cons];refine nm_len k L _ (fun r hr=>hL r (List.mem_cons_of_mem _ hr)) ?_;unfold nmF;cases r.1 && decide (r.2.2.2=k)
  ·exact h
  ·exact hL r List.mem_cons_self
theorem RW_short: ∀r∈RW,r.2.1.length≤6:=by decide
theorem nameE_len (k:Int):(nameE k).length≤6:=nm_len k _ _ (fun r hr=>RW_short r (List.mem_of_mem_take hr)) (by simp)
theorem nameN_succ (k:Int) {i:Nat} {r:RWt} (hr:RW[i]? =some r):nameN k (i+1)=nmF k (nameN k i) r:=by
 rw [nameN,List.take_succ,hr,List.foldl_append];rfl
def lineB (k:Int) (l:List Int):List UInt8:=nameE k++[32]++digL l
theorem ft33s (xt:Addr→Option Value):(SE xt).ft.get 33=some Tryz.f33:=by kernel_rfl
theorem res33s:Tryz.f33.results.toList=[.tmp 2]:=by kernel_rfl
theorem line_c (xt:Addr→Option Value) (hx:Lx xt) (h:Hp) (k:Int) (v:AV) (l:List Int) (o:RowAt xt h 1 v (l.map c1)) (h0:0<l.length) (hl:l.length≤1000) (hn4: ∀x∈l,num4 x) {K:CR→Hp→Prop} (hk: ∀n,h.n<n→K (.ret (sv (lineB k l))) (h.up n)):FnA (SE xt) 33 [entA k v] h K:=by
 refine FnA.calm ?_ hk;clear hk K;refine FnA.walk (sok xt) (ft33s xt) rfl 32 rfl ?_;have hlen:=fun h'=>o.l23 h';have ov:=o.one;refine seq_reg fun K hn hp=> ?_;simp only [sw.down,rE,reduceIte,rL,rA,rM,rD,svn.down,syw.down,aext0,aext1,hlen,ov,ent_cells];refine hn _ _ ?_;clear hn hp K;obtain ⟨h1,hh1,n1,s1,k1,f1⟩:=newE h (.cells [iv k,v] 25);rw [←hh1];clear hh1;refine seq_reg fun K hn hp=> ?_;simp only [sw.down,rE,reduceIte,rL,rA,rM,rD,svn.down,syw.down,aext0,aext1,hlen,ov,ent_cells];refine hn _ _ ?_;clear hn hp K;refine seq_seq ?_;refine seq_reg fun K hn hp=> ?_;simp only [sw.down,rE,reduceIte,rL,rA,rM,rD,svn.down,syw.down,aext0,aext1,hlen,ov,ent_cells];refine callA_func (sok xt) ((rows_c xt h1).mono fun r h2 ⟨hr,hh2⟩=> ?_);subst hr;have n2:h2.n=h1.n+1:=by rw [hh2];rfl
 have s2:h2.t.get h1.n=some (.cells (RW.map rowV) 76):=by rw [hh2];exact new_at _ _
 have f2:Fr h1.n h1 h2:=by rw [hh2];exact (Fr.refl (Nat.le_refl _)).new _
 have q2:h2.t.get h.n=some (.cells [iv k,v] 25):=by rw [f2.at_ _ (.inl (by omega))];exact s1
 have fr2:Fr h.n h h2:=f1.trans f2 (by omega);clear hh2;simp only [sw.down,rE,reduceIte,rL,rA,rM,rD,svn.down,syw.down,aext0,aext1,hlen,ov,ent_cells,len73];refine hn _ _ ?_;clear hn hp K;refine seq_block fun KA A1 A2 A3 A4 A5=> ?_;refine wpc_loop (sok xt) (fun st=> ∃(i:Nat) (hg:Hp) (tm:T AV),st=⟨tm,32,hg,[]⟩∧i≤16∧tm.get 1=some (.ptr h.n 0)∧tm.get 3=some (sv (nameN k i))∧tm.get 7=some (.sl h1.n 0 16 1)∧tm.get 8=some (iv 16)∧tm.get 9=some (iv i)∧Fr h2.n h2 hg) (fun st=>16 - (match st.tm.get 9 with|some (.val (.int _ n))=>n.toNat|_=>0)) ?_ ?_
 ·rintro st ⟨i,hg,tm,rfl,hkA,g1,g3,g7,g8,g9,fg⟩;have muA:=g9;have q:decide ((i:Int)<(16:Int))=decide (i<16):=lt_dec _ 16;refine seq_reg fun K hn hp=> ?_;simp only [sw.down,rE,reduceIte,rL,rA,rM,rD,svn.down,syw.down,aext0,aext1,hlen,ov,ent_cells,g1,g3,g7,g8,g9,q];refine hn _ _ ?_;clear hn hp K;by_cases hlt:i<16
  ·refine seq_cond true (by simp only [sw.down,rE,reduceIte,rL,rA,rM,rD,svn.down,syw.down,aext0,aext1,hlen,ov,ent_cells,g1,g3,g7,g8,g9,hlt]) (fun _=> ?_) (fun hx=>by cases hx);refine seq_skip ?_;refine wpc_block fun K2 e1 e2 e3 e4 e5=> ?_;obtain ⟨⟨e,nm,m,kd⟩,hr,hl2⟩:=row_get hlt;have i1:=ia73 h1.n i hlt;have g2':hg.t.get h1.n=some (.cells (RW.map rowV) 76):=by rw [fg.at_ _ (.inl (by omega))];exact s2
   have g3':hg.t.get h.n=some (.cells [iv k,v] 25):=by rw [fg.at_ _ (.inl (by omega))];exact q2
   have w1:=wrap_succ (k:=i) (n:=16) hlt (by omega);have hle:=fg.le;have hns:=nameN_succ k hr;refine seq_reg fun K hn hp=> ?_;simp only [sw.down,rE,reduceIte,rL,rA,rM,rD,svn.down,syw.down,aext0,aext1,hlen,ov,ent_cells,g1,g3,g7,g8,g9,i1,g2',hl2];refine hn _ _ ?_;clear hn hp K;cases e with
   |false=>
    have hns:nameN k (i+1)=nameN k i:=by rw [hns];rfl
    rw [←hns] at g3;refine seq_reg fun K hn hp=> ?_;simp only [sw.down,rE,reduceIte,rL,rA,rM,rD,svn.down,syw.down,aext0,aext1,hlen,ov,ent_cells,g1,g3,g7,g8,g9,rowV_f];refine hn _ _ ?_;clear hn hp K;refine wpc_block fun K3 d1 d2 d3 d4 d5=> ?_;refine seq_reg fun K hn hp=> ?_;simp only [sw.down,rE,reduceIte,rL,rA,rM,rD,svn.down,syw.down,aext0,aext1,hlen,ov,ent_cells,g1,g3,g7,g8,g9,as106f,WOp_typeAssert];refine hn _ _ ?_;clear hn hp K;refine wpc_cond false (by simp only [sw.down,rE,reduceIte,rL,rA,rM,rD,svn.down,syw.down,aext0,aext1,hlen,ov,ent_cells,g1,g3,g7,g8,g9]) (fun hx=>by cases hx) (fun _=> ?_);refine wpc_skip (d1 _ (e1 _ ?_));refine reg fun K hn hp=> ?_;simp only [sw.down,rE,reduceIte,rL,rA,rM,rD,svn.down,syw.down,aext0,aext1,hlen,ov,ent_cells,g1,g3,g7,g8,g9,w1];refine hn _ _ ?_;clear hn hp K;refine ⟨⟨i+1,hg,_,rfl,by omega,(by simp [T.get_put,g1,g3,g7,g8,g9]),(by simp [T.get_put,g1,g3,g7,g8,g9]),(by simp [T.get_put,g1,g3,g7,g8,g9]),(by simp [T.get_put,g1,g3,g7,g8,g9]),(by simp [T.get_put,g1,g3,g7,g8,g9]),fg⟩,by simpa [T.get_put,muA] using (by omega:16 - (i+1)<16 - i)⟩
   |true=>
    refine seq_reg fun K hn hp=> ?_;simp only [sw.down,rE,reduceIte,rL,rA,rM,rD,svn.down,syw.down,aext0,aext1,hlen,ov,ent_cells,g1,g3,g7,g8,g9,rowV_t];refine hn _ _ ?_;clear hn hp K;refine wpc_block fun K3 d1 d2 d3 d4 d5=> ?_;refine seq_reg fun K hn hp=> ?_;simp only [sw.down,rE,reduceIte,rL,rA,rM,rD,svn.down,syw.down,aext0,aext1,hlen,ov,ent_cells,g1,g3,g7,g8,g9,as106t,WOp_typeAssert];refine hn _ _ ?_;clear hn hp K;refine wpc_cond true (by simp only [sw.down,rE,reduceIte,rL,rA,rM,rD,svn.down,syw.down,aext0,aext1,hlen,ov,ent_cells,g1,g3,g7,g8,g9]) (fun _=> ?_) (fun hx=>by cases hx);refine seq_reg fun K hn hp=> ?_;simp only [sw.down,rE,reduceIte,rL,rA,rM,rD,svn.down,syw.down,aext0,aext1,hlen,ov,ent_cells,g1,g3,g7,g8,g9,al106];refine hn _ _ ?_;clear hn hp K;obtain ⟨h3,hh3⟩: ∃h3:Hp,h3=(hg.new (.cells [sv [],iv 0,iv 0] 106)).set hg.n (.cells [sv nm,iv m,iv kd] 106):=⟨_,rfl⟩;have nh3:h3.n=hg.n+1:=by rw [hh3];rfl
    have sh3:h3.t.get hg.n=some (.cells [sv nm,iv m,iv kd] 106):=by rw [hh3,Hp.set_t,T.get_put,if_pos rfl]
    have kh3: ∀k,k<hg.n→h3.t.get k=hg.t.get k:=fun k hk=>by rw [hh3];exact newset_lt _ _ _ hk
    have fbh3:Fr hg.n hg h3:=by rw [hh3];exact newset_fr _ _ _
    have fh3:=fbh3;rw [←hh3];have g4:h3.t.get h.n=some (.cells [iv k,v] 25):=(kh3 _ (by omega)).trans g3';have f3:=fg.trans fbh3 hle;by_cases hkk:kd=k
    ·have hns:nameN k (i+1)=nm:=by rw [hns];simp [nmF,hkk]
     refine seq_reg fun K hn hp=> ?_;simp only [sw.down,rE,reduceIte,rL,rA,rM,rD,svn.down,syw.down,aext0,aext1,hlen,ov,ent_cells,g1,g3,g7,g8,g9,sh3,nh3,g4,decide_eq_true hkk];refine hn _ _ ?_;clear hn hp K;refine wpc_cond true (by simp only [sw.down,rE,reduceIte,rL,rA,rM,rD,svn.down,syw.down,aext0,aext1,hlen,ov,ent_cells,g1,g3,g7,g8,g9,sh3,nh3]) (fun _=> ?_) (fun hx=>by cases hx);refine reg fun K hn hp=> ?_;simp only [sw.down,rE,reduceIte,rL,rA,rM,rD,svn.down,syw.down,aext0,aext1,hlen,ov,ent_cells,g1,g3,g7,g8,g9,sh3,nh3];refine callA_func (sok xt) (word_c xt _ nm m fun n4 hn4=> ?_);simp only [sw.down,rE,reduceIte,rL,rA,rM,rD,svn.down,syw.down,aext0,aext1,hlen,ov,ent_cells,g1,g3,g7,g8,g9,sh3,nh3];refine hn _ _ (d1 _ (e1 _ ?_));clear hn hp K;have f4:Fr h2.n h2 (h3.up n4):=f3.up (by omega);refine reg fun K hn hp=> ?_;simp only [sw.down,rE,reduceIte,rL,rA,rM,rD,svn.down,syw.down,aext0,aext1,hlen,ov,ent_cells,g1,g3,g7,g8,g9,sh3,nh3,w1];refine hn _ _ ?_;clear hn hp K;rw [←hns];refine ⟨⟨i+1,h3.up n4,_,rfl,by omega,(by simp [T.get_put,g1,g3,g7,g8,g9]),(by simp [T.get_put,g1,g3,g7,g8,g9]),(by simp [T.get_put,g1,g3,g7,g8,g9]),(by simp [T.get_put,g1,g3,g7,g8,g9]),(by simp [T.get_put,g1,g3,g7,g8,g9]),f4⟩,by simpa [T.get_put,muA] using (by omega:16 - (i+1)<16 - i)⟩
    ·have hns:nameN k (i+1)=nameN k i:=by rw [hns];simp [nmF,hkk]
     rw [←hns] at g3;refine seq_reg fun K hn hp=> ?_;simp only [sw.down,rE,reduceIte,rL,rA,rM,rD,svn.down,syw.down,aext0,aext1,hlen,ov,ent_cells,g1,g3,g7,g8,g9,sh3,nh3,g4,decide_eq_false hkk];refine hn _ _ ?_;clear hn hp K;refine wpc_cond false (by simp only [sw.down,rE,reduceIte,rL,rA,rM,rD,svn.down,syw.down,aext0,aext1,hlen,ov,ent_cells,g1,g3,g7,g8,g9,sh3,nh3]) (fun hx=>by cases hx) (fun _=> ?_);refine wpc_skip (d1 _ (e1 _ ?_));refine reg fun K hn hp=> ?_;simp only [sw.down,rE,reduceIte,rL,rA,rM,rD,svn.down,syw.down,aext0,aext1,hlen,ov,ent_cells,g1,g3,g7,g8,g9,sh3,nh3,w1];refine hn _ _ ?_;clear hn hp K;refine ⟨⟨i+1,h3,_,rfl,by omega,(by simp [T.get_put,g1,g3,g7,g8,g9]),(by simp [T.get_put,g1,g3,g7,g8,g9]),(by simp [T.get_put,g1,g3,g7,g8,g9]),(by simp [T.get_put,g1,g3,g7,g8,g9]),(by simp [T.get_put,g1,g3,g7,g8,g9]),f3⟩,by simpa [T.get_put,muA] using (by omega:16 - (i+1)<16 - i)⟩
  ·refine seq_cond false (by simp only [sw.down,rE,reduceIte,rL,rA,rM,rD,svn.down,syw.down,aext0,aext1,hlen,ov,ent_cells,g1,g3,g7,g8,g9,hlt]) (fun hx=>by cases hx) (fun _=> ?_);refine seq_exit (A2 _ ?_);have hi:i=16:=by omega
   subst hi;have g3':hg.t.get h.n=some (.cells [iv k,v] 25):=by rw [fg.at_ _ (.inl (by omega))];exact q2
   have e3:nameN k 16=nameE k:=rfl;rw [e3] at g3;have fin:=fr2.trans fg (by omega);have o3:=o.fr fin (Nat.le_refl _);have hnl:=nameE_len k;have hdl:=dig_len l;obtain ⟨W,hW⟩: ∃W,W=nameE k++[32]:=⟨_,rfl⟩;have hWl:W.length≤7:=by rw [hW];simp;omega
   have c1': ∀(ox oy:Operand),abin Tryz.prog tb .add 9 ox oy (sv (nameE k)) (sv [32])=some (sv W):=fun ox oy=>by rw [hW];exact abin_cat _ _ (by simp;omega)
   have c2': ∀(ox oy:Operand),abin Tryz.prog tb .add 9 ox oy (sv W) (sv (digL l))=some (sv (lineB k l)):=fun ox oy=>by rw [lineB,←hW];exact abin_cat _ _ (by omega)
   refine seq_reg fun K hn hp=> ?_;simp only [sw.down,rE,reduceIte,rL,rA,rM,rD,svn.down,syw.down,aext0,aext1,hlen,ov,ent_cells,g1,g3,g7,g8,g9,c1',g3'];refine callA_func (sok xt) (joined_c xt hx _ v l o3 h0 hl hn4 fun n4 hn5=> ?_);simp only [sw.down,rE,reduceIte,rL,rA,rM,rD,svn.down,syw.down,aext0,aext1,hlen,ov,ent_cells,g1,g3,g7,g8,g9,c2'];refine hn _ _ (wpc_ret (end_1 res33s ⟨?_,fin.up (by omega)⟩));simp [T.get_put]
 ·exact ⟨0,h2,_,rfl,by omega,by simp [T.get_put,argsTo],by simp [T.get_put,argsTo,nameN],by simp [T.get_put],by simp [T.get_put],by simp [T.get_put],Fr.refl (Nat.le_refl _)⟩
end Go.Proofs.Kn
namespace Go.Proofs.Kn
open Go Go.Ev
set_option maxRecDepth 100000
set_option maxHeartbeats 4000000
theorem inB_num {x:Int}:inB x=true↔num4 x:=by
 simp only [inB,num4,Bool.and_eq_true,decide_eq_true_eq];omega
theorem manyE_le (k:Int):manyE k≤3:=by unfold manyE;split;omega;split;omega;split<;>omega
theorem formed_is {k:Int} {l:List Int} (h:formedB k l=true):1≤k∧k≤6∧0<l.length∧l.length≤3∧(l.length:Int)=manyE k∧ ∀x∈l,num4 x:=by
 rw [formedB,Bool.and_eq_true,decide_eq_true_eq,List.all_eq_true] at h;have hm:=manyE_le k;have h1:1≤k∧k≤6:=by
  by_cases q:1≤k∧k≤6
  ·exact q
  ·have:=manyE_none q;omega
 have h2:0<manyE k:=by
  unfold manyE;split
  ·omega
  ·split
   ·omega
   ·split
    ·omega
    ·omega
 refine ⟨h1.1,h1.2,by omega,by omega,h.1,fun x hx=>inB_num.1 (h.2 x hx)⟩
theorem ft10s (xt:Addr→Option Value):(SE xt).ft.get 10=some Tryz.f10:=by kernel_rfl
theorem res10s:Tryz.f10.results.toList=[.tmp 2,.tmp 3]:=by kernel_rfl
def writeR (k:Int) (l:List Int):AV:=bif formedB k l then .tup [sv (lineB k l),iv 0] else .tup [sv [],iv 2]
theorem write_c (xt:Addr→Option Value) (hx:Lx xt) (h:Hp) (k:Int) (v:AV) (l:List Int) (o:RowAt xt h 1 v (l.map c1)) (hl:l.length≤1000) {K:CR→Hp→Prop} (hk: ∀n,h.n<n→K (.ret (writeR k l)) (h.up n)):FnA (SE xt) 10 [entA k v] h K:=by
 refine FnA.calm ?_ hk;clear hk K;refine FnA.walk (sok xt) (ft10s xt) rfl 9 rfl ?_;have ov:=o.one;refine seq_reg fun K hn hp=> ?_;simp only [sw.down,rE,reduceIte,rL,rA,rM,rD,svn.down,syw.down,aext0,aext1,ov,ent_cells];refine hn _ _ ?_;clear hn hp K;obtain ⟨h1,hh1,n1,s1,k1,f1⟩:=newE h (.cells [iv k,v] 25);rw [←hh1];clear hh1;have o1:=o.fr f1 (Nat.le_refl _);have le2:(2≤([iv k,v]:List AV).length)=True:=by simp
 have tk:AV.agg (List.take 2 [iv k,v])=entA k v:=rfl;refine seq_seq ?_;refine seq_reg fun K hn hp=> ?_;simp only [sw.down,rE,reduceIte,rL,rA,rM,rD,svn.down,syw.down,aext0,aext1,ov,ent_cells,s1,le2];refine callA_func (sok xt) (formed_c xt _ k v l o1 hl fun n2 hn2=> ?_);simp only [sw.down,rE,reduceIte,rL,rA,rM,rD,svn.down,syw.down,aext0,aext1,ov,ent_cells];refine hn _ _ ?_;clear hn hp K;cases hf:formedB k l with
 |false=>
  refine seq_cond true (by simp only [sw.down,rE,reduceIte,rL,rA,rM,rD,svn.down,syw.down,aext0,aext1,ov,ent_cells,Bool.not_false]) (fun _=> ?_) (fun hx=>by cases hx);refine seq_seq ?_;refine seq_reg fun K hn hp=> ?_;simp only [sw.down,rE,reduceIte,rL,rA,rM,rD,svn.down,syw.down,aext0,aext1,ov,ent_cells];refine hn _ _ ?_;clear hn hp K;refine seq_ret (end_2 res10s ⟨?_,f1.up (by omega)⟩);simp [T.get_put,writeR,hf]
 |true=>
  obtain ⟨q1,q2,q3,q4,q5,q6⟩:=formed_is hf;refine seq_cond false (by simp only [sw.down,rE,reduceIte,rL,rA,rM,rD,svn.down,syw.down,aext0,aext1,ov,ent_cells,Bool.not_true]) (fun hx=>by cases hx) (fun _=> ?_);refine seq_skip ?_;refine seq_reg fun K hn hp=> ?_;simp only [sw.down,rE,reduceIte,rL,rA,rM,rD,svn.down,syw.down,aext0,aext1,ov,ent_cells,s1,le2];refine callA_func (sok xt) (line_c xt hx _ k v l (o1.up (by omega)) q3 hl q6 fun n3 hn3=> ?_);rw [Hp.up_n] at hn3;simp only [sw.down,rE,reduceIte,rL,rA,rM,rD,svn.down,syw.down,aext0,aext1,ov,ent_cells,Hp.up_up];refine hn _ _ (wpc_ret (end_2 res10s ⟨?_,f1.up (by omega)⟩));simp [T.get_put,writeR,hf]
theorem via_a {E:Env} (hP:E.P=Tryz.prog) {f t:Nat} {name:String} {x y z:AV} {h:Hp} {K:CR→Hp→Prop}
  (h1: ∀(x y z:Value) (w:World),(invoke (.fn (.method name) #[]) #[.iface t (.agg #[x,y,z])]).run Tryz.prog w= .ok (.enter f #[.agg #[x,y]]) w)
  (h2: ∀(x y:Value) (w:World),(invoke (.fn (.func f) #[]) #[.agg #[x,y]]).run Tryz.prog w= .ok (.enter f #[.agg #[x,y]]) w)
  (hc:CallA E (.val (.func (.func f) #[] #[])) [.agg [x,y]] h K):CallA E (.val (.func (.method name) #[] #[])) [.ifc t (.agg [x,y,z])] h K:=by
 obtain ⟨res,h',hs,hk⟩:=hc;refine ⟨res,h',?_,hk⟩;have hso:=pcall_ok hs;rw [hP] at hso;refine ⟨hs.1,fun lim hl=> ?_⟩;rw [hP];exact (via_ok hso h1 h2 (pcall_at _ _ _ _ _)).2 lim hl
theorem word_m (xt:Addr→Option Value) (h:Hp) (r:RWt) {K:CR→Hp→Prop} (hk: ∀n,h.n<n→K (.ret (sv r.2.1)) (h.up n)):CallA (SE xt) (.val (.func (.method "nacre/foreman.word") #[] #[])) [rowV r] h K:=by
 obtain ⟨e,nm,m,kd⟩:=r;cases e with
 |true=>exact via_a rfl m_word106 c_word (callA_func (sok xt) (word_c xt h nm m hk))
 |false=>exact via_a rfl m_word80 c_word (callA_func (sok xt) (word_c xt h nm m hk))
theorem many_m (xt:Addr→Option Value) (h:Hp) (r:RWt) {K:CR→Hp→Prop} (hk: ∀n,h.n<n→K (.ret (iv r.2.2.1)) (h.up n)):CallA (SE xt) (.val (.func (.method "nacre/foreman.many") #[] #[])) [rowV r] h K:=by
 obtain ⟨e,nm,m,kd⟩:=r;cases e with
 |true=>exact via_a rfl m_many106 c_many (callA_func (sok xt) (many_c xt h nm m hk))
 |false=>exact via_a rfl m_many80 c_many (callA_func (sok xt) (many_c xt h nm m hk))
end Go.Proofs.Kn
