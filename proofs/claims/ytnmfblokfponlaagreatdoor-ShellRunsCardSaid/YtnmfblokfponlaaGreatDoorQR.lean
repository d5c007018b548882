/- MvH8, SyEq, MvH9, MvI1: texts in a row, joined by a program. -/
import Derived.Test.YtnmfblokfponlaaGreatDoorQQ
import Derived.Test.YtnmfblokfponlaaGreatDoorQD
set_option linter.all false
open Nat renaming reduceEqDiff → rE, reduceLeDiff → rD, reduceAdd → rA, reduceMul → rM, reduceLT → rL
namespace Go.Proofs.Kn
open Go Go.Ev
set_option maxRecDepth 100000
set_option maxHeartbeats 4000000
theorem ft36 (xt:Addr→Option Value):(SE xt).ft.get 36=some Tryz.f36:=by kernel_rfl
theorem res36:Tryz.f36.results.toList=[.tmp 4]:=by kernel_rfl
def endOf (hi:Bool) (x:Int×Int):Int:=if hi then x.2 else x.1
def endL (hi:Bool) (F:Nat→Nat→Int×Int) (R C:Nat):List (List Int):=(List.range R).map fun r=>(List.range C).map fun c=>endOf hi (F r c)
theorem bs75 (h:Hp) (n:Int):aoBuildSlice tb h 75 1 [(0,iv n)]=some (.sl h.n 0 1 1,h.new (.cells [iv n] 3)):=by kernel_rfl
theorem bs69 (h:Hp) (v:AV) (hv:cellsOf v=[v]):aoBuildSlice tb h 69 1 [(0,v)]=some (.sl h.n 0 1 1,h.new (.cells [v] 75)):=bs_of (sz:=1) (zs:=[.slice none 0 0]) tg69 rfl tg75 rfl rfl (by omega) (by omega) (by
 simp only [fillA,hv];rfl)
def ivs (l:List Int):List AV:=l.map fun x=>iv x
theorem ivs_row (l:List Int):ivs l=((l.map Kn.c1).flatten).map .val:=by
 induction l with
 |nil=>rfl
 |cons x l ih=>simp only [ivs,List.map_cons] at ih ⊢;rw [ih];rfl
theorem own_row {xt:Addr→Option Value} {h:Hp} {N:Nat} {v:AV} {l:List Int} (o:OwnSl h N 1 3 v l.length (ivs l)):RowAt xt h 1 v (l.map Kn.c1):=by
 rw [ivs_row] at o;exact OwnSl.row (N:=N) (e:=3) (fun c hc=>by obtain ⟨x,_,rfl⟩:=List.mem_map.1 hc;rfl) (by omega) (by rw [List.length_map];exact o)
theorem ends_c (xt:Addr→Option Value) (h:Hp) (N M R C:Nat) (v:AV) (F:Nat→Nat→Int×Int) (hs:SG h N M v R C F) (hM:M≤h.n) (hR:R≤100) (hC:C≤100) (b:Bool):
  FnA (SE xt) 36 [v,.val (.bool b)] h (fun res h'=> ∃w,res= .ret w∧Fr h.n h h'∧LRows xt h' h.n 1 75 w ((endL b F R C).map fun l=>l.map Kn.c1)):=by
 refine FnA.walk (sok xt) (ft36 xt) rfl 51 rfl ?_;have hlen:=hs.len;refine seq_reg fun K hn hp=> ?_;simp only [sw.down,rE,reduceIte,rL,rA,rM,rD,sv.down,hlen,lt_dec];refine hn _ _ ?_;clear hn hp K;refine seq_reg fun K hn hp=> ?_;simp only [sw.down,rE,reduceIte,rL,rA,rM,rD,sv.down,hlen,lt_dec];refine hn _ _ ?_;clear hn hp K;refine seq_seq ?_;refine seq_reg fun K hn hp=> ?_;simp only [sw.down,rE,reduceIte,rL,rA,rM,rD,sv.down,hlen,lt_dec];refine hn _ _ ?_;clear hn hp K;refine seq_block fun KA A1 A2 A3 A4 A5=> ?_;refine wpc_loop (sok xt) (fun st=> ∃(i:Nat) (w:AV) (hc:Hp) (tm:T AV),st=⟨tm,51,hc,[]⟩∧i≤R∧tm.get 0=some (v)∧tm.get 1=some (.val (.bool b))∧tm.get 5=some (w)∧tm.get 6=some (iv i)∧Fr h.n h hc∧LRows xt hc h.n 1 75 w (((endL b F R C).take i).map fun l=>l.map Kn.c1)) (fun st=>R - (match st.tm.get 6 with|some (.val (.int _ n))=>n.toNat|_=>0)) ?_ ?_
 ·rintro st ⟨i,w,hc,tm,rfl,hkA,g0,g1,g5,g6,fc,rows⟩;have muA:=g6;refine seq_seq ?_;refine seq_reg fun K hn hp=> ?_;simp only [sw.down,rE,reduceIte,rL,rA,rM,rD,sv.down,hlen,lt_dec,g0,g1,g5,g6];refine hn _ _ ?_;clear hn hp K;by_cases hi:i<R
  ·refine seq_cond true (by simp only [sw.down,rE,reduceIte,rL,rA,rM,rD,sv.down,hlen,lt_dec,g0,g1,g5,g6,hi]) (fun _=> ?_) (fun hx=>by cases hx);refine seq_skip ?_;refine seq_block fun KB B1 B2 B3 B4 B5=> ?_;refine seq_reg fun K hn hp=> ?_;simp only [sw.down,rE,reduceIte,rL,rA,rM,rD,sv.down,hlen,lt_dec,g0,g1,g5,g6];refine hn _ _ ?_;clear hn hp K;refine seq_seq ?_;refine seq_reg fun K hn hp=> ?_;simp only [sw.down,rE,reduceIte,rL,rA,rM,rD,sv.down,hlen,lt_dec,g0,g1,g5,g6];refine hn _ _ ?_;clear hn hp K;obtain ⟨l,hl⟩: ∃l,l=(List.range C).map fun c=>endOf b (F i c):=⟨_,rfl⟩;have hll:l.length=C:=by rw [hl];simp
   have hlc: ∀c,c<C→l[c]? =some (endOf b (F i c)):=fun c hc=>by rw [hl,List.getElem?_map,List.getElem?_range hc];rfl
   refine seq_block fun KD D1 D2 D3 D4 D5=> ?_;refine wpc_loop (sok xt) (fun st=> ∃(j:Nat) (x:AV) (hd:Hp) (tm:T AV),st=⟨tm,51,hd,[]⟩∧j≤C∧tm.get 0=some (v)∧tm.get 1=some (.val (.bool b))∧tm.get 5=some (w)∧tm.get 6=some (iv i)∧tm.get 7=some (x)∧tm.get 8=some (iv j)∧Fr hc.n hc hd∧OwnSl hd hc.n 1 3 x j (ivs (l.take j))) (fun st=>C - (match st.tm.get 8 with|some (.val (.int _ n))=>n.toNat|_=>0)) ?_ ?_
   ·rintro st ⟨j,x,hd,tm,rfl,hkD,g0,g1,g5,g6,g7,g8,fd,own⟩;have muD:=g8;have hsd:=(hs.fr fc hM).fr fd (by have:=fc.le;omega);obtain ⟨B,bb,rws,z1,z2,z3,z4,z5,z6,z7,z8,z9,_⟩:=hsd.at_ hi;have z10:=fun h'=>sgl55 (C:=C) bb h';refine seq_seq ?_;refine seq_reg fun K hn hp=> ?_;simp only [sw.down,rE,reduceIte,rL,rA,rM,rD,sv.down,hlen,lt_dec,g0,g1,g5,g6,g7,g8,z1,z2,z3,z4,z10];refine hn _ _ ?_;clear hn hp K;by_cases hj:j<C
    ·refine seq_cond true (by simp only [sw.down,rE,reduceIte,rL,rA,rM,rD,sv.down,hlen,lt_dec,g0,g1,g5,g6,g7,g8,z1,z2,z3,z4,z10,hj]) (fun _=> ?_) (fun hx=>by cases hx);refine seq_skip ?_;refine seq_block fun KE E1 E2 E3 E4 E5=> ?_;have x1:=sl55 (C:=C) (b:=bb) hj;have x2:=flatR_lo (F i) hj;have x3:=flatR_hi (F i) hj;refine seq_reg fun K hn hp=> ?_;simp only [sw.down,rE,reduceIte,rL,rA,rM,rD,sv.down,hlen,lt_dec,g0,g1,g5,g6,g7,g8,z1,z2,z3,z4,z10,x1,x2,x3];refine hn _ _ ?_;clear hn hp K;refine seq_seq ?_;refine seq_reg fun K hn hp=> ?_;simp only [sw.down,rE,reduceIte,rL,rA,rM,rD,sv.down,hlen,lt_dec,g0,g1,g5,g6,g7,g8,z1,z2,z3,z4,z10,x1,x2,x3];refine hn _ _ ?_;clear hn hp K;have step: ∀(tm:T AV),tm.get 0=some v→tm.get 1=some (.val (.bool b))→tm.get 5=some w→tm.get 6=some (iv i)→tm.get 7=some x→tm.get 8=some (iv j)→tm.get 9=some (iv (endOf b (F i j)))→ ∃(x':AV) (h7:Hp),abuiltin Tryz.prog tb xt .append [75,75] [x,.sl hd.n 0 1 1] (hd.new (.cells [iv (endOf b (F i j))] 3))=some (x',h7)∧Fr hc.n hc h7∧OwnSl h7 hc.n 1 3 x' (j+1) (ivs (l.take (j+1))):=by
      intro tm _ _ _ _ _ _ _;have hlo:=fd.lo;obtain ⟨h7,p1,p2,p3,p4,p5⟩:=(own.new (.cells [iv (endOf b (F i j))] 3)).append2 (P:=Tryz.prog) (xt:=xt) (x:= .sl hd.n 0 1 1) (m:=1) (cz:=[iv (endOf b (F i j))]) (by simp only [Hp.new_n];omega) tg75 rfl tg3 rfl (show te3.bytes=8 from rfl) tg75 rfl (src_own (e:=3) (new_at _ _) rfl rfl) (by omega) rfl (by omega) (by omega);refine ⟨_,h7,p1,(fd.new _).trans p3 (Nat.le_refl _),?_⟩;have:ivs (l.take (j+1))=ivs (l.take j)++[iv (endOf b (F i j))]:=by
       rw [List.take_succ,hlc j hj];simp [ivs]
      rw [this];exact p2
     rcases Bool.eq_false_or_eq_true b with hb|hb
     ·refine seq_cond true (by simp only [sw.down,rE,reduceIte,rL,rA,rM,rD,sv.down,hlen,lt_dec,g0,g1,g5,g6,g7,g8,z1,z2,z3,z4,z10,x1,x2,x3,hb]) (fun _=> ?_) (fun hx=>by cases hx);refine seq_reg fun K hn hp=> ?_;simp only [sw.down,rE,reduceIte,rL,rA,rM,rD,sv.down,hlen,lt_dec,g0,g1,g5,g6,g7,g8,z1,z2,z3,z4,z10,x1,x2,x3];refine hn _ _ ?_;clear hn hp K;obtain ⟨x',h7,p1,p2,p3⟩:=step ((((((((T.e.put (some v) 0).put (some (.val (.bool b))) 1).put (some w) 5).put (some (iv i)) 6).put (some x) 7).put (some (iv j)) 8).put (some (iv (endOf b (F i j)))) 9)) (by simp [T.get_put]) (by simp [T.get_put]) (by simp [T.get_put]) (by simp [T.get_put]) (by simp [T.get_put]) (by simp [T.get_put]) (by simp [T.get_put]);have he:endOf b (F i j)=(F i j).2:=by rw [hb];rfl
      rw [he] at p1;refine reg fun K hn hp=> ?_;simp only [sw.down,rE,reduceIte,rL,rA,rM,rD,sv.down,hlen,lt_dec,g0,g1,g5,g6,g7,g8,z1,z2,z3,z4,z10,x1,x2,x3,WOp_buildSlice,bs75,p1];refine hn _ _ (E1 _ ?_);clear hn hp K;refine reg fun K hn hp=> ?_;simp only [sw.down,rE,reduceIte,rL,rA,rM,rD,sv.down,hlen,lt_dec,g0,g1,g5,g6,g7,g8,z1,z2,z3,z4,z10,x1,x2,x3,wrap_succ hj (show C≤9223372036854775807 by omega)];refine hn _ _ ?_;clear hn hp K;refine ⟨⟨j+1,x',h7,_,rfl,by omega,(by simp [T.get_put,g0,g1,g5,g6,g7,g8]),(by simp [T.get_put,g0,g1,g5,g6,g7,g8]),(by simp [T.get_put,g0,g1,g5,g6,g7,g8]),(by simp [T.get_put,g0,g1,g5,g6,g7,g8]),(by simp [T.get_put,g0,g1,g5,g6,g7,g8]),(by simp [T.get_put,g0,g1,g5,g6,g7,g8]),p2,p3⟩,by simpa [T.get_put,muD] using (by omega:C - (j+1)<C - j)⟩
     ·refine seq_cond false (by simp only [sw.down,rE,reduceIte,rL,rA,rM,rD,sv.down,hlen,lt_dec,g0,g1,g5,g6,g7,g8,z1,z2,z3,z4,z10,x1,x2,x3,hb]) (fun hx=>by cases hx) (fun _=> ?_);refine seq_skip ?_;obtain ⟨x',h7,p1,p2,p3⟩:=step ((((((((T.e.put (some v) 0).put (some (.val (.bool b))) 1).put (some w) 5).put (some (iv i)) 6).put (some x) 7).put (some (iv j)) 8).put (some (iv (endOf b (F i j)))) 9)) (by simp [T.get_put]) (by simp [T.get_put]) (by simp [T.get_put]) (by simp [T.get_put]) (by simp [T.get_put]) (by simp [T.get_put]) (by simp [T.get_put]);have he:endOf b (F i j)=(F i j).1:=by rw [hb];rfl
      rw [he] at p1;refine reg fun K hn hp=> ?_;simp only [sw.down,rE,reduceIte,rL,rA,rM,rD,sv.down,hlen,lt_dec,g0,g1,g5,g6,g7,g8,z1,z2,z3,z4,z10,x1,x2,x3,WOp_buildSlice,bs75,p1];refine hn _ _ (E1 _ ?_);clear hn hp K;refine reg fun K hn hp=> ?_;simp only [sw.down,rE,reduceIte,rL,rA,rM,rD,sv.down,hlen,lt_dec,g0,g1,g5,g6,g7,g8,z1,z2,z3,z4,z10,x1,x2,x3,wrap_succ hj (show C≤9223372036854775807 by omega)];refine hn _ _ ?_;clear hn hp K;refine ⟨⟨j+1,x',h7,_,rfl,by omega,(by simp [T.get_put,g0,g1,g5,g6,g7,g8]),(by simp [T.get_put,g0,g1,g5,g6,g7,g8]),(by simp [T.get_put,g0,g1,g5,g6,g7,g8]),(by simp [T.get_put,g0,g1,g5,g6,g7,g8]),(by simp [T.get_put,g0,g1,g5,g6,g7,g8]),(by simp [T.get_put,g0,g1,g5,g6,g7,g8]),p2,p3⟩,by simpa [T.get_put,muD] using (by omega:C - (j+1)<C - j)⟩
    ·refine seq_cond false (by simp only [sw.down,rE,reduceIte,rL,rA,rM,rD,sv.down,hlen,lt_dec,g0,g1,g5,g6,g7,g8,z1,z2,z3,z4,z10,hj]) (fun hx=>by cases hx) (fun _=> ?_);have hjC:j=C:=by omega
     rw [hjC,List.take_of_length_le (by omega)] at own;refine seq_exit (D2 _ ?_);have own':OwnSl hd hc.n 1 3 x l.length (ivs l):=by rw [hll];exact own
     have hrow:=own_row (xt:=xt) own';have hlo:=fd.lo;have hlo':=fc.lo;have onex:=own.one;have cellx:=own.cells;have hap:Apart w x:=fun bk off n s hx off' n' s' hw=>by
      have h1:=(rows.lt hw).2;rcases own with ⟨_,_,rfl⟩|⟨bk',rfl,q2,_⟩
      ·cases hx
      ·cases hx;omega
     obtain ⟨v',h7,y1,y2,y3,y4,_⟩:=((rows.fr fd (Nat.le_refl _)).new (.cells [x] 75)).append (P:=Tryz.prog) (a:=x) (x:= .sl hd.n 0 1 1) (l:=l.map Kn.c1) (by simp only [Hp.new_n];omega) tg69 rfl tg75 rfl (show te75.bytes=24 from rfl) tg69 rfl (src_own (e:=75) (new_at _ _) rfl (by simp [onex])) (hrow.new _) hap (by simp only [List.length_map,List.length_take];omega) (by simp only [List.length_map,List.length_take];omega);have bs:=bs69 hd x cellx;refine reg fun K hn hp=> ?_;simp only [sw.down,rE,reduceIte,rL,rA,rM,rD,sv.down,hlen,lt_dec,g0,g1,g5,g6,g7,g8,z1,z2,z3,z4,z10,WOp_buildSlice,bs,y1];refine hn _ _ (B1 _ ?_);clear hn hp K;refine reg fun K hn hp=> ?_;simp only [sw.down,rE,reduceIte,rL,rA,rM,rD,sv.down,hlen,lt_dec,g0,g1,g5,g6,g7,g8,z1,z2,z3,z4,z10,wrap_succ hi (show R≤9223372036854775807 by omega)];refine hn _ _ ?_;clear hn hp K;refine ⟨⟨i+1,v',h7,_,rfl,by omega,(by simp [T.get_put,g0,g1,g5,g6]),(by simp [T.get_put,g0,g1,g5,g6]),(by simp [T.get_put,g0,g1,g5,g6]),(by simp [T.get_put,g0,g1,g5,g6]),(fc.trans (fd.new _) (by omega)).trans y3 (Nat.le_refl _),?_⟩,by simpa [T.get_put,muA] using (by omega:R - (i+1)<R - i)⟩;have e1:(endL b F R C)[i]? =some l:=by rw [endL,List.getElem?_map,List.getElem?_range hi,hl];rfl
     rw [List.take_succ,e1];simpa using y2
   ·exact ⟨0,_,hc,_,rfl,(by omega),(by simp [T.get_put,g0,g1,g5,g6]),(by simp [T.get_put,g0,g1,g5,g6]),(by simp [T.get_put,g0,g1,g5,g6]),(by simp [T.get_put,g0,g1,g5,g6]),(by simp [T.get_put,g0,g1,g5,g6]),(by simp [T.get_put,g0,g1,g5,g6]),Fr.refl (Nat.le_refl _),OwnSl.nil⟩
  ·refine seq_cond false (by simp only [sw.down,rE,reduceIte,rL,rA,rM,rD,sv.down,hlen,lt_dec,g0,g1,g5,g6,hi]) (fun hx=>by cases hx) (fun _=> ?_);have hiR:i=R:=by omega
   rw [hiR,List.take_of_length_le (by simp [endL])] at rows;refine seq_exit (A2 _ ?_);refine seq_reg fun K hn hp=> ?_;simp only [sw.down,rE,reduceIte,rL,rA,rM,rD,sv.down,hlen,lt_dec,g0,g1,g5,g6];refine hn _ _ ?_;clear hn hp K;refine wpc_ret (end_1 res36 ⟨w,?_,fc,rows⟩);simp [T.get_put,g5]
 ·exact ⟨0,_,h,_,rfl,(by omega),(by simp [T.get_put]),(by simp [T.get_put]),(by simp [T.get_put]),(by simp [T.get_put]),Fr.refl (Nat.le_refl _),LRows.nil⟩
end Go.Proofs.Kn
noncomputable section
namespace Go.Ev
theorem pRun_bind {P:Program} {α β:Type}: ∀(s:Sem α) (f:α→Sem β),pureRun P (s>>=f)=(pureRun P s).bind (fun a=>pureRun P (f a))
 | .pure a,f=>rfl
 | .program k,f=>by show pureRun P ((k P)>>=f)=_;rw [pRun_bind (k P) f];rfl
 | .mark m k,f=>by show pureRun P (k>>=f)=_;rw [pRun_bind k f];rfl
 | .load _ _ _,_=>rfl
 | .store _ _ _ _,_=>rfl
 | .new _ _,_=>rfl
 | .shape _ _,_=>rfl
 | .freeze _ _ _,_=>rfl
 | .frozen _ _,_=>rfl
 | .getObj _ _,_=>rfl
 | .setObj _ _ _,_=>rfl
 | .choose _ _,_=>rfl
 | .sys _ _,_=>rfl
 | .halt _,_=>rfl
theorem pureRun_pure {P:Program} {α:Type} (a:α):pureRun P (pure a:Sem α)=some a:=rfl
theorem pureRun_ite {P:Program} {α:Type} (c:Prop) [Decidable c] (a b:Sem α):pureRun P (if c then a else b)=if c then pureRun P a else pureRun P b:=by split<;>rfl
theorem pureRun_program {P:Program}:pureRun P program=some P:=rfl
end Go.Ev
namespace Go.Proofs.Kn
open Go Go.Ev
theorem eqi43 (d:Nat) (a b c e:Int):pureRun Tryz.prog (Op.equalIn (d+1+1) 43 (.agg #[.int .i64 a,.int .i64 b]) (.agg #[.int .i64 c,.int .i64 e]))=some (decide (a=c) && decide (b=e)):=by
 have h1:pureRun Tryz.prog (underlying 43)=some (TypeDesc.struct #[{name:= "Low",type:=3,offset:=0,embedded:=false,tag:= "",pkgPath:= "",byteOffset:=0},{name:= "High",type:=3,offset:=1,embedded:=false,tag:= "",pkgPath:= "",byteOffset:=8}]):=by kernel_rfl
 have h2:Tryz.prog.stoodInHeld 43=false:=by kernel_rfl
 have h3: ∀d a b,pureRun Tryz.prog (Op.equalIn (d+1) 3 (.int .i64 a) (.int .i64 b))=some (a==b):=fun d a b=>by
  have:pureRun Tryz.prog (underlying 3)=some (.int .i64):=by kernel_rfl
  rw [Op.equalIn];simp only [pRun_bind,this,Option.bind_some,if_true,pureRun_pure]
 have p1: ∀a b,pureRun Tryz.prog (part 3 #[.int .i64 a,.int .i64 b] 0)=some (.int .i64 a):=fun a b=>by kernel_rfl
 have p2: ∀a b,pureRun Tryz.prog (part 3 #[.int .i64 a,.int .i64 b] 1)=some (.int .i64 b):=fun a b=>by kernel_rfl
 rw [Op.equalIn];simp only [pRun_bind,h1,Option.bind_some,pureRun_program,h2,Bool.false_eq_true,if_false,pureRun_pure];rw [←Array.forIn_toList];simp only [List.toList_toArray,List.forIn_cons,List.forIn_nil,pRun_bind,pureRun_ite,p1,p2,h3,Option.bind_some,pureRun_pure];by_cases q1:a=c
 ·by_cases q2:b=e
  ·simp [q1,q2,pureRun_pure,pRun_bind,p1,p2,h3,pureRun_ite]
  ·simp [q1,q2,pureRun_pure,pRun_bind,p1,p2,h3,pureRun_ite]
 ·simp [q1,pureRun_pure,pRun_bind,p1,p2,h3,pureRun_ite]
theorem guard36 (op:BinOp) (ox oy:Operand) (x y:Array Value):pureRun Tryz.prog (eqGuard op 43 ox oy (.agg x) (.agg y))=some ():=by
 have h1:Tryz.prog.eqGuardType Tryz.prog.depth 43=false:=by kernel_rfl
 cases op<;>simp [eqGuard,pRun_bind,pureRun_pure,pureRun_program,pureRun_ite,h1]
theorem neq43 (ox oy:Operand) (a b c e:Int):abin Tryz.prog tb .neq 43 ox oy (.agg [.val (.int .i64 a),.val (.int .i64 b)]) (.agg [.val (.int .i64 c),.val (.int .i64 e)])=some (.val (.bool (!(decide (a=c) && decide (b=e))))):=by
 have h:=eqi43 9998 a b c e;have hq:pureRun Tryz.prog (Op.equal 43 (.agg #[.int .i64 a,.int .i64 b]) (.agg #[.int .i64 c,.int .i64 e]))=some (decide (a=c) && decide (b=e)):=h;simp only [abin,toVal,toVals,pRun_bind,guard36,Option.bind_some,binOp,hq,pureRun_pure]
theorem eqib (d:Nat) (t:TypeId) (ht:pureRun Tryz.prog (underlying t)=some .bool) (a b:Bool):pureRun Tryz.prog (Op.equalIn (d+1) t (.bool a) (.bool b))=some (a==b):=by
 rw [Op.equalIn];simp only [pRun_bind,ht,Option.bind_some,pureRun_pure]
end Go.Proofs.Kn
end
namespace Go.Proofs.Kn
open Go Go.Ev
set_option maxRecDepth 100000
set_option maxHeartbeats 4000000
theorem _root_.Go.Ev.FnA.inc {E:Env} {f:FuncId} {args:List AV} {h:Hp} {K:CR→Hp→Prop} (hc:FnA E f args h (fun r h'=>K r (h'.up (h'.n+1)))):FnA E f args h K:=by
 obtain ⟨r,h',h1,h2⟩:=hc;exact ⟨r,_,h1.bump (Nat.le_succ _),h2⟩
theorem endL_len (b:Bool) (F:Nat→Nat→Int×Int) (R C:Nat):(endL b F R C).length=R:=by simp [endL]
theorem endL_row (b:Bool) (F:Nat→Nat→Int×Int) {R C r:Nat} (hr:r<R):(endL b F R C).getD r []=(List.range C).map fun c=>endOf b (F r c):=by
 rw [List.getD_eq_getElem?_getD,endL,List.getElem?_map,List.getElem?_range hr];rfl
theorem ends_at {xt:Addr→Option Value} {h:Hp} {N:Nat} {w:AV} {b:Bool} {F:Nat→Nat→Int×Int} {R C:Nat} (rows:LRows xt h N 1 75 w ((endL b F R C).map fun l=>l.map Kn.c1)) (hR:R≤100) (hC:C≤100):(⟨w,endL b F R C⟩:Gr).At xt h:=by
 refine ⟨rows.grid,by simp only [endL_len];omega,fun l hl=> ?_⟩;simp only [endL,List.mem_map] at hl;obtain ⟨r,_,rfl⟩:=hl;simp only [List.length_map,List.length_range];omega
def Mp.rthick (m:Mp):Th.Grid:=Th.thickR m.T m.J (m.W - 1) m.F0 (m.gs.map gg) m.cells.length (m.W+1)
end Go.Proofs.Kn
namespace Go.Proofs.Kn
open Go Go.Ev
structure Mp.Truth (m:Mp) (R C:Nat) (t:Nat→Nat→Int):Prop where
 cell: ∀r,r<R→ ∀c,c<C→(m.cell r c=1→t r c=0)∧(¬m.cell r c=1→0≤t r c∧t r c≤60)
 row: ∀r,r<R→Th.True1 m.T (m.J r) (t r) (C - 1)
 gs: ∀x∈m.gs,x.2.2.1 - x.2.2.2≤t x.1.toNat x.2.1.toNat∧t x.1.toNat x.2.1.toNat≤x.2.2.1+x.2.2.2
def Gr.t (g:Gr):Nat→Nat→Int:=fun r c=>(g.ll.getD r []).getD c 0
theorem all_range {p:Nat→Bool} {n:Nat}:(List.range n).all p=true↔ ∀k,k<n→p k=true:=by
 rw [List.all_eq_true];exact ⟨fun h k hk=>h k (List.mem_range.2 hk),fun h k hk=>h k (List.mem_range.1 hk)⟩
theorem J_iff {m:Mp} {r c:Nat}:m.J r c=true↔ ¬m.cell r c=1∧ ¬m.cell r (c+1)=1:=by
 simp [Mp.J]
theorem fitsB_iff {m:Mp} {R C:Nat} (hm:m.Is R C) (g:Gr):fitsB m g=true↔m.Truth R C g.t:=by
 have hR:=hm.hR;simp only [fitsB,Bool.and_eq_true,fitRows,all_range,List.all_eq_true (l:=m.gs)];rw [hR];have key: ∀r,r<R→(fitRow m.T (m.cells.getD r []) (g.ll.getD r [])=true↔(∀c,c<C→(m.cell r c=1→g.t r c=0)∧(¬m.cell r c=1→0≤g.t r c∧g.t r c≤60))∧Th.True1 m.T (m.J r) (g.t r) (C - 1)):=fun r hr=>by
  simp only [fitRow,all_range,hm.hC r hr];have e: ∀c,fitAt m.T (m.cells.getD r []) (g.ll.getD r []) c=true↔((0≤g.t r c∧g.t r c≤60)∧(m.cell r c=1→g.t r c=0))∧(0<c→ ¬m.cell r c=1→ ¬m.cell r (c - 1)=1→0≤g.t r (c - 1) - g.t r c∧g.t r (c - 1) - g.t r c≤m.T):=fun c=>by
   show ((inB (g.t r c) 0 60 && !(decide (m.cell r c=1) && !decide (g.t r c=0))) && !(decide (0<c) && !decide (m.cell r c=1) && !decide (m.cell r (c - 1)=1) && !inB (g.t r (c - 1) - g.t r c) 0 m.T))=true↔_;simp only [inB,Bool.and_eq_true,Bool.not_eq_true',Bool.and_eq_false_iff,decide_eq_true_eq,decide_eq_false_iff_not,Bool.not_eq_false'];by_cases h1:m.cell r c=1<;>by_cases h2:m.cell r (c - 1)=1<;>by_cases h3:0<c<;>simp only [h1,h2,h3,not_true,not_false_iff,true_or,or_true,false_or,or_false,forall_const,true_imp_iff,false_imp_iff,and_true,imp_true_iff]<;>omega
  constructor
  ·intro h;refine ⟨fun c hc=> ?_,fun c hc hj=> ?_⟩
   ·have:=(e c).1 (h c hc);exact ⟨this.1.2,fun _=>this.1.1⟩
   ·have hj:=J_iff.1 hj;have:=(e (c+1)).1 (h (c+1) (by omega));have:=this.2 (by omega) hj.2 (by simpa using hj.1);simp only [Nat.add_sub_cancel] at this;omega
  ·rintro ⟨h1,h2⟩ c hc;refine (e c).2 ⟨⟨?_,(h1 c hc).1⟩,fun h3 h4 h5=> ?_⟩
   ·by_cases q:m.cell r c=1
    ·have:=(h1 c hc).1 q;omega
    ·exact (h1 c hc).2 q
   ·obtain ⟨d,rfl⟩: ∃d,c=d+1:=⟨c - 1,by omega⟩;simp only [Nat.add_sub_cancel] at h5 ⊢;have:=h2 d (by omega) (J_iff.2 ⟨h5,h4⟩);omega
 have kg: ∀x:Int×Int×Int×Int,gaugeOk g x=true↔x.2.2.1 - x.2.2.2≤g.t x.1.toNat x.2.1.toNat∧g.t x.1.toNat x.2.1.toNat≤x.2.2.1+x.2.2.2:=fun x=>by
  show inB (g.t x.1.toNat x.2.1.toNat - x.2.2.1) (-x.2.2.2) x.2.2.2=true↔_;rw [inB_iff];omega
 constructor
 ·rintro ⟨h1,h2⟩;exact ⟨fun r hr=>((key r hr).1 (h1 r hr)).1,fun r hr=>((key r hr).1 (h1 r hr)).2,fun x hx=>(kg x).1 (h2 x hx)⟩
 ·rintro ⟨h1,h2,h3⟩;exact ⟨fun r hr=>(key r hr).2 ⟨h1 r hr,h2 r hr⟩,fun x hx=>(kg x).2 (h3 x hx)⟩
theorem sz_shape {m:Mp} (hm:m.Is m.cells.length m.W) (g:Gr):g.sz m=g.shape m:=by
 rw [Bool.eq_iff_iff];simp only [Gr.sz,Gr.shape,Bool.and_eq_true,all_range,decide_eq_true_eq];constructor
 ·rintro ⟨h1,h2⟩;have h2:g.ll.length=m.cells.length:=by omega
  apply List.ext_getElem?
  intro i;rw [List.getElem?_map,List.getElem?_map];by_cases hi:i<m.cells.length
  ·rw [getD_some [] hi,getD_some [] (show i<g.ll.length by omega)];have:=h1 i (by omega);have:=hm.hC i hi;simp only [Option.map_some,Option.some.injEq];omega
  ·rw [List.getElem?_eq_none (by omega),List.getElem?_eq_none (by omega)]
 ·intro h;have hl:g.ll.length=m.cells.length:=by simpa using congrArg List.length h
  refine ⟨fun i hi=> ?_,by omega⟩;have h3:(g.ll.map List.length)[i]? =(m.cells.map List.length)[i]? :=by rw [h]
  rw [List.getElem?_map,List.getElem?_map,getD_some [] hi,getD_some [] (show i<m.cells.length by omega)] at h3;simp only [Option.map_some,Option.some.injEq] at h3;have:=hm.hC i (by omega);omega
theorem endL_t (v:AV) (b:Bool) (G:Th.Grid) {R C r c:Nat} (hr:r<R) (hc:c<C):(⟨v,endL b G R C⟩:Gr).t r c=endOf b (G r c):=by
 show ((endL b G R C).getD r []).getD c 0=_;rw [endL_row _ _ hr,List.getD_eq_getElem?_getD,List.getElem?_map,List.getElem?_range hc];rfl
theorem Mp.Truth.congr {m:Mp} {R C:Nat} {t t':Nat→Nat→Int} (hm:m.Is R C) (h:m.Truth R C t) (he: ∀r,r<R→ ∀c,c<C→t' r c=t r c):m.Truth R C t':=by
 have hC0:=hm.c0;refine ⟨fun r hr c hc=>by rw [he r hr c hc];exact h.cell r hr c hc,fun r hr c hc hj=> ?_,fun x hx=> ?_⟩
 ·rw [he r hr c (by omega),he r hr (c+1) (by omega)];exact h.row r hr c hc hj
 ·obtain ⟨⟨_,q1⟩,⟨_,q2⟩,_⟩:=hm.gs x hx;rw [hm.hR] at q1;rw [he _ q1 _ (by have:=hm.hC _ q1;omega)];exact h.gs x hx
theorem F0_ok (m:Mp):Th.Ok m.F0:=fun r c=>by simp only [Mp.F0];split<;>simp
theorem bnd_some {m:Mp} (hm:m.Is m.cells.length m.W) {G:Th.Grid} (h:m.bnd=some G):m.rthick=G∧Th.Ok G∧Th.SubG G m.F0∧m.Truth m.cells.length m.W (fun r c=>(G r c).1)∧m.Truth m.cells.length m.W (fun r c=>(G r c).2):=by
 have hC0:=hm.c0;obtain ⟨h1,h2,h3,_,h5,h6⟩:=Th.bound_ok m.T m.J (m.W - 1) hm.T.1 (F0_ok m) h (m:=m.W+1) (by omega);have hcell: ∀r c,(m.cell r c=1→(G r c).1=0∧(G r c).2=0)∧(¬m.cell r c=1→0≤(G r c).1∧(G r c).2≤60):=fun r c=>by
  have q1:=h2 r c;have q2:=h3 r c;refine ⟨fun q=> ?_,fun q=> ?_⟩
  ·simp only [Mp.F0,q,if_true] at q1;omega
  ·simp only [Mp.F0,q,if_false] at q1;omega
 refine ⟨h1,h3,h2,⟨fun r _ c _=> ?_,h5.row,fun x hx=>h5.gs (gg x) (List.mem_map_of_mem hx)⟩,⟨fun r _ c _=> ?_,h6.row,fun x hx=>h6.gs (gg x) (List.mem_map_of_mem hx)⟩⟩
 ·have:=h3 r c;exact ⟨fun q=>((hcell r c).1 q).1,fun q=>by have:=(hcell r c).2 q;omega⟩
 ·have:=h3 r c;exact ⟨fun q=>((hcell r c).1 q).2,fun q=>by have:=(hcell r c).2 q;omega⟩
theorem truth_bnd {m:Mp} (hm:m.Is m.cells.length m.W) {t:Nat→Nat→Int} (h:m.Truth m.cells.length m.W t): ∃G,m.bnd=some G∧ ∀r,r<m.cells.length→ ∀c,c<m.W→(G r c).1≤t r c∧t r c≤(G r c).2:=by
 have hC0:=hm.c0
 let t':Nat→Nat→Int:=fun r c=>if r<m.cells.length∧c<m.W then t r c else (m.F0 r c).1
 have h':m.Truth m.cells.length m.W t':=h.congr hm fun r hr c hc=>by simp only [t'];rw [if_pos ⟨hr,hc⟩]
 have hin:Th.InG t' m.F0:=fun r c=>by
  by_cases q:r<m.cells.length∧c<m.W
  ·have:=h'.cell r q.1 c q.2;by_cases q1:m.cell r c=1
   ·have:=this.1 q1;simp only [Mp.F0,q1,if_true];omega
   ·have:=this.2 q1;simp only [Mp.F0,q1,if_false];omega
  ·simp only [t'];rw [if_neg q];have:=F0_ok m r c;exact ⟨Int.le_refl _,this⟩
 obtain ⟨G,hG,hi⟩:=Th.bound_in m.T m.J (m.W - 1) (gs:=m.gs.map gg) (R:=m.cells.length) ⟨h'.row,fun g hg=>by
  obtain ⟨x,hx,rfl⟩:=List.mem_map.1 hg;exact h'.gs x hx⟩ hin
 refine ⟨G,hG,fun r hr c hc=> ?_⟩;have:=hi r c;simp only [t'] at this
 rwa [if_pos ⟨hr,hc⟩] at this
end Go.Proofs.Kn
