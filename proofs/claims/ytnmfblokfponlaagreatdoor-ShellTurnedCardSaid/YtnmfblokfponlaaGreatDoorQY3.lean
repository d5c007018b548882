/- MvQ4, MvP0, MvP2, MvP3, MvP4: texts in a row, joined by a program. -/
import Derived.Test.YtnmfblokfponlaaGreatDoorQY2
import Derived.Test.YtnmfblokfponlaaGreatDoorQN2
import Derived.Test.YtnmfblokfponlaaGreatDoorQN1
import Derived.Test.YtnmfblokfponlaaGreatDoorQW
set_option linter.all false
open Nat renaming reduceEqDiff → rE, reduceLeDiff → rD, reduceAdd → rA, reduceMul → rM, reduceLT → rL
open Go.Ev.T renaming get_put → xZZ
open Nat renaming le_refl → xZY, ble_eq → xZQ, le_of_lt → xZF
open List renaming getElem?_eq_getElem → xZX, drop_eq_getElem_cons → xZW, getD_eq_getElem?_getD → xZV, getElem?_eq_some_iff → xZU, mem_of_getElem? → xZT, mem_map → xZR, getElem?_map → xZP, take_of_length_le → xZO, mem_cons_of_mem → xZM, all_eq_true → xZK, length_nil → xZJ, length_map → xZI, drop_eq_nil_of_le → xZH, mem_cons_self → xZD, length_append → xZC, getElem?_take → xZB, take_length → xZA, drop_length → xYZ
open And renaming intro → xZS
open Go.Ev.Fr renaming refl → xZN
open Go.Ev.FnA renaming walk → xZL, calm → xZG
open Option renaming getD_some → xZE
namespace Go.Proofs.Kn
open Go Go.Ev
set_option maxRecDepth 100000
set_option maxHeartbeats 4000000
def Wk.wds (w:Wk):List Int:=w.ts.map fun t=>t.1
def Wk.ws (w:Wk):List Int:=cpt (qAj w.wds (w.wds.length - 1))
def genW:Nat->List (List Int)
 |0=>[[]]
 |n+1=>[1,2,3].flatMap fun a=>(genW n).map (a:: ·)
theorem qDW: ∀(n:Nat) (l:List Int),l.length=n->(∀x∈l,1<=x/\x<=3)->l∈genW n
 |0,l,h,_=>by rw [List.length_eq_zero_iff.1 h];simp [genW]
 |n+1,[],h,_=>by simp at h
 |n+1,a::l,h,h3=>by
  have ih:=qDW n l (by simpa using h) fun x hx=>h3 x (xZM _ hx);have ha:=h3 a xZD;simp only [genW,List.mem_flatMap,xZR];refine ⟨a,?_,l,ih,rfl⟩;rcases (by omega:a=1\/a=2\/a=3) with rfl|rfl|rfl<;>simp
theorem genW_ok:([1,2,3,4].all fun n=>(genW n).all fun l=>cpt (qAj l (l.length - 1))==[1,2,3].filter fun x=>l.contains x)=true:=by kernel_rfl
theorem Wk.Is.ws {w:Wk} (h:w.Is):w.ws=[1,2,3].filter fun x=>w.wds.contains x:=by
 have hl:w.wds.length=w.ts.length:=by simp [Wk.wds]
 have hm:w.wds∈genW w.wds.length:=qDW _ _ rfl fun x hx=>by
  obtain ⟨t,ht,rfl⟩:=xZR.1 hx;exact (h.ts t ht).1
 have:=xZK.1 genW_ok w.wds.length (by have:=h.t0;have:=h.t4;rcases (by omega:w.wds.length=1\/w.wds.length=2\/w.wds.length=3\/w.wds.length=4) with e|e|e|e<;>rw [e]<;>simp)
 have:=xZK.1 this w.wds hm;simpa [Wk.ws] using this
theorem Wk.ws_mem {w:Wk} (h:w.Is) {x:Int} (hx:x∈w.ws):1<=x/\x<=3:=by
 rw [h.ws] at hx;have:=(List.mem_filter.1 hx).1;simp at this;omega
theorem Wk.ws_len {w:Wk} (h:w.Is):w.ws.length<=3:=by
 rw [h.ws];exact List.length_filter_le _ _
theorem ft113 (xt:Addr->Option Value):(SE xt).ft.get 113=some Tryz.f113:=by kernel_rfl
theorem res113:Tryz.f113.results.toList=[.tmp 2]:=by kernel_rfl
theorem ft121 (xt:Addr->Option Value):(SE xt).ft.get 121=some Tryz.f121:=by kernel_rfl
theorem res121:Tryz.f121.results.toList=[.tmp 2]:=by kernel_rfl
theorem brows_c (xt:Addr->Option Value) (h:Hp) (w:Wk) (ha:w.At xt h) (bv:AV) (onev:Go.Ev.one bv=true) {K:CR->Hp->Prop} (hk: ∀n,h.n<n->K (.ret (iv w.m.cells.length)) (h.up n)):FnA (SE xt) 113 [.agg (w.bc bv)] h K:=by
 refine xZG ?_ hk;clear hk K;refine xZL (sok xt) (ft113 xt) rfl 8 rfl ?_;obtain ⟨o1,o2,o3,o4,o5⟩:=ha.ones;have hlen:=ha.m.len;refine qA fun K hn hp=> ?_;simp only [sw.1,reduceIte,rL];apply hn;obtain ⟨h1,hh1⟩: ∃h1:Hp,h1=h.new (.cells (w.bc bv) 121):=⟨_,rfl⟩;rw [<-hh1];have nh1:h1.n=h.n+1:=by rw [hh1];rfl
 have sh1:h1.t.get h.n=some (.cells (w.bc bv) 121):=by rw [hh1];exact jL _ _
 have kh1: ∀k,k<h.n->h1.t.get k=h.t.get k:=fun k hk=>by rw [hh1];exact jK _ _ hk
 have fbh1:Fr h.n h h1:=by rw [hh1];exact (xZN (xZY _)).new _
 have fh1:=fbh1;refine qA fun K hn hp=> ?_;simp only [sy.1,rE,reduceIte,rL,syw.1,hlen,sh1];apply hn;refine qD (qN res113 ⟨?_,fh1⟩);simp [xZZ]
theorem bcols_c (xt:Addr->Option Value) (h:Hp) (w:Wk) (ha:w.At xt h) (his:w.Is) (bv:AV) (onev:Go.Ev.one bv=true) {K:CR->Hp->Prop} (hk: ∀n,h.n<n->K (.ret (iv w.m.W)) (h.up n)):FnA (SE xt) 121 [.agg (w.bc bv)] h K:=by
 refine xZG ?_ hk;clear hk K;refine xZL (sok xt) (ft121 xt) rfl 10 rfl ?_;obtain ⟨o1,o2,o3,o4,o5⟩:=ha.ones;have hlen:=ha.m.len;refine qA fun K hn hp=> ?_;simp only [sw.1,reduceIte,rL];apply hn;obtain ⟨h1,hh1⟩: ∃h1:Hp,h1=h.new (.cells (w.bc bv) 121):=⟨_,rfl⟩;rw [<-hh1];have nh1:h1.n=h.n+1:=by rw [hh1];rfl
 have sh1:h1.t.get h.n=some (.cells (w.bc bv) 121):=by rw [hh1];exact jL _ _
 have kh1: ∀k,k<h.n->h1.t.get k=h.t.get k:=fun k hk=>by rw [hh1];exact jK _ _ hk
 have fbh1:Fr h.n h h1:=by rw [hh1];exact (xZN (xZY _)).new _
 have fh1:=fbh1;have hl0:0<w.m.cells.length:=his.m.r0;obtain ⟨v,i1,i2,i3,i4⟩:=(ha.fr fh1 (xZY _)).m.rowD hl0;have hW:w.m.W=(w.m.cells.getD 0 []).length:=by
  cases q:w.m.cells with
  |nil=>rw [q] at hl0;simp at hl0
  |cons x xs=>simp [Mp.W,q]
 have i1:qK tb 22 w.m.vc (iv 0)=some (elp w.m.vc 0):=i1;refine qA fun K hn hp=> ?_;simp only [sy.1,rE,reduceIte,rL,syw.1,sh1,i1,i2,i4];apply hn;refine qD (qN res121 ⟨?_,fh1⟩);rw [hW];simp [xZZ]
theorem bs75' (h:Hp) (n:Int):jC tb h 75 1 [(0,iv n)]=some (.sl h.n 0 1 1,h.new (.cells [iv n] 3)):=by kernel_rfl
theorem ft144 (xt:Addr->Option Value):(SE xt).ft.get 144=some Tryz.f144:=by kernel_rfl
theorem res144:Tryz.f144.results.toList=[.tmp 2]:=by kernel_rfl
theorem widths_c (xt:Addr->Option Value) (h:Hp) (w:Wk) (ha:w.At xt h) (his:w.Is) (bv:AV) (onev:Go.Ev.one bv=true):
  FnA (SE xt) 144 [.agg (w.bc bv)] h (fun res h'=>Fr h.n h h'/\ ∃z,res= .ret z/\RowAt xt h' 1 z (w.ws.map c1)/\ ∀b off n s,z= .sl b off n s->h.n<=b):=by
 refine xZL (sok xt) (ft144 xt) rfl 24 rfl ?_;obtain ⟨o1,o2,o3,o4,o5⟩:=ha.ones;have hlen:=ha.len;have t4:=his.t4;have t0:=his.t0;refine qA fun K hn hp=> ?_;simp only [sw.1,reduceIte,rL];apply hn;obtain ⟨h1,hh1⟩: ∃h1:Hp,h1=h.new (.cells (w.bc bv) 121):=⟨_,rfl⟩;rw [<-hh1];have nh1:h1.n=h.n+1:=by rw [hh1];rfl
 have sh1:h1.t.get h.n=some (.cells (w.bc bv) 121):=by rw [hh1];exact jL _ _
 have kh1: ∀k,k<h.n->h1.t.get k=h.t.get k:=fun k hk=>by rw [hh1];exact jK _ _ hk
 have fbh1:Fr h.n h h1:=by rw [hh1];exact (xZN (xZY _)).new _
 have fh1:=fbh1;have ha1:=ha.fr fh1 (xZY _);have hl1:w.wds.length=w.ts.length:=by simp [Wk.wds]
 refine qA fun K hn hp=> ?_;simp only [sy.1,rL];apply hn;refine qE ?_;refine qA fun K hn hp=> ?_;simp only [sy.1,rE,reduceIte,rL,syw.1,hlen,sh1];apply hn;refine qG fun KA A1 A2 A3 A4 A5=> ?_;refine qV (sok xt) (fun st=> ∃(k:Nat) (z:AV) (hg:Hp) (tm:T AV),st=⟨tm,24,hg,[]⟩/\k<=w.ts.length/\tm.get 1=some (.ptr h.n 0)/\tm.get 3=some (z)/\tm.get 8=some (w.vt)/\tm.get 9=some (iv (w.ts.length:Int))/\tm.get 10=some (iv k)/\Fr h1.n h1 hg/\OwnSl hg h1.n 1 3 z k (ivs (w.wds.take k))) (fun st=>w.ts.length - (match st.tm.get 10 with|some (.val (.int _ n))=>n.toNat|_=>0)) ?_ ?_
 ·rintro st ⟨k,z,hg,tm,rfl,hkA,g1,g3,g8,g9,g10,fg,own⟩;have muA:=g10;refine qA fun K hn hp=> ?_;simp only [sy.1,rL,jU,g9,g10];apply hn;have lg:=fg.lo;by_cases hk:k<w.ts.length
  ·refine qC true (by simp only [sy.1,reduceIte,hk]) (fun _=> ?_) (fun hx=>by cases hx);refine qI ?_;obtain ⟨n,th,wo,ht⟩:=his.tub hk;have hx:=ht.at_;have hag:=ha1.fr fg (xZY _);have i1:=hag.ts.idx hU rfl kV rfl (i:=k) (by simpa using hk) (k:= .i64);have i2:=hag.ts.loadA kV rfl rfl (i:=k) (c:=Kn.t3 ((n:Int),th,wo)) (by rw [xZP,hx];rfl);simp only [Kn.t3,List.map_cons,List.map_nil] at i2;refine qG fun KB B1 B2 B3 B4 B5=> ?_;refine qA fun K hn hp=> ?_;simp only [sw.1,rE,reduceIte,rL,rA,al90,g8,g10,i1,i2];obtain ⟨h9,hh9,n9,s9,k9,f9⟩:=nsE hg (.cells [iv 0,iv 0,iv 0] 90) (.cells [iv (n:Int),iv th,iv wo] 90);rw [<-hh9];apply hn;clear hh9;have own9:OwnSl h9 h1.n 1 3 z k (ivs (w.wds.take k)):=own.fr f9 (xZY _);obtain ⟨z',h7,p1,p2,p3⟩:=own_app1 (xt:=xt) own9 (by omega) (n:Int) (by omega);refine reg fun K hn hp=> ?_;simp only [sy.1,rE,reduceIte,rL,g3,s9,jI,bs75',p1];refine hn _ _ (B1 _ ?_);refine reg fun K hn hp=> ?_;simp only [sy.1,rE,reduceIte,rL,g10,qQ hk (show w.ts.length<=9223372036854775807 by omega)];apply hn;refine ⟨⟨k+1,z',h7,_,rfl,by omega,(by simp [xZZ,g1]),(by simp [xZZ]),(by simp [xZZ,g8]),(by simp [xZZ,g9]),(by simp [xZZ]),(fg.trans f9 fg.lo).trans p3 (xZY _),?_⟩,by simpa [xZZ,muA] using (by omega:w.ts.length - (k+1)<w.ts.length - k)⟩;have e9:w.wds[k]? =some (n:Int):=by rw [Wk.wds,xZP,hx];rfl
   rw [List.take_succ,e9];exact p2
  ·refine qC false (by simp only [sy.1,reduceIte,hk]) (fun hx=>by cases hx) (fun _=> ?_);refine qT (A2 _ ?_);obtain rfl:k=w.ts.length:=by omega
   rw [xZO (by omega)] at own;rcases own with ⟨e,_⟩|⟨b,rfl,b1,b2,b3,b4⟩
   ·omega
   have fgh:Fr h.n h hg:=fh1.trans fg (by omega);refine qA fun K hn hp=> ?_;simp only [sy.1,rE,reduceIte,rL,g3];refine qB (sok xt) (FnA.mono (sort_c xt hg b w.ts.length w.wds hl1 (by omega) t4 b2 b3) fun res h5 hres=> ?_);obtain ⟨⟨r,rfl⟩,f5,s5⟩:=hres;simp only [sy.1,rL];apply hn;refine reg fun K hn hp=> ?_;simp only [sy.1,rE,reduceIte,rL,g3];have l5:=f5.le;refine qB (sok xt) (FnA.mono (compact_c xt h5 b w.ts.length (qAj w.wds (w.ts.length - 1)) (by rw [qBE,hl1]) (by omega) (by omega) s5) fun res h6 hres=> ?_);obtain ⟨f6,rfl,r6⟩:=hres;simp only [sy.1,rE,reduceIte,rL];have lw:w.wds.length - 1=w.ts.length - 1:=by rw [hl1]
   have f6h:Fr h.n h h6:=FrM.toFr (f5.trans f6 (by omega)) fgh (by omega) fun k e=>by subst e;omega
   apply hn;refine ⟨_,[_],rfl,by rw [res144];rfl,f6h,.sl b 0 w.ws.length 1,?_,?_,fun b' off n s e=>by cases e;omega⟩
   ·simp only [xZZ,if_true,Wk.ws,lw];rfl
   ·rw [Wk.ws,lw];exact r6
 ·exact ⟨0,_,h1,_,rfl,(by omega),(by simp [xZZ]),(by simp [xZZ]),(by simp [xZZ]),(by simp [xZZ]),(by simp [xZZ]),xZN (xZY _),OwnSl.nil⟩
end Go.Proofs.Kn
namespace Go.Proofs.Kn
open Go Go.Ev
set_option maxRecDepth 100000
theorem qAA:tb.get 125=some te125:=by kernel_rfl
theorem qBg:tb.get 192=some te192:=by kernel_rfl
theorem tg126:tb.get 126=some te126:=by kernel_rfl
theorem qCn:tb.get 240=some te240:=by kernel_rfl
theorem ld125 (xt:Addr->Option Value) (h:Hp) (b off:Nat):qR tb xt h 125 (.ptr b off)=zQ 2 (h.t.get b) off:=yX qAA rfl rfl
theorem st125 (h:Hp) (b off:Nat) (v:AV):jH tb h 125 (.ptr b off) v=qW 2 h b off v (h.t.get b):=zL qAA rfl
theorem fa125_0 (b off:Nat):qL tb 125 (.ptr b off) 0=some (.ptr b (off+0)):=zA qAA rfl rfl
theorem fa125_1 (b off:Nat):qL tb 125 (.ptr b off) 1=some (.ptr b (off+1)):=zA qAA rfl rfl
theorem al125 (h:Hp):jT tb h 125=some (.ptr h.n 0,h.new (.cells (([(.slice none 0 0),(.int .i64 0)]:List Value).map .val) 125)):=kL qAA rfl
theorem ld192 (xt:Addr->Option Value) (h:Hp) (b off:Nat):qR tb xt h 192 (.ptr b off)=jZ (h.t.get b) off:=kM qBg rfl
theorem st192 (h:Hp) (b off:Nat) (v:AV):jH tb h 192 (.ptr b off) v=qW 1 h b off v (h.t.get b):=zL qBg rfl
theorem al192 (h:Hp):jT tb h 192=some (.ptr h.n 0,h.new (.cells (([(.slice none 0 0)]:List Value).map .val) 192)):=kL qBg rfl
theorem ld126 (xt:Addr->Option Value) (h:Hp) (b off:Nat):qR tb xt h 126 (.ptr b off)=jZ (h.t.get b) off:=kM tg126 rfl
theorem st126 (h:Hp) (b off:Nat) (v:AV):jH tb h 126 (.ptr b off) v=qW 1 h b off v (h.t.get b):=zL tg126 rfl
theorem al126 (h:Hp):jT tb h 126=some (.ptr h.n 0,h.new (.cells (([.nilFunc]:List Value).map .val) 126)):=kL tg126 rfl
theorem ld240 (xt:Addr->Option Value) (h:Hp) (b off:Nat):qR tb xt h 240 (.ptr b off)=jZ (h.t.get b) off:=kM qCn rfl
theorem st240 (h:Hp) (b off:Nat) (v:AV):jH tb h 240 (.ptr b off) v=qW 1 h b off v (h.t.get b):=zL qCn rfl
theorem al240 (h:Hp):jT tb h 240=some (.ptr h.n 0,h.new (.cells (([.map none]:List Value).map .val) 240)):=kL qCn rfl
theorem bd125 (z:AV) (n:Int) (hz:cellsOf z=[z]):zY tb 125 [(0,z),(1,iv n)]=some (.agg [z,iv n]):=by
 have:zY tb 125 [(0,z),(1,iv n)]=(kN (fun i=>([(0,1),(1,1)]:List (Nat×Nat))[i]?) [(0,z),(1,iv n)] [.val (.slice none 0 0),.val (.int .i64 0)]).map .agg:=by kernel_rfl
 rw [this];simp [kN,hz];rfl
theorem bd125z:zY tb 125 []=some (.agg [.val (.slice none 0 0),iv 0]):=by kernel_rfl
noncomputable def syp:=PLift.up (xZS ld125 (xZS st125 (xZS fa125_0 (xZS fa125_1 (xZS al125 (xZS ld192 (xZS st192 (xZS al192 (xZS ld126 (xZS st126 (xZS al126 (xZS ld240 (xZS st240 al240)))))))))))))
abbrev Cg:=List (Int×Int×Int)×Int
theorem Cuts.one {xt:Addr->Option Value} {h:Hp} {v:AV} {ls:List (Int×Int×Int)} (a:Cuts xt h v ls):Go.Ev.one v=true:=a.row.one
theorem Cuts.cells {xt:Addr->Option Value} {h:Hp} {v:AV} {ls:List (Int×Int×Int)} (a:Cuts xt h v ls):cellsOf v=[v]:=a.row.cells
theorem Cuts.nil {xt:Addr->Option Value} {h:Hp}:Cuts xt h (.val (.slice none 0 0)) []:=⟨⟨by simp,by omega,.inl ⟨rfl,rfl⟩⟩,by simp,fun _ _ _ e=>by cases e;exact xZY _⟩
def wI (es:List (AV×Cg)):List AV:=es.flatMap fun e=>[e.1,iv e.2.2]
theorem flatE_len (es:List (AV×Cg)):(wI es).length=es.length*2:=by
 induction es with
 |nil=>rfl
 |cons e es ih=>simp only [wI,List.flatMap_cons,xZC,List.length_cons,xZJ] at ih ⊢;omega
theorem qDZ: ∀{es:List (AV×Cg)} {i:Nat} {e:AV×Cg},es[i]? =some e->(wI es)[i*2]? =some e.1/\(wI es)[i*2+1]? =some (iv e.2.2)
 |[],i,e,h=>by simp at h
 |x::es,0,e,h=>by
  simp only [List.getElem?_cons_zero,Option.some.injEq] at h;subst h;exact ⟨rfl,rfl⟩
 |x::es,i+1,e,h=>by
  have:=qDZ (es:=es) (i:=i) (e:=e) (by simpa using h);have e1:(i+1)*2=i*2+2:=by omega
  rw [e1];exact this
structure CRows (xt:Addr->Option Value) (h:Hp) (N:Nat) (v:AV) (es:List (AV×Cg)):Prop where
 own:OwnSl h N 2 125 v es.length (wI es)
 at_: ∀e∈es,Cuts xt h e.1 e.2.1/\pX v e.1
theorem CRows.fr {xt:Addr->Option Value} {h h':Hp} {N:Nat} {v:AV} {es:List (AV×Cg)} (r:CRows xt h N v es) {M:Nat} (f:Fr M h h') (hM:h.n<=M):CRows xt h' N v es:=⟨r.own.fr f hM,fun e he=>⟨(r.at_ e he).1.fr f hM,(r.at_ e he).2⟩⟩
theorem CRows.up {xt:Addr->Option Value} {h:Hp} {N:Nat} {v:AV} {es:List (AV×Cg)} (r:CRows xt h N v es) {k:Nat} (hk:h.n<=k):CRows xt (h.up k) N v es:=r.fr (Fr.up (xZN (xZY _)) hk) (xZY _)
theorem CRows.len {xt:Addr->Option Value} {h:Hp} {N:Nat} {v:AV} {es:List (AV×Cg)} (r:CRows xt h N v es) (h':Hp):zP tb h' 192 v=some es.length:=r.own.len qBg rfl
theorem CRows.one {xt:Addr->Option Value} {h:Hp} {N:Nat} {v:AV} {es:List (AV×Cg)} (r:CRows xt h N v es):Go.Ev.one v=true:=r.own.one
theorem CRows.cells {xt:Addr->Option Value} {h:Hp} {N:Nat} {v:AV} {es:List (AV×Cg)} (r:CRows xt h N v es):cellsOf v=[v]:=r.own.cells
theorem CRows.idx {xt:Addr->Option Value} {h:Hp} {N:Nat} {v:AV} {es:List (AV×Cg)} (r:CRows xt h N v es) {i:Nat} {e:AV×Cg} (he:es[i]? =some e):
  ∃b,qK tb 192 v (iv (i:Int))=some (.ptr b (i*2))/\N<=b/\b<h.n/\ ∀h':Hp,h'.t.get b=h.t.get b->zQ 2 (h'.t.get b) (i*2)=some (.agg [e.1,iv e.2.2]):=by
 have hi:=(xZU.1 he).1;obtain ⟨b,h1,h2,h3,h4,h5⟩:=r.own.idx qBg rfl qAA rfl hi (k:= .i64);refine ⟨b,h1,h2,h3,fun h' hh=> ?_⟩;obtain ⟨q1,q2⟩:=qDZ he;rw [hh,h4];have hl:=flatE_len es;have e1:(wI es).drop (i*2)=e.1::iv e.2.2::(wI es).drop (i*2+1+1):=by
  have a1:=(xZU.1 q1);have a2:=(xZU.1 q2);rw [xZW a1.1,a1.2,xZW a2.1,a2.2]
 have e2:i*2+2<=(wI es).length:=by omega
 simp [zQ,e1,e2]
theorem CRows.append {xt:Addr->Option Value} {h:Hp} {N:Nat} {v:AV} {es:List (AV×Cg)} (r:CRows xt h N v es) (hN:N<=h.n) {z:AV} {c:Cg} (hz:Cuts xt h z c.1) (hap:pX v z) (hl:es.length<=1000000):
  ∃v' h',qS Tryz.prog tb xt .append [192,192] [v,.sl h.n 0 1 2] (h.new (.cells [z,iv c.2] 125))=some (v',h')/\CRows xt h' N v' (es++[(z,c)])/\Fr N h h'/\v'= .sl (h.n+1) 0 (es.length+1) 2/\(∀k,k<h.n->(∀off n s,v≠ .sl k off n s)->h'.t.get k=h.t.get k)/\h'.n=h.n+2:=by
 have oz:=hz.one;have own1:=r.own.new (.cells [z,iv c.2] 125);obtain ⟨h',p1,p2,p3,p4,p5⟩:=own1.append2 (P:=Tryz.prog) (xt:=xt) (x:= .sl h.n 0 1 2) (m:=1) (cz:=[z,iv c.2]) (by simp only [Hp.new_n];omega) qBg rfl qAA rfl (show te125.bytes=32 from rfl) qBg rfl (qAX (e:=125) (jL _ _) rfl (by simp [oz];rfl)) (by omega) rfl (by omega) (by omega);have hlow: ∀k,k<h.n->(∀off n s,v≠ .sl k off n s)->h'.t.get k=h.t.get k:=fun k hk hv=>by
  rw [p5 k (by simp only [Hp.new_n];omega) hv,jK _ _ hk]
 have hn':h'.n=h.n+2:=by rw [p4,Hp.new_n]
 have keep: ∀{z':AV} {l:List (Int×Int×Int)},Cuts xt h z' l->pX v z'->Cuts xt h' z' l/\pX (.sl (h.n+1) 0 (es.length+1) 2) z':=fun {z' l} hr hp=>by
  refine ⟨⟨hr.row.keepB (by omega) fun b off n s hv hb=>hlow b hb fun off' n' s' hq=>hp b off n s hv off' n' s' hq,hr.lt,hr.cap⟩,fun b off n s hv off' n' s' hq=> ?_⟩;have:=hr.row.lt hv;cases hq;omega
 refine ⟨_,h',p1,⟨?_,fun e he=> ?_⟩,((xZN hN).new _).trans p3 (xZY _),rfl,hlow,hn'⟩
 ·have e1:wI (es++[(z,c)])=wI es++[z,iv c.2]:=by simp [wI]
  rw [e1,xZC];exact p2
 ·rcases List.mem_append.1 he with he|he
  ·obtain ⟨q1,q2⟩:=r.at_ e he;exact keep q1 q2
  ·rw [List.mem_singleton] at he;subst he;exact keep hz hap
theorem bs192 (h:Hp) (z:AV) (n:Int) (hz:cellsOf z=[z]):jC tb h 192 1 [(0,.agg [z,iv n])]=some (.sl h.n 0 1 2,h.new (.cells [z,iv n] 125)):=by
 have:jC tb h 192 1 [(0,.agg [z,iv n])]=(kN (fun i=>some (i*2,2)) [(0,.agg [z,iv n])] [.val (.slice none 0 0),.val (.int .i64 0)]).map fun cs=>(.sl h.n 0 1 2,h.new (.cells cs 125)):=by kernel_rfl
 rw [this];simp [kN,cellsOf];exact ⟨_,rfl,rfl⟩
end Go.Proofs.Kn
namespace Go.Proofs.Kn
open Go Go.Ev
set_option maxRecDepth 100000
set_option maxHeartbeats 4000000
def pM:List (Int×Int×Int)->List (Int×Int×Int)->Int
 |[],[]=>0
 |[],_::_=> -1
 |_::_,[]=>1
 |a::l,b::m=>if bef a b=0 then pM l m else bef a b
theorem xX {l m:List (Int×Int×Int)}: ∀k,k<=l.length->k<=m.length->(∀j,j<k->bef (l.getD j b0) (m.getD j b0)=0)->pM l m=pM (l.drop k) (m.drop k)
 |0,_,_,_=>rfl
 |k+1,h1,h2,h=>by
  rw [xX k (by omega) (by omega) fun j hj=>h j (by omega)];have h0:=h k (by omega);rw [xZW (show k<l.length by omega),xZW (show k<m.length by omega)];rw [xZV,xZV,xZX (show k<l.length by omega),xZX (show k<m.length by omega)] at h0;simp only [xZE] at h0;rw [pM,if_pos h0]
theorem cmpF_at {l m:List (Int×Int×Int)} {k:Nat} (h1:k<l.length) (h2:k<m.length) (h: ∀j,j<k->bef (l.getD j b0) (m.getD j b0)=0) (hx:bef (l.getD k b0) (m.getD k b0)≠0):pM l m=bef (l.getD k b0) (m.getD k b0):=by
 rw [xX k (by omega) (by omega) h];rw [xZW h1,xZW h2];rw [xZV,xZV,xZX h1,xZX h2] at hx ⊢;simp only [xZE] at hx ⊢;rw [pM,if_neg hx]
theorem ft194 (xt:Addr->Option Value):(SE xt).ft.get 194=some Tryz.f194:=by kernel_rfl
theorem qCO:Tryz.f194.results.toList=[.tmp 6]:=by kernel_rfl
theorem cmpF_c (xt:Addr->Option Value) (h:Hp) (va vb:AV) (l m:List (Int×Int×Int)) (hl:Cuts xt h va l) (hm:Cuts xt h vb m) {K:CR->Hp->Prop} (hk: ∀k,h.n<k->K (.ret (iv (pM l m))) (h.up k)):FnA (SE xt) 194 [va,vb,.val (.func (.func 195) #[] #[])] h K:=by
 refine xZG ?_ hk;clear hk K;refine xZL (sok xt) (ft194 xt) rfl 39 rfl ?_;have hlen:=hl.len;have hlenm:=hm.len;have hlt:=hl.lt;refine qA fun K hn hp=> ?_;simp only [sw.1,rL,rA];apply hn;refine qE ?_;refine qA fun K hn hp=> ?_;simp only [sy.1,rE,reduceIte,rL,syw.1,hlen];apply hn;refine qG fun KA A1 A2 A3 A4 A5=> ?_;refine qV (sok xt) (fun st=> ∃(k:Nat) (hg:Hp) (tm:T AV),st=⟨tm,39,hg,[]⟩/\k<=l.length/\tm.get 0=some (va)/\tm.get 1=some (vb)/\tm.get 2=some (.val (.func (.func 195) #[] #[]))/\tm.get 11=some (va)/\tm.get 12=some (iv l.length)/\tm.get 13=some (iv k)/\Fr h.n h hg/\k<=m.length/\ ∀j,j<k->bef (l.getD j b0) (m.getD j b0)=0) (fun st=>l.length - (match st.tm.get 13 with|some (.val (.int _ n))=>n.toNat|_=>0)) ?_ ?_
 ·rintro st ⟨k,hg,tm,rfl,hkA,g0,g1,g2,g11,g12,g13,fg,hkm,hall⟩;have muA:=g13;refine qA fun K hn hp=> ?_;simp only [sy.1,rL,jU,g12,g13];apply hn;have lg:=fg.lo;by_cases hk:k<l.length
  ·refine qC true (by simp only [sy.1,reduceIte,hk]) (fun _=> ?_) (fun hx=>by cases hx);refine qI ?_;obtain ⟨s,hs⟩: ∃s,l[k]? =some s:=⟨_,xZX hk⟩;have hlg:=hl.fr fg (xZY _);have hmg:=hm.fr fg (xZY _);obtain ⟨i1,i2,_,_⟩:=hlg.at_ hs;refine qG fun KB B1 B2 B3 B4 B5=> ?_;refine qA fun K hn hp=> ?_;simp only [sw.1,rE,reduceIte,rL,rA,al61,g11,g13,i1,i2];obtain ⟨h9,hh9,n9,s9,k9,f9⟩:=nsE hg (.cells [iv 0,iv 0,iv 0] 61) (.cells [iv s.1,iv s.2.1,iv s.2.2] 61);rw [<-hh9];apply hn;clear hh9;have f9h:=fg.trans f9 fg.lo;refine qE ?_;have ged:decide ((m.length:Int)<=(k:Int))=decide (m.length<=k):=decide_eq_decide.2 (by omega);by_cases hk2:k<m.length
   ·have d1:decide (m.length<=k)=false:=decide_eq_false (by omega);refine qA fun K hn hp=> ?_;simp only [sy.1,rE,reduceIte,rL,syw.1,hlenm,g1,ged,d1];apply hn;refine qC false (by simp only [sy.1,rE,reduceIte]) (fun hx=>by cases hx) (fun _=> ?_);refine qI ?_;obtain ⟨u,hu⟩: ∃u,m[k]? =some u:=⟨_,xZX hk2⟩;have hm9:=hm.fr f9h (xZY _);obtain ⟨j1,j2,_,_⟩:=hm9.at_ hu;refine qA fun K hn hp=> ?_;simp only [sw.1,rE,reduceIte,rL,rA,al61,g1,j1,j2];obtain ⟨h10,hh10,n10,s10,k10,f10⟩:=nsE h9 (.cells [iv 0,iv 0,iv 0] 61) (.cells [iv u.1,iv u.2.1,iv u.2.2] 61);rw [<-hh10];apply hn;clear hh10;have f10h:=f9h.trans f10 f9h.lo;have u9:=(k10 hg.n (by omega)).trans s9;refine qA fun K hn hp=> ?_;simp only [sy.1,rE,reduceIte,rL,rA,g2,u9,s10];refine qB (sok xt) (before_c xt h10 s u fun m1 hm1=> ?_);simp only [sy.1,rE,reduceIte,rL];apply hn;have el:l.getD k b0=s:=by rw [xZV,hs];rfl
    have em:m.getD k b0=u:=by rw [xZV,hu];rfl
    by_cases e:bef s u=0
    ·have de:decide (bef s u=0)=true:=decide_eq_true e;refine qA fun K hn hp=> ?_;simp only [sy.1,rE,reduceIte,rL,de];apply hn;refine qH false (by simp only [sy.1,rE,reduceIte]) (fun hx=>by cases hx) (fun _=> ?_);refine qX (B1 _ ?_);refine reg fun K hn hp=> ?_;simp only [sy.1,rE,reduceIte,rL,g13,qQ hk hlt];apply hn;refine ⟨⟨k+1,h10.up m1,_,rfl,by omega,(by simp [xZZ,g0]),(by simp [xZZ,g1]),(by simp [xZZ,g2]),(by simp [xZZ,g11]),(by simp [xZZ,g12]),(by simp [xZZ]),f10h.up (by omega),by omega,fun j hj=> ?_⟩,by simpa [xZZ,muA] using (by omega:l.length - (k+1)<l.length - k)⟩;by_cases ej:j=k
     ·rw [ej,el,em];exact e
     ·exact hall j (by omega)
    ·have de:decide (bef s u=0)=false:=decide_eq_false e;refine qA fun K hn hp=> ?_;simp only [sy.1,rE,reduceIte,rL,de];apply hn;refine qH true (by simp only [sy.1,rE,reduceIte]) (fun _=> ?_) (fun hx=>by cases hx);refine qA fun K hn hp=> ?_;simp only [sy.1,rE,reduceIte,rL];apply hn;refine qD (B4 _ (A4 _ (qN qCO ⟨?_,f10h.up (xZF hm1)⟩)));have:=cmpF_at hk hk2 hall (by rw [el,em];exact e);rw [el,em] at this;simp [xZZ,this]
   ·have d1:decide (m.length<=k)=true:=decide_eq_true (by omega);refine qA fun K hn hp=> ?_;simp only [sy.1,rE,reduceIte,rL,syw.1,hlenm,g1,ged,d1];apply hn;refine qC true (by simp only [sy.1,rE,reduceIte]) (fun _=> ?_) (fun hx=>by cases hx);refine qE ?_;refine qA fun K hn hp=> ?_;simp only [sy.1,rL];apply hn;refine jF (B4 _ (A4 _ (qN qCO ⟨?_,f9h⟩)));have:pM l m=1:=by
     rw [xX k (by omega) hkm hall,xZW hk,xZH (show m.length<=k by omega)];rfl
    simp [xZZ,this]
  ·refine qC false (by simp only [sy.1,reduceIte,hk]) (fun hx=>by cases hx) (fun _=> ?_);refine qT (A2 _ ?_);obtain rfl:k=l.length:=by omega
   refine qE ?_;have led:decide ((l.length:Int)<(m.length:Int))=decide (l.length<m.length):=jU _ _;by_cases hk2:l.length<m.length
   ·refine qA fun K hn hp=> ?_;simp only [sy.1,rE,reduceIte,rL,syw.1,hlen,hlenm,jU,g0,g1,hk2];apply hn;refine qC true (by simp only [sy.1,rE,reduceIte]) (fun _=> ?_) (fun hx=>by cases hx);refine qE ?_;refine qA fun K hn hp=> ?_;simp only [sy.1,rL];apply hn;refine jF (qN qCO ⟨?_,fg⟩);have:pM l m= -1:=by
     rw [xX l.length (xZY _) hkm hall,xYZ,xZW hk2];rfl
    simp [xZZ,this]
   ·refine qA fun K hn hp=> ?_;simp only [sy.1,rE,reduceIte,rL,syw.1,hlen,hlenm,jU,g0,g1,hk2];apply hn;refine qC false (by simp only [sy.1,rE,reduceIte]) (fun hx=>by cases hx) (fun _=> ?_);refine qI ?_;refine qA fun K hn hp=> ?_;simp only [sy.1,rL];apply hn;refine qD (qN qCO ⟨?_,fg⟩);have:pM l m=0:=by
     rw [xX l.length (xZY _) hkm hall,xYZ,xZH (by omega)];rfl
    simp [xZZ,this]
 ·exact ⟨0,_,_,rfl,(by omega),(by simp [xZZ]),(by simp [xZZ]),(by simp [xZZ]),(by simp [xZZ]),(by simp [xZZ]),(by simp [xZZ]),xZN (xZY _),Nat.zero_le _,fun j hj=>absurd hj (Nat.not_lt_zero j)⟩
def bet (a b:Cg):Bool:=decide (orL [y8 b.2 a.2,y8 a.1.length b.1.length,pM a.1 b.1]<0)
theorem ft148 (xt:Addr->Option Value):(SE xt).ft.get 148=some Tryz.f148:=by kernel_rfl
theorem res148:Tryz.f148.results.toList=[.tmp 4]:=by kernel_rfl
theorem better_c (xt:Addr->Option Value) (h:Hp) (za zb:AV) (a b:Cg) (ha:Cuts xt h za a.1) (hb:Cuts xt h zb b.1) {K:CR->Hp->Prop} (hk: ∀k,h.n<k->K (.ret (.val (.bool (bet a b)))) (h.up k)):FnA (SE xt) 148 [.agg [za,iv a.2],.agg [zb,iv b.2]] h K:=by
 refine xZG ?_ hk;clear hk K;refine xZL (sok xt) (ft148 xt) rfl 25 rfl ?_;have o1:=ha.one;have o2:=hb.one;have c1:=ha.cells;have c2:=hb.cells;have hla:=ha.len;have hlb:=hb.len;refine qA fun K hn hp=> ?_;simp only [sw.1,rE,reduceIte,rL];apply hn;obtain ⟨h1,hh1,n1,s1,k1,f1⟩:=yH h (.cells [za,iv a.2] 125);obtain ⟨h2,hh2,n2,s2,k2,f2⟩:=wE f1 n1 (.cells [zb,iv b.2] 125);simp only [<-hh1,<-hh2];clear hh1 hh2;have u1:=(k2 h.n (by omega)).trans s1;simp only [rA] at n2;have ha2:=ha.fr f2 (xZY _);have hb2:=hb.fr f2 (xZY _);refine yR (sok xt) 0 0 16 [(6,0),(7,0),(9,0),(10,0),(13,0),(13,1),(15,0),(15,1)] (by kernel_rfl) fun K hn hp=> ?_;simp only [sy.1,rE,reduceIte,rL,rA,syw.1,syp.1,u1,s2];refine qB (sok xt) (cmp_c xt h2 _ _ fun m1 hm1=> ?_);simp only [sy.1,rE,reduceIte,rL,rA,syw.1,syp.1,u1,s2,hla,hlb,hm1];refine qB (sok xt) (cmp_c xt (h2.up m1) _ _ fun m2 hm2=> ?_);simp only [Hp.up_n] at hm2;simp only [sy.1,rE,reduceIte,rL,rA,syw.1,syp.1,u1,s2,hla,hlb,hm2,Hp.up_up];refine qB (sok xt) (cmpF_c xt (h2.up m2) za zb a.1 b.1 (ha2.up (by omega)) (hb2.up (by omega)) fun m3 hm3=> ?_);simp only [Hp.up_n] at hm3;simp only [sy.1,rE,reduceIte,rL,Hp.up_up,jI,bs75_3];obtain ⟨h4,hh4,n4,s4,k4,f4⟩:=yH (h2.up m3) (.cells [iv (y8 b.2 a.2),iv (y8 a.1.length b.1.length),iv (pM a.1 b.1)] 3);have hr:=row3 (xt:=xt) (h:=h2.up m3) (a:=y8 b.2 a.2) (b:=y8 a.1.length b.1.length) (c:=pM a.1 b.1);rw [<-hh4] at hr;simp only [Hp.up_n] at hh4 hr n4 f4;rw [<-hh4];refine qB (sok xt) (or_c xt h4 (.sl m3 0 3 1) _ hr (by simp) fun m5 hm5=> ?_);simp only [sy.1,rE,reduceIte,rL];refine hn _ _ (qD (qN res148 ⟨?_,((f2.up (m:=m3) (by omega)).trans f4 (by omega)).up (by omega)⟩));simp [xZZ,bet]
end Go.Proofs.Kn
namespace Go.Proofs.Kn
open Go Go.Ev
set_option maxRecDepth 100000
set_option maxHeartbeats 4000000
def yD (e0:AV×Cg) (l:List (AV×Cg)):AV×Cg:=l.foldl (fun out y=>if bet y.2 out.2=true then y else out) e0
theorem qCD {e0:AV×Cg} {es:List (AV×Cg)} {k:Nat} {e:AV×Cg} (h:es[k]? =some e):yD e0 (es.take (k+1))=if bet e.2 (yD e0 (es.take k)).2=true then e else yD e0 (es.take k):=by
 rw [List.take_succ,h];simp only [yD,List.foldl_append];rfl
theorem qBQ {e0:AV×Cg}: ∀(l:List (AV×Cg)),yD e0 l=e0\/yD e0 l∈l:=by
 intro l;induction l generalizing e0 with
 |nil=>exact .inl rfl
 |cons x l ih=>
  show yD (if bet x.2 e0.2=true then x else e0) l=e0\/yD (if bet x.2 e0.2=true then x else e0) l∈x::l;by_cases q:bet x.2 e0.2=true
  ·rw [if_pos q];rcases ih (e0:=x) with h|h
   ·exact .inr (by rw [h];exact xZD)
   ·exact .inr (xZM _ h)
  ·rw [if_neg q];rcases ih (e0:=e0) with h|h
   ·exact .inl h
   ·exact .inr (xZM _ h)
theorem ft147 (xt:Addr->Option Value):(SE xt).ft.get 147=some Tryz.f147:=by kernel_rfl
theorem res147:Tryz.f147.results.toList=[.cell 4 125]:=by kernel_rfl
theorem best_c (xt:Addr->Option Value) (h:Hp) (N:Nat) (v:AV) (es:List (AV×Cg)) (hv:CRows xt h N v es) (e0:AV×Cg) (h0:es[0]? =some e0) (hlt:es.length<=1000000)
  {K:CR->Hp->Prop} (hk: ∀k,h.n<k->K (.ret (.agg [(yD e0 es).1,iv (yD e0 es).2.2])) (h.up k)):FnA (SE xt) 147 [v,.val (.func (.func 148) #[] #[])] h K:=by
 refine xZG ?_ hk;clear hk K;refine xZL (sok xt) (ft147 xt) rfl 24 rfl ?_;have hlen:=hv.len;have hcut: ∀e∈es,Cuts xt h e.1 e.2.1:=fun e he=>(hv.at_ e he).1;have hbm: ∀k,yD e0 (es.take k)∈es:=fun k=>by
  rcases qBQ (e0:=e0) (es.take k) with q|q
  ·rw [q];exact xZT h0
  ·exact List.mem_of_mem_take q
 obtain ⟨b0',i0,p1,p2,i00⟩:=hv.idx h0;have c0:=(hcut e0 (xZT h0)).cells;have w0:=(hcut e0 (xZT h0)).one;refine qA fun K hn hp=> ?_;simp only [sw.1,rL,syp.1];apply hn;obtain ⟨h1,hh1,n1,s1,k1,f1⟩:=yH h (.cells [.val (.slice none 0 0),iv 0] 125);rw [<-hh1];clear hh1;have i0':qK tb 192 v (iv 0)=some (.ptr b0' 0):=by simpa using i0
 have i01:=i00 h1 (k1 b0' p2);rw [Nat.zero_mul] at i01;refine qA fun K hn hp=> ?_;simp only [sw.1,rE,reduceIte,rL,rA,syp.1,i0',i01,w0,n1];obtain ⟨h2,hh2,n2,s2,k2,f2⟩:=nsE h1 (.cells [.val (.slice none 0 0),iv 0] 125) (.cells [e0.1,iv e0.2.2] 125);rw [n1] at hh2 n2 s2 k2;rw [<-hh2];apply hn;clear hh2;have f2h:Fr h.n h h2:=f1.trans f2 (by omega);have u1:=(k2 h.n (by omega)).trans s1;refine qE ?_;refine qA fun K hn hp=> ?_;simp only [sy.1,rE,reduceIte,rL,syw.1,hlen];apply hn;refine qG fun KA A1 A2 A3 A4 A5=> ?_;refine qV (sok xt) (fun st=> ∃(k:Nat) (hg:Hp) (tm:T AV),st=⟨tm,24,hg,[]⟩/\k<=es.length/\tm.get 1=some (.val (.func (.func 148) #[] #[]))/\tm.get 4=some (.ptr h.n 0)/\tm.get 5=some (.ptr (h.n+1) 0)/\tm.get 11=some (v)/\tm.get 12=some (iv es.length)/\tm.get 13=some (iv k)/\FrM (fun x=>x=h.n+1) h2.n h2 hg/\hg.t.get (h.n+1)=some (.cells [(yD e0 (es.take k)).1,iv (yD e0 (es.take k)).2.2] 125)) (fun st=>es.length - (match st.tm.get 13 with|some (.val (.int _ n))=>n.toNat|_=>0)) ?_ ?_
 ·rintro st ⟨k,hg,tm,rfl,hkA,g1,g4,g5,g11,g12,g13,fg,sg⟩;have muA:=g13;refine qA fun K hn hp=> ?_;simp only [sy.1,rL,jU,g12,g13];apply hn;have lg:=fg.lo;have gl:=fg.le;have fgh:Fr h.n h hg:=fg.toFr f2h (by omega) (fun k hk=>by omega);by_cases hk:k<es.length
  ·refine qC true (by simp only [sy.1,reduceIte,hk]) (fun _=> ?_) (fun hx=>by cases hx);refine qI ?_;obtain ⟨e,he⟩: ∃e,es[k]? =some e:=⟨_,xZX hk⟩;obtain ⟨b,j1,j2,j3,j4⟩:=hv.idx he;have j5:=j4 hg (fgh.at_ b (.inl j3));have hce:=(hcut e (xZT he));have ce:=hce.cells;have we:=hce.one;have hcb:=hcut _ (hbm k);have cb:=hcb.cells;have wb:=hcb.one;refine qG fun KB B1 B2 B3 B4 B5=> ?_;refine qA fun K hn hp=> ?_;simp only [sw.1,rE,reduceIte,rL,rA,syp.1,g11,g13,j1,j5,we];obtain ⟨h9,hh9,n9,s9,k9,f9⟩:=nsE hg (.cells [.val (.slice none 0 0),iv 0] 125) (.cells [e.1,iv e.2.2] 125);rw [<-hh9];apply hn;clear hh9;have g9:=fg.fr f9 (by omega);have f9h:=fgh.trans f9 (by omega);have y1:=(k9 (h.n+1) (by omega)).trans sg;refine qA fun K hn hp=> ?_;simp only [sy.1,rE,reduceIte,rL,rA,syp.1,g1,g5,s9,y1];refine qB (sok xt) (better_c xt h9 e.1 (yD e0 (es.take k)).1 e.2 (yD e0 (es.take k)).2 (hce.fr f9h (xZY _)) (hcb.fr f9h (xZY _)) fun m1 hm1=> ?_);cases q:bet e.2 (yD e0 (es.take k)).2
   ·simp only [sy.1,rL];apply hn;refine qH false (by simp only [sy.1,rE,reduceIte]) (fun hx=>by cases hx) (fun _=> ?_);refine qX (B1 _ ?_);refine reg fun K hn hp=> ?_;simp only [sy.1,rE,reduceIte,rL,g13,qQ hk (show es.length<=9223372036854775807 by omega)];apply hn;refine ⟨⟨k+1,_,_,rfl,by omega,(by simp [xZZ,g1]),(by simp [xZZ,g4]),(by simp [xZZ,g5]),(by simp [xZZ,g11]),(by simp [xZZ,g12]),(by simp [xZZ]),g9.up (xZF hm1),?_⟩,by simpa [xZZ,muA] using (by omega:es.length - (k+1)<es.length - k)⟩;rw [qCD he,q,if_neg (by decide)];exact y1
   ·simp only [sy.1,rL];apply hn;refine qH true (by simp only [sy.1,rE,reduceIte]) (fun _=> ?_) (fun hx=>by cases hx);refine reg fun K hn hp=> ?_;simp only [sw.1,rE,reduceIte,rL,rA,syw.1,syp.1,g5,s9,y1,we];refine hn _ _ (B1 _ ?_);refine reg fun K hn hp=> ?_;simp only [sy.1,rE,reduceIte,rL,g13,qQ hk (show es.length<=9223372036854775807 by omega)];apply hn;refine ⟨⟨k+1,_,_,rfl,by omega,(by simp [xZZ,g1]),(by simp [xZZ,g4]),(by simp [xZZ,g5]),(by simp [xZZ,g11]),(by simp [xZZ,g12]),(by simp [xZZ]),(g9.up (xZF hm1)).set (.inr rfl) _,?_⟩,by simpa [xZZ,muA] using (by omega:es.length - (k+1)<es.length - k)⟩;rw [qCD he,q,if_pos rfl,Hp.set_t,xZZ,if_pos rfl]
  ·refine qC false (by simp only [sy.1,reduceIte,hk]) (fun hx=>by cases hx) (fun _=> ?_);refine qT (A2 _ ?_);obtain rfl:k=es.length:=by omega
   rw [xZA] at sg;have hcb:=hcut _ (hbm es.length);rw [xZA] at hcb;have cb:=hcb.cells;have wb:=hcb.one;have z1:=(fg.get (k:=h.n) (by omega) (by omega)).trans u1;refine qA fun K hn hp=> ?_;simp only [sw.1,rE,reduceIte,rL,rA,syp.1,g4,g5,sg,z1,wb];refine hn _ _ (qD (pU (v:= .agg [(yD e0 es).1,iv (yD e0 es).2.2]) res147 ?_ ⟨rfl,fgh.set (by omega) (by omega) _⟩));simp only [sy.1,rE,reduceIte,rA,syp.1,g4]
 ·exact ⟨0,_,_,rfl,(by omega),(by simp [xZZ]),(by simp [xZZ]),(by simp [xZZ]),(by simp [xZZ]),(by simp [xZZ]),(by simp [xZZ]),FrM.refl (xZY _),by simpa [yD] using s2⟩
end Go.Proofs.Kn
namespace Go.Proofs.Kn
open Go Go.Ev
set_option maxRecDepth 100000
set_option maxHeartbeats 4000000
def Inn (v:AV):Prop:= ∀ad n c,v≠ .val (.slice (some ad) n c)
theorem row_src {xt:Addr->Option Value} {h:Hp} {sz:Nat} {v:AV} {cs:List (List Value)} (r:RowAt xt h sz v cs) (hi:Inn v) (ho: ∀c∈cs,∀u∈c,Go.Ev.one (.val u)=true):wS xt h sz v=some (cs.length,cs.flatten.map .val):=by
 obtain ⟨h1,h2,h3⟩:=r;rcases h3 with ⟨rfl,rfl⟩|⟨ad,cap,rfl,_⟩|⟨b,off,av,e',rfl,⟨q1,q2,q3⟩,hx⟩
 ·rfl
 ·exact absurd rfl (hi _ _ _)
 ·have hfl:=qBJ cs h1;have key:(av.drop off).take (cs.length*sz)=cs.flatten.map .val:=by
   refine List.ext_getElem? fun p=> ?_;rw [xZB,List.getElem?_drop,xZP];by_cases hp:p<cs.length*sz
   ·rw [if_pos hp];have hi:p / sz<cs.length:=(Nat.div_lt_iff_lt_mul h2).2 hp;have hj:p % sz<sz:=Nat.mod_lt _ h2;have ep:p / sz*sz+p % sz=p:=by rw [Nat.mul_comm];exact Nat.div_add_mod p sz
    obtain ⟨c,hc⟩: ∃c,cs[p / sz]? =some c:=⟨_,xZX hi⟩;have hcl:=h1 c (xZT hc);obtain ⟨u,hu⟩: ∃u,c[p % sz]? =some u:=⟨_,xZX (by omega)⟩;have e1:=hx _ _ hc _ _ hu;have e2:=bE cs _ _ _ _ h1 hc hu;rw [ep] at e1 e2;rw [e1,e2];rfl
   ·rw [if_neg hp,List.getElem?_eq_none (by rw [hfl];omega)];rfl
  have hall:(cs.flatten.map AV.val).all Go.Ev.one=true:=by
   rw [xZK];intro x hx';obtain ⟨u,hu,rfl⟩:=xZR.1 hx';obtain ⟨c,hc,huc⟩:=List.mem_flatten.1 hu;exact ho c hc u huc
  have b1:Nat.ble (off+cs.length*sz) av.length=true:=by rw [xZQ];exact q2
  simp only [wS,q3,key,Nat.beq_refl,b1,hall,Bool.and_self,cond_true]
def vI (ls:List (Int×Int×Int)):List AV:=(ls.map t3).flatten.map .val
theorem uQ (ls:List (Int×Int×Int)):(vI ls).length=ls.length*3:=by
 rw [vI,xZI,qBJ (sz:=3) _ (fun c hc=>by obtain ⟨x,_,rfl⟩:=xZR.1 hc;rfl),xZI]
theorem qCf (l m:List (Int×Int×Int)):vI (l++m)=vI l++vI m:=by simp [vI]
theorem Cuts.src {xt:Addr->Option Value} {h:Hp} {v:AV} {ls:List (Int×Int×Int)} (a:Cuts xt h v ls) (hi:Inn v):wS xt h 3 v=some (ls.length,vI ls):=by
 have:=row_src a.row hi (fun c hc u hu=>by
  obtain ⟨x,_,rfl⟩:=xZR.1 hc;simp only [Kn.t3,List.mem_cons,List.not_mem_nil,or_false] at hu;rcases hu with rfl|rfl|rfl<;>rfl)
 rw [xZI] at this;exact this
def GrowAt (h:Hp) (N:Nat) (v:AV) (ls:List (Int×Int×Int)):Prop:=
 (v= .val (.slice none 0 0)/\ls=[])\/ ∃b cs,v= .sl b 0 ls.length 3/\N<=b/\b<h.n/\h.t.get b=some (.cells cs 61)/\ls.length*3<=cs.length/\cs.take (ls.length*3)=vI ls
theorem GrowAt.cuts {xt:Addr->Option Value} {h:Hp} {N:Nat} {v:AV} {ls:List (Int×Int×Int)} (g:GrowAt h N v ls) (hl:ls.length<=1000000):Cuts xt h v ls/\Inn v:=by
 rcases g with ⟨rfl,rfl⟩|⟨b,cs,rfl,h1,h2,h3,h4,h5⟩
 ·exact ⟨Cuts.nil,fun _ _ _ e=>by cases e⟩
 ·refine ⟨⟨⟨fun c hc=>by obtain ⟨x,_,rfl⟩:=xZR.1 hc;rfl,by omega,.inr (.inr ⟨b,0,cs,61,by simp,⟨h2,by simpa using h4,h3⟩,fun i c hi j u hu=> ?_⟩)⟩,by omega,fun _ _ _ e=>by cases e⟩,fun _ _ _ e=>by cases e⟩;have hil:i<ls.length:=by have:=(xZU.1 hi).1;simpa using this
  have hjl:j<3:=by
   have:=(xZU.1 hu).1;obtain ⟨x,_,rfl⟩:=xZR.1 (xZT hi);exact this
  have e1:=bE (sz:=3) (ls.map Kn.t3) i j c u (fun c hc=>by obtain ⟨x,_,rfl⟩:=xZR.1 hc;rfl) hi hu;have e2:(vI ls)[i*3+j]? =some (.val u):=by rw [vI,xZP,e1];rfl
  rw [<-h5,xZB,if_pos (by omega)] at e2;rw [Nat.zero_add];exact e2
theorem GrowAt.append {xt:Addr->Option Value} {h:Hp} {N:Nat} {v x:AV} {l m:List (Int×Int×Int)} (g:GrowAt h N v l) (hN:N<=h.n) (hm:Cuts xt h x m) (hi:Inn x) (hl:l.length+m.length<=1000000):
  ∃v' h',qS Tryz.prog tb xt .append [33,33] [v,x] h=some (v',h')/\GrowAt h' N v' (l++m)/\Fr N h h'/\h.n<=h'.n/\ ∀k,k<N->h'.t.get k=h.t.get k:=by
 have hs:=hm.src hi;have hb:te61.bytes=24:=rfl;rcases g with ⟨rfl,rfl⟩|⟨b,cs,rfl,h1,h2,h3,h4,h5⟩
 ·cases m with
  |nil=>
   refine ⟨_,h,qEj (sz:=3) tg33 rfl qAR rfl tg33 rfl (by simpa [vI] using hs),.inl ⟨rfl,rfl⟩,xZN hN,xZY _,fun _ _=>rfl⟩
  |cons s m=>
   have b0:Nat.beq (s::m).length 0=false:=rfl;have b3:Nat.ble ((s::m).length*24) 140737488355328=true:=by rw [xZQ];simp only [xZJ] at hl;omega
   have b4:Nat.ble (s::m).length 9223372036854775807=true:=by rw [xZQ];simp only [xZJ] at hl;omega
   have:j7 tb xt h 33 33 (.val (.slice none 0 0)) x=some (.sl h.n 0 (s::m).length 3,h.new (.cells (vI (s::m)) 61)):=by
    unfold j7;have d33:te33.d= .slice 61:=rfl;have z61:te61.size=3:=rfl;simp only [tg33,d33,qAR,z61,hs,b0,hb,b3,b4];simp
   refine ⟨.sl h.n 0 (s::m).length 3,h.new (.cells (vI (s::m)) 61),by simp only [qS,this],.inr ⟨h.n,_,by simp,hN,Nat.lt_succ_self _,jL _ _,?_,?_⟩,Fr.new (xZN hN) _,Nat.le_succ _,fun k hk=>jK _ _ (by omega)⟩
   ·rw [uQ];simp
   ·rw [List.nil_append,xZO (by rw [uQ];simp)]
 ·have b1:Nat.ble (l.length*3) cs.length=true:=by rw [xZQ];exact h4
  have b3:Nat.ble ((l.length+m.length)*24) 140737488355328=true:=by rw [xZQ];omega
  have b4:Nat.ble (l.length+m.length) 9223372036854775807=true:=by rw [xZQ];omega
  have:j7 tb xt h 33 33 (.sl b 0 l.length 3) x=some (.sl h.n 0 (l.length+m.length) 3,(h.del b).new (.cells (vI (l++m)) 61)):=by
   unfold j7;have d33:te33.d= .slice 61:=rfl;have z61:te61.size=3:=rfl;have hnn:(h.del b).n=h.n:=rfl;simp only [tg33,d33,qAR,z61,hs,h3,hb,b1,b3,b4,h5,<-qCf];simp
  refine ⟨.sl h.n 0 (l.length+m.length) 3,(h.del b).new (.cells (vI (l++m)) 61),by simp only [qS,this],.inr ⟨h.n,vI (l++m),by simp,hN,Nat.lt_succ_self _,by simp [Hp.new_t,Hp.del_t,Hp.del_n,xZZ],?_,?_⟩,Fr.new ((xZN hN).del h1 h2) _,Nat.le_succ _,fun k hk=> ?_⟩
  ·rw [uQ];simp
  ·rw [xZO (by rw [uQ];simp)]
  ·simp only [Hp.new_t,Hp.del_t,Hp.del_n,xZZ];rw [if_neg (by omega),if_neg (by omega)]
theorem ft224 (xt:Addr->Option Value):(SE xt).ft.get 224=some Tryz.f224:=by kernel_rfl
theorem res224:Tryz.f224.results.toList=[.tmp 4]:=by kernel_rfl
theorem cap33 (h:Hp) (xt:Addr->Option Value):qS Tryz.prog tb xt .cap [33] [.val (.slice none 0 0)] h=some (iv 0,h):=by kernel_rfl
theorem slz (h:Hp):kS tb h 33 (.val (.slice none 0 0)) none (some (iv 0))=some (.val (.slice none 0 0)):=by kernel_rfl
theorem slb (h:Hp) (b n:Nat):kS tb h 33 (.sl b 0 n 3) none (some (iv 0))=some (.sl b 0 0 3):=by
 have:kS tb h 33 (.sl b 0 n 3) none (some (iv 0))=bif Nat.ble 0 0 && (Nat.ble 0 n && Nat.beq 3 3) then some (.sl b (0+0*3) (0 - 0) 3) else none:=by kernel_rfl
 rw [this,show Nat.ble 0 n=true by rw [xZQ];omega];rfl
theorem apz (xt:Addr->Option Value) (h:Hp) (n:Nat) (hn:0<n) (hn2:n<=1000000):qS Tryz.prog tb xt .append [33,3] [.val (.slice none 0 0),iv (n:Int)] h=some (.sl h.n 0 n 3,h.new (.cells (jS (te61.zero.map .val) n) 61)):=by
 have:qS Tryz.prog tb xt .append [33,3] [.val (.slice none 0 0),iv (n:Int)] h=bif Nat.blt 0 n && (Nat.blt 0 3 && (Nat.ble (n*24) 140737488355328 && Nat.ble n 9223372036854775807)) then some (.sl h.n 0 n 3,h.new (.cells (jS (te61.zero.map .val) n) 61)) else none:=by kernel_rfl
 rw [this];have b1:Nat.blt 0 n=true:=by rw [Nat.blt_eq];exact hn
 have b2:Nat.ble (n*24) 140737488355328=true:=by rw [xZQ];omega
 have b3:Nat.ble n 9223372036854775807=true:=by rw [xZQ];omega
 rw [b1,b2,b3];rfl
theorem grow_c (xt:Addr->Option Value) (h:Hp) (n:Nat) (hn2:n<=1000000):FnA (SE xt) 224 [.val (.slice none 0 0),iv (n:Int)] h (fun res h'=>Fr h.n h h'/\ ∃z,res= .ret z/\GrowAt h' h.n z []):=by
 refine xZL (sok xt) (ft224 xt) rfl 27 rfl ?_;have d1:decide ((n:Int)<0)=false:=decide_eq_false (by omega);have l33: ∀h:Hp,zP tb h 33 (.val (.slice none 0 0))=some 0:=fun h=>by kernel_rfl
 have w1:IntKind.i64.wrap ((0:Int) - ((0:Nat):Int))=0:=by decide
 have w2:IntKind.i64.wrap ((n:Int) - 0)=n:=by rw [Int.sub_zero];exact qM _ (by omega) (by omega)
 refine qA fun K hn hp=> ?_;simp only [sw.1,rL];apply hn;refine qE ?_;refine qA fun K hn hp=> ?_;simp only [sy.1,rE,reduceIte,rL,d1];apply hn;refine qC false (by simp only [sy.1,rE,reduceIte]) (fun hx=>by cases hx) (fun _=> ?_);refine qI ?_;refine seq_any fun KK hK hX=> ?_;refine qA fun K hn hp=> ?_;simp only [sy.1,rE,reduceIte,rL,syw.1,cap33,l33,w1,w2];apply hn;by_cases e:0<n
 ·have d2:decide (0<(n:Int))=true:=decide_eq_true (by omega);refine qA fun K hn hp=> ?_;simp only [sy.1,rE,reduceIte,rL,d2];apply hn;refine qH true (by simp only [sy.1,rE,reduceIte]) (fun _=> ?_) (fun hx=>by cases hx);obtain ⟨h1,hh1,n1,s1,k1,f1⟩:=yH h (.cells (jS (te61.zero.map .val) n) 61);have ap:=apz xt h n e hn2;rw [<-hh1] at ap;clear hh1;have slb0:kS tb h1 33 (.sl h.n 0 n 3) none (some (.val (.int .i64 ((0:Nat):Int))))=some (.sl h.n 0 0 3):=slb h1 h.n n;refine reg fun K hn hp=> ?_;simp only [sy.1,rE,reduceIte,rL,syw.1,cap33,l33,pH,slz,slb0,ap,Option.map_none];apply hn;refine hK _ ?_;refine qA fun K hn hp=> ?_;simp only [sy.1,rE,reduceIte,rL];apply hn;refine qD (qN res224 ⟨f1,_,by simp [xZZ],.inr ⟨h.n,_,rfl,xZY _,by omega,s1,by simp,by simp [vI]⟩⟩)
 ·have d2:decide (0<(n:Int))=false:=decide_eq_false (by omega);refine qA fun K hn hp=> ?_;simp only [sy.1,rE,reduceIte,rL,d2];apply hn;refine qH false (by simp only [sy.1,rE,reduceIte]) (fun hx=>by cases hx) (fun _=> ?_);refine qX (hK _ ?_);refine qA fun K hn hp=> ?_;simp only [sy.1,rE,reduceIte,rL];apply hn;refine qD (qN res224 ⟨xZN (xZY _),_,by simp [xZZ],.inl ⟨rfl,rfl⟩⟩)
end Go.Proofs.Kn
