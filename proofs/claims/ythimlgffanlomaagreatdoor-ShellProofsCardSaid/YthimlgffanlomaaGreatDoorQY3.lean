/- Parts. -/
import Derived.Test.YthimlgffanlomaaGreatDoorQY2
import Derived.Test.YthimlgffanlomaaGreatDoorQN2
import Derived.Test.YthimlgffanlomaaGreatDoorQN1
import Derived.Test.YthimlgffanlomaaGreatDoorQW
set_option linter.all false
open Nat renaming reduceEqDiff → rE, reduceLeDiff → rD, reduceAdd → rA, reduceMul → rM, reduceLT → rL
open List renaming getElem?_eq_some_iff → xZZ, mem_map → xZW, getElem?_map → xZV, take_of_length_le → xZU, all_eq_true → xZS, length_map → xZR, drop_eq_getElem_cons → xZQ, getElem?_eq_getElem → xZP, mem_of_getElem? → xZN, getElem?_take → xZM
open Go.Ev.T renaming get_put → xZY
open Nat renaming le_refl → xZX, ble_eq → xZT
open Go.Ev.Fr renaming refl → xZO
namespace Go.Proofs.Kn
open Go Go.Ev
set_option maxRecDepth 100000
set_option maxHeartbeats 4000000
def Wk.wds (w:Wk):List Int:=w.ts.map fun t=>t.1
def Wk.ws (w:Wk):List Int:=cpt (qBo w.wds (w.wds.length - 1))
def genW:Nat->List (List Int)
 |0=>[[]]
 |n+1=>[1,2,3].flatMap fun a=>(genW n).map (a:: ·)
theorem qFI: ∀(n:Nat) (l:List Int),l.length=n->(∀x∈l,1<=x/\x<=3)->l∈genW n
 |0,l,h,_=>by rw [List.length_eq_zero_iff.1 h];simp [genW]
 |n+1,[],h,_=>by simp at h
 |n+1,a::l,h,h3=>by
  have ih:=qFI n l (by simpa using h) fun x hx=>h3 x (List.mem_cons_of_mem _ hx);have ha:=h3 a List.mem_cons_self;simp only [genW,List.mem_flatMap,xZW];refine ⟨a,?_,l,ih,rfl⟩;rcases (by omega:a=1\/a=2\/a=3) with rfl|rfl|rfl<;>simp
theorem genW_ok:([1,2,3,4].all fun n=>(genW n).all fun l=>cpt (qBo l (l.length - 1))==[1,2,3].filter fun x=>l.contains x)=true:=by kernel_rfl
theorem Wk.Is.ws {w:Wk} (h:w.Is):w.ws=[1,2,3].filter fun x=>w.wds.contains x:=by
 have hl:w.wds.length=w.ts.length:=by simp [Wk.wds]
 have hm:w.wds∈genW w.wds.length:=qFI _ _ rfl fun x hx=>by
  obtain ⟨t,ht,rfl⟩:=xZW.1 hx;exact (h.ts t ht).1
 have:=xZS.1 genW_ok w.wds.length (by have:=h.t0;have:=h.t4;rcases (by omega:w.wds.length=1\/w.wds.length=2\/w.wds.length=3\/w.wds.length=4) with e|e|e|e<;>rw [e]<;>simp)
 have:=xZS.1 this w.wds hm;simpa [Wk.ws] using this
theorem Wk.ws_mem {w:Wk} (h:w.Is) {x:Int} (hx:x∈w.ws):1<=x/\x<=3:=by
 rw [h.ws] at hx;have:=(List.mem_filter.1 hx).1;simp at this;omega
theorem Wk.ws_len {w:Wk} (h:w.Is):w.ws.length<=3:=by
 rw [h.ws];exact List.length_filter_le _ _
theorem ft113 (xt:Xt):(SE xt).ft.get 36=some Tryz.f36:=by kernel_rfl
theorem res113:Tryz.f36.results.toList=[.tmp 2]:=by kernel_rfl
theorem ft121 (xt:Xt):(SE xt).ft.get 45=some Tryz.f45:=by kernel_rfl
theorem res121:Tryz.f45.results.toList=[.tmp 2]:=by kernel_rfl
theorem qA1 (xt:Xt) (h:Hp) (w:Wk) (ha:w.At xt h) (bv:AV) (onev:Go.Ev.one bv=true) {K:KP} (hk: ∀n,h.n<n->K (.ret (iv w.m.cells.length)) (h.up n)):FnA (SE xt) 36 [.agg (w.bc bv)] h K:=by
 refine FnA.calm ?_ hk;clear hk K;refine FnA.walk (sok xt) (ft113 xt) rfl 8 rfl ?_;obtain ⟨o1,o2,o3,o4,o5⟩:=ha.ones;have hlen:=ha.m.len;refine qA fun K hn hp=> ?_;simp only [sw.1,reduceIte,rL];apply hn;obtain ⟨h1,hh1,_,sh1,_,fbh1⟩:=nwE h (.cells (w.bc bv) 85);rw [<-hh1];have fh1:=fbh1;refine qA fun K hn hp=> ?_;simp only [sy.1,rE,reduceIte,rL,syw.1,hlen,sh1];apply hn;refine qD (qK res113 ⟨?_,fh1⟩);simp [xZY]
theorem qES (xt:Xt) (h:Hp) (w:Wk) (ha:w.At xt h) (his:w.Is) (bv:AV) (onev:Go.Ev.one bv=true) {K:KP} (hk: ∀n,h.n<n->K (.ret (iv w.m.W)) (h.up n)):FnA (SE xt) 45 [.agg (w.bc bv)] h K:=by
 refine FnA.calm ?_ hk;clear hk K;refine FnA.walk (sok xt) (ft121 xt) rfl 10 rfl ?_;obtain ⟨o1,o2,o3,o4,o5⟩:=ha.ones;refine qA fun K hn hp=> ?_;simp only [sw.1,reduceIte,rL];apply hn;obtain ⟨h1,hh1,_,sh1,_,fbh1⟩:=nwE h (.cells (w.bc bv) 85);rw [<-hh1];have fh1:=fbh1;have hl0:0<w.m.cells.length:=his.m.r0;obtain ⟨v,i1,i2,i3,i4⟩:=(ha.fr fh1 (xZX _)).m.rowD hl0;have hW:w.m.W=(w.m.cells.getD 0 []).length:=by
  cases q:w.m.cells with
  |nil=>rw [q] at hl0;simp at hl0
  |cons x xs=>simp [Mp.W,q]
 have i1:qM tb 22 w.m.vc (iv 0)=some (elp w.m.vc 0):=i1;refine qA fun K hn hp=> ?_;simp only [sy.1,rE,reduceIte,rL,syw.1,sh1,i1,i2,i4];apply hn;refine qD (qK res121 ⟨?_,fh1⟩);rw [hW];simp [xZY]
theorem bs75' (h:Hp) (n:Int):j0 tb h 31 1 [(0,iv n)]=some (.sl h.n 0 1 1,h.new (.cells [iv n] 3)):=by kernel_rfl
theorem ft144 (xt:Xt):(SE xt).ft.get 93=some Tryz.f93:=by kernel_rfl
theorem res144:Tryz.f93.results.toList=[.tmp 2]:=by kernel_rfl
theorem widths_c (xt:Xt) (h:Hp) (w:Wk) (ha:w.At xt h) (his:w.Is) (bv:AV) (onev:Go.Ev.one bv=true):
  FnA (SE xt) 93 [.agg (w.bc bv)] h (fun res h'=>Fr h.n h h'/\ ∃z,res= .ret z/\RowAt xt h' 1 z (w.ws.map c1)/\ ∀b off n s,z= .sl b off n s->h.n<=b):=by
 refine FnA.walk (sok xt) (ft144 xt) rfl 24 rfl ?_;obtain ⟨o1,o2,o3,o4,o5⟩:=ha.ones;have hlen:=ha.len;have t4:=his.t4;have t0:=his.t0;refine qA fun K hn hp=> ?_;simp only [sw.1,reduceIte,rL];apply hn;obtain ⟨h1,hh1,nh1,sh1,_,fbh1⟩:=nwE h (.cells (w.bc bv) 85);rw [<-hh1];have fh1:=fbh1;have ha1:=ha.fr fh1 (xZX _);have hl1:w.wds.length=w.ts.length:=by simp [Wk.wds]
 refine qA fun K hn hp=> ?_;simp only [sy.1,rL];apply hn;refine qB fun K hn hp=> ?_;simp only [sy.1,rE,reduceIte,rL,syw.1,hlen,sh1];apply hn;refine qC fun KA A1 A2 A3 A4 A5=> ?_;refine qI (sok xt) (fun st=> ∃(k:Nat) (z:AV) (hg:Hp) (tm:T AV),st=⟨tm,24,hg,[]⟩/\k<=w.ts.length/\tm.get 1=some (.ptr h.n 0)/\tm.get 3=some (z)/\tm.get 8=some (w.vt)/\tm.get 9=some (iv (w.ts.length:Int))/\tm.get 10=some (iv k)/\Fr h1.n h1 hg/\OwnSl hg h1.n 1 3 z k (ivs (w.wds.take k))) (fun st=>w.ts.length - (match st.tm.get 10 with|some (.val (.int _ n))=>n.toNat|_=>0)) ?_ ?_
 ·rintro st ⟨k,z,hg,tm,rfl,hkA,g1,g3,g8,g9,g10,fg,own⟩;have muA:=g10;refine qA fun K hn hp=> ?_;simp only [sy.1,rL,qR,g9,g10];apply hn;have lg:=fg.lo;by_cases hk:k<w.ts.length
  ·refine qV (by simp only [sy.1,reduceIte,hk]) ?_;obtain ⟨n,th,wo,ht⟩:=his.tub hk;have hx:=ht.at_;have hag:=ha1.fr fg (xZX _);have i1:=hag.ts.idx qAg rfl yF rfl (i:=k) (by simpa using hk) (k:= .i64);have i2:=hag.ts.loadA yF rfl rfl (i:=k) (c:=Kn.t3 ((n:Int),th,wo)) (by rw [xZV,hx];rfl);simp only [Kn.t3,List.map_cons,List.map_nil] at i2;refine qC fun KB B1 B2 B3 B4 B5=> ?_;refine qA fun K hn hp=> ?_;simp only [sw.1,rE,reduceIte,rL,rA,al90,g8,g10,i1,i2];obtain ⟨h9,hh9,n9,s9,k9,f9⟩:=nsE hg (.cells [iv 0,iv 0,iv 0] 111) (.cells [iv (n:Int),iv th,iv wo] 111);rw [<-hh9];apply hn;clear hh9;have own9:OwnSl h9 h1.n 1 3 z k (ivs (w.wds.take k)):=own.fr f9 (xZX _);obtain ⟨z',h7,p1,p2,p3⟩:=qFs (xt:=xt) own9 (by omega) (n:Int) (by omega);refine reg fun K hn hp=> ?_;simp only [sy.1,rE,reduceIte,rL,g3,s9,jJ,bs75',p1];refine hn _ _ (B1 _ ?_);refine reg fun K hn hp=> ?_;simp only [sy.1,rE,reduceIte,rL,g10,qE hk (show w.ts.length<=9223372036854775807 by omega)];apply hn;refine ⟨⟨k+1,z',h7,_,rfl,by omega,(by simp [xZY,g1]),(by simp [xZY]),(by simp [xZY,g8]),(by simp [xZY,g9]),(by simp [xZY]),(fg.trans f9 fg.lo).trans p3 (xZX _),?_⟩,by simpa [xZY,muA] using (by omega:w.ts.length - (k+1)<w.ts.length - k)⟩;have e9:w.wds[k]? =some (n:Int):=by rw [Wk.wds,xZV,hx];rfl
   rw [List.take_succ,e9];exact p2
  ·refine qU (by simp only [sy.1,reduceIte,hk]) ?_;refine qG (A2 _ ?_);obtain rfl:k=w.ts.length:=by omega
   rw [xZU (by omega)] at own;rcases own with ⟨e,_⟩|⟨b,rfl,b1,b2,b3,b4⟩
   ·omega
   have fgh:Fr h.n h hg:=fh1.trans fg (by omega);refine qA fun K hn hp=> ?_;simp only [sy.1,rE,reduceIte,rL,g3];refine cAS (FnA.mono (sort_c xt hg b w.ts.length w.wds hl1 (by omega) t4 b2 b3) fun res h5 hres=> ?_);obtain ⟨⟨r,rfl⟩,f5,s5⟩:=hres;simp only [sy.1,rL];apply hn;refine reg fun K hn hp=> ?_;simp only [sy.1,rE,reduceIte,rL,g3];have l5:=f5.le;refine cAS (FnA.mono (compact_c xt h5 b w.ts.length (qBo w.wds (w.ts.length - 1)) (by rw [qCP,hl1]) (by omega) (by omega) s5) fun res h6 hres=> ?_);obtain ⟨f6,rfl,r6⟩:=hres;simp only [sy.1,rE,reduceIte,rL];have lw:w.wds.length - 1=w.ts.length - 1:=by rw [hl1]
   have f6h:Fr h.n h h6:=FrM.toFr (f5.trans f6 (by omega)) fgh (by omega) fun k e=>by subst e;omega
   apply hn;refine ⟨_,[_],rfl,by rw [res144];rfl,f6h,.sl b 0 w.ws.length 1,?_,?_,fun b' off n s e=>by cases e;omega⟩
   ·simp only [xZY,if_true,Wk.ws,lw];rfl
   ·rw [Wk.ws,lw];exact r6
 ·exact ⟨0,_,h1,_,rfl,(by omega),(by simp [xZY]),(by simp [xZY]),(by simp [xZY]),(by simp [xZY]),(by simp [xZY]),xZO (xZX _),OwnSl.nil⟩
theorem tg125:tb.get 128=some te128:=by kernel_rfl
theorem tg192:tb.get 184=some te184:=by kernel_rfl
theorem tg127:tb.get 169=some te169:=by kernel_rfl
abbrev Cg:=List (Int×Int×Int)×Int
theorem Cuts.one {xt:Xt} {h:Hp} {v:AV} {ls:List (Int×Int×Int)} (a:Cuts xt h v ls):Go.Ev.one v=true:=a.row.one
theorem Cuts.cells {xt:Xt} {h:Hp} {v:AV} {ls:List (Int×Int×Int)} (a:Cuts xt h v ls):cellsOf v=[v]:=a.row.cells
theorem Cuts.nil {xt:Xt} {h:Hp}:Cuts xt h (.val (.slice none 0 0)) []:=⟨⟨by simp,by omega,.inl ⟨rfl,rfl⟩⟩,by simp,fun _ _ _ e=>by cases e;exact xZX _⟩
def qAL (es:List (AV×Cg)):List AV:=es.flatMap fun e=>[e.1,iv e.2.2]
theorem qFL: ∀{es:List (AV×Cg)} {i:Nat} {e:AV×Cg},es[i]? =some e->(qAL es)[i*2]? =some e.1/\(qAL es)[i*2+1]? =some (iv e.2.2)
 |[],i,e,h=>by simp at h
 |x::es,0,e,h=>by
  simp only [List.getElem?_cons_zero,Option.some.injEq] at h;subst h;exact ⟨rfl,rfl⟩
 |x::es,i+1,e,h=>by
  have:=qFL (es:=es) (i:=i) (e:=e) (by simpa using h);have e1:(i+1)*2=i*2+2:=by omega
  rw [e1];exact this
structure CRows (xt:Xt) (h:Hp) (N:Nat) (v:AV) (es:List (AV×Cg)):Prop where
 own:OwnSl h N 2 128 v es.length (qAL es)
 at_: ∀e∈es,Cuts xt h e.1 e.2.1/\xR v e.1
theorem CRows.fr {xt:Xt} {h h':Hp} {N:Nat} {v:AV} {es:List (AV×Cg)} (r:CRows xt h N v es) {M:Nat} (f:Fr M h h') (hM:h.n<=M):CRows xt h' N v es:=⟨r.own.fr f hM,fun e he=>⟨(r.at_ e he).1.fr f hM,(r.at_ e he).2⟩⟩
theorem CRows.up {xt:Xt} {h:Hp} {N:Nat} {v:AV} {es:List (AV×Cg)} (r:CRows xt h N v es) {k:Nat} (hk:h.n<=k):CRows xt (h.up k) N v es:=r.fr (Fr.up (xZO (xZX _)) hk) (xZX _)
theorem CRows.len {xt:Xt} {h:Hp} {N:Nat} {v:AV} {es:List (AV×Cg)} (r:CRows xt h N v es) (h':Hp):zI tb h' 184 v=some es.length:=r.own.len tg192 rfl
theorem CRows.one {xt:Xt} {h:Hp} {N:Nat} {v:AV} {es:List (AV×Cg)} (r:CRows xt h N v es):Go.Ev.one v=true:=r.own.one
theorem CRows.cells {xt:Xt} {h:Hp} {N:Nat} {v:AV} {es:List (AV×Cg)} (r:CRows xt h N v es):cellsOf v=[v]:=r.own.cells
theorem CRows.idx {xt:Xt} {h:Hp} {N:Nat} {v:AV} {es:List (AV×Cg)} (r:CRows xt h N v es) {i:Nat} {e:AV×Cg} (he:es[i]? =some e):
  ∃b,qM tb 184 v (iv (i:Int))=some (.ptr b (i*2))/\N<=b/\b<h.n/\ ∀h':Hp,h'.t.get b=h.t.get b->zR 2 (h'.t.get b) (i*2)=some (.agg [e.1,iv e.2.2]):=by
 have hi:=(xZZ.1 he).1;obtain ⟨b,h1,h2,h3,h4,h5⟩:=r.own.idx tg192 rfl tg125 rfl hi (k:= .i64);refine ⟨b,h1,h2,h3,fun h' hh=> ?_⟩;obtain ⟨q1,q2⟩:=qFL he;rw [hh,h4];have e1:(qAL es).drop (i*2)=e.1::iv e.2.2::(qAL es).drop (i*2+1+1):=by
  have a1:=(xZZ.1 q1);have a2:=(xZZ.1 q2);rw [xZQ a1.1,a1.2,xZQ a2.1,a2.2]
 have e2:i*2+2<=(qAL es).length:=by omega
 simp [zR,e1,e2]
theorem CRows.append {xt:Xt} {h:Hp} {N:Nat} {v:AV} {es:List (AV×Cg)} (r:CRows xt h N v es) (hN:N<=h.n) {z:AV} {c:Cg} (hz:Cuts xt h z c.1) (hap:xR v z) (hl:es.length<=1000000):
  ∃v' h',qT Tryz.prog tb xt .append [184,184] [v,.sl h.n 0 1 2] (h.new (.cells [z,iv c.2] 128))=some (v',h')/\CRows xt h' N v' (es++[(z,c)])/\Fr N h h'/\v'= .sl (h.n+1) 0 (es.length+1) 2/\(∀k,k<h.n->(∀off n s,v≠ .sl k off n s)->h'.t.get k=h.t.get k)/\h'.n=h.n+2:=by
 have oz:=hz.one;have own1:=r.own.new (.cells [z,iv c.2] 128);obtain ⟨h',p1,p2,p3,p4,p5⟩:=own1.append2 (P:=Tryz.prog) (xt:=xt) (x:= .sl h.n 0 1 2) (m:=1) (cz:=[z,iv c.2]) (by simp only [Hp.new_n];omega) tg192 rfl tg125 rfl (show te128.bytes=32 from rfl) tg192 rfl (vU (e:=128) (uI _ _) rfl (by simp [oz];rfl)) (by omega) rfl (by omega) (by omega);have hlow: ∀k,k<h.n->(∀off n s,v≠ .sl k off n s)->h'.t.get k=h.t.get k:=fun k hk hv=>by
  rw [p5 k (by simp only [Hp.new_n];omega) hv,gH _ _ hk]
 have hn':h'.n=h.n+2:=by rw [p4,Hp.new_n]
 have keep: ∀{z':AV} {l:List (Int×Int×Int)},Cuts xt h z' l->xR v z'->Cuts xt h' z' l/\xR (.sl (h.n+1) 0 (es.length+1) 2) z':=fun {z' l} hr hp=>by
  refine ⟨⟨hr.row.keepB (by omega) fun b off n s hv hb=>hlow b hb fun off' n' s' hq=>hp b off n s hv off' n' s' hq,hr.lt,hr.cap⟩,fun b off n s hv off' n' s' hq=> ?_⟩;have:=hr.row.lt hv;cases hq;omega
 refine ⟨_,h',p1,⟨?_,fun e he=> ?_⟩,((xZO hN).new _).trans p3 (xZX _),rfl,hlow,hn'⟩
 ·have e1:qAL (es++[(z,c)])=qAL es++[z,iv c.2]:=by simp [qAL]
  rw [e1,List.length_append];exact p2
 ·rcases List.mem_append.1 he with he|he
  ·obtain ⟨q1,q2⟩:=r.at_ e he;exact keep q1 q2
  ·rw [List.mem_singleton] at he;subst he;exact keep hz hap
def cmpF:List (Int×Int×Int)->List (Int×Int×Int)->Int
 |[],[]=>0
 |[],_::_=> -1
 |_::_,[]=>1
 |a::l,b::m=>if bef a b=0 then cmpF l m else bef a b
def bet (a b:Cg):Bool:=decide (orL [cmpI b.2 a.2,cmpI a.1.length b.1.length,cmpF a.1 b.1]<0)
set_option maxHeartbeats 4000000
def Inn (v:AV):Prop:= ∀ad n c,v≠ .val (.slice (some ad) n c)
theorem row_src {xt:Xt} {h:Hp} {sz:Nat} {v:AV} {cs:List (List Value)} (r:RowAt xt h sz v cs) (hi:Inn v) (ho: ∀c∈cs,∀u∈c,Go.Ev.one (.val u)=true):gS xt h sz v=some (cs.length,cs.flatten.map .val):=by
 obtain ⟨h1,h2,h3⟩:=r;rcases h3 with ⟨rfl,rfl⟩|⟨ad,cap,rfl,_⟩|⟨b,off,av,e',rfl,⟨q1,q2,q3⟩,hx⟩
 ·rfl
 ·exact absurd rfl (hi _ _ _)
 ·have hfl:=qCV cs h1;have key:(av.drop off).take (cs.length*sz)=cs.flatten.map .val:=by
   refine List.ext_getElem? fun p=> ?_;rw [xZM,List.getElem?_drop,xZV];by_cases hp:p<cs.length*sz
   ·rw [if_pos hp];have hi:p / sz<cs.length:=(Nat.div_lt_iff_lt_mul h2).2 hp;have hj:p % sz<sz:=Nat.mod_lt _ h2;have ep:p / sz*sz+p % sz=p:=by rw [Nat.mul_comm];exact Nat.div_add_mod p sz
    obtain ⟨c,hc⟩: ∃c,cs[p / sz]? =some c:=⟨_,xZP hi⟩;have hcl:=h1 c (xZN hc);obtain ⟨u,hu⟩: ∃u,c[p % sz]? =some u:=⟨_,xZP (by omega)⟩;have e1:=hx _ _ hc _ _ hu;have e2:=qAK cs _ _ _ _ h1 hc hu;rw [ep] at e1 e2;rw [e1,e2];rfl
   ·rw [if_neg hp,List.getElem?_eq_none (by rw [hfl];omega)];rfl
  have hall:(cs.flatten.map AV.val).all Go.Ev.one=true:=by
   rw [xZS];intro x hx';obtain ⟨u,hu,rfl⟩:=xZW.1 hx';obtain ⟨c,hc,huc⟩:=List.mem_flatten.1 hu;exact ho c hc u huc
  have b1:Nat.ble (off+cs.length*sz) av.length=true:=by rw [xZT];exact q2
  simp only [gS,q3,key,Nat.beq_refl,b1,hall,Bool.and_self,cond_true]
def kL (ls:List (Int×Int×Int)):List AV:=(ls.map t3).flatten.map .val
theorem pP (ls:List (Int×Int×Int)):(kL ls).length=ls.length*3:=by
 rw [kL,xZR,qCV (sz:=3) _ (fun c hc=>by obtain ⟨x,_,rfl⟩:=xZW.1 hc;rfl),xZR]
theorem qDt (l m:List (Int×Int×Int)):kL (l++m)=kL l++kL m:=by simp [kL]
theorem Cuts.src {xt:Xt} {h:Hp} {v:AV} {ls:List (Int×Int×Int)} (a:Cuts xt h v ls) (hi:Inn v):gS xt h 3 v=some (ls.length,kL ls):=by
 have:=row_src a.row hi (fun c hc u hu=>by
  obtain ⟨x,_,rfl⟩:=xZW.1 hc;simp only [Kn.t3,List.mem_cons,List.not_mem_nil,or_false] at hu;rcases hu with rfl|rfl|rfl<;>rfl)
 rw [xZR] at this;exact this
def GrowAt (h:Hp) (N:Nat) (v:AV) (ls:List (Int×Int×Int)):Prop:=
 (v= .val (.slice none 0 0)/\ls=[])\/ ∃b cs,v= .sl b 0 ls.length 3/\N<=b/\b<h.n/\h.t.get b=some (.cells cs 63)/\ls.length*3<=cs.length/\cs.take (ls.length*3)=kL ls
theorem GrowAt.cuts {xt:Xt} {h:Hp} {N:Nat} {v:AV} {ls:List (Int×Int×Int)} (g:GrowAt h N v ls) (hl:ls.length<=1000000):Cuts xt h v ls/\Inn v:=by
 rcases g with ⟨rfl,rfl⟩|⟨b,cs,rfl,h1,h2,h3,h4,h5⟩
 ·exact ⟨Cuts.nil,fun _ _ _ e=>by cases e⟩
 ·refine ⟨⟨⟨fun c hc=>by obtain ⟨x,_,rfl⟩:=xZW.1 hc;rfl,by omega,.inr (.inr ⟨b,0,cs,63,by simp,⟨h2,by simpa using h4,h3⟩,fun i c hi j u hu=> ?_⟩)⟩,by omega,fun _ _ _ e=>by cases e⟩,fun _ _ _ e=>by cases e⟩;have hil:i<ls.length:=by have:=(xZZ.1 hi).1;simpa using this
  have hjl:j<3:=by
   have:=(xZZ.1 hu).1;obtain ⟨x,_,rfl⟩:=xZW.1 (xZN hi);exact this
  have e1:=qAK (sz:=3) (ls.map Kn.t3) i j c u (fun c hc=>by obtain ⟨x,_,rfl⟩:=xZW.1 hc;rfl) hi hu;have e2:(kL ls)[i*3+j]? =some (.val u):=by rw [kL,xZV,e1];rfl
  rw [<-h5,xZM,if_pos (by omega)] at e2;rw [Nat.zero_add];exact e2
theorem GrowAt.append {xt:Xt} {h:Hp} {N:Nat} {v x:AV} {l m:List (Int×Int×Int)} (g:GrowAt h N v l) (hN:N<=h.n) (hm:Cuts xt h x m) (hi:Inn x) (hl:l.length+m.length<=1000000):
  ∃v' h',qT Tryz.prog tb xt .append [65,65] [v,x] h=some (v',h')/\GrowAt h' N v' (l++m)/\Fr N h h'/\h.n<=h'.n/\ ∀k,k<N->h'.t.get k=h.t.get k:=by
 have hs:=hm.src hi;have hb:te63.bytes=24:=rfl;rcases g with ⟨rfl,rfl⟩|⟨b,cs,rfl,h1,h2,h3,h4,h5⟩
 ·cases m with
  |nil=>
   refine ⟨_,h,qF3 (sz:=3) tg33 rfl bU rfl tg33 rfl (by simpa [kL] using hs),.inl ⟨rfl,rfl⟩,xZO hN,xZX _,fun _ _=>rfl⟩
  |cons s m=>
   have b0:Nat.beq (s::m).length 0=false:=rfl;have b3:Nat.ble ((s::m).length*24) 140737488355328=true:=by rw [xZT];simp only [List.length_nil] at hl;omega
   have b4:Nat.ble (s::m).length 9223372036854775807=true:=by rw [xZT];simp only [List.length_nil] at hl;omega
   have:zM tb xt h 65 65 (.val (.slice none 0 0)) x=some (.sl h.n 0 (s::m).length 3,h.new (.cells (kL (s::m)) 63)):=by
    unfold zM;have d33:te65.d= .slice 63:=rfl;have z61:te63.size=3:=rfl;simp only [tg33,d33,bU,z61,hs,b0,hb,b3,b4];simp
   refine ⟨.sl h.n 0 (s::m).length 3,h.new (.cells (kL (s::m)) 63),by simp only [qT,this],.inr ⟨h.n,_,by simp,hN,Nat.lt_succ_self _,uI _ _,?_,?_⟩,Fr.new (xZO hN) _,Nat.le_succ _,fun k hk=>gH _ _ (by omega)⟩
   ·rw [pP];simp
   ·rw [List.nil_append,xZU (by rw [pP];simp)]
 ·have b1:Nat.ble (l.length*3) cs.length=true:=by rw [xZT];exact h4
  have b3:Nat.ble ((l.length+m.length)*24) 140737488355328=true:=by rw [xZT];omega
  have b4:Nat.ble (l.length+m.length) 9223372036854775807=true:=by rw [xZT];omega
  have:zM tb xt h 65 65 (.sl b 0 l.length 3) x=some (.sl h.n 0 (l.length+m.length) 3,(h.del b).new (.cells (kL (l++m)) 63)):=by
   unfold zM;have d33:te65.d= .slice 63:=rfl;have z61:te63.size=3:=rfl;simp only [tg33,d33,bU,z61,hs,h3,hb,b1,b3,b4,h5,<-qDt];simp
  refine ⟨.sl h.n 0 (l.length+m.length) 3,(h.del b).new (.cells (kL (l++m)) 63),by simp only [qT,this],.inr ⟨h.n,kL (l++m),by simp,hN,Nat.lt_succ_self _,by simp [Hp.new_t,Hp.del_t,Hp.del_n,xZY],?_,?_⟩,Fr.new ((xZO hN).del h1 h2) _,Nat.le_succ _,fun k hk=> ?_⟩
  ·rw [pP];simp
  ·rw [xZU (by rw [pP];simp)]
  ·simp only [Hp.new_t,Hp.del_t,Hp.del_n,xZY];rw [if_neg (by omega),if_neg (by omega)]
end Go.Proofs.Kn
