/- MvN1, MvN2, MvN3, MvN4: texts in a row, joined by a program. -/
import Derived.Test.YtnmfblokfponlaaGreatDoorQY1
set_option linter.all false
open Nat renaming reduceEqDiff → rE, reduceLeDiff → rD, reduceAdd → rA, reduceMul → rM, reduceLT → rL
open Go.Ev.T renaming get_put → xZZ
open Nat renaming le_refl → xZY, add_assoc → xZT
open Go.Ev.Hp renaming up_up → xZX
open List renaming getElem?_eq_some_iff → xZW, getElem?_eq_getElem → xZU, getElem?_map → xZS
open Go.Ev.Fr renaming refl → xZV
namespace Go.Proofs.Kn
open Go Go.Ev
set_option maxRecDepth 100000
set_option maxHeartbeats 4000000
theorem al61 (h:Hp):jU tb h 61=some (.ptr h.n 0,h.new (.cells (([(.int .i64 0),(.int .i64 0),(.int .i64 0)]:List Value).map .val) 61)):=yC gE rfl
theorem Wk.At.tubs {w:Wk} {xt:Addr->Option Value} {h:Hp} (ha:w.At xt h) {q:Nat} {n th wo:Int} (hx:w.ts[q]? =some (n,th,wo)):
  qM Kn.tb 28 w.vt (iv (q:Int))=some (elp w.vt (q*3))/\qP Kn.tb 90 (elp w.vt (q*3)) 0=some (elp w.vt (q*3))/\qP Kn.tb 90 (elp w.vt (q*3)) 1=some (elp w.vt (q*3+1))/\qP Kn.tb 90 (elp w.vt (q*3)) 2=some (elp w.vt (q*3+2))/\
  ∀h',Fr h.n h h'->qT Kn.tb xt h' 3 (elp w.vt (q*3))=some (iv n)/\qT Kn.tb xt h' 3 (elp w.vt (q*3+1))=some (iv th)/\qT Kn.tb xt h' 3 (elp w.vt (q*3+2))=some (iv wo):=by
 have hq:q<w.ts.length:=(xZW.1 hx).1;have hne:w.ts.map Kn.t3≠[]:=by intro e;have:=congrArg List.length e;simp at this;rw [this] at hq;simp at hq
 refine ⟨ha.ts.idx gX rfl kR rfl (i:=q) (by simpa using hq) (k:= .i64),?_,?_,?_,fun h' f=> ?_⟩
 ·simpa using ha.ts.fa hne kR rfl (f:=0) (o:=0) (s:=0) (ft:=3) rfl (q*3)
 ·exact ha.ts.fa hne kR rfl (f:=1) (o:=1) (s:=0) (ft:=3) rfl (q*3)
 ·exact ha.ts.fa hne kR rfl (f:=2) (o:=2) (s:=0) (ft:=3) rfl (q*3)
 have ha':=ha.fr f (xZY _);have hc:(w.ts.map Kn.t3)[q]? =some (Kn.t3 (n,th,wo)):=by rw [xZS,hx];rfl
 refine ⟨?_,?_,?_⟩
 ·exact ha'.ts.load0 tg3 rfl (i:=q) hc rfl
 ·exact ha'.ts.load tg3 rfl (i:=q) (j:=1) hc rfl
 ·exact ha'.ts.load tg3 rfl (i:=q) (j:=2) hc rfl
def capOk (v:AV):Prop:= ∀ad n c,v= .val (.slice ad n c)->n<=c
structure Cuts (xt:Addr->Option Value) (h:Hp) (v:AV) (ls:List (Int×Int×Int)):Prop where
 row:RowAt xt h 3 v (ls.map t3)
 lt:ls.length<=9223372036854775807
 cap:capOk v
theorem Cuts.fr {xt:Addr->Option Value} {h h':Hp} {v:AV} {ls:List (Int×Int×Int)} (a:Cuts xt h v ls) {M:Nat} (f:Fr M h h') (hM:h.n<=M):Cuts xt h' v ls:=⟨a.row.fr f hM,a.lt,a.cap⟩
theorem Cuts.up {xt:Addr->Option Value} {h:Hp} {v:AV} {ls:List (Int×Int×Int)} (a:Cuts xt h v ls) {n:Nat} (hn:h.n<=n):Cuts xt (h.up n) v ls:=⟨a.row.up hn,a.lt,a.cap⟩
theorem Cuts.len {xt:Addr->Option Value} {h:Hp} {v:AV} {ls:List (Int×Int×Int)} (a:Cuts xt h v ls) (h':Hp):vC tb h' 33 v=some ls.length:=by
 have:=a.row.len (h':=h') tg33 rfl;simpa using this
theorem Cuts.at_ {xt:Addr->Option Value} {h:Hp} {v:AV} {ls:List (Int×Int×Int)} (a:Cuts xt h v ls) {i:Nat} {s:Int×Int×Int} (hx:ls[i]? =some s):
  qM tb 33 v (iv (i:Int))=some (elp v (i*3))/\qT tb xt h 61 (elp v (i*3))=some (pJ s)/\qP tb 61 (elp v (i*3)) 2=some (elp v (i*3+2))/\qT tb xt h 3 (elp v (i*3+2))=some (iv s.2.2):=by
 have hq:i<ls.length:=(xZW.1 hx).1;have hne:ls.map Kn.t3≠[]:=by intro e;have:=congrArg List.length e;simp at this;rw [this] at hq;simp at hq
 have hc:(ls.map Kn.t3)[i]? =some (Kn.t3 s):=by rw [xZS,hx];rfl
 refine ⟨a.row.idx tg33 rfl gE rfl (i:=i) (by simpa using hq) (k:= .i64),?_,a.row.fa hne gE rfl (f:=2) (o:=2) (s:=0) (ft:=3) rfl (i*3),a.row.load tg3 rfl (i:=i) (j:=2) hc rfl⟩;exact a.row.loadA gE rfl rfl hc
theorem ft101 (xt:Addr->Option Value):(SE xt).ft.get 101=some Tryz.f101:=by kernel_rfl
theorem res101:Tryz.f101.results.toList=[.tmp 6]:=by kernel_rfl
theorem value_c (xt:Addr->Option Value) (h:Hp) (w:Wk) (ha:w.At xt h) (v:AV) (hv:Go.Ev.one v=true) (a b:Int) (q:Nat) (n th wo:Int) (hx:w.ts[q]? =some (n,th,wo)) (m:Int) (hw1: -9223372036854775808<=wo*m) (hw2:wo*m<=9223372036854775807)
  {K:CR->Hp->Prop} (hk: ∀k,h.n<k->K (.ret (iv (wo*m))) (h.up k)):FnA (SE xt) 101 [.agg (w.bc v),pJ (a,b,(q:Int)),iv m] h K:=by
 refine FnA.calm ?_ hk;clear hk K;refine FnA.walk (sok xt) (ft101 xt) rfl 17 rfl ?_;obtain ⟨o1,o2,o3,o4,o5⟩:=ha.ones;obtain ⟨i1,_,_,i4,ld⟩:=ha.tubs hx;refine qA fun K hn hp=> ?_;simp only [sw.1,rE,reduceIte,rL,rA];apply hn;obtain ⟨h1,hh1⟩: ∃h1:Hp,h1=h.new (.cells (w.bc v) 121):=⟨_,rfl⟩;rw [<-hh1];have nh1:h1.n=h.n+1:=by rw [hh1];rfl
 have sh1:h1.t.get h.n=some (.cells (w.bc v) 121):=by rw [hh1];exact qY _ _
 have kh1: ∀k,k<h.n->h1.t.get k=h.t.get k:=fun k hk=>by rw [hh1];exact jA _ _ hk
 have fbh1:Fr h.n h h1:=by rw [hh1];exact (xZV (xZY _)).new _
 have fh1:=fbh1;obtain ⟨h2,hh2⟩: ∃h2:Hp,h2=h1.new (.cells [iv a,iv b,iv q] 61):=⟨_,rfl⟩;rw [<-hh2];have nh2:h2.n=h1.n+1:=by rw [hh2];rfl
 have sh2:h2.t.get h1.n=some (.cells [iv a,iv b,iv q] 61):=by rw [hh2];exact qY _ _
 have kh2: ∀k,k<h1.n->h2.t.get k=h1.t.get k:=fun k hk=>by rw [hh2];exact jA _ _ hk
 have fbh2:Fr h1.n h1 h2:=by rw [hh2];exact (xZV (xZY _)).new _
 have fh2:Fr h.n h h2:=fh1.trans fbh2 (by omega);simp only [nh1,xZT,rA] at nh2 sh2 kh2;have s1:=(kh2 h.n (by omega)).trans sh1;obtain ⟨_,_,l3⟩:=ld h2 fh2;have w3:IntKind.i64.wrap (wo*m)=wo*m:=qK _ (by omega) (by omega);refine qA fun K hn hp=> ?_;simp only [sy.1,rE,reduceIte,rL,i1,i4,sh2,s1,l3,w3];refine hn _ _ (qE (qN res101 ⟨?_,fh2⟩));simp [xZZ]
def Wk.apt (w:Wk) (a b:Int×Int×Int):Bool:=
 if a.1=b.1 then decide ((w.tb a.2.2.toNat).1=(w.tb b.2.2.toNat).1) && decide (a.2.1+(w.tb a.2.2.toNat).1<=b.2.1) else decide (a.1+(w.tb a.2.2.toNat).1<=b.1)
theorem ft77 (xt:Addr->Option Value):(SE xt).ft.get 77=some Tryz.f77:=by kernel_rfl
theorem res77:Tryz.f77.results.toList=[.tmp 6]:=by kernel_rfl
theorem rapart_c (xt:Addr->Option Value) (h:Hp) (w:Wk) (ha:w.At xt h) {qa qb na nb:Nat} {ta tb' wa wb:Int} (hta:Tub w qa na ta wa) (htb:Tub w qb nb tb' wb) (ra ca rb cb:Int) (b1: -100<=ra) (b2:ra<=100) (b3: -100<=ca) (b4:ca<=100)
  {K:CR->Hp->Prop} (hk: ∀k,h.n<k->K (.ret (.val (.bool (w.apt (ra,ca,(qa:Int)) (rb,cb,(qb:Int)))))) (h.up k)):FnA (SE xt) 77 [w.av,pJ (ra,ca,(qa:Int)),pJ (rb,cb,(qb:Int))] h K:=by
 refine FnA.calm ?_ hk;clear hk K;refine FnA.walk (sok xt) (ft77 xt) rfl 47 rfl ?_;obtain ⟨o1,o2,o3,o4,o5⟩:=ha.ones;obtain ⟨i1,i2,_,_,ld⟩:=ha.tubs hta.at_;obtain ⟨j1,j2,_,_,ld'⟩:=ha.tubs htb.at_;refine qA fun K hn hp=> ?_;simp only [sw.1,rE,reduceIte,rL,rA];apply hn;obtain ⟨h1,hh1⟩: ∃h1:Hp,h1=h.new (.cells w.cs 30):=⟨_,rfl⟩;rw [<-hh1];have nh1:h1.n=h.n+1:=by rw [hh1];rfl
 have sh1:h1.t.get h.n=some (.cells w.cs 30):=by rw [hh1];exact qY _ _
 have kh1: ∀k,k<h.n->h1.t.get k=h.t.get k:=fun k hk=>by rw [hh1];exact jA _ _ hk
 have fbh1:Fr h.n h h1:=by rw [hh1];exact (xZV (xZY _)).new _
 have fh1:=fbh1;obtain ⟨h2,hh2⟩: ∃h2:Hp,h2=h1.new (.cells [iv ra,iv ca,iv qa] 61):=⟨_,rfl⟩;rw [<-hh2];have nh2:h2.n=h1.n+1:=by rw [hh2];rfl
 have sh2:h2.t.get h1.n=some (.cells [iv ra,iv ca,iv qa] 61):=by rw [hh2];exact qY _ _
 have kh2: ∀k,k<h1.n->h2.t.get k=h1.t.get k:=fun k hk=>by rw [hh2];exact jA _ _ hk
 have fbh2:Fr h1.n h1 h2:=by rw [hh2];exact (xZV (xZY _)).new _
 have fh2:Fr h.n h h2:=fh1.trans fbh2 (by omega);simp only [nh1,xZT,rA] at nh2 sh2 kh2;obtain ⟨h3,hh3⟩: ∃h3:Hp,h3=h2.new (.cells [iv rb,iv cb,iv qb] 61):=⟨_,rfl⟩;rw [<-hh3];have nh3:h3.n=h2.n+1:=by rw [hh3];rfl
 have sh3:h3.t.get h2.n=some (.cells [iv rb,iv cb,iv qb] 61):=by rw [hh3];exact qY _ _
 have kh3: ∀k,k<h2.n->h3.t.get k=h2.t.get k:=fun k hk=>by rw [hh3];exact jA _ _ hk
 have fbh3:Fr h2.n h2 h3:=by rw [hh3];exact (xZV (xZY _)).new _
 have fh3:Fr h.n h h3:=fh2.trans fbh3 (by omega);simp only [nh2,xZT,rA] at nh3 sh3 kh3;have s1:=(kh3 h.n (by omega)).trans ((kh2 h.n (by omega)).trans sh1);have s2:=(kh3 (h.n+1) (by omega)).trans sh2;obtain ⟨l3,_,_⟩:=ld h3 fh3;obtain ⟨l4,_,_⟩:=ld' h3 fh3;have n3:=hta.n3;have w1:IntKind.i64.wrap (ra+(na:Int))=ra+na:=qK _ (by omega) (by omega);have w2:IntKind.i64.wrap (ca+(na:Int))=ca+na:=qK _ (by omega) (by omega);refine jR (sok xt) 16 (by kernel_rfl) fun K hn hp=> ?_;simp only [sy.1,rE,reduceIte,rL,i1,i2,j1,j2,sh3,s1,s2,l3,l4];apply hn;refine qD ?_;by_cases e:ra=rb
 ·have e':decide (ra=rb)=true:=decide_eq_true e;refine qA fun K hn hp=> ?_;simp only [sy.1,rE,reduceIte,rL,sh3,s2,e'];apply hn;refine qC true (by simp only [sy.1,rE,reduceIte]) (fun _=> ?_) (fun hx=>by cases hx);refine qD ?_;refine qA fun K hn hp=> ?_;simp only [sy.1,rE,reduceIte,rL];cases q:decide ((na:Int)=nb)
  ·simp only [sy.1,rE,reduceIte,rL];refine hn _ _ (qX (qN res77 ⟨?_,fh3⟩));simp [xZZ,Wk.apt,hta.tb,htb.tb,e,q]
  ·simp only [sy.1,rE,reduceIte,rL,sh3,s2,w2];refine hn _ _ (qX (qN res77 ⟨?_,fh3⟩));simp [xZZ,Wk.apt,hta.tb,htb.tb,e,q]
 ·have e':decide (ra=rb)=false:=decide_eq_false e;refine qA fun K hn hp=> ?_;simp only [sy.1,rE,reduceIte,rL,sh3,s2,e'];apply hn;refine qC false (by simp only [sy.1,rE,reduceIte]) (fun hx=>by cases hx) (fun _=> ?_);refine qG ?_;refine qA fun K hn hp=> ?_;simp only [sy.1,rE,reduceIte,rL,sh3,s2,w1];apply hn;refine qE (qN res77 ⟨?_,fh3⟩);simp [xZZ,Wk.apt,hta.tb,e]
def sumTo (l:List Int):Nat->Int
 |0=>0
 |k+1=>sumTo l k+l.getD k 0
end Go.Proofs.Kn
namespace Go.Proofs.Kn
open Go Go.Ev
set_option maxRecDepth 100000
set_option maxHeartbeats 4000000
abbrev b0:Int×Int×Int:=(0,0,0)
def Wk.one1 (w:Wk) (ls:List (Int×Int×Int)) (i:Nat):Bool:=w.isT (ls.getD i b0) && (w.pcan (ls.getD i b0) && (List.range i).all fun k=>w.apt (ls.getD k b0) (ls.getD i b0))
def Wk.cut (w:Wk) (ls:List (Int×Int×Int)):Bool:=(List.range ls.length).all (w.one1 ls)
theorem cut_no {w:Wk} {ls:List (Int×Int×Int)} {i:Nat} (hi:i<ls.length) (h:w.one1 ls i=false):w.cut ls=false:=by
 unfold Wk.cut;exact yQ hi h
theorem cut_yes {w:Wk} {ls:List (Int×Int×Int)} (h: ∀i,i<ls.length->w.one1 ls i=true):w.cut ls=true:=by
 unfold Wk.cut;rw [uT];exact h
theorem wE {ls:List (Int×Int×Int)} {i:Nat} {s:Int×Int×Int} (h:ls[i]? =some s):ls.getD i b0=s:=by
 rw [List.getD_eq_getElem?_getD,h];rfl
theorem one1_T {w:Wk} {ls:List (Int×Int×Int)} {i:Nat} {s:Int×Int×Int} (hs:ls[i]? =some s) (h:w.isT s=false):w.one1 ls i=false:=by
 simp only [Wk.one1,wE hs,h,Bool.false_and]
theorem one1_P {w:Wk} {ls:List (Int×Int×Int)} {i:Nat} {s:Int×Int×Int} (hs:ls[i]? =some s) (h:w.pcan s=false):w.one1 ls i=false:=by
 simp only [Wk.one1,wE hs,h,Bool.false_and,Bool.and_false]
theorem one1_A {w:Wk} {ls:List (Int×Int×Int)} {i k:Nat} {s a:Int×Int×Int} (hs:ls[i]? =some s) (hk:k<i) (ha:ls[k]? =some a) (h:w.apt a s=false):w.one1 ls i=false:=by
 have:((List.range i).all fun k=>w.apt (ls.getD k b0) (ls.getD i b0))=false:=yQ hk (by rw [wE hs,wE ha];exact h);simp only [Wk.one1,this,Bool.and_false]
theorem one1_yes {w:Wk} {ls:List (Int×Int×Int)} {i:Nat} {s:Int×Int×Int} (hs:ls[i]? =some s) (h1:w.isT s=true) (h2:w.pcan s=true) (h3: ∀k,k<i->w.apt (ls.getD k b0) s=true):w.one1 ls i=true:=by
 simp only [Wk.one1,wE hs,h1,h2,Bool.true_and];rw [uT];exact h3
theorem one1_is {w:Wk} {ls:List (Int×Int×Int)} {i:Nat} {s:Int×Int×Int} (hs:ls[i]? =some s) (h:w.one1 ls i=true):w.isT s=true/\w.pcan s=true/\ ∀k,k<i->w.apt (ls.getD k b0) s=true:=by
 simp only [Wk.one1,Bool.and_eq_true,uT,wE hs] at h;exact h
theorem one1_in {w:Wk} (his:w.Is) {ls:List (Int×Int×Int)} {i:Nat} {s:Int×Int×Int} (hs:ls[i]? =some s) (h:w.one1 ls i=true): ∃(r0 c0 q n:Nat) (th wo:Int),s=((r0:Int),(c0:Int),(q:Int))/\Tub w q n th wo/\r0+n<=w.m.cells.length/\c0+n<=w.m.W:=by
 obtain ⟨h1,h2,_⟩:=one1_is hs h;obtain ⟨q,n,th,wo,hq,ht⟩:=his.tub' h1;obtain ⟨a,b,c⟩:=s;simp only at hq;subst hq;obtain ⟨r0,c0,rfl,rfl,h3,h4⟩:=Wk.pcan_in ht h2;exact ⟨r0,c0,q,n,th,wo,rfl,ht,h3,h4⟩
theorem ft22 (xt:Addr->Option Value):(SE xt).ft.get 22=some Tryz.f22:=by kernel_rfl
theorem res22:Tryz.f22.results.toList=[.tmp 4]:=by kernel_rfl
theorem rcut_c (xt:Addr->Option Value) (h:Hp) (w:Wk) (ha:w.At xt h) (his:w.Is) (v:AV) (ls:List (Int×Int×Int)) (hl:Cuts xt h v ls)
  {K:CR->Hp->Prop} (hk: ∀k,h.n<k->K (.ret (.val (.bool (w.cut ls)))) (h.up k)):FnA (SE xt) 22 [w.av,v] h K:=by
 refine FnA.calm ?_ hk;clear hk K;refine FnA.walk (sok xt) (ft22 xt) rfl 46 rfl ?_;obtain ⟨o1,o2,o3,o4,o5⟩:=ha.ones;have hlen:=hl.len;have hlt:=hl.lt;have hr6:=his.m.r6;have hc8:=his.m.c8;refine qA fun K hn hp=> ?_;simp only [sw.1,rE,reduceIte,rL];apply hn;clear hn hp K;obtain ⟨h1,hh1⟩: ∃h1:Hp,h1=h.new (.cells w.cs 30):=⟨_,rfl⟩;rw [<-hh1];have nh1:h1.n=h.n+1:=by rw [hh1];rfl
 have sh1:h1.t.get h.n=some (.cells w.cs 30):=by rw [hh1];exact qY _ _
 have kh1: ∀k,k<h.n->h1.t.get k=h.t.get k:=fun k hk=>by rw [hh1];exact jA _ _ hk
 have fbh1:Fr h.n h h1:=by rw [hh1];exact (xZV (xZY _)).new _
 have fh1:=fbh1;have ha1:=ha.fr fh1 (xZY _);have hl1:=hl.fr fh1 (xZY _);refine qD ?_;refine qA fun K hn hp=> ?_;simp only [sy.1,rL];apply hn;clear hn hp K;refine qF fun KA A1 A2 A3 A4 A5=> ?_;refine qQ (sok xt) (fun st=> ∃(i:Nat) (m:Nat) (tm:T AV),st=⟨tm,46,h1.up m,[]⟩/\i<=ls.length/\tm.get 1=some (v)/\tm.get 2=some (.ptr h.n 0)/\tm.get 5=some (iv i)/\h1.n<=m/\ ∀j,j<i->w.one1 ls j=true) (fun st=>ls.length - (match st.tm.get 5 with|some (.val (.int _ n))=>n.toNat|_=>0)) ?_ ?_
 ·rintro st ⟨i,m,tm,rfl,hkA,g1,g2,g5,hm,hall⟩;have muA:=g5;refine qD ?_;refine qA fun K hn hp=> ?_;simp only [sy.1,rE,reduceIte,rL,syw.1,hlen,qZ,g1,g5];apply hn;clear hn hp K;have retF: ∀(n:Nat) (tm:T AV),h1.n<=n->tm.get 4=some (.val (.bool false))->(i<ls.length/\w.one1 ls i=false)->pG (SE xt) Tryz.f22 (fun r h'=>r= .ret (.val (.bool (w.cut ls)))/\Fr h.n h h') .ret ⟨tm,46,h1.up n,[]⟩:=fun n tm hn g hx=>qN res22 ⟨by simp [g,cut_no hx.1 hx.2],fh1.up hn⟩;by_cases hi:i<ls.length
  ·refine qC true (by simp only [sy.1,rE,reduceIte,hi]) (fun _=> ?_) (fun hx=>by cases hx);refine qG ?_;obtain ⟨s,hs⟩: ∃s,ls[i]? =some s:=⟨_,xZU hi⟩;obtain ⟨i1,i2,i3,i4⟩:=hl1.at_ hs;refine qF fun KB B1 B2 B3 B4 B5=> ?_;refine qD ?_;refine bO (sok xt) 0 0 14 [] (by kernel_rfl) fun K hn hp=> ?_;simp only [sy.1,rE,reduceIte,rL,rA,syw.1,sh1,g1,g2,g5,i1,i3,i4];refine qB (sok xt) (rtube_c xt _ w (ha1.up hm) s.2.2 fun m2 hm2=> ?_);simp only [Hp.up_n] at hm2;cases e1:w.isT s
   ·have e1':inB s.2.2 0 ((w.ts.length:Int) - 1)=false:=e1;simp only [sy.1,rE,reduceIte,rL,rA,syw.1,hm2,e1',xZX];apply hn;clear hn hp K;refine qC true (by simp only [sy.1,rE,reduceIte]) (fun _=> ?_) (fun hx=>by cases hx);refine qD ?_;refine qA fun K hn hp=> ?_;simp only [sy.1,rL];apply hn;clear hn hp K;refine qX (B4 _ (A4 _ (retF _ _ (by omega) (by simp [xZZ]) ⟨hi,one1_T hs e1⟩)))
   have e1':inB s.2.2 0 ((w.ts.length:Int) - 1)=true:=e1;obtain ⟨q,n,th,wo,hq,ht⟩:=his.tub' e1;obtain ⟨a,b,c⟩:=s;simp only at hq;subst hq;simp only [sy.1,rE,reduceIte,rL,rA,syw.1,sh1,g1,g2,g5,i1,hm2,e1',xZX,i2];refine qB (sok xt) (rcan_c xt _ w (ha1.up (n:=m2) (by omega)) _ _ his.m rfl a b q n th wo ht.at_ ht.n3 fun m3 hm3=> ?_);simp only [Hp.up_n] at hm3;rw [qCO his.rc _ _ _ _ _ (by omega) (by omega),<-Wk.pcan_q ht];cases e2:w.pcan (a,b,(q:Int))
   ·simp only [sy.1,rE,reduceIte,rL,xZX];apply hn;clear hn hp K;refine qC true (by simp only [sy.1,rE,reduceIte]) (fun _=> ?_) (fun hx=>by cases hx);refine qD ?_;refine qA fun K hn hp=> ?_;simp only [sy.1,rL];apply hn;clear hn hp K;refine qX (B4 _ (A4 _ (retF _ _ (by omega) (by simp [xZZ]) ⟨hi,one1_P hs e2⟩)))
   simp only [sy.1,rE,reduceIte,rL,xZX];apply hn;clear hn hp K;refine qC false (by simp only [sy.1,rE,reduceIte]) (fun hx=>by cases hx) (fun _=> ?_);refine qG ?_;obtain ⟨r0,c0,rfl,rfl,hrn,hcn⟩:=Wk.pcan_in ht e2;refine qA fun K hn hp=> ?_;simp only [sy.1,rL];apply hn;clear hn hp K;refine jO fun KD D1 D2 D3 D4 D5=> ?_;refine qQ (sok xt) (fun st=> ∃(k:Nat) (m2:Nat) (tm:T AV),st=⟨tm,46,h1.up m2,[]⟩/\k<=i/\tm.get 1=some (v)/\tm.get 2=some (.ptr h.n 0)/\tm.get 5=some (iv i)/\tm.get 6=some (iv k)/\h1.n<=m2/\ ∀j,j<k->w.apt (ls.getD j b0) ((r0:Int),(c0:Int),(q:Int))=true) (fun st=>i - (match st.tm.get 6 with|some (.val (.int _ n))=>n.toNat|_=>0)) ?_ ?_
   ·rintro st ⟨k,m2,tm,rfl,hkD,g1,g2,g5,g6,hm2,hallj⟩;have muD:=g6;refine qD ?_;refine qA fun K hn hp=> ?_;simp only [sy.1,rE,reduceIte,rL,qZ,g5,g6];apply hn;clear hn hp K;by_cases hk:k<i
    ·refine qC true (by simp only [sy.1,rE,reduceIte,hk]) (fun _=> ?_) (fun hx=>by cases hx);refine qG ?_;obtain ⟨x,hx⟩: ∃x,ls[k]? =some x:=⟨_,xZU (by omega)⟩;obtain ⟨j1,j2,_,_⟩:=hl1.at_ hx;have k2:=(hl1.at_ hs).2.1;obtain ⟨ra,ca,qa,na,ta,wa,rfl,hta,hr1,hc1⟩:=one1_in his hx (hall k hk);refine qF fun KE E1 E2 E3 E4 E5=> ?_;refine bO (sok xt) 0 0 9 [] (by kernel_rfl) fun K hn hp=> ?_;simp only [sy.1,rE,reduceIte,rL,rA,syw.1,sh1,g1,g2,g5,i1,g6,j1,j2,k2];refine qB (sok xt) (rapart_c xt _ w (ha1.up hm2) hta ht ra ca r0 c0 (by omega) (by omega) (by omega) (by omega) fun m5 hm5=> ?_);simp only [Hp.up_n] at hm5;cases e3:w.apt ((ra:Int),(ca:Int),(qa:Int)) ((r0:Int),(c0:Int),(q:Int))
     ·simp only [sy.1,rE,reduceIte,rL,xZX];apply hn;clear hn hp K;refine qH true (by simp only [sy.1,rE,reduceIte]) (fun _=> ?_) (fun hx=>by cases hx);refine qA fun K hn hp=> ?_;simp only [sy.1,rL];apply hn;clear hn hp K;refine qE (E4 _ (D4 _ (B4 _ (A4 _ (retF _ _ (by omega) (by simp [xZZ]) ⟨hi,one1_A hs hk hx e3⟩)))))
     simp only [sy.1,rE,reduceIte,rL,xZX];apply hn;clear hn hp K;refine qH false (by simp only [sy.1,rE,reduceIte]) (fun hx=>by cases hx) (fun _=> ?_);refine qU (E1 _ ?_);refine reg fun K hn hp=> ?_;simp only [sy.1,rE,reduceIte,rL,g6,qL hk (show i<=9223372036854775807 by omega)];apply hn;clear hn hp K;refine ⟨⟨k+1,m5,_,rfl,by omega,(by simp [xZZ,g1]),(by simp [xZZ,g2]),(by simp [xZZ,g5]),(by simp [xZZ]),by omega,fun j hj=> ?_⟩,by simpa [xZZ,muD] using (by omega:i - (k+1)<i - k)⟩;by_cases e:j=k
     ·rw [e,wE hx];exact e3
     ·exact hallj j (by omega)
    ·refine qC false (by simp only [sy.1,rE,reduceIte,hk]) (fun hx=>by cases hx) (fun _=> ?_);refine qO (D2 _ (B1 _ ?_));obtain rfl:i=k:=by omega
     refine reg fun K hn hp=> ?_;simp only [sy.1,rE,reduceIte,rL,g5,qL hi hlt];apply hn;clear hn hp K;refine ⟨⟨i+1,m2,_,rfl,by omega,(by simp [xZZ,g1]),(by simp [xZZ,g2]),(by simp [xZZ]),hm2,fun j hj=> ?_⟩,by simpa [xZZ,muA] using (by omega:ls.length - (i+1)<ls.length - i)⟩;by_cases e:j=i
     ·rw [e];exact one1_yes hs e1 e2 hallj
     ·exact hall j (by omega)
   ·exact ⟨0,m3,_,rfl,(by omega),(by simp [xZZ,g1]),(by simp [xZZ,g2]),(by simp [xZZ,g5]),(by simp [xZZ]),by omega,fun j hj=>absurd hj (Nat.not_lt_zero j)⟩
  ·refine qC false (by simp only [sy.1,rE,reduceIte,hi]) (fun hx=>by cases hx) (fun _=> ?_);refine qO (A2 _ ?_);obtain rfl:i=ls.length:=by omega
   refine qA fun K hn hp=> ?_;simp only [sy.1,rL];apply hn;clear hn hp K;refine qE (qN res22 ⟨?_,fh1.up hm⟩);simp [xZZ,cut_yes hall]
 ·exact ⟨0,h1.n,_,rfl,(by omega),(by simp [xZZ]),(by simp [xZZ]),(by simp [xZZ]),xZY _,fun j hj=>absurd hj (Nat.not_lt_zero j)⟩
end Go.Proofs.Kn
namespace Go.Proofs.Kn
open Go Go.Ev
set_option maxRecDepth 100000
set_option maxHeartbeats 4000000
end Go.Proofs.Kn
namespace Go.Proofs.Kn
open Go Go.Ev
set_option maxRecDepth 100000
set_option maxHeartbeats 4000000
theorem qD9 {xt:Addr->Option Value} {h:Hp} {N k:Nat} {x:AV} {l:List Int} (own:OwnSl h N 1 3 x k (ivs l)) (hN:N<=h.n) (n:Int) (hk:k<=1000000000):
  ∃(x':AV) (h7:Hp),qV Tryz.prog tb xt .append [75,75] [x,.sl h.n 0 1 1] (h.new (.cells [iv n] 3))=some (x',h7)/\OwnSl h7 N 1 3 x' (k+1) (ivs (l++[n]))/\Fr N h h7:=by
 obtain ⟨h7,p1,p2,p3,p4,p5⟩:=(own.new (.cells [iv n] 3)).append2 (P:=Tryz.prog) (xt:=xt) (x:= .sl h.n 0 1 1) (m:=1) (cz:=[iv n]) (by simp only [Hp.new_n];omega) uC rfl tg3 rfl (show te3.bytes=8 from rfl) uC rfl (pQ (e:=3) (qY _ _) rfl rfl) (by omega) rfl (by omega) (by omega);refine ⟨_,h7,p1,?_,((xZV hN).new _).trans p3 (xZY _)⟩;have:ivs (l++[n])=ivs l++[iv n]:=by simp [ivs]
 rw [this];exact p2
def Wk.vals (w:Wk) (gv:Int×Int×Int->Int) (ls:List (Int×Int×Int)):List Int:=ls.map fun s=>(w.tb s.2.2.toNat).2.2*gv s
def Wk.worth (w:Wk) (gv:Int×Int×Int->Int) (ls:List (Int×Int×Int)):Int:=sumTo (w.vals gv ls) ls.length
end Go.Proofs.Kn
