/- Parts. -/
import Derived.Test.YthimlgffanlomaaGreatDoorQX1
set_option linter.all false
open Nat renaming reduceEqDiff → rE, reduceLeDiff → rD, reduceAdd → rA, reduceMul → rM, reduceLT → rL
open Go.Ev.T renaming get_put → xZZ
open Nat renaming le_refl → xZY, add_assoc → xZU
open Go.Ev.Hp renaming up_up → xZX
open List renaming getElem?_eq_some_iff → xZW, getElem?_eq_getElem → xZV, getElem?_map → xZT
open Go.Ev.FnA renaming walk → xZS, calm → xZR
namespace Go.Proofs.Kn
open Go Go.Ev
set_option maxRecDepth 100000
set_option maxHeartbeats 4000000
theorem al61 (h:Hp):jT tb h 63=some (.ptr h.n 0,h.new (.cells (([(.int .i64 0),(.int .i64 0),(.int .i64 0)]:List Value).map .val) 63)):=yP bU rfl
theorem Wk.At.tubs {w:Wk} {xt:Xt} {h:Hp} (ha:w.At xt h) {q:Nat} {n th wo:Int} (hx:w.ts[q]? =some (n,th,wo)):
  qM Kn.tb 28 w.vt (iv (q:Int))=some (elp w.vt (q*3))/\qL Kn.tb 111 (elp w.vt (q*3)) 0=some (elp w.vt (q*3))/\qL Kn.tb 111 (elp w.vt (q*3)) 1=some (elp w.vt (q*3+1))/\qL Kn.tb 111 (elp w.vt (q*3)) 2=some (elp w.vt (q*3+2))/\
  ∀h',Fr h.n h h'->qO Kn.tb xt h' 3 (elp w.vt (q*3))=some (iv n)/\qO Kn.tb xt h' 3 (elp w.vt (q*3+1))=some (iv th)/\qO Kn.tb xt h' 3 (elp w.vt (q*3+2))=some (iv wo):=by
 have hq:q<w.ts.length:=(xZW.1 hx).1;have hne:w.ts.map Kn.t3≠[]:=by intro e;have:=congrArg List.length e;simp at this;rw [this] at hq;simp at hq
 refine ⟨ha.ts.idx qAg rfl yF rfl (i:=q) (by simpa using hq) (k:= .i64),?_,?_,?_,fun h' f=> ?_⟩
 ·simpa using ha.ts.fa hne yF rfl (f:=0) (o:=0) (s:=0) (ft:=3) rfl (q*3)
 ·exact ha.ts.fa hne yF rfl (f:=1) (o:=1) (s:=0) (ft:=3) rfl (q*3)
 ·exact ha.ts.fa hne yF rfl (f:=2) (o:=2) (s:=0) (ft:=3) rfl (q*3)
 have ha':=ha.fr f (xZY _);have hc:(w.ts.map Kn.t3)[q]? =some (Kn.t3 (n,th,wo)):=by rw [xZT,hx];rfl
 refine ⟨?_,?_,?_⟩
 ·exact ha'.ts.load0 tg3 rfl (i:=q) hc rfl
 ·exact ha'.ts.load tg3 rfl (i:=q) (j:=1) hc rfl
 ·exact ha'.ts.load tg3 rfl (i:=q) (j:=2) hc rfl
def xH (v:AV):Prop:= ∀ad n c,v= .val (.slice ad n c)->n<=c
structure Cuts (xt:Xt) (h:Hp) (v:AV) (ls:List (Int×Int×Int)):Prop where
 row:RowAt xt h 3 v (ls.map t3)
 lt:ls.length<=9223372036854775807
 cap:xH v
theorem Cuts.fr {xt:Xt} {h h':Hp} {v:AV} {ls:List (Int×Int×Int)} (a:Cuts xt h v ls) {M:Nat} (f:Fr M h h') (hM:h.n<=M):Cuts xt h' v ls:=⟨a.row.fr f hM,a.lt,a.cap⟩
theorem Cuts.up {xt:Xt} {h:Hp} {v:AV} {ls:List (Int×Int×Int)} (a:Cuts xt h v ls) {n:Nat} (hn:h.n<=n):Cuts xt (h.up n) v ls:=⟨a.row.up hn,a.lt,a.cap⟩
theorem Cuts.len {xt:Xt} {h:Hp} {v:AV} {ls:List (Int×Int×Int)} (a:Cuts xt h v ls) (h':Hp):zI tb h' 65 v=some ls.length:=by
 have:=a.row.len (h':=h') tg33 rfl;simpa using this
theorem Cuts.at_ {xt:Xt} {h:Hp} {v:AV} {ls:List (Int×Int×Int)} (a:Cuts xt h v ls) {i:Nat} {s:Int×Int×Int} (hx:ls[i]? =some s):
  qM tb 65 v (iv (i:Int))=some (elp v (i*3))/\qO tb xt h 63 (elp v (i*3))=some (qBx s)/\qL tb 63 (elp v (i*3)) 2=some (elp v (i*3+2))/\qO tb xt h 3 (elp v (i*3+2))=some (iv s.2.2):=by
 have hq:i<ls.length:=(xZW.1 hx).1;have hne:ls.map Kn.t3≠[]:=by intro e;have:=congrArg List.length e;simp at this;rw [this] at hq;simp at hq
 have hc:(ls.map Kn.t3)[i]? =some (Kn.t3 s):=by rw [xZT,hx];rfl
 refine ⟨a.row.idx tg33 rfl bU rfl (i:=i) (by simpa using hq) (k:= .i64),?_,a.row.fa hne bU rfl (f:=2) (o:=2) (s:=0) (ft:=3) rfl (i*3),a.row.load tg3 rfl (i:=i) (j:=2) hc rfl⟩;exact a.row.loadA bU rfl rfl hc
theorem ft101 (xt:Xt):(SE xt).ft.get 74=some Tryz.f74:=by kernel_rfl
theorem res101:Tryz.f74.results.toList=[.tmp 6]:=by kernel_rfl
theorem value_c (xt:Xt) (h:Hp) (w:Wk) (ha:w.At xt h) (v:AV) (hv:Go.Ev.one v=true) (a b:Int) (q:Nat) (n th wo:Int) (hx:w.ts[q]? =some (n,th,wo)) (m:Int) (hw1: -9223372036854775808<=wo*m) (hw2:wo*m<=9223372036854775807)
  {K:KP} (hk: ∀k,h.n<k->K (.ret (iv (wo*m))) (h.up k)):FnA (SE xt) 74 [.agg (w.bc v),qBx (a,b,(q:Int)),iv m] h K:=by
 refine xZR ?_ hk;clear hk K;refine xZS (sok xt) (ft101 xt) rfl 17 rfl ?_;obtain ⟨o1,o2,o3,o4,o5⟩:=ha.ones;obtain ⟨i1,_,_,i4,ld⟩:=ha.tubs hx;refine qA fun K hn hp=> ?_;simp only [sw.1,rE,reduceIte,rL,rA];apply hn;obtain ⟨h1,hh1,nh1,sh1,_,fbh1⟩:=nwE h (.cells (w.bc v) 85);rw [<-hh1];have fh1:=fbh1;obtain ⟨h2,hh2,nh2,sh2,kh2,fbh2⟩:=nwE h1 (.cells [iv a,iv b,iv q] 63);rw [<-hh2];have fh2:Fr h.n h h2:=fh1.trans fbh2 (by omega);simp only [nh1,xZU,rA] at nh2 sh2 kh2;have s1:=(kh2 h.n (by omega)).trans sh1;obtain ⟨_,_,l3⟩:=ld h2 fh2;have w3:IntKind.i64.wrap (wo*m)=wo*m:=qF _ (by omega) (by omega);refine qA fun K hn hp=> ?_;simp only [sy.1,rE,reduceIte,rL,i1,i4,sh2,s1,l3,w3];refine hn _ _ (qD (qK res101 ⟨?_,fh2⟩));simp [xZZ]
def Wk.apt (w:Wk) (a b:Int×Int×Int):Bool:=
 if a.1=b.1 then decide ((w.tb a.2.2.toNat).1=(w.tb b.2.2.toNat).1) && decide (a.2.1+(w.tb a.2.2.toNat).1<=b.2.1) else decide (a.1+(w.tb a.2.2.toNat).1<=b.1)
theorem ft77 (xt:Xt):(SE xt).ft.get 99=some Tryz.f99:=by kernel_rfl
theorem res77:Tryz.f99.results.toList=[.tmp 6]:=by kernel_rfl
theorem rapart_c (xt:Xt) (h:Hp) (w:Wk) (ha:w.At xt h) {qa qb na nb:Nat} {ta tb' wa wb:Int} (hta:Tub w qa na ta wa) (htb:Tub w qb nb tb' wb) (ra ca rb cb:Int) (b1: -100<=ra) (b2:ra<=100) (b3: -100<=ca) (b4:ca<=100)
  {K:KP} (hk: ∀k,h.n<k->K (.ret (.val (.bool (w.apt (ra,ca,(qa:Int)) (rb,cb,(qb:Int)))))) (h.up k)):FnA (SE xt) 99 [w.av,qBx (ra,ca,(qa:Int)),qBx (rb,cb,(qb:Int))] h K:=by
 refine xZR ?_ hk;clear hk K;refine xZS (sok xt) (ft77 xt) rfl 47 rfl ?_;obtain ⟨o1,o2,o3,o4,o5⟩:=ha.ones;obtain ⟨i1,i2,_,_,ld⟩:=ha.tubs hta.at_;obtain ⟨j1,j2,_,_,ld'⟩:=ha.tubs htb.at_;refine qA fun K hn hp=> ?_;simp only [sw.1,rE,reduceIte,rL,rA];apply hn;obtain ⟨h1,hh1,nh1,sh1,_,fbh1⟩:=nwE h (.cells w.cs 30);rw [<-hh1];have fh1:=fbh1;obtain ⟨h2,hh2,nh2,sh2,kh2,fbh2⟩:=nwE h1 (.cells [iv ra,iv ca,iv qa] 63);rw [<-hh2];have fh2:Fr h.n h h2:=fh1.trans fbh2 (by omega);simp only [nh1,xZU,rA] at nh2 sh2 kh2;obtain ⟨h3,hh3,nh3,sh3,kh3,fbh3⟩:=nwE h2 (.cells [iv rb,iv cb,iv qb] 63);rw [<-hh3];have fh3:Fr h.n h h3:=fh2.trans fbh3 (by omega);simp only [nh2,xZU,rA] at nh3 sh3 kh3;have s1:=(kh3 h.n (by omega)).trans ((kh2 h.n (by omega)).trans sh1);have s2:=(kh3 (h.n+1) (by omega)).trans sh2;obtain ⟨l3,_,_⟩:=ld h3 fh3;obtain ⟨l4,_,_⟩:=ld' h3 fh3;have n3:=hta.n3;have w1:IntKind.i64.wrap (ra+(na:Int))=ra+na:=qF _ (by omega) (by omega);have w2:IntKind.i64.wrap (ca+(na:Int))=ca+na:=qF _ (by omega) (by omega);refine jQ (sok xt) 16 (by kernel_rfl) fun K hn hp=> ?_;simp only [sy.1,rE,reduceIte,rL,i1,i2,j1,j2,sh3,s1,s2,l3,l4];apply hn;refine jP ?_;by_cases e:ra=rb
 ·have e':decide (ra=rb)=true:=decide_eq_true e;refine qA fun K hn hp=> ?_;simp only [sy.1,rE,reduceIte,rL,sh3,s2,e'];apply hn;refine qX (by simp only [sy.1,rE,reduceIte]) ?_;refine qB fun K hn hp=> ?_;simp only [sy.1,rE,reduceIte,rL];cases q:decide ((na:Int)=nb)
  ·simp only [sy.1,rE,reduceIte,rL];refine hn _ _ (qS (qK res77 ⟨?_,fh3⟩));simp [xZZ,Wk.apt,hta.tb,htb.tb,e,q]
  ·simp only [sy.1,rE,reduceIte,rL,sh3,s2,w2];refine hn _ _ (qS (qK res77 ⟨?_,fh3⟩));simp [xZZ,Wk.apt,hta.tb,htb.tb,e,q]
 ·have e':decide (ra=rb)=false:=decide_eq_false e;refine qA fun K hn hp=> ?_;simp only [sy.1,rE,reduceIte,rL,sh3,s2,e'];apply hn;refine jL (by simp only [sy.1,rE,reduceIte]) ?_;refine qA fun K hn hp=> ?_;simp only [sy.1,rE,reduceIte,rL,sh3,s2,w1];apply hn;refine qD (qK res77 ⟨?_,fh3⟩);simp [xZZ,Wk.apt,hta.tb,e]
theorem ft104 (xt:Xt):(SE xt).ft.get 39=some Tryz.f39:=by kernel_rfl
theorem res104:Tryz.f39.results.toList=[.tmp 2]:=by kernel_rfl
def kM (l:List Int):Nat->Int
 |0=>0
 |k+1=>kM l k+l.getD k 0
theorem sum_c (xt:Xt) (h:Hp) (v:AV) (l:List Int) (hl:RowAt xt h 1 v (l.map Kn.c1)) (hlt:l.length<=9223372036854775807) (hb: ∀k,k<=l.length-> -9223372036854775808<=kM l k/\kM l k<=9223372036854775807)
  {K:KP} (hk: ∀k,h.n<k->K (.ret (iv (kM l l.length))) (h.up k)):FnA (SE xt) 39 [v] h K:=by
 refine xZR ?_ hk;clear hk K;refine xZS (sok xt) (ft104 xt) rfl 17 rfl ?_;have hlen: ∀h':Hp,zI tb h' 31 v=some l.length:=fun h'=>by have:=hl.len (h':=h') vX rfl;simpa using this
 refine qA fun K hn hp=> ?_;simp only [sw.1,rL];apply hn;refine qA fun K hn hp=> ?_;simp only [sy.1,rL];apply hn;refine qB fun K hn hp=> ?_;simp only [sy.1,rE,reduceIte,rL,syw.1,hlen];apply hn;refine qC fun KA A1 A2 A3 A4 A5=> ?_;refine qI (sok xt) (fun st=> ∃(k:Nat) (n:Int) (tm:T AV),st=⟨tm,17,h,[]⟩/\k<=l.length/\tm.get 3=some (iv n)/\tm.get 6=some (v)/\tm.get 7=some (iv l.length)/\tm.get 8=some (iv k)/\n=kM l k) (fun st=>l.length - (match st.tm.get 8 with|some (.val (.int _ n))=>n.toNat|_=>0)) ?_ ?_
 ·rintro st ⟨k,n,tm,rfl,hkA,g3,g6,g7,g8,rfl⟩;have muA:=g8;refine qA fun K hn hp=> ?_;simp only [sy.1,rL,qR,g7,g8];apply hn;by_cases hk:k<l.length
  ·refine qV (by simp only [sy.1,reduceIte,hk]) ?_;obtain ⟨i1,i2⟩:=hl.m75 hk;refine qC fun KB B1 B2 B3 B4 B5=> ?_;refine qA fun K hn hp=> ?_;simp only [sy.1,rE,reduceIte,rL,g6,g8,i1,i2];apply hn;have w1:IntKind.i64.wrap (kM l k+l.getD k 0)=kM l (k+1):=qF _ (hb (k+1) hk).1 (hb (k+1) hk).2;refine reg fun K hn hp=> ?_;simp only [sy.1,rE,reduceIte,rL,g3,w1];apply hn;refine B1 _ ?_;refine reg fun K hn hp=> ?_;simp only [sy.1,rE,reduceIte,rL,g8,qE hk hlt];apply hn;refine ⟨⟨k+1,_,_,rfl,by omega,(by simp [xZZ]),(by simp [xZZ,g6]),(by simp [xZZ,g7]),(by simp [xZZ]),rfl⟩,by simpa [xZZ,muA] using (by omega:l.length - (k+1)<l.length - k)⟩
  ·refine qU (by simp only [sy.1,reduceIte,hk]) ?_;refine qG (A2 _ ?_);obtain rfl:k=l.length:=by omega
   refine qA fun K hn hp=> ?_;simp only [sy.1,rE,reduceIte,rL,g3];apply hn;refine qD (qK res104 ⟨?_,Fr.refl (xZY _)⟩);simp [xZZ]
 ·exact ⟨0,0,_,rfl,(by omega),(by simp [xZZ]),(by simp [xZZ]),(by simp [xZZ]),(by simp [xZZ]),rfl⟩
abbrev b0:Int×Int×Int:=(0,0,0)
def Wk.one1 (w:Wk) (ls:List (Int×Int×Int)) (i:Nat):Bool:=w.isT (ls.getD i b0) && (w.pcan (ls.getD i b0) && (List.range i).all fun k=>w.apt (ls.getD k b0) (ls.getD i b0))
def Wk.cut (w:Wk) (ls:List (Int×Int×Int)):Bool:=(List.range ls.length).all (w.one1 ls)
theorem cut_no {w:Wk} {ls:List (Int×Int×Int)} {i:Nat} (hi:i<ls.length) (h:w.one1 ls i=false):w.cut ls=false:=by
 unfold Wk.cut;exact xA hi h
theorem cut_yes {w:Wk} {ls:List (Int×Int×Int)} (h: ∀i,i<ls.length->w.one1 ls i=true):w.cut ls=true:=by
 unfold Wk.cut;rw [yY];exact h
theorem cut_at {w:Wk} {ls:List (Int×Int×Int)} (h:w.cut ls=true) {i:Nat} (hi:i<ls.length):w.one1 ls i=true:=by
 unfold Wk.cut at h;rw [yY] at h;exact h i hi
theorem xV {ls:List (Int×Int×Int)} {i:Nat} {s:Int×Int×Int} (h:ls[i]? =some s):ls.getD i b0=s:=by
 rw [List.getD_eq_getElem?_getD,h];rfl
theorem one1_T {w:Wk} {ls:List (Int×Int×Int)} {i:Nat} {s:Int×Int×Int} (hs:ls[i]? =some s) (h:w.isT s=false):w.one1 ls i=false:=by
 simp only [Wk.one1,xV hs,h,Bool.false_and]
theorem one1_P {w:Wk} {ls:List (Int×Int×Int)} {i:Nat} {s:Int×Int×Int} (hs:ls[i]? =some s) (h:w.pcan s=false):w.one1 ls i=false:=by
 simp only [Wk.one1,xV hs,h,Bool.false_and,Bool.and_false]
theorem one1_A {w:Wk} {ls:List (Int×Int×Int)} {i k:Nat} {s a:Int×Int×Int} (hs:ls[i]? =some s) (hk:k<i) (ha:ls[k]? =some a) (h:w.apt a s=false):w.one1 ls i=false:=by
 have:((List.range i).all fun k=>w.apt (ls.getD k b0) (ls.getD i b0))=false:=xA hk (by rw [xV hs,xV ha];exact h);simp only [Wk.one1,this,Bool.and_false]
theorem qFt {w:Wk} {ls:List (Int×Int×Int)} {i:Nat} {s:Int×Int×Int} (hs:ls[i]? =some s) (h1:w.isT s=true) (h2:w.pcan s=true) (h3: ∀k,k<i->w.apt (ls.getD k b0) s=true):w.one1 ls i=true:=by
 simp only [Wk.one1,xV hs,h1,h2,Bool.true_and];rw [yY];exact h3
theorem qEm {w:Wk} {ls:List (Int×Int×Int)} {i:Nat} {s:Int×Int×Int} (hs:ls[i]? =some s) (h:w.one1 ls i=true):w.isT s=true/\w.pcan s=true/\ ∀k,k<i->w.apt (ls.getD k b0) s=true:=by
 simp only [Wk.one1,Bool.and_eq_true,yY,xV hs] at h;exact h
theorem one1_in {w:Wk} (his:w.Is) {ls:List (Int×Int×Int)} {i:Nat} {s:Int×Int×Int} (hs:ls[i]? =some s) (h:w.one1 ls i=true): ∃(r0 c0 q n:Nat) (th wo:Int),s=((r0:Int),(c0:Int),(q:Int))/\Tub w q n th wo/\r0+n<=w.m.cells.length/\c0+n<=w.m.W:=by
 obtain ⟨h1,h2,_⟩:=qEm hs h;obtain ⟨q,n,th,wo,hq,ht⟩:=his.tub' h1;obtain ⟨a,b,c⟩:=s;simp only at hq;subst hq;obtain ⟨r0,c0,rfl,rfl,h3,h4⟩:=Wk.pcan_in ht h2;exact ⟨r0,c0,q,n,th,wo,rfl,ht,h3,h4⟩
theorem ft22 (xt:Xt):(SE xt).ft.get 48=some Tryz.f48:=by kernel_rfl
theorem res22:Tryz.f48.results.toList=[.tmp 4]:=by kernel_rfl
theorem rcut_c (xt:Xt) (h:Hp) (w:Wk) (ha:w.At xt h) (his:w.Is) (v:AV) (ls:List (Int×Int×Int)) (hl:Cuts xt h v ls)
  {K:KP} (hk: ∀k,h.n<k->K (.ret (.val (.bool (w.cut ls)))) (h.up k)):FnA (SE xt) 48 [w.av,v] h K:=by
 refine xZR ?_ hk;clear hk K;refine xZS (sok xt) (ft22 xt) rfl 46 rfl ?_;obtain ⟨o1,o2,o3,o4,o5⟩:=ha.ones;have hlen:=hl.len;have hlt:=hl.lt;have hr6:=his.m.r6;have hc8:=his.m.c8;refine qA fun K hn hp=> ?_;simp only [sw.1,rE,reduceIte,rL];apply hn;clear hn hp K;obtain ⟨h1,hh1,nh1,sh1,_,fbh1⟩:=nwE h (.cells w.cs 30);rw [<-hh1];have fh1:=fbh1;have ha1:=ha.fr fh1 (xZY _);have hl1:=hl.fr fh1 (xZY _);refine qB fun K hn hp=> ?_;simp only [sy.1,rL];apply hn;clear hn hp K;refine qC fun KA A1 A2 A3 A4 A5=> ?_;refine qI (sok xt) (fun st=> ∃(i:Nat) (m:Nat) (tm:T AV),st=⟨tm,46,h1.up m,[]⟩/\i<=ls.length/\tm.get 1=some (v)/\tm.get 2=some (.ptr h.n 0)/\tm.get 5=some (iv i)/\h1.n<=m/\ ∀j,j<i->w.one1 ls j=true) (fun st=>ls.length - (match st.tm.get 5 with|some (.val (.int _ n))=>n.toNat|_=>0)) ?_ ?_
 ·rintro st ⟨i,m,tm,rfl,hkA,g1,g2,g5,hm,hall⟩;have muA:=g5;refine qB fun K hn hp=> ?_;simp only [sy.1,rE,reduceIte,rL,syw.1,hlen,qR,g1,g5];apply hn;clear hn hp K;have retF: ∀(n:Nat) (tm:T AV),h1.n<=n->tm.get 4=some (.val (.bool false))->(i<ls.length/\w.one1 ls i=false)->xX (SE xt) Tryz.f48 (fun r h'=>r= .ret (.val (.bool (w.cut ls)))/\Fr h.n h h') .ret ⟨tm,46,h1.up n,[]⟩:=fun n tm hn g hx=>qK res22 ⟨by simp [g,cut_no hx.1 hx.2],fh1.up hn⟩;by_cases hi:i<ls.length
  ·refine qV (by simp only [sy.1,rE,reduceIte,hi]) ?_;obtain ⟨s,hs⟩: ∃s,ls[i]? =some s:=⟨_,xZV hi⟩;obtain ⟨i1,i2,i3,i4⟩:=hl1.at_ hs;refine qC fun KB B1 B2 B3 B4 B5=> ?_;refine jP ?_;refine qW (sok xt) 0 0 14 [] (by kernel_rfl) fun K hn hp=> ?_;simp only [sy.1,rE,reduceIte,rL,rA,syw.1,sh1,g1,g2,g5,i1,i3,i4];refine cAS (rtube_c xt _ w (ha1.up hm) s.2.2 fun m2 hm2=> ?_);simp only [Hp.up_n] at hm2;cases e1:w.isT s
   ·have e1':inB s.2.2 0 ((w.ts.length:Int) - 1)=false:=e1;simp only [sy.1,rE,reduceIte,rL,rA,syw.1,hm2,e1',xZX];apply hn;clear hn hp K;refine qX (by simp only [sy.1,rE,reduceIte]) ?_;refine qB fun K hn hp=> ?_;simp only [sy.1,rL];apply hn;clear hn hp K;refine qS (B4 _ (A4 _ (retF _ _ (by omega) (by simp [xZZ]) ⟨hi,one1_T hs e1⟩)))
   have e1':inB s.2.2 0 ((w.ts.length:Int) - 1)=true:=e1;obtain ⟨q,n,th,wo,hq,ht⟩:=his.tub' e1;obtain ⟨a,b,c⟩:=s;simp only at hq;subst hq;simp only [sy.1,rE,reduceIte,rL,rA,syw.1,sh1,g1,g2,g5,i1,hm2,e1',xZX,i2];refine cAS (rcan_c xt _ w (ha1.up (n:=m2) (by omega)) _ _ his.m rfl a b q n th wo ht.at_ ht.n3 fun m3 hm3=> ?_);simp only [Hp.up_n] at hm3;rw [qBh his.rc _ _ _ _ _ (by omega) (by omega),<-Wk.pcan_q ht];cases e2:w.pcan (a,b,(q:Int))
   ·simp only [sy.1,rE,reduceIte,rL,xZX];apply hn;clear hn hp K;refine qX (by simp only [sy.1,rE,reduceIte]) ?_;refine qB fun K hn hp=> ?_;simp only [sy.1,rL];apply hn;clear hn hp K;refine qS (B4 _ (A4 _ (retF _ _ (by omega) (by simp [xZZ]) ⟨hi,one1_P hs e2⟩)))
   simp only [sy.1,rE,reduceIte,rL,xZX];apply hn;clear hn hp K;refine jL (by simp only [sy.1,rE,reduceIte]) ?_;obtain ⟨r0,c0,rfl,rfl,hrn,hcn⟩:=Wk.pcan_in ht e2;refine qA fun K hn hp=> ?_;simp only [sy.1,rL];apply hn;clear hn hp K;refine qY fun KD D1 D2 D3 D4 D5=> ?_;refine qI (sok xt) (fun st=> ∃(k:Nat) (m2:Nat) (tm:T AV),st=⟨tm,46,h1.up m2,[]⟩/\k<=i/\tm.get 1=some (v)/\tm.get 2=some (.ptr h.n 0)/\tm.get 5=some (iv i)/\tm.get 6=some (iv k)/\h1.n<=m2/\ ∀j,j<k->w.apt (ls.getD j b0) ((r0:Int),(c0:Int),(q:Int))=true) (fun st=>i - (match st.tm.get 6 with|some (.val (.int _ n))=>n.toNat|_=>0)) ?_ ?_
   ·rintro st ⟨k,m2,tm,rfl,hkD,g1,g2,g5,g6,hm2,hallj⟩;have muD:=g6;refine qB fun K hn hp=> ?_;simp only [sy.1,rE,reduceIte,rL,qR,g5,g6];apply hn;clear hn hp K;by_cases hk:k<i
    ·refine qV (by simp only [sy.1,rE,reduceIte,hk]) ?_;obtain ⟨x,hx⟩: ∃x,ls[k]? =some x:=⟨_,xZV (by omega)⟩;obtain ⟨j1,j2,_,_⟩:=hl1.at_ hx;have k2:=(hl1.at_ hs).2.1;obtain ⟨ra,ca,qa,na,ta,wa,rfl,hta,hr1,hc1⟩:=one1_in his hx (hall k hk);refine qC fun KE E1 E2 E3 E4 E5=> ?_;refine qW (sok xt) 0 0 9 [] (by kernel_rfl) fun K hn hp=> ?_;simp only [sy.1,rE,reduceIte,rL,rA,syw.1,sh1,g1,g2,g5,i1,g6,j1,j2,k2];refine cAS (rapart_c xt _ w (ha1.up hm2) hta ht ra ca r0 c0 (by omega) (by omega) (by omega) (by omega) fun m5 hm5=> ?_);simp only [Hp.up_n] at hm5;cases e3:w.apt ((ra:Int),(ca:Int),(qa:Int)) ((r0:Int),(c0:Int),(q:Int))
     ·simp only [sy.1,rE,reduceIte,rL,xZX];apply hn;clear hn hp K;refine wcT (by simp only [sy.1,rE,reduceIte]) ?_;refine qA fun K hn hp=> ?_;simp only [sy.1,rL];apply hn;clear hn hp K;refine qD (E4 _ (D4 _ (B4 _ (A4 _ (retF _ _ (by omega) (by simp [xZZ]) ⟨hi,one1_A hs hk hx e3⟩)))))
     simp only [sy.1,rE,reduceIte,rL,xZX];apply hn;clear hn hp K;refine wcF (by simp only [sy.1,rE,reduceIte]) ?_;refine qN (E1 _ ?_);refine reg fun K hn hp=> ?_;simp only [sy.1,rE,reduceIte,rL,g6,qE hk (show i<=9223372036854775807 by omega)];apply hn;clear hn hp K;refine ⟨⟨k+1,m5,_,rfl,by omega,(by simp [xZZ,g1]),(by simp [xZZ,g2]),(by simp [xZZ,g5]),(by simp [xZZ]),by omega,fun j hj=> ?_⟩,by simpa [xZZ,muD] using (by omega:i - (k+1)<i - k)⟩;by_cases e:j=k
     ·rw [e,xV hx];exact e3
     ·exact hallj j (by omega)
    ·refine qU (by simp only [sy.1,rE,reduceIte,hk]) ?_;refine qG (D2 _ (B1 _ ?_));obtain rfl:i=k:=by omega
     refine reg fun K hn hp=> ?_;simp only [sy.1,rE,reduceIte,rL,g5,qE hi hlt];apply hn;clear hn hp K;refine ⟨⟨i+1,m2,_,rfl,by omega,(by simp [xZZ,g1]),(by simp [xZZ,g2]),(by simp [xZZ]),hm2,fun j hj=> ?_⟩,by simpa [xZZ,muA] using (by omega:ls.length - (i+1)<ls.length - i)⟩;by_cases e:j=i
     ·rw [e];exact qFt hs e1 e2 hallj
     ·exact hall j (by omega)
   ·exact ⟨0,m3,_,rfl,(by omega),(by simp [xZZ,g1]),(by simp [xZZ,g2]),(by simp [xZZ,g5]),(by simp [xZZ]),by omega,fun j hj=>absurd hj (Nat.not_lt_zero j)⟩
  ·refine qU (by simp only [sy.1,rE,reduceIte,hi]) ?_;refine qG (A2 _ ?_);obtain rfl:i=ls.length:=by omega
   refine qA fun K hn hp=> ?_;simp only [sy.1,rL];apply hn;clear hn hp K;refine qD (qK res22 ⟨?_,fh1.up hm⟩);simp [xZZ,cut_yes hall]
 ·exact ⟨0,h1.n,_,rfl,(by omega),(by simp [xZZ]),(by simp [xZZ]),(by simp [xZZ]),xZY _,fun j hj=>absurd hj (Nat.not_lt_zero j)⟩
set_option maxHeartbeats 4000000
theorem qFs {xt:Xt} {h:Hp} {N k:Nat} {x:AV} {l:List Int} (own:OwnSl h N 1 3 x k (ivs l)) (hN:N<=h.n) (n:Int) (hk:k<=1000000000):
  ∃(x':AV) (h7:Hp),qT Tryz.prog tb xt .append [31,31] [x,.sl h.n 0 1 1] (h.new (.cells [iv n] 3))=some (x',h7)/\OwnSl h7 N 1 3 x' (k+1) (ivs (l++[n]))/\Fr N h h7:=by
 obtain ⟨h7,p1,p2,p3,p4,p5⟩:=(own.new (.cells [iv n] 3)).append2 (P:=Tryz.prog) (xt:=xt) (x:= .sl h.n 0 1 1) (m:=1) (cz:=[iv n]) (by simp only [Hp.new_n];omega) vX rfl tg3 rfl (show te3.bytes=8 from rfl) vX rfl (vU (e:=3) (uI _ _) rfl rfl) (by omega) rfl (by omega) (by omega);refine ⟨_,h7,p1,?_,((Fr.refl hN).new _).trans p3 (xZY _)⟩;have:ivs (l++[n])=ivs l++[iv n]:=by simp [ivs]
 rw [this];exact p2
def Wk.vals (w:Wk) (gv:Int×Int×Int->Int) (ls:List (Int×Int×Int)):List Int:=ls.map fun s=>(w.tb s.2.2.toNat).2.2*gv s
def Wk.worth (w:Wk) (gv:Int×Int×Int->Int) (ls:List (Int×Int×Int)):Int:=kM (w.vals gv ls) ls.length
end Go.Proofs.Kn
