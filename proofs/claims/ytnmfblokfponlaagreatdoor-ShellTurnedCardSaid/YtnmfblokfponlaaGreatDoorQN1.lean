/- MvN1, MvN2, MvN3, MvN4: texts in a row, joined by a program. -/
import Derived.Test.YtnmfblokfponlaaGreatDoorQY1
set_option linter.all false
open Nat renaming reduceEqDiff → rE, reduceLeDiff → rD, reduceAdd → rA, reduceMul → rM, reduceLT → rL
open Nat renaming le_refl → xZZ
open List renaming getElem?_eq_some_iff → xZY, getElem?_map → xZX
namespace Go.Proofs.Kn
open Go Go.Ev
set_option maxRecDepth 100000
set_option maxHeartbeats 4000000
theorem al61 (h:Hp):jT tb h 61=some (.ptr h.n 0,h.new (.cells (([(.int .i64 0),(.int .i64 0),(.int .i64 0)]:List Value).map .val) 61)):=kL qAR rfl
theorem Wk.At.tubs {w:Wk} {xt:Addr->Option Value} {h:Hp} (ha:w.At xt h) {q:Nat} {n th wo:Int} (hx:w.ts[q]? =some (n,th,wo)):
  qK Kn.tb 28 w.vt (iv (q:Int))=some (elp w.vt (q*3))/\qL Kn.tb 90 (elp w.vt (q*3)) 0=some (elp w.vt (q*3))/\qL Kn.tb 90 (elp w.vt (q*3)) 1=some (elp w.vt (q*3+1))/\qL Kn.tb 90 (elp w.vt (q*3)) 2=some (elp w.vt (q*3+2))/\
  ∀h',Fr h.n h h'->qR Kn.tb xt h' 3 (elp w.vt (q*3))=some (iv n)/\qR Kn.tb xt h' 3 (elp w.vt (q*3+1))=some (iv th)/\qR Kn.tb xt h' 3 (elp w.vt (q*3+2))=some (iv wo):=by
 have hq:q<w.ts.length:=(xZY.1 hx).1;have hne:w.ts.map Kn.t3≠[]:=by intro e;have:=congrArg List.length e;simp at this;rw [this] at hq;simp at hq
 refine ⟨ha.ts.idx hU rfl kV rfl (i:=q) (by simpa using hq) (k:= .i64),?_,?_,?_,fun h' f=> ?_⟩
 ·simpa using ha.ts.fa hne kV rfl (f:=0) (o:=0) (s:=0) (ft:=3) rfl (q*3)
 ·exact ha.ts.fa hne kV rfl (f:=1) (o:=1) (s:=0) (ft:=3) rfl (q*3)
 ·exact ha.ts.fa hne kV rfl (f:=2) (o:=2) (s:=0) (ft:=3) rfl (q*3)
 have ha':=ha.fr f (xZZ _);have hc:(w.ts.map Kn.t3)[q]? =some (Kn.t3 (n,th,wo)):=by rw [xZX,hx];rfl
 refine ⟨?_,?_,?_⟩
 ·exact ha'.ts.load0 tg3 rfl (i:=q) hc rfl
 ·exact ha'.ts.load tg3 rfl (i:=q) (j:=1) hc rfl
 ·exact ha'.ts.load tg3 rfl (i:=q) (j:=2) hc rfl
def capOk (v:AV):Prop:= ∀ad n c,v= .val (.slice ad n c)->n<=c
structure Cuts (xt:Addr->Option Value) (h:Hp) (v:AV) (ls:List (Int×Int×Int)):Prop where
 row:RowAt xt h 3 v (ls.map t3)
 lt:ls.length<=9223372036854775807
 cap:capOk v
theorem Cuts.fr {xt:Addr->Option Value} {h h':Hp} {v:AV} {ls:List (Int×Int×Int)} (a:Cuts xt h v ls) {M:Nat} (f:Fr M h h') (hM:h.n<=M):Cuts xt h' v ls:=⟨a.row.fr f hM,a.lt,a.cap⟩
theorem Cuts.up {xt:Addr->Option Value} {h:Hp} {v:AV} {ls:List (Int×Int×Int)} (a:Cuts xt h v ls) {n:Nat} (hn:h.n<=n):Cuts xt (h.up n) v ls:=⟨a.row.up hn,a.lt,a.cap⟩
theorem Cuts.len {xt:Addr->Option Value} {h:Hp} {v:AV} {ls:List (Int×Int×Int)} (a:Cuts xt h v ls) (h':Hp):zP tb h' 33 v=some ls.length:=by
 have:=a.row.len (h':=h') tg33 rfl;simpa using this
theorem Cuts.at_ {xt:Addr->Option Value} {h:Hp} {v:AV} {ls:List (Int×Int×Int)} (a:Cuts xt h v ls) {i:Nat} {s:Int×Int×Int} (hx:ls[i]? =some s):
  qK tb 33 v (iv (i:Int))=some (elp v (i*3))/\qR tb xt h 61 (elp v (i*3))=some (cutv s)/\qL tb 61 (elp v (i*3)) 2=some (elp v (i*3+2))/\qR tb xt h 3 (elp v (i*3+2))=some (iv s.2.2):=by
 have hq:i<ls.length:=(xZY.1 hx).1;have hne:ls.map Kn.t3≠[]:=by intro e;have:=congrArg List.length e;simp at this;rw [this] at hq;simp at hq
 have hc:(ls.map Kn.t3)[i]? =some (Kn.t3 s):=by rw [xZX,hx];rfl
 refine ⟨a.row.idx tg33 rfl qAR rfl (i:=i) (by simpa using hq) (k:= .i64),?_,a.row.fa hne qAR rfl (f:=2) (o:=2) (s:=0) (ft:=3) rfl (i*3),a.row.load tg3 rfl (i:=i) (j:=2) hc rfl⟩;exact a.row.loadA qAR rfl rfl hc
theorem ft101 (xt:Addr->Option Value):(SE xt).ft.get 101=some Tryz.f101:=by kernel_rfl
theorem res101:Tryz.f101.results.toList=[.tmp 6]:=by kernel_rfl
theorem value_c (xt:Addr->Option Value) (h:Hp) (w:Wk) (ha:w.At xt h) (v:AV) (hv:Go.Ev.one v=true) (a b:Int) (q:Nat) (n th wo:Int) (hx:w.ts[q]? =some (n,th,wo)) (m:Int) (hw1: -9223372036854775808<=wo*m) (hw2:wo*m<=9223372036854775807)
  {K:CR->Hp->Prop} (hk: ∀k,h.n<k->K (.ret (iv (wo*m))) (h.up k)):FnA (SE xt) 101 [.agg (w.bc v),cutv (a,b,(q:Int)),iv m] h K:=by
 refine FnA.calm ?_ hk;clear hk K;refine FnA.walk (sok xt) (ft101 xt) rfl 17 rfl ?_;obtain ⟨o1,o2,o3,o4,o5⟩:=ha.ones;obtain ⟨i1,_,_,i4,ld⟩:=ha.tubs hx;refine qA fun K hn hp=> ?_;simp only [sw.1,rE,reduceIte,rL,rA];apply hn;obtain ⟨h1,hh1⟩: ∃h1:Hp,h1=h.new (.cells (w.bc v) 121):=⟨_,rfl⟩;rw [<-hh1];have nh1:h1.n=h.n+1:=by rw [hh1];rfl
 have sh1:h1.t.get h.n=some (.cells (w.bc v) 121):=by rw [hh1];exact jL _ _
 have kh1: ∀k,k<h.n->h1.t.get k=h.t.get k:=fun k hk=>by rw [hh1];exact jK _ _ hk
 have fbh1:Fr h.n h h1:=by rw [hh1];exact (Fr.refl (xZZ _)).new _
 have fh1:=fbh1;obtain ⟨h2,hh2⟩: ∃h2:Hp,h2=h1.new (.cells [iv a,iv b,iv q] 61):=⟨_,rfl⟩;rw [<-hh2];have nh2:h2.n=h1.n+1:=by rw [hh2];rfl
 have sh2:h2.t.get h1.n=some (.cells [iv a,iv b,iv q] 61):=by rw [hh2];exact jL _ _
 have kh2: ∀k,k<h1.n->h2.t.get k=h1.t.get k:=fun k hk=>by rw [hh2];exact jK _ _ hk
 have fbh2:Fr h1.n h1 h2:=by rw [hh2];exact (Fr.refl (xZZ _)).new _
 have fh2:Fr h.n h h2:=fh1.trans fbh2 (by omega);simp only [nh1,Nat.add_assoc,rA] at nh2 sh2 kh2;have s1:=(kh2 h.n (by omega)).trans sh1;obtain ⟨_,_,l3⟩:=ld h2 fh2;have w3:IntKind.i64.wrap (wo*m)=wo*m:=qM _ (by omega) (by omega);refine qA fun K hn hp=> ?_;simp only [sy.1,rE,reduceIte,rL,i1,i4,sh2,s1,l3,w3];refine hn _ _ (qD (qN res101 ⟨?_,fh2⟩));simp [T.get_put]
def Wk.apt (w:Wk) (a b:Int×Int×Int):Bool:=
 if a.1=b.1 then decide ((w.tb a.2.2.toNat).1=(w.tb b.2.2.toNat).1) && decide (a.2.1+(w.tb a.2.2.toNat).1<=b.2.1) else decide (a.1+(w.tb a.2.2.toNat).1<=b.1)
def qBj (l:List Int):Nat->Int
 |0=>0
 |k+1=>qBj l k+l.getD k 0
end Go.Proofs.Kn
namespace Go.Proofs.Kn
open Go Go.Ev
set_option maxRecDepth 100000
set_option maxHeartbeats 4000000
abbrev b0:Int×Int×Int:=(0,0,0)
def Wk.one1 (w:Wk) (ls:List (Int×Int×Int)) (i:Nat):Bool:=w.isT (ls.getD i b0) && (w.pcan (ls.getD i b0) && (List.range i).all fun k=>w.apt (ls.getD k b0) (ls.getD i b0))
def Wk.cut (w:Wk) (ls:List (Int×Int×Int)):Bool:=(List.range ls.length).all (w.one1 ls)
theorem cut_yes {w:Wk} {ls:List (Int×Int×Int)} (h: ∀i,i<ls.length->w.one1 ls i=true):w.cut ls=true:=by
 unfold Wk.cut;rw [x8];exact h
theorem cut_at {w:Wk} {ls:List (Int×Int×Int)} (h:w.cut ls=true) {i:Nat} (hi:i<ls.length):w.one1 ls i=true:=by
 unfold Wk.cut at h;rw [x8] at h;exact h i hi
theorem qA3 {ls:List (Int×Int×Int)} {i:Nat} {s:Int×Int×Int} (h:ls[i]? =some s):ls.getD i b0=s:=by
 rw [List.getD_eq_getElem?_getD,h];rfl
theorem one1_yes {w:Wk} {ls:List (Int×Int×Int)} {i:Nat} {s:Int×Int×Int} (hs:ls[i]? =some s) (h1:w.isT s=true) (h2:w.pcan s=true) (h3: ∀k,k<i->w.apt (ls.getD k b0) s=true):w.one1 ls i=true:=by
 simp only [Wk.one1,qA3 hs,h1,h2,Bool.true_and];rw [x8];exact h3
theorem one1_is {w:Wk} {ls:List (Int×Int×Int)} {i:Nat} {s:Int×Int×Int} (hs:ls[i]? =some s) (h:w.one1 ls i=true):w.isT s=true/\w.pcan s=true/\ ∀k,k<i->w.apt (ls.getD k b0) s=true:=by
 simp only [Wk.one1,Bool.and_eq_true,x8,qA3 hs] at h;exact h
end Go.Proofs.Kn
namespace Go.Proofs.Kn
open Go Go.Ev
set_option maxRecDepth 100000
set_option maxHeartbeats 4000000
end Go.Proofs.Kn
namespace Go.Proofs.Kn
open Go Go.Ev
set_option maxRecDepth 100000
set_option maxHeartbeats 4000000
theorem own_app1 {xt:Addr->Option Value} {h:Hp} {N k:Nat} {x:AV} {l:List Int} (own:OwnSl h N 1 3 x k (ivs l)) (hN:N<=h.n) (n:Int) (hk:k<=1000000000):
  ∃(x':AV) (h7:Hp),qS Tryz.prog tb xt .append [75,75] [x,.sl h.n 0 1 1] (h.new (.cells [iv n] 3))=some (x',h7)/\OwnSl h7 N 1 3 x' (k+1) (ivs (l++[n]))/\Fr N h h7:=by
 obtain ⟨h7,p1,p2,p3,p4,p5⟩:=(own.new (.cells [iv n] 3)).append2 (P:=Tryz.prog) (xt:=xt) (x:= .sl h.n 0 1 1) (m:=1) (cz:=[iv n]) (by simp only [Hp.new_n];omega) pY rfl tg3 rfl (show te3.bytes=8 from rfl) pY rfl (qAX (e:=3) (jL _ _) rfl rfl) (by omega) rfl (by omega) (by omega);refine ⟨_,h7,p1,?_,((Fr.refl hN).new _).trans p3 (xZZ _)⟩;have:ivs (l++[n])=ivs l++[iv n]:=by simp [ivs]
 rw [this];exact p2
def Wk.vals (w:Wk) (gv:Int×Int×Int->Int) (ls:List (Int×Int×Int)):List Int:=ls.map fun s=>(w.tb s.2.2.toNat).2.2*gv s
def Wk.worth (w:Wk) (gv:Int×Int×Int->Int) (ls:List (Int×Int×Int)):Int:=qBj (w.vals gv ls) ls.length
end Go.Proofs.Kn
