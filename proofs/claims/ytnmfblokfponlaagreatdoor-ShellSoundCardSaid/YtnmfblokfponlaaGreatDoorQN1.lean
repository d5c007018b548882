/- MvN1, MvN2, MvN3, MvN4: texts in a row, joined by a program. -/
import Derived.Test.YtnmfblokfponlaaGreatDoorQX1
set_option linter.all false
open Nat renaming reduceEqDiff → rE, reduceLeDiff → rD, reduceAdd → rA, reduceMul → rM, reduceLT → rL
open Go.Ev.T renaming get_put → xZZ
open Nat renaming le_refl → xZY, not_lt_zero → xZT, add_assoc → xZJ, le_of_lt → xZI, ble_eq → xZF
open List renaming getElem?_eq_getElem → xZX, getD_eq_getElem?_getD → xZV, mem_of_getElem? → xZS, getElem?_map → xZR, length_take → xZP, getElem?_eq_some_iff → xZM, getElem?_take → xZH
open Go.Ev.Fr renaming refl → xZW
open Go.Ev.Hp renaming up_up → xZU, up_n → xZL
open Int renaming toNat_natCast → xZQ
open Go.Ev.FnA renaming walk → xZO, calm → xZN
open Bool renaming false_and → xZK, not_eq_true' → xZG, and_eq_true → xZE
namespace Go.Proofs.Kn
open Go Go.Ev
set_option maxRecDepth 100000
set_option maxHeartbeats 4000000
theorem al61 (h:Hp):jI tb h 61=some (.ptr h.n 0,h.new (.cells (([(.int .i64 0),(.int .i64 0),(.int .i64 0)]:List Value).map .val) 61)):=kJ xQ rfl
theorem Wk.At.tubs {w:Wk} {xt:Addr->Option Value} {h:Hp} (ha:w.At xt h) {q:Nat} {n th wo:Int} (hx:w.ts[q]? =some (n,th,wo)):
  qN Kn.tb 28 w.vt (iv (q:Int))=some (elp w.vt (q*3))/\qL Kn.tb 90 (elp w.vt (q*3)) 0=some (elp w.vt (q*3))/\qL Kn.tb 90 (elp w.vt (q*3)) 1=some (elp w.vt (q*3+1))/\qL Kn.tb 90 (elp w.vt (q*3)) 2=some (elp w.vt (q*3+2))/\
  ∀h',Fr h.n h h'->qP Kn.tb xt h' 3 (elp w.vt (q*3))=some (iv n)/\qP Kn.tb xt h' 3 (elp w.vt (q*3+1))=some (iv th)/\qP Kn.tb xt h' 3 (elp w.vt (q*3+2))=some (iv wo):=by
 have hq:q<w.ts.length:=(xZM.1 hx).1;have hne:w.ts.map Kn.t3≠[]:=by intro e;have:=congrArg List.length e;simp at this;rw [this] at hq;simp at hq
 refine ⟨ha.ts.idx qAL rfl yB rfl (i:=q) (by simpa using hq) (k:= .i64),?_,?_,?_,fun h' f=> ?_⟩
 ·simpa using ha.ts.fa hne yB rfl (f:=0) (o:=0) (s:=0) (ft:=3) rfl (q*3)
 ·exact ha.ts.fa hne yB rfl (f:=1) (o:=1) (s:=0) (ft:=3) rfl (q*3)
 ·exact ha.ts.fa hne yB rfl (f:=2) (o:=2) (s:=0) (ft:=3) rfl (q*3)
 have ha':=ha.fr f (xZY _);have hc:(w.ts.map Kn.t3)[q]? =some (Kn.t3 (n,th,wo)):=by rw [xZR,hx];rfl
 refine ⟨?_,?_,?_⟩
 ·exact ha'.ts.load0 tg3 rfl (i:=q) hc rfl
 ·exact ha'.ts.load tg3 rfl (i:=q) (j:=1) hc rfl
 ·exact ha'.ts.load tg3 rfl (i:=q) (j:=2) hc rfl
def capOk (v:AV):Prop:= ∀ad n c,v= .val (.slice ad n c)->n<=c
theorem _root_.Go.Ev.RowAt.upto {xt:Addr->Option Value} {h:Hp} {sz:Nat} {v:AV} {cs:List (List Value)} {tb:T TE} {t e:TypeId} {te ee:TE} (r:RowAt xt h sz v cs) (hc:capOk v) (ht:tb.get t=some te) (hd:te.d= .slice e) (he:tb.get e=some ee) (hs:ee.size=sz) {k:Nat} (hk:k<=cs.length):
  ∃v',zU tb h t v none (some (iv (k:Int)))=some v'/\RowAt xt h sz v' (cs.take k)/\capOk v':=by
 obtain ⟨h1,h2,h3⟩:=r;have e1:kG 0 none=some 0:=rfl;have b0:Nat.ble 0 k=true:=by rw [xZF];omega
 have e2: ∀d,kG d (some (iv (k:Int)))=some k:=fun d=>rfl;have hl:(cs.take k).length=k:=by rw [xZP];omega
 have hmem: ∀c∈cs.take k,c.length=sz:=fun c hc=>h1 c (List.mem_of_mem_take hc);have hget: ∀i c,(cs.take k)[i]? =some c->cs[i]? =some c:=fun i c hi=>by
  rw [xZH] at hi;split at hi
  ·exact hi
  ·cases hi
 rcases h3 with ⟨rfl,rfl⟩|⟨ad,cap,rfl,hx⟩|⟨b,off,av,e',rfl,⟨q1,q2,q3⟩,hx⟩
 ·simp at hk;subst hk;have e3:kG 0 (some (iv 0))=some 0:=rfl;exact ⟨.val (.slice none 0 0),by simp [zU,ht,hd,he,e1,e3,b0],⟨by simp,h2,.inl ⟨rfl,by simp⟩⟩,fun _ _ _ e=>by cases e;exact xZY _⟩
 ·have hcap:=hc _ _ _ rfl;have b1:Nat.ble k cap=true:=by rw [xZF];omega
  refine ⟨.val (.slice (some (if cap=0 then ad else ad.add 0)) k cap),?_,⟨hmem,h2,.inr (.inl ⟨_,cap,by rw [hl],fun i c hi j u hu=> ?_⟩)⟩,fun _ _ _ e=>by cases e;omega⟩
  ·by_cases q:cap=0
   ·subst q;simp [zU,ht,hd,he,e1,e2,b0,b1]
   ·simp [zU,ht,hd,he,e1,e2,b0,b1,q]
  ·have:=hx i c (hget i c hi) j u hu;by_cases q:cap=0
   ·rw [if_pos q];exact this
   ·rw [if_neg q,qA6,Nat.zero_add];exact this
 ·have b1:Nat.ble k cs.length=true:=by rw [xZF];omega
  have b2:Nat.beq sz ee.size=true:=by rw [hs];exact Nat.beq_refl _
  refine ⟨.sl b off k sz,by simp [zU,ht,hd,he,e1,e2,b0,b1,b2],⟨hmem,h2,.inr (.inr ⟨b,off,av,e',by rw [hl],⟨q1,?_,q3⟩,fun i c hi j u hu=>hx i c (hget i c hi) j u hu⟩)⟩,fun _ _ _ e=>by cases e⟩;rw [hl];have:k*sz<=cs.length*sz:=Nat.mul_le_mul_right _ hk;omega
structure Cuts (xt:Addr->Option Value) (h:Hp) (v:AV) (ls:List (Int×Int×Int)):Prop where
 row:RowAt xt h 3 v (ls.map t3)
 lt:ls.length<=9223372036854775807
 cap:capOk v
theorem Cuts.fr {xt:Addr->Option Value} {h h':Hp} {v:AV} {ls:List (Int×Int×Int)} (a:Cuts xt h v ls) {M:Nat} (f:Fr M h h') (hM:h.n<=M):Cuts xt h' v ls:=⟨a.row.fr f hM,a.lt,a.cap⟩
theorem Cuts.up {xt:Addr->Option Value} {h:Hp} {v:AV} {ls:List (Int×Int×Int)} (a:Cuts xt h v ls) {n:Nat} (hn:h.n<=n):Cuts xt (h.up n) v ls:=⟨a.row.up hn,a.lt,a.cap⟩
theorem Cuts.len {xt:Addr->Option Value} {h:Hp} {v:AV} {ls:List (Int×Int×Int)} (a:Cuts xt h v ls) (h':Hp):vF tb h' 33 v=some ls.length:=by
 have:=a.row.len (h':=h') pL rfl;simpa using this
theorem Cuts.at_ {xt:Addr->Option Value} {h:Hp} {v:AV} {ls:List (Int×Int×Int)} (a:Cuts xt h v ls) {i:Nat} {s:Int×Int×Int} (hx:ls[i]? =some s):
  qN tb 33 v (iv (i:Int))=some (elp v (i*3))/\qP tb xt h 61 (elp v (i*3))=some (wY s)/\qL tb 61 (elp v (i*3)) 2=some (elp v (i*3+2))/\qP tb xt h 3 (elp v (i*3+2))=some (iv s.2.2):=by
 have hq:i<ls.length:=(xZM.1 hx).1;have hne:ls.map Kn.t3≠[]:=by intro e;have:=congrArg List.length e;simp at this;rw [this] at hq;simp at hq
 have hc:(ls.map Kn.t3)[i]? =some (Kn.t3 s):=by rw [xZR,hx];rfl
 refine ⟨a.row.idx pL rfl xQ rfl (i:=i) (by simpa using hq) (k:= .i64),?_,a.row.fa hne xQ rfl (f:=2) (o:=2) (s:=0) (ft:=3) rfl (i*3),a.row.load tg3 rfl (i:=i) (j:=2) hc rfl⟩;exact a.row.loadA xQ rfl rfl hc
theorem Cuts.upto {xt:Addr->Option Value} {h:Hp} {v:AV} {ls:List (Int×Int×Int)} (a:Cuts xt h v ls) {k:Nat} (hk:k<=ls.length): ∃v',zU tb h 33 v none (some (iv (k:Int)))=some v'/\Cuts xt h v' (ls.take k):=by
 obtain ⟨v',h1,h2,h3⟩:=a.row.upto a.cap pL rfl xQ rfl (k:=k) (by simpa using hk);refine ⟨v',h1,⟨by rw [List.map_take];exact h2,?_,h3⟩⟩;have:=a.lt;rw [xZP];omega
theorem ft101 (xt:Addr->Option Value):(SE xt).ft.get 101=some Tryz.f101:=by kernel_rfl
theorem res101:Tryz.f101.results.toList=[.tmp 6]:=by kernel_rfl
theorem value_c (xt:Addr->Option Value) (h:Hp) (w:Wk) (ha:w.At xt h) (v:AV) (hv:Go.Ev.one v=true) (a b:Int) (q:Nat) (n th wo:Int) (hx:w.ts[q]? =some (n,th,wo)) (m:Int) (hw1: -9223372036854775808<=wo*m) (hw2:wo*m<=9223372036854775807)
  {K:CR->Hp->Prop} (hk: ∀k,h.n<k->K (.ret (iv (wo*m))) (h.up k)):FnA (SE xt) 101 [.agg (w.bc v),wY (a,b,(q:Int)),iv m] h K:=by
 refine xZN ?_ hk;clear hk K;refine xZO (sok xt) (ft101 xt) rfl 17 rfl ?_;obtain ⟨o1,o2,o3,o4,o5⟩:=ha.ones;obtain ⟨i1,_,_,i4,ld⟩:=ha.tubs hx;refine qA fun K hn hp=> ?_;simp only [sw.1,rE,reduceIte,rL,rA];apply hn;obtain ⟨h1,hh1⟩: ∃h1:Hp,h1=h.new (.cells (w.bc v) 121):=⟨_,rfl⟩;rw [<-hh1];have nh1:h1.n=h.n+1:=by rw [hh1];rfl
 have sh1:h1.t.get h.n=some (.cells (w.bc v) 121):=by rw [hh1];exact qX _ _
 have kh1: ∀k,k<h.n->h1.t.get k=h.t.get k:=fun k hk=>by rw [hh1];exact qW _ _ hk
 have fbh1:Fr h.n h h1:=by rw [hh1];exact (xZW (xZY _)).new _
 have fh1:=fbh1;obtain ⟨h2,hh2⟩: ∃h2:Hp,h2=h1.new (.cells [iv a,iv b,iv q] 61):=⟨_,rfl⟩;rw [<-hh2];have nh2:h2.n=h1.n+1:=by rw [hh2];rfl
 have sh2:h2.t.get h1.n=some (.cells [iv a,iv b,iv q] 61):=by rw [hh2];exact qX _ _
 have kh2: ∀k,k<h1.n->h2.t.get k=h1.t.get k:=fun k hk=>by rw [hh2];exact qW _ _ hk
 have fbh2:Fr h1.n h1 h2:=by rw [hh2];exact (xZW (xZY _)).new _
 have fh2:Fr h.n h h2:=fh1.trans fbh2 (by omega);simp only [nh1,xZJ,rA] at nh2 sh2 kh2;have s1:=(kh2 h.n (by omega)).trans sh1;obtain ⟨_,_,l3⟩:=ld h2 fh2;have w3:IntKind.i64.wrap (wo*m)=wo*m:=wrap_i64 _ (by omega) (by omega);refine qA fun K hn hp=> ?_;simp only [sy.1,rE,reduceIte,rL,i1,i4,sh2,s1,l3,w3];refine hn _ _ (qD (qK res101 ⟨?_,fh2⟩));simp [xZZ]
def Wk.apt (w:Wk) (a b:Int×Int×Int):Bool:=
 if a.1=b.1 then decide ((w.tb a.2.2.toNat).1=(w.tb b.2.2.toNat).1) && decide (a.2.1+(w.tb a.2.2.toNat).1<=b.2.1) else decide (a.1+(w.tb a.2.2.toNat).1<=b.1)
theorem ft77 (xt:Addr->Option Value):(SE xt).ft.get 77=some Tryz.f77:=by kernel_rfl
theorem res77:Tryz.f77.results.toList=[.tmp 6]:=by kernel_rfl
theorem rapart_c (xt:Addr->Option Value) (h:Hp) (w:Wk) (ha:w.At xt h) {qa qb na nb:Nat} {ta tb' wa wb:Int} (hta:Tub w qa na ta wa) (htb:Tub w qb nb tb' wb) (ra ca rb cb:Int) (b1: -100<=ra) (b2:ra<=100) (b3: -100<=ca) (b4:ca<=100)
  {K:CR->Hp->Prop} (hk: ∀k,h.n<k->K (.ret (.val (.bool (w.apt (ra,ca,(qa:Int)) (rb,cb,(qb:Int)))))) (h.up k)):FnA (SE xt) 77 [w.av,wY (ra,ca,(qa:Int)),wY (rb,cb,(qb:Int))] h K:=by
 refine xZN ?_ hk;clear hk K;refine xZO (sok xt) (ft77 xt) rfl 47 rfl ?_;obtain ⟨o1,o2,o3,o4,o5⟩:=ha.ones;obtain ⟨i1,i2,_,_,ld⟩:=ha.tubs hta.at_;obtain ⟨j1,j2,_,_,ld'⟩:=ha.tubs htb.at_;refine qA fun K hn hp=> ?_;simp only [sw.1,rE,reduceIte,rL,rA];apply hn;obtain ⟨h1,hh1⟩: ∃h1:Hp,h1=h.new (.cells w.cs 30):=⟨_,rfl⟩;rw [<-hh1];have nh1:h1.n=h.n+1:=by rw [hh1];rfl
 have sh1:h1.t.get h.n=some (.cells w.cs 30):=by rw [hh1];exact qX _ _
 have kh1: ∀k,k<h.n->h1.t.get k=h.t.get k:=fun k hk=>by rw [hh1];exact qW _ _ hk
 have fbh1:Fr h.n h h1:=by rw [hh1];exact (xZW (xZY _)).new _
 have fh1:=fbh1;obtain ⟨h2,hh2⟩: ∃h2:Hp,h2=h1.new (.cells [iv ra,iv ca,iv qa] 61):=⟨_,rfl⟩;rw [<-hh2];have nh2:h2.n=h1.n+1:=by rw [hh2];rfl
 have sh2:h2.t.get h1.n=some (.cells [iv ra,iv ca,iv qa] 61):=by rw [hh2];exact qX _ _
 have kh2: ∀k,k<h1.n->h2.t.get k=h1.t.get k:=fun k hk=>by rw [hh2];exact qW _ _ hk
 have fbh2:Fr h1.n h1 h2:=by rw [hh2];exact (xZW (xZY _)).new _
 have fh2:Fr h.n h h2:=fh1.trans fbh2 (by omega);simp only [nh1,xZJ,rA] at nh2 sh2 kh2;obtain ⟨h3,hh3⟩: ∃h3:Hp,h3=h2.new (.cells [iv rb,iv cb,iv qb] 61):=⟨_,rfl⟩;rw [<-hh3];have nh3:h3.n=h2.n+1:=by rw [hh3];rfl
 have sh3:h3.t.get h2.n=some (.cells [iv rb,iv cb,iv qb] 61):=by rw [hh3];exact qX _ _
 have kh3: ∀k,k<h2.n->h3.t.get k=h2.t.get k:=fun k hk=>by rw [hh3];exact qW _ _ hk
 have fbh3:Fr h2.n h2 h3:=by rw [hh3];exact (xZW (xZY _)).new _
 have fh3:Fr h.n h h3:=fh2.trans fbh3 (by omega);simp only [nh2,xZJ,rA] at nh3 sh3 kh3;have s1:=(kh3 h.n (by omega)).trans ((kh2 h.n (by omega)).trans sh1);have s2:=(kh3 (h.n+1) (by omega)).trans sh2;obtain ⟨l3,_,_⟩:=ld h3 fh3;obtain ⟨l4,_,_⟩:=ld' h3 fh3;have n3:=hta.n3;have w1:IntKind.i64.wrap (ra+(na:Int))=ra+na:=wrap_i64 _ (by omega) (by omega);have w2:IntKind.i64.wrap (ca+(na:Int))=ca+na:=wrap_i64 _ (by omega) (by omega);refine yM (sok xt) 16 (by kernel_rfl) fun K hn hp=> ?_;simp only [sy.1,rE,reduceIte,rL,i1,i2,j1,j2,sh3,s1,s2,l3,l4];apply hn;refine qE ?_;by_cases e:ra=rb
 ·have e':decide (ra=rb)=true:=decide_eq_true e;refine qA fun K hn hp=> ?_;simp only [sy.1,rE,reduceIte,rL,sh3,s2,e'];apply hn;refine qC true (by simp only [sy.1,rE,reduceIte]) (fun _=> ?_) (fun hx=>by cases hx);refine qE ?_;refine qA fun K hn hp=> ?_;simp only [sy.1,rE,reduceIte,rL];cases q:decide ((na:Int)=nb)
  ·simp only [sy.1,rE,reduceIte,rL];refine hn _ _ (qU (qK res77 ⟨?_,fh3⟩));simp [xZZ,Wk.apt,hta.tb,htb.tb,e,q]
  ·simp only [sy.1,rE,reduceIte,rL,sh3,s2,w2];refine hn _ _ (qU (qK res77 ⟨?_,fh3⟩));simp [xZZ,Wk.apt,hta.tb,htb.tb,e,q]
 ·have e':decide (ra=rb)=false:=decide_eq_false e;refine qA fun K hn hp=> ?_;simp only [sy.1,rE,reduceIte,rL,sh3,s2,e'];apply hn;refine qC false (by simp only [sy.1,rE,reduceIte]) (fun hx=>by cases hx) (fun _=> ?_);refine qI ?_;refine qA fun K hn hp=> ?_;simp only [sy.1,rE,reduceIte,rL,sh3,s2,w1];apply hn;refine qD (qK res77 ⟨?_,fh3⟩);simp [xZZ,Wk.apt,hta.tb,e]
theorem ft104 (xt:Addr->Option Value):(SE xt).ft.get 104=some Tryz.f104:=by kernel_rfl
theorem res104:Tryz.f104.results.toList=[.tmp 2]:=by kernel_rfl
def vK (l:List Int):Nat->Int
 |0=>0
 |k+1=>vK l k+l.getD k 0
theorem sum_c (xt:Addr->Option Value) (h:Hp) (v:AV) (l:List Int) (hl:RowAt xt h 1 v (l.map Kn.c1)) (hlt:l.length<=9223372036854775807) (hb: ∀k,k<=l.length-> -9223372036854775808<=vK l k/\vK l k<=9223372036854775807)
  {K:CR->Hp->Prop} (hk: ∀k,h.n<k->K (.ret (iv (vK l l.length))) (h.up k)):FnA (SE xt) 104 [v] h K:=by
 refine xZN ?_ hk;clear hk K;refine xZO (sok xt) (ft104 xt) rfl 17 rfl ?_;have hlen: ∀h':Hp,vF tb h' 75 v=some l.length:=fun h'=>by have:=hl.len (h':=h') qAJ rfl;simpa using this
 refine qA fun K hn hp=> ?_;simp only [sw.1,rL];apply hn;refine qA fun K hn hp=> ?_;simp only [sy.1,rL];apply hn;refine qE ?_;refine qA fun K hn hp=> ?_;simp only [sy.1,rE,reduceIte,rL,syw.1,hlen];apply hn;refine qF fun KA A1 A2 A3 A4 A5=> ?_;refine qS (sok xt) (fun st=> ∃(k:Nat) (n:Int) (tm:T AV),st=⟨tm,17,h,[]⟩/\k<=l.length/\tm.get 3=some (iv n)/\tm.get 6=some (v)/\tm.get 7=some (iv l.length)/\tm.get 8=some (iv k)/\n=vK l k) (fun st=>l.length - (match st.tm.get 8 with|some (.val (.int _ n))=>n.toNat|_=>0)) ?_ ?_
 ·rintro st ⟨k,n,tm,rfl,hkA,g3,g6,g7,g8,rfl⟩;have muA:=g8;refine qA fun K hn hp=> ?_;simp only [sy.1,rL,jR,g7,g8];apply hn;by_cases hk:k<l.length
  ·refine qC true (by simp only [sy.1,reduceIte,hk]) (fun _=> ?_) (fun hx=>by cases hx);refine qI ?_;obtain ⟨i1,i2⟩:=hl.m75 hk;refine qF fun KB B1 B2 B3 B4 B5=> ?_;refine qA fun K hn hp=> ?_;simp only [sy.1,rE,reduceIte,rL,g6,g8,i1,i2];apply hn;have w1:IntKind.i64.wrap (vK l k+l.getD k 0)=vK l (k+1):=wrap_i64 _ (hb (k+1) hk).1 (hb (k+1) hk).2;refine reg fun K hn hp=> ?_;simp only [sy.1,rE,reduceIte,rL,g3,w1];apply hn;refine B1 _ ?_;refine reg fun K hn hp=> ?_;simp only [sy.1,rE,reduceIte,rL,g8,qQ hk hlt];apply hn;refine ⟨⟨k+1,_,_,rfl,by omega,(by simp [xZZ]),(by simp [xZZ,g6]),(by simp [xZZ,g7]),(by simp [xZZ]),rfl⟩,by simpa [xZZ,muA] using (by omega:l.length - (k+1)<l.length - k)⟩
  ·refine qC false (by simp only [sy.1,reduceIte,hk]) (fun hx=>by cases hx) (fun _=> ?_);refine qR (A2 _ ?_);obtain rfl:k=l.length:=by omega
   refine qA fun K hn hp=> ?_;simp only [sy.1,rE,reduceIte,rL,g3];apply hn;refine qD (qK res104 ⟨?_,xZW (xZY _)⟩);simp [xZZ]
 ·exact ⟨0,0,_,rfl,(by omega),(by simp [xZZ]),(by simp [xZZ]),(by simp [xZZ]),(by simp [xZZ]),rfl⟩
end Go.Proofs.Kn
namespace Go.Proofs.Kn
open Go Go.Ev
set_option maxRecDepth 100000
set_option maxHeartbeats 4000000
abbrev b0:Int×Int×Int:=(0,0,0)
def Wk.one1 (w:Wk) (ls:List (Int×Int×Int)) (i:Nat):Bool:=w.isT (ls.getD i b0) && (w.pcan (ls.getD i b0) && (List.range i).all fun k=>w.apt (ls.getD k b0) (ls.getD i b0))
def Wk.cut (w:Wk) (ls:List (Int×Int×Int)):Bool:=(List.range ls.length).all (w.one1 ls)
theorem cut_no {w:Wk} {ls:List (Int×Int×Int)} {i:Nat} (hi:i<ls.length) (h:w.one1 ls i=false):w.cut ls=false:=by
 unfold Wk.cut;exact xS hi h
theorem qC7 {w:Wk} {ls:List (Int×Int×Int)} (h: ∀i,i<ls.length->w.one1 ls i=true):w.cut ls=true:=by
 unfold Wk.cut;rw [yJ];exact h
theorem qC8 {w:Wk} {ls:List (Int×Int×Int)} (h:w.cut ls=true) {i:Nat} (hi:i<ls.length):w.one1 ls i=true:=by
 unfold Wk.cut at h;rw [yJ] at h;exact h i hi
theorem vH {ls:List (Int×Int×Int)} {i:Nat} {s:Int×Int×Int} (h:ls[i]? =some s):ls.getD i b0=s:=by
 rw [xZV,h];rfl
theorem one1_T {w:Wk} {ls:List (Int×Int×Int)} {i:Nat} {s:Int×Int×Int} (hs:ls[i]? =some s) (h:w.isT s=false):w.one1 ls i=false:=by
 simp only [Wk.one1,vH hs,h,xZK]
theorem one1_P {w:Wk} {ls:List (Int×Int×Int)} {i:Nat} {s:Int×Int×Int} (hs:ls[i]? =some s) (h:w.pcan s=false):w.one1 ls i=false:=by
 simp only [Wk.one1,vH hs,h,xZK,Bool.and_false]
theorem one1_A {w:Wk} {ls:List (Int×Int×Int)} {i k:Nat} {s a:Int×Int×Int} (hs:ls[i]? =some s) (hk:k<i) (ha:ls[k]? =some a) (h:w.apt a s=false):w.one1 ls i=false:=by
 have:((List.range i).all fun k=>w.apt (ls.getD k b0) (ls.getD i b0))=false:=xS hk (by rw [vH hs,vH ha];exact h);simp only [Wk.one1,this,Bool.and_false]
theorem qBo {w:Wk} {ls:List (Int×Int×Int)} {i:Nat} {s:Int×Int×Int} (hs:ls[i]? =some s) (h1:w.isT s=true) (h2:w.pcan s=true) (h3: ∀k,k<i->w.apt (ls.getD k b0) s=true):w.one1 ls i=true:=by
 simp only [Wk.one1,vH hs,h1,h2,Bool.true_and];rw [yJ];exact h3
theorem qAV {w:Wk} {ls:List (Int×Int×Int)} {i:Nat} {s:Int×Int×Int} (hs:ls[i]? =some s) (h:w.one1 ls i=true):w.isT s=true/\w.pcan s=true/\ ∀k,k<i->w.apt (ls.getD k b0) s=true:=by
 simp only [Wk.one1,xZE,yJ,vH hs] at h;exact h
theorem qCI {w:Wk} (his:w.Is) {ls:List (Int×Int×Int)} {i:Nat} {s:Int×Int×Int} (hs:ls[i]? =some s) (h:w.one1 ls i=true): ∃(r0 c0 q n:Nat) (th wo:Int),s=((r0:Int),(c0:Int),(q:Int))/\Tub w q n th wo/\r0+n<=w.m.cells.length/\c0+n<=w.m.W:=by
 obtain ⟨h1,h2,_⟩:=qAV hs h;obtain ⟨q,n,th,wo,hq,ht⟩:=his.tub' h1;obtain ⟨a,b,c⟩:=s;simp only at hq;subst hq;obtain ⟨r0,c0,rfl,rfl,h3,h4⟩:=Wk.pcan_in ht h2;exact ⟨r0,c0,q,n,th,wo,rfl,ht,h3,h4⟩
theorem ft22 (xt:Addr->Option Value):(SE xt).ft.get 22=some Tryz.f22:=by kernel_rfl
theorem res22:Tryz.f22.results.toList=[.tmp 4]:=by kernel_rfl
theorem rcut_c (xt:Addr->Option Value) (h:Hp) (w:Wk) (ha:w.At xt h) (his:w.Is) (v:AV) (ls:List (Int×Int×Int)) (hl:Cuts xt h v ls)
  {K:CR->Hp->Prop} (hk: ∀k,h.n<k->K (.ret (.val (.bool (w.cut ls)))) (h.up k)):FnA (SE xt) 22 [w.av,v] h K:=by
 refine xZN ?_ hk;clear hk K;refine xZO (sok xt) (ft22 xt) rfl 46 rfl ?_;obtain ⟨o1,o2,o3,o4,o5⟩:=ha.ones;have hlen:=hl.len;have hlt:=hl.lt;have hr6:=his.m.r6;have hc8:=his.m.c8;refine qA fun K hn hp=> ?_;simp only [sw.1,rE,reduceIte,rL];apply hn;clear hn hp K;obtain ⟨h1,hh1⟩: ∃h1:Hp,h1=h.new (.cells w.cs 30):=⟨_,rfl⟩;rw [<-hh1];have nh1:h1.n=h.n+1:=by rw [hh1];rfl
 have sh1:h1.t.get h.n=some (.cells w.cs 30):=by rw [hh1];exact qX _ _
 have kh1: ∀k,k<h.n->h1.t.get k=h.t.get k:=fun k hk=>by rw [hh1];exact qW _ _ hk
 have fbh1:Fr h.n h h1:=by rw [hh1];exact (xZW (xZY _)).new _
 have fh1:=fbh1;have ha1:=ha.fr fh1 (xZY _);have hl1:=hl.fr fh1 (xZY _);refine qE ?_;refine qA fun K hn hp=> ?_;simp only [sy.1,rL];apply hn;clear hn hp K;refine qF fun KA A1 A2 A3 A4 A5=> ?_;refine qS (sok xt) (fun st=> ∃(i:Nat) (m:Nat) (tm:T AV),st=⟨tm,46,h1.up m,[]⟩/\i<=ls.length/\tm.get 1=some (v)/\tm.get 2=some (.ptr h.n 0)/\tm.get 5=some (iv i)/\h1.n<=m/\ ∀j,j<i->w.one1 ls j=true) (fun st=>ls.length - (match st.tm.get 5 with|some (.val (.int _ n))=>n.toNat|_=>0)) ?_ ?_
 ·rintro st ⟨i,m,tm,rfl,hkA,g1,g2,g5,hm,hall⟩;have muA:=g5;refine qE ?_;refine qA fun K hn hp=> ?_;simp only [sy.1,rE,reduceIte,rL,syw.1,hlen,jR,g1,g5];apply hn;clear hn hp K;have retF: ∀(n:Nat) (tm:T AV),h1.n<=n->tm.get 4=some (.val (.bool false))->(i<ls.length/\w.one1 ls i=false)->wB (SE xt) Tryz.f22 (fun r h'=>r= .ret (.val (.bool (w.cut ls)))/\Fr h.n h h') .ret ⟨tm,46,h1.up n,[]⟩:=fun n tm hn g hx=>qK res22 ⟨by simp [g,cut_no hx.1 hx.2],fh1.up hn⟩;by_cases hi:i<ls.length
  ·refine qC true (by simp only [sy.1,rE,reduceIte,hi]) (fun _=> ?_) (fun hx=>by cases hx);refine qI ?_;obtain ⟨s,hs⟩: ∃s,ls[i]? =some s:=⟨_,xZX hi⟩;obtain ⟨i1,i2,i3,i4⟩:=hl1.at_ hs;refine qF fun KB B1 B2 B3 B4 B5=> ?_;refine qE ?_;refine uU (sok xt) 0 0 14 [] (by kernel_rfl) fun K hn hp=> ?_;simp only [sy.1,rE,reduceIte,rL,rA,syw.1,sh1,g1,g2,g5,i1,i3,i4];refine qB (sok xt) (rtube_c xt _ w (ha1.up hm) s.2.2 fun m2 hm2=> ?_);simp only [xZL] at hm2;cases e1:w.isT s
   ·have e1':inB s.2.2 0 ((w.ts.length:Int) - 1)=false:=e1;simp only [sy.1,rE,reduceIte,rL,rA,syw.1,hm2,e1',xZU];apply hn;clear hn hp K;refine qC true (by simp only [sy.1,rE,reduceIte]) (fun _=> ?_) (fun hx=>by cases hx);refine qE ?_;refine qA fun K hn hp=> ?_;simp only [sy.1,rL];apply hn;clear hn hp K;refine qU (B4 _ (A4 _ (retF _ _ (by omega) (by simp [xZZ]) ⟨hi,one1_T hs e1⟩)))
   have e1':inB s.2.2 0 ((w.ts.length:Int) - 1)=true:=e1;obtain ⟨q,n,th,wo,hq,ht⟩:=his.tub' e1;obtain ⟨a,b,c⟩:=s;simp only at hq;subst hq;simp only [sy.1,rE,reduceIte,rL,rA,syw.1,sh1,g1,g2,g5,i1,hm2,e1',xZU,i2];refine qB (sok xt) (rcan_c xt _ w (ha1.up (n:=m2) (by omega)) _ _ his.m rfl a b q n th wo ht.at_ ht.n3 fun m3 hm3=> ?_);simp only [xZL] at hm3;rw [rcan_same his.rc _ _ _ _ _ (by omega) (by omega),<-Wk.pcan_q ht];cases e2:w.pcan (a,b,(q:Int))
   ·simp only [sy.1,rE,reduceIte,rL,xZU];apply hn;clear hn hp K;refine qC true (by simp only [sy.1,rE,reduceIte]) (fun _=> ?_) (fun hx=>by cases hx);refine qE ?_;refine qA fun K hn hp=> ?_;simp only [sy.1,rL];apply hn;clear hn hp K;refine qU (B4 _ (A4 _ (retF _ _ (by omega) (by simp [xZZ]) ⟨hi,one1_P hs e2⟩)))
   simp only [sy.1,rE,reduceIte,rL,xZU];apply hn;clear hn hp K;refine qC false (by simp only [sy.1,rE,reduceIte]) (fun hx=>by cases hx) (fun _=> ?_);refine qI ?_;obtain ⟨r0,c0,rfl,rfl,hrn,hcn⟩:=Wk.pcan_in ht e2;refine qA fun K hn hp=> ?_;simp only [sy.1,rL];apply hn;clear hn hp K;refine jU fun KD D1 D2 D3 D4 D5=> ?_;refine qS (sok xt) (fun st=> ∃(k:Nat) (m2:Nat) (tm:T AV),st=⟨tm,46,h1.up m2,[]⟩/\k<=i/\tm.get 1=some (v)/\tm.get 2=some (.ptr h.n 0)/\tm.get 5=some (iv i)/\tm.get 6=some (iv k)/\h1.n<=m2/\ ∀j,j<k->w.apt (ls.getD j b0) ((r0:Int),(c0:Int),(q:Int))=true) (fun st=>i - (match st.tm.get 6 with|some (.val (.int _ n))=>n.toNat|_=>0)) ?_ ?_
   ·rintro st ⟨k,m2,tm,rfl,hkD,g1,g2,g5,g6,hm2,hallj⟩;have muD:=g6;refine qE ?_;refine qA fun K hn hp=> ?_;simp only [sy.1,rE,reduceIte,rL,jR,g5,g6];apply hn;clear hn hp K;by_cases hk:k<i
    ·refine qC true (by simp only [sy.1,rE,reduceIte,hk]) (fun _=> ?_) (fun hx=>by cases hx);refine qI ?_;obtain ⟨x,hx⟩: ∃x,ls[k]? =some x:=⟨_,xZX (by omega)⟩;obtain ⟨j1,j2,_,_⟩:=hl1.at_ hx;have k2:=(hl1.at_ hs).2.1;obtain ⟨ra,ca,qa,na,ta,wa,rfl,hta,hr1,hc1⟩:=qCI his hx (hall k hk);refine qF fun KE E1 E2 E3 E4 E5=> ?_;refine uU (sok xt) 0 0 9 [] (by kernel_rfl) fun K hn hp=> ?_;simp only [sy.1,rE,reduceIte,rL,rA,syw.1,sh1,g1,g2,g5,i1,g6,j1,j2,k2];refine qB (sok xt) (rapart_c xt _ w (ha1.up hm2) hta ht ra ca r0 c0 (by omega) (by omega) (by omega) (by omega) fun m5 hm5=> ?_);simp only [xZL] at hm5;cases e3:w.apt ((ra:Int),(ca:Int),(qa:Int)) ((r0:Int),(c0:Int),(q:Int))
     ·simp only [sy.1,rE,reduceIte,rL,xZU];apply hn;clear hn hp K;refine qH true (by simp only [sy.1,rE,reduceIte]) (fun _=> ?_) (fun hx=>by cases hx);refine qA fun K hn hp=> ?_;simp only [sy.1,rL];apply hn;clear hn hp K;refine qD (E4 _ (D4 _ (B4 _ (A4 _ (retF _ _ (by omega) (by simp [xZZ]) ⟨hi,one1_A hs hk hx e3⟩)))))
     simp only [sy.1,rE,reduceIte,rL,xZU];apply hn;clear hn hp K;refine qH false (by simp only [sy.1,rE,reduceIte]) (fun hx=>by cases hx) (fun _=> ?_);refine qY (E1 _ ?_);refine reg fun K hn hp=> ?_;simp only [sy.1,rE,reduceIte,rL,g6,qQ hk (show i<=9223372036854775807 by omega)];apply hn;clear hn hp K;refine ⟨⟨k+1,m5,_,rfl,by omega,(by simp [xZZ,g1]),(by simp [xZZ,g2]),(by simp [xZZ,g5]),(by simp [xZZ]),by omega,fun j hj=> ?_⟩,by simpa [xZZ,muD] using (by omega:i - (k+1)<i - k)⟩;by_cases e:j=k
     ·rw [e,vH hx];exact e3
     ·exact hallj j (by omega)
    ·refine qC false (by simp only [sy.1,rE,reduceIte,hk]) (fun hx=>by cases hx) (fun _=> ?_);refine qR (D2 _ (B1 _ ?_));obtain rfl:i=k:=by omega
     refine reg fun K hn hp=> ?_;simp only [sy.1,rE,reduceIte,rL,g5,qQ hi hlt];apply hn;clear hn hp K;refine ⟨⟨i+1,m2,_,rfl,by omega,(by simp [xZZ,g1]),(by simp [xZZ,g2]),(by simp [xZZ]),hm2,fun j hj=> ?_⟩,by simpa [xZZ,muA] using (by omega:ls.length - (i+1)<ls.length - i)⟩;by_cases e:j=i
     ·rw [e];exact qBo hs e1 e2 hallj
     ·exact hall j (by omega)
   ·exact ⟨0,m3,_,rfl,(by omega),(by simp [xZZ,g1]),(by simp [xZZ,g2]),(by simp [xZZ,g5]),(by simp [xZZ]),by omega,fun j hj=>absurd hj (xZT j)⟩
  ·refine qC false (by simp only [sy.1,rE,reduceIte,hi]) (fun hx=>by cases hx) (fun _=> ?_);refine qR (A2 _ ?_);obtain rfl:i=ls.length:=by omega
   refine qA fun K hn hp=> ?_;simp only [sy.1,rL];apply hn;clear hn hp K;refine qD (qK res22 ⟨?_,fh1.up hm⟩);simp [xZZ,qC7 hall]
 ·exact ⟨0,h1.n,_,rfl,(by omega),(by simp [xZZ]),(by simp [xZZ]),(by simp [xZZ]),xZY _,fun j hj=>absurd hj (xZT j)⟩
end Go.Proofs.Kn
namespace Go.Proofs.Kn
open Go Go.Ev
set_option maxRecDepth 100000
set_option maxHeartbeats 4000000
theorem apt_prog {w:Wk} {qa qb na nb:Nat} {ta tb' wa wb:Int} (hta:Tub w qa na ta wa) (htb:Tub w qb nb tb' wb) (ra ca rb cb:Int):w.apt (ra,ca,(qa:Int)) (rb,cb,(qb:Int))=((decide (ra=rb) && (decide ((na:Int)=nb) && decide (ca+na<=cb))) || !decide (rb<ra+na)):=by
 have h1:=hta.n1;rw [Bool.eq_iff_iff];simp only [Wk.apt,xZQ,hta.tb,htb.tb];by_cases e:ra=rb
 ·simp only [if_pos e,decide_eq_true e,Bool.true_and,Bool.or_eq_true,xZE,decide_eq_true_eq,xZG,decide_eq_false_iff_not];omega
 ·simp only [if_neg e,decide_eq_false e,xZK,Bool.false_or,decide_eq_true_eq,xZG,decide_eq_false_iff_not];omega
theorem ft78 (xt:Addr->Option Value):(SE xt).ft.get 78=some Tryz.f78:=by kernel_rfl
theorem res78:Tryz.f78.results.toList=[.tmp 4]:=by kernel_rfl
theorem qCQ (xt:Addr->Option Value) (h:Hp) (w:Wk) (ha:w.At xt h) (his:w.Is) (v:AV) (ls:List (Int×Int×Int)) (hl:Cuts xt h v ls)
  {K:CR->Hp->Prop} (hk: ∀k,h.n<k->K (.ret (.val (.bool (w.cut ls)))) (h.up k)):FnA (SE xt) 78 [w.av,v] h K:=by
 refine xZN ?_ hk;clear hk K;refine xZO (sok xt) (ft78 xt) rfl 83 rfl ?_;obtain ⟨o1,o2,o3,o4,o5⟩:=ha.ones;have hlen:=hl.len;have hlt:=hl.lt;have hr6:=his.m.r6;have hc8:=his.m.c8;refine qA fun K hn hp=> ?_;simp only [sw.1,rE,reduceIte,rL];apply hn;obtain ⟨h1,hh1⟩: ∃h1:Hp,h1=h.new (.cells w.cs 30):=⟨_,rfl⟩;rw [<-hh1];have nh1:h1.n=h.n+1:=by rw [hh1];rfl
 have sh1:h1.t.get h.n=some (.cells w.cs 30):=by rw [hh1];exact qX _ _
 have kh1: ∀k,k<h.n->h1.t.get k=h.t.get k:=fun k hk=>by rw [hh1];exact qW _ _ hk
 have fbh1:Fr h.n h h1:=by rw [hh1];exact (xZW (xZY _)).new _
 have fh1:=fbh1;have ha1:=ha.fr fh1 (xZY _);have hl1:=hl.fr fh1 (xZY _);refine qE ?_;refine qA fun K hn hp=> ?_;simp only [sy.1,rE,reduceIte,rL,syw.1,hlen];apply hn;refine qF fun KA A1 A2 A3 A4 A5=> ?_;refine qS (sok xt) (fun st=> ∃(i:Nat) (hg:Hp) (tm:T AV),st=⟨tm,83,hg,[]⟩/\i<=ls.length/\tm.get 1=some (v)/\tm.get 2=some (.ptr h.n 0)/\tm.get 12=some (v)/\tm.get 13=some (iv ls.length)/\tm.get 14=some (iv i)/\Fr h1.n h1 hg/\ ∀j,j<i->w.one1 ls j=true) (fun st=>ls.length - (match st.tm.get 14 with|some (.val (.int _ n))=>n.toNat|_=>0)) ?_ ?_
 ·rintro st ⟨i,hg,tm,rfl,hkA,g1,g2,g12,g13,g14,fg,hall⟩;have muA:=g14;refine qA fun K hn hp=> ?_;simp only [sy.1,rL,jR,g13,g14];apply hn;have lg:=fg.lo;by_cases hi:i<ls.length
  ·refine qC true (by simp only [sy.1,reduceIte,hi]) (fun _=> ?_) (fun hx=>by cases hx);refine qI ?_;obtain ⟨s,hs⟩: ∃s,ls[i]? =some s:=⟨_,xZX hi⟩;have hlg:=hl1.fr fg (xZY _);obtain ⟨i1,i2,_,_⟩:=hlg.at_ hs;refine qF fun KB B1 B2 B3 B4 B5=> ?_;refine qA fun K hn hp=> ?_;simp only [sw.1,rE,reduceIte,rL,rA,al61,g12,g14,i1,i2];obtain ⟨h9,hh9,n9,s9,k9,f9⟩:=nsE hg (.cells [iv 0,iv 0,iv 0] 61) (.cells [iv s.1,iv s.2.1,iv s.2.2] 61);rw [<-hh9];apply hn;clear hh9;have f9h1:=fg.trans f9 fg.lo;have f9h:=fh1.trans f9h1 (by omega);have u1:=(f9h1.at_ h.n (.inl (by omega))).trans sh1;have ha9:=ha1.fr f9h1 (xZY _);have hl9:=hl1.fr f9h1 (xZY _);have retF: ∀(hx:Hp) (tm:T AV),Fr h9.n h9 hx->tm.get 4=some (.val (.bool false))->w.one1 ls i=false->wB (SE xt) Tryz.f78 (fun r h'=>r= .ret (.val (.bool (w.cut ls)))/\Fr h.n h h') .ret ⟨tm,83,hx,[]⟩:=fun hx tm f g e=>qK res78 ⟨by simp [g,cut_no hi e],f9h.trans f f9h.lo⟩;refine qE ?_;refine qA fun K hn hp=> ?_;simp only [sy.1,rE,reduceIte,rL,rA,g2,u1,s9];refine qB (sok xt) (qDG xt h9 w ha9 s fun m2 hm2=> ?_);cases e1:w.isT s
   ·have e1':inB s.2.2 0 ((w.ts.length:Int) - 1)=false:=e1;simp only [sy.1,rE,reduceIte,rL,e1'];apply hn;refine qC true (by simp only [sy.1,rE,reduceIte]) (fun _=> ?_) (fun hx=>by cases hx);refine qE ?_;refine qA fun K hn hp=> ?_;simp only [sy.1,rL];apply hn;refine qU (B4 _ (A4 _ (retF _ _ ((xZW (xZY _)).up (xZI hm2)) (by simp [xZZ]) (one1_T hs e1))))
   have e1':inB s.2.2 0 ((w.ts.length:Int) - 1)=true:=e1;obtain ⟨q,n,th,wo,hq,ht⟩:=his.tub' e1;obtain ⟨a,b,c⟩:=s;simp only at hq;subst hq;simp only [sy.1,rE,reduceIte,rL,rA,g2,u1,s9,e1'];refine qB (sok xt) (can_c xt (h9.up m2) w (ha9.up (n:=m2) (by omega)) _ _ his.m his.rc a b q n th wo ht.at_ ht.n3 fun m3 hm3=> ?_);simp only [xZL] at hm3;rw [<-Wk.pcan_q ht];cases e2:w.pcan (a,b,(q:Int))
   ·simp only [sy.1,rE,reduceIte,rL,xZU];apply hn;refine qC true (by simp only [sy.1,rE,reduceIte]) (fun _=> ?_) (fun hx=>by cases hx);refine qE ?_;refine qA fun K hn hp=> ?_;simp only [sy.1,rL];apply hn;refine qU (B4 _ (A4 _ (retF _ _ ((xZW (xZY _)).up (by omega)) (by simp [xZZ]) (one1_P hs e2))))
   simp only [sy.1,rE,reduceIte,rL,xZU];apply hn;refine qC false (by simp only [sy.1,rE,reduceIte]) (fun hx=>by cases hx) (fun _=> ?_);refine qI ?_;obtain ⟨r0,c0,rfl,rfl,hrn,hcn⟩:=Wk.pcan_in ht e2;have hn1:=ht.n1;obtain ⟨j1,j2,_,_,ld⟩:=ha9.tubs ht.at_;obtain ⟨l1,_,_⟩:=ld h9 (xZW (xZY _));refine qA fun K hn hp=> ?_;simp only [sy.1,rE,reduceIte,rL,syw.1,g2,u1,s9,j1,j2,l1];apply hn;obtain ⟨v',sl1,hcu⟩:=hl9.upto (k:=i) (by omega);have sl2: ∀h',zU tb h' 33 v none (some (iv (i:Int)))=some v':=fun h'=>by
    rw [<-sl1];rcases hl9.row.2.2 with ⟨rfl,_⟩|⟨_,_,rfl,_⟩|⟨_,_,_,_,rfl,_⟩<;>rfl
   have hlen': ∀h':Hp,vF tb h' 33 v'=some i:=fun h'=>by rw [hcu.len h',xZP];simp;omega
   refine qA fun K hn hp=> ?_;simp only [sy.1,rE,reduceIte,rL,syw.1,g1,wW,sl2,hlen',Option.map_none];apply hn;refine jU fun KD D1 D2 D3 D4 D5=> ?_;refine qS (sok xt) (fun st=> ∃(k:Nat) (hd:Hp) (tm:T AV),st=⟨tm,83,hd,[]⟩/\k<=i/\tm.get 1=some (v)/\tm.get 2=some (.ptr h.n 0)/\tm.get 5=some (iv i)/\tm.get 6=some (.ptr hg.n 0)/\tm.get 7=some (iv n)/\tm.get 12=some (v)/\tm.get 13=some (iv ls.length)/\tm.get 14=some (iv i)/\tm.get 38=some (v')/\tm.get 39=some (iv i)/\tm.get 40=some (iv k)/\Fr h9.n h9 hd/\ ∀j,j<k->w.apt (ls.getD j b0) ((r0:Int),(c0:Int),(q:Int))=true) (fun st=>i - (match st.tm.get 40 with|some (.val (.int _ n))=>n.toNat|_=>0)) ?_ ?_
   ·rintro st ⟨k,hd,tm,rfl,hkD,g1,g2,g5,g6,g7,g12,g13,g14,g38,g39,g40,fd,hallj⟩;have muD:=g40;refine qA fun K hn hp=> ?_;simp only [sy.1,rL,jR,g39,g40];apply hn;have ld':=fd.lo;by_cases hk:k<i
    ·refine qC true (by simp only [sy.1,reduceIte,hk]) (fun _=> ?_) (fun hx=>by cases hx);refine qI ?_;obtain ⟨x,hx⟩: ∃x,ls[k]? =some x:=⟨_,xZX (by omega)⟩;obtain ⟨ra,ca,qa,na,ta,wa,rfl,hta,hr1,hc1⟩:=qCI his hx (hall k hk);have hcd:=hcu.fr fd (xZY _);obtain ⟨p1,p2,_,_⟩:=hcd.at_ (i:=k) (s:=((ra:Int),(ca:Int),(qa:Int))) (by rw [xZH,if_pos hk];exact hx);refine qF fun KE E1 E2 E3 E4 E5=> ?_;refine qA fun K hn hp=> ?_;simp only [sw.1,rE,reduceIte,rL,rA,al61,g38,g40,p1,p2];obtain ⟨h11,hh11,n11,s11,k11,f11⟩:=nsE hd (.cells [iv 0,iv 0,iv 0] 61) (.cells [iv ra,iv ca,iv qa] 61);rw [<-hh11];apply hn;clear hh11;have f119:=fd.trans f11 fd.lo;have v1:=(f119.at_ h.n (.inl (by omega))).trans u1;have v2:=(f119.at_ hg.n (.inl (by omega))).trans s9;obtain ⟨y1,y2,_,_,ldx⟩:=ha9.tubs hta.at_;obtain ⟨x1,_,_⟩:=ldx h11 f119;have n3:=hta.n3;have w1:IntKind.i64.wrap ((ra:Int)+(na:Int))=ra+na:=wrap_i64 _ (by omega) (by omega);have w2:IntKind.i64.wrap ((ca:Int)+(na:Int))=ca+na:=wrap_i64 _ (by omega) (by omega);refine qA fun K hn hp=> ?_;simp only [sy.1,rE,reduceIte,rL,g2,v1,s11,y1,y2,x1];apply hn;have hap:=apt_prog hta ht (ra:Int) ca r0 c0;refine seq_any fun KK hK hX=> ?_;have rest: ∀(tm:T AV) (β:Bool),β=(decide ((ra:Int)=r0) && (decide ((na:Int)=n) && decide ((ca:Int)+na<=c0)))->tm.get 1=some v->tm.get 2=some (.ptr h.n 0)->tm.get 5=some (iv i)->tm.get 6=some (.ptr hg.n 0)->tm.get 7=some (iv n)->tm.get 9=some (.ptr hd.n 0)->tm.get 10=some (iv na)->tm.get 11=some (.val (.bool β))->tm.get 12=some v->tm.get 13=some (iv ls.length)->tm.get 14=some (iv i)->tm.get 38=some v'->tm.get 39=some (iv i)->tm.get 40=some (iv k)->KK .normal ⟨tm,83,h11,[]⟩:=by
      clear g1 g2 g5 g6 g7 g12 g13 g14 g38 g39 g40;intro tm β hβ g1 g2 g5 g6 g7 g9 g10 g11 g12 g13 g14 g38 g39 g40;refine hK _ ?_;clear hX hK KK;rw [<-hβ] at hap;have next: ∀tm:T AV,w.apt ((ra:Int),(ca:Int),(qa:Int)) ((r0:Int),(c0:Int),(q:Int))=true->tm.get 1=some v->tm.get 2=some (.ptr h.n 0)->tm.get 5=some (iv i)->tm.get 6=some (.ptr hg.n 0)->tm.get 7=some (iv n)->tm.get 12=some v->tm.get 13=some (iv ls.length)->tm.get 14=some (iv i)->tm.get 38=some v'->tm.get 39=some (iv i)->tm.get 40=some (iv k)->KE .normal ⟨tm,83,h11,[]⟩:=by
       clear g1 g2 g5 g6 g7 g9 g10 g11 g12 g13 g14 g38 g39 g40;intro tm e3 g1 g2 g5 g6 g7 g12 g13 g14 g38 g39 g40;refine E1 _ ?_;refine reg fun K hn hp=> ?_;simp only [sy.1,reduceIte,rL,g40,qQ hk (show i<=9223372036854775807 by omega)];apply hn;refine ⟨⟨k+1,h11,_,rfl,by omega,(by simp [xZZ,g1]),(by simp [xZZ,g2]),(by simp [xZZ,g5]),(by simp [xZZ,g6]),(by simp [xZZ,g7]),(by simp [xZZ,g12]),(by simp [xZZ,g13]),(by simp [xZZ,g14]),(by simp [xZZ,g38]),(by simp [xZZ,g39]),(by simp [xZZ]),f119,fun j hj=> ?_⟩,by simpa [xZZ,muD] using (by omega:i - (k+1)<i - k)⟩;by_cases e:j=k
       ·rw [e,vH hx];exact e3
       ·exact hallj j (by omega)
      cases β with
      |true=>
       refine qA fun K hn hp=> ?_;simp only [sy.1,rE,reduceIte,rL,g11];apply hn;refine qH false (by simp only [sy.1,rE,reduceIte]) (fun hx=>by cases hx) (fun _=> ?_);refine qY (next _ (by simpa using hap) ?_ ?_ ?_ ?_ ?_ ?_ ?_ ?_ ?_ ?_ ?_);all_goals simp [xZZ,g1,g2,g5,g6,g7,g12,g13,g14,g38,g39,g40]
      |false=>
       refine qA fun K hn hp=> ?_;simp only [sy.1,rE,reduceIte,rL,g6,v2,s11,w1,g9,g10,g11];cases e4:decide ((r0:Int)<ra+na)
       ·apply hn;refine qH false (by simp only [sy.1,rE,reduceIte]) (fun hx=>by cases hx) (fun _=> ?_);refine qY (next _ (by simpa [e4] using hap) ?_ ?_ ?_ ?_ ?_ ?_ ?_ ?_ ?_ ?_ ?_);all_goals simp [xZZ,g1,g2,g5,g6,g7,g12,g13,g14,g38,g39,g40]
       ·apply hn;refine qH true (by simp only [sy.1,rE,reduceIte]) (fun _=> ?_) (fun hx=>by cases hx);refine qA fun K hn hp=> ?_;simp only [sy.1,rL];apply hn;refine qD (E4 _ (D4 _ (B4 _ (A4 _ (retF _ _ f119 (by simp [xZZ]) (one1_A hs hk hx (by simpa [e4] using hap)))))))
     refine reg fun K hn hp=> ?_;simp only [sy.1,rE,reduceIte,rL,g6,v2,s11];cases q1:decide ((ra:Int)=r0)
     ·simp only [sy.1,rE,reduceIte,rL];refine hn _ _ (rest _ false ?_ ?_ ?_ ?_ ?_ ?_ ?_ ?_ ?_ ?_ ?_ ?_ ?_ ?_ ?_);all_goals simp [xZZ,g1,g2,g5,g6,g7,g12,g13,g14,g38,g39,g40,q1]
     cases q2:decide ((na:Int)=n)
     ·simp only [sy.1,rE,reduceIte,rL,g7,q2];refine hn _ _ (rest _ false ?_ ?_ ?_ ?_ ?_ ?_ ?_ ?_ ?_ ?_ ?_ ?_ ?_ ?_ ?_);all_goals simp [xZZ,g1,g2,g5,g6,g7,g12,g13,g14,g38,g39,g40,q1,q2]
     simp only [sy.1,rE,reduceIte,rL,g6,g7,v2,s11,w2,q2];refine hn _ _ (rest _ (decide ((ca:Int)+na<=c0)) ?_ ?_ ?_ ?_ ?_ ?_ ?_ ?_ ?_ ?_ ?_ ?_ ?_ ?_ ?_);all_goals simp [xZZ,g1,g2,g5,g6,g7,g12,g13,g14,g38,g39,g40,q1,q2]
    ·refine qC false (by simp only [sy.1,reduceIte,hk]) (fun hx=>by cases hx) (fun _=> ?_);refine qR (D2 _ (B1 _ ?_));obtain rfl:i=k:=by omega
     refine reg fun K hn hp=> ?_;simp only [sy.1,rE,reduceIte,rL,g14,qQ hi hlt];apply hn;refine ⟨⟨i+1,hd,_,rfl,by omega,(by simp [xZZ,g1]),(by simp [xZZ,g2]),(by simp [xZZ,g12]),(by simp [xZZ,g13]),(by simp [xZZ]),f9h1.trans fd (by omega),fun j hj=> ?_⟩,by simpa [xZZ,muA] using (by omega:ls.length - (i+1)<ls.length - i)⟩;by_cases e:j=i
     ·rw [e];exact qBo hs e1 e2 hallj
     ·exact hall j (by omega)
   ·exact ⟨0,h9.up m3,_,rfl,(by omega),(by simp [xZZ,g1]),(by simp [xZZ,g2]),(by simp [xZZ]),(by simp [xZZ]),(by simp [xZZ]),(by simp [xZZ,g12]),(by simp [xZZ,g13]),(by simp [xZZ,g14]),(by simp [xZZ]),(by simp [xZZ]),(by simp [xZZ]),(xZW (xZY _)).up (by omega),fun j hj=>absurd hj (xZT j)⟩
  ·refine qC false (by simp only [sy.1,reduceIte,hi]) (fun hx=>by cases hx) (fun _=> ?_);refine qR (A2 _ ?_);obtain rfl:i=ls.length:=by omega
   refine qA fun K hn hp=> ?_;simp only [sy.1,rL];apply hn;refine qD (qK res78 ⟨?_,fh1.trans fg (by omega)⟩);simp [xZZ,qC7 hall]
 ·exact ⟨0,h1,_,rfl,(by omega),(by simp [xZZ]),(by simp [xZZ]),(by simp [xZZ]),(by simp [xZZ]),(by simp [xZZ]),xZW (xZY _),fun j hj=>absurd hj (xZT j)⟩
end Go.Proofs.Kn
namespace Go.Proofs.Kn
open Go Go.Ev
set_option maxRecDepth 100000
set_option maxHeartbeats 4000000
theorem own_app1 {xt:Addr->Option Value} {h:Hp} {N k:Nat} {x:AV} {l:List Int} (own:OwnSl h N 1 3 x k (ivs l)) (hN:N<=h.n) (n:Int) (hk:k<=1000000000):
  ∃(x':AV) (h7:Hp),qT Tryz.prog tb xt .append [75,75] [x,.sl h.n 0 1 1] (h.new (.cells [iv n] 3))=some (x',h7)/\OwnSl h7 N 1 3 x' (k+1) (ivs (l++[n]))/\Fr N h h7:=by
 obtain ⟨h7,p1,p2,p3,p4,p5⟩:=(own.new (.cells [iv n] 3)).append2 (P:=Tryz.prog) (xt:=xt) (x:= .sl h.n 0 1 1) (m:=1) (cz:=[iv n]) (by simp only [Hp.new_n];omega) qAJ rfl tg3 rfl (show te3.bytes=8 from rfl) qAJ rfl (gB (e:=3) (qX _ _) rfl rfl) (by omega) rfl (by omega) (by omega);refine ⟨_,h7,p1,?_,((xZW hN).new _).trans p3 (xZY _)⟩;have:ivs (l++[n])=ivs l++[iv n]:=by simp [ivs]
 rw [this];exact p2
def Wk.vals (w:Wk) (gv:Int×Int×Int->Int) (ls:List (Int×Int×Int)):List Int:=ls.map fun s=>(w.tb s.2.2.toNat).2.2*gv s
def Wk.worth (w:Wk) (gv:Int×Int×Int->Int) (ls:List (Int×Int×Int)):Int:=vK (w.vals gv ls) ls.length
theorem qBa {l:List Int} {B:Int} (hB:0<=B) (hl: ∀x∈l,0<=x/\x<=B): ∀k,0<=vK l k/\vK l k<=k*B
 |0=>by simp [vK]
 |k+1=>by
  have:=qBa hB hl k;have h2:0<=l.getD k 0/\l.getD k 0<=B:=by
   rw [xZV];cases e:l[k]? with
   |none=>exact ⟨Int.le_refl _,hB⟩
   |some x=>exact hl x (xZS e)
  have h3:((k+1:Nat):Int)*B=k*B+B:=by rw [Int.natCast_add,Int.add_mul];simp
  rw [h3];simp only [vK];omega
theorem ft79 (xt:Addr->Option Value):(SE xt).ft.get 79=some Tryz.f79:=by kernel_rfl
theorem res79:Tryz.f79.results.toList=[.tmp 6]:=by kernel_rfl
theorem qAS (xt:Addr->Option Value) (h:Hp) (w:Wk) (ha:w.At xt h) (his:w.Is) (bv:AV) (onev:Go.Ev.one bv=true) (v:AV) (ls:List (Int×Int×Int)) (hl:Cuts xt h v ls) (hT: ∀s∈ls,w.isT s=true) (hl50:ls.length<=1000000) (fv:AV) (gv:Int×Int×Int->Int) (hg: ∀s∈ls,0<=gv s/\gv s<=65)
  (hf: ∀(h':Hp) (s:Int×Int×Int),Fr h.n h h'->s∈ls-> ∀K:CR->Hp->Prop,(∀m,h'.n<m->K (.ret (iv (gv s))) (h'.up m))->CallA (SE xt) fv [wY s] h' K)
  {K:CR->Hp->Prop} (hk: ∀k,h.n<k->K (.ret (iv (w.worth gv ls))) (h.up k)):FnA (SE xt) 79 [.agg (w.bc bv),v,fv] h K:=by
 refine xZN ?_ hk;clear hk K;refine xZO (sok xt) (ft79 xt) rfl 30 rfl ?_;obtain ⟨o1,o2,o3,o4,o5⟩:=ha.ones;have hlen:=hl.len;have hlt:=hl.lt;refine qA fun K hn hp=> ?_;simp only [sw.1,rE,reduceIte,rL,rA];apply hn;obtain ⟨h1,hh1⟩: ∃h1:Hp,h1=h.new (.cells (w.bc bv) 121):=⟨_,rfl⟩;rw [<-hh1];have nh1:h1.n=h.n+1:=by rw [hh1];rfl
 have sh1:h1.t.get h.n=some (.cells (w.bc bv) 121):=by rw [hh1];exact qX _ _
 have kh1: ∀k,k<h.n->h1.t.get k=h.t.get k:=fun k hk=>by rw [hh1];exact qW _ _ hk
 have fbh1:Fr h.n h h1:=by rw [hh1];exact (xZW (xZY _)).new _
 have fh1:=fbh1;have ha1:=ha.fr fh1 (xZY _);have hl1:=hl.fr fh1 (xZY _);have hvl:(w.vals gv ls).length=ls.length:=by simp [Wk.vals]
 have hvb: ∀x∈w.vals gv ls,0<=x/\x<=6500:=fun x hx=>by
  obtain ⟨s,hs,rfl⟩:=List.mem_map.1 hx;obtain ⟨q,n,th,wo,hq,ht⟩:=his.tub' (hT s hs);rw [hq,xZQ,ht.tb];have g1:=hg s hs;have w1:=ht.w1;have w2:=ht.w100;have p1:0<=wo*gv s:=Int.mul_nonneg (by omega) g1.1;have p2:wo*gv s<=100*65:=Int.mul_le_mul w2 g1.2 g1.1 (by omega);exact ⟨p1,p2⟩
 refine qA fun K hn hp=> ?_;simp only [sy.1,rL];apply hn;refine qE ?_;refine qA fun K hn hp=> ?_;simp only [sy.1,rE,reduceIte,rL,syw.1,hlen];apply hn;refine qF fun KA A1 A2 A3 A4 A5=> ?_;refine qS (sok xt) (fun st=> ∃(k:Nat) (z:AV) (hg0:Hp) (tm:T AV),st=⟨tm,30,hg0,[]⟩/\k<=ls.length/\tm.get 2=some (fv)/\tm.get 3=some (.ptr h.n 0)/\tm.get 7=some (z)/\tm.get 11=some (v)/\tm.get 12=some (iv ls.length)/\tm.get 13=some (iv k)/\Fr h1.n h1 hg0/\OwnSl hg0 h1.n 1 3 z k (ivs ((w.vals gv ls).take k))) (fun st=>ls.length - (match st.tm.get 13 with|some (.val (.int _ n))=>n.toNat|_=>0)) ?_ ?_
 ·rintro st ⟨k,z,hg0,tm,rfl,hkA,g2,g3,g7,g11,g12,g13,fg,own⟩;have muA:=g13;refine qA fun K hn hp=> ?_;simp only [sy.1,rL,jR,g12,g13];apply hn;have lg:=fg.lo;by_cases hk:k<ls.length
  ·refine qC true (by simp only [sy.1,reduceIte,hk]) (fun _=> ?_) (fun hx=>by cases hx);refine qI ?_;obtain ⟨s,hs⟩: ∃s,ls[k]? =some s:=⟨_,xZX hk⟩;have hsm:=xZS hs;have hlg:=hl1.fr fg (xZY _);obtain ⟨i1,i2,_,_⟩:=hlg.at_ hs;refine qF fun KB B1 B2 B3 B4 B5=> ?_;refine qA fun K hn hp=> ?_;simp only [sw.1,rE,reduceIte,rL,rA,al61,g11,g13,i1,i2];obtain ⟨h9,hh9,n9,s9,k9,f9⟩:=nsE hg0 (.cells [iv 0,iv 0,iv 0] 61) (.cells [iv s.1,iv s.2.1,iv s.2.2] 61);rw [<-hh9];apply hn;clear hh9;have f9h1:=fg.trans f9 fg.lo;have f9h:=fh1.trans f9h1 (by omega);have u1:=(f9h1.at_ h.n (.inl (by omega))).trans sh1;have ha9:=ha1.fr f9h1 (xZY _);refine qA fun K hn hp=> ?_;simp only [sy.1,rE,reduceIte,rL,rA,g2,s9];refine hf h9 s f9h hsm _ fun m1 hm1=> ?_;simp only [sy.1,rE,reduceIte,rL];apply hn;obtain ⟨q,n,th,wo,hq,ht⟩:=his.tub' (hT s hsm);have hvk:(w.vals gv ls).getD k 0=wo*gv s:=by
    rw [xZV,Wk.vals,xZR,hs];show (w.tb s.2.2.toNat).2.2*gv s=_;rw [hq,xZQ,ht.tb]
   have hvm:wo*gv s∈w.vals gv ls:=by
    rw [<-hvk];exact xZS (getD_some 0 (by omega))
   have hvr:=hvb _ hvm;obtain ⟨a,b,c⟩:=s;simp only at hq;subst hq;refine reg fun K hn hp=> ?_;simp only [sy.1,rE,reduceIte,rL,rA,g3,g7,u1,s9];refine qB (sok xt) (value_c xt (h9.up m1) w (ha9.up (xZI hm1)) bv onev a b q n th wo ht.at_ (gv (a,b,(q:Int))) (by omega) (by omega) fun m2 hm2=> ?_);simp only [xZL] at hm2;have own9:OwnSl (h9.up m2) h1.n 1 3 z k (ivs ((w.vals gv ls).take k)):=(own.fr f9 (xZY _)).up (by omega);obtain ⟨z',h7,p1,p2,p3⟩:=own_app1 (xt:=xt) own9 (by simp only [xZL];omega) (wo*gv (a,b,(q:Int))) (by omega);simp only [xZL] at p1;simp only [sy.1,rE,reduceIte,rL,xZU,vG,bs75,p1];refine hn _ _ (B1 _ ?_);refine reg fun K hn hp=> ?_;simp only [sy.1,rE,reduceIte,rL,g13,qQ hk hlt];apply hn;refine ⟨⟨k+1,z',h7,_,rfl,by omega,(by simp [xZZ,g2]),(by simp [xZZ,g3]),(by simp [xZZ]),(by simp [xZZ,g11]),(by simp [xZZ,g12]),(by simp [xZZ]),(f9h1.up (by omega)).trans p3 (xZY _),?_⟩,by simpa [xZZ,muA] using (by omega:ls.length - (k+1)<ls.length - k)⟩;have e9:(w.vals gv ls)[k]? =some (wo*gv (a,b,(q:Int))):=by rw [<-hvk];exact getD_some 0 (by omega)
   rw [List.take_succ,e9];exact p2
  ·refine qC false (by simp only [sy.1,reduceIte,hk]) (fun hx=>by cases hx) (fun _=> ?_);refine qR (A2 _ ?_);obtain rfl:k=ls.length:=by omega
   rw [List.take_of_length_le (by omega),<-hvl] at own;have hrow:=own_row (xt:=xt) own;refine qA fun K hn hp=> ?_;simp only [sy.1,rE,reduceIte,rL,g7];refine qB (sok xt) (sum_c xt hg0 z _ hrow (by omega) (fun k hk=> ?_) fun m3 hm3=> ?_)
   ·have q1:=qBa (by omega) hvb k;have q2:(k:Int)*6500<=1000000*6500:=by omega
    omega
   simp only [sy.1,rE,reduceIte,rL];refine hn _ _ (qD (qK res79 ⟨?_,(fh1.trans fg (by omega)).up (xZI hm3)⟩));simp [xZZ,Wk.worth,hvl]
 ·exact ⟨0,_,h1,_,rfl,(by omega),(by simp [xZZ]),(by simp [xZZ]),(by simp [xZZ]),(by simp [xZZ]),(by simp [xZZ]),(by simp [xZZ]),xZW (xZY _),OwnSl.nil⟩
end Go.Proofs.Kn
