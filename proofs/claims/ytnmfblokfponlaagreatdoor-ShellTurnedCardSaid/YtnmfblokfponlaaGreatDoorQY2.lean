/- MvP1, MvQ1, MvQ2, MvQ3: texts in a row, joined by a program. -/
import Derived.Test.YtnmfblokfponlaaGreatDoorQN1
import Derived.Test.YtnmfblokfponlaaGreatDoorQW
set_option linter.all false
open Nat renaming reduceEqDiff → rE, reduceLeDiff → rD, reduceAdd → rA, reduceMul → rM, reduceLT → rL
open Go.Ev.T renaming get_put → xZZ
open Nat renaming le_refl → xZY, ble_eq → xZU, le_of_lt → xZN, blt_eq → xZK
open Go.Ev.FnA renaming walk → xZX, calm → xZP, mono → xZL
open List renaming getD_eq_getElem?_getD → xZW, getElem?_map → xZV, getElem?_eq_some_iff → xZS, getElem?_eq_getElem → xZR, take_of_length_le → xZQ, length_take → xZJ
open Option renaming map_none → xZT, getD_some → xZM
open Go.Ev.Fr renaming refl → xZO
namespace Go.Proofs.Kn
open Go Go.Ev
set_option maxRecDepth 100000
set_option maxHeartbeats 4000000
theorem ft225 (xt:Addr->Option Value):(SE xt).ft.get 225=some Tryz.f225:=by kernel_rfl
theorem res225:Tryz.f225.results.toList=[.tmp 2]:=by kernel_rfl
theorem qCY (xt:Addr->Option Value) (h:Hp) (a:Int) {K:CR->Hp->Prop} (hk: ∀k,h.n<k->K (.ret (.val (.bool false))) (h.up k)):FnA (SE xt) 225 [iv a] h K:=by
 refine xZP ?_ hk;clear hk K;refine xZX (sok xt) (ft225 xt) rfl 6 rfl ?_;have d7:decide (a=a)=true:=decide_eq_true rfl;refine qA fun K hn hp=> ?_;simp only [sw.1,rL];apply hn;refine qA fun K hn hp=> ?_;simp only [sy.1,rE,reduceIte,rL];apply hn;refine qD (qN res225 ⟨?_,xZO (xZY _)⟩);simp [xZZ]
def y8 (a b:Int):Int:=if a<b then -1 else if b<a then 1 else 0
theorem ft193 (xt:Addr->Option Value):(SE xt).ft.get 193=some Tryz.f193:=by kernel_rfl
theorem res193:Tryz.f193.results.toList=[.tmp 4]:=by kernel_rfl
theorem cmp_c (xt:Addr->Option Value) (h:Hp) (a b:Int) {K:CR->Hp->Prop} (hk: ∀k,h.n<k->K (.ret (iv (y8 a b))) (h.up k)):FnA (SE xt) 193 [iv a,iv b] h K:=by
 refine xZP ?_ hk;clear hk K;refine xZX (sok xt) (ft193 xt) rfl 20 rfl ?_;refine qA fun K hn hp=> ?_;simp only [sw.1,rL];apply hn;refine qA fun K hn hp=> ?_;simp only [sy.1,rE,reduceIte,rL];refine qB (sok xt) (qCY xt h a fun m1 hm1=> ?_);simp only [sy.1,rE,reduceIte,rL];apply hn;refine qA fun K hn hp=> ?_;simp only [sy.1,rE,reduceIte,rL];refine qB (sok xt) (qCY xt (h.up m1) b fun m2 hm2=> ?_);simp only [Hp.up_n] at hm2;simp only [sy.1,rE,reduceIte,rL,Hp.up_up];apply hn;have f:Fr h.n h (h.up m2):=(xZO (xZY _)).up (by omega);refine qE ?_;refine qA fun K hn hp=> ?_;simp only [sy.1,rE,reduceIte,rL];apply hn;refine qC false (by simp only [sy.1,rE,reduceIte]) (fun hx=>by cases hx) (fun _=> ?_);refine qI ?_;refine qE ?_;refine qA fun K hn hp=> ?_;simp only [sy.1,rE,reduceIte,rL];apply hn;refine qC false (by simp only [sy.1,rE,reduceIte]) (fun hx=>by cases hx) (fun _=> ?_);refine qI ?_;refine qE ?_;by_cases e1:a<b
 ·have d1:decide (a<b)=true:=decide_eq_true e1;refine qA fun K hn hp=> ?_;simp only [sy.1,rE,reduceIte,rL,d1];apply hn;refine qC true (by simp only [sy.1,rE,reduceIte]) (fun _=> ?_) (fun hx=>by cases hx);refine qE ?_;refine qA fun K hn hp=> ?_;simp only [sy.1,rL];apply hn;refine jF (qN res193 ⟨?_,f⟩);simp [xZZ,y8,e1]
 ·have d1:decide (a<b)=false:=decide_eq_false e1;refine qA fun K hn hp=> ?_;simp only [sy.1,rE,reduceIte,rL,d1];apply hn;refine qC false (by simp only [sy.1,rE,reduceIte]) (fun hx=>by cases hx) (fun _=> ?_);refine qI ?_;refine qE ?_;by_cases e2:b<a
  ·have d2:decide (b<a)=true:=decide_eq_true e2;refine qA fun K hn hp=> ?_;simp only [sy.1,rE,reduceIte,rL,d2];apply hn;refine qC true (by simp only [sy.1,rE,reduceIte]) (fun _=> ?_) (fun hx=>by cases hx);refine qE ?_;refine qA fun K hn hp=> ?_;simp only [sy.1,rL];apply hn;refine jF (qN res193 ⟨?_,f⟩);simp [xZZ,y8,e1,e2]
  ·have d2:decide (b<a)=false:=decide_eq_false e2;refine qA fun K hn hp=> ?_;simp only [sy.1,rE,reduceIte,rL,d2];apply hn;refine qC false (by simp only [sy.1,rE,reduceIte]) (fun hx=>by cases hx) (fun _=> ?_);refine qI ?_;refine qA fun K hn hp=> ?_;simp only [sy.1,rL];apply hn;refine qD (qN res193 ⟨?_,f⟩);simp [xZZ,y8,e1,e2]
def orL:List Int->Int
 |[]=>0
 |x::l=>if x=0 then orL l else x
theorem qBv {l:List Int}: ∀k,(∀j,j<k->l.getD j 0=0)->orL l=orL (l.drop k)
 |0,_=>rfl
 |k+1,h=>by
  rw [qBv k fun j hj=>h j (by omega)];have h0:=h k (by omega);cases e:l.drop k with
  |nil=>
   have:l.drop (k+1)=[]:=by rw [<-List.drop_drop,e];rfl
   rw [this]
  |cons x r=>
   have e1:l.drop (k+1)=r:=by rw [<-List.drop_drop,e];rfl
   have e2:l[k]? =some x:=by rw [<-List.head?_drop,e];rfl
   rw [xZW,e2] at h0;simp only [xZM] at h0;rw [e1,orL,if_pos h0]
theorem orL_at {l:List Int} {k:Nat} (hk:k<l.length) (h: ∀j,j<k->l.getD j 0=0) (hx:l.getD k 0≠0):orL l=l.getD k 0:=by
 rw [qBv k h];rw [xZW,xZR hk] at hx ⊢;rw [List.drop_eq_getElem_cons hk];simp only [xZM] at hx ⊢;rw [orL,if_neg hx]
theorem ft192 (xt:Addr->Option Value):(SE xt).ft.get 192=some Tryz.f192:=by kernel_rfl
theorem res192:Tryz.f192.results.toList=[.tmp 2]:=by kernel_rfl
theorem or_c (xt:Addr->Option Value) (h:Hp) (v:AV) (l:List Int) (hl:RowAt xt h 1 v (l.map Kn.c1)) (hlt:l.length<=9223372036854775807) {K:CR->Hp->Prop} (hk: ∀k,h.n<k->K (.ret (iv (orL l))) (h.up k)):FnA (SE xt) 192 [v] h K:=by
 refine xZP ?_ hk;clear hk K;refine xZX (sok xt) (ft192 xt) rfl 18 rfl ?_;have hlen: ∀h':Hp,zP tb h' 75 v=some l.length:=fun h'=>by have:=hl.len (h':=h') pY rfl;simpa using this
 refine qA fun K hn hp=> ?_;simp only [sw.1,rL];apply hn;refine qA fun K hn hp=> ?_;simp only [sy.1,rL];apply hn;refine qE ?_;refine qA fun K hn hp=> ?_;simp only [sy.1,rE,reduceIte,rL,syw.1,hlen];apply hn;refine qG fun KA A1 A2 A3 A4 A5=> ?_;refine qV (sok xt) (fun st=> ∃(k:Nat) (tm:T AV),st=⟨tm,18,h,[]⟩/\k<=l.length/\tm.get 3=some (iv 0)/\tm.get 6=some (v)/\tm.get 7=some (iv l.length)/\tm.get 8=some (iv k)/\ ∀j,j<k->l.getD j 0=0) (fun st=>l.length - (match st.tm.get 8 with|some (.val (.int _ n))=>n.toNat|_=>0)) ?_ ?_
 ·rintro st ⟨k,tm,rfl,hkA,g3,g6,g7,g8,hall⟩;have muA:=g8;refine qA fun K hn hp=> ?_;simp only [sy.1,rL,jU,g7,g8];apply hn;by_cases hk:k<l.length
  ·refine qC true (by simp only [sy.1,reduceIte,hk]) (fun _=> ?_) (fun hx=>by cases hx);refine qI ?_;obtain ⟨i1,i2⟩:=hl.m75 hk;refine qG fun KB B1 B2 B3 B4 B5=> ?_;refine qA fun K hn hp=> ?_;simp only [sy.1,rE,reduceIte,rL,g6,g8,i1,i2];apply hn;by_cases e:l.getD k 0=0
   ·have de:decide (l.getD k 0=0)=true:=decide_eq_true e;refine qA fun K hn hp=> ?_;simp only [sy.1,rE,reduceIte,rL,g3,de];apply hn;refine qH false (by simp only [sy.1,rE,reduceIte]) (fun hx=>by cases hx) (fun _=> ?_);refine qX (B1 _ ?_);refine reg fun K hn hp=> ?_;simp only [sy.1,rE,reduceIte,rL,g8,qQ hk hlt];apply hn;refine ⟨⟨k+1,_,rfl,by omega,(by simp [xZZ,g3]),(by simp [xZZ,g6]),(by simp [xZZ,g7]),(by simp [xZZ]),fun j hj=> ?_⟩,by simpa [xZZ,muA] using (by omega:l.length - (k+1)<l.length - k)⟩;by_cases ej:j=k
    ·rw [ej];exact e
    ·exact hall j (by omega)
   ·have de:decide (l.getD k 0=0)=false:=decide_eq_false e;refine qA fun K hn hp=> ?_;simp only [sy.1,rE,reduceIte,rL,g3,de];apply hn;refine qH true (by simp only [sy.1,rE,reduceIte]) (fun _=> ?_) (fun hx=>by cases hx);refine qA fun K hn hp=> ?_;simp only [sy.1,rE,reduceIte,rL];apply hn;refine qD (B4 _ (A4 _ (qN res192 ⟨?_,xZO (xZY _)⟩)));simp [xZZ,orL_at hk hall e]
  ·refine qC false (by simp only [sy.1,reduceIte,hk]) (fun hx=>by cases hx) (fun _=> ?_);refine qT (A2 _ ?_);obtain rfl:k=l.length:=by omega
   refine qA fun K hn hp=> ?_;simp only [sy.1,rE,reduceIte,rL,g3];apply hn;refine qD (qN res192 ⟨?_,xZO (xZY _)⟩);have:orL l=0:=by rw [qBv l.length hall,List.drop_length];rfl
   simp [xZZ,this]
 ·exact ⟨0,_,rfl,(by omega),(by simp [xZZ]),(by simp [xZZ]),(by simp [xZZ]),(by simp [xZZ]),fun j hj=>absurd hj (Nat.not_lt_zero j)⟩
def bef (a b:Int×Int×Int):Int:=orL [y8 a.1 b.1,y8 a.2.1 b.2.1,y8 a.2.2 b.2.2]
theorem bs75_3 (h:Hp) (a b c:Int):jC tb h 75 3 [(0,iv a),(1,iv b),(2,iv c)]=some (.sl h.n 0 3 1,h.new (.cells [iv a,iv b,iv c] 3)):=by kernel_rfl
theorem row3 {xt:Addr->Option Value} {h:Hp} {a b c:Int}:RowAt xt (h.new (.cells [iv a,iv b,iv c] 3)) 1 (.sl h.n 0 3 1) ([a,b,c].map Kn.c1):=
 own_row (N:=h.n) (l:=[a,b,c]) (.inr ⟨h.n,rfl,xZY _,Nat.lt_succ_self _,jL _ _,rfl⟩)
theorem ft195 (xt:Addr->Option Value):(SE xt).ft.get 195=some Tryz.f195:=by kernel_rfl
theorem res195:Tryz.f195.results.toList=[.tmp 4]:=by kernel_rfl
theorem before_c (xt:Addr->Option Value) (h:Hp) (a b:Int×Int×Int) {K:CR->Hp->Prop} (hk: ∀k,h.n<k->K (.ret (iv (bef a b))) (h.up k)):FnA (SE xt) 195 [cutv a,cutv b] h K:=by
 refine xZP ?_ hk;clear hk K;refine xZX (sok xt) (ft195 xt) rfl 22 rfl ?_;refine qA fun K hn hp=> ?_;simp only [sw.1,rE,reduceIte,rL];apply hn;obtain ⟨h1,hh1,n1,s1,k1,f1⟩:=yH h (.cells [iv a.1,iv a.2.1,iv a.2.2] 61);obtain ⟨h2,hh2,n2,s2,k2,f2⟩:=wE f1 n1 (.cells [iv b.1,iv b.2.1,iv b.2.2] 61);simp only [<-hh1,<-hh2];clear hh1 hh2;have u1:=(k2 h.n (by omega)).trans s1;simp only [rA] at n2;refine yR (sok xt) 0 0 14 [(6,0),(8,0),(11,0),(11,1),(13,0),(13,1)] (by kernel_rfl) fun K hn hp=> ?_;simp only [sy.1,rE,reduceIte,rL,rA,syw.1,u1,s2];refine qB (sok xt) (cmp_c xt h2 _ _ fun m1 hm1=> ?_);simp only [sy.1,rE,reduceIte,rL,rA,syw.1,u1,s2,hm1];refine qB (sok xt) (cmp_c xt (h2.up m1) _ _ fun m2 hm2=> ?_);simp only [Hp.up_n] at hm2;simp only [sy.1,rE,reduceIte,rL,rA,syw.1,u1,s2,hm2,Hp.up_up];refine qB (sok xt) (cmp_c xt (h2.up m2) _ _ fun m3 hm3=> ?_);simp only [Hp.up_n] at hm3;simp only [sy.1,rE,reduceIte,rL,Hp.up_up,jI,bs75_3];obtain ⟨h4,hh4,n4,s4,k4,f4⟩:=yH (h2.up m3) (.cells [iv (y8 a.1 b.1),iv (y8 a.2.1 b.2.1),iv (y8 a.2.2 b.2.2)] 3);have hr:=row3 (xt:=xt) (h:=h2.up m3) (a:=y8 a.1 b.1) (b:=y8 a.2.1 b.2.1) (c:=y8 a.2.2 b.2.2);rw [<-hh4] at hr;simp only [Hp.up_n] at hh4 hr n4 f4;rw [<-hh4];refine qB (sok xt) (or_c xt h4 (.sl m3 0 3 1) _ hr (by simp) fun m5 hm5=> ?_);simp only [sy.1,rE,reduceIte,rL];refine hn _ _ (qD (qN res195 ⟨?_,((f2.up (m:=m3) (by omega)).trans f4 (by omega)).up (by omega)⟩));simp [xZZ,bef]
end Go.Proofs.Kn
namespace Go.Proofs.Kn
open Go Go.Ev
set_option maxRecDepth 100000
set_option maxHeartbeats 4000000
theorem ft245 (xt:Addr->Option Value):(SE xt).ft.get 245=some Tryz.f245:=by kernel_rfl
theorem res245:Tryz.f245.results.toList=[.tmp 4]:=by kernel_rfl
theorem less_c (xt:Addr->Option Value) (h:Hp) (a b:Int) {K:CR->Hp->Prop} (hk: ∀k,h.n<k->K (.ret (.val (.bool (decide (a<b))))) (h.up k)):FnA (SE xt) 245 [iv a,iv b] h K:=by
 refine xZP ?_ hk;clear hk K;refine xZX (sok xt) (ft245 xt) rfl 17 rfl ?_;refine qA fun K hn hp=> ?_;simp only [sw.1,rL];apply hn;refine qA fun K hn hp=> ?_;simp only [sy.1,rE,reduceIte,rL];refine qB (sok xt) (qCY xt h a fun m1 hm1=> ?_);simp only [sy.1,rE,reduceIte,rL];refine hn _ _ (qD (qN res245 ⟨?_,(xZO (xZY _)).up (xZN hm1)⟩));simp [xZZ]
def swp (l:List Int) (j:Nat):List Int:=(l.set j (l.getD (j - 1) 0)).set (j - 1) (l.getD j 0)
def insJ:Nat->List Int->List Int
 |0,l=>l
 |j+1,l=>if l.getD (j+1) 0<l.getD j 0 then insJ j (swp l (j+1)) else l
def qAj (l:List Int):Nat->List Int
 |0=>l
 |k+1=>insJ (k+1) (qAj l k)
theorem swp_len (l:List Int) (j:Nat):(swp l j).length=l.length:=by simp [swp]
theorem qDU: ∀(j:Nat) (l:List Int),(insJ j l).length=l.length
 |0,_=>rfl
 |j+1,l=>by
  simp only [insJ];split
  ·rw [qDU,swp_len]
  ·rfl
theorem qBE (l:List Int): ∀k,(qAj l k).length=l.length
 |0=>rfl
 |k+1=>by rw [qAj,qDU,qBE l k]
theorem ix75 {b n j:Nat} (hj:j<n):qK tb 75 (.sl b 0 n 1) (iv (j:Int))=some (.ptr b j):=by
 have e1:bX (iv (j:Int))=some (Int.ofNat j):=rfl;have e2:Nat.blt j n=true:=by rw [xZK];exact hj
 have d75:te75.d= .slice 3:=rfl;have s3:te3.size=1:=rfl;simp [qK,pY,e1,d75,tg3,e2,s3]
theorem pA {l:List Int} {j:Nat} (hj:j<l.length):(ivs l)[j]? =some (iv (l.getD j 0)):=by
 rw [ivs,xZV,xZW,xZR hj];rfl
theorem ivs_set (l:List Int) (j:Nat) (x:Int):(ivs l).set j (iv x)=ivs (l.set j x):=by
 rw [ivs,ivs,List.map_set]
theorem uI (l:List Int):(ivs l).length=l.length:=by simp [ivs]
theorem ft239 (xt:Addr->Option Value):(SE xt).ft.get 239=some Tryz.f239:=by kernel_rfl
theorem res239:Tryz.f239.results.toList=[]:=by kernel_rfl
theorem insS_c (xt:Addr->Option Value) (h:Hp) (b n:Nat) (l:List Int) (hl:l.length=n) (h1:1<=n) (h12:n<=12) (hb:b<h.n) (hm:h.t.get b=some (.cells (ivs l) 3)):
  FnA (SE xt) 239 [.sl b 0 n 1,iv 0,iv (n:Int)] h (fun res h'=>(∃r,res= .ret r)/\FrM (fun x=>x=b) h.n h h'/\h'.t.get b=some (.cells (ivs (qAj l (n - 1))) 3)):=by
 refine xZX (sok xt) (ft239 xt) rfl 49 rfl ?_;have w0:IntKind.i64.wrap ((0:Int)+1)=((1:Nat):Int):=by decide
 refine qA fun K hn hp=> ?_;simp only [sw.1,rE,reduceIte,rL,rA,w0];apply hn;refine jX fun KA A1 A2 A3 A4 A5=> ?_;refine qV (sok xt) (fun st=> ∃(i:Nat) (hg:Hp) (tm:T AV),st=⟨tm,49,hg,[]⟩/\i<=n/\tm.get 0=some (.sl b 0 n 1)/\tm.get 1=some (iv 0)/\tm.get 2=some (iv (n:Int))/\tm.get 6=some (iv i)/\1<=i/\FrM (fun x=>x=b) h.n h hg/\hg.t.get b=some (.cells (ivs (qAj l (i - 1))) 3)) (fun st=>n - (match st.tm.get 6 with|some (.val (.int _ n))=>n.toNat|_=>0)) ?_ ?_
 ·rintro st ⟨i,hg,tm,rfl,hkA,g0,g1,g2,g6,hi1,fg,sg⟩;have muA:=g6;refine qE ?_;refine qA fun K hn hp=> ?_;simp only [sy.1,rE,reduceIte,rL,jU,g2,g6];apply hn;by_cases hi:i<n
  ·refine qC true (by simp only [sy.1,rE,reduceIte,hi]) (fun _=> ?_) (fun hx=>by cases hx);refine qI ?_;refine qG fun KB B1 B2 B3 B4 B5=> ?_;refine qA fun K hn hp=> ?_;simp only [sy.1,rE,reduceIte,rL,g6];apply hn;refine jX fun KD D1 D2 D3 D4 D5=> ?_;refine qV (sok xt) (fun st=> ∃(q:Nat) (j:Nat) (L:List Int) (hd:Hp) (tm:T AV),st=⟨tm,49,hd,[]⟩/\q<=i/\tm.get 0=some (.sl b 0 n 1)/\tm.get 1=some (iv 0)/\tm.get 2=some (iv (n:Int))/\tm.get 6=some (iv i)/\tm.get 7=some (iv (j:Int))/\j+q=i/\L.length=n/\insJ j L=insJ i (qAj l (i - 1))/\FrM (fun x=>x=b) h.n h hd/\hd.t.get b=some (.cells (ivs L) 3)) (fun st=>(match st.tm.get 7 with|some (.val (.int _ n))=>n.toNat|_=>0)) ?_ ?_
   ·rintro st ⟨q,j,L,hd,tm,rfl,hkD,g0,g1,g2,g6,g7,hjq,hL,hins,fd,sd⟩;have muD:=g7;refine qE ?_;have out: ∀(tm:T AV) (hx:Hp),insJ j L=L->FrM (fun x=>x=b) h.n h hx->hx.t.get b=some (.cells (ivs L) 3)->tm.get 0=some (.sl b 0 n 1)->tm.get 1=some (iv 0)->tm.get 2=some (iv (n:Int))->tm.get 6=some (iv i)->KD (.exit 2) ⟨tm,49,hx,[]⟩:=by
     intro tm hx e fx sx g0 g1 g2 g6;refine D2 _ (B1 _ ?_);refine reg fun K hn hp=> ?_;simp only [sy.1,rE,reduceIte,rL,g6,qQ hi (show n<=9223372036854775807 by omega)];apply hn;refine ⟨⟨i+1,hx,_,rfl,by omega,(by simp [xZZ,g0]),(by simp [xZZ,g1]),(by simp [xZZ,g2]),(by simp [xZZ]),by omega,fx,?_⟩,by simpa [xZZ,muA] using (by omega:n - (i+1)<n - i)⟩;have e1:qAj l (i+1 - 1)=L:=by
      obtain ⟨i',rfl⟩: ∃i',i=i'+1:=⟨i - 1,by omega⟩;rw [show i'+1+1 - 1=i'+1 by omega,qAj,<-e,hins];rfl
     rw [e1];exact sx
    by_cases hj:j=0
    ·subst hj;have d1:decide ((0:Int)<((0:Nat):Int))=false:=by decide
     refine zZ (sok xt) 13 (by kernel_rfl) fun K hn hp=> ?_;simp only [sy.1,rE,reduceIte,rL,g1,g7,d1];apply hn;refine qC false (by simp only [sy.1,rE,reduceIte]) (fun hx=>by cases hx) (fun _=> ?_);refine qT (out _ _ rfl fd sd ?_ ?_ ?_ ?_);all_goals simp [xZZ,g0,g1,g2,g6]
    ·obtain ⟨j',rfl⟩: ∃j',j=j'+1:=⟨j - 1,by omega⟩;have d1:decide ((0:Int)<((j'+1:Nat):Int))=true:=decide_eq_true (by omega);have w1:IntKind.i64.wrap (((j'+1:Nat):Int) - 1)=(j':Int):=by rw [qM _ (by omega) (by omega)];omega
     have i1:=ix75 (b:=b) (n:=n) (j:=j'+1) (by omega);have i2:=ix75 (b:=b) (n:=n) (j:=j') (by omega);have v1:=pA (l:=L) (j:=j'+1) (by omega);have v2:=pA (l:=L) (j:=j') (by omega);refine zZ (sok xt) 13 (by kernel_rfl) fun K hn hp=> ?_;simp only [sy.1,rE,reduceIte,rL,g0,g1,g7,d1,w1,i1,i2,sd,v1,v2];refine qB (sok xt) (less_c xt hd _ _ fun m1 hm1=> ?_);by_cases e:L.getD (j'+1) 0<L.getD j' 0
     ·have de:decide (L.getD (j'+1) 0<L.getD j' 0)=true:=decide_eq_true e;simp only [sy.1,rE,reduceIte,rL,de];apply hn;refine qC true (by simp only [sy.1,rE,reduceIte]) (fun _=> ?_) (fun hx=>by cases hx);refine qI ?_;obtain ⟨hu,hhu⟩: ∃hu,hu=hd.up m1:=⟨_,rfl⟩;rw [<-hhu];have fu:FrM (fun x=>x=b) h.n h hu:=by rw [hhu];exact fd.up (xZN hm1)
      have su:hu.t.get b=some (.cells (ivs L) 3):=by rw [hhu];exact sd
      clear hhu;have p1:=zM (h:=hu) (b:=b) (off:=j'+1) (v:=iv (L.getD j' 0)) (cs:=ivs L) (e:=3) rfl rfl (by rw [uI];omega);have p2:=zM (h:=hu.set b (.cells (ivs (L.set (j'+1) (L.getD j' 0))) 3)) (b:=b) (off:=j') (v:=iv (L.getD (j'+1) 0)) (cs:=ivs (L.set (j'+1) (L.getD j' 0))) (e:=3) rfl rfl (by rw [uI,List.length_set];omega);rw [ivs_set] at p1 p2;have es:(L.set (j'+1) (L.getD j' 0)).set j' (L.getD (j'+1) 0)=swp L (j'+1):=rfl;rw [es] at p2;refine qG fun KE E1 E2 E3 E4 E5=> ?_;refine regW (sok xt) 0 0 16 [] (by kernel_rfl) fun K hn hp=> ?_;simp only [sy.1,rE,reduceIte,rL,rA,syw.1,g0,g7,w1,i1,i2,su,v1,v2,p1,p2];refine hn _ _ (E1 _ ?_);refine reg fun K hn hp=> ?_;simp only [sy.1,rE,reduceIte,rL,g7,w1];apply hn;refine ⟨⟨q+1,j',swp L (j'+1),_,_,rfl,by omega,?_,?_,?_,?_,?_,by omega,by rw [swp_len,hL],?_,(fu.set (.inr rfl) _).set (.inr rfl) _,?_⟩,?_⟩
      ·simp [xZZ,g0]
      ·simp [xZZ,g1]
      ·simp [xZZ,g2]
      ·simp [xZZ,g6]
      ·simp [xZZ]
      ·rw [<-hins,insJ,if_pos e]
      ·rw [Hp.set_t,xZZ,if_pos rfl]
      ·simp [xZZ,muD]
     ·have de:decide (L.getD (j'+1) 0<L.getD j' 0)=false:=decide_eq_false e;simp only [sy.1,rE,reduceIte,rL,de];apply hn;refine qC false (by simp only [sy.1,rE,reduceIte]) (fun hx=>by cases hx) (fun _=> ?_);refine qT (out _ _ (by rw [insJ,if_neg e]) (fd.up (xZN hm1)) sd ?_ ?_ ?_ ?_);all_goals simp [xZZ,g0,g1,g2,g6]
   ·refine ⟨0,i,_,_,_,rfl,Nat.zero_le _,?_,?_,?_,?_,?_,by omega,by rw [qBE,hl],rfl,fg,sg⟩;all_goals simp [xZZ,g0,g1,g2,g6]
  ·refine qC false (by simp only [sy.1,rE,reduceIte,hi]) (fun hx=>by cases hx) (fun _=> ?_);obtain rfl:i=n:=by omega
   refine qT (A2 _ ⟨_,[],rfl,by rw [res239];rfl,⟨_,rfl⟩,fg,sg⟩)
 ·exact ⟨1,h,_,rfl,(by omega),(by simp [xZZ]),(by simp [xZZ]),(by simp [xZZ]),(by simp [xZZ]),xZY _,FrM.refl (xZY _),hm⟩
end Go.Proofs.Kn
namespace Go.Proofs.Kn
open Go Go.Ev
set_option maxRecDepth 100000
set_option maxHeartbeats 4000000
theorem optK_of {h:Hp} {x:Option AV} {v:AV} {K:OR->Prop} (hx:x=some v) (hk:K (.ok v h)):wD h x K:=by rw [hx];exact hk
theorem ft209 (xt:Addr->Option Value):(SE xt).ft.get 209=some Tryz.f209:=by kernel_rfl
theorem res209:Tryz.f209.results.toList=[.tmp 2]:=by kernel_rfl
def bl (n:Nat):Int:=if n=1 then 1 else if n=4 then 3 else 2
abbrev uv (n:Int):AV:= .val (.int .u64 n)
theorem len64_c (xt:Addr->Option Value) (h:Hp) (n:Nat) (h1:1<=n) (h4:n<=4):FnA (SE xt) 209 [uv (n:Int)] h (fun res h'=>(∃r:Int,res= .ret (iv r))/\Fr h.n h h'):=by
 refine xZX (sok xt) (ft209 xt) rfl 25 rfl ?_;have d1:decide ((4294967296:Int)<=(n:Int))=false:=decide_eq_false (by omega);have d2:decide ((65536:Int)<=(n:Int))=false:=decide_eq_false (by omega);have d3:decide ((256:Int)<=(n:Int))=false:=decide_eq_false (by omega);refine qA fun K hn hp=> ?_;simp only [sw.1,rL];apply hn;refine qE ?_;refine qA fun K hn hp=> ?_;simp only [sy.1,rE,reduceIte,rL,d1];apply hn;refine qC false (by simp only [sy.1,rE,reduceIte]) (fun hx=>by cases hx) (fun _=> ?_);refine qI ?_;refine qE ?_;refine qA fun K hn hp=> ?_;simp only [sy.1,rE,reduceIte,rL,d2];apply hn;refine qC false (by simp only [sy.1,rE,reduceIte]) (fun hx=>by cases hx) (fun _=> ?_);refine qI ?_;refine qE ?_;refine qA fun K hn hp=> ?_;simp only [sy.1,rE,reduceIte,rL,d3];apply hn;refine qC false (by simp only [sy.1,rE,reduceIte]) (fun hx=>by cases hx) (fun _=> ?_);refine qI ?_;refine qA fun K hn hp=> ?_;have c1:qAN tb h 259 5 (uv (n:Int))=some (.val (.int .u8 (n:Int))):=by
  rcases (by omega:n=1\/n=2\/n=3\/n=4) with rfl|rfl|rfl|rfl<;>kernel_rfl
 simp only [sy.1,rE,reduceIte,rL,qB6,c1];refine optK_of (v:= .val (.int .u8 (bl n))) (by rcases (by omega:n=1\/n=2\/n=3\/n=4) with rfl|rfl|rfl|rfl<;>kernel_rfl) ?_
 have c2:qAN tb h 5 3 (.val (.int .u8 (bl n)))=some (iv (bl n)):=by
  rcases (by omega:n=1\/n=2\/n=3\/n=4) with rfl|rfl|rfl|rfl<;>kernel_rfl
 have w1:IntKind.i64.wrap ((0:Int)+bl n)=bl n:=by
  rcases (by omega:n=1\/n=2\/n=3\/n=4) with rfl|rfl|rfl|rfl<;>kernel_rfl
 simp only [sy.1,rE,reduceIte,rL,qB6,c2,w1];refine hn _ _ (qD (qN res209 ⟨⟨bl n,?_⟩,xZO (xZY _)⟩));simp [xZZ]
theorem ft168 (xt:Addr->Option Value):(SE xt).ft.get 168=some Tryz.f168:=by kernel_rfl
theorem res168:Tryz.f168.results.toList=[.tmp 2]:=by kernel_rfl
theorem bitsLen_c (xt:Addr->Option Value) (h:Hp) (n:Nat) (h1:1<=n) (h4:n<=4):FnA (SE xt) 168 [uv (n:Int)] h (fun res h'=>(∃r:Int,res= .ret (iv r))/\Fr h.n h h'):=by
 refine xZX (sok xt) (ft168 xt) rfl 8 rfl ?_;refine qA fun K hn hp=> ?_;simp only [sw.1,rL];apply hn;refine qC false (by simp only [sy.1]) (fun hx=>by cases hx) (fun _=> ?_);refine qI ?_;refine qA fun K hn hp=> ?_;simp only [sy.1,rE,reduceIte,rL];refine qB (sok xt) (xZL (len64_c xt h n h1 h4) fun res h' hres=> ?_);obtain ⟨⟨r,rfl⟩,f⟩:=hres;simp only [sy.1,rE,reduceIte,rL];refine hn _ _ (qD (qN res168 ⟨⟨r,?_⟩,f⟩));simp [xZZ]
theorem ft223 (xt:Addr->Option Value):(SE xt).ft.get 223=some Tryz.f223:=by kernel_rfl
theorem res223:Tryz.f223.results.toList=[]:=by kernel_rfl
theorem pdq_c (xt:Addr->Option Value) (h:Hp) (b n:Nat) (l:List Int) (lim:Int) (hl:l.length=n) (h1:1<=n) (h12:n<=12) (hb:b<h.n) (hm:h.t.get b=some (.cells (ivs l) 3)):
  FnA (SE xt) 223 [.sl b 0 n 1,iv 0,iv (n:Int),iv lim] h (fun res h'=>(∃r,res= .ret r)/\FrM (fun x=>x=b) h.n h h'/\h'.t.get b=some (.cells (ivs (qAj l (n - 1))) 3)):=by
 refine xZX (sok xt) (ft223 xt) rfl 134 rfl ?_;have w0:IntKind.i64.wrap ((n:Int) - 0)=(n:Int):=by rw [Int.sub_zero];exact qM _ (by omega) (by omega)
 have d1:decide ((n:Int)<=12)=true:=decide_eq_true (by omega);refine qA fun K hn hp=> ?_;simp only [sw.1,rL,rA];apply hn;refine qA fun K hn hp=> ?_;simp only [sy.1,rL];apply hn;refine jX fun KA A1 A2 A3 A4 A5=> ?_;refine qV (sok xt) (fun st=> ∃tm:T AV,st=⟨tm,134,h,[]⟩/\tm.get 0=some (.sl b 0 n 1)/\tm.get 1=some (iv 0)/\tm.get 2=some (iv (n:Int))) (fun _=>0) ?_ ?_
 ·rintro st ⟨tm,rfl,g0,g1,g2⟩;refine jX fun KB B1 B2 B3 B4 B5=> ?_;refine qA fun K hn hp=> ?_;simp only [sy.1,rE,reduceIte,rL,g1,g2,w0];apply hn;refine qE ?_;refine qA fun K hn hp=> ?_;simp only [sy.1,rE,reduceIte,rL,d1];apply hn;refine qC true (by simp only [sy.1,rE,reduceIte]) (fun _=> ?_) (fun hx=>by cases hx);refine qE ?_;refine qA fun K hn hp=> ?_;simp only [sy.1,rE,reduceIte,rL,g0,g1,g2];refine qB (sok xt) (xZL (insS_c xt h b n l hl h1 h12 hb hm) fun res h' hres=> ?_);obtain ⟨⟨r,rfl⟩,f,s⟩:=hres;simp only [sy.1,rL];apply hn;refine jF (B4 _ (A4 _ ⟨_,[],rfl,by rw [res223];rfl,⟨_,rfl⟩,f,s⟩))
 ·refine ⟨_,rfl,?_,?_,?_⟩;all_goals simp [xZZ]
theorem ft188 (xt:Addr->Option Value):(SE xt).ft.get 188=some Tryz.f188:=by kernel_rfl
theorem res188:Tryz.f188.results.toList=[]:=by kernel_rfl
theorem sort_c (xt:Addr->Option Value) (h:Hp) (b n:Nat) (l:List Int) (hl:l.length=n) (h1:1<=n) (h4:n<=4) (hb:b<h.n) (hm:h.t.get b=some (.cells (ivs l) 3)):
  FnA (SE xt) 188 [.sl b 0 n 1] h (fun res h'=>(∃r,res= .ret r)/\FrM (fun x=>x=b) h.n h h'/\h'.t.get b=some (.cells (ivs (qAj l (n - 1))) 3)):=by
 refine xZX (sok xt) (ft188 xt) rfl 11 rfl ?_;have ln: ∀h':Hp,zP tb h' 75 (.sl b 0 n 1)=some n:=fun h'=>by
  have d75:te75.d= .slice 3:=rfl;simp [zP,pY,d75]
 have c1: ∀h':Hp,qAN tb h' 3 215 (iv (n:Int))=some (uv (n:Int)):=fun h'=>by
  rcases (by omega:n=1\/n=2\/n=3\/n=4) with rfl|rfl|rfl|rfl<;>kernel_rfl
 refine qA fun K hn hp=> ?_;simp only [sw.1,rE,reduceIte,rL,syw.1,ln];apply hn;refine reg fun K hn hp=> ?_;simp only [sy.1,rE,reduceIte,rL,qB6,c1];refine qB (sok xt) (xZL (bitsLen_c xt h n h1 h4) fun res h1' hres=> ?_);obtain ⟨⟨r,rfl⟩,f1⟩:=hres;simp only [sy.1,rE,reduceIte,rL];refine qB (sok xt) (xZL (pdq_c xt h1' b n l r hl h1 (by omega) (by have:=f1.le;omega) ((f1.at_ b (.inl hb)).trans hm)) fun res h2 hres=> ?_);obtain ⟨⟨r2,rfl⟩,f2,s2⟩:=hres;simp only [sy.1,rL];apply hn;refine ⟨_,[],rfl,by rw [res188];rfl,⟨_,rfl⟩,(FrM.of f1).trans f2 (by have:=f1.lo;omega),s2⟩
end Go.Proofs.Kn
namespace Go.Proofs.Kn
open Go Go.Ev
set_option maxRecDepth 100000
set_option maxHeartbeats 4000000
def cp2 (k0:Nat):Nat->Nat->Nat->List Int->Nat×List Int
 |0,k,_,L=>(k,L)
 |m+1,k,q,L=>if L.getD (k0+q) 0=L.getD (k0+(q - 1)) 0 then cp2 k0 m k (q+1) L else cp2 k0 m (k+1) (q+1) (L.set k (L.getD (k0+q) 0))
def cpO (l:List Int):Nat->Nat->List Int
 |0,_=>l
 |m+1,k=>if l.getD k 0=l.getD (k - 1) 0 then (cp2 k (l.length - k - 1) k 1 l).2.take (cp2 k (l.length - k - 1) k 1 l).1 else cpO l m (k+1)
def cpt (l:List Int):List Int:=if l.length<2 then l else cpO l (l.length - 1) 1
theorem lo75 (h:Hp) (b n k:Nat) (hk:k<=n):kS tb h 75 (.sl b 0 n 1) (some (iv (k:Int))) none=some (.sl b k (n - k) 1):=by
 have:kS tb h 75 (.sl b 0 n 1) (some (iv (k:Int))) none=bif Nat.ble k n && (Nat.ble n n && Nat.beq 1 1) then some (.sl b (0+k*1) (n - k) 1) else none:=by kernel_rfl
 rw [this,show Nat.ble k n=true by rw [xZU];exact hk,show Nat.ble n n=true by rw [xZU];exact xZY _];simp
theorem hi75 (h:Hp) (b n k:Nat) (hk:k<=n):kS tb h 75 (.sl b 0 n 1) none (some (iv (k:Int)))=some (.sl b 0 k 1):=by
 have:kS tb h 75 (.sl b 0 n 1) none (some (iv (k:Int)))=bif Nat.ble 0 k && (Nat.ble k n && Nat.beq 1 1) then some (.sl b (0+0*1) (k - 0) 1) else none:=by kernel_rfl
 rw [this,show Nat.ble k n=true by rw [xZU];exact hk,show Nat.ble 0 k=true by rw [xZU];omega];simp
theorem ix75o {b o n j:Nat} (hj:j<n):qK tb 75 (.sl b o n 1) (iv (j:Int))=some (.ptr b (o+j)):=by
 have e1:bX (iv (j:Int))=some (Int.ofNat j):=rfl;have e2:Nat.blt j n=true:=by rw [xZK];exact hj
 have d75:te75.d= .slice 3:=rfl;have s3:te3.size=1:=rfl;simp [qK,pY,e1,d75,tg3,e2,s3]
theorem clr75 (xt:Addr->Option Value) (h:Hp) (b k m:Nat) (cs:List AV) (hm:0<m) (hb:h.t.get b=some (.cells cs 3)) (hl:k+m<=cs.length):qS Tryz.prog tb xt .clear [75] [.sl b k m 1] h=some (.tup [],h.set b (.cells (cs.take k++jS [iv 0] m++cs.drop (k+m)) 3)):=by
 have d75:te75.d= .slice 3:=rfl;have s3:te3.size=1:=rfl;have z3:te3.zero=[.int .i64 0]:=rfl;have b1:Nat.blt 0 m=true:=by rw [xZK];exact hm
 have b2:Nat.ble (k+m) cs.length=true:=by rw [xZU];exact hl
 have b3:Value.oneCell' (.int .i64 0)=true:=rfl;have:gH tb h 75 (.sl b k m 1)=some (h.set b (.cells (cs.take k++jS [iv 0] m++cs.drop (k+m)) 3)):=by
  have b4:Nat.blt 0 1=true:=rfl;simp [gH,pY,d75,tg3,s3,z3,hb,b1,b2,b3,b4]
 simp only [qS,this]
theorem qDD {xt:Addr->Option Value} {h:Hp} {b k:Nat} {cs:List AV} {l:List Int} (hb:h.t.get b=some (.cells cs 3)) (hbn:b<h.n) (hl:l.length=k) (hk:k<=cs.length) (ht:cs.take k=ivs l):RowAt xt h 1 (.sl b 0 k 1) (l.map Kn.c1):=by
 refine ⟨fun c hc=>by obtain ⟨x,_,rfl⟩:=List.mem_map.1 hc;rfl,by omega,.inr (.inr ⟨b,0,cs,3,by simp [hl],⟨hbn,by simp [hl];exact hk,hb⟩,fun i c hi j u hu=> ?_⟩)⟩;rw [xZV,Option.map_eq_some_iff] at hi;obtain ⟨x,hx,rfl⟩:=hi;have hil:=(xZS.1 hx).1;have hj:j=0:=by have:=(xZS.1 hu).1;simp [Kn.c1] at this;omega
 subst hj;simp only [Kn.c1,List.getElem?_cons_zero,Option.some.injEq] at hu;subst hu;have e1:(ivs l)[i]? =some (iv x):=by rw [ivs,xZV,hx];rfl
 rw [<-ht,List.getElem?_take,if_pos (by omega)] at e1;simpa using e1
theorem ft189 (xt:Addr->Option Value):(SE xt).ft.get 189=some Tryz.f189:=by kernel_rfl
theorem res189:Tryz.f189.results.toList=[.tmp 2]:=by kernel_rfl
theorem compact_c (xt:Addr->Option Value) (h:Hp) (b n:Nat) (l:List Int) (hl:l.length=n) (h12:n<=12) (hb:b<h.n) (hm:h.t.get b=some (.cells (ivs l) 3)):
  FnA (SE xt) 189 [.sl b 0 n 1] h (fun res h'=>FrM (fun x=>x=b) h.n h h'/\res= .ret (.sl b 0 (cpt l).length 1)/\RowAt xt h' 1 (.sl b 0 (cpt l).length 1) ((cpt l).map Kn.c1)):=by
 refine xZX (sok xt) (ft189 xt) rfl 61 rfl ?_;have ln: ∀(h':Hp) (o m:Nat),zP tb h' 75 (.sl b o m 1)=some m:=fun h' o m=>by
  have d75:te75.d= .slice 3:=rfl;simp [zP,pY,d75]
 refine qA fun K hn hp=> ?_;simp only [sw.1,rL];apply hn;refine qE ?_;have r0:RowAt xt h 1 (.sl b 0 n 1) (l.map Kn.c1):=qDD hm hb hl (by rw [uI];omega) (xZQ (by rw [uI];omega));by_cases h2:n<2
 ·have d2:decide ((n:Int)<2)=true:=decide_eq_true (by omega);have e:cpt l=l:=by rw [cpt,if_pos (by omega)]
  refine qA fun K hn hp=> ?_;simp only [sy.1,rE,reduceIte,rL,syw.1,ln,d2];apply hn;refine qC true (by simp only [sy.1,rE,reduceIte]) (fun _=> ?_) (fun hx=>by cases hx);refine qE ?_;refine qA fun K hn hp=> ?_;simp only [sy.1,rE,reduceIte,rL];apply hn;refine jF (qN res189 ⟨FrM.refl (xZY _),?_,?_⟩)
  ·simp [xZZ,e,hl]
  ·rw [e,hl];exact r0
 ·have d2:decide ((n:Int)<2)=false:=decide_eq_false (by omega);have e:cpt l=cpO l (n - 1) 1:=by rw [cpt,if_neg (by omega),hl]
  refine qA fun K hn hp=> ?_;simp only [sy.1,rE,reduceIte,rL,syw.1,ln,d2];apply hn;refine qC false (by simp only [sy.1,rE,reduceIte]) (fun hx=>by cases hx) (fun _=> ?_);refine qI ?_;refine qE ?_;refine qA fun K hn hp=> ?_;simp only [sy.1,rL];apply hn;refine qG fun KA A1 A2 A3 A4 A5=> ?_;refine qV (sok xt) (fun st=> ∃(k:Nat) (tm:T AV),st=⟨tm,61,h,[]⟩/\k<=n/\tm.get 0=some (.sl b 0 n 1)/\tm.get 3=some (iv k)/\1<=k/\cpO l (n - k) k=cpt l) (fun st=>n - (match st.tm.get 3 with|some (.val (.int _ n))=>n.toNat|_=>0)) ?_ ?_
  ·rintro st ⟨k,tm,rfl,hkA,g0,g3,hk1,hc⟩;have muA:=g3;refine qE ?_;refine qA fun K hn hp=> ?_;simp only [sy.1,rE,reduceIte,rL,syw.1,ln,jU,g0,g3];apply hn;by_cases hk:k<n
   ·refine qC true (by simp only [sy.1,rE,reduceIte,hk]) (fun _=> ?_) (fun hx=>by cases hx);refine qI ?_;have w1:IntKind.i64.wrap ((k:Int) - 1)=((k - 1:Nat):Int):=by rw [qM _ (by omega) (by omega)];omega
    have i1:=ix75 (b:=b) (n:=n) (j:=k) hk;have i2:=ix75 (b:=b) (n:=n) (j:=k - 1) (by omega);have v1:=pA (l:=l) (j:=k) (by omega);have v2:=pA (l:=l) (j:=k - 1) (by omega);refine qG fun KB B1 B2 B3 B4 B5=> ?_;have ek:n - k=(n - k - 1)+1:=by omega
    rw [ek,cpO] at hc;by_cases eq:l.getD k 0=l.getD (k - 1) 0
    ·have de:decide (l.getD k 0=l.getD (k - 1) 0)=true:=decide_eq_true eq;rw [if_pos eq] at hc;refine zZ (sok xt) 9 (by kernel_rfl) fun K hn hp=> ?_;simp only [sy.1,rE,reduceIte,rL,g0,g3,w1,i1,i2,hm,v1,v2,de];apply hn;refine qH true (by simp only [sy.1,rE,reduceIte]) (fun _=> ?_) (fun hx=>by cases hx);have s1:=lo75 h b n k (by omega);refine qA fun K hn hp=> ?_;simp only [sy.1,rE,reduceIte,rL,g0,g3,pH,xZT,s1];apply hn;refine qE ?_;refine qA fun K hn hp=> ?_;simp only [sy.1,rL];apply hn;refine qG fun KD D1 D2 D3 D4 D5=> ?_;refine qV (sok xt) (fun st=> ∃(q:Nat) (kk:Nat) (L:List Int) (hd:Hp) (tm:T AV),st=⟨tm,61,hd,[]⟩/\q<=n-k/\tm.get 0=some (.sl b 0 n 1)/\tm.get 3=some (iv (kk:Int))/\tm.get 4=some (.sl b k (n - k) 1)/\tm.get 5=some (iv (q:Int))/\1<=q/\1<=kk/\kk+1<=k+q/\L.length=n/\cp2 k (n - k - q) kk q L=cp2 k (n - k - 1) k 1 l/\FrM (fun x=>x=b) h.n h hd/\hd.t.get b=some (.cells (ivs L) 3)) (fun st=>n-k - (match st.tm.get 5 with|some (.val (.int _ n))=>n.toNat|_=>0)) ?_ ?_
     ·rintro st ⟨q,kk,L,hd,tm,rfl,hkD,g0,g3,g4,g5,hq1,hkk,hkq,hL,hcp,fd,sd⟩;have muD:=g5;refine qE ?_;refine qA fun K hn hp=> ?_;simp only [sy.1,rE,reduceIte,rL,syw.1,ln,jU,g4,g5];apply hn;by_cases hq:q<n - k
      ·refine qC true (by simp only [sy.1,rE,reduceIte,hq]) (fun _=> ?_) (fun hx=>by cases hx);refine qI ?_;have w1:IntKind.i64.wrap ((q:Int) - 1)=((q - 1:Nat):Int):=by rw [qM _ (by omega) (by omega)];omega
       have i0:=ix75 (b:=b) (n:=n) (j:=kk) (by omega);have i1:=ix75o (b:=b) (o:=k) (n:=n - k) (j:=q) hq;have i2:=ix75o (b:=b) (o:=k) (n:=n - k) (j:=q - 1) (by omega);have v1:=pA (l:=L) (j:=k+q) (by omega);have v2:=pA (l:=L) (j:=k+(q - 1)) (by omega);refine qG fun KE E1 E2 E3 E4 E5=> ?_;have eq2:n - k - q=(n - k - (q+1))+1:=by omega
       rw [eq2,cp2] at hcp;by_cases eq:L.getD (k+q) 0=L.getD (k+(q - 1)) 0
       ·have de:(!decide (L.getD (k+q) 0=L.getD (k+(q - 1)) 0))=false:=by rw [decide_eq_true eq];rfl
        rw [if_pos eq] at hcp;refine regD (sok xt) 9 (by kernel_rfl) fun K hn hp=> ?_;simp only [sy.1,rE,reduceIte,rL,g4,g5,w1,i1,i2,sd,v1,v2,de];apply hn;refine qH false (by simp only [sy.1,rE,reduceIte]) (fun hx=>by cases hx) (fun _=> ?_);refine qX (E1 _ ?_);refine reg fun K hn hp=> ?_;simp only [sy.1,rE,reduceIte,rL,g5,qQ hq (show n - k<=9223372036854775807 by omega)];apply hn;refine ⟨⟨q+1,kk,L,hd,_,rfl,by omega,(by simp [xZZ,g0]),(by simp [xZZ,g3]),(by simp [xZZ,g4]),(by simp [xZZ]),by omega,hkk,by omega,hL,hcp,fd,sd⟩,by simpa [xZZ,muD] using (by omega:n-k - (q+1)<n-k - q)⟩
       ·have de:(!decide (L.getD (k+q) 0=L.getD (k+(q - 1)) 0))=true:=by rw [decide_eq_false eq];rfl
        rw [if_neg eq] at hcp;refine zZ (sok xt) 9 (by kernel_rfl) fun K hn hp=> ?_;simp only [sy.1,rE,reduceIte,rL,g4,g5,w1,i1,i2,sd,v1,v2,de];apply hn;refine qH true (by simp only [sy.1,rE,reduceIte]) (fun _=> ?_) (fun hx=>by cases hx);have p1:=zM (h:=hd) (b:=b) (off:=kk) (v:=iv (L.getD (k+q) 0)) (cs:=ivs L) (e:=3) rfl rfl (by rw [uI];omega);rw [ivs_set] at p1;have w2:IntKind.i64.wrap ((kk:Int)+1)=((kk+1:Nat):Int):=by rw [qM _ (by omega) (by omega)];omega
        refine qA fun K hn hp=> ?_;simp only [sy.1,rE,reduceIte,rL,g0,g3,g4,g5,i0,i1,sd,v1,p1];apply hn;refine reg fun K hn hp=> ?_;simp only [sy.1,rE,reduceIte,rL,g3,w2];apply hn;refine E1 _ ?_;refine reg fun K hn hp=> ?_;simp only [sy.1,rE,reduceIte,rL,g5,qQ hq (show n - k<=9223372036854775807 by omega)];apply hn;refine ⟨⟨q+1,kk+1,L.set kk (L.getD (k+q) 0),hd.set b (.cells (ivs (L.set kk (L.getD (k+q) 0))) 3),_,rfl,by omega,(by simp [xZZ,g0]),(by simp [xZZ]),(by simp [xZZ,g4]),(by simp [xZZ]),by omega,by omega,by omega,by rw [List.length_set,hL],hcp,fd.set (.inr rfl) _,by rw [Hp.set_t,xZZ,if_pos rfl]⟩,by simpa [xZZ,muD] using (by omega:n-k - (q+1)<n-k - q)⟩
      ·refine qC false (by simp only [sy.1,rE,reduceIte,hq]) (fun hx=>by cases hx) (fun _=> ?_);refine qT (D2 _ ?_);obtain rfl:q=n - k:=by omega
       rw [Nat.sub_self,cp2] at hcp;have s2:=lo75 hd b n kk (by omega);have c2:=clr75 xt hd b kk (n - kk) (ivs L) (by omega) sd (by rw [uI];omega);have s3:=hi75 (hd.set b (.cells ((ivs L).take kk++jS [iv 0] (n - kk)++(ivs L).drop (kk+(n - kk))) 3)) b n kk (by omega);refine qA fun K hn hp=> ?_;simp only [sy.1,rE,reduceIte,rL,g0,g3,pH,xZT,s2,c2];apply hn;refine qA fun K hn hp=> ?_;simp only [sy.1,rE,reduceIte,rL,g0,g3,pH,xZT,s3];apply hn;obtain ⟨h4,hh4⟩: ∃h4,h4=hd.set b (.cells ((ivs L).take kk++jS [iv 0] (n - kk)++(ivs L).drop (kk+(n - kk))) 3):=⟨_,rfl⟩;have ct:cpt l=L.take kk:=by rw [<-hc,hl,<-hcp]
       have lct:(cpt l).length=kk:=by rw [ct,xZJ];omega
       have st:((ivs L).take kk).length=kk:=by rw [xZJ,uI];omega
       refine qD (B4 _ (A4 _ (qN res189 ⟨fd.set (.inr rfl) _,?_,?_⟩)))
       ·simp [xZZ,lct]
       ·rw [lct];refine qDD (by rw [Hp.set_t,xZZ,if_pos rfl]) (by rw [Hp.set_n];exact Nat.lt_of_lt_of_le hb fd.le) lct (by simp only [List.length_append,st];omega) ?_;rw [List.append_assoc,List.take_append_of_le_length (by rw [st];exact xZY _),xZQ (by rw [st];exact xZY _),ct,ivs,ivs,List.map_take]
     ·exact ⟨1,k,l,h,_,rfl,(by omega),(by simp [xZZ,g0]),(by simp [xZZ,g3]),(by simp [xZZ]),(by simp [xZZ]),xZY _,hk1,xZY _,hl,rfl,FrM.refl (xZY _),hm⟩
    ·have de:decide (l.getD k 0=l.getD (k - 1) 0)=false:=decide_eq_false eq;rw [if_neg eq] at hc;refine zZ (sok xt) 9 (by kernel_rfl) fun K hn hp=> ?_;simp only [sy.1,rE,reduceIte,rL,g0,g3,w1,i1,i2,hm,v1,v2,de];apply hn;refine qH false (by simp only [sy.1,rE,reduceIte]) (fun hx=>by cases hx) (fun _=> ?_);refine qX (B1 _ ?_);refine reg fun K hn hp=> ?_;simp only [sy.1,rE,reduceIte,rL,g3,qQ hk (show n<=9223372036854775807 by omega)];apply hn;refine ⟨⟨k+1,_,rfl,by omega,(by simp [xZZ,g0]),(by simp [xZZ]),by omega,by rw [show n - (k+1)=n - k - 1 by omega];exact hc⟩,by simpa [xZZ,muA] using (by omega:n - (k+1)<n - k)⟩
   ·refine qC false (by simp only [sy.1,rE,reduceIte,hk]) (fun hx=>by cases hx) (fun _=> ?_);refine qT (A2 _ ?_);obtain rfl:k=n:=by omega
    rw [Nat.sub_self,cpO] at hc;refine qA fun K hn hp=> ?_;simp only [sy.1,rE,reduceIte,rL,g0];apply hn;refine qD (qN res189 ⟨FrM.refl (xZY _),?_,?_⟩)
    ·simp [xZZ,<-hc,hl]
    ·rw [<-hc,hl];exact r0
  ·exact ⟨1,_,rfl,(by omega),(by simp [xZZ]),(by simp [xZZ]),xZY _,e.symm⟩
end Go.Proofs.Kn
