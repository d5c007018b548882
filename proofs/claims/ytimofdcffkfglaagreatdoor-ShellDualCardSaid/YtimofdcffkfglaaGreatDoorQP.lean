/- Parts. -/
import Derived.Test.YtimofdcffkfglaaGreatDoorQN
import Derived.Test.YtimofdcffkfglaaGreatDoorQC
set_option linter.all false
open Nat renaming reduceEqDiff → rE, reduceLeDiff → rD, reduceAdd → rA, reduceMul → rM, reduceLT → rL
open Go.Ev.T renaming get_put → xZZ
open Nat renaming le_refl → xZY, le_succ → xZT, le_of_lt → xZP, ble_eq → xZJ, strongRecOn → xYO, le_trans → xYN, sub_self → xYK, lt_succ_self → xYF, blt_eq → xYB, zero_add → xXX, zero_le → xXV
open List renaming getElem?_eq_getElem → xZX, getD_eq_getElem?_getD → xZW, drop_eq_getElem_cons → xZV, length_map → xZU, getElem?_eq_some_iff → xZS, getElem?_map → xZR, mem_singleton → xZN, mem_of_getElem? → xZL, mem_map → xZK, take_of_length_le → xZG, length_filter_le → xZF, map_cons → xZD, mem_cons_self → xZB, length_cons → xZA, mem_cons_of_mem → xYZ, map_append → xYY, map_nil → xYX, length_append → xYW, length_take → xYR, mem_append → xYP, getElem?_take → xYM, take_length → xYJ, filter_cons → xYI, drop_length → xYH, all_eq_true → xYG, mem_filter → xYE, filter_nil → xYD, take_succ → xYC, mem_cons → xYA, getElem?_cons_zero → xXZ, drop_eq_nil_of_le → xXY, filter_append → xXU, length_range → xXT, cons_append → xXS
open Go.Ev.FnA renaming walk → xZQ, mono → xZI, calm → xYU
open Go.Ev.Fr renaming refl → xZO
open Go.Ev.Hp renaming set_t → xZM, up_n → xZH, set_n → xYT, up_up → xYL
open And renaming intro → xZE
open Int renaming toNat_natCast → xZC
open Bool renaming false_eq_true → xYV
open Option renaming getD_some → xYS, map_none → xYQ, bind_some → xXW
namespace Go.Proofs.Kn
open Go Go.Ev
set_option maxRecDepth 100000
set_option maxHeartbeats 4000000
theorem ft225 (xt:Xt):(SE xt).ft.get 225=some Tryz.f225:=by kernel_rfl
theorem res225:Tryz.f225.results.toList=[.tmp 2]:=by kernel_rfl
theorem qEB (xt:Xt) (h:Hp) (a:Int) {K:KP} (hk: ∀k,h.n<k->K (.ret (.val (.bool false))) (h.up k)):FnA (SE xt) 225 [iv a] h K:=by
 refine xYU ?_ hk;clear hk K;refine xZQ (sok xt) (ft225 xt) rfl 6 rfl ?_;refine qA fun K hn hp=> ?_;simp only [sw.1,rL];apply hn;refine qA fun K hn hp=> ?_;simp only [sy.1,rE,reduceIte,rL];apply hn;refine qC (qH res225 ⟨?_,xZO (xZY _)⟩);simp [xZZ]
def xY (a b:Int):Int:=if a<b then -1 else if b<a then 1 else 0
theorem ft193 (xt:Xt):(SE xt).ft.get 193=some Tryz.f193:=by kernel_rfl
theorem res193:Tryz.f193.results.toList=[.tmp 4]:=by kernel_rfl
theorem cmp_c (xt:Xt) (h:Hp) (a b:Int) {K:KP} (hk: ∀k,h.n<k->K (.ret (iv (xY a b))) (h.up k)):FnA (SE xt) 193 [iv a,iv b] h K:=by
 refine xYU ?_ hk;clear hk K;refine xZQ (sok xt) (ft193 xt) rfl 20 rfl ?_;refine qA fun K hn hp=> ?_;simp only [sw.1,rL];apply hn;refine qA fun K hn hp=> ?_;simp only [sy.1,rE,reduceIte,rL];refine cAS (qEB xt h a fun m1 hm1=> ?_);simp only [sy.1,rE,reduceIte,rL];apply hn;refine qA fun K hn hp=> ?_;simp only [sy.1,rE,reduceIte,rL];refine cAS (qEB xt (h.up m1) b fun m2 hm2=> ?_);simp only [xZH] at hm2;simp only [sy.1,rE,reduceIte,rL,xYL];apply hn;have f:Fr h.n h (h.up m2):=(xZO (xZY _)).up (by omega);refine qB fun K hn hp=> ?_;simp only [sy.1,rE,reduceIte,rL];apply hn;refine jB (by simp only [sy.1,rE,reduceIte]) ?_;refine qB fun K hn hp=> ?_;simp only [sy.1,rE,reduceIte,rL];apply hn;refine jB (by simp only [sy.1,rE,reduceIte]) ?_;refine jK ?_;by_cases e1:a<b
 ·have d1:decide (a<b)=true:=decide_eq_true e1;refine qA fun K hn hp=> ?_;simp only [sy.1,rE,reduceIte,rL,d1];apply hn;refine qW (by simp only [sy.1,rE,reduceIte]) ?_;refine qB fun K hn hp=> ?_;simp only [sy.1,rL];apply hn;refine qQ (qH res193 ⟨?_,f⟩);simp [xZZ,xY,e1]
 ·have d1:decide (a<b)=false:=decide_eq_false e1;refine qA fun K hn hp=> ?_;simp only [sy.1,rE,reduceIte,rL,d1];apply hn;refine jB (by simp only [sy.1,rE,reduceIte]) ?_;refine jK ?_;by_cases e2:b<a
  ·have d2:decide (b<a)=true:=decide_eq_true e2;refine qA fun K hn hp=> ?_;simp only [sy.1,rE,reduceIte,rL,d2];apply hn;refine qW (by simp only [sy.1,rE,reduceIte]) ?_;refine qB fun K hn hp=> ?_;simp only [sy.1,rL];apply hn;refine qQ (qH res193 ⟨?_,f⟩);simp [xZZ,xY,e1,e2]
  ·have d2:decide (b<a)=false:=decide_eq_false e2;refine qA fun K hn hp=> ?_;simp only [sy.1,rE,reduceIte,rL,d2];apply hn;refine jB (by simp only [sy.1,rE,reduceIte]) ?_;refine qA fun K hn hp=> ?_;simp only [sy.1,rL];apply hn;refine qC (qH res193 ⟨?_,f⟩);simp [xZZ,xY,e1,e2]
def orL:List Int->Int
 |[]=>0
 |x::l=>if x=0 then orL l else x
theorem qCA {l:List Int}: ∀k,(∀j,j<k->l.getD j 0=0)->orL l=orL (l.drop k)
 |0,_=>rfl
 |k+1,h=>by
  rw [qCA k fun j hj=>h j (by omega)];have h0:=h k (by omega);cases e:l.drop k with
  |nil=>
   have:l.drop (k+1)=[]:=by rw [<-List.drop_drop,e];rfl
   rw [this]
  |cons x r=>
   have e1:l.drop (k+1)=r:=by rw [<-List.drop_drop,e];rfl
   have e2:l[k]? =some x:=by rw [<-List.head?_drop,e];rfl
   rw [xZW,e2] at h0;simp only [xYS] at h0;rw [e1,orL,if_pos h0]
theorem orL_at {l:List Int} {k:Nat} (hk:k<l.length) (h: ∀j,j<k->l.getD j 0=0) (hx:l.getD k 0≠0):orL l=l.getD k 0:=by
 rw [qCA k h];rw [xZW,xZX hk] at hx ⊢;rw [xZV hk];simp only [xYS] at hx ⊢;rw [orL,if_neg hx]
theorem ft192 (xt:Xt):(SE xt).ft.get 192=some Tryz.f192:=by kernel_rfl
theorem res192:Tryz.f192.results.toList=[.tmp 2]:=by kernel_rfl
theorem or_c (xt:Xt) (h:Hp) (v:AV) (l:List Int) (hl:RowAt xt h 1 v (l.map Kn.c1)) (hlt:l.length<=9223372036854775807) {K:KP} (hk: ∀k,h.n<k->K (.ret (iv (orL l))) (h.up k)):FnA (SE xt) 192 [v] h K:=by
 refine xYU ?_ hk;clear hk K;refine xZQ (sok xt) (ft192 xt) rfl 18 rfl ?_;have hlen: ∀h':Hp,zA tb h' 75 v=some l.length:=fun h'=>by have:=hl.len (h':=h') yG rfl;simpa using this
 refine qA fun K hn hp=> ?_;simp only [sw.1,rL];apply hn;refine qA fun K hn hp=> ?_;simp only [sy.1,rL];apply hn;refine qB fun K hn hp=> ?_;simp only [sy.1,rE,reduceIte,rL,syw.1,hlen];apply hn;refine qD fun KA A1 A2 A3 A4 A5=> ?_;refine qM (sok xt) (fun st=> ∃(k:Nat) (tm:T AV),st=⟨tm,18,h,[]⟩/\k<=l.length/\tm.get 3=some (iv 0)/\tm.get 6=some (v)/\tm.get 7=some (iv l.length)/\tm.get 8=some (iv k)/\ ∀j,j<k->l.getD j 0=0) (fun st=>l.length - (match st.tm.get 8 with|some (.val (.int _ n))=>n.toNat|_=>0)) ?_ ?_
 ·rintro st ⟨k,tm,rfl,hkA,g3,g6,g7,g8,hall⟩;have muA:=g8;refine qA fun K hn hp=> ?_;simp only [sy.1,rL,qV,g7,g8];apply hn;by_cases hk:k<l.length
  ·refine jC (by simp only [sy.1,reduceIte,hk]) ?_;obtain ⟨i1,i2⟩:=hl.m75 hk;refine qD fun KB B1 B2 B3 B4 B5=> ?_;refine qA fun K hn hp=> ?_;simp only [sy.1,rE,reduceIte,rL,g6,g8,i1,i2];apply hn;by_cases e:l.getD k 0=0
   ·have de:decide (l.getD k 0=0)=true:=decide_eq_true e;refine qA fun K hn hp=> ?_;simp only [sy.1,rE,reduceIte,rL,g3,de];apply hn;refine wcF (by simp only [sy.1,rE,reduceIte]) ?_;refine qR (B1 _ ?_);refine reg fun K hn hp=> ?_;simp only [sy.1,rE,reduceIte,rL,g8,qF hk hlt];apply hn;refine ⟨⟨k+1,_,rfl,by omega,(by simp [xZZ,g3]),(by simp [xZZ,g6]),(by simp [xZZ,g7]),(by simp [xZZ]),fun j hj=> ?_⟩,by simpa [xZZ,muA] using (by omega:l.length - (k+1)<l.length - k)⟩;by_cases ej:j=k
    ·rw [ej];exact e
    ·exact hall j (by omega)
   ·have de:decide (l.getD k 0=0)=false:=decide_eq_false e;refine qA fun K hn hp=> ?_;simp only [sy.1,rE,reduceIte,rL,g3,de];apply hn;refine wcT (by simp only [sy.1,rE,reduceIte]) ?_;refine qA fun K hn hp=> ?_;simp only [sy.1,rE,reduceIte,rL];apply hn;refine qC (B4 _ (A4 _ (qH res192 ⟨?_,xZO (xZY _)⟩)));simp [xZZ,orL_at hk hall e]
  ·refine jD (by simp only [sy.1,reduceIte,hk]) ?_;refine qL (A2 _ ?_);obtain rfl:k=l.length:=by omega
   refine qA fun K hn hp=> ?_;simp only [sy.1,rE,reduceIte,rL,g3];apply hn;refine qC (qH res192 ⟨?_,xZO (xZY _)⟩);have:orL l=0:=by rw [qCA l.length hall,xYH];rfl
   simp [xZZ,this]
 ·exact ⟨0,_,rfl,(by omega),(by simp [xZZ]),(by simp [xZZ]),(by simp [xZZ]),(by simp [xZZ]),fun j hj=>absurd hj (Nat.not_lt_zero j)⟩
def bef (a b:Int×Int×Int):Int:=orL [xY a.1 b.1,xY a.2.1 b.2.1,xY a.2.2 b.2.2]
theorem bs75_3 (h:Hp) (a b c:Int):jN tb h 75 3 [(0,iv a),(1,iv b),(2,iv c)]=some (.sl h.n 0 3 1,h.new (.cells [iv a,iv b,iv c] 3)):=by kernel_rfl
theorem row3 {xt:Xt} {h:Hp} {a b c:Int}:RowAt xt (h.new (.cells [iv a,iv b,iv c] 3)) 1 (.sl h.n 0 3 1) ([a,b,c].map Kn.c1):=
 qEn (N:=h.n) (l:=[a,b,c]) (.inr ⟨h.n,rfl,xZY _,xYF _,pT _ _,rfl⟩)
theorem ft195 (xt:Xt):(SE xt).ft.get 195=some Tryz.f195:=by kernel_rfl
theorem res195:Tryz.f195.results.toList=[.tmp 4]:=by kernel_rfl
theorem before_c (xt:Xt) (h:Hp) (a b:Int×Int×Int) {K:KP} (hk: ∀k,h.n<k->K (.ret (iv (bef a b))) (h.up k)):FnA (SE xt) 195 [bI a,bI b] h K:=by
 refine xYU ?_ hk;clear hk K;refine xZQ (sok xt) (ft195 xt) rfl 22 rfl ?_;refine qA fun K hn hp=> ?_;simp only [sw.1,rE,reduceIte,rL];apply hn;obtain ⟨h1,hh1,n1,s1,k1,f1⟩:=vQ h (.cells [iv a.1,iv a.2.1,iv a.2.2] 61);obtain ⟨h2,hh2,n2,s2,k2,f2⟩:=yJ f1 n1 (.cells [iv b.1,iv b.2.1,iv b.2.2] 61);simp only [<-hh1,<-hh2];clear hh1 hh2;have u1:=(k2 h.n (by omega)).trans s1;simp only [rA] at n2;refine jL (sok xt) 0 0 14 [(6,0),(8,0),(11,0),(11,1),(13,0),(13,1)] (by kernel_rfl) fun K hn hp=> ?_;simp only [sy.1,rE,reduceIte,rL,rA,syw.1,u1,s2];refine cAS (cmp_c xt h2 _ _ fun m1 hm1=> ?_);simp only [sy.1,rE,reduceIte,rL,rA,syw.1,u1,s2,hm1];refine cAS (cmp_c xt (h2.up m1) _ _ fun m2 hm2=> ?_);simp only [xZH] at hm2;simp only [sy.1,rE,reduceIte,rL,rA,syw.1,u1,s2,hm2,xYL];refine cAS (cmp_c xt (h2.up m2) _ _ fun m3 hm3=> ?_);simp only [xZH] at hm3;simp only [sy.1,rE,reduceIte,rL,xYL,jF,bs75_3];obtain ⟨h4,hh4,n4,s4,k4,f4⟩:=vQ (h2.up m3) (.cells [iv (xY a.1 b.1),iv (xY a.2.1 b.2.1),iv (xY a.2.2 b.2.2)] 3);have hr:=row3 (xt:=xt) (h:=h2.up m3) (a:=xY a.1 b.1) (b:=xY a.2.1 b.2.1) (c:=xY a.2.2 b.2.2);rw [<-hh4] at hr;simp only [xZH] at hh4 hr n4 f4;rw [<-hh4];refine cAS (or_c xt h4 (.sl m3 0 3 1) _ hr (by simp) fun m5 hm5=> ?_);simp only [sy.1,rE,reduceIte,rL];refine hn _ _ (qC (qH res195 ⟨?_,((f2.up (m:=m3) (by omega)).trans f4 (by omega)).up (by omega)⟩));simp [xZZ,bef]
theorem ft245 (xt:Xt):(SE xt).ft.get 245=some Tryz.f245:=by kernel_rfl
theorem res245:Tryz.f245.results.toList=[.tmp 4]:=by kernel_rfl
theorem less_c (xt:Xt) (h:Hp) (a b:Int) {K:KP} (hk: ∀k,h.n<k->K (.ret (.val (.bool (decide (a<b))))) (h.up k)):FnA (SE xt) 245 [iv a,iv b] h K:=by
 refine xYU ?_ hk;clear hk K;refine xZQ (sok xt) (ft245 xt) rfl 17 rfl ?_;refine qA fun K hn hp=> ?_;simp only [sw.1,rL];apply hn;refine qA fun K hn hp=> ?_;simp only [sy.1,rE,reduceIte,rL];refine cAS (qEB xt h a fun m1 hm1=> ?_);simp only [sy.1,rE,reduceIte,rL];refine hn _ _ (qC (qH res245 ⟨?_,(xZO (xZY _)).up (xZP hm1)⟩));simp [xZZ]
def swp (l:List Int) (j:Nat):List Int:=(l.set j (l.getD (j - 1) 0)).set (j - 1) (l.getD j 0)
def insJ:Nat->List Int->List Int
 |0,l=>l
 |j+1,l=>if l.getD (j+1) 0<l.getD j 0 then insJ j (swp l (j+1)) else l
def qBh (l:List Int):Nat->List Int
 |0=>l
 |k+1=>insJ (k+1) (qBh l k)
theorem swp_len (l:List Int) (j:Nat):(swp l j).length=l.length:=by simp [swp]
theorem qFI: ∀(j:Nat) (l:List Int),(insJ j l).length=l.length
 |0,_=>rfl
 |j+1,l=>by
  simp only [insJ];split
  ·rw [qFI,swp_len]
  ·rfl
theorem qCL (l:List Int): ∀k,(qBh l k).length=l.length
 |0=>rfl
 |k+1=>by rw [qBh,qFI,qCL l k]
theorem qAd {b n j:Nat} (hj:j<n):qK tb 75 (.sl b 0 n 1) (iv (j:Int))=some (.ptr b j):=by
 have e1:qA1 (iv (j:Int))=some (Int.ofNat j):=rfl;have e2:Nat.blt j n=true:=by rw [xYB];exact hj
 have d75:te75.d= .slice 3:=rfl;have s3:te3.size=1:=rfl;simp [qK,yG,e1,d75,tg3,e2,s3]
theorem zW {l:List Int} {j:Nat} (hj:j<l.length):(ivs l)[j]? =some (iv (l.getD j 0)):=by
 rw [ivs,xZR,xZW,xZX hj];rfl
theorem qEy (l:List Int) (j:Nat) (x:Int):(ivs l).set j (iv x)=ivs (l.set j x):=by
 rw [ivs,ivs,List.map_set]
theorem zV (l:List Int):(ivs l).length=l.length:=by simp [ivs]
theorem ft239 (xt:Xt):(SE xt).ft.get 239=some Tryz.f239:=by kernel_rfl
theorem res239:Tryz.f239.results.toList=[]:=by kernel_rfl
theorem insS_c (xt:Xt) (h:Hp) (b n:Nat) (l:List Int) (hl:l.length=n) (h1:1<=n) (h12:n<=12) (hb:b<h.n) (hm:h.t.get b=some (.cells (ivs l) 3)):
  FnA (SE xt) 239 [.sl b 0 n 1,iv 0,iv (n:Int)] h (fun res h'=>(∃r,res= .ret r)/\FrM (fun x=>x=b) h.n h h'/\h'.t.get b=some (.cells (ivs (qBh l (n - 1))) 3)):=by
 refine xZQ (sok xt) (ft239 xt) rfl 49 rfl ?_;have w0:IntKind.i64.wrap ((0:Int)+1)=((1:Nat):Int):=by decide
 refine qA fun K hn hp=> ?_;simp only [sw.1,rE,reduceIte,rL,rA,w0];apply hn;refine qZ fun KA A1 A2 A3 A4 A5=> ?_;refine qM (sok xt) (fun st=> ∃(i:Nat) (hg:Hp) (tm:T AV),st=⟨tm,49,hg,[]⟩/\i<=n/\tm.get 0=some (.sl b 0 n 1)/\tm.get 1=some (iv 0)/\tm.get 2=some (iv (n:Int))/\tm.get 6=some (iv i)/\1<=i/\FrM (fun x=>x=b) h.n h hg/\hg.t.get b=some (.cells (ivs (qBh l (i - 1))) 3)) (fun st=>n - (match st.tm.get 6 with|some (.val (.int _ n))=>n.toNat|_=>0)) ?_ ?_
 ·rintro st ⟨i,hg,tm,rfl,hkA,g0,g1,g2,g6,hi1,fg,sg⟩;have muA:=g6;refine qB fun K hn hp=> ?_;simp only [sy.1,rE,reduceIte,rL,qV,g2,g6];apply hn;by_cases hi:i<n
  ·refine jC (by simp only [sy.1,rE,reduceIte,hi]) ?_;refine qD fun KB B1 B2 B3 B4 B5=> ?_;refine qA fun K hn hp=> ?_;simp only [sy.1,rE,reduceIte,rL,g6];apply hn;refine qZ fun KD D1 D2 D3 D4 D5=> ?_;refine qM (sok xt) (fun st=> ∃(q:Nat) (j:Nat) (L:List Int) (hd:Hp) (tm:T AV),st=⟨tm,49,hd,[]⟩/\q<=i/\tm.get 0=some (.sl b 0 n 1)/\tm.get 1=some (iv 0)/\tm.get 2=some (iv (n:Int))/\tm.get 6=some (iv i)/\tm.get 7=some (iv (j:Int))/\j+q=i/\L.length=n/\insJ j L=insJ i (qBh l (i - 1))/\FrM (fun x=>x=b) h.n h hd/\hd.t.get b=some (.cells (ivs L) 3)) (fun st=>(match st.tm.get 7 with|some (.val (.int _ n))=>n.toNat|_=>0)) ?_ ?_
   ·rintro st ⟨q,j,L,hd,tm,rfl,hkD,g0,g1,g2,g6,g7,hjq,hL,hins,fd,sd⟩;have muD:=g7;refine jK ?_;have out: ∀(tm:T AV) (hx:Hp),insJ j L=L->FrM (fun x=>x=b) h.n h hx->hx.t.get b=some (.cells (ivs L) 3)->tm.get 0=some (.sl b 0 n 1)->tm.get 1=some (iv 0)->tm.get 2=some (iv (n:Int))->tm.get 6=some (iv i)->KD (.exit 2) ⟨tm,49,hx,[]⟩:=by
     intro tm hx e fx sx g0 g1 g2 g6;refine D2 _ (B1 _ ?_);refine reg fun K hn hp=> ?_;simp only [sy.1,rE,reduceIte,rL,g6,qF hi (show n<=9223372036854775807 by omega)];apply hn;refine ⟨⟨i+1,hx,_,rfl,by omega,(by simp [xZZ,g0]),(by simp [xZZ,g1]),(by simp [xZZ,g2]),(by simp [xZZ]),by omega,fx,?_⟩,by simpa [xZZ,muA] using (by omega:n - (i+1)<n - i)⟩;have e1:qBh l (i+1 - 1)=L:=by
      obtain ⟨i',rfl⟩: ∃i',i=i'+1:=⟨i - 1,by omega⟩;rw [show i'+1+1 - 1=i'+1 by omega,qBh,<-e,hins];rfl
     rw [e1];exact sx
    by_cases hj:j=0
    ·subst hj;have d1:decide ((0:Int)<((0:Nat):Int))=false:=by decide
     refine zM (sok xt) 13 (by kernel_rfl) fun K hn hp=> ?_;simp only [sy.1,rE,reduceIte,rL,g1,g7,d1];apply hn;refine jD (by simp only [sy.1,rE,reduceIte]) ?_;refine qL (out _ _ rfl fd sd ?_ ?_ ?_ ?_);all_goals simp [xZZ,g0,g1,g2,g6]
    ·obtain ⟨j',rfl⟩: ∃j',j=j'+1:=⟨j - 1,by omega⟩;have d1:decide ((0:Int)<((j'+1:Nat):Int))=true:=decide_eq_true (by omega);have w1:IntKind.i64.wrap (((j'+1:Nat):Int) - 1)=(j':Int):=by rw [qG _ (by omega) (by omega)];omega
     have i1:=qAd (b:=b) (n:=n) (j:=j'+1) (by omega);have i2:=qAd (b:=b) (n:=n) (j:=j') (by omega);have v1:=zW (l:=L) (j:=j'+1) (by omega);have v2:=zW (l:=L) (j:=j') (by omega);refine zM (sok xt) 13 (by kernel_rfl) fun K hn hp=> ?_;simp only [sy.1,rE,reduceIte,rL,g0,g1,g7,d1,w1,i1,i2,sd,v1,v2];refine cAS (less_c xt hd _ _ fun m1 hm1=> ?_);by_cases e:L.getD (j'+1) 0<L.getD j' 0
     ·have de:decide (L.getD (j'+1) 0<L.getD j' 0)=true:=decide_eq_true e;simp only [sy.1,rE,reduceIte,rL,de];apply hn;refine jC (by simp only [sy.1,rE,reduceIte]) ?_;obtain ⟨hu,hhu⟩: ∃hu,hu=hd.up m1:=⟨_,rfl⟩;rw [<-hhu];have fu:FrM (fun x=>x=b) h.n h hu:=by rw [hhu];exact fd.up (xZP hm1)
      have su:hu.t.get b=some (.cells (ivs L) 3):=by rw [hhu];exact sd
      clear hhu;have p1:=zO (h:=hu) (b:=b) (off:=j'+1) (v:=iv (L.getD j' 0)) (cs:=ivs L) (e:=3) rfl rfl (by rw [zV];omega);have p2:=zO (h:=hu.set b (.cells (ivs (L.set (j'+1) (L.getD j' 0))) 3)) (b:=b) (off:=j') (v:=iv (L.getD (j'+1) 0)) (cs:=ivs (L.set (j'+1) (L.getD j' 0))) (e:=3) rfl rfl (by rw [zV,List.length_set];omega);rw [qEy] at p1 p2;have es:(L.set (j'+1) (L.getD j' 0)).set j' (L.getD (j'+1) 0)=swp L (j'+1):=rfl;rw [es] at p2;refine qD fun KE E1 E2 E3 E4 E5=> ?_;refine regL (sok xt) 0 0 16 [] (by kernel_rfl) fun K hn hp=> ?_;simp only [sy.1,rE,reduceIte,rL,rA,syw.1,g0,g7,w1,i1,i2,su,v1,v2,p1,p2];refine hn _ _ (E1 _ ?_);refine reg fun K hn hp=> ?_;simp only [sy.1,rE,reduceIte,rL,g7,w1];apply hn;refine ⟨⟨q+1,j',swp L (j'+1),_,_,rfl,by omega,?_,?_,?_,?_,?_,by omega,by rw [swp_len,hL],?_,(fu.set (.inr rfl) _).set (.inr rfl) _,?_⟩,?_⟩
      ·simp [xZZ,g0]
      ·simp [xZZ,g1]
      ·simp [xZZ,g2]
      ·simp [xZZ,g6]
      ·simp [xZZ]
      ·rw [<-hins,insJ,if_pos e]
      ·rw [xZM,xZZ,if_pos rfl]
      ·simp [xZZ,muD]
     ·have de:decide (L.getD (j'+1) 0<L.getD j' 0)=false:=decide_eq_false e;simp only [sy.1,rE,reduceIte,rL,de];apply hn;refine jD (by simp only [sy.1,rE,reduceIte]) ?_;refine qL (out _ _ (by rw [insJ,if_neg e]) (fd.up (xZP hm1)) sd ?_ ?_ ?_ ?_);all_goals simp [xZZ,g0,g1,g2,g6]
   ·refine ⟨0,i,_,_,_,rfl,xXV _,?_,?_,?_,?_,?_,by omega,by rw [qCL,hl],rfl,fg,sg⟩;all_goals simp [xZZ,g0,g1,g2,g6]
  ·refine jD (by simp only [sy.1,rE,reduceIte,hi]) ?_;obtain rfl:i=n:=by omega
   refine qL (A2 _ ⟨_,[],rfl,by rw [res239];rfl,⟨_,rfl⟩,fg,sg⟩)
 ·exact ⟨1,h,_,rfl,(by omega),(by simp [xZZ]),(by simp [xZZ]),(by simp [xZZ]),(by simp [xZZ]),xZY _,FrM.refl (xZY _),hm⟩
theorem optK_of {h:Hp} {x:Option AV} {v:AV} {K:OR->Prop} (hx:x=some v) (hk:K (.ok v h)):pQ h x K:=by rw [hx];exact hk
theorem ft209 (xt:Xt):(SE xt).ft.get 209=some Tryz.f209:=by kernel_rfl
theorem res209:Tryz.f209.results.toList=[.tmp 2]:=by kernel_rfl
def bl (n:Nat):Int:=if n=1 then 1 else if n=4 then 3 else 2
abbrev uv (n:Int):AV:= .val (.int .u64 n)
theorem len64_c (xt:Xt) (h:Hp) (n:Nat) (h1:1<=n) (h4:n<=4):FnA (SE xt) 209 [uv (n:Int)] h (fun res h'=>(∃r:Int,res= .ret (iv r))/\Fr h.n h h'):=by
 refine xZQ (sok xt) (ft209 xt) rfl 25 rfl ?_;have d1:decide ((4294967296:Int)<=(n:Int))=false:=decide_eq_false (by omega);have d2:decide ((65536:Int)<=(n:Int))=false:=decide_eq_false (by omega);have d3:decide ((256:Int)<=(n:Int))=false:=decide_eq_false (by omega);refine qA fun K hn hp=> ?_;simp only [sw.1,rL];apply hn;refine qB fun K hn hp=> ?_;simp only [sy.1,rE,reduceIte,rL,d1];apply hn;refine jB (by simp only [sy.1,rE,reduceIte]) ?_;refine qB fun K hn hp=> ?_;simp only [sy.1,rE,reduceIte,rL,d2];apply hn;refine jB (by simp only [sy.1,rE,reduceIte]) ?_;refine qB fun K hn hp=> ?_;simp only [sy.1,rE,reduceIte,rL,d3];apply hn;refine jB (by simp only [sy.1,rE,reduceIte]) ?_;refine qA fun K hn hp=> ?_;have c1:qBS tb h 260 5 (uv (n:Int))=some (.val (.int .u8 (n:Int))):=by
  rcases (by omega:n=1\/n=2\/n=3\/n=4) with rfl|rfl|rfl|rfl<;>kernel_rfl
 simp only [sy.1,rE,reduceIte,rL,qDk,c1];refine optK_of (v:= .val (.int .u8 (bl n))) (by rcases (by omega:n=1\/n=2\/n=3\/n=4) with rfl|rfl|rfl|rfl<;>kernel_rfl) ?_
 have c2:qBS tb h 5 3 (.val (.int .u8 (bl n)))=some (iv (bl n)):=by
  rcases (by omega:n=1\/n=2\/n=3\/n=4) with rfl|rfl|rfl|rfl<;>kernel_rfl
 have w1:IntKind.i64.wrap ((0:Int)+bl n)=bl n:=by
  rcases (by omega:n=1\/n=2\/n=3\/n=4) with rfl|rfl|rfl|rfl<;>kernel_rfl
 simp only [sy.1,rE,reduceIte,rL,qDk,c2,w1];refine hn _ _ (qC (qH res209 ⟨⟨bl n,?_⟩,xZO (xZY _)⟩));simp [xZZ]
theorem ft168 (xt:Xt):(SE xt).ft.get 168=some Tryz.f168:=by kernel_rfl
theorem res168:Tryz.f168.results.toList=[.tmp 2]:=by kernel_rfl
theorem bitsLen_c (xt:Xt) (h:Hp) (n:Nat) (h1:1<=n) (h4:n<=4):FnA (SE xt) 168 [uv (n:Int)] h (fun res h'=>(∃r:Int,res= .ret (iv r))/\Fr h.n h h'):=by
 refine xZQ (sok xt) (ft168 xt) rfl 8 rfl ?_;refine qA fun K hn hp=> ?_;simp only [sw.1,rL];apply hn;refine jB (by simp only [sy.1]) ?_;refine qA fun K hn hp=> ?_;simp only [sy.1,rE,reduceIte,rL];refine cAS (xZI (len64_c xt h n h1 h4) fun res h' hres=> ?_);obtain ⟨⟨r,rfl⟩,f⟩:=hres;simp only [sy.1,rE,reduceIte,rL];refine hn _ _ (qC (qH res168 ⟨⟨r,?_⟩,f⟩));simp [xZZ]
theorem ft223 (xt:Xt):(SE xt).ft.get 223=some Tryz.f223:=by kernel_rfl
theorem res223:Tryz.f223.results.toList=[]:=by kernel_rfl
theorem pdq_c (xt:Xt) (h:Hp) (b n:Nat) (l:List Int) (lim:Int) (hl:l.length=n) (h1:1<=n) (h12:n<=12) (hb:b<h.n) (hm:h.t.get b=some (.cells (ivs l) 3)):
  FnA (SE xt) 223 [.sl b 0 n 1,iv 0,iv (n:Int),iv lim] h (fun res h'=>(∃r,res= .ret r)/\FrM (fun x=>x=b) h.n h h'/\h'.t.get b=some (.cells (ivs (qBh l (n - 1))) 3)):=by
 refine xZQ (sok xt) (ft223 xt) rfl 134 rfl ?_;have w0:IntKind.i64.wrap ((n:Int) - 0)=(n:Int):=by rw [Int.sub_zero];exact qG _ (by omega) (by omega)
 have d1:decide ((n:Int)<=12)=true:=decide_eq_true (by omega);refine qA fun K hn hp=> ?_;simp only [sw.1,rL,rA];apply hn;refine qA fun K hn hp=> ?_;simp only [sy.1,rL];apply hn;refine qZ fun KA A1 A2 A3 A4 A5=> ?_;refine qM (sok xt) (fun st=> ∃tm:T AV,st=⟨tm,134,h,[]⟩/\tm.get 0=some (.sl b 0 n 1)/\tm.get 1=some (iv 0)/\tm.get 2=some (iv (n:Int))) (fun _=>0) ?_ ?_
 ·rintro st ⟨tm,rfl,g0,g1,g2⟩;refine qZ fun KB B1 B2 B3 B4 B5=> ?_;refine qA fun K hn hp=> ?_;simp only [sy.1,rE,reduceIte,rL,g1,g2,w0];apply hn;refine qB fun K hn hp=> ?_;simp only [sy.1,rE,reduceIte,rL,d1];apply hn;refine qW (by simp only [sy.1,rE,reduceIte]) ?_;refine qB fun K hn hp=> ?_;simp only [sy.1,rE,reduceIte,rL,g0,g1,g2];refine cAS (xZI (insS_c xt h b n l hl h1 h12 hb hm) fun res h' hres=> ?_);obtain ⟨⟨r,rfl⟩,f,s⟩:=hres;simp only [sy.1,rL];apply hn;refine qQ (B4 _ (A4 _ ⟨_,[],rfl,by rw [res223];rfl,⟨_,rfl⟩,f,s⟩))
 ·refine ⟨_,rfl,?_,?_,?_⟩;all_goals simp [xZZ]
theorem ft188 (xt:Xt):(SE xt).ft.get 188=some Tryz.f188:=by kernel_rfl
theorem res188:Tryz.f188.results.toList=[]:=by kernel_rfl
theorem sort_c (xt:Xt) (h:Hp) (b n:Nat) (l:List Int) (hl:l.length=n) (h1:1<=n) (h4:n<=4) (hb:b<h.n) (hm:h.t.get b=some (.cells (ivs l) 3)):
  FnA (SE xt) 188 [.sl b 0 n 1] h (fun res h'=>(∃r,res= .ret r)/\FrM (fun x=>x=b) h.n h h'/\h'.t.get b=some (.cells (ivs (qBh l (n - 1))) 3)):=by
 refine xZQ (sok xt) (ft188 xt) rfl 11 rfl ?_;have ln: ∀h':Hp,zA tb h' 75 (.sl b 0 n 1)=some n:=fun h'=>by
  have d75:te75.d= .slice 3:=rfl;simp [zA,yG,d75]
 have c1: ∀h':Hp,qBS tb h' 3 216 (iv (n:Int))=some (uv (n:Int)):=fun h'=>by
  rcases (by omega:n=1\/n=2\/n=3\/n=4) with rfl|rfl|rfl|rfl<;>kernel_rfl
 refine qA fun K hn hp=> ?_;simp only [sw.1,rE,reduceIte,rL,syw.1,ln];apply hn;refine reg fun K hn hp=> ?_;simp only [sy.1,rE,reduceIte,rL,qDk,c1];refine cAS (xZI (bitsLen_c xt h n h1 h4) fun res h1' hres=> ?_);obtain ⟨⟨r,rfl⟩,f1⟩:=hres;simp only [sy.1,rE,reduceIte,rL];refine cAS (xZI (pdq_c xt h1' b n l r hl h1 (by omega) (by have:=f1.le;omega) ((f1.at_ b (.inl hb)).trans hm)) fun res h2 hres=> ?_);obtain ⟨⟨r2,rfl⟩,f2,s2⟩:=hres;simp only [sy.1,rL];apply hn;refine ⟨_,[],rfl,by rw [res188];rfl,⟨_,rfl⟩,(FrM.of f1).trans f2 (by have:=f1.lo;omega),s2⟩
def cp2 (k0:Nat):Nat->Nat->Nat->List Int->Nat×List Int
 |0,k,_,L=>(k,L)
 |m+1,k,q,L=>if L.getD (k0+q) 0=L.getD (k0+(q - 1)) 0 then cp2 k0 m k (q+1) L else cp2 k0 m (k+1) (q+1) (L.set k (L.getD (k0+q) 0))
def cpO (l:List Int):Nat->Nat->List Int
 |0,_=>l
 |m+1,k=>if l.getD k 0=l.getD (k - 1) 0 then (cp2 k (l.length - k - 1) k 1 l).2.take (cp2 k (l.length - k - 1) k 1 l).1 else cpO l m (k+1)
def cpt (l:List Int):List Int:=if l.length<2 then l else cpO l (l.length - 1) 1
theorem lo75 (h:Hp) (b n k:Nat) (hk:k<=n):j0 tb h 75 (.sl b 0 n 1) (some (iv (k:Int))) none=some (.sl b k (n - k) 1):=by
 have:j0 tb h 75 (.sl b 0 n 1) (some (iv (k:Int))) none=bif Nat.ble k n && (Nat.ble n n && Nat.beq 1 1) then some (.sl b (0+k*1) (n - k) 1) else none:=by kernel_rfl
 rw [this,show Nat.ble k n=true by rw [xZJ];exact hk,show Nat.ble n n=true by rw [xZJ];exact xZY _];simp
theorem hi75 (h:Hp) (b n k:Nat) (hk:k<=n):j0 tb h 75 (.sl b 0 n 1) none (some (iv (k:Int)))=some (.sl b 0 k 1):=by
 have:j0 tb h 75 (.sl b 0 n 1) none (some (iv (k:Int)))=bif Nat.ble 0 k && (Nat.ble k n && Nat.beq 1 1) then some (.sl b (0+0*1) (k - 0) 1) else none:=by kernel_rfl
 rw [this,show Nat.ble k n=true by rw [xZJ];exact hk,show Nat.ble 0 k=true by rw [xZJ];omega];simp
theorem ix75o {b o n j:Nat} (hj:j<n):qK tb 75 (.sl b o n 1) (iv (j:Int))=some (.ptr b (o+j)):=by
 have e1:qA1 (iv (j:Int))=some (Int.ofNat j):=rfl;have e2:Nat.blt j n=true:=by rw [xYB];exact hj
 have d75:te75.d= .slice 3:=rfl;have s3:te3.size=1:=rfl;simp [qK,yG,e1,d75,tg3,e2,s3]
theorem clr75 (xt:Xt) (h:Hp) (b k m:Nat) (cs:List AV) (hm:0<m) (hb:h.t.get b=some (.cells cs 3)) (hl:k+m<=cs.length):qS Tryz.prog tb xt .clear [75] [.sl b k m 1] h=some (.tup [],h.set b (.cells (cs.take k++jU [iv 0] m++cs.drop (k+m)) 3)):=by
 have d75:te75.d= .slice 3:=rfl;have s3:te3.size=1:=rfl;have z3:te3.zero=[.int .i64 0]:=rfl;have b1:Nat.blt 0 m=true:=by rw [xYB];exact hm
 have b2:Nat.ble (k+m) cs.length=true:=by rw [xZJ];exact hl
 have b3:Value.oneCell' (.int .i64 0)=true:=rfl;have:qAh tb h 75 (.sl b k m 1)=some (h.set b (.cells (cs.take k++jU [iv 0] m++cs.drop (k+m)) 3)):=by
  have b4:Nat.blt 0 1=true:=rfl;simp [qAh,yG,d75,tg3,s3,z3,hb,b1,b2,b3,b4]
 simp only [qS,this]
theorem qFo {xt:Xt} {h:Hp} {b k:Nat} {cs:List AV} {l:List Int} (hb:h.t.get b=some (.cells cs 3)) (hbn:b<h.n) (hl:l.length=k) (hk:k<=cs.length) (ht:cs.take k=ivs l):RowAt xt h 1 (.sl b 0 k 1) (l.map Kn.c1):=by
 refine ⟨fun c hc=>by obtain ⟨x,_,rfl⟩:=xZK.1 hc;rfl,by omega,.inr (.inr ⟨b,0,cs,3,by simp [hl],⟨hbn,by simp [hl];exact hk,hb⟩,fun i c hi j u hu=> ?_⟩)⟩;rw [xZR,Option.map_eq_some_iff] at hi;obtain ⟨x,hx,rfl⟩:=hi;have hil:=(xZS.1 hx).1;have hj:j=0:=by have:=(xZS.1 hu).1;simp [Kn.c1] at this;omega
 subst hj;simp only [Kn.c1,xXZ,Option.some.injEq] at hu;subst hu;have e1:(ivs l)[i]? =some (iv x):=by rw [ivs,xZR,hx];rfl
 rw [<-ht,xYM,if_pos (by omega)] at e1;simpa using e1
theorem ft189 (xt:Xt):(SE xt).ft.get 189=some Tryz.f189:=by kernel_rfl
theorem res189:Tryz.f189.results.toList=[.tmp 2]:=by kernel_rfl
theorem compact_c (xt:Xt) (h:Hp) (b n:Nat) (l:List Int) (hl:l.length=n) (h12:n<=12) (hb:b<h.n) (hm:h.t.get b=some (.cells (ivs l) 3)):
  FnA (SE xt) 189 [.sl b 0 n 1] h (fun res h'=>FrM (fun x=>x=b) h.n h h'/\res= .ret (.sl b 0 (cpt l).length 1)/\RowAt xt h' 1 (.sl b 0 (cpt l).length 1) ((cpt l).map Kn.c1)):=by
 refine xZQ (sok xt) (ft189 xt) rfl 61 rfl ?_;have ln: ∀(h':Hp) (o m:Nat),zA tb h' 75 (.sl b o m 1)=some m:=fun h' o m=>by
  have d75:te75.d= .slice 3:=rfl;simp [zA,yG,d75]
 refine qA fun K hn hp=> ?_;simp only [sw.1,rL];apply hn;refine jK ?_;have r0:RowAt xt h 1 (.sl b 0 n 1) (l.map Kn.c1):=qFo hm hb hl (by rw [zV];omega) (xZG (by rw [zV];omega));by_cases h2:n<2
 ·have d2:decide ((n:Int)<2)=true:=decide_eq_true (by omega);have e:cpt l=l:=by rw [cpt,if_pos (by omega)]
  refine qA fun K hn hp=> ?_;simp only [sy.1,rE,reduceIte,rL,syw.1,ln,d2];apply hn;refine qW (by simp only [sy.1,rE,reduceIte]) ?_;refine qB fun K hn hp=> ?_;simp only [sy.1,rE,reduceIte,rL];apply hn;refine qQ (qH res189 ⟨FrM.refl (xZY _),?_,?_⟩)
  ·simp [xZZ,e,hl]
  ·rw [e,hl];exact r0
 ·have d2:decide ((n:Int)<2)=false:=decide_eq_false (by omega);have e:cpt l=cpO l (n - 1) 1:=by rw [cpt,if_neg (by omega),hl]
  refine qA fun K hn hp=> ?_;simp only [sy.1,rE,reduceIte,rL,syw.1,ln,d2];apply hn;refine jB (by simp only [sy.1,rE,reduceIte]) ?_;refine qB fun K hn hp=> ?_;simp only [sy.1,rL];apply hn;refine qD fun KA A1 A2 A3 A4 A5=> ?_;refine qM (sok xt) (fun st=> ∃(k:Nat) (tm:T AV),st=⟨tm,61,h,[]⟩/\k<=n/\tm.get 0=some (.sl b 0 n 1)/\tm.get 3=some (iv k)/\1<=k/\cpO l (n - k) k=cpt l) (fun st=>n - (match st.tm.get 3 with|some (.val (.int _ n))=>n.toNat|_=>0)) ?_ ?_
  ·rintro st ⟨k,tm,rfl,hkA,g0,g3,hk1,hc⟩;have muA:=g3;refine qB fun K hn hp=> ?_;simp only [sy.1,rE,reduceIte,rL,syw.1,ln,qV,g0,g3];apply hn;by_cases hk:k<n
   ·refine jC (by simp only [sy.1,rE,reduceIte,hk]) ?_;have w1:IntKind.i64.wrap ((k:Int) - 1)=((k - 1:Nat):Int):=by rw [qG _ (by omega) (by omega)];omega
    have i1:=qAd (b:=b) (n:=n) (j:=k) hk;have i2:=qAd (b:=b) (n:=n) (j:=k - 1) (by omega);have v1:=zW (l:=l) (j:=k) (by omega);have v2:=zW (l:=l) (j:=k - 1) (by omega);refine qD fun KB B1 B2 B3 B4 B5=> ?_;have ek:n - k=(n - k - 1)+1:=by omega
    rw [ek,cpO] at hc;by_cases eq:l.getD k 0=l.getD (k - 1) 0
    ·have de:decide (l.getD k 0=l.getD (k - 1) 0)=true:=decide_eq_true eq;rw [if_pos eq] at hc;refine zM (sok xt) 9 (by kernel_rfl) fun K hn hp=> ?_;simp only [sy.1,rE,reduceIte,rL,g0,g3,w1,i1,i2,hm,v1,v2,de];apply hn;refine wcT (by simp only [sy.1,rE,reduceIte]) ?_;have s1:=lo75 h b n k (by omega);refine qA fun K hn hp=> ?_;simp only [sy.1,rE,reduceIte,rL,g0,g3,kS,xYQ,s1];apply hn;refine qB fun K hn hp=> ?_;simp only [sy.1,rL];apply hn;refine qD fun KD D1 D2 D3 D4 D5=> ?_;refine qM (sok xt) (fun st=> ∃(q:Nat) (kk:Nat) (L:List Int) (hd:Hp) (tm:T AV),st=⟨tm,61,hd,[]⟩/\q<=n-k/\tm.get 0=some (.sl b 0 n 1)/\tm.get 3=some (iv (kk:Int))/\tm.get 4=some (.sl b k (n - k) 1)/\tm.get 5=some (iv (q:Int))/\1<=q/\1<=kk/\kk+1<=k+q/\L.length=n/\cp2 k (n - k - q) kk q L=cp2 k (n - k - 1) k 1 l/\FrM (fun x=>x=b) h.n h hd/\hd.t.get b=some (.cells (ivs L) 3)) (fun st=>n-k - (match st.tm.get 5 with|some (.val (.int _ n))=>n.toNat|_=>0)) ?_ ?_
     ·rintro st ⟨q,kk,L,hd,tm,rfl,hkD,g0,g3,g4,g5,hq1,hkk,hkq,hL,hcp,fd,sd⟩;have muD:=g5;refine qB fun K hn hp=> ?_;simp only [sy.1,rE,reduceIte,rL,syw.1,ln,qV,g4,g5];apply hn;by_cases hq:q<n - k
      ·refine jC (by simp only [sy.1,rE,reduceIte,hq]) ?_;have w1:IntKind.i64.wrap ((q:Int) - 1)=((q - 1:Nat):Int):=by rw [qG _ (by omega) (by omega)];omega
       have i0:=qAd (b:=b) (n:=n) (j:=kk) (by omega);have i1:=ix75o (b:=b) (o:=k) (n:=n - k) (j:=q) hq;have i2:=ix75o (b:=b) (o:=k) (n:=n - k) (j:=q - 1) (by omega);have v1:=zW (l:=L) (j:=k+q) (by omega);have v2:=zW (l:=L) (j:=k+(q - 1)) (by omega);refine qD fun KE E1 E2 E3 E4 E5=> ?_;have eq2:n - k - q=(n - k - (q+1))+1:=by omega
       rw [eq2,cp2] at hcp;by_cases eq:L.getD (k+q) 0=L.getD (k+(q - 1)) 0
       ·have de:(!decide (L.getD (k+q) 0=L.getD (k+(q - 1)) 0))=false:=by rw [decide_eq_true eq];rfl
        rw [if_pos eq] at hcp;refine regD (sok xt) 9 (by kernel_rfl) fun K hn hp=> ?_;simp only [sy.1,rE,reduceIte,rL,g4,g5,w1,i1,i2,sd,v1,v2,de];apply hn;refine wcF (by simp only [sy.1,rE,reduceIte]) ?_;refine qR (E1 _ ?_);refine reg fun K hn hp=> ?_;simp only [sy.1,rE,reduceIte,rL,g5,qF hq (show n - k<=9223372036854775807 by omega)];apply hn;refine ⟨⟨q+1,kk,L,hd,_,rfl,by omega,(by simp [xZZ,g0]),(by simp [xZZ,g3]),(by simp [xZZ,g4]),(by simp [xZZ]),by omega,hkk,by omega,hL,hcp,fd,sd⟩,by simpa [xZZ,muD] using (by omega:n-k - (q+1)<n-k - q)⟩
       ·have de:(!decide (L.getD (k+q) 0=L.getD (k+(q - 1)) 0))=true:=by rw [decide_eq_false eq];rfl
        rw [if_neg eq] at hcp;refine zM (sok xt) 9 (by kernel_rfl) fun K hn hp=> ?_;simp only [sy.1,rE,reduceIte,rL,g4,g5,w1,i1,i2,sd,v1,v2,de];apply hn;refine wcT (by simp only [sy.1,rE,reduceIte]) ?_;have p1:=zO (h:=hd) (b:=b) (off:=kk) (v:=iv (L.getD (k+q) 0)) (cs:=ivs L) (e:=3) rfl rfl (by rw [zV];omega);rw [qEy] at p1;have w2:IntKind.i64.wrap ((kk:Int)+1)=((kk+1:Nat):Int):=by rw [qG _ (by omega) (by omega)];omega
        refine qA fun K hn hp=> ?_;simp only [sy.1,rE,reduceIte,rL,g0,g3,g4,g5,i0,i1,sd,v1,p1];apply hn;refine reg fun K hn hp=> ?_;simp only [sy.1,rE,reduceIte,rL,g3,w2];apply hn;refine E1 _ ?_;refine reg fun K hn hp=> ?_;simp only [sy.1,rE,reduceIte,rL,g5,qF hq (show n - k<=9223372036854775807 by omega)];apply hn;refine ⟨⟨q+1,kk+1,L.set kk (L.getD (k+q) 0),hd.set b (.cells (ivs (L.set kk (L.getD (k+q) 0))) 3),_,rfl,by omega,(by simp [xZZ,g0]),(by simp [xZZ]),(by simp [xZZ,g4]),(by simp [xZZ]),by omega,by omega,by omega,by rw [List.length_set,hL],hcp,fd.set (.inr rfl) _,by rw [xZM,xZZ,if_pos rfl]⟩,by simpa [xZZ,muD] using (by omega:n-k - (q+1)<n-k - q)⟩
      ·refine jD (by simp only [sy.1,rE,reduceIte,hq]) ?_;refine qL (D2 _ ?_);obtain rfl:q=n - k:=by omega
       rw [xYK,cp2] at hcp;have s2:=lo75 hd b n kk (by omega);have c2:=clr75 xt hd b kk (n - kk) (ivs L) (by omega) sd (by rw [zV];omega);have s3:=hi75 (hd.set b (.cells ((ivs L).take kk++jU [iv 0] (n - kk)++(ivs L).drop (kk+(n - kk))) 3)) b n kk (by omega);refine qA fun K hn hp=> ?_;simp only [sy.1,rE,reduceIte,rL,g0,g3,kS,xYQ,s2,c2];apply hn;refine qA fun K hn hp=> ?_;simp only [sy.1,rE,reduceIte,rL,g0,g3,kS,xYQ,s3];apply hn;obtain ⟨h4,hh4⟩: ∃h4,h4=hd.set b (.cells ((ivs L).take kk++jU [iv 0] (n - kk)++(ivs L).drop (kk+(n - kk))) 3):=⟨_,rfl⟩;have ct:cpt l=L.take kk:=by rw [<-hc,hl,<-hcp]
       have lct:(cpt l).length=kk:=by rw [ct,xYR];omega
       have st:((ivs L).take kk).length=kk:=by rw [xYR,zV];omega
       refine qC (B4 _ (A4 _ (qH res189 ⟨fd.set (.inr rfl) _,?_,?_⟩)))
       ·simp [xZZ,lct]
       ·rw [lct];refine qFo (by rw [xZM,xZZ,if_pos rfl]) (by rw [xYT];exact Nat.lt_of_lt_of_le hb fd.le) lct (by simp only [xYW,st];omega) ?_;rw [List.append_assoc,List.take_append_of_le_length (by rw [st];exact xZY _),xZG (by rw [st];exact xZY _),ct,ivs,ivs,List.map_take]
     ·exact ⟨1,k,l,h,_,rfl,(by omega),(by simp [xZZ,g0]),(by simp [xZZ,g3]),(by simp [xZZ]),(by simp [xZZ]),xZY _,hk1,xZY _,hl,rfl,FrM.refl (xZY _),hm⟩
    ·have de:decide (l.getD k 0=l.getD (k - 1) 0)=false:=decide_eq_false eq;rw [if_neg eq] at hc;refine zM (sok xt) 9 (by kernel_rfl) fun K hn hp=> ?_;simp only [sy.1,rE,reduceIte,rL,g0,g3,w1,i1,i2,hm,v1,v2,de];apply hn;refine wcF (by simp only [sy.1,rE,reduceIte]) ?_;refine qR (B1 _ ?_);refine reg fun K hn hp=> ?_;simp only [sy.1,rE,reduceIte,rL,g3,qF hk (show n<=9223372036854775807 by omega)];apply hn;refine ⟨⟨k+1,_,rfl,by omega,(by simp [xZZ,g0]),(by simp [xZZ]),by omega,by rw [show n - (k+1)=n - k - 1 by omega];exact hc⟩,by simpa [xZZ,muA] using (by omega:n - (k+1)<n - k)⟩
   ·refine jD (by simp only [sy.1,rE,reduceIte,hk]) ?_;refine qL (A2 _ ?_);obtain rfl:k=n:=by omega
    rw [xYK,cpO] at hc;refine qA fun K hn hp=> ?_;simp only [sy.1,rE,reduceIte,rL,g0];apply hn;refine qC (qH res189 ⟨FrM.refl (xZY _),?_,?_⟩)
    ·simp [xZZ,<-hc,hl]
    ·rw [<-hc,hl];exact r0
  ·exact ⟨1,_,rfl,(by omega),(by simp [xZZ]),(by simp [xZZ]),xZY _,e.symm⟩
def Wk.wds (w:Wk):List Int:=w.ts.map fun t=>t.1
def Wk.ws (w:Wk):List Int:=cpt (qBh w.wds (w.wds.length - 1))
def genW:Nat->List (List Int)
 |0=>[[]]
 |n+1=>[1,2,3].flatMap fun a=>(genW n).map (a:: ·)
theorem qFK: ∀(n:Nat) (l:List Int),l.length=n->(∀x∈l,1<=x/\x<=3)->l∈genW n
 |0,l,h,_=>by rw [List.length_eq_zero_iff.1 h];simp [genW]
 |n+1,[],h,_=>by simp at h
 |n+1,a::l,h,h3=>by
  have ih:=qFK n l (by simpa using h) fun x hx=>h3 x (xYZ _ hx);have ha:=h3 a xZB;simp only [genW,List.mem_flatMap,xZK];refine ⟨a,?_,l,ih,rfl⟩;rcases (by omega:a=1\/a=2\/a=3) with rfl|rfl|rfl<;>simp
theorem genW_ok:([1,2,3,4].all fun n=>(genW n).all fun l=>cpt (qBh l (l.length - 1))==[1,2,3].filter fun x=>l.contains x)=true:=by kernel_rfl
theorem Wk.Is.ws {w:Wk} (h:w.Is):w.ws=[1,2,3].filter fun x=>w.wds.contains x:=by
 have hl:w.wds.length=w.ts.length:=by simp [Wk.wds]
 have hm:w.wds∈genW w.wds.length:=qFK _ _ rfl fun x hx=>by
  obtain ⟨t,ht,rfl⟩:=xZK.1 hx;exact (h.ts t ht).1
 have:=xYG.1 genW_ok w.wds.length (by have:=h.t0;have:=h.t4;rcases (by omega:w.wds.length=1\/w.wds.length=2\/w.wds.length=3\/w.wds.length=4) with e|e|e|e<;>rw [e]<;>simp)
 have:=xYG.1 this w.wds hm;simpa [Wk.ws] using this
theorem Wk.ws_mem {w:Wk} (h:w.Is) {x:Int} (hx:x∈w.ws):1<=x/\x<=3:=by
 rw [h.ws] at hx;have:=(xYE.1 hx).1;simp at this;omega
theorem Wk.ws_len {w:Wk} (h:w.Is):w.ws.length<=3:=by
 rw [h.ws];exact xZF _ _
theorem ft113 (xt:Xt):(SE xt).ft.get 113=some Tryz.f113:=by kernel_rfl
theorem res113:Tryz.f113.results.toList=[.tmp 2]:=by kernel_rfl
theorem ft121 (xt:Xt):(SE xt).ft.get 121=some Tryz.f121:=by kernel_rfl
theorem res121:Tryz.f121.results.toList=[.tmp 2]:=by kernel_rfl
theorem pC (xt:Xt) (h:Hp) (w:Wk) (ha:w.At xt h) (bv:AV) (onev:Go.Ev.one bv=true) {K:KP} (hk: ∀n,h.n<n->K (.ret (iv w.m.cells.length)) (h.up n)):FnA (SE xt) 113 [.agg (w.bc bv)] h K:=by
 refine xYU ?_ hk;clear hk K;refine xZQ (sok xt) (ft113 xt) rfl 8 rfl ?_;obtain ⟨o1,o2,o3,o4,o5⟩:=ha.ones;have hlen:=ha.m.len;refine qA fun K hn hp=> ?_;simp only [sw.1,reduceIte,rL];apply hn;obtain ⟨h1,hh1,_,sh1,_,fbh1⟩:=nwE h (.cells (w.bc bv) 120);rw [<-hh1];have fh1:=fbh1;refine qA fun K hn hp=> ?_;simp only [sy.1,rE,reduceIte,rL,syw.1,hlen,sh1];apply hn;refine qC (qH res113 ⟨?_,fh1⟩);simp [xZZ]
theorem qCe (xt:Xt) (h:Hp) (w:Wk) (ha:w.At xt h) (his:w.Is) (bv:AV) (onev:Go.Ev.one bv=true) {K:KP} (hk: ∀n,h.n<n->K (.ret (iv w.m.W)) (h.up n)):FnA (SE xt) 121 [.agg (w.bc bv)] h K:=by
 refine xYU ?_ hk;clear hk K;refine xZQ (sok xt) (ft121 xt) rfl 10 rfl ?_;obtain ⟨o1,o2,o3,o4,o5⟩:=ha.ones;refine qA fun K hn hp=> ?_;simp only [sw.1,reduceIte,rL];apply hn;obtain ⟨h1,hh1,_,sh1,_,fbh1⟩:=nwE h (.cells (w.bc bv) 120);rw [<-hh1];have fh1:=fbh1;have hl0:0<w.m.cells.length:=his.m.r0;obtain ⟨v,i1,i2,i3,i4⟩:=(ha.fr fh1 (xZY _)).m.rowD hl0;have hW:w.m.W=(w.m.cells.getD 0 []).length:=by
  cases q:w.m.cells with
  |nil=>rw [q] at hl0;simp at hl0
  |cons x xs=>simp [Mp.W,q]
 have i1:qK tb 22 w.m.vc (iv 0)=some (elp w.m.vc 0):=i1;refine qA fun K hn hp=> ?_;simp only [sy.1,rE,reduceIte,rL,syw.1,sh1,i1,i2,i4];apply hn;refine qC (qH res121 ⟨?_,fh1⟩);rw [hW];simp [xZZ]
theorem bs75' (h:Hp) (n:Int):jN tb h 75 1 [(0,iv n)]=some (.sl h.n 0 1 1,h.new (.cells [iv n] 3)):=by kernel_rfl
theorem ft144 (xt:Xt):(SE xt).ft.get 144=some Tryz.f144:=by kernel_rfl
theorem res144:Tryz.f144.results.toList=[.tmp 2]:=by kernel_rfl
theorem qFe (xt:Xt) (h:Hp) (w:Wk) (ha:w.At xt h) (his:w.Is) (bv:AV) (onev:Go.Ev.one bv=true):
  FnA (SE xt) 144 [.agg (w.bc bv)] h (fun res h'=>Fr h.n h h'/\ ∃z,res= .ret z/\RowAt xt h' 1 z (w.ws.map c1)/\ ∀b off n s,z= .sl b off n s->h.n<=b):=by
 refine xZQ (sok xt) (ft144 xt) rfl 24 rfl ?_;obtain ⟨o1,o2,o3,o4,o5⟩:=ha.ones;have hlen:=ha.len;have t4:=his.t4;have t0:=his.t0;refine qA fun K hn hp=> ?_;simp only [sw.1,reduceIte,rL];apply hn;obtain ⟨h1,hh1,nh1,sh1,_,fbh1⟩:=nwE h (.cells (w.bc bv) 120);rw [<-hh1];have fh1:=fbh1;have ha1:=ha.fr fh1 (xZY _);have hl1:w.wds.length=w.ts.length:=by simp [Wk.wds]
 refine qA fun K hn hp=> ?_;simp only [sy.1,rL];apply hn;refine qB fun K hn hp=> ?_;simp only [sy.1,rE,reduceIte,rL,syw.1,hlen,sh1];apply hn;refine qD fun KA A1 A2 A3 A4 A5=> ?_;refine qM (sok xt) (fun st=> ∃(k:Nat) (z:AV) (hg:Hp) (tm:T AV),st=⟨tm,24,hg,[]⟩/\k<=w.ts.length/\tm.get 1=some (.ptr h.n 0)/\tm.get 3=some (z)/\tm.get 8=some (w.vt)/\tm.get 9=some (iv (w.ts.length:Int))/\tm.get 10=some (iv k)/\Fr h1.n h1 hg/\OwnSl hg h1.n 1 3 z k (ivs (w.wds.take k))) (fun st=>w.ts.length - (match st.tm.get 10 with|some (.val (.int _ n))=>n.toNat|_=>0)) ?_ ?_
 ·rintro st ⟨k,z,hg,tm,rfl,hkA,g1,g3,g8,g9,g10,fg,own⟩;have muA:=g10;refine qA fun K hn hp=> ?_;simp only [sy.1,rL,qV,g9,g10];apply hn;have lg:=fg.lo;by_cases hk:k<w.ts.length
  ·refine jC (by simp only [sy.1,reduceIte,hk]) ?_;obtain ⟨n,th,wo,ht⟩:=his.tub hk;have hx:=ht.at_;have hag:=ha1.fr fg (xZY _);have i1:=hag.ts.idx qAn rfl yF rfl (i:=k) (by simpa using hk) (k:= .i64);have i2:=hag.ts.loadA yF rfl rfl (i:=k) (c:=Kn.t3 ((n:Int),th,wo)) (by rw [xZR,hx];rfl);simp only [Kn.t3,xZD,xYX] at i2;refine qD fun KB B1 B2 B3 B4 B5=> ?_;refine qA fun K hn hp=> ?_;simp only [sw.1,rE,reduceIte,rL,rA,al90,g8,g10,i1,i2];obtain ⟨h9,hh9,n9,s9,k9,f9⟩:=nsE hg (.cells [iv 0,iv 0,iv 0] 130) (.cells [iv (n:Int),iv th,iv wo] 130);rw [<-hh9];apply hn;clear hh9;have own9:OwnSl h9 h1.n 1 3 z k (ivs (w.wds.take k)):=own.fr f9 (xZY _);obtain ⟨z',h7,p1,p2,p3⟩:=qCz (xt:=xt) own9 (by omega) (n:Int) (by omega);refine reg fun K hn hp=> ?_;simp only [sy.1,rE,reduceIte,rL,g3,s9,jF,bs75',p1];refine hn _ _ (B1 _ ?_);refine reg fun K hn hp=> ?_;simp only [sy.1,rE,reduceIte,rL,g10,qF hk (show w.ts.length<=9223372036854775807 by omega)];apply hn;refine ⟨⟨k+1,z',h7,_,rfl,by omega,(by simp [xZZ,g1]),(by simp [xZZ]),(by simp [xZZ,g8]),(by simp [xZZ,g9]),(by simp [xZZ]),(fg.trans f9 fg.lo).trans p3 (xZY _),?_⟩,by simpa [xZZ,muA] using (by omega:w.ts.length - (k+1)<w.ts.length - k)⟩;have e9:w.wds[k]? =some (n:Int):=by rw [Wk.wds,xZR,hx];rfl
   rw [xYC,e9];exact p2
  ·refine jD (by simp only [sy.1,reduceIte,hk]) ?_;refine qL (A2 _ ?_);obtain rfl:k=w.ts.length:=by omega
   rw [xZG (by omega)] at own;rcases own with ⟨e,_⟩|⟨b,rfl,b1,b2,b3,b4⟩
   ·omega
   have fgh:Fr h.n h hg:=fh1.trans fg (by omega);refine qA fun K hn hp=> ?_;simp only [sy.1,rE,reduceIte,rL,g3];refine cAS (xZI (sort_c xt hg b w.ts.length w.wds hl1 (by omega) t4 b2 b3) fun res h5 hres=> ?_);obtain ⟨⟨r,rfl⟩,f5,s5⟩:=hres;simp only [sy.1,rL];apply hn;refine reg fun K hn hp=> ?_;simp only [sy.1,rE,reduceIte,rL,g3];have l5:=f5.le;refine cAS (xZI (compact_c xt h5 b w.ts.length (qBh w.wds (w.ts.length - 1)) (by rw [qCL,hl1]) (by omega) (by omega) s5) fun res h6 hres=> ?_);obtain ⟨f6,rfl,r6⟩:=hres;simp only [sy.1,rE,reduceIte,rL];have lw:w.wds.length - 1=w.ts.length - 1:=by rw [hl1]
   have f6h:Fr h.n h h6:=FrM.toFr (f5.trans f6 (by omega)) fgh (by omega) fun k e=>by subst e;omega
   apply hn;refine ⟨_,[_],rfl,by rw [res144];rfl,f6h,.sl b 0 w.ws.length 1,?_,?_,fun b' off n s e=>by cases e;omega⟩
   ·simp only [xZZ,if_true,Wk.ws,lw];rfl
   ·rw [Wk.ws,lw];exact r6
 ·exact ⟨0,_,h1,_,rfl,(by omega),(by simp [xZZ]),(by simp [xZZ]),(by simp [xZZ]),(by simp [xZZ]),(by simp [xZZ]),xZO (xZY _),OwnSl.nil⟩
theorem qBC:tb.get 124=some te124:=by kernel_rfl
theorem qCj:tb.get 193=some te193:=by kernel_rfl
theorem tg126:tb.get 125=some te125:=by kernel_rfl
theorem qDB:tb.get 241=some te241:=by kernel_rfl
theorem ld125 (xt:Xt) (h:Hp) (b off:Nat):qN tb xt h 124 (.ptr b off)=zI 2 (h.t.get b) off:=yN qBC rfl rfl
theorem st125 (h:Hp) (b off:Nat) (v:AV):jH tb h 124 (.ptr b off) v=qX 2 h b off v (h.t.get b):=zG qBC rfl
theorem fa125_0 (b off:Nat):qI tb 124 (.ptr b off) 0=some (.ptr b (off+0)):=j6 qBC rfl rfl
theorem fa125_1 (b off:Nat):qI tb 124 (.ptr b off) 1=some (.ptr b (off+1)):=j6 qBC rfl rfl
theorem al125 (h:Hp):jP tb h 124=some (.ptr h.n 0,h.new (.cells (([(.slice none 0 0),(.int .i64 0)]:List Value).map .val) 124)):=vU qBC rfl
theorem ld192 (xt:Xt) (h:Hp) (b off:Nat):qN tb xt h 193 (.ptr b off)=jZ (h.t.get b) off:=kN qCj rfl
theorem st192 (h:Hp) (b off:Nat) (v:AV):jH tb h 193 (.ptr b off) v=qX 1 h b off v (h.t.get b):=zG qCj rfl
theorem al192 (h:Hp):jP tb h 193=some (.ptr h.n 0,h.new (.cells (([(.slice none 0 0)]:List Value).map .val) 193)):=vU qCj rfl
theorem ld126 (xt:Xt) (h:Hp) (b off:Nat):qN tb xt h 125 (.ptr b off)=jZ (h.t.get b) off:=kN tg126 rfl
theorem st126 (h:Hp) (b off:Nat) (v:AV):jH tb h 125 (.ptr b off) v=qX 1 h b off v (h.t.get b):=zG tg126 rfl
theorem al126 (h:Hp):jP tb h 125=some (.ptr h.n 0,h.new (.cells (([.nilFunc]:List Value).map .val) 125)):=vU tg126 rfl
theorem ld240 (xt:Xt) (h:Hp) (b off:Nat):qN tb xt h 241 (.ptr b off)=jZ (h.t.get b) off:=kN qDB rfl
theorem st240 (h:Hp) (b off:Nat) (v:AV):jH tb h 241 (.ptr b off) v=qX 1 h b off v (h.t.get b):=zG qDB rfl
theorem al240 (h:Hp):jP tb h 241=some (.ptr h.n 0,h.new (.cells (([.map none]:List Value).map .val) 241)):=vU qDB rfl
theorem bd125 (z:AV) (n:Int) (hz:cellsOf z=[z]):zE tb 124 [(0,z),(1,iv n)]=some (.agg [z,iv n]):=by
 have:zE tb 124 [(0,z),(1,iv n)]=(yH (fun i=>([(0,1),(1,1)]:List (Nat×Nat))[i]?) [(0,z),(1,iv n)] [.val (.slice none 0 0),.val (.int .i64 0)]).map .agg:=by kernel_rfl
 rw [this];simp [yH,hz];rfl
theorem bd125z:zE tb 124 []=some (.agg [.val (.slice none 0 0),iv 0]):=by kernel_rfl
noncomputable def syp:=PLift.up (xZE ld125 (xZE st125 (xZE fa125_0 (xZE fa125_1 (xZE al125 (xZE ld192 (xZE st192 (xZE al192 (xZE ld126 (xZE st126 (xZE al126 (xZE ld240 (xZE st240 al240)))))))))))))
abbrev Cg:=List (Int×Int×Int)×Int
theorem Cuts.one {xt:Xt} {h:Hp} {v:AV} {ls:List (Int×Int×Int)} (a:Cuts xt h v ls):Go.Ev.one v=true:=a.row.one
theorem Cuts.cells {xt:Xt} {h:Hp} {v:AV} {ls:List (Int×Int×Int)} (a:Cuts xt h v ls):cellsOf v=[v]:=a.row.cells
theorem Cuts.nil {xt:Xt} {h:Hp}:Cuts xt h (.val (.slice none 0 0)) []:=⟨⟨by simp,by omega,.inl ⟨rfl,rfl⟩⟩,by simp,fun _ _ _ e=>by cases e;exact xZY _⟩
def qAH (es:List (AV×Cg)):List AV:=es.flatMap fun e=>[e.1,iv e.2.2]
theorem qFO: ∀{es:List (AV×Cg)} {i:Nat} {e:AV×Cg},es[i]? =some e->(qAH es)[i*2]? =some e.1/\(qAH es)[i*2+1]? =some (iv e.2.2)
 |[],i,e,h=>by simp at h
 |x::es,0,e,h=>by
  simp only [xXZ,Option.some.injEq] at h;subst h;exact ⟨rfl,rfl⟩
 |x::es,i+1,e,h=>by
  have:=qFO (es:=es) (i:=i) (e:=e) (by simpa using h);have e1:(i+1)*2=i*2+2:=by omega
  rw [e1];exact this
structure CRows (xt:Xt) (h:Hp) (N:Nat) (v:AV) (es:List (AV×Cg)):Prop where
 own:OwnSl h N 2 124 v es.length (qAH es)
 at_: ∀e∈es,Cuts xt h e.1 e.2.1/\wN v e.1
theorem CRows.fr {xt:Xt} {h h':Hp} {N:Nat} {v:AV} {es:List (AV×Cg)} (r:CRows xt h N v es) {M:Nat} (f:Fr M h h') (hM:h.n<=M):CRows xt h' N v es:=⟨r.own.fr f hM,fun e he=>⟨(r.at_ e he).1.fr f hM,(r.at_ e he).2⟩⟩
theorem CRows.up {xt:Xt} {h:Hp} {N:Nat} {v:AV} {es:List (AV×Cg)} (r:CRows xt h N v es) {k:Nat} (hk:h.n<=k):CRows xt (h.up k) N v es:=r.fr (Fr.up (xZO (xZY _)) hk) (xZY _)
theorem CRows.len {xt:Xt} {h:Hp} {N:Nat} {v:AV} {es:List (AV×Cg)} (r:CRows xt h N v es) (h':Hp):zA tb h' 193 v=some es.length:=r.own.len qCj rfl
theorem CRows.one {xt:Xt} {h:Hp} {N:Nat} {v:AV} {es:List (AV×Cg)} (r:CRows xt h N v es):Go.Ev.one v=true:=r.own.one
theorem CRows.cells {xt:Xt} {h:Hp} {N:Nat} {v:AV} {es:List (AV×Cg)} (r:CRows xt h N v es):cellsOf v=[v]:=r.own.cells
theorem CRows.idx {xt:Xt} {h:Hp} {N:Nat} {v:AV} {es:List (AV×Cg)} (r:CRows xt h N v es) {i:Nat} {e:AV×Cg} (he:es[i]? =some e):
  ∃b,qK tb 193 v (iv (i:Int))=some (.ptr b (i*2))/\N<=b/\b<h.n/\ ∀h':Hp,h'.t.get b=h.t.get b->zI 2 (h'.t.get b) (i*2)=some (.agg [e.1,iv e.2.2]):=by
 have hi:=(xZS.1 he).1;obtain ⟨b,h1,h2,h3,h4,h5⟩:=r.own.idx qCj rfl qBC rfl hi (k:= .i64);refine ⟨b,h1,h2,h3,fun h' hh=> ?_⟩;obtain ⟨q1,q2⟩:=qFO he;rw [hh,h4];have e1:(qAH es).drop (i*2)=e.1::iv e.2.2::(qAH es).drop (i*2+1+1):=by
  have a1:=(xZS.1 q1);have a2:=(xZS.1 q2);rw [xZV a1.1,a1.2,xZV a2.1,a2.2]
 have e2:i*2+2<=(qAH es).length:=by omega
 simp [zI,e1,e2]
theorem CRows.append {xt:Xt} {h:Hp} {N:Nat} {v:AV} {es:List (AV×Cg)} (r:CRows xt h N v es) (hN:N<=h.n) {z:AV} {c:Cg} (hz:Cuts xt h z c.1) (hap:wN v z) (hl:es.length<=1000000):
  ∃v' h',qS Tryz.prog tb xt .append [193,193] [v,.sl h.n 0 1 2] (h.new (.cells [z,iv c.2] 124))=some (v',h')/\CRows xt h' N v' (es++[(z,c)])/\Fr N h h'/\v'= .sl (h.n+1) 0 (es.length+1) 2/\(∀k,k<h.n->(∀off n s,v≠ .sl k off n s)->h'.t.get k=h.t.get k)/\h'.n=h.n+2:=by
 have oz:=hz.one;have own1:=r.own.new (.cells [z,iv c.2] 124);obtain ⟨h',p1,p2,p3,p4,p5⟩:=own1.append2 (P:=Tryz.prog) (xt:=xt) (x:= .sl h.n 0 1 2) (m:=1) (cz:=[z,iv c.2]) (by simp only [Hp.new_n];omega) qCj rfl qBC rfl (show te124.bytes=32 from rfl) qCj rfl (wO (e:=124) (pT _ _) rfl (by simp [oz];rfl)) (by omega) rfl (by omega) (by omega);have hlow: ∀k,k<h.n->(∀off n s,v≠ .sl k off n s)->h'.t.get k=h.t.get k:=fun k hk hv=>by
  rw [p5 k (by simp only [Hp.new_n];omega) hv,pR _ _ hk]
 have hn':h'.n=h.n+2:=by rw [p4,Hp.new_n]
 have keep: ∀{z':AV} {l:List (Int×Int×Int)},Cuts xt h z' l->wN v z'->Cuts xt h' z' l/\wN (.sl (h.n+1) 0 (es.length+1) 2) z':=fun {z' l} hr hp=>by
  refine ⟨⟨hr.row.keepB (by omega) fun b off n s hv hb=>hlow b hb fun off' n' s' hq=>hp b off n s hv off' n' s' hq,hr.lt,hr.cap⟩,fun b off n s hv off' n' s' hq=> ?_⟩;have:=hr.row.lt hv;cases hq;omega
 refine ⟨_,h',p1,⟨?_,fun e he=> ?_⟩,((xZO hN).new _).trans p3 (xZY _),rfl,hlow,hn'⟩
 ·have e1:qAH (es++[(z,c)])=qAH es++[z,iv c.2]:=by simp [qAH]
  rw [e1,xYW];exact p2
 ·rcases xYP.1 he with he|he
  ·obtain ⟨q1,q2⟩:=r.at_ e he;exact keep q1 q2
  ·rw [xZN] at he;subst he;exact keep hz hap
theorem bs192 (h:Hp) (z:AV) (n:Int) (hz:cellsOf z=[z]):jN tb h 193 1 [(0,.agg [z,iv n])]=some (.sl h.n 0 1 2,h.new (.cells [z,iv n] 124)):=by
 have:jN tb h 193 1 [(0,.agg [z,iv n])]=(yH (fun i=>some (i*2,2)) [(0,.agg [z,iv n])] [.val (.slice none 0 0),.val (.int .i64 0)]).map fun cs=>(.sl h.n 0 1 2,h.new (.cells cs 124)):=by kernel_rfl
 rw [this];simp [yH,cellsOf];exact ⟨_,rfl,rfl⟩
def bJ:List (Int×Int×Int)->List (Int×Int×Int)->Int
 |[],[]=>0
 |[],_::_=> -1
 |_::_,[]=>1
 |a::l,b::m=>if bef a b=0 then bJ l m else bef a b
theorem wK {l m:List (Int×Int×Int)}: ∀k,k<=l.length->k<=m.length->(∀j,j<k->bef (l.getD j b0) (m.getD j b0)=0)->bJ l m=bJ (l.drop k) (m.drop k)
 |0,_,_,_=>rfl
 |k+1,h1,h2,h=>by
  rw [wK k (by omega) (by omega) fun j hj=>h j (by omega)];have h0:=h k (by omega);rw [xZV (show k<l.length by omega),xZV (show k<m.length by omega)];rw [xZW,xZW,xZX (show k<l.length by omega),xZX (show k<m.length by omega)] at h0;simp only [xYS] at h0;rw [bJ,if_pos h0]
theorem cmpF_at {l m:List (Int×Int×Int)} {k:Nat} (h1:k<l.length) (h2:k<m.length) (h: ∀j,j<k->bef (l.getD j b0) (m.getD j b0)=0) (hx:bef (l.getD k b0) (m.getD k b0)≠0):bJ l m=bef (l.getD k b0) (m.getD k b0):=by
 rw [wK k (by omega) (by omega) h];rw [xZV h1,xZV h2];rw [xZW,xZW,xZX h1,xZX h2] at hx ⊢;simp only [xYS] at hx ⊢;rw [bJ,if_neg hx]
theorem ft194 (xt:Xt):(SE xt).ft.get 194=some Tryz.f194:=by kernel_rfl
theorem qEj:Tryz.f194.results.toList=[.tmp 6]:=by kernel_rfl
theorem cmpF_c (xt:Xt) (h:Hp) (va vb:AV) (l m:List (Int×Int×Int)) (hl:Cuts xt h va l) (hm:Cuts xt h vb m) {K:KP} (hk: ∀k,h.n<k->K (.ret (iv (bJ l m))) (h.up k)):FnA (SE xt) 194 [va,vb,.val (.func (.func 195) #[] #[])] h K:=by
 refine xYU ?_ hk;clear hk K;refine xZQ (sok xt) (ft194 xt) rfl 39 rfl ?_;have hlen:=hl.len;have hlenm:=hm.len;have hlt:=hl.lt;refine qA fun K hn hp=> ?_;simp only [sw.1,rL,rA];apply hn;refine qB fun K hn hp=> ?_;simp only [sy.1,rE,reduceIte,rL,syw.1,hlen];apply hn;refine qD fun KA A1 A2 A3 A4 A5=> ?_;refine qM (sok xt) (fun st=> ∃(k:Nat) (hg:Hp) (tm:T AV),st=⟨tm,39,hg,[]⟩/\k<=l.length/\tm.get 0=some (va)/\tm.get 1=some (vb)/\tm.get 2=some (.val (.func (.func 195) #[] #[]))/\tm.get 11=some (va)/\tm.get 12=some (iv l.length)/\tm.get 13=some (iv k)/\Fr h.n h hg/\k<=m.length/\ ∀j,j<k->bef (l.getD j b0) (m.getD j b0)=0) (fun st=>l.length - (match st.tm.get 13 with|some (.val (.int _ n))=>n.toNat|_=>0)) ?_ ?_
 ·rintro st ⟨k,hg,tm,rfl,hkA,g0,g1,g2,g11,g12,g13,fg,hkm,hall⟩;have muA:=g13;refine qA fun K hn hp=> ?_;simp only [sy.1,rL,qV,g12,g13];apply hn;by_cases hk:k<l.length
  ·refine jC (by simp only [sy.1,reduceIte,hk]) ?_;obtain ⟨s,hs⟩: ∃s,l[k]? =some s:=⟨_,xZX hk⟩;have hlg:=hl.fr fg (xZY _);obtain ⟨i1,i2,_,_⟩:=hlg.at_ hs;refine qD fun KB B1 B2 B3 B4 B5=> ?_;refine qA fun K hn hp=> ?_;simp only [sw.1,rE,reduceIte,rL,rA,al61,g11,g13,i1,i2];obtain ⟨h9,hh9,n9,s9,k9,f9⟩:=nsE hg (.cells [iv 0,iv 0,iv 0] 61) (.cells [iv s.1,iv s.2.1,iv s.2.2] 61);rw [<-hh9];apply hn;clear hh9;have f9h:=fg.trans f9 fg.lo;refine jK ?_;have ged:decide ((m.length:Int)<=(k:Int))=decide (m.length<=k):=decide_eq_decide.2 (by omega);by_cases hk2:k<m.length
   ·have d1:decide (m.length<=k)=false:=decide_eq_false (by omega);refine qA fun K hn hp=> ?_;simp only [sy.1,rE,reduceIte,rL,syw.1,hlenm,g1,ged,d1];apply hn;refine jB (by simp only [sy.1,rE,reduceIte]) ?_;obtain ⟨u,hu⟩: ∃u,m[k]? =some u:=⟨_,xZX hk2⟩;have hm9:=hm.fr f9h (xZY _);obtain ⟨j1,j2,_,_⟩:=hm9.at_ hu;refine qA fun K hn hp=> ?_;simp only [sw.1,rE,reduceIte,rL,rA,al61,g1,j1,j2];obtain ⟨h10,hh10,n10,s10,k10,f10⟩:=nsE h9 (.cells [iv 0,iv 0,iv 0] 61) (.cells [iv u.1,iv u.2.1,iv u.2.2] 61);rw [<-hh10];apply hn;clear hh10;have f10h:=f9h.trans f10 f9h.lo;have u9:=(k10 hg.n (by omega)).trans s9;refine qA fun K hn hp=> ?_;simp only [sy.1,rE,reduceIte,rL,rA,g2,u9,s10];refine cAS (before_c xt h10 s u fun m1 hm1=> ?_);simp only [sy.1,rE,reduceIte,rL];apply hn;have el:l.getD k b0=s:=by rw [xZW,hs];rfl
    have em:m.getD k b0=u:=by rw [xZW,hu];rfl
    by_cases e:bef s u=0
    ·have de:decide (bef s u=0)=true:=decide_eq_true e;refine qA fun K hn hp=> ?_;simp only [sy.1,rE,reduceIte,rL,de];apply hn;refine wcF (by simp only [sy.1,rE,reduceIte]) ?_;refine qR (B1 _ ?_);refine reg fun K hn hp=> ?_;simp only [sy.1,rE,reduceIte,rL,g13,qF hk hlt];apply hn;refine ⟨⟨k+1,h10.up m1,_,rfl,by omega,(by simp [xZZ,g0]),(by simp [xZZ,g1]),(by simp [xZZ,g2]),(by simp [xZZ,g11]),(by simp [xZZ,g12]),(by simp [xZZ]),f10h.up (by omega),by omega,fun j hj=> ?_⟩,by simpa [xZZ,muA] using (by omega:l.length - (k+1)<l.length - k)⟩;by_cases ej:j=k
     ·rw [ej,el,em];exact e
     ·exact hall j (by omega)
    ·have de:decide (bef s u=0)=false:=decide_eq_false e;refine qA fun K hn hp=> ?_;simp only [sy.1,rE,reduceIte,rL,de];apply hn;refine wcT (by simp only [sy.1,rE,reduceIte]) ?_;refine qA fun K hn hp=> ?_;simp only [sy.1,rE,reduceIte,rL];apply hn;refine qC (B4 _ (A4 _ (qH qEj ⟨?_,f10h.up (xZP hm1)⟩)));have:=cmpF_at hk hk2 hall (by rw [el,em];exact e);rw [el,em] at this;simp [xZZ,this]
   ·have d1:decide (m.length<=k)=true:=decide_eq_true (by omega);refine qA fun K hn hp=> ?_;simp only [sy.1,rE,reduceIte,rL,syw.1,hlenm,g1,ged,d1];apply hn;refine qW (by simp only [sy.1,rE,reduceIte]) ?_;refine qB fun K hn hp=> ?_;simp only [sy.1,rL];apply hn;refine qQ (B4 _ (A4 _ (qH qEj ⟨?_,f9h⟩)));have:bJ l m=1:=by
     rw [wK k (by omega) hkm hall,xZV hk,xXY (show m.length<=k by omega)];rfl
    simp [xZZ,this]
  ·refine jD (by simp only [sy.1,reduceIte,hk]) ?_;refine qL (A2 _ ?_);obtain rfl:k=l.length:=by omega
   refine jK ?_;by_cases hk2:l.length<m.length
   ·refine qA fun K hn hp=> ?_;simp only [sy.1,rE,reduceIte,rL,syw.1,hlen,hlenm,qV,g0,g1,hk2];apply hn;refine qW (by simp only [sy.1,rE,reduceIte]) ?_;refine qB fun K hn hp=> ?_;simp only [sy.1,rL];apply hn;refine qQ (qH qEj ⟨?_,fg⟩);have:bJ l m= -1:=by
     rw [wK l.length (xZY _) hkm hall,xYH,xZV hk2];rfl
    simp [xZZ,this]
   ·refine qA fun K hn hp=> ?_;simp only [sy.1,rE,reduceIte,rL,syw.1,hlen,hlenm,qV,g0,g1,hk2];apply hn;refine jB (by simp only [sy.1,rE,reduceIte]) ?_;refine qA fun K hn hp=> ?_;simp only [sy.1,rL];apply hn;refine qC (qH qEj ⟨?_,fg⟩);have:bJ l m=0:=by
     rw [wK l.length (xZY _) hkm hall,xYH,xXY (by omega)];rfl
    simp [xZZ,this]
 ·exact ⟨0,_,_,rfl,(by omega),(by simp [xZZ]),(by simp [xZZ]),(by simp [xZZ]),(by simp [xZZ]),(by simp [xZZ]),(by simp [xZZ]),xZO (xZY _),xXV _,fun j hj=>absurd hj (Nat.not_lt_zero j)⟩
def bet (a b:Cg):Bool:=decide (orL [xY b.2 a.2,xY a.1.length b.1.length,bJ a.1 b.1]<0)
theorem ft148 (xt:Xt):(SE xt).ft.get 148=some Tryz.f148:=by kernel_rfl
theorem res148:Tryz.f148.results.toList=[.tmp 4]:=by kernel_rfl
theorem better_c (xt:Xt) (h:Hp) (za zb:AV) (a b:Cg) (ha:Cuts xt h za a.1) (hb:Cuts xt h zb b.1) {K:KP} (hk: ∀k,h.n<k->K (.ret (.val (.bool (bet a b)))) (h.up k)):FnA (SE xt) 148 [.agg [za,iv a.2],.agg [zb,iv b.2]] h K:=by
 refine xYU ?_ hk;clear hk K;refine xZQ (sok xt) (ft148 xt) rfl 25 rfl ?_;have hla:=ha.len;have hlb:=hb.len;refine qA fun K hn hp=> ?_;simp only [sw.1,rE,reduceIte,rL];apply hn;obtain ⟨h1,hh1,n1,s1,k1,f1⟩:=vQ h (.cells [za,iv a.2] 124);obtain ⟨h2,hh2,n2,s2,k2,f2⟩:=yJ f1 n1 (.cells [zb,iv b.2] 124);simp only [<-hh1,<-hh2];clear hh1 hh2;have u1:=(k2 h.n (by omega)).trans s1;simp only [rA] at n2;have ha2:=ha.fr f2 (xZY _);have hb2:=hb.fr f2 (xZY _);refine jL (sok xt) 0 0 16 [(6,0),(7,0),(9,0),(10,0),(13,0),(13,1),(15,0),(15,1)] (by kernel_rfl) fun K hn hp=> ?_;simp only [sy.1,rE,reduceIte,rL,rA,syw.1,syp.1,u1,s2];refine cAS (cmp_c xt h2 _ _ fun m1 hm1=> ?_);simp only [sy.1,rE,reduceIte,rL,rA,syw.1,syp.1,u1,s2,hla,hlb,hm1];refine cAS (cmp_c xt (h2.up m1) _ _ fun m2 hm2=> ?_);simp only [xZH] at hm2;simp only [sy.1,rE,reduceIte,rL,rA,syw.1,syp.1,u1,s2,hla,hlb,hm2,xYL];refine cAS (cmpF_c xt (h2.up m2) za zb a.1 b.1 (ha2.up (by omega)) (hb2.up (by omega)) fun m3 hm3=> ?_);simp only [xZH] at hm3;simp only [sy.1,rE,reduceIte,rL,xYL,jF,bs75_3];obtain ⟨h4,hh4,n4,s4,k4,f4⟩:=vQ (h2.up m3) (.cells [iv (xY b.2 a.2),iv (xY a.1.length b.1.length),iv (bJ a.1 b.1)] 3);have hr:=row3 (xt:=xt) (h:=h2.up m3) (a:=xY b.2 a.2) (b:=xY a.1.length b.1.length) (c:=bJ a.1 b.1);rw [<-hh4] at hr;simp only [xZH] at hh4 hr n4 f4;rw [<-hh4];refine cAS (or_c xt h4 (.sl m3 0 3 1) _ hr (by simp) fun m5 hm5=> ?_);simp only [sy.1,rE,reduceIte,rL];refine hn _ _ (qC (qH res148 ⟨?_,((f2.up (m:=m3) (by omega)).trans f4 (by omega)).up (by omega)⟩));simp [xZZ,bet]
def xE (e0:AV×Cg) (l:List (AV×Cg)):AV×Cg:=l.foldl (fun out y=>if bet y.2 out.2=true then y else out) e0
theorem qD4 {e0:AV×Cg} {es:List (AV×Cg)} {k:Nat} {e:AV×Cg} (h:es[k]? =some e):xE e0 (es.take (k+1))=if bet e.2 (xE e0 (es.take k)).2=true then e else xE e0 (es.take k):=by
 rw [xYC,h];simp only [xE,List.foldl_append];rfl
theorem qC4 {e0:AV×Cg}: ∀(l:List (AV×Cg)),xE e0 l=e0\/xE e0 l∈l:=by
 intro l;induction l generalizing e0 with
 |nil=>exact .inl rfl
 |cons x l ih=>
  show xE (if bet x.2 e0.2=true then x else e0) l=e0\/xE (if bet x.2 e0.2=true then x else e0) l∈x::l;by_cases q:bet x.2 e0.2=true
  ·rw [if_pos q];rcases ih (e0:=x) with h|h
   ·exact .inr (by rw [h];exact xZB)
   ·exact .inr (xYZ _ h)
  ·rw [if_neg q];rcases ih (e0:=e0) with h|h
   ·exact .inl h
   ·exact .inr (xYZ _ h)
theorem ft147 (xt:Xt):(SE xt).ft.get 147=some Tryz.f147:=by kernel_rfl
theorem res147:Tryz.f147.results.toList=[.cell 4 124]:=by kernel_rfl
theorem best_c (xt:Xt) (h:Hp) (N:Nat) (v:AV) (es:List (AV×Cg)) (hv:CRows xt h N v es) (e0:AV×Cg) (h0:es[0]? =some e0) (hlt:es.length<=1000000)
  {K:KP} (hk: ∀k,h.n<k->K (.ret (.agg [(xE e0 es).1,iv (xE e0 es).2.2])) (h.up k)):FnA (SE xt) 147 [v,.val (.func (.func 148) #[] #[])] h K:=by
 refine xYU ?_ hk;clear hk K;refine xZQ (sok xt) (ft147 xt) rfl 24 rfl ?_;have hlen:=hv.len;have hcut: ∀e∈es,Cuts xt h e.1 e.2.1:=fun e he=>(hv.at_ e he).1;have hbm: ∀k,xE e0 (es.take k)∈es:=fun k=>by
  rcases qC4 (e0:=e0) (es.take k) with q|q
  ·rw [q];exact xZL h0
  ·exact List.mem_of_mem_take q
 obtain ⟨b0',i0,p1,p2,i00⟩:=hv.idx h0;have w0:=(hcut e0 (xZL h0)).one;refine qA fun K hn hp=> ?_;simp only [sw.1,rL,syp.1];apply hn;obtain ⟨h1,hh1,n1,s1,k1,f1⟩:=vQ h (.cells [.val (.slice none 0 0),iv 0] 124);rw [<-hh1];clear hh1;have i0':qK tb 193 v (iv 0)=some (.ptr b0' 0):=by simpa using i0
 have i01:=i00 h1 (k1 b0' p2);rw [Nat.zero_mul] at i01;refine qA fun K hn hp=> ?_;simp only [sw.1,rE,reduceIte,rL,rA,syp.1,i0',i01,w0,n1];obtain ⟨h2,hh2,n2,s2,k2,f2⟩:=nsE h1 (.cells [.val (.slice none 0 0),iv 0] 124) (.cells [e0.1,iv e0.2.2] 124);rw [n1] at hh2 n2 s2 k2;rw [<-hh2];apply hn;clear hh2;have f2h:Fr h.n h h2:=f1.trans f2 (by omega);have u1:=(k2 h.n (by omega)).trans s1;refine qB fun K hn hp=> ?_;simp only [sy.1,rE,reduceIte,rL,syw.1,hlen];apply hn;refine qD fun KA A1 A2 A3 A4 A5=> ?_;refine qM (sok xt) (fun st=> ∃(k:Nat) (hg:Hp) (tm:T AV),st=⟨tm,24,hg,[]⟩/\k<=es.length/\tm.get 1=some (.val (.func (.func 148) #[] #[]))/\tm.get 4=some (.ptr h.n 0)/\tm.get 5=some (.ptr (h.n+1) 0)/\tm.get 11=some (v)/\tm.get 12=some (iv es.length)/\tm.get 13=some (iv k)/\FrM (fun x=>x=h.n+1) h2.n h2 hg/\hg.t.get (h.n+1)=some (.cells [(xE e0 (es.take k)).1,iv (xE e0 (es.take k)).2.2] 124)) (fun st=>es.length - (match st.tm.get 13 with|some (.val (.int _ n))=>n.toNat|_=>0)) ?_ ?_
 ·rintro st ⟨k,hg,tm,rfl,hkA,g1,g4,g5,g11,g12,g13,fg,sg⟩;have muA:=g13;refine qA fun K hn hp=> ?_;simp only [sy.1,rL,qV,g12,g13];apply hn;have lg:=fg.lo;have gl:=fg.le;have fgh:Fr h.n h hg:=fg.toFr f2h (by omega) (fun k hk=>by omega);by_cases hk:k<es.length
  ·refine jC (by simp only [sy.1,reduceIte,hk]) ?_;obtain ⟨e,he⟩: ∃e,es[k]? =some e:=⟨_,xZX hk⟩;obtain ⟨b,j1,j2,j3,j4⟩:=hv.idx he;have j5:=j4 hg (fgh.at_ b (.inl j3));have hce:=(hcut e (xZL he));have we:=hce.one;have hcb:=hcut _ (hbm k);refine qD fun KB B1 B2 B3 B4 B5=> ?_;refine qA fun K hn hp=> ?_;simp only [sw.1,rE,reduceIte,rL,rA,syp.1,g11,g13,j1,j5,we];obtain ⟨h9,hh9,n9,s9,k9,f9⟩:=nsE hg (.cells [.val (.slice none 0 0),iv 0] 124) (.cells [e.1,iv e.2.2] 124);rw [<-hh9];apply hn;clear hh9;have g9:=fg.fr f9 (by omega);have f9h:=fgh.trans f9 (by omega);have y1:=(k9 (h.n+1) (by omega)).trans sg;refine qA fun K hn hp=> ?_;simp only [sy.1,rE,reduceIte,rL,rA,syp.1,g1,g5,s9,y1];refine cAS (better_c xt h9 e.1 (xE e0 (es.take k)).1 e.2 (xE e0 (es.take k)).2 (hce.fr f9h (xZY _)) (hcb.fr f9h (xZY _)) fun m1 hm1=> ?_);cases q:bet e.2 (xE e0 (es.take k)).2
   ·simp only [sy.1,rL];apply hn;refine wcF (by simp only [sy.1,rE,reduceIte]) ?_;refine qR (B1 _ ?_);refine reg fun K hn hp=> ?_;simp only [sy.1,rE,reduceIte,rL,g13,qF hk (show es.length<=9223372036854775807 by omega)];apply hn;refine ⟨⟨k+1,_,_,rfl,by omega,(by simp [xZZ,g1]),(by simp [xZZ,g4]),(by simp [xZZ,g5]),(by simp [xZZ,g11]),(by simp [xZZ,g12]),(by simp [xZZ]),g9.up (xZP hm1),?_⟩,by simpa [xZZ,muA] using (by omega:es.length - (k+1)<es.length - k)⟩;rw [qD4 he,q,if_neg (by decide)];exact y1
   ·simp only [sy.1,rL];apply hn;refine wcT (by simp only [sy.1,rE,reduceIte]) ?_;refine reg fun K hn hp=> ?_;simp only [sw.1,rE,reduceIte,rL,rA,syw.1,syp.1,g5,s9,y1,we];refine hn _ _ (B1 _ ?_);refine reg fun K hn hp=> ?_;simp only [sy.1,rE,reduceIte,rL,g13,qF hk (show es.length<=9223372036854775807 by omega)];apply hn;refine ⟨⟨k+1,_,_,rfl,by omega,(by simp [xZZ,g1]),(by simp [xZZ,g4]),(by simp [xZZ,g5]),(by simp [xZZ,g11]),(by simp [xZZ,g12]),(by simp [xZZ]),(g9.up (xZP hm1)).set (.inr rfl) _,?_⟩,by simpa [xZZ,muA] using (by omega:es.length - (k+1)<es.length - k)⟩;rw [qD4 he,q,if_pos rfl,xZM,xZZ,if_pos rfl]
  ·refine jD (by simp only [sy.1,reduceIte,hk]) ?_;refine qL (A2 _ ?_);obtain rfl:k=es.length:=by omega
   rw [xYJ] at sg;have hcb:=hcut _ (hbm es.length);rw [xYJ] at hcb;have wb:=hcb.one;have z1:=(fg.get (k:=h.n) (by omega) (by omega)).trans u1;refine qA fun K hn hp=> ?_;simp only [sw.1,rE,reduceIte,rL,rA,syp.1,g4,g5,sg,z1,wb];refine hn _ _ (qC (bX (v:= .agg [(xE e0 es).1,iv (xE e0 es).2.2]) res147 ?_ ⟨rfl,fgh.set (by omega) (by omega) _⟩));simp only [sy.1,rE,reduceIte,rA,syp.1,g4]
 ·exact ⟨0,_,_,rfl,(by omega),(by simp [xZZ]),(by simp [xZZ]),(by simp [xZZ]),(by simp [xZZ]),(by simp [xZZ]),(by simp [xZZ]),FrM.refl (xZY _),by simpa [xE] using s2⟩
def Inn (v:AV):Prop:= ∀ad n c,v≠ .val (.slice (some ad) n c)
theorem row_src {xt:Xt} {h:Hp} {sz:Nat} {v:AV} {cs:List (List Value)} (r:RowAt xt h sz v cs) (hi:Inn v) (ho: ∀c∈cs,∀u∈c,Go.Ev.one (.val u)=true):gH xt h sz v=some (cs.length,cs.flatten.map .val):=by
 obtain ⟨h1,h2,h3⟩:=r;rcases h3 with ⟨rfl,rfl⟩|⟨ad,cap,rfl,_⟩|⟨b,off,av,e',rfl,⟨q1,q2,q3⟩,hx⟩
 ·rfl
 ·exact absurd rfl (hi _ _ _)
 ·have hfl:=qCS cs h1;have key:(av.drop off).take (cs.length*sz)=cs.flatten.map .val:=by
   refine List.ext_getElem? fun p=> ?_;rw [xYM,List.getElem?_drop,xZR];by_cases hp:p<cs.length*sz
   ·rw [if_pos hp];have hi:p / sz<cs.length:=(Nat.div_lt_iff_lt_mul h2).2 hp;have hj:p % sz<sz:=Nat.mod_lt _ h2;have ep:p / sz*sz+p % sz=p:=by rw [Nat.mul_comm];exact Nat.div_add_mod p sz
    obtain ⟨c,hc⟩: ∃c,cs[p / sz]? =some c:=⟨_,xZX hi⟩;have hcl:=h1 c (xZL hc);obtain ⟨u,hu⟩: ∃u,c[p % sz]? =some u:=⟨_,xZX (by omega)⟩;have e1:=hx _ _ hc _ _ hu;have e2:=qAG cs _ _ _ _ h1 hc hu;rw [ep] at e1 e2;rw [e1,e2];rfl
   ·rw [if_neg hp,List.getElem?_eq_none (by rw [hfl];omega)];rfl
  have hall:(cs.flatten.map AV.val).all Go.Ev.one=true:=by
   rw [xYG];intro x hx';obtain ⟨u,hu,rfl⟩:=xZK.1 hx';obtain ⟨c,hc,huc⟩:=List.mem_flatten.1 hu;exact ho c hc u huc
  have b1:Nat.ble (off+cs.length*sz) av.length=true:=by rw [xZJ];exact q2
  simp only [gH,q3,key,Nat.beq_refl,b1,hall,Bool.and_self,cond_true]
def vS (ls:List (Int×Int×Int)):List AV:=(ls.map t3).flatten.map .val
theorem pE (ls:List (Int×Int×Int)):(vS ls).length=ls.length*3:=by
 rw [vS,xZU,qCS (sz:=3) _ (fun c hc=>by obtain ⟨x,_,rfl⟩:=xZK.1 hc;rfl),xZU]
theorem qDt (l m:List (Int×Int×Int)):vS (l++m)=vS l++vS m:=by simp [vS]
theorem Cuts.src {xt:Xt} {h:Hp} {v:AV} {ls:List (Int×Int×Int)} (a:Cuts xt h v ls) (hi:Inn v):gH xt h 3 v=some (ls.length,vS ls):=by
 have:=row_src a.row hi (fun c hc u hu=>by
  obtain ⟨x,_,rfl⟩:=xZK.1 hc;simp only [Kn.t3,xYA,List.not_mem_nil,or_false] at hu;rcases hu with rfl|rfl|rfl<;>rfl)
 rw [xZU] at this;exact this
def GrowAt (h:Hp) (N:Nat) (v:AV) (ls:List (Int×Int×Int)):Prop:=
 (v= .val (.slice none 0 0)/\ls=[])\/ ∃b cs,v= .sl b 0 ls.length 3/\N<=b/\b<h.n/\h.t.get b=some (.cells cs 61)/\ls.length*3<=cs.length/\cs.take (ls.length*3)=vS ls
theorem GrowAt.cuts {xt:Xt} {h:Hp} {N:Nat} {v:AV} {ls:List (Int×Int×Int)} (g:GrowAt h N v ls) (hl:ls.length<=1000000):Cuts xt h v ls/\Inn v:=by
 rcases g with ⟨rfl,rfl⟩|⟨b,cs,rfl,h1,h2,h3,h4,h5⟩
 ·exact ⟨Cuts.nil,fun _ _ _ e=>by cases e⟩
 ·refine ⟨⟨⟨fun c hc=>by obtain ⟨x,_,rfl⟩:=xZK.1 hc;rfl,by omega,.inr (.inr ⟨b,0,cs,61,by simp,⟨h2,by simpa using h4,h3⟩,fun i c hi j u hu=> ?_⟩)⟩,by omega,fun _ _ _ e=>by cases e⟩,fun _ _ _ e=>by cases e⟩;have hil:i<ls.length:=by have:=(xZS.1 hi).1;simpa using this
  have hjl:j<3:=by
   have:=(xZS.1 hu).1;obtain ⟨x,_,rfl⟩:=xZK.1 (xZL hi);exact this
  have e1:=qAG (sz:=3) (ls.map Kn.t3) i j c u (fun c hc=>by obtain ⟨x,_,rfl⟩:=xZK.1 hc;rfl) hi hu;have e2:(vS ls)[i*3+j]? =some (.val u):=by rw [vS,xZR,e1];rfl
  rw [<-h5,xYM,if_pos (by omega)] at e2;rw [xXX];exact e2
theorem GrowAt.append {xt:Xt} {h:Hp} {N:Nat} {v x:AV} {l m:List (Int×Int×Int)} (g:GrowAt h N v l) (hN:N<=h.n) (hm:Cuts xt h x m) (hi:Inn x) (hl:l.length+m.length<=1000000):
  ∃v' h',qS Tryz.prog tb xt .append [33,33] [v,x] h=some (v',h')/\GrowAt h' N v' (l++m)/\Fr N h h'/\h.n<=h'.n/\ ∀k,k<N->h'.t.get k=h.t.get k:=by
 have hs:=hm.src hi;have hb:te61.bytes=24:=rfl;rcases g with ⟨rfl,rfl⟩|⟨b,cs,rfl,h1,h2,h3,h4,h5⟩
 ·cases m with
  |nil=>
   refine ⟨_,h,qF9 (sz:=3) tg33 rfl qA7 rfl tg33 rfl (by simpa [vS] using hs),.inl ⟨rfl,rfl⟩,xZO hN,xZY _,fun _ _=>rfl⟩
  |cons s m=>
   have b0:Nat.beq (s::m).length 0=false:=rfl;have b3:Nat.ble ((s::m).length*24) 140737488355328=true:=by rw [xZJ];simp only [List.length_nil] at hl;omega
   have b4:Nat.ble (s::m).length 9223372036854775807=true:=by rw [xZJ];simp only [List.length_nil] at hl;omega
   have:zJ tb xt h 33 33 (.val (.slice none 0 0)) x=some (.sl h.n 0 (s::m).length 3,h.new (.cells (vS (s::m)) 61)):=by
    unfold zJ;have d33:te33.d= .slice 61:=rfl;have z61:te61.size=3:=rfl;simp only [tg33,d33,qA7,z61,hs,b0,hb,b3,b4];simp
   refine ⟨.sl h.n 0 (s::m).length 3,h.new (.cells (vS (s::m)) 61),by simp only [qS,this],.inr ⟨h.n,_,by simp,hN,xYF _,pT _ _,?_,?_⟩,Fr.new (xZO hN) _,xZT _,fun k hk=>pR _ _ (by omega)⟩
   ·rw [pE];simp
   ·rw [List.nil_append,xZG (by rw [pE];simp)]
 ·have b1:Nat.ble (l.length*3) cs.length=true:=by rw [xZJ];exact h4
  have b3:Nat.ble ((l.length+m.length)*24) 140737488355328=true:=by rw [xZJ];omega
  have b4:Nat.ble (l.length+m.length) 9223372036854775807=true:=by rw [xZJ];omega
  have:zJ tb xt h 33 33 (.sl b 0 l.length 3) x=some (.sl h.n 0 (l.length+m.length) 3,(h.del b).new (.cells (vS (l++m)) 61)):=by
   unfold zJ;have d33:te33.d= .slice 61:=rfl;have z61:te61.size=3:=rfl;simp only [tg33,d33,qA7,z61,hs,h3,hb,b1,b3,b4,h5,<-qDt];simp
  refine ⟨.sl h.n 0 (l.length+m.length) 3,(h.del b).new (.cells (vS (l++m)) 61),by simp only [qS,this],.inr ⟨h.n,vS (l++m),by simp,hN,xYF _,by simp [Hp.new_t,Hp.del_t,Hp.del_n,xZZ],?_,?_⟩,Fr.new ((xZO hN).del h1 h2) _,xZT _,fun k hk=> ?_⟩
  ·rw [pE];simp
  ·rw [xZG (by rw [pE];simp)]
  ·simp only [Hp.new_t,Hp.del_t,Hp.del_n,xZZ];rw [if_neg (by omega),if_neg (by omega)]
theorem ft224 (xt:Xt):(SE xt).ft.get 224=some Tryz.f224:=by kernel_rfl
theorem res224:Tryz.f224.results.toList=[.tmp 4]:=by kernel_rfl
theorem cap33 (h:Hp) (xt:Xt):qS Tryz.prog tb xt .cap [33] [.val (.slice none 0 0)] h=some (iv 0,h):=by kernel_rfl
theorem slz (h:Hp):j0 tb h 33 (.val (.slice none 0 0)) none (some (iv 0))=some (.val (.slice none 0 0)):=by kernel_rfl
theorem slb (h:Hp) (b n:Nat):j0 tb h 33 (.sl b 0 n 3) none (some (iv 0))=some (.sl b 0 0 3):=by
 have:j0 tb h 33 (.sl b 0 n 3) none (some (iv 0))=bif Nat.ble 0 0 && (Nat.ble 0 n && Nat.beq 3 3) then some (.sl b (0+0*3) (0 - 0) 3) else none:=by kernel_rfl
 rw [this,show Nat.ble 0 n=true by rw [xZJ];omega];rfl
theorem apz (xt:Xt) (h:Hp) (n:Nat) (hn:0<n) (hn2:n<=1000000):qS Tryz.prog tb xt .append [33,3] [.val (.slice none 0 0),iv (n:Int)] h=some (.sl h.n 0 n 3,h.new (.cells (jU (te61.zero.map .val) n) 61)):=by
 have:qS Tryz.prog tb xt .append [33,3] [.val (.slice none 0 0),iv (n:Int)] h=bif Nat.blt 0 n && (Nat.blt 0 3 && (Nat.ble (n*24) 140737488355328 && Nat.ble n 9223372036854775807)) then some (.sl h.n 0 n 3,h.new (.cells (jU (te61.zero.map .val) n) 61)) else none:=by kernel_rfl
 rw [this];have b1:Nat.blt 0 n=true:=by rw [xYB];exact hn
 have b2:Nat.ble (n*24) 140737488355328=true:=by rw [xZJ];omega
 have b3:Nat.ble n 9223372036854775807=true:=by rw [xZJ];omega
 rw [b1,b2,b3];rfl
theorem grow_c (xt:Xt) (h:Hp) (n:Nat) (hn2:n<=1000000):FnA (SE xt) 224 [.val (.slice none 0 0),iv (n:Int)] h (fun res h'=>Fr h.n h h'/\ ∃z,res= .ret z/\GrowAt h' h.n z []):=by
 refine xZQ (sok xt) (ft224 xt) rfl 27 rfl ?_;have d1:decide ((n:Int)<0)=false:=decide_eq_false (by omega);have l33: ∀h:Hp,zA tb h 33 (.val (.slice none 0 0))=some 0:=fun h=>by kernel_rfl
 have w1:IntKind.i64.wrap ((0:Int) - ((0:Nat):Int))=0:=by decide
 have w2:IntKind.i64.wrap ((n:Int) - 0)=n:=by rw [Int.sub_zero];exact qG _ (by omega) (by omega)
 refine qA fun K hn hp=> ?_;simp only [sw.1,rL];apply hn;refine qB fun K hn hp=> ?_;simp only [sy.1,rE,reduceIte,rL,d1];apply hn;refine jB (by simp only [sy.1,rE,reduceIte]) ?_;refine qAq fun KK hK hX=> ?_;refine qA fun K hn hp=> ?_;simp only [sy.1,rE,reduceIte,rL,syw.1,cap33,l33,w1,w2];apply hn;by_cases e:0<n
 ·have d2:decide (0<(n:Int))=true:=decide_eq_true (by omega);refine qA fun K hn hp=> ?_;simp only [sy.1,rE,reduceIte,rL,d2];apply hn;refine wcT (by simp only [sy.1,rE,reduceIte]) ?_;obtain ⟨h1,hh1,n1,s1,k1,f1⟩:=vQ h (.cells (jU (te61.zero.map .val) n) 61);have ap:=apz xt h n e hn2;rw [<-hh1] at ap;clear hh1;have slb0:j0 tb h1 33 (.sl h.n 0 n 3) none (some (.val (.int .i64 ((0:Nat):Int))))=some (.sl h.n 0 0 3):=slb h1 h.n n;refine reg fun K hn hp=> ?_;simp only [sy.1,rE,reduceIte,rL,syw.1,cap33,l33,kS,slz,slb0,ap,xYQ];apply hn;refine hK _ ?_;refine qA fun K hn hp=> ?_;simp only [sy.1,rE,reduceIte,rL];apply hn;refine qC (qH res224 ⟨f1,_,by simp [xZZ],.inr ⟨h.n,_,rfl,xZY _,by omega,s1,by simp,by simp [vS]⟩⟩)
 ·have d2:decide (0<(n:Int))=false:=decide_eq_false (by omega);refine qA fun K hn hp=> ?_;simp only [sy.1,rE,reduceIte,rL,d2];apply hn;refine wcF (by simp only [sy.1,rE,reduceIte]) ?_;refine qR (hK _ ?_);refine qA fun K hn hp=> ?_;simp only [sy.1,rE,reduceIte,rL];apply hn;refine qC (qH res224 ⟨xZO (xZY _),_,by simp [xZZ],.inl ⟨rfl,rfl⟩⟩)
theorem ix127 (b:Nat):qK tb 126 (.sl b 0 2 1) (iv 0)=some (.ptr b 0)/\qK tb 126 (.sl b 0 2 1) (iv 1)=some (.ptr b 1):=⟨by kernel_rfl,by kernel_rfl⟩
theorem ln127 (h:Hp) (b:Nat):zA tb h 126 (.sl b 0 2 1)=some 2:=by kernel_rfl
theorem ft191 (xt:Xt):(SE xt).ft.get 191=some Tryz.f191:=by kernel_rfl
theorem res191:Tryz.f191.results.toList=[.tmp 2]:=by kernel_rfl
theorem concat_c (xt:Xt) (h:Hp) (b:Nat) (za zb:AV) (la lb:List (Int×Int×Int)) (hb:h.t.get b=some (.cells [za,zb] 33)) (hbn:b<h.n) (ha:Cuts xt h za la) (hbb:Cuts xt h zb lb) (ia:Inn za) (ib:Inn zb) (hl:la.length+lb.length<=100000):
  FnA (SE xt) 191 [.sl b 0 2 1] h (fun res h'=>Fr h.n h h'/\ ∃z,res= .ret z/\GrowAt h' h.n z (la++lb)):=by
 refine xZQ (sok xt) (ft191 xt) rfl 36 rfl ?_;have i0:=(ix127 b).1;have i1:=(ix127 b).2;have hla:=ha.len;have hlb:=hbb.len;have ln:=fun h'=>ln127 h' b;refine qA fun K hn hp=> ?_;simp only [sw.1,rL];apply hn;refine qA fun K hn hp=> ?_;simp only [sy.1,rL];apply hn;refine qB fun K hn hp=> ?_;simp only [sy.1,rE,reduceIte,rL,syw.1,ln];apply hn;refine qD fun KA A1 A2 A3 A4 A5=> ?_;refine qM (sok xt) (fun st=> ∃(k:Nat) (x:Nat) (tm:T AV),st=⟨tm,36,h,[]⟩/\k<=2/\tm.get 0=some (.sl b 0 2 1)/\tm.get 3=some (iv (x:Int))/\tm.get 9=some (.sl b 0 2 1)/\tm.get 10=some (iv ((2:Nat):Int))/\tm.get 11=some (iv k)/\x=(if 0<k then la.length else 0)+(if 1<k then lb.length else 0)) (fun st=>2 - (match st.tm.get 11 with|some (.val (.int _ n))=>n.toNat|_=>0)) ?_ ?_
 ·rintro st ⟨k,x,tm,rfl,hkA,g0,g3,g9,g10,g11,hx⟩;have muA:=g11;refine qA fun K hn hp=> ?_;simp only [sy.1,rL,qV,g10,g11];apply hn;by_cases hk:k<2
  ·refine jC (by simp only [sy.1,reduceIte,hk]) ?_;refine qD fun KB B1 B2 B3 B4 B5=> ?_;rcases (by omega:k=0\/k=1) with ek|ek
   ·have i0:qK tb 126 (.sl b 0 2 1) (iv (k:Int))=some (.ptr b 0):=by rw [ek];exact i0
    have hx0:x=0:=by simpa [ek] using hx
    subst hx0;have w1:IntKind.i64.wrap (((0:Nat):Int)+(la.length:Int))=(la.length:Int):=by rw [Int.natCast_zero,Int.zero_add];exact qG _ (by omega) (by omega)
    have d1:decide ((la.length:Int)<0)=false:=decide_eq_false (by omega);refine qA fun K hn hp=> ?_;simp only [sy.1,rE,reduceIte,rL,g9,g11,i0,hb];apply hn;refine qA fun K hn hp=> ?_;simp only [sy.1,rE,reduceIte,rL,syw.1,hla,g3,w1];apply hn;refine qA fun K hn hp=> ?_;simp only [sy.1,rE,reduceIte,rL,g3,d1];apply hn;refine wcF (by simp only [sy.1,rE,reduceIte]) ?_;refine qR (B1 _ ?_);refine reg fun K hn hp=> ?_;simp only [sy.1,rE,reduceIte,rL,g11,qF hk (show 2<=9223372036854775807 by omega)];apply hn;refine ⟨⟨k+1,la.length,_,rfl,by omega,(by simp [xZZ,g0]),(by simp [xZZ]),(by simp [xZZ,g9]),(by simp [xZZ,g10]),(by simp [xZZ]),by simp [ek]⟩,by simpa [xZZ,muA] using (by omega:2 - (k+1)<2 - k)⟩
   ·have i1:qK tb 126 (.sl b 0 2 1) (iv (k:Int))=some (.ptr b 1):=by rw [ek];exact i1
    have hx0:x=la.length:=by simpa [ek] using hx
    subst hx0;have w1:IntKind.i64.wrap ((la.length:Int)+(lb.length:Int))=((la.length+lb.length:Nat):Int):=by rw [qG _ (by omega) (by omega)];simp
    have d1:decide (((la.length+lb.length:Nat):Int)<0)=false:=decide_eq_false (by omega);refine qA fun K hn hp=> ?_;simp only [sy.1,rE,reduceIte,rL,g9,g11,i1,hb];apply hn;refine qA fun K hn hp=> ?_;simp only [sy.1,rE,reduceIte,rL,syw.1,hlb,g3,w1];apply hn;refine qA fun K hn hp=> ?_;simp only [sy.1,rE,reduceIte,rL,g3,d1];apply hn;refine wcF (by simp only [sy.1,rE,reduceIte]) ?_;refine qR (B1 _ ?_);refine reg fun K hn hp=> ?_;simp only [sy.1,rE,reduceIte,rL,g11,qF hk (show 2<=9223372036854775807 by omega)];apply hn;refine ⟨⟨k+1,la.length+lb.length,_,rfl,by omega,(by simp [xZZ,g0]),(by simp [xZZ]),(by simp [xZZ,g9]),(by simp [xZZ,g10]),(by simp [xZZ]),by simp [ek]⟩,by simpa [xZZ,muA] using (by omega:2 - (k+1)<2 - k)⟩
  ·refine jD (by simp only [sy.1,reduceIte,hk]) ?_;refine qL (A2 _ ?_);obtain rfl:k=2:=by omega
   have hx0:x=la.length+lb.length:=by simpa using hx
   subst hx0;refine qA fun K hn hp=> ?_;simp only [sy.1,rE,reduceIte,rL,g3];refine cAS (xZI (grow_c xt h (la.length+lb.length) (by omega)) fun res h1 hres=> ?_);obtain ⟨f1,z0,rfl,gg0⟩:=hres;simp only [sy.1,rE,reduceIte,rL];apply hn;refine qB fun K hn hp=> ?_;simp only [sy.1,rE,reduceIte,rL,syw.1,ln,g0];apply hn;refine qD fun KD D1 D2 D3 D4 D5=> ?_;refine qM (sok xt) (fun st=> ∃(k:Nat) (z:AV) (hg:Hp) (tm:T AV),st=⟨tm,36,hg,[]⟩/\k<=2/\tm.get 0=some (.sl b 0 2 1)/\tm.get 6=some (z)/\tm.get 25=some (.sl b 0 2 1)/\tm.get 26=some (iv ((2:Nat):Int))/\tm.get 27=some (iv k)/\Fr h.n h hg/\GrowAt hg h.n z ((if 0<k then la else [])++(if 1<k then lb else []))) (fun st=>2 - (match st.tm.get 27 with|some (.val (.int _ n))=>n.toNat|_=>0)) ?_ ?_
   ·rintro st ⟨k,z,hg,tm,rfl,hkD,g0,g6,g25,g26,g27,fg,gz⟩;have muD:=g27;refine qA fun K hn hp=> ?_;simp only [sy.1,rL,qV,g26,g27];apply hn;have hbg:=(fg.at_ b (.inl hbn)).trans hb;by_cases hk:k<2
    ·refine jC (by simp only [sy.1,reduceIte,hk]) ?_;refine qD fun KE E1 E2 E3 E4 E5=> ?_;rcases (by omega:k=0\/k=1) with ek|ek
     ·have i0:qK tb 126 (.sl b 0 2 1) (iv (k:Int))=some (.ptr b 0):=by rw [ek];exact i0
      have gz0:GrowAt hg h.n z []:=by simpa [ek] using gz
      obtain ⟨z',h',q1,q2,q3,q4,q5⟩:=gz0.append (xt:=xt) fg.lo (ha.fr fg (xZY _)) ia (by simp;omega);refine qA fun K hn hp=> ?_;simp only [sy.1,rE,reduceIte,rL,g25,g27,i0,hbg];apply hn;refine reg fun K hn hp=> ?_;simp only [sy.1,rE,reduceIte,rL,g6,q1];apply hn;refine E1 _ ?_;refine reg fun K hn hp=> ?_;simp only [sy.1,rE,reduceIte,rL,g27,qF hk (show 2<=9223372036854775807 by omega)];apply hn;refine ⟨⟨k+1,z',h',_,rfl,by omega,(by simp [xZZ,g0]),(by simp [xZZ]),(by simp [xZZ,g25]),(by simp [xZZ,g26]),(by simp [xZZ]),fg.trans q3 (xZY _),by simpa [ek] using q2⟩,by simpa [xZZ,muD] using (by omega:2 - (k+1)<2 - k)⟩
     ·have i1:qK tb 126 (.sl b 0 2 1) (iv (k:Int))=some (.ptr b 1):=by rw [ek];exact i1
      have gz0:GrowAt hg h.n z la:=by simpa [ek] using gz
      obtain ⟨z',h',q1,q2,q3,q4,q5⟩:=gz0.append (xt:=xt) fg.lo (hbb.fr fg (xZY _)) ib (by omega);refine qA fun K hn hp=> ?_;simp only [sy.1,rE,reduceIte,rL,g25,g27,i1,hbg];apply hn;refine reg fun K hn hp=> ?_;simp only [sy.1,rE,reduceIte,rL,g6,q1];apply hn;refine E1 _ ?_;refine reg fun K hn hp=> ?_;simp only [sy.1,rE,reduceIte,rL,g27,qF hk (show 2<=9223372036854775807 by omega)];apply hn;refine ⟨⟨k+1,z',h',_,rfl,by omega,(by simp [xZZ,g0]),(by simp [xZZ]),(by simp [xZZ,g25]),(by simp [xZZ,g26]),(by simp [xZZ]),fg.trans q3 (xZY _),by simpa [ek] using q2⟩,by simpa [xZZ,muD] using (by omega:2 - (k+1)<2 - k)⟩
    ·refine jD (by simp only [sy.1,reduceIte,hk]) ?_;refine qL (D2 _ ?_);obtain rfl:k=2:=by omega
     have gz0:GrowAt hg h.n z (la++lb):=by simpa using gz
     refine qA fun K hn hp=> ?_;simp only [sy.1,rE,reduceIte,rL,g6];apply hn;refine qC (qH res191 ⟨fg,z,by simp [xZZ],gz0⟩)
   ·exact ⟨0,z0,h1,_,rfl,(by omega),(by simp [xZZ,g0]),(by simp [xZZ]),(by simp [xZZ]),(by simp [xZZ]),(by simp [xZZ]),f1,by simpa using gg0⟩
 ·exact ⟨0,0,_,rfl,(by omega),(by simp [xZZ]),(by simp [xZZ]),(by simp [xZZ]),(by simp [xZZ]),(by simp [xZZ]),by simp⟩
theorem bs127 (h:Hp) (za zb:AV) (ha:cellsOf za=[za]) (hb:cellsOf zb=[zb]):jN tb h 126 2 [(0,za),(1,zb)]=some (.sl h.n 0 2 1,h.new (.cells [za,zb] 33)):=by
 have:jN tb h 126 2 [(0,za),(1,zb)]=(yH (fun i=>some (i*1,1)) [(0,za),(1,zb)] [.val (.slice none 0 0),.val (.slice none 0 0)]).map fun cs=>(.sl h.n 0 2 1,h.new (.cells cs 33)):=by kernel_rfl
 rw [this];simp [yH,ha,hb];exact ⟨_,rfl,rfl⟩
structure NewC (xt:Xt) (N:Nat) (h:Hp) (z:AV) (l:List (Int×Int×Int)):Prop where
 cuts:Cuts xt h z l
 inn:Inn z
 lo: ∀b off n s,z= .sl b off n s->N<=b
theorem NewC.fr {xt:Xt} {N:Nat} {h h':Hp} {z:AV} {l:List (Int×Int×Int)} (a:NewC xt N h z l) {M:Nat} (f:Fr M h h') (hM:h.n<=M):NewC xt N h' z l:=⟨a.cuts.fr f hM,a.inn,a.lo⟩
theorem NewC.lower {xt:Xt} {N M:Nat} {h:Hp} {z:AV} {l:List (Int×Int×Int)} (a:NewC xt N h z l) (hM:M<=N):NewC xt M h z l:=⟨a.cuts,a.inn,fun b off n s e=>xYN hM (a.lo b off n s e)⟩
theorem NewC.set {xt:Xt} {N:Nat} {h:Hp} {z:AV} {l:List (Int×Int×Int)} (a:NewC xt N h z l) {b:Nat} (hb:b<N) (o:AO):NewC xt N (h.set b o) z l:=⟨⟨a.cuts.row.set (fun off n s e=>by have:=a.lo b off n s e;omega) o,a.cuts.lt,a.cuts.cap⟩,a.inn,a.lo⟩
theorem GrowAt.newC {xt:Xt} {h:Hp} {N:Nat} {v:AV} {ls:List (Int×Int×Int)} (g:GrowAt h N v ls) (hl:ls.length<=1000000):NewC xt N h v ls:=by
 obtain ⟨h1,h2⟩:=g.cuts (xt:=xt) hl;refine ⟨h1,h2,fun b off n s e=> ?_⟩;rcases g with ⟨rfl,_⟩|⟨b',cs,rfl,q1,_⟩
 ·cases e
 ·cases e;exact q1
theorem ft146 (xt:Xt):(SE xt).ft.get 146=some Tryz.f146:=by kernel_rfl
theorem res146:Tryz.f146.results.toList=[.cell 4 124]:=by kernel_rfl
theorem then_c (xt:Xt) (h:Hp) (za zb:AV) (a b:Cg) (ha:Cuts xt h za a.1) (hb:Cuts xt h zb b.1) (ia:Inn za) (ib:Inn zb) (hl:a.1.length+b.1.length<=100000) (wa1:0<=a.2) (wa2:a.2<=1000000000) (wb1:0<=b.2) (wb2:b.2<=1000000000):
  FnA (SE xt) 146 [.agg [za,iv a.2],.agg [zb,iv b.2]] h (fun res h'=>Fr h.n h h'/\ ∃z,res= .ret (.agg [z,iv (a.2+b.2)])/\NewC xt h.n h' z (a.1++b.1)):=by
 refine xZQ (sok xt) (ft146 xt) rfl 17 rfl ?_;have c1:=ha.cells;have c2:=hb.cells;refine qA fun K hn hp=> ?_;simp only [sw.1,rE,reduceIte,rL,syp.1];apply hn;obtain ⟨h1,hh1,n1,s1,k1,f1⟩:=vQ h (.cells [za,iv a.2] 124);obtain ⟨h2,hh2,n2,s2,k2,f2⟩:=yJ f1 n1 (.cells [zb,iv b.2] 124);obtain ⟨h3,hh3,n3,s3,k3,f3⟩:=yJ f2 n2 (.cells [.val (.slice none 0 0),iv 0] 124);simp only [<-hh1,<-hh2,<-hh3];clear hh1 hh2 hh3;have u1:=(k3 h.n (by omega)).trans ((k2 h.n (by omega)).trans s1);have u2:=(k3 (h.n+1) (by omega)).trans s2;simp only [rA] at n3 s3;have w1:IntKind.i64.wrap (a.2+b.2)=a.2+b.2:=qG _ (by omega) (by omega);refine seq_regG (sok xt) 11 [4] [(5,[4])] [(7,0),(9,0)] (by kernel_rfl) fun K hn hp=> ?_;simp only [sy.1,rE,reduceIte,rL,rA,syw.1,syp.1,c1,c2,u1,u2,syg.1,xYV,jF,bs127,n3];obtain ⟨h4,hh4,n4,s4,k4,f4⟩:=vQ h3 (.cells [za,zb] 33);have e4:({t:=h3.t.put (some (.cells [za,zb] 33)) (h.n+3),n:=h.n+4}:Hp)=h4:=by rw [hh4];simp only [Hp.new,n3]
 rw [e4];rw [n3] at n4 s4 k4 f4;have f4h:Fr h.n h h4:=f3.trans f4 (by omega);have x1:=(k4 h.n (by omega)).trans u1;have x2:=(k4 (h.n+1) (by omega)).trans u2;refine cAS (FnA.inc (xZI (concat_c xt h4 (h.n+3) za zb a.1 b.1 s4 (by omega) (ha.fr f4h (xZY _)) (hb.fr f4h (xZY _)) ia ib hl) fun res j5 hres=> ?_));obtain ⟨fj,z,rfl,gj⟩:=hres;obtain ⟨h5,hh5⟩: ∃h5,h5=j5.up (j5.n+1):=⟨_,rfl⟩;rw [<-hh5];have f5:Fr h4.n h4 h5:=by rw [hh5];exact fj.up (xZT _)
 have lt5:h.n+4<h5.n:=by have:=fj.le;rw [hh5,xZH];omega
 have hz:NewC xt h4.n h5 z (a.1++b.1):=by
  have:=gj.newC (xt:=xt) (by rw [xYW];omega);rw [hh5];exact this.fr ((xZO (xZY _)).up (xZT _)) (xZY _)
 clear hh5;have cz:=hz.cuts.cells;have oz:=hz.cuts.one;have y1:=(f5.at_ h.n (.inl (by omega))).trans x1;have y2:=(f5.at_ (h.n+1) (.inl (by omega))).trans x2;have y3:=(f5.at_ (h.n+2) (.inl (by omega))).trans ((k4 (h.n+2) (by omega)).trans s3);simp only [sw.1,rE,reduceIte,rL,rA,syp.1,u1,u2,wI lt5,y1,y2,y3,w1,syg.1,bd125,cz,oz];refine hn _ _ (qC (bX (v:= .agg [z,iv (a.2+b.2)]) res146 ?_ ⟨(f4h.trans f5 (by omega)).set (by omega) (by omega) _,z,rfl,(hz.set (by omega) _).lower (by omega)⟩));simp only [sy.1,rE,reduceIte,rA,syp.1]
abbrev Mem:=List (Int×AV×Cg)
def mks (l:Mem):List (AV×AV):=l.map fun p=>(iv p.1,.agg [p.2.1,iv p.2.2.2])
def pI (x:Int):Mem->Nat->Option Nat
 |[],_=>none
 |y::l,i=>if x=y.1 then some i else pI x l (i+1)
theorem qAb {x:Int}: ∀{l:Mem} {i j:Nat},pI x l i=some j-> ∃k e,j=i+k/\l[k]? =some (x,e)
 |[],i,j,h=>by simp [pI] at h
 |y::l,i,j,h=>by
  simp only [pI] at h;split at h
  ·rename_i hq;cases h;exact ⟨0,y.2,rfl,by simp [hq]⟩
  ·obtain ⟨k,e,h1,h2⟩:=qAb h;exact ⟨k+1,e,by omega,by simpa using h2⟩
abbrev kI (l:Mem):List Value:=l.map fun p=> .int .i64 p.1
theorem qAB: ∀(l:Mem),pV (mks l)=some (kI l)
 |[]=>rfl
 |p::l=>by
  show (match toVal (iv p.1) with|none=>none|some v=>match pV (mks l) with|none=>none|some l=>some (v::l))=_;rw [qAB l];rfl
theorem undI3:qO Tryz.prog (underlying 3)=some (.int .i64):=by kernel_rfl
theorem now3 (x:Int): ∀(l:Mem) (i:Nat),Instr.findNow (.int .i64) (.int .i64 x) (kG (kI l)) i=some ((pI x l i).map fun j=>(j,.bool false))
 |[],i=>rfl
 |y::l,i=>by
  show (match Instr.sameNow (.int .i64) (.int .i64 x) (.int .i64 y.1) with|some true=>some (some (i,Value.bool false))|some false=>Instr.findNow (.int .i64) (.int .i64 x) (kG (kI l)) (i+1)|none=>none)=_;have e:Instr.sameNow (.int .i64) (.int .i64 x) (.int .i64 y.1)=some (x==y.1):=rfl;rw [e,now3 x l (i+1)];by_cases h:x=y.1
  ·simp [h,pI]
  ·have:(x==y.1)=false:=by simpa using h
   rw [this];simp [h,pI]
theorem afind3 (x:Int) (l:Mem):qBR Tryz.prog 3 (.int .i64 x) (kI l)=some (pI x l 0):=by
 have key:qO Tryz.prog (Instr.findKey 3 (.int .i64 x) (kG (kI l)))=some ((pI x l 0).map fun j=>(j,.bool false)):=by
  unfold Instr.findKey;rw [zL,undI3,xXW];rw [now3];simp [jY]
 unfold qBR;rw [key];cases pI x l 0<;>rfl
theorem check3 (e:Bool) (x:Int):qO Tryz.prog (Instr.checkKey e 10000 3 (.int .i64 x))=some ():=by
 rw [Instr.checkKey];simp only [zL,undI3,xXW,jY]
theorem zv125:te124.zv= .agg #[.slice none 0 0,.int .i64 0]:=rfl
abbrev z125:AV:= .val (.agg #[.slice none 0 0,.int .i64 0])
theorem mem_look (h:Hp) (mb:Nat) (l:Mem) (hm:h.t.get mb=some (.map (mks l))) (x:Int):
  (xM Tryz.prog tb h 241 (.mp mb) (iv x) true=some (.tup [z125,.val (.bool false)]))\/(∃e,(x,e)∈l/\xM Tryz.prog tb h 241 (.mp mb) (iv x) true=some (.tup [.agg [e.1,iv e.2.2],.val (.bool true)])):=by
 have e1:te241.d= .map 3 124:=rfl;have e3:toVal (iv x)=some (.int .i64 x):=rfl;have base: ∀r,qBR Tryz.prog 3 (.int .i64 x) (kI l)=some r->xM Tryz.prog tb h 241 (.mp mb) (iv x) true=(match r with|none=>some (.tup [z125,.val (.bool false)])|some i=>match (mks l)[i]? with|none=>none|some (_,v)=>some (.tup [v,.val (.bool true)])):=fun r hr=>by
  unfold xM;simp only [qDB,e1,qBC,e3,qDg,hm,qAB,check3,hr,zv125];cases r with
  |none=>rfl
  |some i=>
   simp only [cond_true];generalize (mks l)[i]? =o
   cases o<;>rfl
 have hb:=base _ (afind3 x l);cases hk:pI x l 0 with
 |none=>rw [hk] at hb;exact .inl hb
 |some i=>
  rw [hk] at hb;obtain ⟨k,e,rfl,h2⟩:=qAb hk;rw [xXX] at hb;have:(mks l)[k]? =some (iv x,.agg [e.1,iv e.2.2]):=by simp [mks,h2]
  simp only [this] at hb;exact .inr ⟨e,xZL h2,hb⟩
theorem mem_put (h:Hp) (mb:Nat) (l:Mem) (hm:h.t.get mb=some (.map (mks l))) (x:Int) (z:AV) (c:Cg):
  ∃l',zF Tryz.prog tb h 241 (.mp mb) (iv x) (.agg [z,iv c.2])=some (h.set mb (.map (mks l')))/\ ∀p∈l',p∈l\/p=(x,z,c):=by
 have e1:te241.d= .map 3 124:=rfl;have e3:toVal (iv x)=some (.int .i64 x):=rfl;have hf:=afind3 x l;cases hk:pI x l 0 with
 |none=>
  rw [hk] at hf;refine ⟨l++[(x,z,c)],?_,fun p hp=> ?_⟩
  ·unfold zF;simp only [qDB,e1,e3,hm,qAB,check3,hf];simp [mks]
  ·rcases xYP.1 hp with hp|hp
   ·exact .inl hp
   ·rw [xZN] at hp;exact .inr hp
 |some i=>
  rw [hk] at hf;obtain ⟨k,e,rfl,h2⟩:=qAb hk;rw [xXX] at hf;have hkv:(kI l)[k]? =some (.int .i64 x):=by rw [xZR,h2];rfl
  have hsb:Instr.sameBits 10000 (.int .i64 x) (.int .i64 x)=true:=by simp [Instr.sameBits]
  refine ⟨l.set k (x,z,c),?_,fun p hp=> ?_⟩
  ·unfold zF;simp only [qDB,e1,e3,hm,qAB,check3,hf,hkv,hsb];simp [mks,List.map_set]
  ·rcases List.mem_or_eq_of_mem_set hp with hp|rfl
   ·exact .inl hp
   ·exact .inr rfl
structure Wk.Bd (w:Wk) (xt:Xt) (h:Hp) (N M:Nat) (v:AV) (G:Th.Grid):Prop where
 at_:w.At xt h
 sg:SG h N M v w.m.cells.length w.m.W G
 hM:M<=h.n
theorem Wk.Bd.fr {w:Wk} {xt:Xt} {h h':Hp} {N M:Nat} {v:AV} {G:Th.Grid} (a:w.Bd xt h N M v G) {n:Nat} (f:Fr n h h') (hn:h.n<=n):w.Bd xt h' N M v G:=⟨a.at_.fr f hn,a.sg.fr f (xYN a.hM hn),xYN a.hM f.le⟩
def Wk.lv (w:Wk) (G:Th.Grid) (s:Int×Int×Int):Int:=(w.tb s.2.2.toNat).2.2*w.give (gLo G) s
def Wk.sel (w:Wk) (wd:Nat) (s:Int×Int×Int):Bool:=decide ((w.tb s.2.2.toNat).1=(wd:Int)) && w.pcan s
theorem Wk.Is.lv_bd {w:Wk} (his:w.Is) {G:Th.Grid} (hb:w.m.bnd=some G) {s:Int×Int×Int} (hs:w.Blk s):0<=w.lv G s/\w.lv G s<=6500:=by
 have hpos:=qEW his.m hb;have g1:=qEJ his (fun r c _ _=>(hpos r c).1) hs;obtain ⟨r0,c0,q,n,th,wo,rfl,ht,hrn,hcn⟩:=hs;have w1:=ht.w1;have w2:=ht.w100;simp only [Wk.lv,xZC,ht.tb];have p1:0<=wo*w.give (gLo G) ((r0:Int),(c0:Int),(q:Int)):=Int.mul_nonneg (by omega) g1.1;have p2:wo*w.give (gLo G) ((r0:Int),(c0:Int),(q:Int))<=100*65:=Int.mul_le_mul w2 g1.2 g1.1 (by omega);exact ⟨p1,p2⟩
theorem seq_label {E:Env} {r:Option Nat} {l:Nat} {b:Code} {st:St} {Q:Ex->St->Prop} (hw:wpc E r b st Q):wpc E r (.seq (.label l) b) st Q:=hw
theorem bd61 (a b c:Int):zE tb 61 [(0,iv a),(1,iv b),(2,iv c)]=some (.agg [iv a,iv b,iv c]):=by kernel_rfl
theorem ft210 (xt:Xt):(SE xt).ft.get 210=some Tryz.f210:=by kernel_rfl
theorem res210:Tryz.f210.results.toList=[]:=by kernel_rfl
theorem qBu (xt:Xt) (h:Hp) (w:Wk) (his:w.Is) (N M:Nat) (v:AV) (G:Th.Grid) (hb:w.m.bnd=some G) (l pb pr pc pw row col wd:Nat) (I:Nat->Hp->Prop) (S:Hp->Prop) (h0:I 0 h)
  (hmem: ∀k h',I k h'->w.Bd xt h' N M v G/\h'.t.get pb=some (.cells (w.bc v) 120)/\h'.t.get pr=some (.cells [iv row] 3)/\h'.t.get pc=some (.cells [iv col] 3)/\h'.t.get pw=some (.cells [iv wd] 3))
  (hlt: ∀k h',I k h'->pb<h'.n/\pr<h'.n/\pc<h'.n/\pw<h'.n)
  (hfr: ∀k h' h'',I k h'->Fr h'.n h' h''->I k h'')
  (hskip: ∀k h',k<w.ts.length->w.sel wd ((row:Int),(col:Int),(k:Int))=false->I k h'->I (k+1) h')
  (hY: ∀k,k<w.ts.length->w.sel wd ((row:Int),(col:Int),(k:Int))=true->qCg (SE xt) (.yld l) [bI ((row:Int),(col:Int),(k:Int)),iv (w.lv G ((row:Int),(col:Int),(k:Int)))] (I k) (I (k+1)) S):
  FnA (SE xt) 210 [.yld l,.ptr pb 0,.ptr pr 0,.ptr pc 0,.ptr pw 0] h (fun res h'=>(∃v,res= .ret v)/\(I w.ts.length h'\/S h')):=by
 refine xZQ (sok xt) (ft210 xt) rfl 44 rfl ?_;obtain ⟨b0,e0,e1,e2,e3⟩:=hmem _ _ h0;obtain ⟨o1,o2,o3,o4,o5⟩:=b0.at_.ones;have onev:=b0.sg.one;have hlen:=b0.at_.len;have t4:=his.t4;have t0:=his.t0;have r6:=his.m.r6;have c8:=his.m.c8;refine seq_label (l:=0) ?_;refine qA fun K hn hp=> ?_;simp only [sw.1,rE,reduceIte,rL,rA,syw.1,hlen,e0];apply hn;refine qZ fun KA A1 A2 A3 A4 A5=> ?_;refine qM (sok xt) (fun st=> ∃(k:Nat) (hg:Hp) (tm:T AV),st=⟨tm,44,hg,[]⟩/\k<=w.ts.length/\tm.get 0=some (.yld l)/\tm.get 1=some (.ptr pb 0)/\tm.get 2=some (.ptr pr 0)/\tm.get 3=some (.ptr pc 0)/\tm.get 4=some (.ptr pw 0)/\tm.get 11=some (w.vt)/\tm.get 12=some (iv (w.ts.length:Int))/\tm.get 13=some (iv k)/\I k hg) (fun st=>w.ts.length - (match st.tm.get 13 with|some (.val (.int _ n))=>n.toNat|_=>0)) ?_ ?_
 ·rintro st ⟨k,hg,tm,rfl,hkA,g0,g1,g2,g3,g4,g11,g12,g13,hI⟩;have muA:=g13;refine qA fun K hn hp=> ?_;simp only [sy.1,rL,qV,g12,g13];apply hn;by_cases hk:k<w.ts.length
  ·refine jC (by simp only [sy.1,reduceIte,hk]) ?_;obtain ⟨n,th,wo,ht⟩:=his.tub hk;have hx:=ht.at_;obtain ⟨bg,e0,e1,e2,e3⟩:=hmem _ _ hI;obtain ⟨l0,l1,l2,l3⟩:=hlt _ _ hI;have i1:=bg.at_.ts.idx qAn rfl yF rfl (i:=k) (by simpa using hk) (k:= .i64);have i2:=bg.at_.ts.loadA yF rfl rfl (i:=k) (c:=Kn.t3 ((n:Int),th,wo)) (by rw [xZR,hx];rfl);simp only [Kn.t3,xZD,xYX] at i2;refine qD fun KB B1 B2 B3 B4 B5=> ?_;refine qA fun K hn hp=> ?_;simp only [sw.1,rE,reduceIte,rL,rA,al90,g11,g13,i1,i2];obtain ⟨h5,hh5,n5,s5,k5,f5⟩:=nsE hg (.cells [iv 0,iv 0,iv 0] 130) (.cells [iv (n:Int),iv th,iv wo] 130);rw [<-hh5];apply hn;clear hh5;have x1:=(k5 pr l1).trans e1;have x2:=(k5 pc l2).trans e2;refine qA fun K hn hp=> ?_;simp only [sw.1,rE,reduceIte,rL,rA,al61,g2,g3,x1,x2,bd61];obtain ⟨h6,hh6,n6,s6,k6,f6⟩:=nsE h5 (.cells [iv 0,iv 0,iv 0] 61) (.cells [iv (row:Int),iv (col:Int),iv (k:Int)] 61);rw [n5] at n6 s6 k6;rw [<-hh6];apply hn;clear hh6;have f6g:Fr hg.n hg h6:=f5.trans f6 (by omega);have y0:=(f6g.at_ pb (.inl l0)).trans e0;have y3:=(f6g.at_ pw (.inl l3)).trans e3;have y5:=(k6 hg.n (by omega)).trans s5;have b6:=bg.fr f6g (xZY _);have hsel:w.sel wd ((row:Int),(col:Int),(k:Int))=(decide ((n:Int)=(wd:Int)) && w.m.pcan w.m.cells.length w.m.W n (row:Int) (col:Int)):=by
    simp [Wk.sel,ht.tb,Wk.pcan_q ht]
   refine jK ?_;by_cases e:(n:Int)=(wd:Int)
   ·have d:decide ((n:Int)=(wd:Int))=true:=decide_eq_true e;refine qA fun K hn hp=> ?_;simp only [sy.1,rE,reduceIte,rL,rA,rD,g1,g4,y0,y3,y5,s6,n5,d];refine cAS (can_c xt h6 w b6.at_ _ _ his.m his.rc (row:Int) (col:Int) k n th wo hx ht.n3 fun m1 hm1=> ?_);cases hc:w.m.pcan w.m.cells.length w.m.W n (row:Int) (col:Int)
    ·simp only [sy.1,rE,reduceIte,rL];apply hn;refine qW (by simp only [sy.1,rE,reduceIte]) ?_;refine qL (B2 _ ?_);refine reg fun K hn hp=> ?_;simp only [sy.1,rE,reduceIte,rL,g13,qF hk (show w.ts.length<=9223372036854775807 by omega)];apply hn;refine ⟨⟨k+1,h6.up m1,_,rfl,by omega,(by simp [xZZ,g0]),(by simp [xZZ,g1]),(by simp [xZZ,g2]),(by simp [xZZ,g3]),(by simp [xZZ,g4]),(by simp [xZZ,g11]),(by simp [xZZ,g12]),(by simp [xZZ]),hskip k _ hk (by rw [hsel,hc,Bool.and_false]) (hfr k hg _ hI (f6g.up (xZP hm1)))⟩,by simpa [xZZ,muA] using (by omega:w.ts.length - (k+1)<w.ts.length - k)⟩
    ·simp only [sy.1,rE,reduceIte,rL];apply hn;refine jB (by simp only [sy.1,rE,reduceIte]) ?_;have hs:w.sel wd ((row:Int),(col:Int),(k:Int))=true:=by rw [hsel,hc,d];rfl
     obtain ⟨r0,c0,er,ec,hrn,hcn⟩:=Wk.pcan_in ht (a:=(row:Int)) (b:=(col:Int)) (by rw [Wk.pcan_q ht];exact hc);obtain rfl:row=r0:=by omega
     obtain rfl:col=c0:=by omega
     have hpos:=qEW his.m hb;have hlv:w.lv G ((row:Int),(col:Int),(k:Int))=wo*w.give (gLo G) ((row:Int),(col:Int),(k:Int)):=by simp only [Wk.lv,xZC,ht.tb]
     have hbd:=his.lv_bd hb (s:=((row:Int),(col:Int),(k:Int))) ⟨_,_,_,n,th,wo,rfl,ht,hrn,hcn⟩;rw [hlv] at hbd;have b7:=b6.fr ((xZO (xZY _)).up (xZP hm1)) (xZY _);refine jL (sok xt) 0 0 8 [(1,1),(1,2),(2,1),(3,1)] (by kernel_rfl) fun K hn hp=> ?_;simp only [sy.1,rE,reduceIte,rL,rA,syw.1,g0,g1,y0,s6];refine cAS (least_c xt (h6.up m1) w b7.at_ v G N M _ _ b7.sg b7.hM row col k n th wo ht.at_ (by omega) (by omega) hrn hcn ht.n3 ht.n1 his.k0 his.k5 ht.h1 ht.h60 (fun i _ j _=>(hpos _ _).1) fun m2 hm2=> ?_);simp only [xZH] at hm2;rw [<-Wk.give_q ht];simp only [sy.1,rE,reduceIte,rL,rA,syw.1,xYL,hm2];refine cAS (value_c xt (h6.up m2) w (b6.at_.up (by omega)) v onev (row:Int) (col:Int) k n th wo ht.at_ (w.give (gLo G) ((row:Int),(col:Int),(k:Int))) (by omega) (by omega) fun m3 hm3=> ?_);simp only [xZH] at hm3;simp only [sy.1,rE,reduceIte,rL,rA,syw.1,g1,y0,s6,xYL,hm3];rw [<-hlv];refine (hY k hk hs (h6.up m3) (hfr k hg _ hI (f6g.up (by omega)))).mono ?_;rintro res h7 (⟨rfl,hI7⟩|⟨rfl,hS⟩)
     ·simp only [sy.1,rE,reduceIte,rL];apply hn;refine wcF (by simp only [sy.1,rE,reduceIte]) ?_;refine qR (B1 _ ?_);refine reg fun K hn hp=> ?_;simp only [sy.1,rE,reduceIte,rL,g13,qF hk (show w.ts.length<=9223372036854775807 by omega)];apply hn;refine ⟨⟨k+1,h7,_,rfl,by omega,(by simp [xZZ,g0]),(by simp [xZZ,g1]),(by simp [xZZ,g2]),(by simp [xZZ,g3]),(by simp [xZZ,g4]),(by simp [xZZ,g11]),(by simp [xZZ,g12]),(by simp [xZZ]),hI7⟩,by simpa [xZZ,muA] using (by omega:w.ts.length - (k+1)<w.ts.length - k)⟩
     ·simp only [sy.1,rE,reduceIte,rL];apply hn;refine wcT (by simp only [sy.1,rE,reduceIte]) ?_;refine qC (B4 _ (A4 _ ⟨_,[],rfl,by rw [res210];rfl,⟨_,rfl⟩,.inr hS⟩))
   ·have d:decide ((n:Int)=(wd:Int))=false:=decide_eq_false e;refine qA fun K hn hp=> ?_;simp only [sy.1,rE,reduceIte,rL,g4,y3,y5,n5,d];apply hn;refine qW (by simp only [sy.1,rE,reduceIte]) ?_;refine qL (B2 _ ?_);refine reg fun K hn hp=> ?_;simp only [sy.1,rE,reduceIte,rL,g13,qF hk (show w.ts.length<=9223372036854775807 by omega)];apply hn;refine ⟨⟨k+1,h6,_,rfl,by omega,(by simp [xZZ,g0]),(by simp [xZZ,g1]),(by simp [xZZ,g2]),(by simp [xZZ,g3]),(by simp [xZZ,g4]),(by simp [xZZ,g11]),(by simp [xZZ,g12]),(by simp [xZZ]),hskip k _ hk (by rw [hsel,d,Bool.false_and]) (hfr k hg _ hI f6g)⟩,by simpa [xZZ,muA] using (by omega:w.ts.length - (k+1)<w.ts.length - k)⟩
  ·refine jD (by simp only [sy.1,reduceIte,hk]) ?_;refine qL (A2 _ ?_);obtain rfl:k=w.ts.length:=by omega
   exact ⟨_,[],rfl,by rw [res210];rfl,⟨_,rfl⟩,.inl hI⟩
 ·exact ⟨0,h,_,rfl,(by omega),(by simp [xZZ]),(by simp [xZZ]),(by simp [xZZ]),(by simp [xZZ]),(by simp [xZZ]),(by simp [xZZ]),(by simp [xZZ]),(by simp [xZZ]),h0⟩
theorem ft169 (xt:Xt):(SE xt).ft.get 169=some Tryz.f169:=by kernel_rfl
theorem res169:Tryz.f169.results.toList=[.tmp 8]:=by kernel_rfl
theorem qC5 (xt:Xt) (h:Hp) (w:Wk) (ha:w.At xt h) (v:AV) (onev:Go.Ev.one v=true) (row wd col:Int) {K:KP}
  (hk:K (.ret (.fn (.func 210) [] [.ptr h.n 0,.ptr (h.n+1) 0,.ptr (h.n+3) 0,.ptr (h.n+2) 0])) ((((h.new (.cells (w.bc v) 120)).new (.cells [iv row] 3)).new (.cells [iv wd] 3)).new (.cells [iv col] 3))):FnA (SE xt) 169 [.agg (w.bc v),iv row,iv wd,iv col] h K:=by
 refine xZQ (sok xt) (ft169 xt) rfl 10 rfl ?_;obtain ⟨o1,o2,o3,o4,o5⟩:=ha.ones;refine qA fun K hn hp=> ?_;simp only [sw.1,rE,reduceIte,rL,rA];apply hn;refine qA fun K hn hp=> ?_;simp only [sy.1,rE,reduceIte,rL];apply hn;refine qC (qH res169 ?_);simpa [xZZ] using hk
def gD (c0:Cg) (l:List Cg):Cg:=l.foldl (fun out y=>if bet y out=true then y else out) c0
theorem qF3 (e0:AV×Cg) (l:List (AV×Cg)):(xE e0 l).2=gD e0.2 (l.map Prod.snd):=by
 unfold xE gD;induction l generalizing e0 with
 |nil=>rfl
 |cons e l ih=>
  simp only [List.foldl_cons,xZD];rw [ih];split<;>rfl
theorem qAX {c0:Cg} {l:List Cg}:gD c0 l=c0\/gD c0 l∈l:=by
 unfold gD;induction l generalizing c0 with
 |nil=>exact .inl rfl
 |cons c l ih=>
  simp only [List.foldl_cons];rcases ih (c0:=if bet c c0=true then c else c0) with h|h
  ·rw [h];split
   ·exact .inr xZB
   ·exact .inl rfl
  ·exact .inr (xYZ _ h)
abbrev Wk.blkK (row col:Nat) (k:Nat):Int×Int×Int:=((row:Int),(col:Int),(k:Int))
def Wk.selTo (w:Wk) (wd row col k:Nat):List (Int×Int×Int):=((List.range k).map (Wk.blkK row col)).filter (w.sel wd)
theorem Wk.selTo_succ (w:Wk) (wd row col k:Nat):w.selTo wd row col (k+1)=w.selTo wd row col k++if w.sel wd (Wk.blkK row col k)=true then [Wk.blkK row col k] else []:=by
 simp only [Wk.selTo,List.range_succ,xYY,xXU,xZD,xYX,xYI,xYD]
def Wk.bandP (w:Wk) (G:Th.Grid) (row wd:Nat):Nat->Cg
 |0=>([],0)
 |m+1=>gD (Wk.bandP w G row wd m) (Wk.bandP w G row wd m::(w.selTo wd row (w.m.W - (m+1)) w.ts.length).map fun s=>(s::(Wk.bandP w G row wd (m - (wd - 1))).1,w.lv G s+(Wk.bandP w G row wd (m - (wd - 1))).2))
termination_by m=>m
decreasing_by all_goals omega
def Wk.cnd (w:Wk) (G:Th.Grid) (row wd m k:Nat):List Cg:=Wk.bandP w G row wd m::(w.selTo wd row (w.m.W - (m+1)) k).map fun s=>(s::(Wk.bandP w G row wd (m - (wd - 1))).1,w.lv G s+(Wk.bandP w G row wd (m - (wd - 1))).2)
theorem Wk.bandP_succ (w:Wk) (G:Th.Grid) (row wd m:Nat):w.bandP G row wd (m+1)=gD (w.bandP G row wd m) (w.cnd G row wd m w.ts.length):=by rw [Wk.bandP];rfl
theorem Wk.bandP_zero (w:Wk) (G:Th.Grid) (row wd:Nat):w.bandP G row wd 0=([],0):=by rw [Wk.bandP]
theorem Wk.cnd_succ (w:Wk) (G:Th.Grid) (row wd m k:Nat):w.cnd G row wd m (k+1)=w.cnd G row wd m k++if w.sel wd (Wk.blkK row (w.m.W - (m+1)) k)=true then [(Wk.blkK row (w.m.W - (m+1)) k::(w.bandP G row wd (m - (wd - 1))).1,w.lv G (Wk.blkK row (w.m.W - (m+1)) k)+(w.bandP G row wd (m - (wd - 1))).2)] else []:=by
 simp only [Wk.cnd,Wk.selTo_succ,xYY,xXS];split<;>rfl
theorem Wk.Is.selBlk {w:Wk} (his:w.Is) {wd row col k:Nat} (hk:k<w.ts.length) (hs:w.sel wd (Wk.blkK row col k)=true):w.Blk (Wk.blkK row col k)/\row+wd<=w.m.cells.length/\col+wd<=w.m.W/\1<=wd/\wd<=3:=by
 obtain ⟨n,th,wo,ht⟩:=his.tub hk;simp only [Wk.sel,Wk.blkK,Bool.and_eq_true,decide_eq_true_eq,xZC,ht.tb] at hs;obtain ⟨r0,c0,er,ec,hr,hc⟩:=Wk.pcan_in ht hs.2;obtain rfl:row=r0:=by omega
 obtain rfl:col=c0:=by omega
 obtain rfl:n=wd:=by omega
 exact ⟨⟨_,_,_,n,th,wo,rfl,ht,hr,hc⟩,hr,hc,ht.n1,ht.n3⟩
theorem Wk.selTo_mem {w:Wk} {wd row col k:Nat} {s:Int×Int×Int} (hs:s∈w.selTo wd row col k): ∃j,j<k/\s=Wk.blkK row col j/\w.sel wd s=true:=by
 obtain ⟨h1,h2⟩:=xYE.1 hs;obtain ⟨j,hj,rfl⟩:=xZK.1 h1;exact ⟨j,List.mem_range.1 hj,rfl,h2⟩
theorem Wk.Is.bandP_bd {w:Wk} (his:w.Is) {G:Th.Grid} (hb:w.m.bnd=some G) (row wd:Nat): ∀m,(w.bandP G row wd m).1.length<=m/\0<=(w.bandP G row wd m).2/\(w.bandP G row wd m).2<=6500*m:=by
 intro m;induction m using xYO with
 |ind m ih=>
 cases m with
 |zero=>rw [Wk.bandP_zero];simp
 |succ m=>
  have i1:=ih m (by omega);have i2:=ih (m - (wd - 1)) (by omega);have key: ∀c∈w.cnd G row wd m w.ts.length,c.1.length<=m+1/\0<=c.2/\c.2<=6500*((m+1:Nat):Int):=by
   intro c hc;rcases xYA.1 hc with rfl|hc
   ·omega
   ·obtain ⟨s,hs,rfl⟩:=xZK.1 hc;obtain ⟨j,hj,rfl,hsel⟩:=Wk.selTo_mem hs;obtain ⟨b1,b2,b3,b4,b5⟩:=his.selBlk hj hsel;have l1:=his.lv_bd hb b1;simp only [xZA];omega
  rw [Wk.bandP_succ];rcases qAX (c0:=w.bandP G row wd m) (l:=w.cnd G row wd m w.ts.length) with e|e
  ·rw [e];omega
  ·exact key _ e
structure CgAt (xt:Xt) (Own:Nat->Prop) (h:Hp) (z:AV) (l:List (Int×Int×Int)):Prop where
 cuts:Cuts xt h z l
 inn:Inn z
 av: ∀b off n s,z= .sl b off n s-> ¬Own b
theorem CgAt.keep {xt:Xt} {Own:Nat->Prop} {h h':Hp} {z:AV} {l:List (Int×Int×Int)} (a:CgAt xt Own h z l) (hn:h.n<=h'.n) (hk: ∀b,b<h.n-> ¬Own b->h'.t.get b=h.t.get b):CgAt xt Own h' z l:=
 ⟨⟨a.cuts.row.keepB hn fun b off n s e hb=>hk b hb (a.av b off n s e),a.cuts.lt,a.cuts.cap⟩,a.inn,a.av⟩
theorem CgAt.more {xt:Xt} {Own:Nat->Prop} {h:Hp} {z:AV} {l:List (Int×Int×Int)} (a:CgAt xt Own h z l) (X:Nat->Prop) (hX: ∀b,X b->h.n<=b):CgAt xt (fun b=>Own b\/X b) h z l:=
 ⟨a.cuts,a.inn,fun b off n s e=>by
  rintro (h1|h1)
  ·exact a.av b off n s e h1
  ·have:=a.cuts.row.lt e;have:=hX b h1;omega⟩
theorem CgAt.less {xt:Xt} {Own Own':Nat->Prop} {h:Hp} {z:AV} {l:List (Int×Int×Int)} (a:CgAt xt Own h z l) (hO: ∀b,Own' b->Own b):CgAt xt Own' h z l:=⟨a.cuts,a.inn,fun b off n s e hb=>a.av b off n s e (hO b hb)⟩
theorem NewC.cg {xt:Xt} {N:Nat} {h:Hp} {z:AV} {l:List (Int×Int×Int)} (a:NewC xt N h z l) {Own:Nat->Prop} (hO: ∀b,Own b->b<N):CgAt xt Own h z l:=⟨a.cuts,a.inn,fun b off n s e hb=>by have:=a.lo b off n s e;have:=hO b hb;omega⟩
theorem CgAt.nil {xt:Xt} {Own:Nat->Prop} {h:Hp}:CgAt xt Own h (.val (.slice none 0 0)) []:=⟨Cuts.nil,fun _ _ _ e=>(by cases e),fun _ _ _ _ e _=>(by cases e)⟩
def MI (xt:Xt) (Own:Nat->Prop) (h:Hp) (P:Int->Cg) (l:Mem):Prop:= ∀e∈l,CgAt xt Own h e.2.1 e.2.2.1/\e.2.2=P e.1
theorem MI.keep {xt:Xt} {Own:Nat->Prop} {h h':Hp} {P:Int->Cg} {l:Mem} (a:MI xt Own h P l) (hn:h.n<=h'.n) (hk: ∀b,b<h.n-> ¬Own b->h'.t.get b=h.t.get b):MI xt Own h' P l:=fun e he=>⟨(a e he).1.keep hn hk,(a e he).2⟩
theorem MI.more {xt:Xt} {Own:Nat->Prop} {h:Hp} {P:Int->Cg} {l:Mem} (a:MI xt Own h P l) (X:Nat->Prop) (hX: ∀b,X b->h.n<=b):MI xt (fun b=>Own b\/X b) h P l:=fun e he=>⟨(a e he).1.more X hX,(a e he).2⟩
theorem MI.less {xt:Xt} {Own Own':Nat->Prop} {h:Hp} {P:Int->Cg} {l:Mem} (a:MI xt Own h P l) (hO: ∀b,Own' b->Own b):MI xt Own' h P l:=fun e he=>⟨(a e he).1.less hO,(a e he).2⟩
abbrev slv (b:Nat):AV:= .fn (.func 190) [] [.ptr b 0,.ptr (b+5) 0,.ptr (b+6) 0,.ptr (b+1) 0,.ptr (b+2) 0]
structure BEnv (w:Wk) (hb:Hp) (v:AV) (row wd:Nat) (h:Hp):Prop where
 fr:Fr hb.n hb h
 q1:h.t.get hb.n=some (.cells (w.bc v) 120)
 q4:h.t.get (hb.n+1)=some (.cells [iv (row:Int)] 3)
 q5:h.t.get (hb.n+2)=some (.cells [iv (wd:Int)] 3)
 q2:h.t.get (hb.n+5)=some (.cells [.mp (hb.n+4)] 241)
 q3:h.t.get (hb.n+6)=some (.cells [slv hb.n] 125)
 lt:hb.n+7<=h.n
theorem BEnv.frM {w:Wk} {hb:Hp} {v:AV} {row wd:Nat} {h h':Hp} {M:Nat->Prop} {m:Nat} (a:BEnv w hb v row wd h) (f:FrM M m h h') (hm:hb.n+7<=m) (hM: ∀k,M k->(k=hb.n+4\/hb.n+7<=k)/\k<h.n):BEnv w hb v row wd h':=by
 have l1:=f.le;have l2:=a.lt;have hk: ∀b,b<hb.n+7->b≠hb.n+4->h'.t.get b=h.t.get b:=fun b h1 h2=>f.get (by omega) fun h3=>by have:=hM b h3;omega
 refine ⟨f.toFr a.fr (by omega) fun k hk=> ?_,?_,?_,?_,?_,?_,by omega⟩
 ·have:=hM k hk;omega
 ·rw [hk _ (by omega) (by omega)];exact a.q1
 ·rw [hk _ (by omega) (by omega)];exact a.q4
 ·rw [hk _ (by omega) (by omega)];exact a.q5
 ·rw [hk _ (by omega) (by omega)];exact a.q2
 ·rw [hk _ (by omega) (by omega)];exact a.q3
theorem BEnv.fr' {w:Wk} {hb:Hp} {v:AV} {row wd:Nat} {h h':Hp} (a:BEnv w hb v row wd h) (f:Fr h.n h h'):BEnv w hb v row wd h':=a.frM (M:=fun _=>False) (FrM.of f) a.lt (fun _ h=>h.elim)
theorem FrM.join {M M':Nat->Prop} {n m:Nat} {h h1 h2:Hp} (f:FrM M n h h1) (g:FrM M' m h1 h2) (hn:n<=m) (hM: ∀k,M' k->M k\/(n<=k/\k<h1.n)):FrM M n h h2:=by
 refine ⟨xYN hn g.lo,xYN f.le g.le,fun k hk hk2=> ?_⟩;have:=f.lo;have:=g.le;have:=g.lo;rw [g.at_ k (by omega) (fun q=>by rcases hM k q with q|q;exact hk2 q;omega),f.at_ k (by omega) hk2]
theorem MI.fr {xt:Xt} {Own:Nat->Prop} {h h':Hp} {P:Int->Cg} {l:Mem} (a:MI xt Own h P l) {n:Nat} (f:Fr n h h') (hn:h.n<=n):MI xt Own h' P l:=a.keep f.le fun b hb _=>f.at_ b (.inl (by omega))
theorem CgAt.fr {xt:Xt} {Own:Nat->Prop} {h h':Hp} {z:AV} {l:List (Int×Int×Int)} (a:CgAt xt Own h z l) {n:Nat} (f:Fr n h h') (hn:h.n<=n):CgAt xt Own h' z l:=a.keep f.le fun b hb _=>f.at_ b (.inl (by omega))
theorem MI.frM {xt:Xt} {Own:Nat->Prop} {h h':Hp} {P:Int->Cg} {l:Mem} (a:MI xt Own h P l) {n:Nat} {M:Nat->Prop} (f:FrM M n h h') (hn:h.n<=n) (hM: ∀k,M k->k<h.n->Own k):MI xt Own h' P l:=a.keep f.le fun b hb ho=>f.get (by omega) fun q=>ho (hM b q hb)
theorem CgAt.frM {xt:Xt} {Own:Nat->Prop} {h h':Hp} {z:AV} {l:List (Int×Int×Int)} (a:CgAt xt Own h z l) {n:Nat} {M:Nat->Prop} (f:FrM M n h h') (hn:h.n<=n) (hM: ∀k,M k->k<h.n->Own k):CgAt xt Own h' z l:=a.keep f.le fun b hb ho=>f.get (by omega) fun q=>ho (hM b q hb)
theorem CRows.keepC {xt:Xt} {h h':Hp} {N:Nat} {v:AV} {es:List (AV×Cg)} (r:CRows xt h N v es) (hn:h.n<=h'.n) (hk: ∀b cs,b<h.n->h.t.get b=some (.cells cs 124)->h'.t.get b=h.t.get b) (hc: ∀e∈es,Cuts xt h' e.1 e.2.1):CRows xt h' N v es:=by
 refine ⟨?_,fun e he=>⟨hc e he,(r.at_ e he).2⟩⟩;rcases r.own with o|⟨b,h1,h2,h3,h4,h5⟩
 ·exact .inl o
 ·exact .inr ⟨b,h1,h2,by omega,(hk b _ h3 h4).trans h4,h5⟩
theorem bs33 (h:Hp) (a b c:Int):jN tb h 33 1 [(0,.agg [iv a,iv b,iv c])]=some (.sl h.n 0 1 3,h.new (.cells [iv a,iv b,iv c] 61)):=by kernel_rfl
theorem bd125s (b:Nat) (x:Int):zE tb 124 [(0,.sl b 0 1 3),(1,iv x)]=some (.agg [.sl b 0 1 3,iv x]):=bd125 _ _ rfl
def assignG (E:Env) (l:Nat) (rc:ALoop) (cb:Code) (B:Hp->Prop) (S:Ex->Hp->Prop) (x:Ex) (s:St):Prop:=
 x= .normal/\s.mks=[]/\s.h.t.get l=some (.loop rc)/\wpc E (some l) cb ⟨s.tm,s.nt,s.h.set l (.loop rc.busy),[]⟩ (bodyK l rc B S)
theorem qEc {E:Env} (ok:SyOk E) {l:Nat} {rc:ALoop} (c1:rc.state= .ready) (c2:rc.pending=none) {tm0:T AV} {nt:Nat} {ps:Array Tmp} {ca cb:Code} (c3:rc.tmps=tm0) (c4:rc.nt=nt) (c5:rc.params=ps) (c6:rc.assign=ca) (c7:rc.body=cb) {args:List AV} {A B:Hp->Prop} {S:Ex->Hp->Prop}
  (hA: ∀h,A h->h.t.get l=some (.loop rc)) (hb: ∀h,A h-> ∃tm1,uN nt ps.toList args tm0=some tm1/\wpc E (some l) ca ⟨tm1,nt,h,[]⟩ (assignG E l rc cb B S)):
  qCg E (.yld l) args A B (fun h2=> ∃x,S x h2):=by
 intro h ha;obtain ⟨tm1,hp,hw⟩:=hb h ha;refine CallA.round (hA h ha) c1 (by rw [c3,c4,c5];exact hp) ?_;rw [c4,c6,c7];refine (wpc.ok ok.tb _ _ _ hw).mono ?_;rintro x ⟨tm1,nt1,hh1,mk1⟩ ⟨q1,q2,q3,q5⟩;simp only at q2 q3 q5;subst q2;refine ⟨q1,rfl,rc,q3,c1,(wpc.ok ok.tb _ _ _ q5).mono ?_⟩;rintro y ⟨tm2,nt2,hh2,mk2⟩ ⟨r1,r2,r3⟩;simp only at r1 r2 r3;subst r1;rcases r3 with ⟨rfl,hB⟩|⟨c,hj,hS⟩
 ·refine ⟨none,_,rfl,rfl,r2,.inl ⟨rfl,?_⟩⟩;have e:({rc.busy with state:= .ready,pending:=none}:ALoop)=rc:=by
   cases rc;simp only at c1 c2;subst c1;subst c2;rfl
  simp only [Option.isNone_none,if_true];rw [e];exact hB
 ·exact ⟨some c,_,hj,rfl,r2,.inr ⟨rfl,y,hS⟩⟩
theorem ft190 (xt:Xt):(SE xt).ft.get 190=some Tryz.f190:=by kernel_rfl
theorem res190:Tryz.f190.results.toList=[.cell 7 124]:=by kernel_rfl
abbrev Wk.bP (w:Wk) (G:Th.Grid) (row wd:Nat) (x:Int):Cg:=w.bandP G row wd (w.m.W - x.toNat)
def BandR (xt:Xt) (w:Wk) (hb:Hp) (G:Th.Grid) (row wd:Nat) (Own:Nat->Prop) (h:Hp) (m:Nat) (res:CR) (h':Hp):Prop:=
 FrM (fun k=>k=hb.n+4) h.n h h'/\ ∃z l',res= .ret (.agg [z,iv (w.bandP G row wd m).2])/\h'.t.get (hb.n+4)=some (.map (mks l'))/\MI xt Own h' (w.bP G row wd) l'/\CgAt xt Own h' z (w.bandP G row wd m).1
theorem band1_c (xt:Xt) (w:Wk) (his:w.Is) (hb:Hp) (N M:Nat) (v:AV) (G:Th.Grid) (hbd:w.Bd xt hb N M v G) (hbn:w.m.bnd=some G) (row wd:Nat) (hwd1:1<=wd) (hwd3:wd<=3):
  ∀m,m<=w.m.W-> ∀(h:Hp) (l:Mem) (Own:Nat->Prop),BEnv w hb v row wd h->h.t.get (hb.n+4)=some (.map (mks l))->MI xt Own h (w.bP G row wd) l->(∀b,Own b->b<h.n)->Own (hb.n+4)->
   FnA (SE xt) 190 [iv ((w.m.W - m:Nat):Int),.ptr hb.n 0,.ptr (hb.n+5) 0,.ptr (hb.n+6) 0,.ptr (hb.n+1) 0,.ptr (hb.n+2) 0] h (BandR xt w hb G row wd Own h m):=by
 intro m;induction m using xYO with
 |ind m ih=>
 intro hm h l Own be hmap mi hown ownm;refine xZQ (sok xt) (ft190 xt) rfl 58 rfl ?_;have c8:=his.m.c8;have t4:=his.t4;have belt:=be.lt;obtain ⟨o1,o2,o3,o4,o5⟩:=hbd.at_.ones;have onev:=hbd.sg.one;obtain ⟨fr0,hfr0⟩: ∃fr0:Nat,fr0=w.m.W - m:=⟨_,rfl⟩;rw [<-hfr0];refine qA fun K hn hp=> ?_;simp only [sw.1,rE,reduceIte,rL,rA,syp.1];apply hn;obtain ⟨h1,hh1,n1,s1,k1,f1⟩:=vQ h (.cells [iv (fr0:Int)] 3);obtain ⟨h2,hh2,n2,s2,k2,f2⟩:=yJ f1 n1 (.cells [.val (.slice none 0 0),iv 0] 124);simp only [<-hh1,<-hh2];clear hh1 hh2;have u1:=(k2 h.n (by omega)).trans s1;simp only [rA] at n2;have b2:=be.fr' f2;have a2:=hbd.at_.fr b2.fr (xZY _);have e1:=b2.q1;have m2:=(f2.at_ (hb.n+4) (.inl (by omega))).trans hmap;have mi2:=mi.keep f2.le fun b hb' _=>f2.at_ b (.inl hb');refine jK ?_;refine jL (sok xt) 0 0 3 [(0,1)] (by kernel_rfl) fun K hn hp=> ?_;simp only [sy.1,rE,reduceIte,rL,rA,syw.1,u1,e1];refine cAS (qCe xt h2 w a2 his v onev fun m3 hm3=> ?_);simp only [sy.1,rE,reduceIte,rL,rA,syw.1,u1,hm3];apply hn;obtain ⟨h3,hh3⟩: ∃h3,h3=h2.up m3:=⟨_,rfl⟩;rw [<-hh3];have f23:Fr h2.n h2 h3:=by rw [hh3];exact (xZO (xZY _)).up (xZP hm3)
 have n3:h.n+2<h3.n:=by rw [hh3,xZH];omega
 have f3:Fr h.n h h3:=f2.trans f23 (by omega);have b3:=be.fr' f3;have s3:h3.t.get (h.n+1)=some (.cells [.val (.slice none 0 0),iv 0] 124):=by rw [hh3];exact s2
 have u3:h3.t.get h.n=some (.cells [iv (fr0:Int)] 3):=by rw [hh3];exact u1
 have m3':=(f3.at_ (hb.n+4) (.inl (by omega))).trans hmap;clear hh3 mi2 m2;have e2:=b3.q2;cases m with
 |zero=>
  have e0:fr0=w.m.W:=by omega
  have d:decide ((w.m.W:Int)<=(fr0:Int))=true:=decide_eq_true (by omega);refine qW (by simp only [sy.1,rE,reduceIte,d]) ?_;refine qB fun K hn hp=> ?_;simp only [sw.1,rE,reduceIte,rL,rA,syp.1,s3,bd125z];apply hn;refine qQ (bX (v:= .agg [.val (.slice none 0 0),iv 0]) res190 ?_ ⟨FrM.of (f3.set (by omega) (by omega) _),.val (.slice none 0 0),l,?_,?_,?_,?_⟩)
  ·simp only [sy.1,rE,reduceIte,rA,syp.1,s3]
  ·rw [Wk.bandP_zero]
  ·rw [xZM,xZZ,if_neg (by omega)];exact m3'
  ·exact mi.fr (f3.set (by omega) (by omega) _) (xZY _)
  ·rw [Wk.bandP_zero];exact CgAt.nil
 |succ m=>
  have d:decide ((w.m.W:Int)<=(fr0:Int))=false:=decide_eq_false (by omega);refine jB (by simp only [sy.1,rE,reduceIte,d]) ?_;refine jK ?_;rcases mem_look h3 (hb.n+4) l m3' (fr0:Int) with lk|⟨e,hel,lk⟩
  rotate_left
  ·obtain ⟨ce,pe⟩:=mi _ hel;have oe:=ce.cuts.one;have pe:e.2=w.bandP G row wd (m+1):=by
    simp only at pe;rw [pe];simp only [Wk.bP,xZC]
    congr 1
    omega
   refine qA fun K hn hp=> ?_;simp only [sw.1,rE,reduceIte,rL,rA,sv.1,syp.1,u3,e2,oe,qDj,lk];apply hn;obtain ⟨h4,hh4,n4,s4,k4,f4⟩:=nsE h3 (.cells [.val (.slice none 0 0),iv 0] 124) (.cells [e.1,iv e.2.2] 124);rw [<-hh4];clear hh4;have f4h:Fr h.n h h4:=f3.trans f4 (by omega);have x7:=(k4 (h.n+1) (by omega)).trans s3;refine qB fun K hn hp=> ?_;simp only [sy.1,rE,reduceIte,rL];apply hn;refine qW (by simp only [sy.1,rE,reduceIte]) ?_;refine qB fun K hn hp=> ?_;simp only [sw.1,rE,reduceIte,rL,rA,syp.1,oe,s4,x7];apply hn;have f5:Fr h.n h (h4.set (h.n+1) (.cells [e.1,iv e.2.2] 124)):=f4h.set (by omega) (by omega) _;refine qQ (bX (v:= .agg [e.1,iv e.2.2]) res190 ?_ ⟨FrM.of f5,e.1,l,?_,?_,mi.fr f5 (xZY _),?_⟩)
   ·simp only [sy.1,rE,reduceIte,rA,syp.1,x7]
   ·rw [pe]
   ·rw [f5.at_ (hb.n+4) (.inl (by omega))];exact hmap
   ·have:=ce.fr f5 (xZY _);simp only [pe] at this ⊢;exact this
  ·refine qA fun K hn hp=> ?_;simp only [sw.1,rE,reduceIte,rL,rA,sv.1,syp.1,u3,e2,qDj,lk];apply hn;obtain ⟨h4,hh4,n4,s4,k4,f4⟩:=nsE h3 (.cells [.val (.slice none 0 0),iv 0] 124) (.cells [.val (.slice none 0 0),iv 0] 124);rw [<-hh4];clear hh4;have f4h:Fr h.n h h4:=f3.trans f4 (by omega);have b4:=be.fr' f4h;have u4:=(k4 h.n (by omega)).trans u3;have m4:=(f4h.at_ (hb.n+4) (.inl (by omega))).trans hmap;have e3:=b4.q3;refine qB fun K hn hp=> ?_;simp only [sy.1,rE,reduceIte,rL];apply hn;refine jB (by simp only [sy.1,rE,reduceIte]) ?_;have w1:IntKind.i64.wrap ((fr0:Int)+1)=((w.m.W - m:Nat):Int):=by rw [qG _ (by omega) (by omega)];omega
   let Own1:Nat->Prop:=fun b=>Own b\/b=h.n+1
   have mi4:MI xt Own1 h4 (w.bP G row wd) l:=(mi.more (fun b=>b=h.n+1) (fun b q=>by omega)).fr f4h (xZY _);refine qA fun K hn hp=> ?_;simp only [sy.1,rE,reduceIte,rL,syp.1,u4,e3,w1];refine vE (sok xt) (xZI (ih m (by omega) (by omega) h4 l Own1 b4 m4 mi4 (fun b q=>by rcases q with q|q;have:=hown b q;omega;omega) (.inl ownm)) fun res h5 hres=> ?_);obtain ⟨f5,z1,l1,rfl,m5,mi5,cg5⟩:=hres;have cz1:=cg5.cuts.cells;simp only [sw.1,rE,reduceIte,rL,syp.1,jF,bs192,cz1];obtain ⟨h6,hh6,n6,s6,k6,f6⟩:=vQ h5 (.cells [z1,iv (w.bandP G row wd m).2] 124);obtain ⟨h7,hh7,n7,s7,k7,f7⟩:=nsF f6 n6 (.cells [.val (.slice none 0 0)] 193) (.cells [.sl h5.n 0 1 2] 193);rw [n6] at hh7;rw [<-hh6,<-hh7];apply hn;clear hh6 hh7;simp only [rA] at n7;have l5:=f5.le;have f5h:FrM (fun k=>k=hb.n+4) h.n h h5:=(FrM.of f4h).trans f5 (by omega);have f7h:FrM (fun k=>k=hb.n+4) h.n h h7:=f5h.fr f7 (by omega);have b7:=be.frM f7h belt (fun k hk=>by omega);have f54:FrM (fun k=>k=hb.n+4) h4.n h4 h7:=f5.fr f7 (by omega);have u7:=(f54.get (k:=h.n) (by omega) (by omega)).trans u4;have x7:=(f54.get (k:=h.n+1) (by omega) (by omega)).trans ((k4 (h.n+1) (by omega)).trans s3);have g1:=b7.q1;have g4:=b7.q4;have g5:=b7.q5;have a7:=hbd.at_.fr b7.fr (xZY _);refine qB fun K hn hp=> ?_;simp only [sy.1,rE,reduceIte,rL,rA,u7,g1,g4,g5];refine cAS (qC5 xt h7 w a7 v onev (row:Int) (wd:Int) (fr0:Int) ?_);obtain ⟨ha,hha,na,sa,ka,fa⟩:=vQ h7 (.cells (w.bc v) 120);obtain ⟨hc,hhc,nc,sc,kc,fc⟩:=yJ fa na (.cells [iv (row:Int)] 3);obtain ⟨hd,hhd,nd,sd,kd,fd⟩:=yJ fc nc (.cells [iv (wd:Int)] 3);obtain ⟨hz,hhz,nz,sz,kz,fz⟩:=yJ fd nd (.cells [iv (fr0:Int)] 3);rw [<-hha,<-hhc,<-hhd,<-hhz];simp only [sy.1,rL];apply hn;clear hha hhc hhd hhz;simp only [rA] at nc nd nz sc sd sz;have pz0:=(kz h7.n (by omega)).trans ((kd h7.n (by omega)).trans ((kc h7.n (by omega)).trans sa));have pz1:=(kz (h7.n+1) (by omega)).trans ((kd (h7.n+1) (by omega)).trans sc);have pz2:=(kz (h7.n+2) (by omega)).trans sd;have fzh:FrM (fun k=>k=hb.n+4) h.n h hz:=f7h.fr fz (by omega);have bz:=be.frM fzh belt (fun k hk=>by omega);have uz:=(fz.at_ h.n (.inl (by omega))).trans u7;have tz:=(fz.at_ (h5.n+1) (.inl (by omega))).trans s7;have mz:=(fz.at_ (hb.n+4) (.inl (by omega))).trans ((f7.at_ (hb.n+4) (.inl (by omega))).trans m5)
   let X:Nat->Prop:=fun b=>b=h5.n+1\/b=hz.n\/b=hz.n+1
   have hX: ∀b,X b->h5.n<=b:=fun b q=>by rcases q with q|q|q<;>omega
   let Own2:Nat->Prop:=fun b=>Own1 b\/X b
   let OwnV:AV->Nat->Prop:=fun av b=>Own2 b\/ ∃off n s,av= .sl b off n s
   have hV0: ∀b,OwnV (.sl h5.n 0 1 2) b->Own1 b\/(X b\/b=h5.n):=fun b q=>by
    rcases q with (q|q)|⟨off,n,s,q⟩
    ·exact .inl q
    ·exact .inr (.inl q)
    ·cases q;exact .inr (.inr rfl)
   have hX': ∀b,(X b\/b=h5.n)->h5.n<=b:=fun b q=>by
    rcases q with q|q
    ·exact hX b q
    ·omega
   have miz:MI xt (OwnV (.sl h5.n 0 1 2)) hz (w.bP G row wd) l1:=(((mi5.more _ hX').less hV0).fr f7 (xZY _)).fr fz (xZY _);have cgz:CgAt xt (OwnV (.sl h5.n 0 1 2)) hz z1 (w.bandP G row wd m).1:=(((cg5.more _ hX').less hV0).fr f7 (xZY _)).fr fz (xZY _);have crz:CRows xt hz h5.n (.sl h5.n 0 1 2) [(z1,w.bandP G row wd m)]:=by
    refine ⟨.inr ⟨h5.n,rfl,xZY _,by omega,?_,rfl⟩,fun e he=> ?_⟩
    ·rw [fz.at_ h5.n (.inl (by omega)),k7 h5.n (by omega),s6];rfl
    ·rw [xZN] at he;subst he;exact ⟨cgz.cuts,fun b off n s e off' n' s' e'=>by cases e';have:=cg5.cuts.row.lt e;omega⟩
   have hOwn2: ∀b,Own2 b->b<hz.n+2:=fun b q=>by
    rcases q with (q|q)|q|q|q
    ·have:=hown b q;omega
    all_goals omega
   refine qD fun KB B1 B2 B3 B4 B5=> ?_
   let I:ALoop->Nat->Hp->Prop:=fun rc k h'=> ∃l' av es,FrM (fun b=>b=hb.n+4\/b=hz.n+1\/b=h5.n+1\/b=h5.n) (hz.n+2) (LH hz rc) h'/\h'.t.get (hz.n+1)=some (.loop rc)/\h'.t.get (h5.n+1)=some (.cells [av] 193)/\CRows xt h' h5.n av es/\es.map Prod.snd=w.cnd G row wd m k/\h'.t.get (hb.n+4)=some (.map (mks l'))/\MI xt (OwnV av) h' (w.bP G row wd) l'/\(∀e∈es,CgAt xt (OwnV av) h' e.1 e.2.1)/\ ∀b off n s,av= .sl b off n s->b=h5.n\/hz.n+2<=b
   have nLH: ∀rc,(LH hz rc).n=hz.n+2:=fun rc=>rfl;have keyI: ∀rc k h',I rc k h'->BEnv w hb v row wd h'/\hz.n+2<=h'.n/\ ∀b,b<hz.n->b≠hb.n+4->b≠h5.n+1->b≠h5.n->h'.t.get b=hz.t.get b:=by
    rintro rc k h' ⟨l',av,es,z1,z2,z3,z4,z5,z6,z7,z8,z9⟩;have:=z1.le;have nn:=nLH rc;refine ⟨(bz.fr' (gJ hz rc)).frM z1 (by omega) (fun k hk=>by omega),by omega,fun b q1 q2 q3 q4=> ?_⟩;rw [z1.get (by omega) (by omega)];exact vV hz rc q1
   refine kL (sok xt) (g:=210) (xs:=[.yld (hz.n+1),.ptr h7.n 0,.ptr (h7.n+1) 0,.ptr (h7.n+3) 0,.ptr (h7.n+2) 0]) (S:=fun _ _ _=>False) (Z:=fun rc h'=>I rc w.ts.length h') (by simp only [sy.1,rE,reduceIte];rfl) (fun rc c1 c2 c3 c4 c5 c6 c7=> ?_) ?_ (fun _ _ _ hf=>hf.elim)
   ·refine qBu xt (LH hz rc) w his N M v G hbn (hz.n+1) h7.n (h7.n+1) (h7.n+3) (h7.n+2) row fr0 wd (I rc) _ ?_ ?_ ?_ ?_ ?_ ?_
    ·refine ⟨l1,.sl h5.n 0 1 2,[(z1,w.bandP G row wd m)],FrM.refl (xZY _),LH_l hz rc,(vV hz rc (by omega)).trans tz,crz.fr (gJ hz rc) (xZY _),?_,(vV hz rc (by omega)).trans mz,miz.fr (gJ hz rc) (xZY _),fun e he=> ?_,fun b off n s e=>(by cases e;exact .inl rfl)⟩
     ·simp [Wk.cnd,Wk.selTo]
     ·rw [xZN] at he;subst he;exact cgz.fr (gJ hz rc) (xZY _)
    ·intro k h' hI;obtain ⟨q1,q2,q3⟩:=keyI rc k h' hI;refine ⟨hbd.fr q1.fr (xZY _),?_,?_,?_,?_⟩
     ·rw [q3 _ (by omega) (by omega) (by omega) (by omega)];exact pz0
     ·rw [q3 _ (by omega) (by omega) (by omega) (by omega)];exact pz1
     ·rw [q3 _ (by omega) (by omega) (by omega) (by omega)];exact sz
     ·rw [q3 _ (by omega) (by omega) (by omega) (by omega)];exact pz2
    ·intro k h' hI;obtain ⟨q1,q2,q3⟩:=keyI rc k h' hI;omega
    ·rintro k h' h'' ⟨l',av,es,z1,z2,z3,z4,z5,z6,z7,z8,z9⟩ f;have q2:=z1.le;have nn:=nLH rc;refine ⟨l',av,es,z1.fr f (by omega),(f.at_ _ (.inl (by omega))).trans z2,(f.at_ _ (.inl (by omega))).trans z3,z4.fr f (xZY _),z5,(f.at_ _ (.inl (by omega))).trans z6,z7.fr f (xZY _),fun e he=>(z8 e he).fr f (xZY _),z9⟩
    ·rintro k h' hk hs ⟨l',av,es,z1,z2,z3,z4,z5,z6,z7,z8,z9⟩;refine ⟨l',av,es,z1,z2,z3,z4,?_,z6,z7,z8,z9⟩;have e1:w.sel wd (Wk.blkK row (w.m.W - (m+1)) k)=false:=by rw [<-hfr0];exact hs
     rw [z5,Wk.cnd_succ,e1];simp
    ·intro k hk hs;refine qEc (sok xt) c1 c2 c3 c4 c5 c6 c7 (fun h' hA=>by obtain ⟨l',av,es,z1,z2,_⟩:=hA;exact z2) (fun h' hA=>⟨_,rfl,?_⟩);have kI:=keyI rc k h' hA;obtain ⟨l',av,es,z1,z2,z3,z4,z5,z6,z7,z8,z9⟩:=hA;obtain ⟨q1,q2,q3⟩:=kI;refine qA fun K hn hp=> ?_;simp only [sw.1,rE,reduceIte,rL,rA,al61];apply hn;refine reg fun K hn hp=> ?_;simp only [sy.1,rE,reduceIte,rL];apply hn;obtain ⟨hp0,hhp,np,sp,kp,fp⟩:=nsE h' (.cells [iv 0,iv 0,iv 0] 61) (.cells [iv (row:Int),iv (fr0:Int),iv (k:Int)] 61);rw [<-hhp];clear hhp;have lb:=(kp (hz.n+1) (by omega)).trans z2;refine ⟨rfl,rfl,lb,?_⟩;dsimp only;obtain ⟨hA,hhA⟩: ∃hA:Hp,hA=hp0.set (hz.n+1) (.loop rc.busy):=⟨_,rfl⟩;have nA:hA.n=h'.n+1:=by rw [hhA,xYT,np]
     have lA:hA.t.get (hz.n+1)=some (.loop rc.busy):=by rw [hhA,xZM,xZZ,if_pos rfl]
     have kA: ∀b,b≠hz.n+1->hA.t.get b=hp0.t.get b:=fun b hb=>by rw [hhA,xZM,xZZ,if_neg hb]
     have fA:FrM (fun b=>b=hb.n+4\/b=hz.n+1\/b=h5.n+1\/b=h5.n) (hz.n+2) (LH hz rc) hA:=by rw [hhA];exact (z1.fr fp (by omega)).set (.inr (.inr (.inl rfl))) _
     rw [<-hhA];clear hhA;have bA:=(bz.fr' (gJ hz rc)).frM fA (by omega) (fun k hk=>by have:=nLH rc;omega);have a11:=(kA h'.n (by omega)).trans sp;have aT:=(kA (h5.n+1) (by omega)).trans ((kp _ (by omega)).trans z3);have aM:=(kA (hb.n+4) (by omega)).trans ((kp _ (by omega)).trans z6);have a6:hA.t.get h.n=some (.cells [iv (fr0:Int)] 3):=(kA h.n (by omega)).trans ((kp _ (by omega)).trans ((q3 h.n (by omega) (by omega) (by omega) (by omega)).trans uz));have keepA: ∀b,b<h'.n-> ¬OwnV av b->hA.t.get b=h'.t.get b:=fun b hb1 hb2=>(kA b (fun e=>hb2 (.inl (.inr (.inr (.inr e)))))).trans (kp b hb1);have miA:MI xt (OwnV av) hA (w.bP G row wd) l':=z7.keep (by omega) keepA;have cgA: ∀e∈es,CgAt xt (OwnV av) hA e.1 e.2.1:=fun e he=>(z8 e he).keep (by omega) keepA;have crA:CRows xt hA h5.n av es:=z4.keepC (by omega) (fun b cs hb1 hb2=>(kA b (by rintro rfl;rw [z2] at hb2;cases hb2)).trans (kp b hb1)) (fun e he=>(cgA e he).cuts);have aw:=bA.q5;have as_:=bA.q3;obtain ⟨sb,sr,sc',sw1,sw3⟩:=his.selBlk hk hs;have lvb:0<=w.lv G ((row:Int),(fr0:Int),(k:Int))/\w.lv G ((row:Int),(fr0:Int),(k:Int))<=6500:=his.lv_bd hbn sb;have ihm:m - (wd - 1)<m+1:=by omega
     have w2:IntKind.i64.wrap ((fr0:Int)+(wd:Int))=((w.m.W - (m - (wd - 1)):Nat):Int):=by rw [qG _ (by omega) (by omega)];omega
     refine qZ fun K' k1' k2' k3' k4' k5'=> ?_;refine regG (sok xt) 12 [2,11] [(10,[2])] [(0,1),(0,2),(1,1)] (by kernel_rfl) fun K hn hp=> ?_;simp only [sy.1,rE,reduceIte,rL,rA,syw.1,syp.1,a11,aT,a6,aw,as_,syg.1,xYV,jF,bs33,bd125s,w2]
     let Own3:Nat->Prop:=fun b=>OwnV av b\/b=hA.n
     have bU:BEnv w hb v row wd (hA.up (hA.n+1)):=bA.fr' ((xZO (xZY _)).up (xZT _));have miU:MI xt Own3 (hA.up (hA.n+1)) (w.bP G row wd) l':=(miA.more (fun b=>b=hA.n) (fun b q=>by omega)).fr ((xZO (xZY _)).up (xZT _)) (xZY _);have hOwn3: ∀b,Own3 b->b<hA.n+1:=fun b q=>by
      rcases q with (q|⟨off,n,s,q⟩)|q
      ·have:=hOwn2 b q;omega
      ·rcases crA.own with ⟨_,_,o⟩|⟨b',o,_,o2,_⟩
       ·rw [o] at q;cases q
       ·rw [o] at q;cases q;omega
      ·omega
     refine vE (sok xt) (FnA.inc (xZI (ih (m - (wd - 1)) ihm (by omega) (hA.up (hA.n+1)) l' Own3 bU aM miU hOwn3 (.inl (.inl (.inl (.inl ownm))))) fun res hB0 hres=> ?_));obtain ⟨fB0,zB,lB,rfl,mB0,miB0,cgB0⟩:=hres;obtain ⟨hB,hhB⟩: ∃hB,hB=hB0.up (hB0.n+1):=⟨_,rfl⟩;have fB:FrM (fun k=>k=hb.n+4) (hA.n+1) (hA.up (hA.n+1)) hB:=by rw [hhB];exact fB0.up (xZT _)
     have ltB:hA.n+1<hB.n:=by have:=fB0.lo;rw [hhB,xZH];simp only [xZH] at this;omega
     have mB:hB.t.get (hb.n+4)=some (.map (mks lB)):=by rw [hhB];exact mB0
     have miB:MI xt Own3 hB (w.bP G row wd) lB:=by rw [hhB];exact miB0.fr ((xZO (xZY _)).up (xZT _)) (xZY _)
     have cgB:CgAt xt Own3 hB zB (w.bandP G row wd (m - (wd - 1))).1:=by rw [hhB];exact cgB0.fr ((xZO (xZY _)).up (xZT _)) (xZY _)
     rw [<-hhB];clear hhB fB0 mB0 miB0 cgB0;simp only [sy.1,rE,reduceIte,rL,wI ltB];obtain ⟨hC,hhC⟩: ∃hC:Hp,hC=hB.set hA.n (.cells [iv (row:Int),iv (fr0:Int),iv (k:Int)] 61):=⟨_,rfl⟩;have eC:({t:=hB.t.put (some (.cells [iv (row:Int),iv (fr0:Int),iv (k:Int)] 61)) hA.n,n:=hB.n}:Hp)=hC:=hhC.symm;rw [eC];have nC:hC.n=hB.n:=by rw [hhC,xYT]
     have sC:hC.t.get hA.n=some (.cells [iv (row:Int),iv (fr0:Int),iv (k:Int)] 61):=by rw [hhC,xZM,xZZ,if_pos rfl]
     have kC: ∀b,b≠hA.n->hC.t.get b=hB.t.get b:=fun b hb=>by rw [hhC,xZM,xZZ,if_neg hb]
     have fC:FrM (fun k=>k=hb.n+4) hA.n hA hC:=by rw [hhC];exact (((FrM.refl (xZY _)).up (xZT _)).trans fB (xZT _)).set (.inl ⟨xZY _,by omega⟩) _
     clear hhC eC;have miC:MI xt Own3 hC (w.bP G row wd) lB:=miB.keep (by omega) fun b _ ho=>kC b fun e=>ho (.inr e);have cgC:CgAt xt Own3 hC zB (w.bandP G row wd (m - (wd - 1))).1:=cgB.keep (by omega) fun b _ ho=>kC b fun e=>ho (.inr e);obtain ⟨cs1,ci1⟩:=GrowAt.cuts (xt:=xt) (N:=0) (h:=hC) (v:= .sl hA.n 0 1 3) (ls:=[((row:Int),(fr0:Int),(k:Int))]) (.inr ⟨hA.n,_,rfl,xXV _,by omega,sC,by simp,rfl⟩) (by simp);have bdB:=his.bandP_bd hbn row wd (m - (wd - 1));refine cAS (FnA.inc (xZI (then_c xt hC (.sl hA.n 0 1 3) zB ([((row:Int),(fr0:Int),(k:Int))],w.lv G ((row:Int),(fr0:Int),(k:Int))) (w.bandP G row wd (m - (wd - 1))) cs1 cgC.cuts ci1 cgC.inn (by simp only [List.length_singleton];omega) lvb.1 (Int.le_trans lvb.2 (by decide)) bdB.2.1 (by omega)) fun res hD0 hres=> ?_));obtain ⟨fD0,zD,rfl,ncD0⟩:=hres;obtain ⟨hD,hhD⟩: ∃hD,hD=hD0.up (hD0.n+1):=⟨_,rfl⟩;have fD:Fr hC.n hC hD:=by rw [hhD];exact fD0.up (xZT _)
     have ltD:hB.n<hD.n:=by have:=fD0.lo;rw [hhD,xZH];omega
     have ncD:NewC xt hC.n hD zD ([((row:Int),(fr0:Int),(k:Int))]++(w.bandP G row wd (m - (wd - 1))).1):=by rw [hhD];exact ncD0.fr ((xZO (xZY _)).up (xZT _)) (xZY _)
     rw [<-hhD];clear hhD fD0 ncD0;have czD:=ncD.cuts.cells;have v11:hB.t.get h'.n=some (.cells [iv (row:Int),iv (fr0:Int),iv (k:Int)] 61):=(fB.get (by omega) (by omega)).trans a11;have vT:hB.t.get (h5.n+1)=some (.cells [av] 193):=(fB.get (by omega) (by omega)).trans aT;have vTD:hD.t.get (h5.n+1)=some (.cells [av] 193):=(fD.at_ _ (.inl (by omega))).trans ((kC _ (by omega)).trans vT);simp only [sy.1,rE,reduceIte,rL,rA,v11,vT,vTD,czD,syg.1,wI ltD,bs192];have avb: ∀b off n s,av= .sl b off n s->b<hA.n:=fun b off n s e=>by
      rcases crA.own with ⟨_,_,o⟩|⟨b',o,_,o2,_⟩
      ·rw [o] at e;cases e
      ·rw [o] at e;cases e;exact o2
     have fDA:FrM (fun k=>k=hb.n+4) hA.n hA hD:=fC.fr fD (by omega);have cgD: ∀e∈es,CgAt xt (OwnV av) hD e.1 e.2.1:=fun e he=>(cgA e he).frM fDA (xZY _) fun k e _=>by subst e;exact .inl (.inl (.inl ownm))
     have miD:MI xt (OwnV av) hD (w.bP G row wd) lB:=(miC.less fun b q=> .inl q).fr fD (xZY _);have hVC: ∀b,OwnV av b->b<hC.n:=fun b q=>by
      have:=hOwn3 b (.inl q);omega
     have cgDz:CgAt xt (OwnV av) hD zD ([((row:Int),(fr0:Int),(k:Int))]++(w.bandP G row wd (m - (wd - 1))).1):=ncD.cg hVC;have crD:CRows xt hD h5.n av es:=crA.keepC fDA.le (fun b cs hb1 hb2=>fDA.get hb1 (by rintro rfl;rw [aM] at hb2;cases hb2)) (fun e he=>(cgD e he).cuts);have les:es.length<=k+1:=by
      have e1:es.length=(w.cnd G row wd m k).length:=by rw [<-z5,xZU]
      rw [e1,Wk.cnd,xZA,xZU];have:=xZF (w.sel wd) ((List.range k).map (Wk.blkK row (w.m.W - (m+1))));rw [xZU,xXT] at this;simp only [Wk.selTo];omega
     obtain ⟨v',hE,p1,p2,p3,p4,p5,p6⟩:=crD.append (by omega) (z:=zD) (c:=([((row:Int),(fr0:Int),(k:Int))]++(w.bandP G row wd (m - (wd - 1))).1,w.lv G ((row:Int),(fr0:Int),(k:Int))+(w.bandP G row wd (m - (wd - 1))).2)) ncD.cuts (fun b off n s e off' n' s' e'=>by have:=ncD.lo b off n s e;have:=avb b off' n' s' e';omega) (by omega);have p1':qS Tryz.prog tb xt .append [193,193] [av,.sl hD.n 0 1 2] {t:=hD.t.put (some (.cells [zD,iv (w.lv G ((row:Int),(fr0:Int),(k:Int))+(w.bandP G row wd (m - (wd - 1))).2)] 124)) hD.n,n:=hD.n+1}=some (v',hE):=p1;have yT:hE.t.get (h5.n+1)=some (.cells [av] 193):=(p5 _ (by omega) fun off n s e=>by have:=z9 _ _ _ _ e;omega).trans vTD;have yL:hE.t.get (hz.n+1)=some (.loop rc.busy):=(p5 _ (by omega) fun off n s e=>by have:=z9 _ _ _ _ e;omega).trans ((fDA.get (by omega) (by omega)).trans lA);have yM:hE.t.get (hb.n+4)=some (.map (mks lB)):=(p5 _ (by omega) fun off n s e=>by have:=z9 _ _ _ _ e;omega).trans ((fD.at_ _ (.inl (by omega))).trans ((kC _ (by omega)).trans mB));have o1':=p2.one;have c1':=p2.cells;simp only [sw.1,rE,reduceIte,rL,syp.1,yT,o1',c1',p1'];refine hn _ _ (k1' _ ⟨rfl,?_,.inl ⟨rfl,?_⟩⟩)
     ·rw [xZM,xZZ,if_neg (by omega)];exact yL
     obtain ⟨hG,hhG⟩: ∃hG:Hp,hG=(hE.set (h5.n+1) (.cells [v'] 193)).set (hz.n+1) (.loop rc):=⟨_,rfl⟩;have gL:hG.t.get (hz.n+1)=some (.loop rc):=by rw [hhG,xZM,xZZ,if_pos rfl]
     have gT:hG.t.get (h5.n+1)=some (.cells [v'] 193):=by rw [hhG,xZM,xZZ,if_neg (by omega),xZM,xZZ,if_pos rfl]
     have gK: ∀b,b≠hz.n+1->b≠h5.n+1->hG.t.get b=hE.t.get b:=fun b q1 q2=>by rw [hhG,xZM,xZZ,if_neg q1,xZM,xZZ,if_neg q2]
     have nG:hG.n=hE.n:=by rw [hhG,xYT,xYT]
     have fE:FrM (fun b=> ∃off n s,av= .sl b off n s) hD.n hD hE:=⟨by omega,by omega,fun b hb1 hb2=>by
      by_cases q:b<hD.n
      ·exact p5 b q fun off n s e=>hb2 ⟨off,n,s,e⟩
      ·exact p3.at_ b (.inr (by omega))⟩
     have fG:FrM (fun b=>b=hb.n+4\/b=hz.n+1\/b=h5.n+1\/b=h5.n) (hz.n+2) (LH hz rc) hG:=by
      rw [hhG];refine FrM.set (FrM.set ?_ (.inr (.inr (.inr (.inl rfl)))) _) (.inr (.inr (.inl rfl))) _;refine FrM.join (FrM.join fA fDA (by omega) fun b q=> .inl (.inl q)) fE (by omega) ?_;rintro b ⟨off,n,s,e⟩;have q1:=z9 b off n s e;have q2:=avb b off n s e;rcases q1 with q1|q1
      ·exact .inl (.inr (.inr (.inr q1)))
      ·exact .inr ⟨q1,by omega⟩
     rw [<-hhG];clear hhG;have toG: ∀{z:AV} {ls:List (Int×Int×Int)},CgAt xt (OwnV av) hD z ls->CgAt xt (OwnV v') hG z ls:=fun {z ls} c=>by
      refine ((c.more (fun b=>hD.n<=b) (fun b q=>q)).keep (by omega) fun b hb1 hb2=> ?_).less fun b q=> ?_
      ·rw [gK b (fun e=>hb2 (.inl (.inl (.inr (.inr (.inr e)))))) (fun e=>hb2 (.inl (.inl (.inr (.inl e)))))];exact p5 b hb1 fun off n s e=>hb2 (.inl (.inr ⟨off,n,s,e⟩))
      ·rcases q with q|⟨off,n,s,q⟩
       ·exact .inl (.inl q)
       ·rw [p4] at q;cases q;exact .inr (by omega)
     have cgG: ∀e∈es++[(zD,([((row:Int),(fr0:Int),(k:Int))]++(w.bandP G row wd (m - (wd - 1))).1,w.lv G ((row:Int),(fr0:Int),(k:Int))+(w.bandP G row wd (m - (wd - 1))).2))],CgAt xt (OwnV v') hG e.1 e.2.1:=fun e he=>by
      rcases xYP.1 he with he|he
      ·exact toG (cgD e he)
      ·rw [xZN] at he;subst he;exact toG cgDz
     refine ⟨lB,v',_,fG,gL,gT,p2.keepC (by omega) (fun b cs hb1 hb2=>gK b (by rintro rfl;rw [yL] at hb2;cases hb2) (by rintro rfl;rw [yT] at hb2;cases hb2)) (fun e he=>(cgG e he).cuts),?_,(gK _ (by omega) (by omega)).trans yM,fun e he=>⟨toG (miD e he).1,(miD e he).2⟩,cgG,fun b off n s e=> ?_⟩
     ·have e1:w.sel wd (Wk.blkK row (w.m.W - (m+1)) k)=true:=by rw [<-hfr0];exact hs
      rw [Wk.cnd_succ,e1,xYY,z5,<-hfr0];rfl
     ·rw [p4] at e;cases e;right;omega
   ·rintro rc h' c1 c2 hI;obtain ⟨q1,q2,q3⟩:=keyI rc _ h' hI;obtain ⟨l',av,es,z1,z2,z3,z4,z5,z6,z7,z8,z9⟩:=hI;refine ⟨z2,B1 _ ?_⟩;obtain ⟨h8,hh8⟩: ∃h8:Hp,h8=h'.set (hz.n+1) (.loop {rc with state:= .exhausted}):=⟨_,rfl⟩;rw [<-hh8];have n8:h8.n=h'.n:=by rw [hh8,xYT]
    have k8: ∀b,b≠hz.n+1->h8.t.get b=h'.t.get b:=fun b hb=>by rw [hh8,xZM,xZZ,if_neg hb]
    have z1':FrM (fun b=>b=hb.n+4\/b=hz.n+1\/b=h5.n+1\/b=h5.n) (hz.n+2) (LH hz rc) h8:=by rw [hh8];exact z1.set (.inr (.inr (.inl rfl))) _
    have f8h:FrM (fun k=>k=hb.n+4) h.n h h8:=FrM.join (fzh.fr (gJ hz rc) (by omega)) z1' (by omega) fun b q=>by
     have:=nLH rc;rcases q with q|q
     ·exact .inl q
     ·exact .inr (by omega)
    clear hh8;have b8:=be.frM f8h belt (fun k hk=>by omega);have v2:=b8.q2;have v6:h8.t.get h.n=some (.cells [iv (fr0:Int)] 3):=(k8 _ (by omega)).trans ((q3 h.n (by omega) (by omega) (by omega) (by omega)).trans uz);have v7:h8.t.get (h.n+1)=some (.cells [.val (.slice none 0 0),iv 0] 124):=(k8 _ (by omega)).trans ((q3 _ (by omega) (by omega) (by omega) (by omega)).trans ((fz.at_ (h.n+1) (.inl (by omega))).trans x7));have vT:=(k8 (h5.n+1) (by omega)).trans z3;have vM:=(k8 (hb.n+4) (by omega)).trans z6;have vd:h8.t.get hz.n=some .deferred:=(k8 _ (by omega)).trans ((z1.get (by omega) (by omega)).trans (LH_d hz rc));have keep8: ∀b,b<h'.n-> ¬OwnV av b->h8.t.get b=h'.t.get b:=fun b _ hb2=>k8 b (fun e=>hb2 (.inl (.inr (.inr (.inr e)))));have cg8: ∀e∈es,CgAt xt (OwnV av) h8 e.1 e.2.1:=fun e he=>(z8 e he).keep (by omega) keep8;have mi8:MI xt (OwnV av) h8 (w.bP G row wd) l':=z7.keep (by omega) keep8;have cr8:CRows xt h8 h5.n av es:=z4.keepC (by omega) (fun b cs hb1 hb2=>k8 b (by rintro rfl;rw [z2] at hb2;cases hb2)) (fun e he=>(cg8 e he).cuts);obtain ⟨e0,es',hes⟩: ∃e0 es',es=e0::es':=by
     cases es with
     |nil=>simp [Wk.cnd] at z5
     |cons e0 es'=>exact ⟨e0,es',rfl⟩
    have he0:e0.2=w.bandP G row wd m:=by
     rw [hes] at z5;simp only [xZD,Wk.cnd,List.cons.injEq] at z5;exact z5.1
    have hbst:(xE e0 es).2=w.bandP G row wd (m+1):=by rw [qF3,z5,he0,Wk.bandP_succ]
    have les:es.length<=1000000:=by
     have e1:es.length=(w.cnd G row wd m w.ts.length).length:=by rw [<-z5,xZU]
     rw [e1,Wk.cnd,xZA,xZU];have:=xZF (w.sel wd) ((List.range w.ts.length).map (Wk.blkK row (w.m.W - (m+1))));rw [xZU,xXT] at this;simp only [Wk.selTo];omega
    refine qA fun K hn hp=> ?_;simp only [sy.1,rE,reduceIte,rL,syp.1,vT];refine cAS (best_c xt h8 h5.n av es cr8 e0 (by rw [hes];rfl) les fun m9 hm9=> ?_);obtain ⟨zb,hzb⟩: ∃zb,zb=(xE e0 es).1:=⟨_,rfl⟩;have cgb:CgAt xt (OwnV av) h8 zb (w.bandP G row wd (m+1)).1:=by
     rw [hzb,<-hbst];rcases qC4 (e0:=e0) es with e|e
     ·rw [e];exact cg8 _ (by rw [hes];exact xZB)
     ·exact cg8 _ e
    rw [<-hzb,hbst];have ozb:=cgb.cuts.one;simp only [sw.1,rE,reduceIte,rL,rA,syp.1,ozb];obtain ⟨h9,hh9,n9,s9,k9,f9⟩:=nsE (h8.up m9) (.cells [.val (.slice none 0 0),iv 0] 124) (.cells [zb,iv (w.bandP G row wd (m+1)).2] 124);simp only [xZH] at hh9 n9 s9 k9 f9;simp only [<-hh9];apply hn;clear hh9;have l8:=f8h.le;have k9': ∀b,b<h8.n->h9.t.get b=h8.t.get b:=fun b hb=>k9 b (by omega);have y2:=(k9' (hb.n+5) (by omega)).trans v2;have y6:=(k9' h.n (by omega)).trans v6;have yM:=(k9' (hb.n+4) (by omega)).trans vM;have y7:=(k9' (h.n+1) (by omega)).trans v7;have yd:=(k9' hz.n (by omega)).trans vd;obtain ⟨l9,ml9,hl9⟩:=mem_put h9 (hb.n+4) l' yM (fr0:Int) zb (w.bandP G row wd (m+1));refine qA fun K hn hp=> ?_;simp only [sy.1,rE,reduceIte,rL,rA,syp.1,y2,y6,s9,qDx,ml9];apply hn;obtain ⟨h10,hh10⟩: ∃h10:Hp,h10=h9.set (hb.n+4) (.map (mks l9)):=⟨_,rfl⟩;rw [<-hh10];have n10:h10.n=h9.n:=by rw [hh10,xYT]
    have k10: ∀b,b≠hb.n+4->h10.t.get b=h9.t.get b:=fun b hb=>by rw [hh10,xZM,xZZ,if_neg hb]
    have w7:=(k10 (h.n+1) (by omega)).trans y7;have w13:=(k10 m9 (by omega)).trans s9;have wd':=(k10 hz.n (by omega)).trans yd;have wM:h10.t.get (hb.n+4)=some (.map (mks l9)):=by rw [hh10,xZM,xZZ,if_pos rfl]
    have f89:Fr h8.n h8 h9:=((xZO (xZY _)).up (by omega)).trans f9 (by omega);have f10h:FrM (fun k=>k=hb.n+4) h.n h h10:=by rw [hh10];exact (f8h.fr f89 (by omega)).set (.inr rfl) _
    refine qA fun K hn hp=> ?_;simp only [sw.1,rE,reduceIte,rL,rA,syp.1,ozb,w7,w13];apply hn;obtain ⟨hF,hhF⟩: ∃hF:Hp,hF=(h10.set (h.n+1) (.cells [zb,iv (w.bandP G row wd (m+1)).2] 124)).del hz.n:=⟨_,rfl⟩;have nF:hF.n=h10.n:=by rw [hhF,Hp.del_n,xYT]
    have kF: ∀b,b≠hz.n->b≠h.n+1->hF.t.get b=h10.t.get b:=fun b q1 q2=>by rw [hhF,Hp.del_t,xZZ,if_neg q1,xZM,xZZ,if_neg q2]
    have keepF: ∀b,b<h8.n-> ¬OwnV av b->hF.t.get b=h8.t.get b:=fun b q1 q2=>by
     rw [kF b (fun e=>q2 (.inl (.inr (.inr (.inl e))))) (fun e=>q2 (.inl (.inl (.inr e)))),k10 b (fun e=>q2 (.inl (.inl (.inl (e▸ownm))))),k9' b q1]
    have toF: ∀{z:AV} {ls:List (Int×Int×Int)},CgAt xt (OwnV av) h8 z ls->CgAt xt Own hF z ls:=fun {z ls} c=>(c.keep (by omega) keepF).less fun b q=> .inl (.inl (.inl q));have pe:w.bP G row wd (fr0:Int)=w.bandP G row wd (m+1):=by
     simp only [Wk.bP,xZC]
     congr 1
     omega
    have miF:MI xt Own hF (w.bP G row wd) l9:=fun e he=>by
     rcases hl9 e he with q|rfl
     ·exact ⟨toF (mi8 e q).1,(mi8 e q).2⟩
     ·exact ⟨toF cgb,pe.symm⟩
    have mF:hF.t.get (hb.n+4)=some (.map (mks l9)):=(kF _ (by omega) (by omega)).trans wM;have cgF:=toF cgb;rw [hhF] at miF mF cgF;refine qC (end_cd (v:= .agg [zb,iv (w.bandP G row wd (m+1)).2]) (d:=hz.n) res190 ?_ ?_ ⟨?_,zb,l9,rfl,mF,miF,cgF⟩)
    ·rw [xZM,xZZ,if_neg (by omega)];exact wd'
    ·have ne: ¬h.n+1=hz.n:=by omega
     simp only [sy.1,rE,reduceIte,rA,syp.1,w7,Hp.del_t,ne]
    ·exact (f10h.set (.inl ⟨by omega,by omega⟩) _).del (by omega) (by rw [xYT];omega)
theorem ft145 (xt:Xt):(SE xt).ft.get 145=some Tryz.f145:=by kernel_rfl
theorem res145:Tryz.f145.results.toList=[.cell 6 124]:=by kernel_rfl
def CgR (xt:Xt) (h:Hp) (c:Cg) (res:CR) (h':Hp):Prop:=Fr h.n h h'/\ ∃z,res= .ret (.agg [z,iv c.2])/\NewC xt h.n h' z c.1
theorem band_c (xt:Xt) (h:Hp) (w:Wk) (his:w.Is) (N M:Nat) (v:AV) (G:Th.Grid) (hbd:w.Bd xt h N M v G) (hbn:w.m.bnd=some G) (row wd:Nat) (hwd1:1<=wd) (hwd3:wd<=3):
  FnA (SE xt) 145 [.agg (w.bc v),iv (row:Int),iv (wd:Int)] h (CgR xt h (w.bandP G row wd w.m.W)):=by
 refine xZQ (sok xt) (ft145 xt) rfl 13 rfl ?_;obtain ⟨o1,o2,o3,o4,o5⟩:=hbd.at_.ones;refine qA fun K hn hp=> ?_;simp only [sw.1,rE,reduceIte,rL,rA,syp.1];apply hn;obtain ⟨h1,hh1,n1,s1,k1,f1⟩:=vQ h (.cells (w.bc v) 120);obtain ⟨h2,hh2,n2,s2,k2,f2⟩:=yJ f1 n1 (.cells [iv (row:Int)] 3);obtain ⟨h3,hh3,n3,s3,k3,f3⟩:=yJ f2 n2 (.cells [iv (wd:Int)] 3);obtain ⟨h4,hh4,n4,s4,k4,f4⟩:=yJ f3 n3 (.cells [.val (.slice none 0 0),iv 0] 124);simp only [<-hh1,<-hh2,<-hh3,<-hh4];clear hh1 hh2 hh3 hh4;simp only [rA] at n2 n3 n4 s3 s4;refine qA fun K hn hp=> ?_;have cm: ∀b,cellsOf (.mp b)=[.mp b]:=fun _=>rfl;have om: ∀b,Go.Ev.one (.mp b)=true:=fun _=>rfl;have of': ∀f a b,Go.Ev.one (.fn f a b)=true:=fun _ _ _=>rfl;simp only [sw.1,rE,reduceIte,rL,syp.1,cm,om,WOp_map];obtain ⟨h5,hh5,n5,s5,k5,f5⟩:=yJ f4 n4 (.map []);obtain ⟨h6,hh6,n6,s6,k6,f6⟩:=nsF f5 n5 (.cells [.val (.map none)] 241) (.cells [.mp (h.n+4)] 241);simp only [rA] at n5 n6 s5 s6 k6;rw [n5] at hh6;simp only [sy.1,<-hh5,n4];rw [<-hh6];apply hn;clear hh5 hh6;refine qA fun K hn hp=> ?_;simp only [sy.1,rL,syp.1,n6];obtain ⟨h7,hh7,n7,s7,k7,f7⟩:=yJ f6 n6 (.cells [.val .nilFunc] 125);simp only [rA] at n7 s7 k7;rw [<-hh7];apply hn;clear hh7;refine qA fun K hn hp=> ?_;simp only [sw.1,rE,reduceIte,rL,syp.1,s7];apply hn;obtain ⟨h8,hh8⟩: ∃h8:Hp,h8=h7.set (h.n+6) (.cells [slv h.n] 125):=⟨_,rfl⟩;rw [<-hh8];have n8:h8.n=h.n+7:=by rw [hh8,xYT,n7]
 have k8: ∀b,b<h.n+6->h8.t.get b=h7.t.get b:=fun b hb=>by rw [hh8,xZM,xZZ,if_neg (by omega)]
 have s8:h8.t.get (h.n+6)=some (.cells [slv h.n] 125):=by rw [hh8,xZM,xZZ,if_pos rfl]
 have f8:Fr h.n h h8:=by rw [hh8];exact f7.set (by omega) (by omega) _
 clear hh8;have t5:=(k8 (h.n+5) (by omega)).trans ((k7 _ (by omega)).trans s6);have t4:=(k8 (h.n+4) (by omega)).trans ((k7 _ (by omega)).trans ((k6 _ (by omega)).trans s5));have t3:=(k8 (h.n+3) (by omega)).trans ((k7 _ (by omega)).trans ((k6 _ (by omega)).trans ((k5 _ (by omega)).trans s4)));have t2:=(k8 (h.n+2) (by omega)).trans ((k7 _ (by omega)).trans ((k6 _ (by omega)).trans ((k5 _ (by omega)).trans ((k4 _ (by omega)).trans s3))));have t1:=(k8 (h.n+1) (by omega)).trans ((k7 _ (by omega)).trans ((k6 _ (by omega)).trans ((k5 _ (by omega)).trans ((k4 _ (by omega)).trans ((k3 _ (by omega)).trans s2)))));have t0:=(k8 h.n (by omega)).trans ((k7 _ (by omega)).trans ((k6 _ (by omega)).trans ((k5 _ (by omega)).trans ((k4 _ (by omega)).trans ((k3 _ (by omega)).trans ((k2 _ (by omega)).trans s1))))));have be:BEnv w h v row wd h8:=⟨f8,t0,t1,t2,t5,s8,by omega⟩;refine qA fun K hn hp=> ?_;simp only [sy.1,rE,reduceIte,rL,syp.1,s8];have bb:=band1_c xt w his h N M v G hbd hbn row wd hwd1 hwd3 w.m.W (xZY _) h8 [] (fun b=>b<h8.n) be t4 (fun e he=>(by cases he)) (fun b q=>q) (by omega);rw [xYK] at bb;refine vE (sok xt) (xZI bb fun res h9 hres=> ?_);obtain ⟨f9,z,l',rfl,m9,mi9,cg9⟩:=hres;have oz:=cg9.cuts.one;have u3:=(f9.get (k:=h.n+3) (by omega) (by omega)).trans t3;have f9h:Fr h.n h h9:=f9.toFr f8 (by omega) fun k e=>by omega
 have l9:=f9.le;simp only [sw.1,rE,reduceIte,rL,rA,syp.1,oz,u3];refine hn _ _ (qC (bX (v:= .agg [z,iv (w.bandP G row wd w.m.W).2]) res145 ?_ ⟨f9h.set (by omega) (by omega) _,z,rfl,?_⟩))
 ·simp only [sy.1,rE,reduceIte,rA,syp.1]
 ·exact (NewC.set (N:=h8.n) ⟨cg9.cuts,cg9.inn,fun b off n s e=>by have:=cg9.av b off n s e;omega⟩ (by omega) _).lower (by omega)
def Wk.packP (w:Wk) (G:Th.Grid):Nat->Cg
 |0=>([],0)
 |m+1=>gD (Wk.packP w G m) (Wk.packP w G m::(w.ws.filter fun x=>decide (x<=((m+1:Nat):Int))).map fun x=>((w.bandP G (w.m.cells.length - (m+1)) x.toNat w.m.W).1++(Wk.packP w G (m - (x.toNat - 1))).1,(w.bandP G (w.m.cells.length - (m+1)) x.toNat w.m.W).2+(Wk.packP w G (m - (x.toNat - 1))).2))
termination_by m=>m
decreasing_by all_goals omega
def Wk.pone (w:Wk) (G:Th.Grid) (m:Nat) (x:Int):Cg:=((w.bandP G (w.m.cells.length - (m+1)) x.toNat w.m.W).1++(w.packP G (m - (x.toNat - 1))).1,(w.bandP G (w.m.cells.length - (m+1)) x.toNat w.m.W).2+(w.packP G (m - (x.toNat - 1))).2)
def Wk.pcnd (w:Wk) (G:Th.Grid) (m k:Nat):List Cg:=w.packP G m::((w.ws.take k).filter fun x=>decide (x<=((m+1:Nat):Int))).map (w.pone G m)
theorem Wk.packP_zero (w:Wk) (G:Th.Grid):w.packP G 0=([],0):=by rw [Wk.packP]
theorem Wk.packP_succ (w:Wk) (G:Th.Grid) (m:Nat):w.packP G (m+1)=gD (w.packP G m) (w.pcnd G m w.ws.length):=by rw [Wk.packP,Wk.pcnd,xYJ];rfl
theorem Wk.pcnd_succ (w:Wk) (G:Th.Grid) (m k:Nat) {x:Int} (hx:w.ws[k]? =some x):w.pcnd G m (k+1)=w.pcnd G m k++if x<=((m+1:Nat):Int) then [w.pone G m x] else []:=by
 simp only [Wk.pcnd,xYC,hx,Option.toList_some,xXU,xYY,xXS];by_cases q:x<=((m+1:Nat):Int)
 ·simp only [if_pos q,xYI,decide_eq_true q,xYD,if_true,xZD,xYX]
 ·simp only [if_neg q,xYI,decide_eq_false q,xYD,xYV,if_false,xYX]
theorem Wk.Is.packP_bd {w:Wk} (his:w.Is) {G:Th.Grid} (hb:w.m.bnd=some G): ∀m,(w.packP G m).1.length<=8*m/\0<=(w.packP G m).2/\(w.packP G m).2<=52000*m:=by
 intro m;induction m using xYO with
 |ind m ih=>
 cases m with
 |zero=>rw [Wk.packP_zero];simp
 |succ m=>
  have i1:=ih m (by omega);have c8:=his.m.c8;have key: ∀c∈w.pcnd G m w.ws.length,c.1.length<=8*(m+1)/\0<=c.2/\c.2<=52000*((m+1:Nat):Int):=by
   intro c hc;rcases xYA.1 hc with rfl|hc
   ·omega
   ·obtain ⟨x,hx,rfl⟩:=xZK.1 hc;obtain ⟨hx1,hx2⟩:=xYE.1 hx;have i2:=ih (m - (x.toNat - 1)) (by omega);have i3:=his.bandP_bd hb (w.m.cells.length - (m+1)) x.toNat w.m.W;simp only [Wk.pone,xYW];omega
  rw [Wk.packP_succ];rcases qAX (c0:=w.packP G m) (l:=w.pcnd G m w.ws.length) with e|e
  ·rw [e];omega
  ·exact key _ e
abbrev CgL:=List (AV×Cg)
theorem ft73 (xt:Xt):(SE xt).ft.get 73=some Tryz.f73:=by kernel_rfl
theorem res73:Tryz.f73.results.toList=[.cell 4 124]:=by kernel_rfl
theorem pack1_c (xt:Xt) (w:Wk) (his:w.Is) (N M:Nat) (v:AV) (G:Th.Grid) (hbn:w.m.bnd=some G): ∀m,m<=w.m.cells.length-> ∀h:Hp,w.Bd xt h N M v G->
  FnA (SE xt) 73 [.agg (w.bc v),iv ((w.m.cells.length - m:Nat):Int)] h (CgR xt h (w.packP G m)):=by
 intro m;induction m using xYO with
 |ind m ih=>
 intro hm h hbd;refine xZQ (sok xt) (ft73 xt) rfl 47 rfl ?_;have c8:=his.m.c8;have r6:=his.m.r6;have w3:=Wk.ws_len his;obtain ⟨o1,o2,o3,o4,o5⟩:=hbd.at_.ones;have onev:=hbd.sg.one;obtain ⟨fr0,hfr0⟩: ∃fr0:Nat,fr0=w.m.cells.length - m:=⟨_,rfl⟩;rw [<-hfr0];refine qA fun K hn hp=> ?_;simp only [sw.1,rE,reduceIte,rL,syp.1];apply hn;obtain ⟨h1,hh1,n1,s1,k1,f1⟩:=vQ h (.cells (w.bc v) 120);obtain ⟨h2,hh2,n2,s2,k2,f2⟩:=yJ f1 n1 (.cells [.val (.slice none 0 0),iv 0] 124);simp only [<-hh1,<-hh2];clear hh1 hh2;have u0:=(k2 h.n (by omega)).trans s1;simp only [rA] at n2;have b2:=hbd.fr f2 (xZY _);refine qB fun K hn hp=> ?_;simp only [sy.1,rE,reduceIte,rL,rA,u0];refine cAS (pC xt h2 w b2.at_ v onev fun m3 hm3=> ?_);simp only [sy.1,rE,reduceIte,rL];apply hn;obtain ⟨h3,hh3⟩: ∃h3,h3=h2.up m3:=⟨_,rfl⟩;rw [<-hh3];have n3:h.n+2<h3.n:=by rw [hh3,xZH];omega
 have f3:Fr h.n h h3:=by rw [hh3];exact f2.up (xZP hm3)
 have s3:h3.t.get (h.n+1)=some (.cells [.val (.slice none 0 0),iv 0] 124):=by rw [hh3];exact s2
 have u3:h3.t.get h.n=some (.cells (w.bc v) 120):=by rw [hh3];exact u0
 have b3:=hbd.fr f3 (xZY _);clear hh3;cases m with
 |zero=>
  have d:decide ((w.m.cells.length:Int)<=(fr0:Int))=true:=decide_eq_true (by omega);refine qW (by simp only [sy.1,rE,reduceIte,d]) ?_;refine qB fun K hn hp=> ?_;simp only [sw.1,rE,reduceIte,rL,rA,syp.1,s3,bd125z];apply hn;refine qQ (bX (v:= .agg [.val (.slice none 0 0),iv 0]) res73 ?_ ⟨f3.set (by omega) (by omega) _,.val (.slice none 0 0),?_,?_⟩)
  ·simp only [sy.1,rE,reduceIte,rA,syp.1,s3]
  ·rw [Wk.packP_zero]
  ·rw [Wk.packP_zero];exact ⟨Cuts.nil,fun _ _ _ e=>(by cases e),fun _ _ _ _ e=>(by cases e)⟩
 |succ m=>
  have d:decide ((w.m.cells.length:Int)<=(fr0:Int))=false:=decide_eq_false (by omega);refine jB (by simp only [sy.1,rE,reduceIte,d]) ?_;have w1:IntKind.i64.wrap ((fr0:Int)+1)=((w.m.cells.length - m:Nat):Int):=by rw [qG _ (by omega) (by omega)];omega
  refine qA fun K hn hp=> ?_;simp only [sy.1,rE,reduceIte,rL,rA,u3,w1];refine cAS (xZI (ih m (by omega) (by omega) h3 b3) fun res h5 hres=> ?_);obtain ⟨f5,z1,rfl,nc5⟩:=hres;have cz1:=nc5.cuts.cells;simp only [sy.1,rE,reduceIte,rL,cz1,jF,bs192];obtain ⟨h6,hh6,n6,s6,k6,f6⟩:=vQ h5 (.cells [z1,iv (w.packP G m).2] 124);rw [<-hh6];apply hn;clear hh6;have l5:=f5.le;have f6h:Fr h.n h h6:=(f3.trans f5 (by omega)).trans f6 (by omega);have b6:=hbd.fr f6h (xZY _);have u6:=(k6 h.n (by omega)).trans ((f5.at_ _ (.inl (by omega))).trans u3);have v6:=(k6 (h.n+1) (by omega)).trans ((f5.at_ _ (.inl (by omega))).trans s3);refine qB fun K hn hp=> ?_;simp only [sy.1,rE,reduceIte,rL,rA,u6];refine cAS (xZI (qFe xt h6 w b6.at_ his v onev) fun res h7 hres=> ?_);obtain ⟨f7,zw,rfl,rw7,low⟩:=hres;have lzw: ∀h',zA tb h' 75 zw=some w.ws.length:=fun h'=>by have:=rw7.len (h':=h') yG rfl;simpa using this
  simp only [sy.1,rE,reduceIte,rL,syw.1,lzw];apply hn;have l7:=f7.le;have f57:Fr h5.n h5 h7:=f6.trans f7 (by omega);have cr7:CRows xt h7 h5.n (.sl h5.n 0 1 2) [(z1,w.packP G m)]:=by
   refine ⟨.inr ⟨h5.n,rfl,xZY _,by omega,?_,rfl⟩,fun e he=> ?_⟩
   ·rw [f7.at_ h5.n (.inl (by omega)),s6];rfl
   ·rw [xZN] at he;subst he;exact ⟨nc5.cuts.fr f57 (xZY _),fun b off n s e off' n' s' e'=>by cases e';have:=nc5.cuts.row.lt e;omega⟩
  have f7h:Fr h.n h h7:=f6h.trans f7 (by omega);have u7:=(f7.at_ h.n (.inl (by omega))).trans u6;have v7:=(f7.at_ (h.n+1) (.inl (by omega))).trans v6;refine qD fun KA A1 A2 A3 A4 A5=> ?_;refine qM (sok xt) (fun st=> ∃(k:Nat) (av:AV) (es:CgL) (hg:Hp) (tm:T AV),st=⟨tm,47,hg,[]⟩/\k<=w.ws.length/\tm.get 1=some (iv (fr0:Int))/\tm.get 2=some (.ptr h.n 0)/\tm.get 4=some (.ptr (h.n+1) 0)/\tm.get 5=some (av)/\tm.get 19=some (zw)/\tm.get 20=some (iv (w.ws.length:Int))/\tm.get 21=some (iv k)/\Fr h5.n h7 hg/\RowAt xt hg 1 zw (w.ws.map c1)/\wN av zw/\CRows xt hg h5.n av es/\es.map Prod.snd=w.pcnd G m k/\(∀e∈es,Inn e.1/\ ∀b off n s,e.1= .sl b off n s->h.n+2<=b)) (fun st=>w.ws.length - (match st.tm.get 21 with|some (.val (.int _ n))=>n.toNat|_=>0)) ?_ ?_
  ·rintro st ⟨k,av,es,hg,tm,rfl,hkA,g1,g2,g4,g5,g19,g20,g21,fg,rwg,apg,crg,mpg,ing⟩;have muA:=g21;have fgh:Fr h.n h hg:=f7h.trans fg (by omega);have lg:=fg.le;have ug:=(fg.at_ h.n (.inl (by omega))).trans u7;have vg:=(fg.at_ (h.n+1) (.inl (by omega))).trans v7;refine qA fun K hn hp=> ?_;simp only [sy.1,rL,qV,g20,g21];apply hn;by_cases hk:k<w.ws.length
   ·refine jC (by simp only [sy.1,reduceIte,hk]) ?_;obtain ⟨x,hx⟩: ∃x,w.ws[k]? =some x:=⟨_,xZX hk⟩;have hxm:=xZL hx;have hx13:=Wk.ws_mem his hxm;obtain ⟨xn,rfl⟩: ∃xn:Nat,x=(xn:Int):=⟨x.toNat,by omega⟩;have i1:=rwg.idx yG rfl tg3 rfl (i:=k) (by simpa using hk) (k:= .i64);have i2:=rwg.load0 tg3 rfl (i:=k) (c:=c1 (xn:Int)) (by rw [xZR,hx];rfl) rfl;simp only [Nat.mul_one] at i1 i2;refine qD fun KB B1 B2 B3 B4 B5=> ?_;refine qA fun K hn hp=> ?_;simp only [sy.1,rE,reduceIte,rL,g19,g21,i1,i2];apply hn;have w2:IntKind.i64.wrap ((fr0:Int)+(xn:Int))=((fr0+xn:Nat):Int):=by rw [qG _ (by omega) (by omega)];omega
    have bg:=hbd.fr fgh (xZY _);refine qA fun K hn hp=> ?_;simp only [sy.1,rE,reduceIte,rL,rA,g1,g2,ug,w2];refine cAS (pC xt hg w bg.at_ v onev fun m8 hm8=> ?_);simp only [sy.1,rE,reduceIte,rL];apply hn;obtain ⟨hA,hhA⟩: ∃hA,hA=hg.up m8:=⟨_,rfl⟩;rw [<-hhA];have fA:Fr hg.n hg hA:=by rw [hhA];exact (xZO (xZY _)).up (xZP hm8)
    have uA:hA.t.get h.n=some (.cells (w.bc v) 120):=by rw [hhA];exact ug
    have nA:hg.n<hA.n:=by rw [hhA,xZH];exact hm8
    have bA:=bg.fr fA (xZY _);have crA:=crg.fr fA (xZY _);have rwA:=rwg.fr fA (xZY _);clear hhA;by_cases q:fr0+xn<=w.m.cells.length
    ·have dq:decide (((fr0+xn:Nat):Int)<=(w.m.cells.length:Int))=true:=decide_eq_true (by omega);refine wcT (by simp only [sy.1,rE,reduceIte,dq]) ?_;have em:(w.m.cells.length - (m - (xn - 1)):Nat)=fr0+xn:=by omega
     refine regG (sok xt) 12 [11] [] [(5,0)] (by kernel_rfl) fun K hn hp=> ?_;simp only [sy.1,rE,reduceIte,rL,rA,syw.1,g1,g2,g5,uA,syg.1,xYV,jF];refine cAS (FnA.inc (xZI (band_c xt hA w his N M v G bA hbn fr0 xn (by omega) (by omega)) fun res hB0 hres=> ?_));obtain ⟨fB0,zB,rfl,ncB0⟩:=hres;obtain ⟨hB,hhB⟩: ∃hB,hB=hB0.up (hB0.n+1):=⟨_,rfl⟩;have fB:Fr hA.n hA hB:=by rw [hhB];exact fB0.up (xZT _)
     have ltB:hA.n<hB.n:=by have:=fB0.lo;rw [hhB,xZH];omega
     have ncB:NewC xt hA.n hB zB (w.bandP G fr0 xn w.m.W).1:=by rw [hhB];exact ncB0.fr ((xZO (xZY _)).up (xZT _)) (xZY _)
     rw [<-hhB];clear hhB fB0 ncB0;have uB:=(fB.at_ h.n (.inl (by omega))).trans uA;have bB:=bA.fr fB (xZY _);simp only [sy.1,rE,reduceIte,rL,rA,g1,g2,uA,uB,syg.1,wI ltB,w2];rw [<-em];refine cAS (FnA.inc (xZI (ih (m - (xn - 1)) (by omega) (by omega) hB bB) fun res hC0 hres=> ?_));obtain ⟨fC0,zC,rfl,ncC0⟩:=hres;obtain ⟨hC,hhC⟩: ∃hC,hC=hC0.up (hC0.n+1):=⟨_,rfl⟩;have fC:Fr hB.n hB hC:=by rw [hhC];exact fC0.up (xZT _)
     have ltC:hB.n<hC.n:=by have:=fC0.lo;rw [hhC,xZH];omega
     have ncC:NewC xt hB.n hC zC (w.packP G (m - (xn - 1))).1:=by rw [hhC];exact ncC0.fr ((xZO (xZY _)).up (xZT _)) (xZY _)
     rw [<-hhC];clear hhC fC0 ncC0;simp only [sy.1,rE,reduceIte,rL,wI ltC];have bd1:=his.bandP_bd hbn fr0 xn w.m.W;have bd2:=his.packP_bd hbn (m - (xn - 1));refine cAS (FnA.inc (xZI (then_c xt hC zB zC (w.bandP G fr0 xn w.m.W) (w.packP G (m - (xn - 1))) (ncB.fr fC (xZY _)).cuts ncC.cuts ncB.inn ncC.inn (by omega) bd1.2.1 (by omega) bd2.2.1 (by omega)) fun res hD0 hres=> ?_));obtain ⟨fD0,zD,rfl,ncD0⟩:=hres;obtain ⟨hD,hhD⟩: ∃hD,hD=hD0.up (hD0.n+1):=⟨_,rfl⟩;have fD:Fr hC.n hC hD:=by rw [hhD];exact fD0.up (xZT _)
     have ltD:hC.n<hD.n:=by have:=fD0.lo;rw [hhD,xZH];omega
     have ncD:NewC xt hC.n hD zD ((w.bandP G fr0 xn w.m.W).1++(w.packP G (m - (xn - 1))).1):=by rw [hhD];exact ncD0.fr ((xZO (xZY _)).up (xZT _)) (xZY _)
     rw [<-hhD];clear hhD fD0 ncD0;have czD:=ncD.cuts.cells;have fAD:Fr hA.n hA hD:=(fB.trans fC (by omega)).trans fD (by omega);have crD:=crA.fr fAD (xZY _);have rwD:=rwA.fr fAD (xZY _);have les:es.length<=1000000:=by
      have e1:es.length=(w.pcnd G m k).length:=by rw [<-mpg,xZU]
      rw [e1,Wk.pcnd,xZA,xZU];have:=xZF (fun x=>decide (x<=((m+1:Nat):Int))) (w.ws.take k);rw [xYR] at this;omega
     obtain ⟨v',hE,p1,p2,p3,p4,p5,p6⟩:=crD.append (by omega) (z:=zD) (c:=((w.bandP G fr0 xn w.m.W).1++(w.packP G (m - (xn - 1))).1,(w.bandP G fr0 xn w.m.W).2+(w.packP G (m - (xn - 1))).2)) ncD.cuts (fun b off n s e off' n' s' e'=>by
      have:=ncD.lo b off n s e;rcases crA.own with ⟨_,_,o⟩|⟨b',o,_,o2,_⟩
      ·rw [o] at e';cases e'
      ·rw [o] at e';cases e';omega) (by omega)
     have p1':qS Tryz.prog tb xt .append [193,193] [av,.sl hD.n 0 1 2] {t:=hD.t.put (some (.cells [zD,iv ((w.bandP G fr0 xn w.m.W).2+(w.packP G (m - (xn - 1))).2)] 124)) hD.n,n:=hD.n+1}=some (v',hE):=p1;simp only [sy.1,rE,reduceIte,rL,czD,syg.1,wI ltD,bs192,p1'];refine hn _ _ (B1 _ ?_);refine reg fun K hn hp=> ?_;simp only [sy.1,rE,reduceIte,rL,g21,qF hk (show w.ws.length<=9223372036854775807 by omega)];apply hn;refine ⟨⟨k+1,v',es++[(zD,_)],hE,_,rfl,by omega,(by simp [xZZ,g1]),(by simp [xZZ,g2]),(by simp [xZZ,g4]),(by simp [xZZ]),(by simp [xZZ,g19]),(by simp [xZZ,g20]),(by simp [xZZ]),((fg.trans fA (by omega)).trans fAD (by omega)).trans p3 (by omega),?_,?_,p2,?_,?_⟩,by simpa [xZZ,muA] using (by omega:w.ws.length - (k+1)<w.ws.length - k)⟩
     ·exact rwD.keepB p3.le fun b off n s e hb=>p5 b hb fun off' n' s' e'=>apg b off n s e off' n' s' e'
     ·intro b off n s e off' n' s' e';have:=rwD.lt e;rw [p4] at e';cases e';omega
     ·rw [Wk.pcnd_succ w G m k hx,if_pos (by omega),xYY,mpg];simp only [Wk.pone,xZD,xYX,xZC,<-hfr0]
     ·intro e he;rcases xYP.1 he with he|he
      ·exact ing e he
      ·rw [xZN] at he;subst he;exact ⟨ncD.inn,fun b off n s e=>by have:=ncD.lo b off n s e;omega⟩
    ·have dq:decide (((fr0+xn:Nat):Int)<=(w.m.cells.length:Int))=false:=decide_eq_false (by omega);refine wcF (by simp only [sy.1,rE,reduceIte,dq]) ?_;refine qR (B1 _ ?_);refine reg fun K hn hp=> ?_;simp only [sy.1,rE,reduceIte,rL,g21,qF hk (show w.ws.length<=9223372036854775807 by omega)];apply hn;refine ⟨⟨k+1,av,es,hA,_,rfl,by omega,(by simp [xZZ,g1]),(by simp [xZZ,g2]),(by simp [xZZ,g4]),(by simp [xZZ,g5]),(by simp [xZZ,g19]),(by simp [xZZ,g20]),(by simp [xZZ]),fg.trans fA (by omega),rwA,apg,crA,?_,ing⟩,by simpa [xZZ,muA] using (by omega:w.ws.length - (k+1)<w.ws.length - k)⟩;rw [Wk.pcnd_succ w G m k hx,if_neg (by omega),List.append_nil];exact mpg
   ·refine jD (by simp only [sy.1,reduceIte,hk]) ?_;refine qL (A2 _ ?_);obtain rfl:k=w.ws.length:=by omega
    obtain ⟨e0,es',hes⟩: ∃e0 es',es=e0::es':=by
     cases es with
     |nil=>simp [Wk.pcnd] at mpg
     |cons e0 es'=>exact ⟨e0,es',rfl⟩
    have he0:e0.2=w.packP G m:=by
     rw [hes] at mpg;simp only [xZD,Wk.pcnd,List.cons.injEq] at mpg;exact mpg.1
    have hbst:(xE e0 es).2=w.packP G (m+1):=by rw [qF3,mpg,he0,Wk.packP_succ]
    have les:es.length<=1000000:=by
     have e1:es.length=(w.pcnd G m w.ws.length).length:=by rw [<-mpg,xZU]
     rw [e1,Wk.pcnd,xZA,xZU];have:=xZF (fun x=>decide (x<=((m+1:Nat):Int))) (w.ws.take w.ws.length);rw [xYR] at this;omega
    refine qA fun K hn hp=> ?_;simp only [sy.1,rE,reduceIte,rL,g5];refine cAS (best_c xt hg h5.n av es crg e0 (by rw [hes];rfl) les fun m9 hm9=> ?_);obtain ⟨zb,hzb⟩: ∃zb,zb=(xE e0 es).1:=⟨_,rfl⟩;have cgb:NewC xt (h.n+2) hg zb (w.packP G (m+1)).1:=by
     rw [hzb,<-hbst];have key: ∀e∈es,NewC xt (h.n+2) hg e.1 e.2.1:=fun e he=>⟨(crg.at_ e he).1,(ing e he).1,(ing e he).2⟩;rcases qC4 (e0:=e0) es with e|e
     ·rw [e];exact key _ (by rw [hes];exact xZB)
     ·exact key _ e
    rw [<-hzb,hbst];have ozb:=cgb.cuts.one;simp only [sw.1,rE,reduceIte,rL,rA,syp.1,g4,vg,ozb];refine hn _ _ (qC (bX (v:= .agg [zb,iv (w.packP G (m+1)).2]) res73 ?_ ⟨(fgh.up (xZP hm9)).set (by omega) (by simp only [xZH];omega) _,zb,rfl,?_⟩))
    ·simp only [sy.1,rE,reduceIte,rA,syp.1,g4,vg]
    ·exact (NewC.set (N:=h.n+2) (cgb.fr ((xZO (xZY _)).up (xZP hm9)) (xZY _)) (by omega) _).lower (by omega)
  ·have ap0:wN (.sl h5.n 0 1 2) zw:=fun b off n s e off' n' s' e'=>by cases e';have:=low _ _ _ _ e;omega
   have mp0:([(z1,w.packP G m)]:CgL).map Prod.snd=w.pcnd G m 0:=by simp [Wk.pcnd]
   have in0: ∀e∈([(z1,w.packP G m)]:CgL),Inn e.1/\ ∀b off n s,e.1= .sl b off n s->h.n+2<=b:=fun e he=>by
    rw [xZN] at he;subst he;exact ⟨nc5.inn,fun b off n s e=>by have:=nc5.lo b off n s e;omega⟩
   exact ⟨0,_,_,h7,_,rfl,(by omega),(by simp [xZZ]),(by simp [xZZ]),(by simp [xZZ]),(by simp [xZZ]),(by simp [xZZ]),(by simp [xZZ]),(by simp [xZZ]),xZO (by omega),rw7,ap0,cr7,mp0,in0⟩
def Wk.pkd (w:Wk):Cg×Int:=
 if w.ok=true then
  match w.m.bnd with
  |none=>(([],0),7)
  |some G=>(w.packP G w.m.cells.length,0)
 else (([],0),2)
theorem ft17 (xt:Xt):(SE xt).ft.get 17=some Tryz.f17:=by kernel_rfl
theorem res17:Tryz.f17.results.toList=[.tmp 2,.tmp 3,.tmp 4]:=by kernel_rfl
theorem end_3 {E:Env} {fn:Func} {K:KP} {tm:T AV} {nt:Nat} {h:Hp} {a b c:Tmp} (h1:fn.results.toList=[.tmp a,.tmp b,.tmp c]) (h3:K (.ret (.tup [(tm.get a).getD default,(tm.get b).getD default,(tm.get c).getD default])) h):xX E fn K .ret ⟨tm,nt,h,[]⟩:=by
 refine ⟨h,_,rfl,by rw [h1];rfl,?_⟩;have e1:(match tm.get a with|some a=>a|none=>default)=(tm.get a).getD default:=by cases tm.get a<;>rfl
 have e2:(match tm.get b with|some a=>a|none=>default)=(tm.get b).getD default:=by cases tm.get b<;>rfl
 have e3:(match tm.get c with|some a=>a|none=>default)=(tm.get c).getD default:=by cases tm.get c<;>rfl
 show K (.ret (.tup [match tm.get a with|some a=>a|none=>default,match tm.get b with|some a=>a|none=>default,match tm.get c with|some a=>a|none=>default])) h;rw [e1,e2,e3];exact h3
theorem packd_c (xt:Xt) (h:Hp) (w:Wk) (ha:w.At xt h):
  FnA (SE xt) 17 [w.av] h (fun res h'=>Fr h.n h h'/\ ∃z,res= .ret (.tup [z,iv w.pkd.1.2,iv w.pkd.2])/\Cuts xt h' z w.pkd.1.1):=by
 refine xZQ (sok xt) (ft17 xt) rfl 25 rfl ?_;obtain ⟨o1,o2,o3,o4,o5⟩:=ha.ones;refine qA fun K hn hp=> ?_;simp only [sw.1,reduceIte,rL];apply hn;obtain ⟨h1,hh1,n1,s1,k1,f1⟩:=vQ h (.cells w.cs 30);rw [<-hh1];clear hh1;have ha1:=ha.fr f1 (xZY _);refine qB fun K hn hp=> ?_;simp only [sy.1,rE,reduceIte,rL,rA,s1];refine cAS (qAD xt _ w ha1 fun m1 hm1=> ?_);cases e1:w.ok
 ·simp only [sy.1,rE,reduceIte,rL];apply hn;refine qW (by simp only [sy.1,rE,reduceIte]) ?_;refine qB fun K hn hp=> ?_;simp only [sy.1,rL];apply hn;refine qQ (end_3 res17 ⟨f1.up (xZP hm1),.val (.slice none 0 0),?_,?_⟩)
  ·simp [xZZ,Wk.pkd,e1]
  ·simp only [Wk.pkd,e1];exact Cuts.nil
 have his:=Wk.ok_is e1;simp only [sy.1,rE,reduceIte,rL];apply hn;refine jB (by simp only [sy.1,rE,reduceIte]) ?_;refine qA fun K hn hp=> ?_;simp only [sy.1,rE,reduceIte,rL,rA,s1];have ha2:=ha1.up (n:=m1) (by omega);refine cAS (xZI (qAY xt (h1.up m1) w ha2 _ _ his.m) fun res h4 hres=> ?_);obtain ⟨f4,hres⟩:=hres;have n4:m1<=h4.n:=f4.lo;have f4h:Fr h.n h h4:=(f1.up (m:=m1) (by omega)).trans f4 (by simp only [xZH];omega);change match w.m.bnd with|some G=>_|none=>_ at hres
 cases hb:w.m.bnd with
 |none=>
  rw [hb] at hres;subst hres;simp only [sw.1,rE,reduceIte,rL,rA,sv.1];obtain ⟨h5,hh5,n5,s5,k5,f5⟩:=nsE h4 (.cells xR 120) (.cells xR 120);rw [<-hh5];apply hn;clear hh5;refine qB fun K hn hp=> ?_;simp only [sy.1,rE,reduceIte,rL];apply hn;refine qW (by simp only [sy.1,rE,reduceIte,d70]) ?_;refine qB fun K hn hp=> ?_;simp only [sy.1,rE,reduceIte,rL];apply hn;refine qQ (end_3 res17 ⟨f4h.trans f5 (by omega),.val (.slice none 0 0),?_,?_⟩)
  ·simp [xZZ,Wk.pkd,e1,hb]
  ·simp only [Wk.pkd,e1,hb];exact Cuts.nil
 |some G=>
  rw [hb] at hres;obtain ⟨v,M,rfl,sg,m1',m2'⟩:=hres;have onev:=sg.one;simp only [sw.1,rE,reduceIte,rL,rA,sv.1,o1,o2,o3,o4,o5,onev];obtain ⟨h5,hh5,n5,s5,k5,f5⟩:=nsE h4 (.cells xR 120) (.cells (w.bc v) 120);rw [<-hh5];apply hn;clear hh5;have f5h:=f4h.trans f5 (by omega);have ha5:=ha.fr f5h (xZY _);refine qB fun K hn hp=> ?_;simp only [sy.1,rE,reduceIte,rL];apply hn;refine jB (by simp only [sy.1,rE,reduceIte]) ?_;have sg5:SG h5 (h1.up m1).n M v _ _ G:=sg.keep fun k _ hk=>k5 k (by omega);have bd5:w.Bd xt h5 (h1.up m1).n M v G:=⟨ha5,sg5,by omega⟩;have pk:=pack1_c xt w his _ M v G hb w.m.cells.length (xZY _) h5 bd5;rw [xYK] at pk;refine qA fun K hn hp=> ?_;simp only [sy.1,rE,reduceIte,rL,rA,s5];refine cAS (xZI pk fun res h6 hres=> ?_);obtain ⟨f6,z,rfl,nc⟩:=hres;have oz:=nc.cuts.one;simp only [sw.1,rE,reduceIte,rL,rA,syp.1,oz];obtain ⟨h7,hh7,n7,s7,k7,f7⟩:=nsE h6 (.cells [.val (.slice none 0 0),iv 0] 124) (.cells [z,iv (w.packP G w.m.cells.length).2] 124);rw [<-hh7];apply hn;clear hh7;refine zM (sok xt) 5 (by kernel_rfl) fun K hn hp=> ?_;simp only [sy.1,rE,reduceIte,rL,syp.1,s7];refine hn _ _ (qC (end_3 res17 ⟨(f5h.trans f6 (by omega)).trans f7 (by have:=f6.lo;omega),z,?_,?_⟩))
  ·simp [xZZ,Wk.pkd,e1,hb]
  ·simp only [Wk.pkd,e1,hb];exact nc.cuts.fr f7 (xZY _)
end Go.Proofs.Kn
