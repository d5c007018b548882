/- Parts. -/
import Derived.Test.YthimlgffanlomaaGreatDoorQN1
import Derived.Test.YthimlgffanlomaaGreatDoorQW
set_option linter.all false
open Nat renaming reduceEqDiff → rE, reduceLeDiff → rD, reduceAdd → rA, reduceMul → rM, reduceLT → rL
open Go.Ev.T renaming get_put → xZZ
open Nat renaming le_refl → xZY, ble_eq → xZV, le_of_lt → xZR, blt_eq → xZP
open Go.Ev.FnA renaming walk → xZX, mono → xZQ
open List renaming getElem?_map → xZW, getElem?_eq_some_iff → xZT, take_of_length_le → xZS, length_take → xZO
open Option renaming map_none → xZU
namespace Go.Proofs.Kn
open Go Go.Ev
set_option maxRecDepth 100000
set_option maxHeartbeats 4000000
theorem ft225 (xt:Xt):(SE xt).ft.get 185=some Tryz.f185:=by kernel_rfl
theorem res225:Tryz.f185.results.toList=[.tmp 2]:=by kernel_rfl
theorem isNaN_c (xt:Xt) (h:Hp) (a:Int) {K:KP} (hk: ∀k,h.n<k->K (.ret (.val (.bool false))) (h.up k)):FnA (SE xt) 185 [iv a] h K:=by
 refine FnA.calm ?_ hk;clear hk K;refine xZX (sok xt) (ft225 xt) rfl 6 rfl ?_;refine qA fun K hn hp=> ?_;simp only [sw.1,rL];apply hn;refine qA fun K hn hp=> ?_;simp only [sy.1,rE,reduceIte,rL];apply hn;refine qD (qK res225 ⟨?_,Fr.refl (xZY _)⟩);simp [xZZ]
def cmpI (a b:Int):Int:=if a<b then -1 else if b<a then 1 else 0
def orL:List Int->Int
 |[]=>0
 |x::l=>if x=0 then orL l else x
def bef (a b:Int×Int×Int):Int:=orL [cmpI a.1 b.1,cmpI a.2.1 b.2.1,cmpI a.2.2 b.2.2]
theorem ft245 (xt:Xt):(SE xt).ft.get 205=some Tryz.f205:=by kernel_rfl
theorem res245:Tryz.f205.results.toList=[.tmp 4]:=by kernel_rfl
theorem less_c (xt:Xt) (h:Hp) (a b:Int) {K:KP} (hk: ∀k,h.n<k->K (.ret (.val (.bool (decide (a<b))))) (h.up k)):FnA (SE xt) 205 [iv a,iv b] h K:=by
 refine FnA.calm ?_ hk;clear hk K;refine xZX (sok xt) (ft245 xt) rfl 17 rfl ?_;refine qA fun K hn hp=> ?_;simp only [sw.1,rL];apply hn;refine qA fun K hn hp=> ?_;simp only [sy.1,rE,reduceIte,rL];refine cAS (isNaN_c xt h a fun m1 hm1=> ?_);simp only [sy.1,rE,reduceIte,rL];refine hn _ _ (qD (qK res245 ⟨?_,(Fr.refl (xZY _)).up (xZR hm1)⟩));simp [xZZ]
def swp (l:List Int) (j:Nat):List Int:=(l.set j (l.getD (j - 1) 0)).set (j - 1) (l.getD j 0)
def insJ:Nat->List Int->List Int
 |0,l=>l
 |j+1,l=>if l.getD (j+1) 0<l.getD j 0 then insJ j (swp l (j+1)) else l
def qBo (l:List Int):Nat->List Int
 |0=>l
 |k+1=>insJ (k+1) (qBo l k)
theorem swp_len (l:List Int) (j:Nat):(swp l j).length=l.length:=by simp [swp]
theorem qFG: ∀(j:Nat) (l:List Int),(insJ j l).length=l.length
 |0,_=>rfl
 |j+1,l=>by
  simp only [insJ];split
  ·rw [qFG,swp_len]
  ·rfl
theorem qCP (l:List Int): ∀k,(qBo l k).length=l.length
 |0=>rfl
 |k+1=>by rw [qBo,qFG,qCP l k]
theorem wK {b n j:Nat} (hj:j<n):qM tb 31 (.sl b 0 n 1) (iv (j:Int))=some (.ptr b j):=by
 have e1:qAm (iv (j:Int))=some (Int.ofNat j):=rfl;have e2:Nat.blt j n=true:=by rw [xZP];exact hj
 have d75:te31.d= .slice 3:=rfl;have s3:te3.size=1:=rfl;simp [qM,vX,e1,d75,tg3,e2,s3]
theorem vD {l:List Int} {j:Nat} (hj:j<l.length):(ivs l)[j]? =some (iv (l.getD j 0)):=by
 rw [ivs,xZW,List.getD_eq_getElem?_getD,List.getElem?_eq_getElem hj];rfl
theorem qEu (l:List Int) (j:Nat) (x:Int):(ivs l).set j (iv x)=ivs (l.set j x):=by
 rw [ivs,ivs,List.map_set]
theorem vC (l:List Int):(ivs l).length=l.length:=by simp [ivs]
theorem ft239 (xt:Xt):(SE xt).ft.get 199=some Tryz.f199:=by kernel_rfl
theorem res239:Tryz.f199.results.toList=[]:=by kernel_rfl
theorem insS_c (xt:Xt) (h:Hp) (b n:Nat) (l:List Int) (hl:l.length=n) (h1:1<=n) (h12:n<=12) (hb:b<h.n) (hm:h.t.get b=some (.cells (ivs l) 3)):
  FnA (SE xt) 199 [.sl b 0 n 1,iv 0,iv (n:Int)] h (fun res h'=>(∃r,res= .ret r)/\FrM (fun x=>x=b) h.n h h'/\h'.t.get b=some (.cells (ivs (qBo l (n - 1))) 3)):=by
 refine xZX (sok xt) (ft239 xt) rfl 49 rfl ?_;have w0:IntKind.i64.wrap ((0:Int)+1)=((1:Nat):Int):=by decide
 refine qA fun K hn hp=> ?_;simp only [sw.1,rE,reduceIte,rL,rA,w0];apply hn;refine qY fun KA A1 A2 A3 A4 A5=> ?_;refine qI (sok xt) (fun st=> ∃(i:Nat) (hg:Hp) (tm:T AV),st=⟨tm,49,hg,[]⟩/\i<=n/\tm.get 0=some (.sl b 0 n 1)/\tm.get 1=some (iv 0)/\tm.get 2=some (iv (n:Int))/\tm.get 6=some (iv i)/\1<=i/\FrM (fun x=>x=b) h.n h hg/\hg.t.get b=some (.cells (ivs (qBo l (i - 1))) 3)) (fun st=>n - (match st.tm.get 6 with|some (.val (.int _ n))=>n.toNat|_=>0)) ?_ ?_
 ·rintro st ⟨i,hg,tm,rfl,hkA,g0,g1,g2,g6,hi1,fg,sg⟩;have muA:=g6;refine qB fun K hn hp=> ?_;simp only [sy.1,rE,reduceIte,rL,qR,g2,g6];apply hn;by_cases hi:i<n
  ·refine qV (by simp only [sy.1,rE,reduceIte,hi]) ?_;refine qC fun KB B1 B2 B3 B4 B5=> ?_;refine qA fun K hn hp=> ?_;simp only [sy.1,rE,reduceIte,rL,g6];apply hn;refine qY fun KD D1 D2 D3 D4 D5=> ?_;refine qI (sok xt) (fun st=> ∃(q:Nat) (j:Nat) (L:List Int) (hd:Hp) (tm:T AV),st=⟨tm,49,hd,[]⟩/\q<=i/\tm.get 0=some (.sl b 0 n 1)/\tm.get 1=some (iv 0)/\tm.get 2=some (iv (n:Int))/\tm.get 6=some (iv i)/\tm.get 7=some (iv (j:Int))/\j+q=i/\L.length=n/\insJ j L=insJ i (qBo l (i - 1))/\FrM (fun x=>x=b) h.n h hd/\hd.t.get b=some (.cells (ivs L) 3)) (fun st=>(match st.tm.get 7 with|some (.val (.int _ n))=>n.toNat|_=>0)) ?_ ?_
   ·rintro st ⟨q,j,L,hd,tm,rfl,hkD,g0,g1,g2,g6,g7,hjq,hL,hins,fd,sd⟩;have muD:=g7;refine jP ?_;have out: ∀(tm:T AV) (hx:Hp),insJ j L=L->FrM (fun x=>x=b) h.n h hx->hx.t.get b=some (.cells (ivs L) 3)->tm.get 0=some (.sl b 0 n 1)->tm.get 1=some (iv 0)->tm.get 2=some (iv (n:Int))->tm.get 6=some (iv i)->KD (.exit 2) ⟨tm,49,hx,[]⟩:=by
     intro tm hx e fx sx g0 g1 g2 g6;refine D2 _ (B1 _ ?_);refine reg fun K hn hp=> ?_;simp only [sy.1,rE,reduceIte,rL,g6,qE hi (show n<=9223372036854775807 by omega)];apply hn;refine ⟨⟨i+1,hx,_,rfl,by omega,(by simp [xZZ,g0]),(by simp [xZZ,g1]),(by simp [xZZ,g2]),(by simp [xZZ]),by omega,fx,?_⟩,by simpa [xZZ,muA] using (by omega:n - (i+1)<n - i)⟩;have e1:qBo l (i+1 - 1)=L:=by
      obtain ⟨i',rfl⟩: ∃i',i=i'+1:=⟨i - 1,by omega⟩;rw [show i'+1+1 - 1=i'+1 by omega,qBo,<-e,hins];rfl
     rw [e1];exact sx
    by_cases hj:j=0
    ·subst hj;have d1:decide ((0:Int)<((0:Nat):Int))=false:=by decide
     refine jQ (sok xt) 13 (by kernel_rfl) fun K hn hp=> ?_;simp only [sy.1,rE,reduceIte,rL,g1,g7,d1];apply hn;refine qU (by simp only [sy.1,rE,reduceIte]) ?_;refine qG (out _ _ rfl fd sd ?_ ?_ ?_ ?_);all_goals simp [xZZ,g0,g1,g2,g6]
    ·obtain ⟨j',rfl⟩: ∃j',j=j'+1:=⟨j - 1,by omega⟩;have d1:decide ((0:Int)<((j'+1:Nat):Int))=true:=decide_eq_true (by omega);have w1:IntKind.i64.wrap (((j'+1:Nat):Int) - 1)=(j':Int):=by rw [qF _ (by omega) (by omega)];omega
     have i1:=wK (b:=b) (n:=n) (j:=j'+1) (by omega);have i2:=wK (b:=b) (n:=n) (j:=j') (by omega);have v1:=vD (l:=L) (j:=j'+1) (by omega);have v2:=vD (l:=L) (j:=j') (by omega);refine jQ (sok xt) 13 (by kernel_rfl) fun K hn hp=> ?_;simp only [sy.1,rE,reduceIte,rL,g0,g1,g7,d1,w1,i1,i2,sd,v1,v2];refine cAS (less_c xt hd _ _ fun m1 hm1=> ?_);by_cases e:L.getD (j'+1) 0<L.getD j' 0
     ·have de:decide (L.getD (j'+1) 0<L.getD j' 0)=true:=decide_eq_true e;simp only [sy.1,rE,reduceIte,rL,de];apply hn;refine qV (by simp only [sy.1,rE,reduceIte]) ?_;obtain ⟨hu,hhu⟩: ∃hu,hu=hd.up m1:=⟨_,rfl⟩;rw [<-hhu];have fu:FrM (fun x=>x=b) h.n h hu:=by rw [hhu];exact fd.up (xZR hm1)
      have su:hu.t.get b=some (.cells (ivs L) 3):=by rw [hhu];exact sd
      clear hhu;have p1:=zW (h:=hu) (b:=b) (off:=j'+1) (v:=iv (L.getD j' 0)) (cs:=ivs L) (e:=3) rfl rfl (by rw [vC];omega);have p2:=zW (h:=hu.set b (.cells (ivs (L.set (j'+1) (L.getD j' 0))) 3)) (b:=b) (off:=j') (v:=iv (L.getD (j'+1) 0)) (cs:=ivs (L.set (j'+1) (L.getD j' 0))) (e:=3) rfl rfl (by rw [vC,List.length_set];omega);rw [qEu] at p1 p2;have es:(L.set (j'+1) (L.getD j' 0)).set j' (L.getD (j'+1) 0)=swp L (j'+1):=rfl;rw [es] at p2;refine qC fun KE E1 E2 E3 E4 E5=> ?_;refine regL (sok xt) 0 0 16 [] (by kernel_rfl) fun K hn hp=> ?_;simp only [sy.1,rE,reduceIte,rL,rA,syw.1,g0,g7,w1,i1,i2,su,v1,v2,p1,p2];refine hn _ _ (E1 _ ?_);refine reg fun K hn hp=> ?_;simp only [sy.1,rE,reduceIte,rL,g7,w1];apply hn;refine ⟨⟨q+1,j',swp L (j'+1),_,_,rfl,by omega,?_,?_,?_,?_,?_,by omega,by rw [swp_len,hL],?_,(fu.set (.inr rfl) _).set (.inr rfl) _,?_⟩,?_⟩
      ·simp [xZZ,g0]
      ·simp [xZZ,g1]
      ·simp [xZZ,g2]
      ·simp [xZZ,g6]
      ·simp [xZZ]
      ·rw [<-hins,insJ,if_pos e]
      ·rw [Hp.set_t,xZZ,if_pos rfl]
      ·simp [xZZ,muD]
     ·have de:decide (L.getD (j'+1) 0<L.getD j' 0)=false:=decide_eq_false e;simp only [sy.1,rE,reduceIte,rL,de];apply hn;refine qU (by simp only [sy.1,rE,reduceIte]) ?_;refine qG (out _ _ (by rw [insJ,if_neg e]) (fd.up (xZR hm1)) sd ?_ ?_ ?_ ?_);all_goals simp [xZZ,g0,g1,g2,g6]
   ·refine ⟨0,i,_,_,_,rfl,Nat.zero_le _,?_,?_,?_,?_,?_,by omega,by rw [qCP,hl],rfl,fg,sg⟩;all_goals simp [xZZ,g0,g1,g2,g6]
  ·refine qU (by simp only [sy.1,rE,reduceIte,hi]) ?_;obtain rfl:i=n:=by omega
   refine qG (A2 _ ⟨_,[],rfl,by rw [res239];rfl,⟨_,rfl⟩,fg,sg⟩)
 ·exact ⟨1,h,_,rfl,(by omega),(by simp [xZZ]),(by simp [xZZ]),(by simp [xZZ]),(by simp [xZZ]),xZY _,FrM.refl (xZY _),hm⟩
theorem optK_of {h:Hp} {x:Option AV} {v:AV} {K:OR->Prop} (hx:x=some v) (hk:K (.ok v h)):bX h x K:=by rw [hx];exact hk
theorem ft209 (xt:Xt):(SE xt).ft.get 170=some Tryz.f170:=by kernel_rfl
theorem res209:Tryz.f170.results.toList=[.tmp 2]:=by kernel_rfl
def bl (n:Nat):Int:=if n=1 then 1 else if n=4 then 3 else 2
abbrev uv (n:Int):AV:= .val (.int .u64 n)
theorem len64_c (xt:Xt) (h:Hp) (n:Nat) (h1:1<=n) (h4:n<=4):FnA (SE xt) 170 [uv (n:Int)] h (fun res h'=>(∃r:Int,res= .ret (iv r))/\Fr h.n h h'):=by
 refine xZX (sok xt) (ft209 xt) rfl 25 rfl ?_;have d1:decide ((4294967296:Int)<=(n:Int))=false:=decide_eq_false (by omega);have d2:decide ((65536:Int)<=(n:Int))=false:=decide_eq_false (by omega);have d3:decide ((256:Int)<=(n:Int))=false:=decide_eq_false (by omega);refine qA fun K hn hp=> ?_;simp only [sw.1,rL];apply hn;refine qB fun K hn hp=> ?_;simp only [sy.1,rE,reduceIte,rL,d1];apply hn;refine jL (by simp only [sy.1,rE,reduceIte]) ?_;refine qB fun K hn hp=> ?_;simp only [sy.1,rE,reduceIte,rL,d2];apply hn;refine jL (by simp only [sy.1,rE,reduceIte]) ?_;refine qB fun K hn hp=> ?_;simp only [sy.1,rE,reduceIte,rL,d3];apply hn;refine jL (by simp only [sy.1,rE,reduceIte]) ?_;refine qA fun K hn hp=> ?_;have c1:qBV tb h 236 5 (uv (n:Int))=some (.val (.int .u8 (n:Int))):=by
  rcases (by omega:n=1\/n=2\/n=3\/n=4) with rfl|rfl|rfl|rfl<;>kernel_rfl
 simp only [sy.1,rE,reduceIte,rL,qDi,c1];refine optK_of (v:= .val (.int .u8 (bl n))) (by rcases (by omega:n=1\/n=2\/n=3\/n=4) with rfl|rfl|rfl|rfl<;>kernel_rfl) ?_
 have c2:qBV tb h 5 3 (.val (.int .u8 (bl n)))=some (iv (bl n)):=by
  rcases (by omega:n=1\/n=2\/n=3\/n=4) with rfl|rfl|rfl|rfl<;>kernel_rfl
 have w1:IntKind.i64.wrap ((0:Int)+bl n)=bl n:=by
  rcases (by omega:n=1\/n=2\/n=3\/n=4) with rfl|rfl|rfl|rfl<;>kernel_rfl
 simp only [sy.1,rE,reduceIte,rL,qDi,c2,w1];refine hn _ _ (qD (qK res209 ⟨⟨bl n,?_⟩,Fr.refl (xZY _)⟩));simp [xZZ]
theorem ft168 (xt:Xt):(SE xt).ft.get 127=some Tryz.f127:=by kernel_rfl
theorem res168:Tryz.f127.results.toList=[.tmp 2]:=by kernel_rfl
theorem bitsLen_c (xt:Xt) (h:Hp) (n:Nat) (h1:1<=n) (h4:n<=4):FnA (SE xt) 127 [uv (n:Int)] h (fun res h'=>(∃r:Int,res= .ret (iv r))/\Fr h.n h h'):=by
 refine xZX (sok xt) (ft168 xt) rfl 8 rfl ?_;refine qA fun K hn hp=> ?_;simp only [sw.1,rL];apply hn;refine jL (by simp only [sy.1]) ?_;refine qA fun K hn hp=> ?_;simp only [sy.1,rE,reduceIte,rL];refine cAS (xZQ (len64_c xt h n h1 h4) fun res h' hres=> ?_);obtain ⟨⟨r,rfl⟩,f⟩:=hres;simp only [sy.1,rE,reduceIte,rL];refine hn _ _ (qD (qK res168 ⟨⟨r,?_⟩,f⟩));simp [xZZ]
theorem ft223 (xt:Xt):(SE xt).ft.get 183=some Tryz.f183:=by kernel_rfl
theorem res223:Tryz.f183.results.toList=[]:=by kernel_rfl
theorem pdq_c (xt:Xt) (h:Hp) (b n:Nat) (l:List Int) (lim:Int) (hl:l.length=n) (h1:1<=n) (h12:n<=12) (hb:b<h.n) (hm:h.t.get b=some (.cells (ivs l) 3)):
  FnA (SE xt) 183 [.sl b 0 n 1,iv 0,iv (n:Int),iv lim] h (fun res h'=>(∃r,res= .ret r)/\FrM (fun x=>x=b) h.n h h'/\h'.t.get b=some (.cells (ivs (qBo l (n - 1))) 3)):=by
 refine xZX (sok xt) (ft223 xt) rfl 134 rfl ?_;have w0:IntKind.i64.wrap ((n:Int) - 0)=(n:Int):=by rw [Int.sub_zero];exact qF _ (by omega) (by omega)
 have d1:decide ((n:Int)<=12)=true:=decide_eq_true (by omega);refine qA fun K hn hp=> ?_;simp only [sw.1,rL,rA];apply hn;refine qA fun K hn hp=> ?_;simp only [sy.1,rL];apply hn;refine qY fun KA A1 A2 A3 A4 A5=> ?_;refine qI (sok xt) (fun st=> ∃tm:T AV,st=⟨tm,134,h,[]⟩/\tm.get 0=some (.sl b 0 n 1)/\tm.get 1=some (iv 0)/\tm.get 2=some (iv (n:Int))) (fun _=>0) ?_ ?_
 ·rintro st ⟨tm,rfl,g0,g1,g2⟩;refine qY fun KB B1 B2 B3 B4 B5=> ?_;refine qA fun K hn hp=> ?_;simp only [sy.1,rE,reduceIte,rL,g1,g2,w0];apply hn;refine qB fun K hn hp=> ?_;simp only [sy.1,rE,reduceIte,rL,d1];apply hn;refine qX (by simp only [sy.1,rE,reduceIte]) ?_;refine qB fun K hn hp=> ?_;simp only [sy.1,rE,reduceIte,rL,g0,g1,g2];refine cAS (xZQ (insS_c xt h b n l hl h1 h12 hb hm) fun res h' hres=> ?_);obtain ⟨⟨r,rfl⟩,f,s⟩:=hres;simp only [sy.1,rL];apply hn;refine qS (B4 _ (A4 _ ⟨_,[],rfl,by rw [res223];rfl,⟨_,rfl⟩,f,s⟩))
 ·refine ⟨_,rfl,?_,?_,?_⟩;all_goals simp [xZZ]
theorem ft188 (xt:Xt):(SE xt).ft.get 145=some Tryz.f145:=by kernel_rfl
theorem res188:Tryz.f145.results.toList=[]:=by kernel_rfl
theorem sort_c (xt:Xt) (h:Hp) (b n:Nat) (l:List Int) (hl:l.length=n) (h1:1<=n) (h4:n<=4) (hb:b<h.n) (hm:h.t.get b=some (.cells (ivs l) 3)):
  FnA (SE xt) 145 [.sl b 0 n 1] h (fun res h'=>(∃r,res= .ret r)/\FrM (fun x=>x=b) h.n h h'/\h'.t.get b=some (.cells (ivs (qBo l (n - 1))) 3)):=by
 refine xZX (sok xt) (ft188 xt) rfl 11 rfl ?_;have ln: ∀h':Hp,zI tb h' 31 (.sl b 0 n 1)=some n:=fun h'=>by
  have d75:te31.d= .slice 3:=rfl;simp [zI,vX,d75]
 have c1: ∀h':Hp,qBV tb h' 3 193 (iv (n:Int))=some (uv (n:Int)):=fun h'=>by
  rcases (by omega:n=1\/n=2\/n=3\/n=4) with rfl|rfl|rfl|rfl<;>kernel_rfl
 refine qA fun K hn hp=> ?_;simp only [sw.1,rE,reduceIte,rL,syw.1,ln];apply hn;refine reg fun K hn hp=> ?_;simp only [sy.1,rE,reduceIte,rL,qDi,c1];refine cAS (xZQ (bitsLen_c xt h n h1 h4) fun res h1' hres=> ?_);obtain ⟨⟨r,rfl⟩,f1⟩:=hres;simp only [sy.1,rE,reduceIte,rL];refine cAS (xZQ (pdq_c xt h1' b n l r hl h1 (by omega) (by have:=f1.le;omega) ((f1.at_ b (.inl hb)).trans hm)) fun res h2 hres=> ?_);obtain ⟨⟨r2,rfl⟩,f2,s2⟩:=hres;simp only [sy.1,rL];apply hn;refine ⟨_,[],rfl,by rw [res188];rfl,⟨_,rfl⟩,(FrM.of f1).trans f2 (by have:=f1.lo;omega),s2⟩
def cp2 (k0:Nat):Nat->Nat->Nat->List Int->Nat×List Int
 |0,k,_,L=>(k,L)
 |m+1,k,q,L=>if L.getD (k0+q) 0=L.getD (k0+(q - 1)) 0 then cp2 k0 m k (q+1) L else cp2 k0 m (k+1) (q+1) (L.set k (L.getD (k0+q) 0))
def cpO (l:List Int):Nat->Nat->List Int
 |0,_=>l
 |m+1,k=>if l.getD k 0=l.getD (k - 1) 0 then (cp2 k (l.length - k - 1) k 1 l).2.take (cp2 k (l.length - k - 1) k 1 l).1 else cpO l m (k+1)
def cpt (l:List Int):List Int:=if l.length<2 then l else cpO l (l.length - 1) 1
theorem lo75 (h:Hp) (b n k:Nat) (hk:k<=n):vS tb h 31 (.sl b 0 n 1) (some (iv (k:Int))) none=some (.sl b k (n - k) 1):=by
 have:vS tb h 31 (.sl b 0 n 1) (some (iv (k:Int))) none=bif Nat.ble k n && (Nat.ble n n && Nat.beq 1 1) then some (.sl b (0+k*1) (n - k) 1) else none:=by kernel_rfl
 rw [this,show Nat.ble k n=true by rw [xZV];exact hk,show Nat.ble n n=true by rw [xZV];exact xZY _];simp
theorem hi75 (h:Hp) (b n k:Nat) (hk:k<=n):vS tb h 31 (.sl b 0 n 1) none (some (iv (k:Int)))=some (.sl b 0 k 1):=by
 have:vS tb h 31 (.sl b 0 n 1) none (some (iv (k:Int)))=bif Nat.ble 0 k && (Nat.ble k n && Nat.beq 1 1) then some (.sl b (0+0*1) (k - 0) 1) else none:=by kernel_rfl
 rw [this,show Nat.ble k n=true by rw [xZV];exact hk,show Nat.ble 0 k=true by rw [xZV];omega];simp
theorem ix75o {b o n j:Nat} (hj:j<n):qM tb 31 (.sl b o n 1) (iv (j:Int))=some (.ptr b (o+j)):=by
 have e1:qAm (iv (j:Int))=some (Int.ofNat j):=rfl;have e2:Nat.blt j n=true:=by rw [xZP];exact hj
 have d75:te31.d= .slice 3:=rfl;have s3:te3.size=1:=rfl;simp [qM,vX,e1,d75,tg3,e2,s3]
theorem clr75 (xt:Xt) (h:Hp) (b k m:Nat) (cs:List AV) (hm:0<m) (hb:h.t.get b=some (.cells cs 3)) (hl:k+m<=cs.length):qT Tryz.prog tb xt .clear [31] [.sl b k m 1] h=some (.tup [],h.set b (.cells (cs.take k++j8 [iv 0] m++cs.drop (k+m)) 3)):=by
 have d75:te31.d= .slice 3:=rfl;have s3:te3.size=1:=rfl;have z3:te3.zero=[.int .i64 0]:=rfl;have b1:Nat.blt 0 m=true:=by rw [xZP];exact hm
 have b2:Nat.ble (k+m) cs.length=true:=by rw [xZV];exact hl
 have b3:Value.oneCell' (.int .i64 0)=true:=rfl;have:qAn tb h 31 (.sl b k m 1)=some (h.set b (.cells (cs.take k++j8 [iv 0] m++cs.drop (k+m)) 3)):=by
  have b4:Nat.blt 0 1=true:=rfl;simp [qAn,vX,d75,tg3,s3,z3,hb,b1,b2,b3,b4]
 simp only [qT,this]
theorem qFg {xt:Xt} {h:Hp} {b k:Nat} {cs:List AV} {l:List Int} (hb:h.t.get b=some (.cells cs 3)) (hbn:b<h.n) (hl:l.length=k) (hk:k<=cs.length) (ht:cs.take k=ivs l):RowAt xt h 1 (.sl b 0 k 1) (l.map Kn.c1):=by
 refine ⟨fun c hc=>by obtain ⟨x,_,rfl⟩:=List.mem_map.1 hc;rfl,by omega,.inr (.inr ⟨b,0,cs,3,by simp [hl],⟨hbn,by simp [hl];exact hk,hb⟩,fun i c hi j u hu=> ?_⟩)⟩;rw [xZW,Option.map_eq_some_iff] at hi;obtain ⟨x,hx,rfl⟩:=hi;have hil:=(xZT.1 hx).1;have hj:j=0:=by have:=(xZT.1 hu).1;simp [Kn.c1] at this;omega
 subst hj;simp only [Kn.c1,List.getElem?_cons_zero,Option.some.injEq] at hu;subst hu;have e1:(ivs l)[i]? =some (iv x):=by rw [ivs,xZW,hx];rfl
 rw [<-ht,List.getElem?_take,if_pos (by omega)] at e1;simpa using e1
theorem ft189 (xt:Xt):(SE xt).ft.get 146=some Tryz.f146:=by kernel_rfl
theorem res189:Tryz.f146.results.toList=[.tmp 2]:=by kernel_rfl
theorem compact_c (xt:Xt) (h:Hp) (b n:Nat) (l:List Int) (hl:l.length=n) (h12:n<=12) (hb:b<h.n) (hm:h.t.get b=some (.cells (ivs l) 3)):
  FnA (SE xt) 146 [.sl b 0 n 1] h (fun res h'=>FrM (fun x=>x=b) h.n h h'/\res= .ret (.sl b 0 (cpt l).length 1)/\RowAt xt h' 1 (.sl b 0 (cpt l).length 1) ((cpt l).map Kn.c1)):=by
 refine xZX (sok xt) (ft189 xt) rfl 61 rfl ?_;have ln: ∀(h':Hp) (o m:Nat),zI tb h' 31 (.sl b o m 1)=some m:=fun h' o m=>by
  have d75:te31.d= .slice 3:=rfl;simp [zI,vX,d75]
 refine qA fun K hn hp=> ?_;simp only [sw.1,rL];apply hn;refine jP ?_;have r0:RowAt xt h 1 (.sl b 0 n 1) (l.map Kn.c1):=qFg hm hb hl (by rw [vC];omega) (xZS (by rw [vC];omega));by_cases h2:n<2
 ·have d2:decide ((n:Int)<2)=true:=decide_eq_true (by omega);have e:cpt l=l:=by rw [cpt,if_pos (by omega)]
  refine qA fun K hn hp=> ?_;simp only [sy.1,rE,reduceIte,rL,syw.1,ln,d2];apply hn;refine qX (by simp only [sy.1,rE,reduceIte]) ?_;refine qB fun K hn hp=> ?_;simp only [sy.1,rE,reduceIte,rL];apply hn;refine qS (qK res189 ⟨FrM.refl (xZY _),?_,?_⟩)
  ·simp [xZZ,e,hl]
  ·rw [e,hl];exact r0
 ·have d2:decide ((n:Int)<2)=false:=decide_eq_false (by omega);have e:cpt l=cpO l (n - 1) 1:=by rw [cpt,if_neg (by omega),hl]
  refine qA fun K hn hp=> ?_;simp only [sy.1,rE,reduceIte,rL,syw.1,ln,d2];apply hn;refine jL (by simp only [sy.1,rE,reduceIte]) ?_;refine qB fun K hn hp=> ?_;simp only [sy.1,rL];apply hn;refine qC fun KA A1 A2 A3 A4 A5=> ?_;refine qI (sok xt) (fun st=> ∃(k:Nat) (tm:T AV),st=⟨tm,61,h,[]⟩/\k<=n/\tm.get 0=some (.sl b 0 n 1)/\tm.get 3=some (iv k)/\1<=k/\cpO l (n - k) k=cpt l) (fun st=>n - (match st.tm.get 3 with|some (.val (.int _ n))=>n.toNat|_=>0)) ?_ ?_
  ·rintro st ⟨k,tm,rfl,hkA,g0,g3,hk1,hc⟩;have muA:=g3;refine qB fun K hn hp=> ?_;simp only [sy.1,rE,reduceIte,rL,syw.1,ln,qR,g0,g3];apply hn;by_cases hk:k<n
   ·refine qV (by simp only [sy.1,rE,reduceIte,hk]) ?_;have w1:IntKind.i64.wrap ((k:Int) - 1)=((k - 1:Nat):Int):=by rw [qF _ (by omega) (by omega)];omega
    have i1:=wK (b:=b) (n:=n) (j:=k) hk;have i2:=wK (b:=b) (n:=n) (j:=k - 1) (by omega);have v1:=vD (l:=l) (j:=k) (by omega);have v2:=vD (l:=l) (j:=k - 1) (by omega);refine qC fun KB B1 B2 B3 B4 B5=> ?_;have ek:n - k=(n - k - 1)+1:=by omega
    rw [ek,cpO] at hc;by_cases eq:l.getD k 0=l.getD (k - 1) 0
    ·have de:decide (l.getD k 0=l.getD (k - 1) 0)=true:=decide_eq_true eq;rw [if_pos eq] at hc;refine jQ (sok xt) 9 (by kernel_rfl) fun K hn hp=> ?_;simp only [sy.1,rE,reduceIte,rL,g0,g3,w1,i1,i2,hm,v1,v2,de];apply hn;refine wcT (by simp only [sy.1,rE,reduceIte]) ?_;have s1:=lo75 h b n k (by omega);refine qA fun K hn hp=> ?_;simp only [sy.1,rE,reduceIte,rL,g0,g3,uD,xZU,s1];apply hn;refine qB fun K hn hp=> ?_;simp only [sy.1,rL];apply hn;refine qC fun KD D1 D2 D3 D4 D5=> ?_;refine qI (sok xt) (fun st=> ∃(q:Nat) (kk:Nat) (L:List Int) (hd:Hp) (tm:T AV),st=⟨tm,61,hd,[]⟩/\q<=n-k/\tm.get 0=some (.sl b 0 n 1)/\tm.get 3=some (iv (kk:Int))/\tm.get 4=some (.sl b k (n - k) 1)/\tm.get 5=some (iv (q:Int))/\1<=q/\1<=kk/\kk+1<=k+q/\L.length=n/\cp2 k (n - k - q) kk q L=cp2 k (n - k - 1) k 1 l/\FrM (fun x=>x=b) h.n h hd/\hd.t.get b=some (.cells (ivs L) 3)) (fun st=>n-k - (match st.tm.get 5 with|some (.val (.int _ n))=>n.toNat|_=>0)) ?_ ?_
     ·rintro st ⟨q,kk,L,hd,tm,rfl,hkD,g0,g3,g4,g5,hq1,hkk,hkq,hL,hcp,fd,sd⟩;have muD:=g5;refine qB fun K hn hp=> ?_;simp only [sy.1,rE,reduceIte,rL,syw.1,ln,qR,g4,g5];apply hn;by_cases hq:q<n - k
      ·refine qV (by simp only [sy.1,rE,reduceIte,hq]) ?_;have w1:IntKind.i64.wrap ((q:Int) - 1)=((q - 1:Nat):Int):=by rw [qF _ (by omega) (by omega)];omega
       have i0:=wK (b:=b) (n:=n) (j:=kk) (by omega);have i1:=ix75o (b:=b) (o:=k) (n:=n - k) (j:=q) hq;have i2:=ix75o (b:=b) (o:=k) (n:=n - k) (j:=q - 1) (by omega);have v1:=vD (l:=L) (j:=k+q) (by omega);have v2:=vD (l:=L) (j:=k+(q - 1)) (by omega);refine qC fun KE E1 E2 E3 E4 E5=> ?_;have eq2:n - k - q=(n - k - (q+1))+1:=by omega
       rw [eq2,cp2] at hcp;by_cases eq:L.getD (k+q) 0=L.getD (k+(q - 1)) 0
       ·have de:(!decide (L.getD (k+q) 0=L.getD (k+(q - 1)) 0))=false:=by rw [decide_eq_true eq];rfl
        rw [if_pos eq] at hcp;refine regD (sok xt) 9 (by kernel_rfl) fun K hn hp=> ?_;simp only [sy.1,rE,reduceIte,rL,g4,g5,w1,i1,i2,sd,v1,v2,de];apply hn;refine wcF (by simp only [sy.1,rE,reduceIte]) ?_;refine qN (E1 _ ?_);refine reg fun K hn hp=> ?_;simp only [sy.1,rE,reduceIte,rL,g5,qE hq (show n - k<=9223372036854775807 by omega)];apply hn;refine ⟨⟨q+1,kk,L,hd,_,rfl,by omega,(by simp [xZZ,g0]),(by simp [xZZ,g3]),(by simp [xZZ,g4]),(by simp [xZZ]),by omega,hkk,by omega,hL,hcp,fd,sd⟩,by simpa [xZZ,muD] using (by omega:n-k - (q+1)<n-k - q)⟩
       ·have de:(!decide (L.getD (k+q) 0=L.getD (k+(q - 1)) 0))=true:=by rw [decide_eq_false eq];rfl
        rw [if_neg eq] at hcp;refine jQ (sok xt) 9 (by kernel_rfl) fun K hn hp=> ?_;simp only [sy.1,rE,reduceIte,rL,g4,g5,w1,i1,i2,sd,v1,v2,de];apply hn;refine wcT (by simp only [sy.1,rE,reduceIte]) ?_;have p1:=zW (h:=hd) (b:=b) (off:=kk) (v:=iv (L.getD (k+q) 0)) (cs:=ivs L) (e:=3) rfl rfl (by rw [vC];omega);rw [qEu] at p1;have w2:IntKind.i64.wrap ((kk:Int)+1)=((kk+1:Nat):Int):=by rw [qF _ (by omega) (by omega)];omega
        refine qA fun K hn hp=> ?_;simp only [sy.1,rE,reduceIte,rL,g0,g3,g4,g5,i0,i1,sd,v1,p1];apply hn;refine reg fun K hn hp=> ?_;simp only [sy.1,rE,reduceIte,rL,g3,w2];apply hn;refine E1 _ ?_;refine reg fun K hn hp=> ?_;simp only [sy.1,rE,reduceIte,rL,g5,qE hq (show n - k<=9223372036854775807 by omega)];apply hn;refine ⟨⟨q+1,kk+1,L.set kk (L.getD (k+q) 0),hd.set b (.cells (ivs (L.set kk (L.getD (k+q) 0))) 3),_,rfl,by omega,(by simp [xZZ,g0]),(by simp [xZZ]),(by simp [xZZ,g4]),(by simp [xZZ]),by omega,by omega,by omega,by rw [List.length_set,hL],hcp,fd.set (.inr rfl) _,by rw [Hp.set_t,xZZ,if_pos rfl]⟩,by simpa [xZZ,muD] using (by omega:n-k - (q+1)<n-k - q)⟩
      ·refine qU (by simp only [sy.1,rE,reduceIte,hq]) ?_;refine qG (D2 _ ?_);obtain rfl:q=n - k:=by omega
       rw [Nat.sub_self,cp2] at hcp;have s2:=lo75 hd b n kk (by omega);have c2:=clr75 xt hd b kk (n - kk) (ivs L) (by omega) sd (by rw [vC];omega);have s3:=hi75 (hd.set b (.cells ((ivs L).take kk++j8 [iv 0] (n - kk)++(ivs L).drop (kk+(n - kk))) 3)) b n kk (by omega);refine qA fun K hn hp=> ?_;simp only [sy.1,rE,reduceIte,rL,g0,g3,uD,xZU,s2,c2];apply hn;refine qA fun K hn hp=> ?_;simp only [sy.1,rE,reduceIte,rL,g0,g3,uD,xZU,s3];apply hn;obtain ⟨h4,hh4⟩: ∃h4,h4=hd.set b (.cells ((ivs L).take kk++j8 [iv 0] (n - kk)++(ivs L).drop (kk+(n - kk))) 3):=⟨_,rfl⟩;have ct:cpt l=L.take kk:=by rw [<-hc,hl,<-hcp]
       have lct:(cpt l).length=kk:=by rw [ct,xZO];omega
       have st:((ivs L).take kk).length=kk:=by rw [xZO,vC];omega
       refine qD (B4 _ (A4 _ (qK res189 ⟨fd.set (.inr rfl) _,?_,?_⟩)))
       ·simp [xZZ,lct]
       ·rw [lct];refine qFg (by rw [Hp.set_t,xZZ,if_pos rfl]) (by rw [Hp.set_n];exact Nat.lt_of_lt_of_le hb fd.le) lct (by simp only [List.length_append,st];omega) ?_;rw [List.append_assoc,List.take_append_of_le_length (by rw [st];exact xZY _),xZS (by rw [st];exact xZY _),ct,ivs,ivs,List.map_take]
     ·exact ⟨1,k,l,h,_,rfl,(by omega),(by simp [xZZ,g0]),(by simp [xZZ,g3]),(by simp [xZZ]),(by simp [xZZ]),xZY _,hk1,xZY _,hl,rfl,FrM.refl (xZY _),hm⟩
    ·have de:decide (l.getD k 0=l.getD (k - 1) 0)=false:=decide_eq_false eq;rw [if_neg eq] at hc;refine jQ (sok xt) 9 (by kernel_rfl) fun K hn hp=> ?_;simp only [sy.1,rE,reduceIte,rL,g0,g3,w1,i1,i2,hm,v1,v2,de];apply hn;refine wcF (by simp only [sy.1,rE,reduceIte]) ?_;refine qN (B1 _ ?_);refine reg fun K hn hp=> ?_;simp only [sy.1,rE,reduceIte,rL,g3,qE hk (show n<=9223372036854775807 by omega)];apply hn;refine ⟨⟨k+1,_,rfl,by omega,(by simp [xZZ,g0]),(by simp [xZZ]),by omega,by rw [show n - (k+1)=n - k - 1 by omega];exact hc⟩,by simpa [xZZ,muA] using (by omega:n - (k+1)<n - k)⟩
   ·refine qU (by simp only [sy.1,rE,reduceIte,hk]) ?_;refine qG (A2 _ ?_);obtain rfl:k=n:=by omega
    rw [Nat.sub_self,cpO] at hc;refine qA fun K hn hp=> ?_;simp only [sy.1,rE,reduceIte,rL,g0];apply hn;refine qD (qK res189 ⟨FrM.refl (xZY _),?_,?_⟩)
    ·simp [xZZ,<-hc,hl]
    ·rw [<-hc,hl];exact r0
  ·exact ⟨1,_,rfl,(by omega),(by simp [xZZ]),(by simp [xZZ]),xZY _,e.symm⟩
end Go.Proofs.Kn
