/- Parts. -/
import Derived.Test.YthimlgffanlomaaGreatDoorQB1
import Derived.Test.YthimlgffanlomaaGreatDoorQW4
import Derived.Test.YthimlgffanlomaaGreatDoorQY9
import Derived.Test.YthimlgffanlomaaGreatDoorQY7
set_option linter.all false
open Nat renaming reduceEqDiff → rE, reduceLeDiff → rD, reduceAdd → rA, reduceMul → rM, reduceLT → rL
open Go.Ev.T renaming get_put → xZZ
open List renaming getElem?_eq_getElem → xZY, getD_eq_getElem?_getD → xZW, getElem?_eq_some_iff → xZV, take_succ → xZT, take_of_length_le → xZS, length_append → xZR, length_map → xZQ, drop_eq_getElem_cons → xZO, length_take → xZN, getElem_mem → xZK, getElem?_cons_zero → xZH, length_filter_le → xZF, getElem?_drop → xZC, append_assoc → xZB, length_drop → xZA
open Nat renaming le_refl → xZX, ble_eq → xZI, add_mul → xZD
open And renaming intro → xZU
open Go.Ev.Fr renaming refl → xZP
open Go.Ev.FnA renaming walk → xZM, calm → xZG
open Option renaming toList_some → xZL, getD_some → xZE
open Go.Ev.Hp renaming up_n → xZJ, up_up → xYZ
open Bool renaming and_eq_true → xYY
namespace Go.Proofs.Kn
open Go Go.Ev
set_option maxRecDepth 100000
set_option maxHeartbeats 4000000
theorem pY:tb.get 32=some te32:=by kernel_rfl
theorem xP:tb.get 52=some te52:=by kernel_rfl
theorem tg93:tb.get 34=some te34:=by kernel_rfl
theorem tg161:tb.get 95=some te95:=by kernel_rfl
theorem ld91 (xt:Xt) (h:Hp) (b off:Nat):qO tb xt h 32 (.ptr b off)=jX (h.t.get b) off:=xE pY rfl
theorem st91 (h:Hp) (b off:Nat) (v:AV):jS tb h 32 (.ptr b off) v=jG 1 h b off v (h.t.get b):=zS pY rfl
theorem ld161 (xt:Xt) (h:Hp) (b off:Nat):qO tb xt h 95 (.ptr b off)=jX (h.t.get b) off:=xE tg161 rfl
theorem st161 (h:Hp) (b off:Nat) (v:AV):jS tb h 95 (.ptr b off) v=jG 1 h b off v (h.t.get b):=zS tg161 rfl
theorem ld118 (xt:Xt) (h:Hp) (b off:Nat):qO tb xt h 52 (.ptr b off)=zR 3 (h.t.get b) off:=xN xP rfl rfl
theorem st118 (h:Hp) (b off:Nat) (v:AV):jS tb h 52 (.ptr b off) v=jG 3 h b off v (h.t.get b):=zS xP rfl
theorem fa118_0 (b off:Nat):qL tb 52 (.ptr b off) 0=some (.ptr b (off+0)):=zG xP rfl rfl
theorem fa118_1 (b off:Nat):qL tb 52 (.ptr b off) 1=some (.ptr b (off+1)):=zG xP rfl rfl
theorem fa118_2 (b off:Nat):qL tb 52 (.ptr b off) 2=some (.ptr b (off+2)):=zG xP rfl rfl
theorem ld93 (xt:Xt) (h:Hp) (b off:Nat):qO tb xt h 34 (.ptr b off)=zR 2 (h.t.get b) off:=xN tg93 rfl rfl
theorem st93 (h:Hp) (b off:Nat) (v:AV):jS tb h 34 (.ptr b off) v=jG 2 h b off v (h.t.get b):=zS tg93 rfl
theorem fa93_0 (b off:Nat):qL tb 34 (.ptr b off) 0=some (.ptr b (off+0)):=zG tg93 rfl rfl
theorem fa93_1 (b off:Nat):qL tb 34 (.ptr b off) 1=some (.ptr b (off+1)):=zG tg93 rfl rfl
theorem al93 (h:Hp):jT tb h 34=some (.ptr h.n 0,h.new (.cells [jI,jI] 34)):=yP tg93 rfl
theorem al118 (h:Hp):jT tb h 52=some (.ptr h.n 0,h.new (.cells [iv 0,iv 0,jI] 52)):=yP xP rfl
theorem al161 (h:Hp):jT tb h 95=some (.ptr h.n 0,h.new (.cells [.val .nilFunc] 95)):=yP tg161 rfl
noncomputable def syb:=PLift.up (xZU ld91 (xZU st91 (xZU ld161 (xZU st161 (xZU ld118 (xZU st118 (xZU fa118_0 (xZU fa118_1 (xZU fa118_2 (xZU ld93 (xZU st93 (xZU fa93_0 (xZU fa93_1 (xZU al93 (xZU al118 al161)))))))))))))))
structure Nums (xt:Xt) (h:Hp) (v:AV) (l:List Int):Prop where
 row:RowAt xt h 1 v (l.map Kn.c1)
 lt:l.length<=9223372036854775807
section
variable {xt:Xt} {h h':Hp} {v:AV} {l:List Int}
theorem Nums.fr (a:Nums xt h v l) {n:Nat} (f:Fr n h h') (hn:h.n<=n):Nums xt h' v l:=⟨a.row.fr f hn,a.lt⟩
theorem Nums.up (a:Nums xt h v l) {n:Nat} (hn:h.n<=n):Nums xt (h.up n) v l:=⟨a.row.up hn,a.lt⟩
theorem Nums.len (a:Nums xt h v l) (h':Hp):zI tb h' 31 v=some l.length:=by
 have:=a.row.len (h':=h') vX rfl;simpa using this
theorem Nums.one (a:Nums xt h v l):Go.Ev.one v=true:=a.row.one
theorem Nums.cells (a:Nums xt h v l):cellsOf v=[v]:=a.row.cells
theorem Nums.nil:Nums xt h jI []:=⟨⟨(by intro c hc;cases hc),by omega,.inl ⟨rfl,rfl⟩⟩,by simp⟩
theorem Nums.own {N:Nat} (o:OwnSl h N 1 3 v l.length (ivs l)) (hl:l.length<=9223372036854775807):Nums xt h v l:=by
 rw [qEv] at o;exact ⟨OwnSl.row (fun c hc=>by obtain ⟨x,_,rfl⟩:=List.mem_map.1 hc;rfl) (by omega) (by rw [xZQ];exact o),hl⟩
end
theorem _root_.Go.Ev.RowAt.sub {xt:Xt} {h:Hp} {sz:Nat} {v:AV} {cs:List (List Value)} {tb:T TE} {t e:TypeId} {te ee:TE} (r:RowAt xt h sz v cs) (hc:xH v) (ht:tb.get t=some te) (hd:te.d= .slice e) (he:tb.get e=some ee) (hs:ee.size=sz) {a k:Nat} (ha:a<=k) (hk:k<=cs.length):
  ∃v',(∀h':Hp,vS tb h' t v (some (iv (a:Int))) (some (iv (k:Int)))=some v')/\RowAt xt h sz v' ((cs.take k).drop a)/\xH v':=by
 obtain ⟨h1,h2,h3⟩:=r;have b0:Nat.ble a k=true:=by rw [xZI];omega
 have e2: ∀d (m:Nat),kU d (some (iv (m:Int)))=some m:=fun d m=>rfl;have hl:((cs.take k).drop a).length=k - a:=by rw [xZA,xZN];omega
 have hmem: ∀c∈(cs.take k).drop a,c.length=sz:=fun c hc=>h1 c (List.mem_of_mem_take (List.mem_of_mem_drop hc));have hget: ∀i c,((cs.take k).drop a)[i]? =some c->cs[a+i]? =some c:=fun i c hi=>by
  rw [xZC,List.getElem?_take] at hi;split at hi
  ·exact hi
  ·cases hi
 rcases h3 with ⟨rfl,rfl⟩|⟨ad,cap,rfl,hx⟩|⟨b,off,av,e',rfl,⟨q1,q2,q3⟩,hx⟩
 ·simp at hk;subst hk;obtain rfl:a=0:=by omega
  have e3: ∀d,kU d (some (iv 0))=some 0:=fun d=>rfl;exact ⟨.val (.slice none 0 0),fun h'=>by simp [vS,ht,hd,he,e3,b0],⟨by simp,h2,.inl ⟨rfl,by simp⟩⟩,fun _ _ _ e=>by cases e;exact xZX _⟩
 ·have hcap:=hc _ _ _ rfl;have b1:Nat.ble k cap=true:=by rw [xZI];omega
  refine ⟨.val (.slice (some (if cap=a then ad else ad.add (a*sz))) (k - a) (cap - a)),fun h'=> ?_,⟨hmem,h2,.inr (.inl ⟨_,cap - a,by rw [hl],fun i c hi j u hu=> ?_⟩)⟩,fun _ _ _ e=>by cases e;omega⟩
  ·by_cases q:cap=a
   ·have b3:Nat.ble k a=true:=by rw [xZI];omega
    simp [vS,ht,hd,he,e2,b0,b3,q]
   ·simp [vS,ht,hd,he,e2,b0,b1,q,hs]
  ·have hi':=(xZV.1 hi).1;have:=hx (a+i) c (hget i c hi) j u hu;rw [if_neg (by omega),qCm];rw [xZD,Nat.add_assoc] at this;exact this
 ·have b1:Nat.ble k cs.length=true:=by rw [xZI];omega
  refine ⟨.sl b (off+a*sz) (k - a) sz,fun h'=>by simp [vS,ht,hd,he,e2,b0,b1,hs],⟨hmem,h2,.inr (.inr ⟨b,off+a*sz,av,e',by rw [hl],⟨q1,?_,q3⟩,fun i c hi j u hu=> ?_⟩)⟩,fun _ _ _ e=>by cases e⟩
  ·rw [hl];have:(k - a)*sz+a*sz<=cs.length*sz:=by rw [<-xZD];exact Nat.mul_le_mul_right _ (by omega)
   omega
  ·have:=hx (a+i) c (hget i c hi) j u hu;rw [xZD] at this;rw [show off+a*sz+(i*sz+j)=off+(a*sz+i*sz+j) by omega];exact this
theorem Nums.sub {xt:Xt} {h:Hp} {v:AV} {l:List Int} (r:Nums xt h v l) (hc:xH v) {a n:Nat} (hk:a+n<=l.length): ∃v',(∀h':Hp,vS tb h' 31 v (some (iv (a:Int))) (some (iv ((a+n:Nat):Int)))=some v')/\Nums xt h v' ((l.drop a).take n):=by
 obtain ⟨v',h1,h2,_⟩:=r.row.sub hc vX rfl tg3 rfl (a:=a) (k:=a+n) (by omega) (by rw [xZQ];exact hk);have e:((l.map Kn.c1).take (a+n)).drop a=((l.drop a).take n).map Kn.c1:=by
  rw [<-List.map_take,<-List.map_drop,List.drop_take,show a+n - a=n by omega]
 rw [e] at h2;exact ⟨v',h1,h2,by rw [xZN,xZA];have:=r.lt;omega⟩
def seg (l:List Int) (a n:Nat):Int:=((l.drop a).take n).sum
theorem seg_zero (l:List Int) (a:Nat):seg l a 0=0:=by simp [seg]
theorem seg_succ {l:List Int} {a n:Nat} (h:a+n<l.length):seg l a (n+1)=seg l a n+l.getD (a+n) 0:=by
 rw [seg,seg,xZT,xZC,xZY h,xZW,xZY h];simp
theorem qEh (l:List Int):seg l 0 l.length=l.sum:=by simp [seg]
theorem ft58 (xt:Xt):(SE xt).ft.get 12=some Tryz.f12:=by kernel_rfl
theorem res58:Tryz.f12.results.toList=[.tmp 6]:=by kernel_rfl
theorem qCx (xt:Xt) (h:Hp) (v:AV) (l:List Int) (hl:Nums xt h v l) (a n:Nat) (han:a+n<=l.length) (hb: ∀k,k<=n-> -9223372036854775808<=seg l a k/\seg l a k<=9223372036854775807)
  {K:KP} (hk: ∀k,h.n<k->K (.ret (iv (seg l a n))) (h.up k)):FnA (SE xt) 12 [v,iv (a:Int),iv (n:Int)] h K:=by
 refine xZG ?_ hk;clear hk K;refine xZM (sok xt) (ft58 xt) rfl 24 rfl ?_;have hlt:=hl.lt;have wn:IntKind.i64.wrap ((a:Int)+(n:Int))=((a+n:Nat):Int):=by rw [qF _ (by omega) (by omega)];simp
 have hd: ∀i:Nat,decide ((i:Int)<((a+n:Nat):Int))=decide (i<a+n):=fun i=>decide_eq_decide.2 (by omega);refine qA fun K hn hp=> ?_;simp only [sw.1,rL,rA];apply hn;refine qA fun K hn hp=> ?_;simp only [sy.1,rL];apply hn;refine qB fun K hn hp=> ?_;simp only [sy.1,rE,reduceIte,rL];apply hn;refine qC fun KA A1 A2 A3 A4 A5=> ?_;refine qI (sok xt) (fun st=> ∃(k:Nat) (x:Int) (tm:T AV),st=⟨tm,24,h,[]⟩/\k<=(a+n)/\tm.get 0=some (v)/\tm.get 1=some (iv (a:Int))/\tm.get 2=some (iv (n:Int))/\tm.get 7=some (iv x)/\tm.get 8=some (iv k)/\a<=k/\x=seg l a (k - a)) (fun st=>(a+n) - (match st.tm.get 8 with|some (.val (.int _ n))=>n.toNat|_=>0)) ?_ ?_
 ·rintro st ⟨k,x,tm,rfl,hkA,g0,g1,g2,g7,g8,hak,hx⟩;have muA:=g8;refine qB fun K hn hp=> ?_;simp only [sy.1,rE,reduceIte,rL,wn,hd,g1,g2,g8];apply hn;by_cases hk:k<a+n
  ·refine qV (by simp only [sy.1,rE,reduceIte,hk]) ?_;obtain ⟨i1,i2⟩:=hl.row.m75 (k:=k) (by omega);refine qC fun KB B1 B2 B3 B4 B5=> ?_;have e:=seg_succ (l:=l) (a:=a) (n:=k - a) (by omega);rw [show a+(k - a)=k by omega,show k - a+1=k+1 - a by omega,<-hx] at e;have w1:IntKind.i64.wrap (x+l.getD k 0)=seg l a (k+1 - a):=by rw [<-e];exact qF _ (hb (k+1 - a) (by omega)).1 (hb (k+1 - a) (by omega)).2
   refine reg fun K hn hp=> ?_;simp only [sy.1,rE,reduceIte,rL,g0,g7,g8,i1,i2,w1];apply hn;refine B1 _ ?_;refine reg fun K hn hp=> ?_;simp only [sy.1,rE,reduceIte,rL,g8,qE hk (show a+n<=9223372036854775807 by omega)];apply hn;refine ⟨⟨k+1,_,_,rfl,by omega,(by simp [xZZ,g0]),(by simp [xZZ,g1]),(by simp [xZZ,g2]),(by simp [xZZ]),(by simp [xZZ]),by omega,rfl⟩,by simpa [xZZ,muA] using (by omega:(a+n) - (k+1)<(a+n) - k)⟩
  ·refine qU (by simp only [sy.1,rE,reduceIte,hk]) ?_;refine qG (A2 _ ?_);obtain rfl:k=a+n:=by omega
   rw [show a+n - a=n by omega] at hx;refine qA fun K hn hp=> ?_;simp only [sy.1,rE,reduceIte,rL,g7];apply hn;refine qD (qK res58 ⟨?_,xZP (xZX _)⟩);simp [xZZ,hx]
 ·exact ⟨a,0,_,rfl,(by omega),(by simp [xZZ]),(by simp [xZZ]),(by simp [xZZ]),(by simp [xZZ]),(by simp [xZZ]),xZX _,by rw [Nat.sub_self,seg_zero]⟩
theorem ft69 (xt:Xt):(SE xt).ft.get 31=some Tryz.f31:=by kernel_rfl
theorem res69:Tryz.f31.results.toList=[.tmp 4]:=by kernel_rfl
theorem same_step {a b:List Int} {k:Nat} (ha:k<a.length) (hb:k<b.length) (h:a.take k=b.take k) (e:a.getD k 0=b.getD k 0):a.take (k+1)=b.take (k+1):=by
 rw [xZT,xZT,h,xZY ha,xZY hb];rw [xZW,xZW,xZY ha,xZY hb] at e;simp only [xZE] at e;rw [e]
theorem rsame_c (xt:Xt) (h:Hp) (u v:AV) (a b:List Int) (ha:Nums xt h u a) (hb:Nums xt h v b) {K:KP} (hk: ∀k,h.n<k->K (.ret (.val (.bool (decide (a=b))))) (h.up k)):FnA (SE xt) 31 [u,v] h K:=by
 refine xZG ?_ hk;clear hk K;refine xZM (sok xt) (ft69 xt) rfl 26 rfl ?_;have hla:=ha.len;have hlb:=hb.len;have hlt:=ha.lt;have hd:decide ((a.length:Int)=(b.length:Int))=decide (a.length=b.length):=decide_eq_decide.2 (by omega);refine qA fun K hn hp=> ?_;simp only [sw.1,rL];apply hn;refine jP ?_;by_cases e:a.length=b.length
 case neg=>
  refine qA fun K hn hp=> ?_;simp only [sy.1,rE,reduceIte,rL,syw.1,hla,hlb,hd,decide_eq_false e];apply hn;refine qX (by simp only [sy.1,rE,reduceIte]) ?_;refine qB fun K hn hp=> ?_;simp only [sy.1,rL];apply hn;refine qS (qK res69 ⟨?_,xZP (xZX _)⟩);have: ¬a=b:=fun q=>e (by rw [q]);simp [xZZ,this]
 refine qA fun K hn hp=> ?_;simp only [sy.1,rE,reduceIte,rL,syw.1,hla,hlb,hd,decide_eq_true e];apply hn;refine jL (by simp only [sy.1,rE,reduceIte]) ?_;refine qB fun K hn hp=> ?_;simp only [sy.1,rL];apply hn;refine qC fun KA A1 A2 A3 A4 A5=> ?_;refine qI (sok xt) (fun st=> ∃(k:Nat) (tm:T AV),st=⟨tm,26,h,[]⟩/\k<=a.length/\tm.get 0=some (u)/\tm.get 1=some (v)/\tm.get 5=some (iv k)/\a.take k=b.take k) (fun st=>a.length - (match st.tm.get 5 with|some (.val (.int _ n))=>n.toNat|_=>0)) ?_ ?_
 ·rintro st ⟨k,tm,rfl,hkA,g0,g1,g5,hs⟩;have muA:=g5;refine qB fun K hn hp=> ?_;simp only [sy.1,rE,reduceIte,rL,syw.1,hla,qR,g0,g5];apply hn;by_cases hk:k<a.length
  ·refine qV (by simp only [sy.1,rE,reduceIte,hk]) ?_;obtain ⟨i1,i2⟩:=ha.row.m75 (k:=k) hk;obtain ⟨j1,j2⟩:=hb.row.m75 (k:=k) (by omega);refine qC fun KB B1 B2 B3 B4 B5=> ?_;by_cases q:a.getD k 0=b.getD k 0
   ·refine jQ (sok xt) 9 (by kernel_rfl) fun K hn hp=> ?_;simp only [sy.1,rE,reduceIte,rL,g0,g1,g5,i1,i2,j1,j2,decide_eq_true q];apply hn;refine wcF (by simp only [sy.1,rE,reduceIte]) ?_;refine qN (B1 _ ?_);refine reg fun K hn hp=> ?_;simp only [sy.1,rE,reduceIte,rL,g5,qE hk hlt];apply hn;refine ⟨⟨k+1,_,rfl,by omega,(by simp [xZZ,g0]),(by simp [xZZ,g1]),(by simp [xZZ]),same_step hk (by omega) hs q⟩,by simpa [xZZ,muA] using (by omega:a.length - (k+1)<a.length - k)⟩
   ·refine jQ (sok xt) 9 (by kernel_rfl) fun K hn hp=> ?_;simp only [sy.1,rE,reduceIte,rL,g0,g1,g5,i1,i2,j1,j2,decide_eq_false q];apply hn;refine wcT (by simp only [sy.1,rE,reduceIte]) ?_;refine qA fun K hn hp=> ?_;simp only [sy.1,rL];apply hn;refine qD (B4 _ (A4 _ (qK res69 ⟨?_,xZP (xZX _)⟩)));have: ¬a=b:=fun x=>q (by rw [x]);simp [xZZ,this]
  ·refine qU (by simp only [sy.1,rE,reduceIte,hk]) ?_;refine qG (A2 _ ?_);obtain rfl:k=a.length:=by omega
   refine qA fun K hn hp=> ?_;simp only [sy.1,rL];apply hn;refine qD (qK res69 ⟨?_,xZP (xZX _)⟩);have:a=b:=by rwa [xZS (xZX _),xZS (by omega)] at hs
   simp [xZZ,this]
 ·exact ⟨0,_,rfl,(by omega),(by simp [xZZ]),(by simp [xZZ]),(by simp [xZZ]),rfl⟩
def okW (l:List Int):Bool:=l.all fun x=>inB x 0 1000000
theorem okW_no {l:List Int} {k:Nat} (hk:k<l.length) (h:inB (l.getD k 0) 0 1000000=false):okW l=false:=by
 rw [okW,List.all_eq_false];refine ⟨_,xZK hk,?_⟩;rw [xZW,xZY hk] at h;simpa using h
theorem ft125 (xt:Xt):(SE xt).ft.get 58=some Tryz.f58:=by kernel_rfl
theorem res125:Tryz.f58.results.toList=[.tmp 2]:=by kernel_rfl
theorem qCt (xt:Xt) (h:Hp) (v:AV) (l:List Int) (hl:Nums xt h v l) {K:KP} (hk: ∀k,h.n<k->K (.ret (.val (.bool (okW l)))) (h.up k)):FnA (SE xt) 58 [v] h K:=by
 refine xZG ?_ hk;clear hk K;refine xZM (sok xt) (ft125 xt) rfl 16 rfl ?_;have hlen:=hl.len;have hlt:=hl.lt;refine qA fun K hn hp=> ?_;simp only [sw.1,rL];apply hn;refine qB fun K hn hp=> ?_;simp only [sy.1,rL];apply hn;refine qC fun KA A1 A2 A3 A4 A5=> ?_;refine qI (sok xt) (fun st=> ∃(k:Nat) (m:Nat) (tm:T AV),st=⟨tm,16,h.up m,[]⟩/\k<=l.length/\tm.get 0=some (v)/\tm.get 3=some (iv k)/\h.n<=m/\okW (l.take k)=true) (fun st=>l.length - (match st.tm.get 3 with|some (.val (.int _ n))=>n.toNat|_=>0)) ?_ ?_
 ·rintro st ⟨k,m,tm,rfl,hkA,g0,g3,hm,hall⟩;have muA:=g3;refine qB fun K hn hp=> ?_;simp only [sy.1,rE,reduceIte,rL,syw.1,hlen,qR,g0,g3];apply hn;by_cases hk:k<l.length
  ·refine qV (by simp only [sy.1,rE,reduceIte,hk]) ?_;obtain ⟨i1,i2⟩:=hl.row.m75 (k:=k) hk;refine qC fun KB B1 B2 B3 B4 B5=> ?_;refine qA fun K hn hp=> ?_;simp only [sy.1,rE,reduceIte,rL,syw.1,g0,g3,i1,i2];refine cAS (kG xt (h.up m) (l.getD k 0) 0 1000000 fun m1 hm1=> ?_);simp only [xZJ] at hm1;have e1:(decide ((0:Int)<=l.getD k 0) && decide (l.getD k 0<=1000000))=inB (l.getD k 0) 0 1000000:=rfl;rw [e1];cases q:inB (l.getD k 0) 0 1000000
   ·simp only [sy.1,rE,reduceIte,rL,xYZ];apply hn;refine wcT (by simp only [sy.1,rE,reduceIte]) ?_;refine qA fun K hn hp=> ?_;simp only [sy.1,rL];apply hn;refine qD (B4 _ (A4 _ (qK res125 ⟨?_,(xZP (xZX _)).up (by omega)⟩)));simp [xZZ,okW_no hk q]
   ·simp only [sy.1,rE,reduceIte,rL,xYZ];apply hn;refine wcF (by simp only [sy.1,rE,reduceIte]) ?_;refine qN (B1 _ ?_);refine reg fun K hn hp=> ?_;simp only [sy.1,rE,reduceIte,rL,g3,qE hk hlt];apply hn;refine ⟨⟨k+1,m1,_,rfl,by omega,(by simp [xZZ,g0]),(by simp [xZZ]),by omega,?_⟩,by simpa [xZZ,muA] using (by omega:l.length - (k+1)<l.length - k)⟩;rw [xZT,xZY hk];rw [xZW,xZY hk] at q;simp only [okW,List.all_append,xYY] at hall ⊢;exact ⟨hall,by simpa using q⟩
  ·refine qU (by simp only [sy.1,rE,reduceIte,hk]) ?_;refine qG (A2 _ ?_);obtain rfl:k=l.length:=by omega
   rw [xZS (xZX _)] at hall;refine qA fun K hn hp=> ?_;simp only [sy.1,rL];apply hn;refine qD (qK res125 ⟨?_,(xZP (xZX _)).up hm⟩);simp [xZZ,hall]
 ·exact ⟨0,h.n,_,rfl,(by omega),(by simp [xZZ]),(by simp [xZZ]),xZX _,rfl⟩
theorem ft116 (xt:Xt):(SE xt).ft.get 40=some Tryz.f40:=by kernel_rfl
theorem res116:Tryz.f40.results.toList=[.tmp 2]:=by kernel_rfl
theorem notw_c (xt:Xt) (h:Hp) (x:Int) {K:KP} (hk: ∀k,h.n<k->K (.ret (.val (.bool (!inB x 0 1000000)))) (h.up k)):FnA (SE xt) 40 [iv x] h K:=by
 refine xZG ?_ hk;clear hk K;refine xZM (sok xt) (ft116 xt) rfl 6 rfl ?_;refine qA fun K hn hp=> ?_;simp only [sw.1,rL];apply hn;refine qA fun K hn hp=> ?_;simp only [sy.1,rE,reduceIte,rL];refine cAS (pZ xt h x 0 1000000 fun m1 hm1=> ?_);have e1:(decide ((0:Int)<=x) && decide (x<=1000000))=inB x 0 1000000:=rfl;rw [e1];simp only [sy.1,rE,reduceIte,rL];refine hn _ _ (qD (qK res116 ⟨?_,(xZP (xZX _)).up (by omega)⟩));simp [xZZ]
theorem ft170 (xt:Xt):(SE xt).ft.get 95=some Tryz.f95:=by kernel_rfl
theorem res170:Tryz.f95.results.toList=[.tmp 4]:=by kernel_rfl
theorem idx170_c (xt:Xt) (h:Hp) (v:AV) (l:List Int) (hl:Nums xt h v l):FnA (SE xt) 95 [v,.val (.func (.func 40) #[] #[])] h (fun res h'=>(∃k:Int,res= .ret (iv k)/\decide (0<=k)= !okW l)/\Fr h.n h h'):=by
 refine xZM (sok xt) (ft170 xt) rfl 19 rfl ?_;have hlen:=hl.len;have hlt:=hl.lt;refine qA fun K hn hp=> ?_;simp only [sw.1,rL];apply hn;refine qB fun K hn hp=> ?_;simp only [sy.1,rE,reduceIte,rL,syw.1,hlen];apply hn;refine qC fun KA A1 A2 A3 A4 A5=> ?_;refine qI (sok xt) (fun st=> ∃(k:Nat) (m:Nat) (tm:T AV),st=⟨tm,19,h.up m,[]⟩/\k<=l.length/\tm.get 0=some (v)/\tm.get 1=some (.val (.func (.func 40) #[] #[]))/\tm.get 7=some (iv l.length)/\tm.get 8=some (iv k)/\h.n<=m/\okW (l.take k)=true) (fun st=>l.length - (match st.tm.get 8 with|some (.val (.int _ n))=>n.toNat|_=>0)) ?_ ?_
 ·rintro st ⟨k,m,tm,rfl,hkA,g0,g1,g7,g8,hm,hall⟩;have muA:=g8;refine qA fun K hn hp=> ?_;simp only [sy.1,rL,qR,g7,g8];apply hn;by_cases hk:k<l.length
  ·refine qV (by simp only [sy.1,reduceIte,hk]) ?_;obtain ⟨i1,i2⟩:=hl.row.m75 (k:=k) hk;refine qC fun KB B1 B2 B3 B4 B5=> ?_;refine qA fun K hn hp=> ?_;simp only [sy.1,rE,reduceIte,rL,g8];apply hn;refine qA fun K hn hp=> ?_;simp only [sy.1,rE,reduceIte,rL,syw.1,g0,g1,i1,i2];refine cAS (notw_c xt (h.up m) (l.getD k 0) fun m1 hm1=> ?_);simp only [xZJ] at hm1;cases q:inB (l.getD k 0) 0 1000000
   ·simp only [sy.1,rL,xYZ];apply hn;refine wcT (by simp only [sy.1,rE,reduceIte]) ?_;refine qA fun K hn hp=> ?_;simp only [sy.1,rE,reduceIte,rL];apply hn;refine qD (B4 _ (A4 _ (qK res170 ⟨⟨(k:Int),?_,?_⟩,(xZP (xZX _)).up (by omega)⟩)))
    ·simp [xZZ]
    ·rw [okW_no hk q,decide_eq_true (by omega)];rfl
   ·simp only [sy.1,rL,xYZ];apply hn;refine wcF (by simp only [sy.1,rE,reduceIte]) ?_;refine qN (B1 _ ?_);refine reg fun K hn hp=> ?_;simp only [sy.1,rE,reduceIte,rL,g8,qE hk hlt];apply hn;refine ⟨⟨k+1,m1,_,rfl,by omega,(by simp [xZZ,g0]),(by simp [xZZ,g1]),(by simp [xZZ,g7]),(by simp [xZZ]),by omega,?_⟩,by simpa [xZZ,muA] using (by omega:l.length - (k+1)<l.length - k)⟩;rw [xZT,xZY hk];rw [xZW,xZY hk] at q;simp only [okW,List.all_append,xYY] at hall ⊢;exact ⟨hall,by simpa using q⟩
  ·refine qU (by simp only [sy.1,reduceIte,hk]) ?_;refine qG (A2 _ ?_);obtain rfl:k=l.length:=by omega
   rw [xZS (xZX _)] at hall;refine qA fun K hn hp=> ?_;simp only [sy.1,rL];apply hn;refine qD (qK res170 ⟨⟨-1,?_,?_⟩,(xZP (xZX _)).up hm⟩)
   ·simp [xZZ]
   ·rw [hall];rfl
 ·exact ⟨0,h.n,_,rfl,(by omega),(by simp [xZZ]),(by simp [xZZ]),(by simp [xZZ]),(by simp [xZZ]),xZX _,rfl⟩
theorem ft118 (xt:Xt):(SE xt).ft.get 42=some Tryz.f42:=by kernel_rfl
theorem res118:Tryz.f42.results.toList=[.tmp 4]:=by kernel_rfl
theorem badw_c (xt:Xt) (h:Hp) (v:AV) (l:List Int) (hl:Nums xt h v l) {K:KP} (hk: ∀k,h.n<k->K (.ret (.val (.bool (!okW l)))) (h.up k)):FnA (SE xt) 42 [v,.val (.func (.func 40) #[] #[])] h K:=by
 refine xZG ?_ hk;clear hk K;refine xZM (sok xt) (ft118 xt) rfl 9 rfl ?_;refine qA fun K hn hp=> ?_;simp only [sw.1,rL];apply hn;refine qA fun K hn hp=> ?_;simp only [sy.1,rE,reduceIte,rL];refine cAS (FnA.mono (idx170_c xt h v l hl) fun res h2 hres=> ?_);obtain ⟨⟨k,rfl,hk⟩,f2⟩:=hres;simp only [sy.1,rE,reduceIte,rL,hk];refine hn _ _ (qD (qK res118 ⟨?_,f2⟩));simp [xZZ]
theorem ft115 (xt:Xt):(SE xt).ft.get 38=some Tryz.f38:=by kernel_rfl
theorem res115:Tryz.f38.results.toList=[.tmp 2]:=by kernel_rfl
theorem steps_c (xt:Xt) (h:Hp) (v:AV) (l:List Int) (hl:Nums xt h v l) (hl8:l.length<=100) (hb: ∀x∈l,0<=x/\x<=1000000):
  FnA (SE xt) 38 [v] h (fun res h'=> ∃z,res= .ret z/\OwnSl h' h.n 1 3 z l.length (ivs (dif 0 l))/\Fr h.n h h'):=by
 refine xZM (sok xt) (ft115 xt) rfl 22 rfl ?_;have hlen:=hl.len;have hlt:=hl.lt;refine qA fun K hn hp=> ?_;simp only [sw.1,rL];apply hn;refine qA fun K hn hp=> ?_;simp only [sy.1,rL];apply hn;refine qA fun K hn hp=> ?_;simp only [sy.1,rL];apply hn;refine qB fun K hn hp=> ?_;simp only [sy.1,rE,reduceIte,rL,syw.1,hlen];apply hn;refine qC fun KA A1 A2 A3 A4 A5=> ?_;refine qI (sok xt) (fun st=> ∃(k:Nat) (hg:Hp) (z:AV) (p:Int) (tm:T AV),st=⟨tm,22,hg,[]⟩/\k<=l.length/\tm.get 3=some (z)/\tm.get 4=some (iv p)/\tm.get 7=some (v)/\tm.get 8=some (iv l.length)/\tm.get 9=some (iv k)/\Fr h.n h hg/\OwnSl hg h.n 1 3 z k (ivs (dif 0 (l.take k)))/\p=(l.take k).getLast?.getD 0) (fun st=>l.length - (match st.tm.get 9 with|some (.val (.int _ n))=>n.toNat|_=>0)) ?_ ?_
 ·rintro st ⟨k,hg,z,p,tm,rfl,hkA,g3,g4,g7,g8,g9,fg,og,hp0⟩;have muA:=g9;refine qA fun K hn hp=> ?_;simp only [sy.1,rL,qR,g8,g9];apply hn;by_cases hk:k<l.length
  ·refine qV (by simp only [sy.1,reduceIte,hk]) ?_;obtain ⟨i1,i2⟩:=(hl.fr fg (xZX _)).row.m75 (k:=k) hk;refine qC fun KB B1 B2 B3 B4 B5=> ?_;have hx:l.getD k 0∈l:=by
    rw [xZW,xZY hk];exact xZK hk
   have bx:=hb _ hx;have bp:0<=p/\p<=1000000:=by
    rw [hp0];cases e:(l.take k).getLast? with
    |none=>simp
    |some y=>exact hb y (List.take_subset _ _ (List.mem_of_getLast? e))
   have w1:IntKind.i64.wrap (l.getD k 0 - p)=l.getD k 0 - p:=qF _ (by omega) (by omega);obtain ⟨hB,hhB,nB,sB,kB,fB⟩:=yG hg (.cells [iv (l.getD k 0 - p)] 3);obtain ⟨z',hC,r1,r2,r3,r4⟩:=OwnSl.append (P:=Tryz.prog) (xt:=xt) (m:=1) (by_:=8) (x:= .sl hg.n 0 1 1) (og.fr fB (xZX _)) (by have:=fg.lo;omega) vX rfl tg3 rfl rfl vX rfl (vU (e:=3) sB rfl rfl) (by omega) rfl (by omega) (by omega);refine qA fun K hn hp=> ?_;simp only [sy.1,rE,reduceIte,rL,g7,g9,i1,i2];apply hn;refine qA fun K hn hp=> ?_;simp only [sy.1,rE,reduceIte,rL,g3,g4,w1,jJ,bs75,<-hhB,r1];apply hn;clear hhB;refine reg fun K hn hp=> ?_;simp only [sy.1,rE,reduceIte,rL];apply hn;refine B1 _ ?_;refine reg fun K hn hp=> ?_;simp only [sy.1,rE,reduceIte,rL,g9,qE hk hlt];apply hn;refine ⟨⟨k+1,hC,z',l.getD k 0,_,rfl,by omega,(by simp [xZZ]),(by simp [xZZ]),(by simp [xZZ,g7]),(by simp [xZZ,g8]),(by simp [xZZ]),(fg.trans fB (by have:=fg.lo;omega)).trans r3 (xZX _),?_,?_⟩,by simpa [xZZ,muA] using (by omega:l.length - (k+1)<l.length - k)⟩
   ·have e:ivs (dif 0 (l.take (k+1)))=ivs (dif 0 (l.take k))++[iv (l.getD k 0 - p)]:=by
     rw [xZT,xZY hk,xZL,qC5,<-hp0,xZW,xZY hk];simp [ivs]
    rw [e];exact r2
   ·rw [xZT,xZY hk,xZW,xZY hk,xZL,List.getLast?_concat]
  ·refine qU (by simp only [sy.1,reduceIte,hk]) ?_;refine qG (A2 _ ?_);obtain rfl:k=l.length:=by omega
   rw [xZS (xZX _)] at og;refine qA fun K hn hp=> ?_;simp only [sy.1,rE,reduceIte,rL,g3];apply hn;refine qD (qK res115 ⟨z,?_,og,fg⟩);simp [xZZ]
 ·exact ⟨0,h,jI,0,_,rfl,(by omega),(by simp [xZZ]),(by simp [xZZ]),(by simp [xZZ]),(by simp [xZZ]),(by simp [xZZ]),xZP (xZX _),.inl ⟨rfl,rfl,rfl⟩,rfl⟩
theorem OwnSl.cap {h:Hp} {N sz n:Nat} {e:TypeId} {v:AV} {cs:List AV} (o:OwnSl h N sz e v n cs):xH v:=by
 rcases o with ⟨_,_,rfl⟩|⟨b,rfl,_⟩
 ·intro _ _ _ e;cases e;exact xZX _
 ·intro _ _ _ e;cases e
structure BAt (xt:Xt) (h:Hp) (v:AV) (bl:List (Int×Int×List Int)):Prop where
 len: ∀h':Hp,zI tb h' 32 v=some bl.length
 lt:bl.length<=9223372036854775807
 one:Go.Ev.one v=true
 cells:cellsOf v=[v]
 at_: ∀(i:Nat) (b:Int×Int×List Int),bl[i]? =some b-> ∃p p0 p1 p2 x,(qM tb 32 v (iv (i:Int))=some p/\qL tb 52 p 0=some p0/\qL tb 52 p 1=some p1/\qL tb 52 p 2=some p2)/\ ∀h':Hp,Fr h.n h h'->(qO tb xt h' 52 p=some (.agg [iv b.1,iv b.2.1,x])/\qO tb xt h' 3 p0=some (iv b.1)/\qO tb xt h' 3 p1=some (iv b.2.1)/\qO tb xt h' 31 p2=some x)/\Nums xt h' x b.2.2/\xH x
theorem BAt.fr {xt:Xt} {h h':Hp} {v:AV} {bl:List (Int×Int×List Int)} (a:BAt xt h v bl) {n:Nat} (f:Fr n h h') (hn:h.n<=n):BAt xt h' v bl:=
 ⟨a.len,a.lt,a.one,a.cells,fun i b hb=>by
  obtain ⟨p,p0,p1,p2,x,h1,h2⟩:=a.at_ i b hb;exact ⟨p,p0,p1,p2,x,h1,fun h'' f''=>h2 h'' (((f.lower hn).trans f'' f.le))⟩⟩
theorem BAt.up {xt:Xt} {h:Hp} {v:AV} {bl:List (Int×Int×List Int)} (a:BAt xt h v bl) {n:Nat} (hn:h.n<=n):BAt xt (h.up n) v bl:=a.fr ((xZP (xZX _)).up hn) (xZX _)
def flB (es:List (Int×Int×AV)):List AV:=es.flatMap fun e=>[iv e.1,iv e.2.1,e.2.2]
theorem qCc (es:List (Int×Int×AV)):(flB es).length=es.length*3:=by
 induction es with
 |nil=>rfl
 |cons e es ih=>simp only [flB,List.flatMap_cons,xZR,List.length_cons,List.length_nil] at ih ⊢;omega
theorem qBq: ∀{es:List (Int×Int×AV)} {i:Nat} {e:Int×Int×AV},es[i]? =some e->(flB es)[i*3]? =some (iv e.1)/\(flB es)[i*3+1]? =some (iv e.2.1)/\(flB es)[i*3+2]? =some e.2.2
 |[],i,e,h=>by simp at h
 |x::es,0,e,h=>by
  simp only [xZH,Option.some.injEq] at h;subst h;exact ⟨rfl,rfl,rfl⟩
 |x::es,i+1,e,h=>by
  have:=qBq (es:=es) (i:=i) (e:=e) (by simpa using h);have e1:(i+1)*3=i*3+3:=by omega
  rw [e1];exact this
theorem flB_app (a b:List (Int×Int×AV)):flB (a++b)=flB a++flB b:=by simp [flB]
theorem flB_set {es:List (Int×Int×AV)} {i:Nat} {e:Int×Int×AV} (he:es[i]? =some e) (x:AV):(flB es).set (i*3+2) x=flB (es.set i (e.1,e.2.1,x)):=by
 induction es generalizing i with
 |nil=>simp at he
 |cons y es ih=>
  cases i with
  |zero=>
   simp only [xZH,Option.some.injEq] at he;subst he;rfl
  |succ i=>
   have:=ih (i:=i) (by simpa using he);rw [show (i+1)*3+2=(i*3+2)+3 by omega,List.set_cons_succ];show iv y.1::iv y.2.1::y.2.2::(flB es).set (i*3+2) x=iv y.1::iv y.2.1::y.2.2::flB (es.set i (e.1,e.2.1,x));rw [this]
abbrev xK (h:Hp) (N:Nat) (v:AV) (es:List (Int×Int×AV)):Prop:=OwnSl h N 3 52 v es.length (flB es)
theorem OwnSl.elt {h:Hp} {N:Nat} {v:AV} {es:List (Int×Int×AV)} (o:xK h N v es) {i:Nat} {e:Int×Int×AV} (he:es[i]? =some e) (xt:Xt):
  ∃b,(v= .sl b 0 es.length 3/\N<=b/\b<h.n/\h.t.get b=some (.cells (flB es) 52))/\qM tb 32 v (iv (i:Int))=some (.ptr b (i*3))/\ ∀h':Hp,h'.t.get b=h.t.get b->qO tb xt h' 52 (.ptr b (i*3))=some (.agg [iv e.1,iv e.2.1,e.2.2])/\qO tb xt h' 3 (.ptr b (i*3))=some (iv e.1)/\qO tb xt h' 3 (.ptr b (i*3+1))=some (iv e.2.1)/\qO tb xt h' 31 (.ptr b (i*3+2))=some e.2.2:=by
 have hi:=(xZV.1 he).1;obtain ⟨b,h1,h2,h3,h4,h5⟩:=OwnSl.idx o pY rfl xP rfl hi (k:= .i64);obtain ⟨q1,q2,q3⟩:=qBq he;rcases o with ⟨e0,_⟩|⟨b',e1,_⟩
 ·omega
 have hb:b'=b:=by
  subst e1;obtain ⟨te,ht⟩: ∃te,tb.get 32=some te:=⟨_,pY⟩;have e1:qAm (iv (i:Int))=some (Int.ofNat i):=rfl;have e2:Nat.blt i es.length=true:=by rw [Nat.blt_eq];exact hi
  have s3:te52.size=3:=rfl;have:qM tb 32 (.sl b' 0 es.length 3) (iv (i:Int))=some (.ptr b' (i*3)):=by simp [qM,pY,e1,xP,e2,s3,show te32.d= .slice 52 from rfl]
  rw [this] at h1;simp only [Option.some.injEq,AV.ptr.injEq] at h1;exact h1.1
 subst hb;refine ⟨b',⟨e1,h2,h3,h4⟩,h1,fun h' hh=> ?_⟩;have a1:=(xZV.1 q1);have a2:=(xZV.1 q2);have a3:=(xZV.1 q3);refine ⟨?_,?_,?_,?_⟩
 ·rw [ld118,hh,h4,qAY];have e1:(flB es).drop (i*3)=iv e.1::iv e.2.1::e.2.2::(flB es).drop (i*3+1+1+1):=by
   rw [xZO a1.1,a1.2,xZO a2.1,a2.2,xZO a3.1,a3.2]
  rw [if_pos (by omega),e1];rfl
 ·rw [ld3,hh,h4];exact q1
 ·rw [ld3,hh,h4];exact q2
 ·rw [ld75,hh,h4];exact q3
theorem OwnSl.bat {xt:Xt} {h:Hp} {N:Nat} {v:AV} {es:List (Int×Int×AV)} (o:xK h N v es) {bl:List (Int×Int×List Int)} (hl:bl.length=es.length) (hlt:es.length<=1000000) (hw: ∀(i:Nat) (e:Int×Int×AV) (b:Int×Int×List Int),es[i]? =some e->bl[i]? =some b->e.1=b.1/\e.2.1=b.2.1/\Nums xt h e.2.2 b.2.2/\xH e.2.2):BAt xt h v bl:=by
 refine ⟨fun h'=> ?_,by omega,OwnSl.one o,OwnSl.cells o,fun i b hb=> ?_⟩
 ·rw [hl];exact OwnSl.len o pY rfl
 ·have hi:=(xZV.1 hb).1;obtain ⟨e,he⟩: ∃e,es[i]? =some e:=⟨_,xZY (by omega)⟩;obtain ⟨e1,e2,e3,e4⟩:=hw i e b he hb;obtain ⟨b',⟨_,_,hb',_⟩,j1,j2⟩:=OwnSl.elt o he xt;refine ⟨_,_,_,_,e.2.2,⟨j1,fa118_0 _ _,fa118_1 _ _,fa118_2 _ _⟩,fun h' f=> ?_⟩;obtain ⟨l1,l2,l3,l4⟩:=j2 h' (f.at_ b' (.inl hb'));rw [<-e1,<-e2];exact ⟨⟨l1,l2,l3,l4⟩,e3.fr f (xZX _),e4⟩
theorem bs91 (h:Hp) (a b:Int):j0 tb h 32 1 [(0,.agg [iv a,iv b,jI])]=some (.sl h.n 0 1 3,h.new (.cells [iv a,iv b,jI] 52)):=bs_of (sz:=3) (zs:=[.int .i64 0,.int .i64 0,.slice none 0 0]) pY rfl xP rfl rfl (by omega) (by omega) rfl
theorem bd118 (a b:Int):vN tb 52 [(0,iv a),(1,iv b)]=some (.agg [iv a,iv b,jI]):=by kernel_rfl
def fr0 (l:List (Nat×Nat)):List (Int×Int×AV):=l.map fun x=>((x.1:Int),(x.2:Int),jI)
theorem fr0_app (a b:List (Nat×Nat)):fr0 (a++b)=fr0 a++fr0 b:=by simp [fr0]
def Wk.rowTo (w:Wk) (f j:Nat):List (Nat×Nat):=((w.wn.take j).filter fun x=>decide (f+x<=w.m.cells.length)).map fun x=>(f,x)
theorem wX {w:Wk} {f j x:Nat} (hx:w.wn[j]? =some x):w.rowTo f (j+1)=w.rowTo f j++if f+x<=w.m.cells.length then [(f,x)] else []:=by
 rw [Wk.rowTo,xZT,hx];simp only [Wk.rowTo,xZL,List.filter_append,List.map_append];by_cases e:f+x<=w.m.cells.length
 ·simp [e]
 ·simp [e]
theorem qBz (w:Wk) (f:Nat):w.bnds (f+1)=w.bnds f++w.rowTo f w.wn.length:=by
 rw [Wk.bnds,List.range_succ,List.flatMap_append];simp [Wk.bnds,Wk.rowB,Wk.rowTo]
theorem xJ {w:Wk} (his:w.Is) (f:Nat):(w.bnds f).length<=f*3:=by
 induction f with
 |zero=>simp [Wk.bnds]
 |succ f ih=>
  rw [qBz,xZR];have h1:(w.rowTo f w.wn.length).length<=w.wn.length:=by
   rw [Wk.rowTo,xZQ];exact Nat.le_trans (xZF _ _) (by rw [xZN];omega)
  have h2:w.wn.length<=3:=by rw [Wk.wn,xZQ];exact Wk.ws_len his
  omega
theorem qDL {w:Wk} (his:w.Is) (f j:Nat):(w.rowTo f j).length<=3:=by
 have h2:w.wn.length<=3:=by rw [Wk.wn,xZQ];exact Wk.ws_len his
 rw [Wk.rowTo,xZQ];exact Nat.le_trans (xZF _ _) (by rw [xZN];omega)
theorem wn_at {w:Wk} (his:w.Is) {j:Nat} (hj:j<w.ws.length): ∃x:Nat,w.wn[j]? =some x/\w.ws.getD j 0=(x:Int)/\1<=x/\x<=3:=by
 have hm:=Wk.ws_mem his (xZK hj);refine ⟨(w.ws[j]).toNat,?_,?_,by omega,by omega⟩
 ·rw [Wk.wn,List.getElem?_map,xZY hj];rfl
 ·rw [xZW,xZY hj];simp only [xZE];omega
theorem OwnSl.appB {xt:Xt} {h hB:Hp} {N:Nat} {v:AV} {L:List (Nat×Nat)} (o:xK h N v (fr0 L)) (hN:N<=h.n) {f x:Nat} (fB:Fr h.n h hB) (nB:hB.n=h.n+1) (sB:hB.t.get h.n=some (.cells [iv (f:Int),iv (x:Int),jI] 52)) (hl:L.length<=1000):
  ∃v' h',qT Tryz.prog tb xt .append [32,32] [v,.sl h.n 0 1 3] hB=some (v',h')/\xK h' N v' (fr0 (L++[(f,x)]))/\Fr N h h':=by
 have hfl:(fr0 L).length=L.length:=by simp [fr0]
 obtain ⟨v',h',r1,r2,r3,r4⟩:=OwnSl.append (P:=Tryz.prog) (xt:=xt) (m:=1) (by_:=40) (x:= .sl h.n 0 1 3) (OwnSl.fr o fB (xZX _)) (by omega) pY rfl xP rfl rfl pY rfl (vU (e:=52) sB rfl rfl) (by omega) rfl (by omega) (by omega);refine ⟨v',h',r1,?_,(fB.lower hN).trans r3 (xZX _)⟩;rw [fr0_app];show OwnSl h' N 3 52 v' _ (flB _);rw [flB_app,xZR];exact r2
theorem ft123 (xt:Xt):(SE xt).ft.get 52=some Tryz.f52:=by kernel_rfl
theorem res123:Tryz.f52.results.toList=[.tmp 2]:=by kernel_rfl
theorem qFi (xt:Xt) (h:Hp) (w:Wk) (ha:w.At xt h) (his:w.Is):
  FnA (SE xt) 52 [w.av] h (fun res h'=> ∃z,res= .ret z/\xK h' h.n z (fr0 (w.bnds w.m.cells.length))/\Fr h.n h h'/\h.n<h'.n):=by
 refine xZM (sok xt) (ft123 xt) rfl 42 rfl ?_;obtain ⟨o1,o2,o3,o4,o5⟩:=ha.ones;have r6:=his.m.r6;have hw3:=Wk.ws_len his;have hwl:w.wn.length=w.ws.length:=by simp [Wk.wn]
 refine qA fun K hn hp=> ?_;simp only [sw.1,reduceIte,rL];apply hn;obtain ⟨h1,hh1,nh1,sh1,_,fbh1⟩:=nwE h (.cells w.cs 30);rw [<-hh1];have fh1:=fbh1;have ha1:=ha.fr fh1 (xZX _);refine qA fun K hn hp=> ?_;simp only [sy.1,rL];apply hn;refine qA fun K hn hp=> ?_;simp only [sy.1,rE,reduceIte,rL,rA,sh1];refine cAS (FnA.mono (qDJ xt h1 w ha1 his) fun res h2 hres=> ?_);obtain ⟨f2,zw,rfl,rw2,_⟩:=hres;simp only [sy.1,rE,reduceIte,rL];apply hn;have hw2:Nums xt h2 zw w.ws:=⟨rw2,by omega⟩;have f2h:=fh1.trans f2 (by omega);have s2:=(f2.at_ h.n (.inl (by omega))).trans sh1;have lo2:=f2.lo;refine zH (fun tm=>tm.get 1=some (.ptr h.n 0)/\tm.get 3=some jI/\tm.get 4=some zw) ⟨by simp [xZZ],by simp [xZZ],by simp [xZZ]⟩ fun tm ht=> ?_;obtain ⟨g1,g3,g4⟩:=ht;refine qB fun K hn hp=> ?_;simp only [sy.1,rL];apply hn;refine qC fun KA A1 A2 A3 A4 A5=> ?_;refine qI (sok xt) (fun st=> ∃(f:Nat) (hg:Hp) (z:AV) (tm:T AV),st=⟨tm,42,hg,[]⟩/\f<=w.m.cells.length/\tm.get 1=some (.ptr h.n 0)/\tm.get 3=some (z)/\tm.get 4=some (zw)/\tm.get 5=some (iv f)/\Fr h2.n h2 hg/\xK hg h2.n z (fr0 (w.bnds f))) (fun st=>w.m.cells.length - (match st.tm.get 5 with|some (.val (.int _ n))=>n.toNat|_=>0)) ?_ ?_
 ·rintro st ⟨f,hg,z,tm,rfl,hkA,g1,g3,g4,g5,fg,og⟩;have muA:=g5;have ug:=(fg.at_ h.n (.inl (by omega))).trans s2;have hag:=ha.fr (f2h.trans fg (by omega)) (xZX _);have lg:=fg.lo;refine qB fun K hn hp=> ?_;simp only [sy.1,rE,reduceIte,rL,rA,rD,g1,g5,ug];refine cAS (kH xt hg w.m hag.m fun m3 hm3=> ?_);simp only [sy.1,rE,reduceIte,rL,qR];apply hn;by_cases hf:f<w.m.cells.length
  ·refine qV (by simp only [sy.1,rE,reduceIte,hf]) ?_;refine qC fun KB B1 B2 B3 B4 B5=> ?_;refine qA fun K hn hp=> ?_;simp only [sy.1,rL];apply hn;have ogu:xK (hg.up m3) h2.n z (fr0 (w.bnds f)):=OwnSl.up og (by omega);refine qY fun KD D1 D2 D3 D4 D5=> ?_;refine qI (sok xt) (fun st=> ∃(j:Nat) (hJ:Hp) (z:AV) (tm:T AV),st=⟨tm,42,hJ,[]⟩/\j<=w.ws.length/\tm.get 1=some (.ptr h.n 0)/\tm.get 3=some (z)/\tm.get 4=some (zw)/\tm.get 5=some (iv f)/\tm.get 6=some (iv j)/\Fr h2.n h2 hJ/\xK hJ h2.n z (fr0 (w.bnds f++w.rowTo f j))) (fun st=>w.ws.length - (match st.tm.get 6 with|some (.val (.int _ n))=>n.toNat|_=>0)) ?_ ?_
   ·rintro st ⟨j,hJ,z,tm,rfl,hkD,g1,g3,g4,g5,g6,fj,oj⟩;have muD:=g6;have uj:=(fj.at_ h.n (.inl (by omega))).trans s2;have haj:=ha.fr (f2h.trans fj (by omega)) (xZX _);have hwj:=hw2.fr fj (xZX _);have lenw:=hwj.len;have lj:=fj.lo;refine qB fun K hn hp=> ?_;simp only [sy.1,rE,reduceIte,rL,syw.1,qR,g4,g6,lenw];apply hn;by_cases hj:j<w.ws.length
    ·refine qV (by simp only [sy.1,rE,reduceIte,hj]) ?_;obtain ⟨x,x1,x2,x3,x4⟩:=wn_at his hj;obtain ⟨i1,i2⟩:=hwj.row.m75 hj;rw [x2] at i2;have wx:IntKind.i64.wrap ((f:Int)+(x:Int))=(f:Int)+x:=qF _ (by omega) (by omega);have dx:decide ((f:Int)+(x:Int)<=(w.m.cells.length:Int))=decide (f+x<=w.m.cells.length):=decide_eq_decide.2 (by omega);have hbl:=xJ his f;have hrl:=qDL his f j;refine qC fun KE E1 E2 E3 E4 E5=> ?_;refine qW (sok xt) 0 0 9 [(4,1)] (by kernel_rfl) fun K hn hp=> ?_;simp only [sy.1,rE,reduceIte,rL,rA,rD,syw.1,g1,g4,g5,g6,uj,i1,i2,wx];refine cAS (kH xt hJ w.m haj.m fun m5 hm5=> ?_);simp only [sy.1,rE,reduceIte,rL,rA,syw.1,i2,dx,hm5];apply hn;by_cases hx:f+x<=w.m.cells.length
     ·refine wcT (by simp only [sy.1,rE,reduceIte,decide_eq_true hx]) ?_;have oju:xK (hJ.up m5) h2.n z (fr0 (w.bnds f++w.rowTo f j)):=OwnSl.up oj (by omega);obtain ⟨hB,hhB,nB,sB,kB,fB⟩:=yG (hJ.up m5) (.cells [iv (f:Int),iv (x:Int),jI] 52);obtain ⟨z',hC,r1,r2,r3⟩:=OwnSl.appB (xt:=xt) oju (by simp only [xZJ];omega) fB nB sB (by rw [xZR];omega);simp only [xZJ] at r1;refine reg fun K hn hp=> ?_;simp only [sy.1,rE,reduceIte,rL,syw.1,g3,g4,g5,g6,i1,i2,bd118,jJ,bs91,<-hhB,r1];refine hn _ _ (E1 _ ?_);clear hhB;refine reg fun K hn hp=> ?_;simp only [sy.1,rE,reduceIte,rL,g6,qE hj (show w.ws.length<=9223372036854775807 by omega)];apply hn;refine ⟨⟨j+1,hC,z',_,rfl,by omega,(by simp [xZZ,g1]),(by simp [xZZ]),(by simp [xZZ,g4]),(by simp [xZZ,g5]),(by simp [xZZ]),(fj.up (by omega)).trans r3 (xZX _),by rw [wX x1,if_pos hx,<-xZB];exact r2⟩,by simpa [xZZ,muD] using (by omega:w.ws.length - (j+1)<w.ws.length - j)⟩
     ·refine wcF (by simp only [sy.1,rE,reduceIte,decide_eq_false hx]) ?_;refine qN (E1 _ ?_);refine reg fun K hn hp=> ?_;simp only [sy.1,rE,reduceIte,rL,g6,qE hj (show w.ws.length<=9223372036854775807 by omega)];apply hn;refine ⟨⟨j+1,hJ.up m5,z,_,rfl,by omega,(by simp [xZZ,g1]),(by simp [xZZ,g3]),(by simp [xZZ,g4]),(by simp [xZZ,g5]),(by simp [xZZ]),fj.up (by omega),by rw [wX x1,if_neg hx,List.append_nil];exact OwnSl.up oj (by omega)⟩,by simpa [xZZ,muD] using (by omega:w.ws.length - (j+1)<w.ws.length - j)⟩
    ·refine qU (by simp only [sy.1,rE,reduceIte,hj]) ?_;refine qG (D2 _ (B1 _ ?_));obtain rfl:j=w.ws.length:=by omega
     rw [<-hwl,<-qBz] at oj;refine reg fun K hn hp=> ?_;simp only [sy.1,rE,reduceIte,rL,g5,qE hf (show w.m.cells.length<=9223372036854775807 by omega)];apply hn;refine ⟨⟨f+1,hJ,z,_,rfl,by omega,(by simp [xZZ,g1]),(by simp [xZZ,g3]),(by simp [xZZ,g4]),(by simp [xZZ]),fj,oj⟩,by simpa [xZZ,muA] using (by omega:w.m.cells.length - (f+1)<w.m.cells.length - f)⟩
   ·exact ⟨0,hg.up m3,z,_,rfl,(by omega),(by simp [xZZ,g1]),(by simp [xZZ,g3]),(by simp [xZZ,g4]),(by simp [xZZ,g5]),(by simp [xZZ]),fg.up (by omega),by simpa [Wk.rowTo] using ogu⟩
  ·refine qU (by simp only [sy.1,rE,reduceIte,hf]) ?_;refine qG (A2 _ ?_);obtain rfl:f=w.m.cells.length:=by omega
   refine qA fun K hn hp=> ?_;simp only [sy.1,rE,reduceIte,rL,g3];apply hn;refine qD (qK res123 ⟨z,?_,?_,f2h.trans (fg.up (by omega)) (by omega),by simp only [xZJ];omega⟩)
   ·simp [xZZ]
   ·have:xK (hg.up m3) h2.n z (fr0 (w.bnds w.m.cells.length)):=OwnSl.up og (by omega);rcases this with q|⟨b,q1,q2,q3⟩
    ·exact .inl q
    ·exact .inr ⟨b,q1,by omega,q3⟩
 ·exact ⟨0,h2,jI,_,rfl,(by omega),(by simp [xZZ,g1]),(by simp [xZZ,g3]),(by simp [xZZ,g4]),(by simp [xZZ]),xZP (xZX _),.inl ⟨by simp [Wk.bnds,fr0],by simp [Wk.bnds,fr0,flB],rfl⟩⟩
theorem OwnSl.appB2 {xt:Xt} {h hB:Hp} {N:Nat} {v:AV} {L:List (Nat×Nat)} (o:xK h N v (fr0 L)) (hN:N<=h.n) {f x:Nat} (fB:Fr h.n h hB) (nB:hB.n=h.n+1) (sB:hB.t.get h.n=some (.cells [iv (f:Int),iv (x:Int),jI] 52)) (hl:L.length<=1000):
  ∃v' h',qT Tryz.prog tb xt .append [32,32] [v,.sl h.n 0 1 3] hB=some (v',h')/\xK h' N v' (fr0 (L++[(f,x)]))/\Fr N h h'/\(∀b off n s,v'= .sl b off n s->h.n<b)/\ ∀k,k<h.n->(∀off n s,v≠ .sl k off n s)->h'.t.get k=h.t.get k:=by
 have hfl:(fr0 L).length=L.length:=by simp [fr0]
 obtain ⟨h',r1,r2,r3,r4,r5⟩:=OwnSl.append2 (P:=Tryz.prog) (xt:=xt) (m:=1) (by_:=40) (x:= .sl h.n 0 1 3) (OwnSl.fr o fB (xZX _)) (by omega) pY rfl xP rfl rfl pY rfl (vU (e:=52) sB rfl rfl) (by omega) rfl (by omega) (by omega);refine ⟨_,h',r1,?_,(fB.lower hN).trans r3 (xZX _),fun b off n s e=> ?_,fun k hk hv=>(r5 k (by omega) hv).trans (fB.at_ k (.inl hk))⟩
 ·rw [fr0_app];show OwnSl h' N 3 52 _ _ (flB _);rw [flB_app,xZR];exact r2
 ·have:=(AV.sl.inj e).1;omega
theorem RowAt.sl_lt {xt:Xt} {h:Hp} {sz:Nat} {v:AV} {cs:List (List Value)} (r:RowAt xt h sz v cs) {b off n s:Nat} (e:v= .sl b off n s):b<h.n:=by
 obtain ⟨_,_,h3⟩:=r;rcases h3 with ⟨h3,_⟩|⟨_,_,h3,_⟩|⟨b',off',av,e',h3,⟨hlt,_,_⟩,_⟩
 ·rw [e] at h3;cases h3
 ·rw [e] at h3;cases h3
 ·rw [e] at h3;have:=(AV.sl.inj h3).1;omega
theorem ft112 (xt:Xt):(SE xt).ft.get 35=some Tryz.f35:=by kernel_rfl
theorem res112:Tryz.f35.results.toList=[.tmp 2]:=by kernel_rfl
theorem bands_c (xt:Xt) (h:Hp) (w:Wk) (ha:w.At xt h) (his:w.Is) (bv:AV) (onev:Go.Ev.one bv=true):
  FnA (SE xt) 35 [.agg (w.bc bv)] h (fun res h'=> ∃z,res= .ret z/\xK h' h.n z (fr0 (w.bnds w.m.cells.length))/\Fr h.n h h'/\h.n<h'.n):=by
 refine xZM (sok xt) (ft112 xt) rfl 34 rfl ?_;obtain ⟨o1,o2,o3,o4,o5⟩:=ha.ones;have r6:=his.m.r6;have hw3:=Wk.ws_len his;have hwl:w.wn.length=w.ws.length:=by simp [Wk.wn]
 refine qA fun K hn hp=> ?_;simp only [sw.1,reduceIte,rL];apply hn;obtain ⟨h1,hh1,nh1,sh1,_,fbh1⟩:=nwE h (.cells (w.bc bv) 85);rw [<-hh1];have fh1:=fbh1;have ha1:=ha.fr fh1 (xZX _);refine qA fun K hn hp=> ?_;simp only [sy.1,rL];apply hn;refine qB fun K hn hp=> ?_;simp only [sy.1,rE,reduceIte,rL,rA,sh1];refine cAS (qA1 xt h1 w ha1 bv onev fun m1 hm1=> ?_);simp only [sy.1,rL];apply hn;refine zH (fun tm=>tm.get 1=some (.ptr h.n 0)/\tm.get 3=some jI/\tm.get 8=some (iv w.m.cells.length)/\tm.get 9=some (iv 0)) ⟨by simp [xZZ],by simp [xZZ],by simp [xZZ],by simp [xZZ]⟩ fun tm ht=> ?_;obtain ⟨g1,g3,g8,g9⟩:=ht;refine qC fun KA A1 A2 A3 A4 A5=> ?_;refine qI (sok xt) (fun st=> ∃(f:Nat) (hg:Hp) (z:AV) (tm:T AV),st=⟨tm,34,hg,[]⟩/\f<=w.m.cells.length/\tm.get 1=some (.ptr h.n 0)/\tm.get 3=some (z)/\tm.get 8=some (iv w.m.cells.length)/\tm.get 9=some (iv f)/\Fr h1.n h1 hg/\xK hg h1.n z (fr0 (w.bnds f))) (fun st=>w.m.cells.length - (match st.tm.get 9 with|some (.val (.int _ n))=>n.toNat|_=>0)) ?_ ?_
 ·rintro st ⟨f,hg,z,tm,rfl,hkA,g1,g3,g8,g9,fg,og⟩;have muA:=g9;have ug:=(fg.at_ h.n (.inl (by omega))).trans sh1;have hag:=ha.fr (fh1.trans fg (by omega)) (xZX _);have lg:=fg.lo;refine qA fun K hn hp=> ?_;simp only [sy.1,rL,qR,g8,g9];apply hn;by_cases hf:f<w.m.cells.length
  ·refine qV (by simp only [sy.1,reduceIte,hf]) ?_;refine qC fun KB B1 B2 B3 B4 B5=> ?_;refine qA fun K hn hp=> ?_;simp only [sy.1,rE,reduceIte,rL,g9];apply hn;refine qA fun K hn hp=> ?_;simp only [sy.1,rE,reduceIte,rL,rA,g1,ug];refine cAS (FnA.mono (widths_c xt hg w hag his bv onev) fun res h2 hres=> ?_);obtain ⟨f2,zw,rfl,rw2,lwz⟩:=hres;have hw2:Nums xt h2 zw w.ws:=⟨rw2,by omega⟩;have lenw2:=hw2.len;simp only [sy.1,rE,reduceIte,rL,syw.1,lenw2];apply hn;have ap2:xR z zw:=fun b off n s e off' n' s' e'=>by
    have a1:=lwz b off n s e;rcases og with ⟨_,_,q⟩|⟨b',q,_,q2,_⟩
    ·rw [q] at e';cases e'
    ·rw [q] at e';have:=(AV.sl.inj e').1;omega
   have og2:xK h2 h1.n z (fr0 (w.bnds f)):=OwnSl.fr og f2 (xZX _);refine qY fun KD D1 D2 D3 D4 D5=> ?_;refine qI (sok xt) (fun st=> ∃(j:Nat) (hJ:Hp) (z:AV) (tm:T AV),st=⟨tm,34,hJ,[]⟩/\j<=w.ws.length/\tm.get 1=some (.ptr h.n 0)/\tm.get 3=some (z)/\tm.get 4=some (iv f)/\tm.get 8=some (iv w.m.cells.length)/\tm.get 9=some (iv f)/\tm.get 13=some (zw)/\tm.get 14=some (iv w.ws.length)/\tm.get 15=some (iv j)/\Fr h1.n h1 hJ/\xK hJ h1.n z (fr0 (w.bnds f++w.rowTo f j))/\Nums xt hJ zw w.ws/\xR z zw) (fun st=>w.ws.length - (match st.tm.get 15 with|some (.val (.int _ n))=>n.toNat|_=>0)) ?_ ?_
   ·rintro st ⟨j,hJ,z,tm,rfl,hkD,g1,g3,g4,g8,g9,g13,g14,g15,fj,oj,hwj,ap⟩;have muD:=g15;have uj:=(fj.at_ h.n (.inl (by omega))).trans sh1;have haj:=ha.fr (fh1.trans fj (by omega)) (xZX _);have lj:=fj.lo;refine qA fun K hn hp=> ?_;simp only [sy.1,rL,qR,g14,g15];apply hn;by_cases hj:j<w.ws.length
    ·refine qV (by simp only [sy.1,reduceIte,hj]) ?_;obtain ⟨x,x1,x2,x3,x4⟩:=wn_at his hj;obtain ⟨i1,i2⟩:=hwj.row.m75 hj;rw [x2] at i2;have wx:IntKind.i64.wrap ((f:Int)+(x:Int))=(f:Int)+x:=qF _ (by omega) (by omega);have dx:decide ((f:Int)+(x:Int)<=(w.m.cells.length:Int))=decide (f+x<=w.m.cells.length):=decide_eq_decide.2 (by omega);have hbl:=xJ his f;have hrl:=qDL his f j;refine qC fun KE E1 E2 E3 E4 E5=> ?_;refine qA fun K hn hp=> ?_;simp only [sy.1,rE,reduceIte,rL,g13,g15,i1,i2];apply hn;refine qA fun K hn hp=> ?_;simp only [sy.1,rE,reduceIte,rL,rA,g1,g4,uj,wx];refine cAS (qA1 xt hJ w haj bv onev fun m5 hm5=> ?_);simp only [sy.1,rE,reduceIte,rL,dx];apply hn;by_cases hx:f+x<=w.m.cells.length
     ·refine wcT (by simp only [sy.1,rE,reduceIte,decide_eq_true hx]) ?_;have oju:xK (hJ.up m5) h1.n z (fr0 (w.bnds f++w.rowTo f j)):=OwnSl.up oj (by omega);obtain ⟨hB,hhB,nB,sB,kB,fB⟩:=yG (hJ.up m5) (.cells [iv (f:Int),iv (x:Int),jI] 52);obtain ⟨z',hC,r1,r2,r3,r4,r5⟩:=OwnSl.appB2 (xt:=xt) oju (by simp only [xZJ];omega) fB nB sB (by rw [xZR];omega);simp only [xZJ] at r1;refine reg fun K hn hp=> ?_;simp only [sy.1,rE,reduceIte,rL,g3,g4,bd118,jJ,bs91,<-hhB,r1];refine hn _ _ (E1 _ ?_);clear hhB;have lC':=r3.le;simp only [xZJ] at lC' r4 r5;have hwC:Nums xt hC zw w.ws:=⟨hwj.row.keepB (by omega) (fun b off n s e hb=>(r5 b (by omega) (fun off' n' s'=>ap b off n s e off' n' s'))),hwj.lt⟩;refine reg fun K hn hp=> ?_;simp only [sy.1,rE,reduceIte,rL,g15,qE hj (show w.ws.length<=9223372036854775807 by omega)];apply hn;refine ⟨⟨j+1,hC,z',_,rfl,by omega,(by simp [xZZ,g1]),(by simp [xZZ]),(by simp [xZZ,g4]),(by simp [xZZ,g8]),(by simp [xZZ,g9]),(by simp [xZZ,g13]),(by simp [xZZ,g14]),(by simp [xZZ]),(fj.up (by omega)).trans r3 (xZX _),by rw [wX x1,if_pos hx,<-xZB];exact r2,hwC,fun b off n s e off' n' s' e'=>by have:=r4 b off' n' s' e';have:=RowAt.sl_lt hwj.row e;omega⟩,by simpa [xZZ,muD] using (by omega:w.ws.length - (j+1)<w.ws.length - j)⟩
     ·refine wcF (by simp only [sy.1,rE,reduceIte,decide_eq_false hx]) ?_;refine qN (E1 _ ?_);refine reg fun K hn hp=> ?_;simp only [sy.1,rE,reduceIte,rL,g15,qE hj (show w.ws.length<=9223372036854775807 by omega)];apply hn;refine ⟨⟨j+1,hJ.up m5,z,_,rfl,by omega,(by simp [xZZ,g1]),(by simp [xZZ,g3]),(by simp [xZZ,g4]),(by simp [xZZ,g8]),(by simp [xZZ,g9]),(by simp [xZZ,g13]),(by simp [xZZ,g14]),(by simp [xZZ]),fj.up (by omega),by rw [wX x1,if_neg hx,List.append_nil];exact OwnSl.up oj (by omega),hwj.up (by omega),ap⟩,by simpa [xZZ,muD] using (by omega:w.ws.length - (j+1)<w.ws.length - j)⟩
    ·refine qU (by simp only [sy.1,reduceIte,hj]) ?_;refine qG (D2 _ (B1 _ ?_));obtain rfl:j=w.ws.length:=by omega
     rw [<-hwl,<-qBz] at oj;refine reg fun K hn hp=> ?_;simp only [sy.1,rE,reduceIte,rL,g9,qE hf (show w.m.cells.length<=9223372036854775807 by omega)];apply hn;refine ⟨⟨f+1,hJ,z,_,rfl,by omega,(by simp [xZZ,g1]),(by simp [xZZ,g3]),(by simp [xZZ,g8]),(by simp [xZZ]),fj,oj⟩,by simpa [xZZ,muA] using (by omega:w.m.cells.length - (f+1)<w.m.cells.length - f)⟩
   ·exact ⟨0,h2,z,_,rfl,(by omega),(by simp [xZZ,g1]),(by simp [xZZ,g3]),(by simp [xZZ]),(by simp [xZZ,g8]),(by simp [xZZ,g9]),(by simp [xZZ]),(by simp [xZZ]),(by simp [xZZ]),fg.trans f2 (by omega),by simpa [Wk.rowTo] using og2,hw2,ap2⟩
  ·refine qU (by simp only [sy.1,reduceIte,hf]) ?_;refine qG (A2 _ ?_);obtain rfl:f=w.m.cells.length:=by omega
   refine qA fun K hn hp=> ?_;simp only [sy.1,rE,reduceIte,rL,g3];apply hn;refine qD (qK res112 ⟨z,?_,?_,fh1.trans fg (by omega),by omega⟩)
   ·simp [xZZ]
   ·rcases og with q|⟨b,q1,q2,q3⟩
    ·exact .inl q
    ·exact .inr ⟨b,q1,by omega,q3⟩
 ·exact ⟨0,h1.up m1,jI,_,rfl,(by omega),(by simp [g1]),(by simp [g3]),(by simp [g8]),(by simp [g9]),(xZP (xZX _)).up (by omega),.inl ⟨by simp [Wk.bnds,fr0],by simp [Wk.bnds,fr0,flB],rfl⟩⟩
end Go.Proofs.Kn
