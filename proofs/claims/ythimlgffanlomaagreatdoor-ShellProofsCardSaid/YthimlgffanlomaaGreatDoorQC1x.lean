/- Parts. -/
import Derived.Test.YthimlgffanlomaaGreatDoorQB3
import Derived.Test.YthimlgffanlomaaGreatDoorQW3
set_option linter.all false
open Nat renaming reduceEqDiff → rE, reduceLeDiff → rD, reduceAdd → rA, reduceMul → rM, reduceLT → rL
open Go.Ev.T renaming get_put → xZZ
open Nat renaming le_refl → xZY
open Go.Ev.Hp renaming set_t → xZX, up_n → xZK
open List renaming getD_eq_getElem?_getD → xZW, getElem?_eq_getElem → xZV, getElem?_map → xZU, getElem?_range → xZT, length_set → xZS, getElem?_eq_none → xZR, set_eq_take_append_cons_drop → xZQ, foldl_append → xZP, getElem?_replicate → xZO, set_set → xZM, mem_map → xZL, mem_of_getElem? → xZJ, getElem?_set → xZH, ext_getElem? → xZG, append_assoc → xZF
open Go.Ev.FnA renaming mono → xZN
open Option renaming map_some → xZI
namespace Go.Proofs.Kn
open Go Go.Ev
set_option maxRecDepth 100000
set_option maxHeartbeats 4000000
theorem end_1m {E:Env} {fn:Func} {K:KP} {tm:T AV} {nt:Nat} {h h':Hp} {mks:List Nat} {a:Tmp} (h1:fn.results.toList=[.tmp a]) (hd:vK mks h=some h') (h3:K (.ret ((tm.get a).getD default)) h'):xX E fn K .ret ⟨tm,nt,h,mks⟩:=by
 refine ⟨h',_,hd,by rw [h1];rfl,?_⟩;have e1:(match tm.get a with|some a=>a|none=>default)=(tm.get a).getD default:=by cases tm.get a<;>rfl
 show K (.ret (match tm.get a with|some a=>a|none=>default)) h';rw [e1];exact h3
theorem qFj: ∀n:Nat,j8 [AV.val (.int .i64 0)] n=ivs (List.replicate n 0)
 |0=>rfl
 |n+1=>by rw [j8,qFj n];rfl
theorem al75z (h:Hp):jT tb h 31=some (.ptr h.n 0,h.new (.cells [jI] 31)):=yP vX rfl
theorem mk75n (h:Hp) (n:Nat) (hn:n<=1000000):zO tb h 31 (iv n) (iv n)=some (.sl h.n 0 n 1,h.new (.cells (ivs (List.replicate n 0)) 3)):=by
 have e1:anat (iv (n:Int))=some n:=rfl;have d75:te31.d= .slice 3:=rfl;have s3:te3.size=1:=rfl;have y3:te3.bytes=8:=rfl;have z3:te3.zero=[.int .i64 0]:=rfl;have b1:Nat.ble (8*n) 281474976710656=true:=by rw [Nat.ble_eq];omega
 have b2:Nat.ble n 9223372036854775807=true:=by rw [Nat.ble_eq];omega
 have b3:Nat.blt 0 1=true:=rfl;simp only [zO,vX,d75,tg3,e1,s3,y3,z3,Nat.beq_refl,b1,b2,b3,Bool.and_self,cond_true,List.map_cons,List.map_nil,qFj]
theorem qAF (l:List Int) {j:Nat} (hj:j<l.length) (x:Int):(ivs l).take j++[iv x]++(ivs l).drop (j+1)=ivs (l.set j x):=by
 rw [xZF,<-qEu,xZQ,if_pos (by rw [vC];exact hj)];rfl
structure Mks (N:Nat) (h:Hp) (mks:List Nat):Prop where
 nd:mks.Nodup
 mrk: ∀d∈mks,N<=d/\d<h.n/\h.t.get d=some .deferred
theorem Mks.nil {N:Nat} {h:Hp}:Mks N h []:=⟨List.nodup_nil,fun d hd=>by cases hd⟩
theorem Mks.keep {N:Nat} {h h':Hp} {mks:List Nat} (m:Mks N h mks) (hn:h.n<=h'.n) (hk: ∀k,N<=k->k<h.n->h'.t.get k=h.t.get k):Mks N h' mks:=
 ⟨m.nd,fun d hd=>by
  obtain ⟨a1,a2,a3⟩:=m.mrk d hd;exact ⟨a1,by omega,(hk d a1 a2).trans a3⟩⟩
theorem Mks.add {N:Nat} {h:Hp} {mks:List Nat} (m:Mks N h mks) {d:Nat} (h1:N<=d) (h2:d<h.n) (h3:h.t.get d=some .deferred) (h4:d ∉ mks):Mks N h (d::mks):=
 ⟨List.nodup_cons.2 ⟨h4,m.nd⟩,fun x hx=>by
  rcases List.mem_cons.1 hx with rfl|hx
  ·exact ⟨h1,h2,h3⟩
  ·exact m.mrk x hx⟩
theorem Mks.del {N:Nat} {h0 h:Hp} {mks:List Nat} (m:Mks N h mks) (f:Fr N h0 h): ∃h',vK mks h=some h'/\Fr N h0 h':=qD2 mks h m.mrk m.nd f
def Wk.eL (w:Wk) (G:Th.Grid) (row wd c:Nat):List Int:=(List.range w.m.W).map fun i=>if i<c then w.En G row wd (i+1) else 0
theorem pG (w:Wk) (G:Th.Grid) (row wd c:Nat):(w.eL G row wd c).length=w.m.W:=by simp [Wk.eL]
theorem eL_get (w:Wk) (G:Th.Grid) (row wd c:Nat) {i:Nat} (hi:i<w.m.W):(w.eL G row wd c).getD i 0=if i<c then w.En G row wd (i+1) else 0:=by
 rw [Wk.eL,xZW,xZU,xZT hi];rfl
theorem eL_set (w:Wk) (G:Th.Grid) (row wd:Nat) {c:Nat} (hc:c<w.m.W):(w.eL G row wd c).set c (w.En G row wd (c+1))=w.eL G row wd (c+1):=by
 refine xZG fun i=> ?_;rw [xZH];by_cases hi:i<w.m.W
 ·rw [Wk.eL,Wk.eL,xZU,xZU,xZT hi];by_cases e:c=i
  ·subst e;simp [hc]
  ·simp only [if_neg e,xZI];by_cases q:i<c
   ·rw [if_pos q,if_pos (by omega)]
   ·rw [if_neg q,if_neg (by omega)]
 ·rw [if_neg (by omega),xZR (by rw [pG];omega),xZR (by rw [pG];omega)]
theorem eL_zero (w:Wk) (G:Th.Grid) (row wd:Nat):w.eL G row wd 0=List.replicate w.m.W 0:=by
 refine xZG fun i=> ?_;rw [Wk.eL,xZU,xZO];by_cases hi:i<w.m.W
 ·rw [xZT hi,if_pos hi];simp
 ·rw [if_neg hi,xZR (by simp;omega)];rfl
def Wk.vk (w:Wk) (G:Th.Grid) (row wd start:Nat) (pv a:Int) (k:Nat):Int:=((w.selTo wd row start k).map fun s=>pv+w.lv G s).foldl max a
theorem qEe (w:Wk) (G:Th.Grid) (row wd start:Nat) (pv a:Int) (k:Nat):w.vk G row wd start pv a (k+1)=if w.sel wd (Wk.blkK row start k)=true then max (w.vk G row wd start pv a k) (pv+w.lv G (Wk.blkK row start k)) else w.vk G row wd start pv a k:=by
 rw [Wk.vk,Wk.selTo_succ];cases e:w.sel wd (Wk.blkK row start k)
 ·simp [Wk.vk]
 ·simp [Wk.vk,xZP]
theorem vk_bd {w:Wk} (his:w.Is) {G:Th.Grid} (hb:w.m.bnd=some G) (row wd start:Nat) {pv a:Int} (hp:0<=pv/\pv<=100000) (ha:0<=a/\a<=200000): ∀k,k<=w.ts.length->0<=w.vk G row wd start pv a k/\w.vk G row wd start pv a k<=200000
 |0,_=>by simp [Wk.vk,Wk.selTo];omega
 |k+1,hk=>by
  have ih:=vk_bd his hb row wd start hp ha k (by omega);rw [qEe];split
  ·rename_i q;have:=his.lv_bd hb (his.selBlk (by omega) q).1;omega
  ·exact ih
structure EInv (h hB:Hp) (E:Nat) (hg:Hp) (mks:List Nat) (L:List Int):Prop where
 fr:Fr h.n h hg
 le:hB.n<=hg.n
 low: ∀k,k<hB.n->k≠E->hg.t.get k=hB.t.get k
 cs:hg.t.get E=some (.cells (ivs L) 3)
 mks:Mks hB.n hg mks
theorem EInv.fr' {h hB hg h':Hp} {E:Nat} {mks:List Nat} {L:List Int} (s:EInv h hB E hg mks L) (hE:E<hB.n) (hn:h.n<=hB.n) (f:Fr hg.n hg h'):EInv h hB E h' mks L:=by
 have:=s.le;exact ⟨s.fr.trans f (by omega),by have:=f.le;omega,fun k h1 h2=>(f.at_ k (.inl (by omega))).trans (s.low k h1 h2),(f.at_ E (.inl (by omega))).trans s.cs,s.mks.keep f.le fun k _ hk=>f.at_ k (.inl hk)⟩
theorem EInv.put {h hB hg:Hp} {E:Nat} {mks:List Nat} {L:List Int} (s:EInv h hB E hg mks L) (hE:E<hB.n) (hh:h.n<=E) (L':List Int):EInv h hB E (hg.set E (.cells (ivs L') 3)) mks L':=by
 have:=s.le;have e: ∀x,x≠E->(hg.set E (.cells (ivs L') 3)).t.get x=hg.t.get x:=fun x hx=>by rw [xZX,xZZ,if_neg hx]
 exact ⟨s.fr.set (by omega) (by omega) _,s.le,fun k h1 h2=>(e k h2).trans (s.low k h1 h2),by rw [xZX,xZZ,if_pos rfl],s.mks.keep (xZY _) fun k h1 _=>e k (by omega)⟩
theorem ft114 (xt:Xt):(SE xt).ft.get 37=some Tryz.f37:=by kernel_rfl
theorem res114:Tryz.f37.results.toList=[.tmp 6]:=by kernel_rfl
theorem ending_c (xt:Xt) (h:Hp) (w:Wk) (his:w.Is) (N M:Nat) (v:AV) (G:Th.Grid) (hbd:w.Bd xt h N M v G) (hbn:w.m.bnd=some G) (row wd:Nat) (hwd1:1<=wd) (hwd3:wd<=3) (hrw:row+wd<=w.m.cells.length):
  FnA (SE xt) 37 [.agg (w.bc v),iv (row:Int),iv (wd:Int)] h (fun res h'=> ∃E,res= .ret (.sl E 0 w.m.W 1)/\h'.t.get E=some (.cells (ivs ((List.range w.m.W).map fun c=>w.En G row wd (c+1))) 3)/\h.n<=E/\E<h'.n/\Fr h.n h h'):=by
 refine FnA.walk (sok xt) (ft114 xt) rfl 64 rfl ?_;obtain ⟨o1,o2,o3,o4,o5⟩:=hbd.at_.ones;have onev:=hbd.sg.one;have c8:=his.m.c8;have r6:=his.m.r6;refine qA fun K hn hp=> ?_;simp only [sw.1,rE,reduceIte,rL,rA];apply hn;obtain ⟨h1,hh1,nh1,sh1,_,fbh1⟩:=nwE h (.cells (w.bc v) 85);rw [<-hh1];have fh1:=fbh1;have bd1:=hbd.fr fh1 (xZY _);refine qA fun K hn hp=> ?_;simp only [sy.1,rE,reduceIte,rL,rA,sh1];refine cAS (qES xt h1 w bd1.at_ his v onev fun E hE1=> ?_);obtain ⟨h2,hh2,n2,s2,k2,f2⟩:=yG (h1.up E) (.cells (ivs (List.replicate w.m.W 0)) 3);obtain ⟨hB,hhB,nB,sB,kB,fB⟩:=nsE h2 (.cells [jI] 31) (.cells [.sl E 0 w.m.W 1] 31);have mk:=mk75n (h1.up E) w.m.W (by omega);simp only [xZK] at mk n2 s2 k2 f2;simp only [sw.1,rE,reduceIte,rL,zP,mk,<-hh2,al75z];rw [<-hhB];apply hn;clear hh2 hhB mk;have fB1:Fr h1.n h1 hB:=(((Fr.refl (xZY _)).up (m:=E) (by omega)).trans f2 (by omega)).trans fB (by omega);have fBh:Fr h.n h hB:=fh1.trans fB1 (by omega);have n2':h2.n=E+1:=by omega
 rw [n2'] at nB sB kB ⊢;have uB:=(fB1.at_ h.n (.inl (by omega))).trans sh1;have eB:=(kB E (by omega)).trans s2;rw [<-eL_zero w G row wd] at eB;have S0:EInv h hB E hB [] (w.eL G row wd 0):=⟨fBh,xZY _,fun _ _ _=>rfl,eB,Mks.nil⟩;have hEB:E<hB.n:=by omega
 have hhE:h.n<E:=by omega
 clear hE1;refine zH (fun tm=>tm.get 1=some (iv (row:Int))/\tm.get 2=some (iv (wd:Int))/\tm.get 3=some (.ptr h.n 0)/\tm.get 7=some (.ptr (E+1) 0)) ⟨by simp [xZZ],by simp [xZZ],by simp [xZZ],by simp [xZZ]⟩ fun tm ht=> ?_;obtain ⟨g1,g2,g3,g7⟩:=ht;have lenE: ∀h':Hp,zI tb h' 31 (.sl E 0 w.m.W 1)=some w.m.W:=fun h'=>by rw [zI,vX];rfl
 have d0: ∀i:Nat,decide ((0:Int)<(i:Int))=decide (0<i):=fun i=>decide_eq_decide.2 (by omega);refine qB fun K hn hp=> ?_;simp only [sy.1,reduceIte,rL,syw.1,g7,lenE,sB];apply hn;refine wU fun KZ hKZ _=> ?_;refine qY fun KA A1 A2 A3 A4 A5=> ?_;refine qI (sok xt) (fun st=> ∃(c:Nat) (hg:Hp) (mks:List Nat) (tm:T AV),st=⟨tm,64,hg,mks⟩/\c<=w.m.W/\tm.get 1=some (iv (row:Int))/\tm.get 2=some (iv (wd:Int))/\tm.get 3=some (.ptr h.n 0)/\tm.get 7=some (.ptr (E+1) 0)/\tm.get 17=some (iv w.m.W)/\tm.get 18=some (iv c)/\EInv h hB E hg mks (w.eL G row wd c)) (fun st=>w.m.W - (match st.tm.get 18 with|some (.val (.int _ n))=>n.toNat|_=>0)) ?_ ?_
 ·rintro st ⟨c,hg,mks,tm,rfl,hkA,g1,g2,g3,g7,g17,g18,si⟩;have muA:=g18;have ug:=(si.low h.n (by omega) (by omega)).trans uB;have pg:=(si.low (E+1) (by omega) (by omega)).trans sB;have lg:=si.le;refine qA fun K hn hp=> ?_;simp only [sy.1,rL,qR,g17,g18];apply hn;by_cases hc:c<w.m.W
  ·refine qV (by simp only [sy.1,reduceIte,hc]) ?_;refine qC fun KB B1 B2 B3 B4 B5=> ?_;refine qA fun K hn hp=> ?_;simp only [sw.1,rE,reduceIte,rL,g18];obtain ⟨h8,hh8,n8,s8,k8,f8⟩:=nsE hg (.cells [iv 0] 3) (.cells [iv (c:Int)] 3);rw [<-hh8];apply hn;clear hh8;have si8:=si.fr' hEB (by omega) f8;have p8:=(f8.at_ (E+1) (.inl (by omega))).trans pg;have e8:=si8.cs;refine qB fun K hn hp=> ?_;simp only [sy.1,rE,reduceIte,rL,d0,s8];apply hn;have next: ∀(e:Ex) (tm:T AV) (hx:Hp) (mks':List Nat),(e= .normal\/e= .exit 1)->EInv h hB E hx mks' (w.eL G row wd (c+1))->tm.get 1=some (iv (row:Int))->tm.get 2=some (iv (wd:Int))->tm.get 3=some (.ptr h.n 0)->tm.get 7=some (.ptr (E+1) 0)->tm.get 17=some (iv w.m.W)->tm.get 18=some (iv c)->KB e ⟨tm,64,hx,mks'⟩:=by
    clear g1 g2 g3 g7 g17 g18;intro e tm hx mks' he s' g1 g2 g3 g7 g17 g18;rcases he with rfl|rfl
    ·refine B1 _ ?_;refine reg fun K hn hp=> ?_;simp only [sy.1,reduceIte,rL,g18,qE hc (show w.m.W<=9223372036854775807 by omega)];apply hn;refine ⟨⟨c+1,hx,mks',_,rfl,by omega,(by simp [xZZ,g1]),(by simp [xZZ,g2]),(by simp [xZZ,g3]),(by simp [xZZ,g7]),(by simp [xZZ,g17]),(by simp [xZZ]),s'⟩,by simpa [xZZ,muA] using (by omega:w.m.W - (c+1)<w.m.W - c)⟩
    ·refine B2 _ ?_;refine reg fun K hn hp=> ?_;simp only [sy.1,reduceIte,rL,g18,qE hc (show w.m.W<=9223372036854775807 by omega)];apply hn;refine ⟨⟨c+1,hx,mks',_,rfl,by omega,(by simp [xZZ,g1]),(by simp [xZZ,g2]),(by simp [xZZ,g3]),(by simp [xZZ,g7]),(by simp [xZZ,g17]),(by simp [xZZ]),s'⟩,by simpa [xZZ,muA] using (by omega:w.m.W - (c+1)<w.m.W - c)⟩
   have bdE:=his.En_bd hbn row wd;obtain ⟨L1,hL1⟩: ∃L1,L1=(w.eL G row wd c).set c (w.En G row wd c):=⟨_,rfl⟩;have l1L:L1.length=w.m.W:=by rw [hL1,xZS,pG]
   have g1L: ∀i,i<w.m.W->L1.getD i 0=if i=c then w.En G row wd c else if i<c then w.En G row wd (i+1) else 0:=fun i hi=>by
    rw [hL1,kE _ (by rw [pG];exact hc)];split
    ·rfl
    ·exact eL_get w G row wd c hi
   refine wU fun KK hKK hX=> ?_;have rest: ∀(tm:T AV) (hx:Hp),EInv h hB E hx mks L1->hx.n=h8.n->hx.t.get hg.n=some (.cells [iv (c:Int)] 3)->tm.get 1=some (iv (row:Int))->tm.get 2=some (iv (wd:Int))->tm.get 3=some (.ptr h.n 0)->tm.get 7=some (.ptr (E+1) 0)->tm.get 8=some (.ptr hg.n 0)->tm.get 17=some (iv w.m.W)->tm.get 18=some (iv c)->KK .normal ⟨tm,64,hx,mks⟩:=by
    clear g1 g2 g3 g7 g17 g18;intro tm hx sx nx cx g1 g2 g3 g7 g8 g17 g18;refine hKK _ ?_;clear hX hKK KK;have ux:=(sx.low h.n (by omega) (by omega)).trans uB;have px:=(sx.low (E+1) (by omega) (by omega)).trans sB;have ex:=sx.cs;have w1:IntKind.i64.wrap ((c:Int) - (wd:Int))=(c:Int) - wd:=qF _ (by omega) (by omega);have w2:IntKind.i64.wrap ((c:Int) - (wd:Int)+1)=(c:Int) - wd+1:=qF _ (by omega) (by omega);refine qA fun K hn hp=> ?_;simp only [sy.1,rE,reduceIte,rL,g2,cx,g8,w1,w2];apply hn;refine jP ?_;by_cases hs:c+1<wd
    ·have dneg:decide ((c:Int) - (wd:Int)+1<0)=true:=decide_eq_true (by omega);refine qA fun K hn hp=> ?_;simp only [sy.1,rE,reduceIte,rL,dneg];apply hn;refine qX (by simp only [sy.1,rE,reduceIte]) ?_;have e1:L1=w.eL G row wd (c+1):=by
      rw [hL1,<-eL_set w G row wd hc,his.En_succ G hwd1 hrw (by omega),if_pos hs]
     rw [e1] at sx;refine qG (next _ _ hx mks (.inr rfl) sx ?_ ?_ ?_ ?_ ?_ ?_);all_goals simp [xZZ,g1,g2,g3,g7,g17,g18]
    obtain ⟨st,hst⟩: ∃st:Nat,st=c+1 - wd:=⟨_,rfl⟩;have est:(c:Int) - (wd:Int)+1=(st:Int):=by omega
    rw [est];have dneg:decide ((st:Int)<0)=false:=decide_eq_false (by omega);refine qA fun K hn hp=> ?_;simp only [sy.1,rE,reduceIte,rL,dneg];apply hn;refine jL (by simp only [sy.1,rE,reduceIte]) ?_;refine qA fun K hn hp=> ?_;simp only [sw.1,rE,reduceIte,rL];obtain ⟨hy,hhy,ny,sy8,ky,fy⟩:=nsE hx (.cells [iv 0] 3) (.cells [iv 0] 3);rw [<-hhy];apply hn;clear hhy;have siy:=sx.fr' hEB (by omega) fy;have py:=(fy.at_ (E+1) (.inl (by omega))).trans px;have ey:=siy.cs;refine qB fun K hn hp=> ?_;simp only [sy.1,rE,reduceIte,rL,d0];apply hn;refine wU fun KK hKK hX=> ?_;have rest2: ∀(tm:T AV) (hz:Hp),Fr hx.n hx hz->hz.n=hx.n+1->hz.t.get hx.n=some (.cells [iv (w.En G row wd st)] 3)->tm.get 1=some (iv (row:Int))->tm.get 2=some (iv (wd:Int))->tm.get 3=some (.ptr h.n 0)->tm.get 7=some (.ptr (E+1) 0)->tm.get 8=some (.ptr hg.n 0)->tm.get 9=some (iv (st:Int))->tm.get 10=some (.ptr hx.n 0)->tm.get 17=some (iv w.m.W)->tm.get 18=some (iv c)->KK .normal ⟨tm,64,hz,mks⟩:=by
     clear g1 g2 g3 g7 g8 g17 g18;intro tm hz fz nz cz g1 g2 g3 g7 g8 g9 g10 g17 g18;refine hKK _ ?_;clear hX hKK KK;have siz:=sx.fr' hEB (by omega) fz;have uz:=(fz.at_ h.n (.inl (by omega))).trans ux;obtain ⟨hw,hhw⟩: ∃hw:Hp,hw=(((hz.new (.cells (w.bc v) 85)).new (.cells [iv (row:Int)] 3)).new (.cells [iv (wd:Int)] 3)).new (.cells [iv (st:Int)] 3):=⟨_,rfl⟩;have nw:hw.n=hz.n+4:=by rw [hhw];rfl
     have b0:hw.t.get hz.n=some (.cells (w.bc v) 85):=by rw [hhw];simp only [Hp.new_t,Hp.new_n];rw [xZZ,if_neg (by omega),xZZ,if_neg (by omega),xZZ,if_neg (by omega),xZZ,if_pos rfl]
     have b1:hw.t.get (hz.n+1)=some (.cells [iv (row:Int)] 3):=by rw [hhw];simp only [Hp.new_t,Hp.new_n];rw [xZZ,if_neg (by omega),xZZ,if_neg (by omega),xZZ,if_pos rfl]
     have b2:hw.t.get (hz.n+2)=some (.cells [iv (wd:Int)] 3):=by rw [hhw];simp only [Hp.new_t,Hp.new_n];rw [xZZ,if_neg (by omega),xZZ,if_pos rfl]
     have b3:hw.t.get (hz.n+3)=some (.cells [iv (st:Int)] 3):=by rw [hhw];simp only [Hp.new_t,Hp.new_n];rw [xZZ,if_pos rfl]
     have fw:Fr hz.n hz hw:=by rw [hhw];exact ((((Fr.refl (xZY _)).new _).new _).new _).new _
     have bdz:w.Bd xt hz N M v G:=hbd.fr siz.fr (xZY _);refine qA fun K hn hp=> ?_;simp only [sy.1,rE,reduceIte,rL,rA,g1,g2,g3,uz,g9];refine cAS (qFY xt hz w bdz.at_ v onev (row:Int) (wd:Int) (st:Int) ?_);rw [<-hhw];simp only [sy.1,rL];apply hn;clear hhw;have siw:=siz.fr' hEB (by omega) fw;have lhw:=siw.le;have pw:=(siw.low (E+1) (by omega) (by omega)).trans sB;have cw:=(fw.at_ hg.n (.inl (by omega))).trans ((fz.at_ hg.n (.inl (by omega))).trans cx);have vw:=(fw.at_ hx.n (.inl (by omega))).trans cz;refine zH (fun tm=>tm.get 1=some (iv (row:Int))/\tm.get 2=some (iv (wd:Int))/\tm.get 3=some (.ptr h.n 0)/\tm.get 7=some (.ptr (E+1) 0)/\tm.get 8=some (.ptr hg.n 0)/\tm.get 10=some (.ptr hx.n 0)/\tm.get 17=some (iv w.m.W)/\tm.get 18=some (iv c)/\tm.get 48=some (.fn (.func 147) [] [.ptr hz.n 0,.ptr (hz.n+1) 0,.ptr (hz.n+3) 0,.ptr (hz.n+2) 0])) ⟨by simp [xZZ,g1],by simp [xZZ,g2],by simp [xZZ,g3],by simp [xZZ,g7],by simp [xZZ,g8],by simp [xZZ,g10],by simp [xZZ,g17],by simp [xZZ,g18],by simp [xZZ]⟩ fun tm ht9=> ?_;clear g1 g2 g3 g7 g8 g9 g10 g17 g18;obtain ⟨g1,g2,g3,g7,g8,g10,g17,g18,g48⟩:=ht9
     let V:Nat->Int:=fun k=>w.vk G row wd st (w.En G row wd st) (w.En G row wd c) k
     have bdV: ∀k,k<=w.ts.length->0<=V k/\V k<=200000:=vk_bd his hbn row wd st (by have:=bdE st;omega) (by have:=bdE c;omega)
     let I:ALoop->Nat->Hp->Prop:=fun rc k h'=>FrM (fun b=>b=E\/b=hw.n+1) (hw.n+2) (LH hw rc) h'/\h'.t.get (hw.n+1)=some (.loop rc)/\h'.t.get E=some (.cells (ivs (L1.set c (V k))) 3)
     have nHL: ∀rc,(LH hw rc).n=hw.n+2:=fun rc=>rfl;have key: ∀rc k h',I rc k h'->hw.n+2<=h'.n/\Fr h.n h h'/\ ∀b,b<hw.n->b≠E->h'.t.get b=hw.t.get b:=by
      rintro rc k h' ⟨z1,z2,z3⟩;have nn:=nHL rc;have:=z1.le;refine ⟨by omega,z1.toFr (siw.fr.trans (LH_fr hw rc) (by omega)) (by omega) (fun b hb=>by omega),fun b q1 q2=> ?_⟩;rw [z1.get (by omega) (by omega)];exact pT hw rc q1
     have hL0:L1.set c (V 0)=L1:=by
      have:V 0=w.En G row wd c:=by simp [V,Wk.vk,Wk.selTo]
      rw [this,hL1,xZM]
     refine qY fun KD D1 D2 D3 D4 D5=> ?_;refine uS (sok xt) (g:=147) (xs:=[.yld (hw.n+1),.ptr hz.n 0,.ptr (hz.n+1) 0,.ptr (hz.n+3) 0,.ptr (hz.n+2) 0]) (S:=fun _ _ _=>False) (Z:=fun rc h'=>I rc w.ts.length h') (by simp only [sy.1,g48];rfl) (fun rc c1 c2 c3 c4 c5 c6 c7=> ?_) ?_ (fun _ _ _ hf=>hf.elim)
     ·refine qD5 xt (LH hw rc) w his N M v G hbn (hw.n+1) hz.n (hz.n+1) (hz.n+3) (hz.n+2) row st wd (I rc) _ ?_ ?_ ?_ ?_ ?_ ?_
      ·exact ⟨FrM.refl (xZY _),LH_l hw rc,by rw [hL0,pT hw rc (by omega)];exact siw.cs⟩
      ·intro k h' hI;obtain ⟨q1,q2,q3⟩:=key rc k h' hI;exact ⟨hbd.fr q2 (xZY _),(q3 _ (by omega) (by omega)).trans b0,(q3 _ (by omega) (by omega)).trans b1,(q3 _ (by omega) (by omega)).trans b3,(q3 _ (by omega) (by omega)).trans b2⟩
      ·intro k h' hI;obtain ⟨q1,q2,q3⟩:=key rc k h' hI;omega
      ·rintro k h' h'' hI f;obtain ⟨q1,q2,q3⟩:=key rc k h' hI;obtain ⟨z1,z2,z3⟩:=hI;exact ⟨z1.fr f (by omega),(f.at_ _ (.inl (by omega))).trans z2,(f.at_ _ (.inl (by omega))).trans z3⟩
      ·rintro k h' hk hs ⟨z1,z2,z3⟩;refine ⟨z1,z2,?_⟩;have e1:V (k+1)=V k:=by
        show w.vk G row wd st _ _ (k+1)=w.vk G row wd st _ _ k;rw [qEe,if_neg (by rw [show w.sel wd (Wk.blkK row st k)=false from hs];decide)]
       rw [e1];exact z3
      ·intro k hk hs;refine uQ (sok xt) (S:=fun _ _=>False) c1 c2 c3 c4 c5 c6 c7 (fun h' hA=>hA.2.1) (fun h' hA=>⟨_,rfl,?_⟩);have kI:=key rc k h' hA;obtain ⟨z1,z2,z3⟩:=hA;obtain ⟨q1,q2,q3⟩:=kI;refine reg fun K hn hp=> ?_;simp only [sy.1,rE,reduceIte,rL];apply hn;refine ⟨rfl,rfl,rfl,?_⟩;dsimp only;obtain ⟨h7,hh7⟩: ∃h7:Hp,h7=h'.set (hw.n+1) (.loop rc.busy):=⟨_,rfl⟩;rw [<-hh7];have z5:FrM (fun b=>b=E\/b=hw.n+1) (hw.n+2) (LH hw rc) h7:=by rw [hh7];exact z1.set (.inr (.inr rfl)) _
       have z6:h7.t.get (hw.n+1)=some (.loop rc.busy):=by rw [hh7,xZX,xZZ,if_pos rfl]
       have k7: ∀b,b≠hw.n+1->h7.t.get b=h'.t.get b:=fun b hb=>by rw [hh7,xZX,xZZ,if_neg hb]
       clear hh7;have y3:=(k7 E (by omega)).trans z3;have yp:=(k7 (E+1) (by omega)).trans ((q3 (E+1) (by omega) (by omega)).trans pw);have yc:=(k7 hg.n (by omega)).trans ((q3 hg.n (by omega) (by omega)).trans cw);have yv:=(k7 hx.n (by omega)).trans ((q3 hx.n (by omega) (by omega)).trans vw);have hlv:0<=w.lv G ((row:Int),(st:Int),(k:Int))/\w.lv G ((row:Int),(st:Int),(k:Int))<=6500:=his.lv_bd hbn (his.selBlk hk hs).1;have bE:=bdE st;have wl:IntKind.i64.wrap (w.En G row wd st+w.lv G ((row:Int),(st:Int),(k:Int)))=w.En G row wd st+w.lv G ((row:Int),(st:Int),(k:Int)):=qF _ (by omega) (by omega);have x3:=wK (b:=E) (n:=w.m.W) (j:=c) hc;have x2:=vD (l:=L1.set c (V k)) (j:=c) (by rw [xZS];omega);rw [kE _ (by omega),if_pos rfl] at x2;have hlb:c+1<=(ivs (L1.set c (V k))).length:=by rw [vC,xZS,l1L];exact hc
       have hput:=qAF (L1.set c (V k)) (j:=c) (by rw [xZS,l1L];exact hc) (max (V k) (w.En G row wd st+w.lv G ((row:Int),(st:Int),(k:Int))));have eV:V (k+1)=max (V k) (w.En G row wd st+w.lv G ((row:Int),(st:Int),(k:Int))):=by
        show w.vk G row wd st _ _ (k+1)=_;rw [qEe,if_pos (show w.sel wd (Wk.blkK row st k)=true from hs)]
       refine qY fun K' k1' k2' k3' k4' k5'=> ?_;refine regD (sok xt) 11 (by kernel_rfl) fun K hn hp=> ?_;simp only [sw.1,rE,reduceIte,rL,g7,g8,g10,y3,yp,yc,yv,wl,x3,x2,hlb];rw [hput,xZM,<-eV];refine hn _ _ (k1' _ ⟨rfl,?_,.inl ⟨rfl,?_,?_,?_⟩⟩)
       ·rw [xZX,xZZ,if_neg (by omega)];exact z6
       ·exact (z5.set (.inr (.inl rfl)) _).set (.inr (.inr rfl)) _
       ·rw [xZX,xZZ,if_pos rfl]
       ·rw [xZX,xZZ,if_neg (by omega),xZX,xZZ,if_pos rfl]
     ·rintro rc h' c1 c2 hI;obtain ⟨q1,q2,q3⟩:=key rc _ h' hI;obtain ⟨z1,z2,z3⟩:=hI;refine ⟨z2,D1 _ (next .normal _ _ _ (.inl rfl) ?_ g1 g2 g3 g7 g17 g18)⟩;obtain ⟨h8',hh8⟩: ∃h8':Hp,h8'=h'.set (hw.n+1) (.loop {rc with state:= .exhausted}):=⟨_,rfl⟩;rw [<-hh8];have n8':h8'.n=h'.n:=by rw [hh8];rfl
      have k8': ∀b,b≠hw.n+1->h8'.t.get b=h'.t.get b:=fun b hb=>by rw [hh8,xZX,xZZ,if_neg hb]
      have f8':Fr h.n h h8':=by rw [hh8];exact q2.set (by omega) (by omega) _
      clear hh8;have e1:L1.set c (V w.ts.length)=w.eL G row wd (c+1):=by
       rw [hL1,xZM,<-eL_set w G row wd hc,his.En_succ G hwd1 hrw (by omega),if_neg hs,<-hst];rfl
      have hd:h8'.t.get hw.n=some .deferred:=(k8' _ (by omega)).trans ((z1.get (by have:=nHL rc;omega) (by omega)).trans (LH_d hw rc));refine ⟨f8',by omega,fun b h1 h2=>(k8' b (by omega)).trans ((q3 b (by omega) h2).trans (siw.low b h1 h2)),(k8' E (by omega)).trans (by rw [<-e1];exact z3),?_⟩;refine Mks.add (siw.mks.keep (by omega) fun b h1 h2=>(k8' b (by omega)).trans (q3 b h2 (by omega))) (by omega) (by omega) hd fun hm=> ?_;have:=(siw.mks.mrk _ hm).2.1;omega
    by_cases h0:0<st
    ·refine wcT (by simp only [sy.1,rE,reduceIte,decide_eq_true h0]) ?_;have ws:IntKind.i64.wrap ((st:Int) - 1)=((st - 1:Nat):Int):=by rw [qF _ (by omega) (by omega)];omega
     have x1:=wK (b:=E) (n:=w.m.W) (j:=st - 1) (by omega);have x2:=vD (l:=L1) (j:=st - 1) (by omega);rw [g1L _ (by omega),if_neg (by omega),if_pos (by omega),show st - 1+1=st by omega] at x2;refine reg fun K hn hp=> ?_;simp only [sw.1,rE,reduceIte,rL,g7,py,ey,sy8,ws,x1,x2];obtain ⟨hz,hhz⟩: ∃hz:Hp,hz=hy.set hx.n (.cells [iv (w.En G row wd st)] 3):=⟨_,rfl⟩;have nz:hz.n=hy.n:=by rw [hhz];rfl
     have sz8:hz.t.get hx.n=some (.cells [iv (w.En G row wd st)] 3):=by rw [hhz,xZX,xZZ,if_pos rfl]
     have fz:Fr hx.n hx hz:=by rw [hhz];exact fy.set (xZY _) (by omega) _
     apply hn;rw [<-hhz];refine rest2 _ hz fz (by omega) sz8 ?_ ?_ ?_ ?_ ?_ ?_ ?_ ?_ ?_;all_goals simp [xZZ,g1,g2,g3,g7,g8,g17,g18]
    ·refine wcF (by simp only [sy.1,rE,reduceIte,decide_eq_false h0]) ?_;have e0:st=0:=by omega
     refine qN (rest2 _ hy fy ny ?_ ?_ ?_ ?_ ?_ ?_ ?_ ?_ ?_ ?_)
     ·rw [e0,his.En_zero G hwd1 hrw];exact sy8
     all_goals simp [xZZ,g1,g2,g3,g7,g8,g17,g18]
   by_cases h0:0<c
   ·refine wcT (by simp only [sy.1,rE,reduceIte,decide_eq_true h0]) ?_;have ws:IntKind.i64.wrap ((c:Int) - 1)=((c - 1:Nat):Int):=by rw [qF _ (by omega) (by omega)];omega
    have x1:=wK (b:=E) (n:=w.m.W) (j:=c - 1) (by omega);have x3:=wK (b:=E) (n:=w.m.W) (j:=c) hc;have x2:=vD (l:=w.eL G row wd c) (j:=c - 1) (by rw [pG];omega);rw [eL_get _ _ _ _ _ (by omega),if_pos (by omega),show c - 1+1=c by omega] at x2;have hlb:c+1<=(ivs (w.eL G row wd c)).length:=by rw [vC,pG];exact hc
    have hput:=qAF (w.eL G row wd c) (j:=c) (by rw [pG];exact hc) (w.En G row wd c);refine regD (sok xt) 8 (by kernel_rfl) fun K hn hp=> ?_;simp only [sw.1,rE,reduceIte,rL,g7,p8,s8,e8,ws,x1,x2,x3,hlb];rw [hput,<-hL1];refine hn _ _ (rest _ _ (si8.put hEB (by omega) L1) rfl ?_ ?_ ?_ ?_ ?_ ?_ ?_ ?_)
    ·rw [xZX,xZZ,if_neg (by omega)];exact s8
    all_goals simp [xZZ,g1,g2,g3,g7,g17,g18]
   ·refine wcF (by simp only [sy.1,rE,reduceIte,decide_eq_false h0]) ?_;have c0:c=0:=by omega
    have e1:L1=w.eL G row wd c:=by
     rw [hL1,c0,his.En_zero G hwd1 hrw];refine List.set_getElem?_self' ?_;have:=eL_get w G row wd 0 (i:=0) (by omega);rw [xZW,xZV (by rw [pG];omega)] at this;rw [xZV (by rw [pG];omega)];simpa using this
    refine qN (rest _ h8 (by rw [e1];exact si8) rfl s8 ?_ ?_ ?_ ?_ ?_ ?_ ?_);all_goals simp [xZZ,g1,g2,g3,g7,g17,g18]
  ·refine qU (by simp only [sy.1,reduceIte,hc]) ?_;refine qG (A2 _ (hKZ _ ?_));obtain rfl:c=w.m.W:=by omega
   obtain ⟨h9,d1,d2⟩:=si.mks.del (N:=hB.n) (Fr.refl (h:=hg) si.le);refine qA fun K hn hp=> ?_;simp only [sy.1,rE,reduceIte,rL,g7,pg];apply hn;refine qD (end_1m res114 d1 ⟨E,?_,?_,by omega,?_,si.fr.trans d2 (by omega)⟩)
   ·simp [xZZ]
   ·rw [d2.at_ E (.inl hEB),si.cs]
    congr 3
    refine List.map_congr_left fun i hi=> ?_;rw [if_pos (List.mem_range.1 hi)]
   ·have:=d2.lo;omega
 ·exact ⟨0,hB,[],_,rfl,(by omega),(by simp [xZZ,g1]),(by simp [xZZ,g2]),(by simp [xZZ,g3]),(by simp [xZZ,g7]),(by simp [xZZ]),(by simp [xZZ]),S0⟩
theorem end_c2 {E:Env} {fn:Func} {K:KP} {tm:T AV} {nt:Nat} {h:Hp} {t u u':Tmp} {ty:TypeId} {v:AV} (h1:fn.results.toList=[.cell t ty,.tmp u,.tmp u']) (h2:qO E.tb E.xt h ty ((tm.get t).getD default)=some v) (h3:K (.ret (.tup [v,(tm.get u).getD default,(tm.get u').getD default])) h):xX E fn K .ret ⟨tm,nt,h,[]⟩:=by
 refine end_ret rfl (vs:=[v,(tm.get u).getD default,(tm.get u').getD default]) ?_ h3;rw [h1];have e0:(match tm.get t with|some a=>a|none=>default)=(tm.get t).getD default:=by cases tm.get t<;>rfl
 have e1:(match tm.get u with|some a=>a|none=>default)=(tm.get u).getD default:=by cases tm.get u<;>rfl
 have e2:(match tm.get u' with|some a=>a|none=>default)=(tm.get u').getD default:=by cases tm.get u'<;>rfl
 show (match qO E.tb E.xt h ty (match tm.get t with|some a=>a|none=>default) with|none=>none|some v=>match (some [match tm.get u with|some a=>a|none=>default,match tm.get u' with|some a=>a|none=>default]:Option (List AV)) with|none=>none|some l=>some (v::l))=_;rw [e0,h2,e1,e2]
theorem qDF (F:Nat->Int) (n:Nat): ∀k,k<=n->kM (dfl F n) k=F k - F 0
 |0,_=>by simp [kM]
 |k+1,hk=>by
  rw [kM,qDF F n k (by omega)];have:(dfl F n).getD k 0=F (k+1) - F k:=by
   rw [dfl,xZW,xZU,xZT (by omega)];rfl
  rw [this];omega
theorem sl_from {n:Nat} {b:Nat} {h:Hp} {v':AV} (h1:vS tb h 31 (.sl b 0 (n+1) 1) (some (iv ((1:Nat):Int))) (some (iv ((1+n:Nat):Int)))=some v'):vS tb h 31 (.sl b 0 (n+1) 1) (some (iv 1)) none=some v':=by
 rw [<-h1];have d75:te31.d= .slice 3:=rfl;have e1:kU (n+1) none=some (n+1):=rfl;have e2:kU (n+1) (some (iv ((1+n:Nat):Int)))=some (n+1):=by rw [Nat.add_comm];rfl
 simp only [vS,vX,d75,tg3,e1,e2];rfl
def Wk.uTo (w:Wk) (G:Th.Grid) (k:Nat):List Int:=((w.bnds w.m.cells.length).take k).foldl (wF (w.bb G)) (List.replicate (w.m.cells.length+1) 0)
theorem qCo {w:Wk} (G:Th.Grid) {k:Nat} {x:Nat×Nat} (hx:(w.bnds w.m.cells.length)[k]? =some x):w.uTo G (k+1)=wF (w.bb G) (w.uTo G k) x:=by
 rw [Wk.uTo,List.take_succ,hx,xZP];rfl
theorem uTo_all (w:Wk) (G:Th.Grid):w.uTo G (w.bnds w.m.cells.length).length=w.uAll G:=by
 rw [Wk.uTo,List.take_length];rfl
theorem qA2 {w:Wk} (his:w.Is) {k f wd:Nat} (h:(f,wd)∈w.bnds k):f+wd<=w.m.cells.length/\1<=wd/\wd<=3/\wd∈w.wn/\f<k:=by
 obtain ⟨f',hf,hm⟩:=List.mem_flatMap.1 h;obtain ⟨y,hy,e⟩:=xZL.1 (show (f,wd)∈(w.wn.filter fun x=>decide (f'+x<=w.m.cells.length)).map fun x=>(f',x) from hm);obtain ⟨hy1,hy2⟩:=List.mem_filter.1 hy;have:=his.wn_bd hy1;have:=of_decide_eq_true hy2;simp only [Prod.mk.injEq] at e;obtain ⟨rfl,rfl⟩:=e;exact ⟨by omega,by omega,by omega,hy1,List.mem_range.1 hf⟩
theorem qB2 (w:Wk) (G:Th.Grid): ∀k,(w.uTo G k).length=w.m.cells.length+1
 |0=>by simp [Wk.uTo]
 |k+1=>by
  cases hx:(w.bnds w.m.cells.length)[k]? with
  |none=>
   have:w.uTo G (k+1)=w.uTo G k:=by
    rw [Wk.uTo,List.take_succ,hx];simp [Wk.uTo]
   rw [this];exact qB2 w G k
  |some x=>rw [qCo G hx,qDH];exact qB2 w G k
theorem bb_bd {w:Wk} (his:w.Is) {G:Th.Grid} (hb:w.m.bnd=some G) (f wd:Nat):0<=w.bb G f wd/\w.bb G f wd<=60000:=by
 have h:=his.bandP_bd hb f wd w.m.W;have:=his.m.c8;rw [Wk.bb];omega
theorem uTo_bd {w:Wk} (his:w.Is) {G:Th.Grid} (hb:w.m.bnd=some G): ∀k,k<=(w.bnds w.m.cells.length).length-> ∀j,0<=(w.uTo G k).getD j 0/\(w.uTo G k).getD j 0<=60000*k
 |0,_,j=>by
  simp only [Wk.uTo,List.take_zero,List.foldl_nil,xZW,xZO];split<;>simp
 |k+1,hk,j=>by
  obtain ⟨⟨f,wd⟩,hx⟩: ∃x,(w.bnds w.m.cells.length)[k]? =some x:=⟨_,xZV (by omega)⟩;obtain ⟨h1,h2,h3,_,_⟩:=qA2 his (xZJ hx);have ih:=uTo_bd his hb k (by omega);rw [qCo G hx,qDI (by rw [qB2];omega) h2];have b0:=bb_bd his hb f wd;have i1:=ih (f+wd);have i2:=ih f;have i3:=ih (f - 1);have i4:=ih j;split
  ·omega
  ·split<;>omega
theorem fin_bd {w:Wk} (his:w.Is) {G:Th.Grid} (hb:w.m.bnd=some G): ∀r,r<=w.m.cells.length->((List.range r).foldl qAM (w.uAll G)).length=w.m.cells.length+1:=fun r hr=>(qCW his G r hr).1
def PfR (xt:Xt) (h:Hp) (w:Wk) (res:CR) (h':Hp):Prop:=Fr h.n h h'/\ ∃zr zb rl bl,res= .ret (.tup [.agg [zr,zb],iv (if w.asked []=0 then rl.sum else 0),iv (w.asked [])])/\Nums xt h' zr rl/\BAt xt h' zb bl/\(w.asked []≠0->rl=[]/\bl=[])/\(∀G,w.asked []=0->w.m.bnd=some G->rl=w.prows G/\bl=w.pbnds G)/\xH zr
theorem cap_nil:xH jI:=fun ad n c e=>by cases e;exact xZY _
theorem BAt.nil (xt:Xt) (h:Hp):BAt xt h jI []:=⟨fun h'=>by rw [zI,pY];rfl,by simp,rfl,rfl,fun i b hb=>by simp at hb⟩
theorem ft54 (xt:Xt):(SE xt).ft.get 7=some Tryz.f7:=by kernel_rfl
theorem res54:Tryz.f7.results.toList=[.cell 2 34,.tmp 3,.tmp 4]:=by kernel_rfl
theorem bd93z:vN tb 34 []=some (.agg [jI,jI]):=by kernel_rfl
theorem proof_c (xt:Xt) (h:Hp) (w:Wk) (ha:w.At xt h):FnA (SE xt) 7 [w.av] h (PfR xt h w):=by
 refine FnA.walk (sok xt) (ft54 xt) rfl 142 rfl ?_;obtain ⟨o1,o2,o3,o4,o5⟩:=ha.ones;refine qA fun K hn hp=> ?_;simp only [sw.1,reduceIte,rL,syb.down];obtain ⟨h1,hh1,n1,s1,k1,f1⟩:=yG h (.cells w.cs 30);obtain ⟨h2,hh2,n2,s2,k2,f2⟩:=bY f1 n1 (.cells [jI,jI] 34);simp only [<-hh1,<-hh2];apply hn;clear hh1 hh2;simp only [rA] at n2;have u2:=(k2 h.n (by omega)).trans s1;have ha2:=ha.fr f2 (xZY _);refine qB fun K hn hp=> ?_;simp only [sy.1,rE,reduceIte,rL,rA,u2];refine cAS (qFy xt _ w ha2 fun m1 hm1=> ?_);cases e1:w.ok
 ·simp only [sy.1,rE,reduceIte,rL];apply hn;refine qX (by simp only [sy.1,rE,reduceIte]) ?_;refine qB fun K hn hp=> ?_;simp only [sw.1,rE,reduceIte,rL,rA,syb.down,s2,bd93z];apply hn;have ea:w.asked []=2:=by simp [Wk.asked,e1]
  have fx:Fr h.n h ((h2.up m1).set (h.n+1) (.cells [jI,jI] 34)):=(f2.up (Nat.le_of_lt hm1)).set (by omega) (by simp only [xZK];omega) _;refine qS (end_c2 (v:= .agg [jI,jI]) res54 ?_ ⟨fx,jI,jI,[],[],?_,Nums.nil,BAt.nil _ _,fun _=>⟨rfl,rfl⟩,(fun G q=>by rw [ea] at q;cases q),cap_nil⟩)
  ·simp only [sy.1,rE,reduceIte,rA,syb.down,s2]
  ·simp [xZZ,ea]
 have his:=Wk.ok_is e1;have c8:=his.m.c8;have r6:=his.m.r6;simp only [sy.1,rE,reduceIte,rL];apply hn;refine jL (by simp only [sy.1,rE,reduceIte]) ?_;refine qA fun K hn hp=> ?_;simp only [sy.1,rE,reduceIte,rL,rA,u2];have ha3u:=ha2.up (n:=m1) (by omega);refine cAS (xZN (qFX xt (h2.up m1) w ha3u _ _ his.m) fun res h4 hres=> ?_);obtain ⟨f4,hres⟩:=hres;have low4: ∀k,k<m1->h4.t.get k=h2.t.get k:=fun k hk=>f4.at_ k (.inl hk);have v1:=(low4 h.n (by omega)).trans u2;have v3:=(low4 (h.n+1) (by omega)).trans s2;have n4:m1<=h4.n:=f4.lo;have f4h:Fr h.n h h4:=(f2.up (m:=m1) (by omega)).trans f4 (by simp only [xZK];omega);change match w.m.bnd with|some G=>_|none=>_ at hres
 have easked:w.asked []=match w.m.bnd with|none=>7|some _=>0:=by
  simp only [Wk.asked,e1,Wk.cut_nil,Bool.and_self,if_true];rw [qBf his.m];cases w.m.bnd<;>rfl
 cases hb:w.m.bnd with
 |none=>
  rw [hb] at hres easked;subst hres;simp only [sw.1,rE,reduceIte,rL,rA,sv.1];obtain ⟨h5,hh5,n5,s5,k5,f5⟩:=nsE h4 (.cells p9 85) (.cells p9 85);rw [<-hh5];apply hn;clear hh5;have x3:=(k5 (h.n+1) (by omega)).trans v3;refine qB fun K hn hp=> ?_;simp only [sy.1,rE,reduceIte,rL];apply hn;refine qX (by simp only [sy.1,rE,reduceIte,d70]) ?_;refine qB fun K hn hp=> ?_;simp only [sw.1,rE,reduceIte,rL,rA,syb.down,x3,bd93z];apply hn;have fx:Fr h.n h (h5.set (h.n+1) (.cells [jI,jI] 34)):=(f4h.trans f5 (by omega)).set (by omega) (by omega) _;refine qS (end_c2 (v:= .agg [jI,jI]) res54 ?_ ⟨fx,jI,jI,[],[],?_,Nums.nil,BAt.nil _ _,fun _=>⟨rfl,rfl⟩,(fun G q=>by rw [easked] at q;cases q),cap_nil⟩)
  ·simp only [sy.1,rE,reduceIte,rA,syb.down,x3]
  ·simp [xZZ,easked]
 |some G=>
  rw [hb] at hres easked;obtain ⟨v,M,rfl,sg,m1',m2'⟩:=hres;have onev:=sg.one;simp only [sw.1,rE,reduceIte,rL,rA,sv.1,o1,o2,o3,o4,o5,onev];obtain ⟨h5,hh5,n5,s5,k5,f5⟩:=nsE h4 (.cells p9 85) (.cells (w.bc v) 85);rw [<-hh5];apply hn;clear hh5;have f5h:=f4h.trans f5 (by omega);have x3:=(k5 (h.n+1) (by omega)).trans v3;have ha5:=ha.fr f5h (xZY _);have sg5:SG h5 (h2.up m1).n M v _ _ G:=sg.keep fun k _ hk=>k5 k (by omega);have hM5:M<=h5.n:=by omega
  obtain ⟨p5,hp5⟩: ∃p,p=h4.n:=⟨_,rfl⟩;rw [<-hp5] at n5 s5 ⊢;refine qB fun K hn hp=> ?_;simp only [sy.1,rE,reduceIte,rL];apply hn;refine jL (by simp only [sy.1,rE,reduceIte]) ?_;refine qA fun K hn hp=> ?_;simp only [sy.1,rE,reduceIte,rL,rA,s5];refine cAS (xZN (bands_c xt h5 w ha5 his v onev) fun res h6 hres=> ?_);obtain ⟨zb,rfl,ob6,f6,lt6⟩:=hres;have onb:=OwnSl.one ob6;have clb:=OwnSl.cells ob6;obtain ⟨h7,hh7,n7,s7,k7,f7⟩:=nsE h6 (.cells [jI,jI] 34) (.cells [jI,zb] 34);simp only [sw.1,rE,reduceIte,rL,rA,syb.down,bd93 _ clb,onb,<-hh7];apply hn;clear hh7;obtain ⟨p7,hp7⟩: ∃p,p=h6.n:=⟨_,rfl⟩;rw [<-hp7] at n7 s7 ⊢;have f57:Fr h5.n h5 h7:=f6.trans f7 (by omega);have y5:=(f57.at_ p5 (.inl (by omega))).trans s5;have ha7:=ha5.fr f57 (xZY _);have ob7:xK h7 h5.n zb (fr0 (w.bnds w.m.cells.length)):=OwnSl.fr ob6 f7 (xZY _);have lb: ∀{b off n s:Nat},zb= .sl b off n s->h5.n<=b/\b<p7:=fun e=>by have:=OwnSl.blk ob6 e;omega
  have wR:IntKind.i64.wrap ((w.m.cells.length:Int)+1)=((w.m.cells.length+1:Nat):Int):=by rw [qF _ (by omega) (by omega)];omega
  refine qA fun K hn hp=> ?_;simp only [sy.1,rE,reduceIte,rL,rA,y5];refine cAS (qA1 xt h7 w ha7 v onev fun U hU=> ?_);obtain ⟨hB,hhB,nB,sB,kB,fB⟩:=yG (h7.up U) (.cells (ivs (List.replicate (w.m.cells.length+1) 0)) 3);have mk:=mk75n (h7.up U) (w.m.cells.length+1) (by omega);simp only [xZK] at mk nB sB kB fB;simp only [sy.1,rE,reduceIte,rL,wR,zP,mk,<-hhB];apply hn;clear hhB mk;have f7B:Fr h7.n h7 hB:=((Fr.refl (xZY _)).up (m:=U) (by omega)).trans fB (by omega);have f5B:=f57.trans f7B (by omega);have pB:=(f7B.at_ p7 (.inl (by omega))).trans s7;have obB:xK hB h5.n zb (fr0 (w.bnds w.m.cells.length)):=OwnSl.fr ob7 f7B (xZY _);have hU7:p7<U:=by omega
  have lB5:h5.n<=hB.n:=by omega
  clear hU;have hnb:=xJ his w.m.cells.length;have lenb: ∀(h':Hp),zI tb h' 32 zb=some (w.bnds w.m.cells.length).length:=fun h'=>by
   have:=OwnSl.len ob7 pY rfl (h':=h');simpa [fr0] using this
  refine zH (fun tm=>tm.get 1=some (.ptr h.n 0)/\tm.get 2=some (.ptr (h.n+1) 0)/\tm.get 5=some (.ptr p5 0)/\tm.get 7=some (.ptr p7 0)/\tm.get 8=some (.sl U 0 (w.m.cells.length+1) 1)) ⟨by simp [xZZ],by simp [xZZ],by simp [xZZ],by simp [xZZ],by simp [xZZ]⟩ fun tm ht=> ?_;obtain ⟨g1,g2,g5,g7,g8⟩:=ht;refine qB fun K hn hp=> ?_;simp only [sy.1,rE,reduceIte,rL,syw.1,syb.down,g7,lenb,pB];apply hn;refine qC fun KA A1 A2 A3 A4 A5=> ?_;refine qI (sok xt) (fun st=> ∃(k:Nat) (hg:Hp) (es:List (Int×Int×AV)) (tm:T AV),st=⟨tm,142,hg,[]⟩/\k<=(w.bnds w.m.cells.length).length/\tm.get 1=some (.ptr h.n 0)/\tm.get 2=some (.ptr (h.n+1) 0)/\tm.get 5=some (.ptr p5 0)/\tm.get 7=some (.ptr p7 0)/\tm.get 8=some (.sl U 0 (w.m.cells.length+1) 1)/\tm.get 36=some (iv (w.bnds w.m.cells.length).length)/\tm.get 37=some (iv k)/\Fr h5.n h5 hg/\hB.n<=hg.n/\(∀x,x<hB.n->x≠U->(∀off n s,zb≠ .sl x off n s)->hg.t.get x=hB.t.get x)/\hg.t.get U=some (.cells (ivs (w.uTo G k)) 3)/\xK hg h5.n zb es/\PB w G hg hB.n k es) (fun st=>(w.bnds w.m.cells.length).length - (match st.tm.get 37 with|some (.val (.int _ n))=>n.toNat|_=>0)) ?_ ?_
  ·rintro st ⟨k,hg,es,tm,rfl,hkA,g1,g2,g5,g7,g8,g36,g37,fg,lg,kg,ug,og,pb⟩;have muA:=g37;have hnu: ∀{b off n s:Nat},zb= .sl b off n s->b≠U:=fun e q=>by have:=(lb e).2;omega
   have p7g:=(kg p7 (by omega) (by omega) (fun off n s e=>by have:=(lb e).2;omega)).trans pB;have p5g:=(fg.at_ p5 (.inl (by omega))).trans s5;have sgg:SG hg (h2.up m1).n M v _ _ G:=sg5.fr fg hM5;have hlu:=qB2 w G k;refine qA fun K hn hp=> ?_;simp only [sy.1,rL,qR,g36,g37];apply hn;by_cases hk:k<(w.bnds w.m.cells.length).length
   ·refine qV (by simp only [sy.1,reduceIte,hk]) ?_;refine qC fun KB B1 B2 B3 B4 B5=> ?_;obtain ⟨⟨f,wd⟩,hx⟩: ∃x,(w.bnds w.m.cells.length)[k]? =some x:=⟨_,xZV hk⟩;obtain ⟨hf,hw1,hw3,hwn,hfk⟩:=qA2 his (xZJ hx);obtain ⟨e,he⟩: ∃e,es[k]? =some e:=⟨_,xZV (by rw [pb.len];exact hk)⟩;obtain ⟨a1,a2,_,a4⟩:=pb.at_ k e (f,wd) he hx;simp only at a1 a2;obtain ⟨b,⟨eb,_,_,e4⟩,j1,j2⟩:=OwnSl.elt og he xt;obtain ⟨hb1,hb2⟩:=lb eb;obtain ⟨q1,q2,q3⟩:=qBq he;rw [a1] at q1;rw [a2] at q2;have bdg:w.Bd xt hg (h2.up m1).n M v G:=⟨ha5.fr fg (xZY _),sgg,by have:=fg.le;omega⟩;refine qA fun K hn hp=> ?_;simp only [sy.1,rE,reduceIte,rL,g37];apply hn;refine qA fun K hn hp=> ?_;simp only [sy.1,rE,reduceIte,rL,syb.down,g7,p7g,j1];apply hn;refine qW (sok xt) 0 0 9 [] (by kernel_rfl) fun K hn hp=> ?_;simp only [sy.1,rE,reduceIte,rL,rA,syw.1,syb.down,g5,p5g,e4,q1,q2];refine cAS (xZN (ending_c xt hg w his _ M v G bdg hb f wd hw1 hw3 hf) fun res hE hres=> ?_);obtain ⟨E,rfl,eE,E1,E2,fE⟩:=hres;simp only [sy.1,rE,reduceIte,rL];apply hn;obtain ⟨lE,hlE⟩: ∃lE,lE=(List.range w.m.W).map fun c=>w.En G f wd (c+1):=⟨_,rfl⟩;rw [<-hlE] at eE;have llE:lE.length=w.m.W:=by rw [hlE];simp
    have ownE:OwnSl hE hg.n 1 3 (.sl E 0 w.m.W 1) w.m.W (ivs lE):= .inr ⟨E,rfl,E1,E2,eE,by rw [vC,llE];omega⟩;have nE:Nums xt hE (.sl E 0 w.m.W 1) lE:=Nums.own (N:=hg.n) (by rw [llE];exact ownE) (by omega);have bE:=(fE.at_ b (.inl (by omega))).trans e4;have bdE:=his.En_bd hb f wd;refine zH (fun tm=>tm.get 1=some (.ptr h.n 0)/\tm.get 2=some (.ptr (h.n+1) 0)/\tm.get 5=some (.ptr p5 0)/\tm.get 7=some (.ptr p7 0)/\tm.get 8=some (.sl U 0 (w.m.cells.length+1) 1)/\tm.get 10=some (.ptr b (k*3))/\tm.get 11=some (.sl E 0 w.m.W 1)/\tm.get 36=some (iv (w.bnds w.m.cells.length).length)/\tm.get 37=some (iv k)) ⟨by simp [xZZ,g1],by simp [xZZ,g2],by simp [xZZ,g5],by simp [xZZ,g7],by simp [xZZ,g8],by simp [xZZ],by simp [xZZ],by simp [xZZ,g36],by simp [xZZ,g37]⟩ fun tm ht9=> ?_;clear g1 g2 g5 g7 g8 g36 g37;obtain ⟨g1,g2,g5,g7,g8,g10,g11,g36,g37⟩:=ht9;refine qA fun K hn hp=> ?_;simp only [sy.1,rE,reduceIte,rL,g10,g11];refine cAS (xZN (steps_c xt hE (.sl E 0 w.m.W 1) lE nE (by omega) (fun x hx=>by
     rw [hlE] at hx;obtain ⟨c,_,rfl⟩:=xZL.1 hx;have:=bdE (c+1);omega)) fun res hS hres=> ?_)
    obtain ⟨z,rfl,oz,fS⟩:=hres;have e0:w.En G f wd 0=0:=his.En_zero G hw1 hf;have edif:dif 0 lE=dfl (w.En G f wd) w.m.W:=by
     have:=dif_F (w.En G f wd) w.m.W;rw [e0] at this;rw [hlE];exact this
    rw [edif,llE] at oz;have oz1:=oz.one;have oz2:=oz.cells;have bS:=(fS.at_ b (.inl (by have:=fE.le;omega))).trans bE;have hlb:k*3+2+1<=(flB es).length:=by rw [qCc,pb.len];omega
    simp only [sw.1,rE,reduceIte,rL,syw.1,syb.down,bS,hlb,oz1,oz2];have hput:(flB es).take (k*3+2)++[z]++(flB es).drop (k*3+3)=flB (es.set k (e.1,e.2.1,z)):=by
     have e2:=flB_set he z;rw [xZQ,if_pos (by omega)] at e2;rw [xZF,List.singleton_append,e2]
    obtain ⟨es',hes⟩: ∃es',es'=es.set k (e.1,e.2.1,z):=⟨_,rfl⟩;rw [hput,<-hes];apply hn;obtain ⟨hT,hhT⟩: ∃hT:Hp,hT=hS.set b (.cells (flB es') 52):=⟨_,rfl⟩;rw [<-hhT];have nT:hT.n=hS.n:=by rw [hhT];rfl
    have bT:hT.t.get b=some (.cells (flB es') 52):=by rw [hhT,xZX,xZZ,if_pos rfl]
    have kT: ∀x,x≠b->hT.t.get x=hS.t.get x:=fun x hx=>by rw [hhT,xZX,xZZ,if_neg hx]
    have lE0:=fE.le;have lS0:=fS.le;have fgS:Fr hg.n hg hS:=fE.trans fS (by omega);have fT5:Fr h5.n h5 hT:=by rw [hhT];exact (fg.trans fgS (by omega)).set hb1 (by omega) _
    have kgT: ∀x,x<hg.n->x≠b->hT.t.get x=hg.t.get x:=fun x h1 h2=>(kT x h2).trans (fgS.at_ x (.inl h1));clear hhT;have hke:=(List.getElem?_eq_some_iff.1 he).1;have he':es'[k]? =some (e.1,e.2.1,z):=by rw [hes,xZH,if_pos rfl,if_pos hke]
    obtain ⟨q1',q2',_⟩:=qBq he';simp only [a1,a2] at q1' q2';have uT:=(kgT U (by omega) (fun q=>hnu eb q.symm)).trans ug;have eT:=(kT E (by omega)).trans ((fS.at_ E (.inl E2)).trans eE);have wfw:IntKind.i64.wrap ((f:Int)+(wd:Int))=((f+wd:Nat):Int):=by rw [qF _ (by omega) (by omega)];omega
    have wf1:IntKind.i64.wrap ((f:Int) - 1)=(f:Int) - 1:=qF _ (by omega) (by omega);have mf1:max (0:Int) ((f:Int) - 1)=((f - 1:Nat):Int):=by omega
    refine jQ (sok xt) 9 (by kernel_rfl) fun K hn hp=> ?_;simp only [sy.1,rE,reduceIte,rL,syw.1,syb.down,g10,bT,q1',q2',wfw];apply hn;have ubd:=uTo_bd his hb k (by omega);obtain ⟨m,hm⟩: ∃m,m=max ((w.uTo G k).getD f 0) ((w.uTo G k).getD (f - 1) 0):=⟨_,rfl⟩;have x1:=wK (b:=U) (n:=w.m.cells.length+1) (j:=f) (by omega);have x2:=wK (b:=U) (n:=w.m.cells.length+1) (j:=f - 1) (by omega);have x3:=vD (l:=w.uTo G k) (j:=f) (by omega);have x4:=vD (l:=w.uTo G k) (j:=f - 1) (by omega);have hlf:f+1<=(ivs (w.uTo G k)).length:=by rw [vC];omega
    have hput1:=qAF (w.uTo G k) (j:=f) (by omega) m;refine jQ (sok xt) 23 (by kernel_rfl) fun K hn hp=> ?_;simp only [sw.1,rE,reduceIte,rL,syw.1,syb.down,g8,g10,bT,q1',uT,wf1,mf1,x1,x2,x3,x4,hlf,<-hm];rw [hput1];obtain ⟨u1,hu1⟩: ∃u1,u1=(w.uTo G k).set f m:=⟨_,rfl⟩;rw [<-hu1];apply hn;obtain ⟨hV,hhV⟩: ∃hV:Hp,hV=hT.set U (.cells (ivs u1) 3):=⟨_,rfl⟩;rw [<-hhV];have nV:hV.n=hT.n:=by rw [hhV];rfl
    have uV:hV.t.get U=some (.cells (ivs u1) 3):=by rw [hhV,xZX,xZZ,if_pos rfl]
    have kV: ∀x,x≠U->hV.t.get x=hT.t.get x:=fun x hx=>by rw [hhV,xZX,xZZ,if_neg hx]
    have fV5:Fr h5.n h5 hV:=by rw [hhV];exact fT5.set (by omega) (by omega) _
    clear hhV;have bV:=(kV b (hnu eb)).trans bT;have eV:=(kV E (by omega)).trans eT;have l1u:u1.length=w.m.cells.length+1:=by rw [hu1,xZS];exact hlu
    have y1:u1.getD f 0=m:=by rw [hu1,kE _ (by omega),if_pos rfl]
    have eW:w.En G f wd w.m.W=w.bb G f wd:=his.En_all G hw1 hf;have W1:=his.m.c0;have bb0:=bb_bd his hb f wd;have z1:=ubd f;have z2:=ubd (f - 1);have x5:=wK (b:=U) (n:=w.m.cells.length+1) (j:=f+wd) (by omega);have x6:=vD (l:=u1) (j:=f+wd) (by omega);have x7:=vD (l:=u1) (j:=f) (by omega);rw [y1] at x7;have wW:IntKind.i64.wrap ((w.m.W:Int) - 1)=((w.m.W - 1:Nat):Int):=by rw [qF _ (by omega) (by omega)];omega
    have x8:=wK (b:=E) (n:=w.m.W) (j:=w.m.W - 1) (by omega);have x9:=vD (l:=lE) (j:=w.m.W - 1) (by omega);have e9:lE.getD (w.m.W - 1) 0=w.bb G f wd:=by
     rw [hlE,xZW,xZU,xZT (by omega),<-eW];simp only [xZI,Option.getD_some];rw [show w.m.W - 1+1=w.m.W by omega]
    rw [e9] at x9;have wmb:IntKind.i64.wrap (m+w.bb G f wd)=m+w.bb G f wd:=qF _ (by omega) (by omega);have lenE: ∀h':Hp,zI tb h' 31 (.sl E 0 w.m.W 1)=some w.m.W:=fun h'=>by rw [zI,vX];rfl
    have hlw:f+wd+1<=(ivs u1).length:=by rw [vC];omega
    have hput2:=qAF u1 (j:=f+wd) (by omega) (max (u1.getD (f+wd) 0) (m+w.bb G f wd));have eStep:w.uTo G (k+1)=u1.set (f+wd) (max (u1.getD (f+wd) 0) (m+w.bb G f wd)):=by
     rw [qCo G hx,wF,<-hm,<-hu1,y1]
    rw [<-eStep] at hput2;refine zH (fun tm=>tm.get 1=some (.ptr h.n 0)/\tm.get 2=some (.ptr (h.n+1) 0)/\tm.get 5=some (.ptr p5 0)/\tm.get 7=some (.ptr p7 0)/\tm.get 8=some (.sl U 0 (w.m.cells.length+1) 1)/\tm.get 10=some (.ptr b (k*3))/\tm.get 11=some (.sl E 0 w.m.W 1)/\tm.get 12=some (iv ((f+wd:Nat):Int))/\tm.get 36=some (iv (w.bnds w.m.cells.length).length)/\tm.get 37=some (iv k)) ⟨by simp [xZZ,g1],by simp [xZZ,g2],by simp [xZZ,g5],by simp [xZZ,g7],by simp [xZZ,g8],by simp [xZZ,g10],by simp [xZZ,g11],by simp [xZZ],by simp [xZZ,g36],by simp [xZZ,g37]⟩ fun tm ht9=> ?_;clear g1 g2 g5 g7 g8 g10 g11 g36 g37;obtain ⟨g1,g2,g5,g7,g8,g10,g11,g12,g36,g37⟩:=ht9;refine regD (sok xt) 22 (by kernel_rfl) fun K hn hp=> ?_;simp only [sw.1,rE,reduceIte,rL,syw.1,syb.down,g8,g10,g11,uV,bV,eV,g12,q1',x1,x5,x6,x7,x8,x9,wW,wmb,lenE,hlw];rw [hput2];refine hn _ _ (B1 _ ?_);obtain ⟨hW,hhW⟩: ∃hW:Hp,hW=hV.set U (.cells (ivs (w.uTo G (k+1))) 3):=⟨_,rfl⟩;rw [<-hhW];have nW:hW.n=hV.n:=by rw [hhW];rfl
    have uW:hW.t.get U=some (.cells (ivs (w.uTo G (k+1))) 3):=by rw [hhW,xZX,xZZ,if_pos rfl]
    have kW: ∀x,x≠U->hW.t.get x=hV.t.get x:=fun x hx=>by rw [hhW,xZX,xZZ,if_neg hx]
    have fW5:Fr h5.n h5 hW:=by rw [hhW];exact fV5.set (by omega) (by omega) _
    clear hhW;refine reg fun K hn hp=> ?_;simp only [sy.1,rE,reduceIte,rL,g37,qE hk (show (w.bnds w.m.cells.length).length<=9223372036854775807 by omega)];apply hn;refine ⟨⟨k+1,hW,es',_,rfl,by omega,(by simp [xZZ,g1]),(by simp [xZZ,g2]),(by simp [xZZ,g5]),(by simp [xZZ,g7]),(by simp [xZZ,g8]),(by simp [xZZ,g36]),(by simp [xZZ]),fW5,by omega,fun x h1 h2 h3=> ?_,uW,.inr ⟨b,by rw [eb,hes,xZS],hb1,by omega,(kW b (hnu eb)).trans bV,qCc _⟩,?_⟩,by simpa [xZZ,muA] using (by omega:(w.bnds w.m.cells.length).length - (k+1)<(w.bnds w.m.cells.length).length - k)⟩
    ·have hxb:x≠b:=fun q=>h3 _ _ _ (by rw [q];exact eb);exact (kW x h2).trans ((kV x h2).trans ((kgT x (by omega) hxb).trans (kg x h1 h2 h3)))
    ·rw [hes];refine PB.done (pb.keep (h':=hW) (by omega) fun x h1 h2=>(kW x (by omega)).trans ((kV x (by omega)).trans (kgT x h2 (by omega)))) he hx ?_;rcases oz with q|⟨b',q1,q2,q3,q4,q5⟩
     ·exact .inl q
     ·exact .inr ⟨b',q1,by omega,by omega,(kW b' (by omega)).trans ((kV b' (by omega)).trans ((kT b' (by omega)).trans q4)),q5⟩
   ·refine qU (by simp only [sy.1,reduceIte,hk]) ?_;refine qG (A2 _ ?_);obtain rfl:k=(w.bnds w.m.cells.length).length:=by omega
    clear hk;rw [uTo_all] at ug hlu;refine zH (fun tm=>tm.get 1=some (.ptr h.n 0)/\tm.get 2=some (.ptr (h.n+1) 0)/\tm.get 5=some (.ptr p5 0)/\tm.get 7=some (.ptr p7 0)/\tm.get 8=some (.sl U 0 (w.m.cells.length+1) 1)) ⟨by simp [xZZ,g1],by simp [xZZ,g2],by simp [xZZ,g5],by simp [xZZ,g7],by simp [xZZ,g8]⟩ fun tm ht9=> ?_;clear g1 g2 g5 g7 g8 g36 g37;obtain ⟨g1,g2,g5,g7,g8⟩:=ht9;refine qB fun K hn hp=> ?_;simp only [sy.1,reduceIte,rL,rA,g5,p5g];refine cAS (qA1 xt hg w (ha5.fr fg (xZY _)) v onev fun m3 hm3=> ?_);simp only [sy.1,rL];apply hn;refine qC fun KD D1 D2 D3 D4 D5=> ?_;refine qI (sok xt) (fun st=> ∃(r:Nat) (hJ:Hp) (tm:T AV),st=⟨tm,142,hJ,[]⟩/\r<=w.m.cells.length/\tm.get 1=some (.ptr h.n 0)/\tm.get 2=some (.ptr (h.n+1) 0)/\tm.get 5=some (.ptr p5 0)/\tm.get 7=some (.ptr p7 0)/\tm.get 8=some (.sl U 0 (w.m.cells.length+1) 1)/\tm.get 115=some (iv w.m.cells.length)/\tm.get 116=some (iv r)/\Fr h5.n h5 hJ/\hg.n<=hJ.n/\(∀x,x<hg.n->x≠U->hJ.t.get x=hg.t.get x)/\hJ.t.get U=some (.cells (ivs ((List.range r).foldl qAM (w.uAll G))) 3)) (fun st=>w.m.cells.length - (match st.tm.get 116 with|some (.val (.int _ n))=>n.toNat|_=>0)) ?_ ?_
    ·rintro st ⟨r,hJ,tm,rfl,hkD,g1,g2,g5,g7,g8,g115,g116,fJ,lJ,kJ,uJ⟩;have muD:=g116;have hlr:r<=w.m.cells.length->((List.range r).foldl qAM (w.uAll G)).length=w.m.cells.length+1:=fun q=>fin_bd his hb r q;refine qA fun K hn hp=> ?_;simp only [sy.1,rL,qR,g115,g116];apply hn;by_cases hr:r<w.m.cells.length
     ·refine qV (by simp only [sy.1,reduceIte,hr]) ?_;refine qC fun KB B1 B2 B3 B4 B5=> ?_;obtain ⟨ur,hur⟩: ∃ur,ur=(List.range r).foldl qAM (w.uAll G):=⟨_,rfl⟩;rw [<-hur] at uJ hlr;have lur:=hlr (by omega);have wr:IntKind.i64.wrap ((r:Int)+1)=((r+1:Nat):Int):=qE hr (by omega);have x1:=wK (b:=U) (n:=w.m.cells.length+1) (j:=r) (by omega);have x2:=wK (b:=U) (n:=w.m.cells.length+1) (j:=r+1) (by omega);have x3:=vD (l:=ur) (j:=r) (by omega);have x4:=vD (l:=ur) (j:=r+1) (by omega);have hlw:r+1+1<=(ivs ur).length:=by rw [vC];omega
      have hput:=qAF ur (j:=r+1) (by omega) (max (ur.getD (r+1) 0) (ur.getD r 0));have eF:(List.range (r+1)).foldl qAM (w.uAll G)=ur.set (r+1) (max (ur.getD (r+1) 0) (ur.getD r 0)):=by
       rw [List.range_succ,xZP,<-hur];rfl
      rw [<-eF] at hput;refine qA fun K hn hp=> ?_;simp only [sy.1,rE,reduceIte,rL,g116];apply hn;refine regD (sok xt) 14 (by kernel_rfl) fun K hn hp=> ?_;simp only [sw.1,rE,reduceIte,rL,g8,uJ,wr,x1,x2,x3,x4,hlw];rw [hput];refine hn _ _ (B1 _ ?_);obtain ⟨hW,hhW⟩: ∃hW:Hp,hW=hJ.set U (.cells (ivs ((List.range (r+1)).foldl qAM (w.uAll G))) 3):=⟨_,rfl⟩;rw [<-hhW];have nW:hW.n=hJ.n:=by rw [hhW];rfl
      have uW:hW.t.get U=some (.cells (ivs ((List.range (r+1)).foldl qAM (w.uAll G))) 3):=by rw [hhW,xZX,xZZ,if_pos rfl]
      have kW: ∀x,x≠U->hW.t.get x=hJ.t.get x:=fun x hx=>by rw [hhW,xZX,xZZ,if_neg hx]
      have fW5:Fr h5.n h5 hW:=by rw [hhW];exact fJ.set (by omega) (by omega) _
      clear hhW;refine reg fun K hn hp=> ?_;simp only [sy.1,rE,reduceIte,rL,g116,qE hr (show w.m.cells.length<=9223372036854775807 by omega)];apply hn;refine ⟨⟨r+1,hW,_,rfl,by omega,(by simp [xZZ,g1]),(by simp [xZZ,g2]),(by simp [xZZ,g5]),(by simp [xZZ,g7]),(by simp [xZZ,g8]),(by simp [xZZ,g115]),(by simp [xZZ]),fW5,by omega,fun x h1 h2=>(kW x h2).trans (kJ x h1 h2),uW⟩,by simpa [xZZ,muD] using (by omega:w.m.cells.length - (r+1)<w.m.cells.length - r)⟩
     ·refine qU (by simp only [sy.1,reduceIte,hr]) ?_;refine qG (D2 _ ?_);obtain rfl:r=w.m.cells.length:=by omega
      rw [uFin his G] at uJ;obtain ⟨LU,hLU⟩: ∃LU,LU=(List.range (w.m.cells.length+1)).map (w.Un G):=⟨_,rfl⟩;rw [<-hLU] at uJ;have lLU:LU.length=w.m.cells.length+1:=by rw [hLU];simp
      have oU:OwnSl hJ 0 1 3 (.sl U 0 (w.m.cells.length+1) 1) (w.m.cells.length+1) (ivs LU):= .inr ⟨U,rfl,Nat.zero_le _,by omega,uJ,by rw [vC,lLU];omega⟩;have nU:Nums xt hJ (.sl U 0 (w.m.cells.length+1) 1) LU:=Nums.own (N:=0) (by rw [lLU];exact oU) (by omega);obtain ⟨vs,sl1,sl2⟩:=nU.sub (OwnSl.cap oU) (a:=1) (n:=w.m.cells.length) (by omega);have sl1':=sl_from (sl1 hJ);have el:(LU.drop 1).take w.m.cells.length=(List.range w.m.cells.length).map fun c=>w.Un G (c+1):=by
       rw [hLU,List.range_succ_eq_map,List.map_cons,List.map_map,List.drop_one,List.tail_cons,List.take_of_length_le (by simp)];rfl
      rw [el] at sl2;have u0:w.Un G 0=0:=his.Un_zero G;have bdU:=his.Un_bd hb;have pJ:=(kJ p7 (by omega) (by omega)).trans p7g;have tJ:=(fJ.at_ (h.n+1) (.inl (by omega))).trans x3;refine qA fun K hn hp=> ?_;simp only [sy.1,rE,reduceIte,rL,g8,uD,Option.map_none,sl1'];refine cAS (xZN (steps_c xt hJ vs _ sl2 (by simp;omega) (fun x hx=>by
       obtain ⟨c,_,rfl⟩:=xZL.1 hx;have:=bdU (c+1);omega)) fun res hS hres=> ?_)
      obtain ⟨z,rfl,oz,fS⟩:=hres;have edif:dif 0 ((List.range w.m.cells.length).map fun c=>w.Un G (c+1))=w.prows G:=by
       have:=dif_F (w.Un G) w.m.cells.length;rw [u0] at this;exact this
      rw [edif] at oz;have lpr:(w.prows G).length=w.m.cells.length:=bG _ _;have oz1:=oz.one;have oz2:=oz.cells;have pS:=(fS.at_ p7 (.inl (by omega))).trans pJ;have tS:=(fS.at_ (h.n+1) (.inl (by omega))).trans tJ;simp only [sw.1,rE,reduceIte,rL,rA,rD,syb.down,g7,pS,oz1,oz2];apply hn;obtain ⟨hW,hhW⟩: ∃hW:Hp,hW=hS.set p7 (.cells [z,zb] 34):=⟨_,rfl⟩;have nW:hW.n=hS.n:=by rw [hhW];rfl
      have pW:hW.t.get p7=some (.cells [z,zb] 34):=by rw [hhW,xZX,xZZ,if_pos rfl]
      have kW: ∀x,x≠p7->hW.t.get x=hS.t.get x:=fun x hx=>by rw [hhW,xZX,xZZ,if_neg hx]
      have lS0:=fS.le;have fW5:Fr h5.n h5 hW:=by rw [hhW];exact (fJ.trans fS (by omega)).set (by omega) (by omega) _
      rw [<-hhW];clear hhW;have tW:=(kW (h.n+1) (by omega)).trans tS;have ozW:OwnSl hW hJ.n 1 3 z w.m.cells.length (ivs (w.prows G)):=by
       have o2:OwnSl hS hJ.n 1 3 z w.m.cells.length (ivs (w.prows G)):=by
        have e:((List.range w.m.cells.length).map fun c=>w.Un G (c+1)).length=w.m.cells.length:=by simp
        rw [e] at oz;exact oz
       exact o2.keep (by omega) fun x h1 h2=>kW x (by omega)
      have nz:Nums xt hW z (w.prows G):=Nums.own (N:=hJ.n) (by rw [lpr];exact ozW) (by omega);have sb:=fun j=>qDF (w.Un G) w.m.cells.length j;refine qW (sok xt) 0 0 4 [(0,1)] (by kernel_rfl) fun K hn hp=> ?_;simp only [sy.1,rE,reduceIte,rL,rA,syw.1,syb.down,g7,pW];refine cAS (sum_c xt hW z (w.prows G) nz.row nz.lt (fun j hj=>by
       rw [lpr] at hj;have e:=sb j hj;have b1:=bdU j;rw [Wk.prows,e];omega) fun m9 hm9=> ?_)
      rw [yS];simp only [sw.1,rE,reduceIte,rL,rA,syw.1,syb.down,g2,g7,pW,tW,oz1,onb,hm9];obtain ⟨hX,hhX⟩: ∃hX:Hp,hX=(hW.up m9).set (h.n+1) (.cells [z,zb] 34):=⟨_,rfl⟩;have nX:hX.n=m9:=by rw [hhX];rfl
      have tX:hX.t.get (h.n+1)=some (.cells [z,zb] 34):=by rw [hhX,xZX,xZZ,if_pos rfl]
      have kX: ∀x,x≠h.n+1->hX.t.get x=hW.t.get x:=fun x hx=>by rw [hhX,xZX,xZZ,if_neg hx];rfl
      have fXh:Fr h.n h hX:=by rw [hhX];exact ((f5h.trans fW5 (by omega)).up (by omega)).set (by omega) (by simp only [xZK];omega) _
      rw [<-hhX];apply hn;clear hhX;refine qD (end_c2 (v:= .agg [z,zb]) res54 ?_ ⟨fXh,z,zb,w.prows G,w.pbnds G,?_,?_,?_,fun q=>absurd easked q,fun G' _ q=> ?_,OwnSl.cap ozW⟩)
      ·simp only [sy.1,rE,reduceIte,rA,syb.down,g2,tX]
      ·simp [xZZ,easked]
      ·exact Nums.own (N:=hJ.n) (by rw [lpr];exact ozW.keep (by omega) fun x h1 h2=>kX x (by omega)) (by omega)
      ·have kall: ∀x,x<hg.n->x≠U->x≠p7->x≠h.n+1->hX.t.get x=hg.t.get x:=fun x q1 q2 q3 q4=>(kX x q4).trans ((kW x q3).trans ((fS.at_ x (.inl (by omega))).trans (kJ x q1 q2)));have ogX:xK hX h5.n zb es:=by
        rcases og with q|⟨b,q1,q2,q3,q4,q5⟩
        ·exact .inl q
        ·have:=lb q1;exact .inr ⟨b,q1,q2,by omega,(kall b q3 (by omega) (by omega) (by omega)).trans q4,q5⟩
       exact PB.bat his (pb.keep (h':=hX) (by omega) fun x h1 h2=>kall x h2 (by omega) (by omega) (by omega)) ogX
      ·obtain rfl:G=G':=by rw [hb] at q;exact Option.some.inj q
       exact ⟨rfl,rfl⟩
    ·exact ⟨0,hg.up m3,_,rfl,(by omega),(by simp [xZZ,g1]),(by simp [xZZ,g2]),(by simp [xZZ,g5]),(by simp [xZZ,g7]),(by simp [xZZ,g8]),(by simp [xZZ]),(by simp [xZZ]),fg.up (by omega),by simp only [xZK];omega,fun _ _ _=>rfl,ug⟩
  ·exact ⟨0,hB,fr0 (w.bnds w.m.cells.length),_,rfl,(by omega),(by simp [xZZ,g1]),(by simp [xZZ,g2]),(by simp [xZZ,g5]),(by simp [xZZ,g7]),(by simp [xZZ,g8]),(by simp [xZZ]),(by simp [xZZ]),f5B,xZY _,fun _ _ _ _=>rfl,sB,obB,PB.zero⟩
end Go.Proofs.Kn
