/- Parts. -/
import Derived.Test.YthimlgffanlomaaGreatDoorQB2
import Derived.Test.YthimlgffanlomaaGreatDoorQR
import Derived.Test.YthimlgffanlomaaGreatDoorQY8
set_option linter.all false
open Nat renaming reduceEqDiff → rE, reduceLeDiff → rD, reduceAdd → rA, reduceMul → rM, reduceLT → rL
open Go.Ev.T renaming get_put → xZZ
open Nat renaming le_refl → xZY
open List renaming getElem?_eq_some_iff → xZX, getElem?_map → xZU, length_map → xZS, getElem?_append_right → xZR, getElem?_append_left → xZQ, getElem?_eq_getElem → xZP, take_of_length_le → xZO, mem_map → xZN, getElem?_set → xZL
open Go.Ev.Hp renaming up_n → xZW, set_t → xZV
open Go.Ev.FnA renaming mono → xZT
open Option renaming map_some → xZM
namespace Go.Proofs.Kn
open Go Go.Ev
set_option maxRecDepth 100000
set_option maxHeartbeats 4000000
theorem bs58b (h:Hp) (n:Int):j0 tb h 114 1 [(0,iv n)]=some (.sl h.n 0 1 1,h.new (.cells [iv n] 155)):=by kernel_rfl
theorem bs22b (h:Hp) (v:AV) (hv:cellsOf v=[v]):j0 tb h 22 1 [(0,v)]=some (.sl h.n 0 1 1,h.new (.cells [v] 114)):=bs_of (sz:=1) (zs:=[.slice none 0 0]) tg22 rfl gC rfl rfl (by omega) (by omega) (by
 simp [uX,hv,j8];rfl)
theorem qDV {xt:Xt} {h:Hp} {N:Nat} {v:AV} {l:List Int} (o:OwnSl h N 1 155 v l.length (ivs l)):RowAt xt h 1 v (l.map Kn.c1):=by
 rw [qEv] at o;exact OwnSl.row (N:=N) (e:=155) (fun c hc=>by obtain ⟨x,_,rfl⟩:=xZN.1 hc;rfl) (by omega) (by rw [xZS];exact o)
theorem OwnSl.keepB {h h':Hp} {N sz:Nat} {e:TypeId} {v:AV} {n:Nat} {cs:List AV} (o:OwnSl h N sz e v n cs) (hn:h.n<=h'.n) (hk: ∀b off n s,v= .sl b off n s->b<h.n->h'.t.get b=h.t.get b):OwnSl h' N sz e v n cs:=by
 rcases o with o|⟨b,rfl,h2,h3,h4,h5⟩
 ·exact .inl o
 ·exact .inr ⟨b,rfl,h2,by omega,by rw [hk b _ _ _ rfl h3];exact h4,h5⟩
theorem OwnSl.blk {h:Hp} {N sz:Nat} {e:TypeId} {v:AV} {n:Nat} {cs:List AV} (o:OwnSl h N sz e v n cs) {b off n' s:Nat} (hv:v= .sl b off n' s):N<=b/\b<h.n:=by
 rcases o with ⟨_,_,rfl⟩|⟨b',rfl,h2,h3,_⟩
 ·cases hv
 ·have:=(AV.sl.inj hv).1;omega
def ORows (h:Hp) (N:Nat) (v:AV) (ll:List (List Int)):Prop:=
 ∃avs:List AV,OwnSl h N 1 114 v ll.length avs/\ ∀(i:Nat) (l:List Int),ll[i]? =some l-> ∃a,avs[i]? =some a/\OwnSl h N 1 155 a l.length (ivs l)/\xR v a
theorem ORows.nil {h:Hp} {N:Nat}:ORows h N jI []:=⟨[],.inl ⟨rfl,rfl,rfl⟩,fun i l hl=>by simp at hl⟩
theorem ORows.keep {h h':Hp} {N:Nat} {v:AV} {ll:List (List Int)} (r:ORows h N v ll) (hn:h.n<=h'.n) (hk: ∀k,N<=k->k<h.n->h'.t.get k=h.t.get k):ORows h' N v ll:=by
 obtain ⟨avs,h1,h2⟩:=r;refine ⟨avs,h1.keep hn hk,fun i l hl=> ?_⟩;obtain ⟨a,a1,a2,a3⟩:=h2 i l hl;exact ⟨a,a1,a2.keep hn hk,a3⟩
theorem ORows.fr {h h':Hp} {N M:Nat} {v:AV} {ll:List (List Int)} (r:ORows h N v ll) (f:Fr M h h') (hM:h.n<=M):ORows h' N v ll:=r.keep f.le fun k _ hk=>f.at_ k (.inl (by omega))
theorem ORows.one {h:Hp} {N:Nat} {v:AV} {ll:List (List Int)} (r:ORows h N v ll):Go.Ev.one v=true:=by obtain ⟨_,h1,_⟩:=r;exact h1.one
theorem ORows.cells {h:Hp} {N:Nat} {v:AV} {ll:List (List Int)} (r:ORows h N v ll):cellsOf v=[v]:=by obtain ⟨_,h1,_⟩:=r;exact h1.cells
theorem ORows.lt {h:Hp} {N:Nat} {v:AV} {ll:List (List Int)} (r:ORows h N v ll) {b off n s:Nat} (hv:v= .sl b off n s):N<=b/\b<h.n:=by obtain ⟨_,h1,_⟩:=r;exact OwnSl.blk h1 hv
theorem ORows.grid {xt:Xt} {h:Hp} {N:Nat} {v:AV} {ll:List (List Int)} (r:ORows h N v ll):GridAt xt h 1 v (ll.map fun l=>l.map Kn.c1):=by
 obtain ⟨avs,h1,h2⟩:=r;refine LRows.grid (N:=N) (e:=114) ⟨avs,by rw [xZS];exact h1,fun i l hl=> ?_⟩;rw [xZU] at hl;cases q:ll[i]? with
 |none=>rw [q] at hl;simp at hl
 |some l'=>
  rw [q] at hl;simp only [xZM,Option.some.injEq] at hl;subst hl;obtain ⟨a,a1,a2,a3⟩:=h2 i l' q;exact ⟨a,a1,qDV a2,a3⟩
theorem ORows.app {xt:Xt} {h hB:Hp} {N:Nat} {v a:AV} {ll:List (List Int)} {l:List Int} (r:ORows h N v ll) (ha:OwnSl h N 1 155 a l.length (ivs l)) (hap:xR v a) (hN:N<=h.n) (fB:Fr h.n h hB) (nB:hB.n=h.n+1) (sB:hB.t.get h.n=some (.cells [a] 114)) (hl:ll.length<=1000):
  ∃v' h',qT Tryz.prog tb xt .append [22,22] [v,.sl h.n 0 1 1] hB=some (v',h')/\ORows h' N v' (ll++[l])/\Fr N h h':=by
 obtain ⟨avs,h1,h2⟩:=r;have oa:=ha.one;have lav:avs.length=ll.length:=by
  rcases h1 with ⟨q,q2,_⟩|⟨_,_,_,_,_,q⟩
  ·rw [q2,q];rfl
  ·simpa using q
 obtain ⟨h',r1,r2,r3,r4,r5⟩:=OwnSl.append2 (P:=Tryz.prog) (xt:=xt) (m:=1) (by_:=24) (x:= .sl h.n 0 1 1) (h1.fr fB (xZY _)) (by omega) tg22 rfl gC rfl rfl tg22 rfl (vU (e:=114) sB rfl (by simp [oa])) (by omega) rfl (by omega) (by omega);have hk: ∀k,k<h.n->(∀off n s,v≠ .sl k off n s)->h'.t.get k=h.t.get k:=fun k hk hv=>(r5 k (by omega) hv).trans (fB.at_ k (.inl hk));have keep: ∀{x:AV} {l:List Int},OwnSl h N 1 155 x l.length (ivs l)->xR v x->OwnSl h' N 1 155 x l.length (ivs l)/\xR (.sl hB.n 0 (ll.length+1) 1) x:=fun ho hx=>by
  refine ⟨OwnSl.keepB ho (by omega) fun b off n s e hb=>hk b hb (fun off' n' s'=>hx b off n s e off' n' s'),fun b off n s e off' n' s' e'=> ?_⟩;have:=(OwnSl.blk ho e).2;have:=(AV.sl.inj e').1;omega
 refine ⟨_,h',r1,⟨avs++[a],by rw [List.length_append];exact r2,fun i l' hl'=> ?_⟩,(fB.lower hN).trans r3 (xZY _)⟩;rcases Nat.lt_trichotomy i ll.length with hi|rfl|hi
 ·rw [xZQ hi] at hl';obtain ⟨a',j1,j2,j3⟩:=h2 i l' hl';obtain ⟨k1,k2⟩:=keep j2 j3;exact ⟨a',by rw [xZQ (by omega)];exact j1,k1,k2⟩
 ·rw [xZR (xZY _),Nat.sub_self] at hl';cases hl';obtain ⟨k1,k2⟩:=keep ha hap;exact ⟨a,by rw [xZR (by omega),lav,Nat.sub_self];rfl,k1,k2⟩
 ·rw [List.getElem?_eq_none (by simp;omega)] at hl';cases hl'
theorem cutR_at (m:Mp) (rr cc r:Nat) {c:Nat} (h:c<m.W):(m.cutR rr cc r)[c]? =some (ck rr cc r c (m.cell r c)):=by
 rw [Mp.cutR,xZU,List.getElem?_range h];rfl
theorem ft124 (xt:Xt):(SE xt).ft.get 55=some Tryz.f55:=by kernel_rfl
theorem res124:Tryz.f55.results.toList=[.cell 6 30]:=by kernel_rfl
theorem cutw_c (xt:Xt) (h:Hp) (w:Wk) (ha:w.At xt h) (his:w.Is) (rr cc:Nat) (hrr:rr<=100) (hcc:cc<=100):
  FnA (SE xt) 55 [w.av,iv (rr:Int),iv (cc:Int)] h (fun res h'=> ∃vc,res= .ret (w.cutW vc rr cc).av/\(w.cutW vc rr cc).At xt h'/\Fr h.n h h'/\h.n<h'.n/\Go.Ev.one vc=true):=by
 refine FnA.walk (sok xt) (ft124 xt) rfl 63 rfl ?_;obtain ⟨o1,o2,o3,o4,o5⟩:=ha.ones;have r6:=his.m.r6;have c8:=his.m.c8;refine qA fun K hn hp=> ?_;simp only [sw.1,rE,reduceIte,rL,rA];obtain ⟨h1,hh1,n1,s1,k1,f1⟩:=yG h (.cells w.cs 30);obtain ⟨h2,hh2,n2,s2,k2,f2⟩:=yG h1 (.cells [jI,iv 0,iv 0,jI,jI,jI,jI,iv 0] 30);simp only [<-hh1];simp only [<-hh2];apply hn;clear hh1 hh2;have u2:=(k2 h.n (by omega)).trans s1;rw [n1] at s2;refine qA fun K hn hp=> ?_;simp only [sw.1,rE,reduceIte,rL,rA,o1,o2,o3,o4,o5,u2];obtain ⟨h3,hh3,n3,s3,k3,f3⟩:=nsE h2 (.cells [jI,iv 0,iv 0,jI,jI,jI,jI,iv 0] 30) (.cells w.cs 30);simp only [<-hh3];apply hn;clear hh3;have n2':h2.n=h.n+2:=by omega
 rw [n2'] at s3 n3 k3;refine qA fun K hn hp=> ?_;simp only [sw.1,rE,reduceIte,rL,rA,rD,s3,n2'];apply hn;obtain ⟨h4,hh4⟩: ∃h4:Hp,h4=h3.set (h.n+2) (.cells [jI,iv w.m.T,iv w.m.H,w.m.vg,w.m.vk,w.m.vp,w.vt,iv w.kerf] 30):=⟨_,rfl⟩;rw [<-hh4];have n4:h4.n=h.n+3:=by rw [hh4];exact n3
 have s4:h4.t.get (h.n+2)=some (.cells [jI,iv w.m.T,iv w.m.H,w.m.vg,w.m.vk,w.m.vp,w.vt,iv w.kerf] 30):=by rw [hh4,xZV,xZZ,if_pos rfl]
 have k4: ∀b,b<h.n+2->h4.t.get b=h2.t.get b:=fun b hb=>by rw [hh4,xZV,xZZ,if_neg (by omega)];exact k3 b hb
 have f4:Fr h.n h h4:=by rw [hh4];exact ((f1.trans f2 (by omega)).trans f3 (by omega)).set (by omega) (by omega) _
 clear hh4;have u4:=(k4 h.n (by omega)).trans ((k2 h.n (by omega)).trans s1);have v4:=(k4 (h.n+1) (by omega)).trans s2;refine zH (fun tm=>tm.get 1=some (iv (rr:Int))/\tm.get 2=some (iv (cc:Int))/\tm.get 3=some (.ptr h.n 0)/\tm.get 6=some (.ptr (h.n+1) 0)/\tm.get 7=some (.ptr (h.n+2) 0)) ⟨by simp [xZZ],by simp [xZZ],by simp [xZZ],by simp [xZZ],by simp [xZZ]⟩ fun tm ht=> ?_;obtain ⟨g1,g2,g3,g6,g7⟩:=ht;refine qB fun K hn hp=> ?_;simp only [sy.1,rL];apply hn;refine qC fun KA A1 A2 A3 A4 A5=> ?_;refine qI (sok xt) (fun st=> ∃(r:Nat) (hg:Hp) (vc:AV) (tm:T AV),st=⟨tm,63,hg,[]⟩/\r<=w.m.cells.length/\tm.get 1=some (iv (rr:Int))/\tm.get 2=some (iv (cc:Int))/\tm.get 3=some (.ptr h.n 0)/\tm.get 6=some (.ptr (h.n+1) 0)/\tm.get 7=some (.ptr (h.n+2) 0)/\tm.get 8=some (iv r)/\Fr (h.n+2) h4 hg/\h4.n<=hg.n/\hg.t.get (h.n+2)=some (.cells [vc,iv w.m.T,iv w.m.H,w.m.vg,w.m.vk,w.m.vp,w.vt,iv w.kerf] 30)/\ORows hg h4.n vc ((w.m.cutC rr cc).take r)) (fun st=>w.m.cells.length - (match st.tm.get 8 with|some (.val (.int _ n))=>n.toNat|_=>0)) ?_ ?_
 ·rintro st ⟨r,hg,vc,tm,rfl,hkA,g1,g2,g3,g6,g7,g8,fg,lg,pg,rg⟩;have muA:=g8;have ug:=(fg.at_ h.n (.inl (by omega))).trans u4;have fgh:Fr h.n h hg:=f4.trans fg (by omega);have hag:=ha.fr fgh (xZY _);refine qB fun K hn hp=> ?_;simp only [sy.1,rE,reduceIte,rL,rA,rD,g3,g8,ug];refine cAS (kH xt hg w.m hag.m fun m3 hm3=> ?_);simp only [sy.1,rE,reduceIte,rL,qR];apply hn;by_cases hr:r<w.m.cells.length
  ·refine qV (by simp only [sy.1,rE,reduceIte,hr]) ?_;refine qC fun KB B1 B2 B3 B4 B5=> ?_;refine qA fun K hn hp=> ?_;simp only [sy.1,rL];apply hn;refine qB fun K hn hp=> ?_;simp only [sy.1,rL];apply hn;obtain ⟨l,hl⟩: ∃l,l=w.m.cutR rr cc r:=⟨_,rfl⟩;have hll:l.length=w.m.W:=by rw [hl,wS]
   obtain ⟨va,i1,i2,ra,_⟩:=ha.m.rowD hr;refine qC fun KD D1 D2 D3 D4 D5=> ?_;refine qI (sok xt) (fun st=> ∃(j:Nat) (x:AV) (hd:Hp) (tm:T AV),st=⟨tm,63,hd,[]⟩/\j<=w.m.W/\tm.get 1=some (iv (rr:Int))/\tm.get 2=some (iv (cc:Int))/\tm.get 3=some (.ptr h.n 0)/\tm.get 6=some (.ptr (h.n+1) 0)/\tm.get 7=some (.ptr (h.n+2) 0)/\tm.get 8=some (iv r)/\tm.get 9=some (x)/\tm.get 10=some (iv j)/\Fr hg.n hg hd/\OwnSl hd hg.n 1 155 x j (ivs (l.take j))) (fun st=>w.m.W - (match st.tm.get 10 with|some (.val (.int _ n))=>n.toNat|_=>0)) ?_ ?_
   ·rintro st ⟨j,x,hd,tm,rfl,hkD,g1,g2,g3,g6,g7,g8,g9,g10,fd,own⟩;have muD:=g10;have fdh:Fr h.n h hd:=fgh.trans fd (by omega);have had:=ha.fr fdh (xZY _);have ud:=(fd.at_ h.n (.inl (by omega))).trans ug;have hlo:=fd.lo;refine qB fun K hn hp=> ?_;simp only [sy.1,rE,reduceIte,rL,rA,rD,g3,g10,ud];refine cAS (kK xt hd w.m had.m fun m4 hm4=> ?_);simp only [sy.1,rE,reduceIte,rL,qR];apply hn;by_cases hj:j<w.m.W
    ·refine qV (by simp only [sy.1,rE,reduceIte,hj]) ?_;refine qC fun KE E1 E2 E3 E4 E5=> ?_;obtain ⟨va,i1,i2,ra,_⟩:=had.m.rowD hr;obtain ⟨j1,j2⟩:=ra.m58 (k:=j) (by rw [his.m.hC r hr];exact hj);have e0:(w.m.cells.getD r []).getD j 0=w.m.cell r j:=rfl;rw [e0] at j2;have hlj:l[j]? =some (ck rr cc r j (w.m.cell r j)):=by rw [hl];exact cutR_at _ _ _ _ hj
     obtain ⟨k0,hk0⟩: ∃k0,k0=w.m.cell r j:=⟨_,rfl⟩;rw [<-hk0] at j2 hlj;refine qA fun K hn hp=> ?_;simp only [sy.1,rE,reduceIte,rL,syw.1,g3,g8,g10,ud,i1,i2,j1,j2];apply hn;refine wU fun KK hKK hX=> ?_;have rest: ∀(tm:T AV) (kx:Int),kx=ck rr cc r j k0->tm.get 1=some (iv (rr:Int))->tm.get 2=some (iv (cc:Int))->tm.get 3=some (.ptr h.n 0)->tm.get 6=some (.ptr (h.n+1) 0)->tm.get 7=some (.ptr (h.n+2) 0)->tm.get 8=some (iv r)->tm.get 9=some x->tm.get 10=some (iv j)->tm.get 11=some (iv kx)->KK .normal ⟨tm,63,hd.up m4,[]⟩:=by
      clear g1 g2 g3 g6 g7 g8 g9 g10;intro tm kx hkx g1 g2 g3 g6 g7 g8 g9 g10 g11;refine hKK _ ?_;clear hX hKK KK;obtain ⟨hB,hhB,nB,sB,kB,fB⟩:=yG (hd.up m4) (.cells [iv kx] 155);obtain ⟨x',hC,p1,p2,p3,p4⟩:=OwnSl.append (P:=Tryz.prog) (xt:=xt) (m:=1) (by_:=8) (x:= .sl m4 0 1 1) ((own.up (k:=m4) (by omega)).fr fB (xZY _)) (by simp only [xZW] at nB;omega) gC rfl qBG rfl rfl gC rfl (vU (e:=155) sB rfl rfl) (by omega) rfl (by omega) (by omega);refine reg fun K hn hp=> ?_;simp only [sy.1,rE,reduceIte,rL,g9,g11,jJ,bs58b,<-hhB,p1];refine hn _ _ (E1 _ ?_);clear hhB;refine reg fun K hn hp=> ?_;simp only [sy.1,rE,reduceIte,rL,g10,qE hj (show w.m.W<=9223372036854775807 by omega)];apply hn;refine ⟨⟨j+1,x',hC,_,rfl,by omega,(by simp [xZZ,g1]),(by simp [xZZ,g2]),(by simp [xZZ,g3]),(by simp [xZZ,g6]),(by simp [xZZ,g7]),(by simp [xZZ,g8]),(by simp [xZZ]),(by simp [xZZ]),((fd.up (by omega)).trans fB (by simp only [xZW];omega)).trans p3 (xZY _),?_⟩,by simpa [xZZ,muD] using (by omega:w.m.W - (j+1)<w.m.W - j)⟩;have:ivs (l.take (j+1))=ivs (l.take j)++[iv kx]:=by
       rw [List.take_succ,hlj,<-hkx];simp [ivs]
      rw [this];exact p2
     by_cases d1:k0=2
     ·have e1:decide (k0=2)=true:=decide_eq_true d1;by_cases d2:rr<=r
      ·have e2:decide ((rr:Int)<=(r:Int))=true:=decide_eq_true (by omega);refine qA fun K hn hp=> ?_;simp only [sy.1,rE,reduceIte,rL,g1,g8,e1,e2];apply hn;refine wcT (by simp only [sy.1,rE,reduceIte]) ?_;refine reg fun K hn hp=> ?_;simp only [sy.1,rL];apply hn;refine rest _ 3 (by rw [ck,if_pos ⟨d1,.inl d2⟩]) ?_ ?_ ?_ ?_ ?_ ?_ ?_ ?_ ?_;all_goals simp [xZZ,g1,g2,g3,g6,g7,g8,g9,g10]
      ·have e2:decide ((rr:Int)<=(r:Int))=false:=decide_eq_false (by omega);by_cases d3:cc<=j
       ·have e3:decide ((cc:Int)<=(j:Int))=true:=decide_eq_true (by omega);refine qA fun K hn hp=> ?_;simp only [sy.1,rE,reduceIte,rL,g1,g2,g8,g10,e1,e2,e3];apply hn;refine wcT (by simp only [sy.1,rE,reduceIte]) ?_;refine reg fun K hn hp=> ?_;simp only [sy.1,rL];apply hn;refine rest _ 3 (by rw [ck,if_pos ⟨d1,.inr d3⟩]) ?_ ?_ ?_ ?_ ?_ ?_ ?_ ?_ ?_;all_goals simp [xZZ,g1,g2,g3,g6,g7,g8,g9,g10]
       ·have e3:decide ((cc:Int)<=(j:Int))=false:=decide_eq_false (by omega);refine qA fun K hn hp=> ?_;simp only [sy.1,rE,reduceIte,rL,g1,g2,g8,g10,e1,e2,e3];apply hn;refine wcF (by simp only [sy.1,rE,reduceIte]) ?_;refine qN (rest _ k0 (by rw [ck,if_neg (fun q=>q.2.elim d2 d3)]) ?_ ?_ ?_ ?_ ?_ ?_ ?_ ?_ ?_);all_goals simp [xZZ,g1,g2,g3,g6,g7,g8,g9,g10]
     ·have e1:decide (k0=2)=false:=decide_eq_false d1;refine qA fun K hn hp=> ?_;simp only [sy.1,rE,reduceIte,rL,syw.1,e1];apply hn;refine wcF (by simp only [sy.1,rE,reduceIte]) ?_;refine qN (rest _ k0 (by rw [ck,if_neg (fun q=>d1 q.1)]) ?_ ?_ ?_ ?_ ?_ ?_ ?_ ?_ ?_);all_goals simp [xZZ,g1,g2,g3,g6,g7,g8,g9,g10]
    ·refine qU (by simp only [sy.1,rE,reduceIte,hj]) ?_;refine qG (D2 _ ?_);obtain rfl:j=w.m.W:=by omega
     rw [xZO (by omega)] at own;have own':OwnSl (hd.up m4) hg.n 1 155 x l.length (ivs l):=by rw [hll];exact own.up (by omega)
     have hrow:=qDV (xt:=xt) own';have onex:=own.one;have cellx:=own.cells;have pd:=(fd.at_ (h.n+2) (.inl (by omega))).trans pg;have hap:xR vc x:=fun bk off n s hx off' n' s' hw=>by
      have h1:=(rg.lt hw).2;rcases own with ⟨_,_,rfl⟩|⟨bk',rfl,q2,_⟩
      ·cases hx
      ·cases hx;omega
     have lt6:((w.m.cutC rr cc).take r).length<=6:=by rw [List.length_take,v8];omega
     obtain ⟨hB,hhB,nB,sB,kB,fB⟩:=yG (hd.up m4) (.cells [x] 114);have rgu:ORows (hd.up m4) h4.n vc ((w.m.cutC rr cc).take r):=(rg.fr fd (xZY _)).keep (by simp only [xZW];omega) fun _ _ _=>rfl;have owN:OwnSl (hd.up m4) h4.n 1 155 x l.length (ivs l):=by
      rcases own' with q|⟨b,q1,q2,q3⟩
      ·exact .inl q
      ·exact .inr ⟨b,q1,by omega,q3⟩
     obtain ⟨v',hC,y1,y2,y3⟩:=rgu.app (xt:=xt) owN hap (by simp only [xZW];omega) fB nB sB (by omega);simp only [xZW] at y1;have pC:hC.t.get (h.n+2)=some (.cells [vc,iv w.m.T,iv w.m.H,w.m.vg,w.m.vk,w.m.vp,w.vt,iv w.kerf] 30):=(y3.at_ (h.n+2) (.inl (by omega))).trans pd;refine reg fun K hn hp=> ?_;have onv':=y2.one;have clv':=y2.cells;simp only [sw.1,rE,reduceIte,rL,rA,rD,g7,g9,pd,jJ,bs22b _ _ cellx,<-hhB,y1,pC,onv',clv'];refine hn _ _ (B1 _ ?_);clear hhB;obtain ⟨hD,hhD⟩: ∃hD:Hp,hD=hC.set (h.n+2) (.cells [v',iv w.m.T,iv w.m.H,w.m.vg,w.m.vk,w.m.vp,w.vt,iv w.kerf] 30):=⟨_,rfl⟩;rw [<-hhD];have lC:=y3.le;simp only [xZW] at lC;have nD:hD.n=hC.n:=by rw [hhD];rfl
     have pD:hD.t.get (h.n+2)=some (.cells [v',iv w.m.T,iv w.m.H,w.m.vg,w.m.vk,w.m.vp,w.vt,iv w.kerf] 30):=by rw [hhD,xZV,xZZ,if_pos rfl]
     have kD: ∀b,b≠h.n+2->hD.t.get b=hC.t.get b:=fun b hb=>by rw [hhD,xZV,xZZ,if_neg hb]
     have fD:Fr (h.n+2) h4 hD:=by rw [hhD];exact ((fg.trans (fd.up (m:=m4) (by omega)) (by omega)).trans y3 (by omega)).set (xZY _) (by omega) _
     clear hhD;refine reg fun K hn hp=> ?_;simp only [sy.1,rE,reduceIte,rL,g8,qE hr (show w.m.cells.length<=9223372036854775807 by omega)];apply hn;refine ⟨⟨r+1,hD,v',_,rfl,by omega,(by simp [xZZ,g1]),(by simp [xZZ,g2]),(by simp [xZZ,g3]),(by simp [xZZ,g6]),(by simp [xZZ,g7]),(by simp [xZZ]),fD,by omega,pD,?_⟩,by simpa [xZZ,muA] using (by omega:w.m.cells.length - (r+1)<w.m.cells.length - r)⟩;rw [List.take_succ,cutC_at _ _ _ hr,<-hl];exact y2.keep (by omega) (fun k hk hk2=>kD k (by omega))
   ·exact ⟨0,jI,hg.up m3,_,rfl,(by omega),(by simp [xZZ,g1]),(by simp [xZZ,g2]),(by simp [xZZ,g3]),(by simp [xZZ,g6]),(by simp [xZZ,g7]),(by simp [xZZ,g8]),(by simp [xZZ]),(by simp [xZZ]),(Fr.refl (xZY _)).up (by omega),OwnSl.nil⟩
  ·refine qU (by simp only [sy.1,rE,reduceIte,hr]) ?_;refine qG (A2 _ ?_);obtain rfl:r=w.m.cells.length:=by omega
   rw [xZO (by rw [v8];exact xZY _)] at rg;have onv:=rg.one;have v1g:=(fg.at_ (h.n+1) (.inl (by omega))).trans v4;have fgu:Fr h.n h (hg.up m3):=fgh.up (by omega);obtain ⟨h5,hh5⟩: ∃h5:Hp,h5=(hg.up m3).set (h.n+1) (.cells [vc,iv w.m.T,iv w.m.H,w.m.vg,w.m.vk,w.m.vp,w.vt,iv w.kerf] 30):=⟨_,rfl⟩;have n5:h5.n=m3:=by rw [hh5];rfl
   have s5:h5.t.get (h.n+1)=some (.cells [vc,iv w.m.T,iv w.m.H,w.m.vg,w.m.vk,w.m.vp,w.vt,iv w.kerf] 30):=by rw [hh5,xZV,xZZ,if_pos rfl]
   have k5: ∀b,b≠h.n+1->h5.t.get b=hg.t.get b:=fun b hb=>by rw [hh5,xZV,xZZ,if_neg hb];rfl
   have f5:Fr h.n h h5:=by rw [hh5];exact fgu.set (by omega) (by simp only [xZW];omega) _
   refine qA fun K hn hp=> ?_;simp only [sw.1,rE,reduceIte,rL,rA,o2,o3,o4,o5,g6,g7,pg,onv,v1g,<-hh5];apply hn;clear hh5;have r5:ORows h5 h4.n vc (w.m.cutC rr cc):=rg.keep (by omega) fun k hk _=>k5 k (by omega);have ha5:=ha.fr f5 (xZY _);refine qD (end_c res124 (v:=(w.cutW vc rr cc).av) ?_ ⟨vc,rfl,⟨⟨r5.grid,ha5.m.gs,ha5.m.ks,ha5.m.ps,?_,fun l hl=> ?_,ha5.m.lg,ha5.m.lk,ha5.m.lp⟩,ha5.ts,ha5.lt⟩,f5,by omega,onv⟩)
   ·simp only [sy.1,rE,reduceIte,rA,g6,s5]
   ·rw [v8];exact ha.m.lc
   ·obtain ⟨r,_,rfl⟩:=xZN.1 (show l∈(List.range w.m.cells.length).map (w.m.cutR rr cc) from hl);rw [wS];omega
 ·exact ⟨0,h4,jI,_,rfl,(by omega),(by simp [xZZ,g1]),(by simp [xZZ,g2]),(by simp [xZZ,g3]),(by simp [xZZ,g6]),(by simp [xZZ,g7]),(by simp [xZZ]),Fr.refl (by omega),xZY _,s4,ORows.nil⟩
theorem cutW_tub {w:Wk} {v:AV} {rr cc q n:Nat} {th wo:Int} (h:Tub (w.cutW v rr cc) q n th wo):Tub w q n th wo:=⟨h.at_,h.tb,h.n1,h.n3,h.h1,h.h60,h.w1,h.w100⟩
theorem cutW_gr {w:Wk} (his:w.Is) {G:Th.Grid} {g:Gr} (h:w.GrOk G g) (v:AV) (rr cc:Nat):(w.cutW v rr cc).GrOk G g:=by
 have hl:(w.cutW v rr cc).m.cells.length=w.m.cells.length:=v8 _ _ _;refine ⟨h.len.trans hl.symm,fun r hr=> ?_,fun r c hr hc=> ?_,fun s hs=> ?_⟩
 ·rw [yO his];exact h.row r (by rw [<-hl];exact hr)
 ·exact h.pos r c (by rw [<-hl];exact hr) (by rw [<-yO his v rr cc];exact hc)
 ·obtain ⟨r0,c0,q,n,th,wo,rfl,ht,h1,h2⟩:=hs;rw [hl] at h1;rw [yO his] at h2;exact h.lv _ ⟨r0,c0,q,n,th,wo,rfl,cutW_tub ht,h1,h2⟩
theorem qC6 {w:Wk} (his:w.Is) (v v':AV) (G:Th.Grid) (rr cc row wd:Nat): ∀m,(w.cutW v rr cc).bandP G row wd m=(w.cutW v' rr cc).bandP G row wd m:=by
 intro m;induction m using Nat.strongRecOn with
 |ind m ih=>
 cases m with
 |zero=>rw [Wk.bandP_zero,Wk.bandP_zero]
 |succ m=>
  have i1:=ih m (by omega);have i2:=ih (m - (wd - 1)) (by omega);rw [Wk.bandP_succ,Wk.bandP_succ,Wk.cnd,Wk.cnd,i1,i2,yO his];show vM _ (_::((w.cutW v rr cc).selTo wd row (w.m.W - (m+1)) w.ts.length).map _)=vM _ (_::((w.cutW v' rr cc).selTo wd row (w.m.W - (m+1)) w.ts.length).map _);rw [pI his,pI his];rfl
theorem qGI {w:Wk} (his:w.Is) (v v':AV) (G:Th.Grid) (rr cc:Nat): ∀m,(w.cutW v rr cc).packP G m=(w.cutW v' rr cc).packP G m:=by
 have hl: ∀v,(w.cutW v rr cc).m.cells.length=w.m.cells.length:=fun v=>v8 _ _ _;intro m;induction m using Nat.strongRecOn with
 |ind m ih=>
 cases m with
 |zero=>rw [Wk.packP_zero,Wk.packP_zero]
 |succ m=>
  have i1:=ih m (by omega);have e:(w.cutW v rr cc).pone G m=(w.cutW v' rr cc).pone G m:=by
   funext x
   rw [Wk.pone,Wk.pone,hl,yO his,qC6 his v v',ih (m - (x.toNat - 1)) (by omega)]
  rw [Wk.packP_succ,Wk.packP_succ,Wk.pcnd,Wk.pcnd,i1,e];rfl
theorem Wk.Is.En_bd {w:Wk} (his:w.Is) {G:Th.Grid} (hb:w.m.bnd=some G) (row wd n:Nat):0<=w.En G row wd n/\w.En G row wd n<=60000:=by
 have h:=(pM his w.m.vc w.m.cells.length n).bandP_bd (G:=G) ((qAW his _ _ _).trans hb) row wd w.m.W;have c8:=his.m.c8;rw [Wk.En];omega
theorem Wk.Is.Un_bd {w:Wk} (his:w.Is) {G:Th.Grid} (hb:w.m.bnd=some G) (k:Nat):0<=w.Un G k/\w.Un G k<=400000:=by
 have h:=(pM his w.m.vc k w.m.W).packP_bd (G:=G) ((qAW his _ _ _).trans hb) w.m.cells.length;have r6:=his.m.r6;rw [Wk.Un];omega
theorem bG (F:Nat->Int) (n:Nat):(dfl F n).length=n:=by simp [dfl]
theorem bd93 (z:AV) (hz:cellsOf z=[z]):vN tb 34 [(1,z)]=some (.agg [jI,z]):=by
 have:vN tb 34 [(1,z)]=(uX (fun i=>([(0,1),(1,1)]:List (Nat×Nat))[i]?) [(1,z)] [jI,jI]).map .agg:=by kernel_rfl
 rw [this];simp [uX,hz];rfl
structure PB (w:Wk) (G:Th.Grid) (h:Hp) (N1 k:Nat) (es:List (Int×Int×AV)):Prop where
 len:es.length=(w.bnds w.m.cells.length).length
 at_: ∀(i:Nat) (e:Int×Int×AV) (x:Nat×Nat),es[i]? =some e->(w.bnds w.m.cells.length)[i]? =some x->e.1=x.1/\e.2.1=x.2/\(i<k->OwnSl h N1 1 3 e.2.2 w.m.W (ivs (dfl (w.En G x.1 x.2) w.m.W)))/\(k<=i->e.2.2=jI)
theorem PB.keep {w:Wk} {G:Th.Grid} {h h':Hp} {N1 k:Nat} {es:List (Int×Int×AV)} (p:PB w G h N1 k es) (hn:h.n<=h'.n) (hk: ∀b,N1<=b->b<h.n->h'.t.get b=h.t.get b):PB w G h' N1 k es:=
 ⟨p.len,fun i e x he hx=>by
  obtain ⟨a1,a2,a3,a4⟩:=p.at_ i e x he hx;exact ⟨a1,a2,fun q=>(a3 q).keep hn hk,a4⟩⟩
theorem PB.zero {w:Wk} {G:Th.Grid} {h:Hp} {N1:Nat}:PB w G h N1 0 (fr0 (w.bnds w.m.cells.length)):=
 ⟨by simp [fr0],fun i e x he hx=>by
  rw [fr0,xZU,hx] at he;cases he;exact ⟨rfl,rfl,fun q=>by omega,fun _=>rfl⟩⟩
theorem PB.done {w:Wk} {G:Th.Grid} {h:Hp} {N1 k:Nat} {es:List (Int×Int×AV)} (p:PB w G h N1 k es) {e:Int×Int×AV} {x:Nat×Nat} (he:es[k]? =some e) (hx:(w.bnds w.m.cells.length)[k]? =some x) {z:AV} (hz:OwnSl h N1 1 3 z w.m.W (ivs (dfl (w.En G x.1 x.2) w.m.W))):PB w G h N1 (k+1) (es.set k (e.1,e.2.1,z)):=by
 have hk:=(xZX.1 he).1;refine ⟨by rw [List.length_set];exact p.len,fun i e' x' he' hx'=> ?_⟩;rw [xZL] at he';by_cases q:k=i
 ·subst q;rw [if_pos rfl,if_pos hk] at he';cases he';rw [hx] at hx';cases hx';obtain ⟨a1,a2,_,_⟩:=p.at_ k e x he hx;exact ⟨a1,a2,fun _=>hz,fun q=>by omega⟩
 ·rw [if_neg q] at he';obtain ⟨a1,a2,a3,a4⟩:=p.at_ i e' x' he' hx';exact ⟨a1,a2,fun q=>a3 (by omega),fun q=>a4 (by omega)⟩
theorem PB.bat {xt:Xt} {w:Wk} {G:Th.Grid} {h:Hp} {N N1:Nat} {es:List (Int×Int×AV)} {v:AV} (his:w.Is) (p:PB w G h N1 (w.bnds w.m.cells.length).length es) (o:xK h N v es):BAt xt h v (w.pbnds G):=by
 have r6:=his.m.r6;have c8:=his.m.c8;have hl:=xJ his w.m.cells.length;refine OwnSl.bat o (by rw [Wk.pbnds,xZS];exact p.len.symm) (by rw [p.len];omega) fun i e b he hb=> ?_;rw [Wk.pbnds,xZU] at hb;cases q:(w.bnds w.m.cells.length)[i]? with
 |none=>rw [q] at hb;simp at hb
 |some x=>
  rw [q] at hb;simp only [xZM,Option.some.injEq] at hb;subst hb;obtain ⟨a1,a2,a3,_⟩:=p.at_ i e x he q;have a5:=a3 (xZX.1 q).1;refine ⟨a1,a2,Nums.own (N:=N1) ?_ (by rw [bG];omega),OwnSl.cap a5⟩;rw [bG];exact a5
theorem List.set_getElem?_self' {α:Type} {l:List α} {i:Nat} {x:α} (h:l[i]? =some x):l.set i x=l:=by
 obtain ⟨h1,h2⟩:=xZX.1 h;rw [<-h2];exact List.set_getElem_self h1
theorem ft57 (xt:Xt):(SE xt).ft.get 11=some Tryz.f11:=by kernel_rfl
theorem res57:Tryz.f11.results.toList=[.cell 2 34]:=by kernel_rfl
theorem rproof_c (xt:Xt) (h:Hp) (w:Wk) (ha:w.At xt h) (his:w.Is) (G:Th.Grid) (hbn:w.m.bnd=some G):
  FnA (SE xt) 11 [w.av] h (fun res h'=> ∃zr zb,res= .ret (.agg [zr,zb])/\Nums xt h' zr (w.prows G)/\BAt xt h' zb (w.pbnds G)/\Fr h.n h h'):=by
 refine FnA.walk (sok xt) (ft57 xt) rfl 104 rfl ?_;obtain ⟨o1,o2,o3,o4,o5⟩:=ha.ones;have c8:=his.m.c8;have r6:=his.m.r6;refine qA fun K hn hp=> ?_;simp only [sw.1,reduceIte,rL,syb.down];obtain ⟨h1,hh1,n1,s1,k1,f1⟩:=yG h (.cells w.cs 30);obtain ⟨h2,hh2,n2,s2,k2,f2⟩:=bY f1 n1 (.cells [jI,jI] 34);simp only [<-hh1,<-hh2];apply hn;clear hh1 hh2;simp only [rA] at n2;have u2:=(k2 h.n (by omega)).trans s1;have ha2:=ha.fr f2 (xZY _);refine qA fun K hn hp=> ?_;simp only [sy.1,rE,reduceIte,rL,rA,rD,u2];refine cAS (xZT (qAv xt h2 w.m ha2.m _ _ his.m rfl) fun res h3 hres=> ?_);obtain ⟨tv,M,rfl,f3,sg,hM1,hM2⟩:=hres;have hG:Th.thickR w.m.T w.m.J (w.m.W - 1) w.m.F0 (w.m.gs.map gg) w.m.cells.length (w.m.W+1)=G:=(gQ his.m hbn).1;rw [hG] at sg;simp only [sy.1,rE,reduceIte,rL];refine cAS (xZT (qEI xt h3 _ M _ _ tv G sg (by omega) (by omega) (by omega) false) fun res h4 hres=> ?_);obtain ⟨z1,rfl,f4,lt4,l1⟩:=hres;have gl: ∀r,r<w.m.cells.length->((⟨z1,yJ false G w.m.cells.length w.m.W⟩:Gr).ll.getD r []).length=w.m.W:=fun r hr=>by
  show ((yJ false G w.m.cells.length w.m.W).getD r []).length=_;rw [gL _ _ hr];simp
 have hbp:=qA3 his.m hbn;obtain ⟨g,hgv⟩: ∃g:Gr,g=⟨z1,yJ false G w.m.cells.length w.m.W⟩:=⟨_,rfl⟩;have gok:w.GrOk G g:=by
  rw [hgv];refine ⟨gM _ _ _ _,gl,fun r c hr hc=> ?_,fun s hs=> ?_⟩
  ·rw [qC2 z1 false G hr hc];exact (hbp r c).1
  ·rw [qCQ hs];rfl
 have hg4:g.At xt h4:=by rw [hgv];exact l1
 have egv:z1=g.v:=by rw [hgv]
 rw [egv];clear hgv l1 gl;simp only [sy.1,rE,reduceIte,rL];apply hn;have l3:=f3.le;have f4h:Fr h.n h h4:=(f2.trans f3 (by omega)).trans f4 (by omega);have u4:=(f4.at_ h.n (.inl (by omega))).trans ((f3.at_ h.n (.inl (by omega))).trans u2);have v4:=(f4.at_ (h.n+1) (.inl (by omega))).trans ((f3.at_ (h.n+1) (.inl (by omega))).trans s2);have ha4:=ha.fr f4h (xZY _);refine qA fun K hn hp=> ?_;simp only [sy.1,rE,reduceIte,rL,rA,u4];refine cAS (xZT (qFi xt h4 w ha4 his) fun res h5 hres=> ?_);obtain ⟨zb,rfl,ob5,f5,lt5⟩:=hres;have onb:=OwnSl.one ob5;have clb:=OwnSl.cells ob5;obtain ⟨h7,hh7,n7,s7,k7,f7⟩:=nsE h5 (.cells [jI,jI] 34) (.cells [jI,zb] 34);simp only [sw.1,rE,reduceIte,rL,rA,syb.down,bd93 _ clb,onb,<-hh7];apply hn;clear hh7;have f47:Fr h4.n h4 h7:=f5.trans f7 (by omega);have ob7:xK h7 h4.n zb (fr0 (w.bnds w.m.cells.length)):=OwnSl.fr ob5 f7 (xZY _);obtain ⟨p4,hp4⟩: ∃p4,p4=h5.n:=⟨_,rfl⟩;rw [<-hp4] at s7 n7 ⊢;have lb: ∀{b off n s:Nat},zb= .sl b off n s->h4.n<=b/\b<p4:=fun e=>by have:=OwnSl.blk ob5 e;omega
 refine zH (fun tm=>tm.get 1=some (.ptr h.n 0)/\tm.get 2=some (.ptr (h.n+1) 0)/\tm.get 3=some g.v/\tm.get 4=some (.ptr p4 0)) ⟨by simp [xZZ],by simp [xZZ],by simp [xZZ],by simp [xZZ]⟩ fun tm ht=> ?_;obtain ⟨g1,g2,g3,g4⟩:=ht;have hnb:=xJ his w.m.cells.length;have lenb: ∀(h':Hp),zI tb h' 32 zb=some (w.bnds w.m.cells.length).length:=fun h'=>by
  have:=OwnSl.len ob7 pY rfl (h':=h');simpa [fr0] using this
 refine qB fun K hn hp=> ?_;simp only [sy.1,rL];apply hn;refine qC fun KA A1 A2 A3 A4 A5=> ?_;refine qI (sok xt) (fun st=> ∃(k:Nat) (hg:Hp) (es:List (Int×Int×AV)) (tm:T AV),st=⟨tm,104,hg,[]⟩/\k<=(w.bnds w.m.cells.length).length/\tm.get 1=some (.ptr h.n 0)/\tm.get 2=some (.ptr (h.n+1) 0)/\tm.get 3=some (g.v)/\tm.get 4=some (.ptr p4 0)/\tm.get 5=some (iv k)/\Fr h4.n h4 hg/\h7.n<=hg.n/\hg.t.get p4=some (.cells [jI,zb] 34)/\xK hg h4.n zb es/\PB w G hg h7.n k es) (fun st=>(w.bnds w.m.cells.length).length - (match st.tm.get 5 with|some (.val (.int _ n))=>n.toNat|_=>0)) ?_ ?_
 ·rintro st ⟨k,hg,es,tm,rfl,hkA,g1,g2,g3,g4,g5,fg,lg,pg,og,pb⟩;have muA:=g5;refine qB fun K hn hp=> ?_;simp only [sy.1,rE,reduceIte,rL,syw.1,syb.down,qR,g4,lenb,g5,pg];apply hn;by_cases hk:k<(w.bnds w.m.cells.length).length
  ·refine qV (by simp only [sy.1,rE,reduceIte,hk]) ?_;refine qC fun KB B1 B2 B3 B4 B5=> ?_;obtain ⟨x,hx⟩: ∃x,(w.bnds w.m.cells.length)[k]? =some x:=⟨_,xZP hk⟩;obtain ⟨e,he⟩: ∃e,es[k]? =some e:=⟨_,xZP (by rw [pb.len];exact hk)⟩;obtain ⟨a1,a2,_,a4⟩:=pb.at_ k e x he hx;have a4:=a4 (xZY _);obtain ⟨b,⟨e1,_,_,e4⟩,j1,_⟩:=OwnSl.elt og he xt;obtain ⟨hb1,hb2⟩:=lb e1;have hxm:=List.mem_of_getElem? hx;obtain ⟨xf,xw⟩:=x;simp only at a1 a2;have hx12:xf+xw<=w.m.cells.length/\1<=xw/\xw<=3:=by
    obtain ⟨f,hf,hm⟩:=List.mem_flatMap.1 hxm;obtain ⟨y,hy,e⟩:=xZN.1 (show (xf,xw)∈(w.wn.filter fun x=>decide (f+x<=w.m.cells.length)).map fun x=>(f,x) from hm);obtain ⟨hy1,hy2⟩:=List.mem_filter.1 hy;have:=his.wn_bd hy1;have:=of_decide_eq_true hy2;simp only [Prod.mk.injEq] at e;omega
   have hs0:es.set k (e.1,e.2.1,jI)=es:=by
    rw [<-a4];exact List.set_getElem?_self' he
   refine qA fun K hn hp=> ?_;simp only [sy.1,rL];apply hn;refine qA fun K hn hp=> ?_;simp only [sy.1,rL];apply hn;refine qY fun KD D1 D2 D3 D4 D5=> ?_;refine qI (sok xt) (fun st=> ∃(c:Nat) (hJ:Hp) (z:AV) (pv:Int) (tm:T AV),st=⟨tm,104,hJ,[]⟩/\c<=w.m.W/\tm.get 1=some (.ptr h.n 0)/\tm.get 2=some (.ptr (h.n+1) 0)/\tm.get 3=some (g.v)/\tm.get 4=some (.ptr p4 0)/\tm.get 5=some (iv k)/\tm.get 6=some (iv pv)/\tm.get 7=some (iv c)/\Fr h4.n h4 hJ/\hg.n<=hJ.n/\(∀b',h7.n<=b'->b'<hg.n->hJ.t.get b'=hg.t.get b')/\hJ.t.get p4=some (.cells [jI,zb] 34)/\hJ.t.get b=some (.cells (flB (es.set k (e.1,e.2.1,z))) 52)/\OwnSl hJ hg.n 1 3 z c (ivs (dfl (w.En G xf xw) c))/\pv=w.En G xf xw c) (fun st=>w.m.W - (match st.tm.get 7 with|some (.val (.int _ n))=>n.toNat|_=>0)) ?_ ?_
   ·rintro st ⟨c,hJ,z,pv,tm,rfl,hkD,g1,g2,g3,g4,g5,g6,g7,fJ,lJ,kJ,pJ,bJ,oJ,hpv⟩;have muD:=g7;have uJ:=(fJ.at_ h.n (.inl (by omega))).trans u4;have fJh:=f4h.trans fJ (by omega);have haJ:=ha.fr fJh (xZY _);have hgJ:=hg4.fr fJ (xZY _);refine qB fun K hn hp=> ?_;simp only [sy.1,rE,reduceIte,rL,rA,rD,g1,g7,uJ];refine cAS (kK xt hJ w.m haJ.m fun m3 hm3=> ?_);simp only [sy.1,rE,reduceIte,rL,qR];apply hn;by_cases hc:c<w.m.W
    ·refine qV (by simp only [sy.1,rE,reduceIte,hc]) ?_;refine qC fun KE E1 E2 E3 E4 E5=> ?_;have wc:IntKind.i64.wrap ((c:Int)+1)=((c+1:Nat):Int):=qE hc (by omega);obtain ⟨es',hes⟩: ∃es',es'=es.set k (e.1,e.2.1,z):=⟨_,rfl⟩;rw [<-hes] at bJ;have hke:=(xZX.1 he).1;have he':es'[k]? =some (e.1,e.2.1,z):=by rw [hes,xZL,if_pos rfl,if_pos hke]
     obtain ⟨q1,q2,q3⟩:=qBq he';simp only [a1,a2] at q1 q2 q3;refine qW (sok xt) 0 0 25 [(0,1),(9,0),(9,1),(13,0),(13,1),(15,0),(15,1),(19,0),(19,1)] (by kernel_rfl) fun K hn hp=> ?_;simp only [sy.1,rE,reduceIte,rL,rA,rD,syw.1,g1,uJ];refine cAS (kH xt (hJ.up m3) w.m (haJ.up (Nat.le_of_lt hm3)).m fun m5 hm5=> ?_);simp only [xZW] at hm5;simp only [sy.1,rE,reduceIte,rL,rA,syw.1,g7,hm5,Hp.up_up,wc];refine cAS (xZT (cutw_c xt (hJ.up m5) w (haJ.up (by omega)) his w.m.cells.length (c+1) (by omega) (by omega)) fun res hK hres=> ?_);obtain ⟨vc,rfl,hwK,fK,lK,onc⟩:=hres;simp only [xZW] at lK;have fJK:Fr hJ.n hJ hK:=((Fr.refl (xZY _)).up (m:=m5) (by omega)).trans fK (by simp only [xZW];omega);have uK:=(fJK.at_ h.n (.inl (by omega))).trans uJ;have pK:=(fJK.at_ p4 (.inl (by omega))).trans pJ;have bK:=(fJK.at_ b (.inl (by omega))).trans bJ;have his':=pM his vc w.m.cells.length (c+1);have hbn':=(qAW his vc w.m.cells.length (c+1)).trans hbn;simp only [sy.1,rE,reduceIte,rL,rA,syw.1,syb.down,g3,g4,g5,lK,pK,bK,j1,q1,q2];refine cAS (FnA.inc (xZT (rband_c xt hK (w.cutW vc w.m.cells.length (c+1)) hwK his' G hbn' g (hgJ.fr fJK (xZY _)) (cutW_gr his gok _ _ _) xf xw hx12.2.1 hx12.2.2) fun res hL0 hres=> ?_));obtain ⟨fL0,zL,rfl,ncL0⟩:=hres;obtain ⟨hL,hhL⟩: ∃hL,hL=hL0.up (hL0.n+1):=⟨_,rfl⟩;have fL:Fr hK.n hK hL:=by rw [hhL];exact fL0.up (Nat.le_succ _)
     have ltL:hK.n<hL.n:=by have:=fL0.lo;rw [hhL,xZW];omega
     rw [<-hhL];clear hhL fL0 ncL0;have eE:((w.cutW vc w.m.cells.length (c+1)).bandP G xf xw (w.cutW vc w.m.cells.length (c+1)).m.W).2=w.En G xf xw (c+1):=by
      rw [yO his,qC6 his vc w.m.vc];rfl
     rw [eE];have fJL:Fr hJ.n hJ hL:=fJK.trans fL (by omega);have pL:=(fL.at_ p4 (.inl (by omega))).trans pK;have bL:=(fL.at_ b (.inl (by omega))).trans bK;simp only [sy.1,rE,reduceIte,rL,rA,sv.1,syb.down,g1,uJ,pJ,bJ,ltL,q1,q2];apply hn;have bdE:=his.En_bd hbn xf xw;have ws:IntKind.i64.wrap (w.En G xf xw (c+1) - pv)=w.En G xf xw (c+1) - pv:=by
      have e1:=bdE c;have e2:=bdE (c+1);exact qF _ (by omega) (by omega)
     refine zH (fun tm=>tm.get 1=some (.ptr h.n 0)/\tm.get 2=some (.ptr (h.n+1) 0)/\tm.get 3=some g.v/\tm.get 4=some (.ptr p4 0)/\tm.get 5=some (iv k)/\tm.get 6=some (iv pv)/\tm.get 7=some (iv c)/\tm.get 9=some (iv (w.En G xf xw (c+1)))) ⟨by simp [xZZ,g1],by simp [xZZ,g2],by simp [xZZ,g3],by simp [xZZ,g4],by simp [xZZ,g5],by simp [xZZ,g6],by simp [xZZ,g7],by simp [xZZ]⟩ fun tm ht9=> ?_;clear g1 g2 g3 g4 g5 g6 g7;obtain ⟨g1,g2,g3,g4,g5,g6,g7,g9⟩:=ht9;have oL:OwnSl hL hg.n 1 3 z c (ivs (dfl (w.En G xf xw) c)):=oJ.fr fJL (xZY _);obtain ⟨hB,hhB,nB,sB,kB,fB⟩:=yG hL (.cells [iv (w.En G xf xw (c+1) - pv)] 3);have ek:({t:=hL.t.put (some (.cells [iv (w.En G xf xw (c+1) - pv)] 3)) hL.n,n:=hL.n+1}:Hp)=hB:=hhB.symm;clear hhB;obtain ⟨z',hC,r1,r2,r3,r4⟩:=OwnSl.append (P:=Tryz.prog) (xt:=xt) (m:=1) (by_:=8) (x:= .sl hL.n 0 1 1) (oL.fr fB (xZY _)) (by have:=fJL.le;omega) vX rfl tg3 rfl rfl vX rfl (vU (e:=3) sB rfl rfl) (by omega) rfl (by omega) (by omega);have bC:=(r3.at_ b (.inl (by omega))).trans ((fB.at_ b (.inl (by have:=fJL.le;omega))).trans bL);have pC:=(r3.at_ p4 (.inl (by omega))).trans ((fB.at_ p4 (.inl (by have:=fJL.le;omega))).trans pL);have efc:=fun (N:T AV->Hp->Prop) (tm:T AV) (d:Tmp)=>efK_ap (nt:=104) (tm:=tm) (n:=hL.n+1) (d:=d) (N:=N) (v:=z') (h':=hC) (by omega);have hlb:k*3+2+1<=(flB es').length:=by rw [qCc];have:=(xZX.1 he').1;omega
     refine qFb (sok xt) 14 [12] [(13,[12])] [(1,1)] (by kernel_rfl) fun K hn hp=> ?_;have oz':=r2.one;have cz':=r2.cells;simp only [sw.1,rE,reduceIte,rL,rA,syw.1,syb.down,g4,g5,g6,pL,bL,g9,syg.1,Bool.false_eq_true,j1,q3,ws,jJ,bs75,ek,r1,efc,pC,bC,hlb,oz',cz'];have hput:(flB es').take (k*3+2)++[z']++(flB es').drop (k*3+3)=flB (es.set k (e.1,e.2.1,z')):=by
      have e2:=flB_set he' z';rw [List.set_eq_take_append_cons_drop,if_pos (by omega)] at e2;rw [List.append_assoc,List.singleton_append,e2,hes,List.set_set]
     rw [hput];apply hn;obtain ⟨hD,hhD⟩: ∃hD:Hp,hD=hC.set b (.cells (flB (es.set k (e.1,e.2.1,z'))) 52):=⟨_,rfl⟩;have ehD:({t:=hC.t,n:=hC.n}:Hp).set b (.cells (flB (es.set k (e.1,e.2.1,z'))) 52)=hD:=hhD.symm;rw [ehD];have nD:hD.n=hC.n:=by rw [hhD];rfl
     have bD:hD.t.get b=some (.cells (flB (es.set k (e.1,e.2.1,z'))) 52):=by rw [hhD,xZV,xZZ,if_pos rfl]
     have kD: ∀x,x≠b->hD.t.get x=hC.t.get x:=fun x hx=>by rw [hhD,xZV,xZZ,if_neg hx]
     have lJL:=fJL.le;have fJC:Fr hg.n hJ hC:=(fJL.lower lJ).trans ((fB.lower (by omega)).trans r3 (xZY _)) (xZY _);have fD4:Fr h4.n h4 hD:=by rw [hhD];exact (fJ.trans fJC (by omega)).set hb1 (by omega) _
     clear hhD ehD;refine reg fun K hn hp=> ?_;simp only [sy.1,rE,reduceIte,rL,g9];apply hn;refine E1 _ ?_;refine reg fun K hn hp=> ?_;simp only [sy.1,rE,reduceIte,rL,g7,qE hc (show w.m.W<=9223372036854775807 by omega)];apply hn;refine ⟨⟨c+1,hD,z',w.En G xf xw (c+1),_,rfl,by omega,(by simp [xZZ,g1]),(by simp [xZZ,g2]),(by simp [xZZ,g3]),(by simp [xZZ,g4]),(by simp [xZZ,g5]),(by simp [xZZ]),(by simp [xZZ]),fD4,by omega,fun b' h1 h2=>(kD b' (by omega)).trans ((fJC.at_ b' (.inl (by omega))).trans (kJ b' h1 h2)),(kD p4 (by omega)).trans pC,bD,?_,rfl⟩,by simpa [xZZ,muD] using (by omega:w.m.W - (c+1)<w.m.W - c)⟩;have e3:ivs (dfl (w.En G xf xw) (c+1))=ivs (dfl (w.En G xf xw) c)++[iv (w.En G xf xw (c+1) - pv)]:=by
      rw [qAU,<-hpv];simp [ivs]
     rw [e3];exact r2.keep (by omega) (fun x h1 h2=>kD x (by omega))
    ·refine qU (by simp only [sy.1,rE,reduceIte,hc]) ?_;refine qG (D2 _ (B1 _ ?_));obtain rfl:c=w.m.W:=by omega
     refine reg fun K hn hp=> ?_;simp only [sy.1,rE,reduceIte,rL,g5,qE hk (show (w.bnds w.m.cells.length).length<=9223372036854775807 by omega)];apply hn;refine ⟨⟨k+1,hJ.up m3,es.set k (e.1,e.2.1,z),_,rfl,by omega,(by simp [xZZ,g1]),(by simp [xZZ,g2]),(by simp [xZZ,g3]),(by simp [xZZ,g4]),(by simp [xZZ]),fJ.up (by omega),by simp only [xZW];omega,pJ,.inr ⟨b,by rw [e1,List.length_set],hb1,by simp only [xZW];omega,bJ,qCc _⟩,?_⟩,by simpa [xZZ,muA] using (by omega:(w.bnds w.m.cells.length).length - (k+1)<(w.bnds w.m.cells.length).length - k)⟩;refine PB.done (pb.keep (h':=hJ.up m3) (by simp only [xZW];omega) fun x h1 h2=>kJ x h1 h2) he hx ?_;have oU:=oJ.up (k:=m3) (by omega);rcases oU with q|⟨b',q1,q2,q3⟩
     ·exact .inl q
     ·exact .inr ⟨b',q1,by omega,q3⟩
   ·exact ⟨0,hg,jI,0,_,rfl,(by omega),(by simp [xZZ,g1]),(by simp [xZZ,g2]),(by simp [xZZ,g3]),(by simp [xZZ,g4]),(by simp [xZZ,g5]),(by simp [xZZ]),(by simp [xZZ]),fg,xZY _,fun _ _ _=>rfl,pg,by rw [hs0];exact e4,.inl ⟨rfl,rfl,rfl⟩,(his.En_zero G hx12.2.1 hx12.1).symm⟩
  ·refine qU (by simp only [sy.1,rE,reduceIte,hk]) ?_;refine qG (A2 _ ?_);obtain rfl:k=(w.bnds w.m.cells.length).length:=by omega
   clear hk;refine zH (fun tm=>tm.get 1=some (.ptr h.n 0)/\tm.get 2=some (.ptr (h.n+1) 0)/\tm.get 4=some (.ptr p4 0)) ⟨by simp [xZZ,g1],by simp [xZZ,g2],by simp [xZZ,g4]⟩ fun tm ht9=> ?_;clear g1 g2 g3 g4 g5;obtain ⟨g1,g2,g4⟩:=ht9;refine qA fun K hn hp=> ?_;simp only [sy.1,rL];apply hn;refine qB fun K hn hp=> ?_;simp only [sy.1,rL];apply hn;refine qC fun KD D1 D2 D3 D4 D5=> ?_;refine qI (sok xt) (fun st=> ∃(r:Nat) (hJ:Hp) (z:AV) (pv:Int) (tm:T AV),st=⟨tm,104,hJ,[]⟩/\r<=w.m.cells.length/\tm.get 1=some (.ptr h.n 0)/\tm.get 2=some (.ptr (h.n+1) 0)/\tm.get 4=some (.ptr p4 0)/\tm.get 10=some (iv pv)/\tm.get 11=some (iv r)/\Fr h4.n h4 hJ/\hg.n<=hJ.n/\(∀b',b'<hg.n->b'≠p4->hJ.t.get b'=hg.t.get b')/\hJ.t.get p4=some (.cells [z,zb] 34)/\OwnSl hJ hg.n 1 3 z r (ivs (dfl (w.Un G) r))/\pv=w.Un G r) (fun st=>w.m.cells.length - (match st.tm.get 11 with|some (.val (.int _ n))=>n.toNat|_=>0)) ?_ ?_
   ·rintro st ⟨r,hJ,z,pv,tm,rfl,hkD,g1,g2,g4,g10,g11,fJ,lJ,kJ,pJ,oJ,hpv⟩;have muD:=g11;have uJ:=(fJ.at_ h.n (.inl (by omega))).trans u4;have fJh:=f4h.trans fJ (by omega);have haJ:=ha.fr fJh (xZY _);refine qB fun K hn hp=> ?_;simp only [sy.1,rE,reduceIte,rL,rA,rD,g1,g11,uJ];refine cAS (kH xt hJ w.m haJ.m fun m3 hm3=> ?_);simp only [sy.1,rE,reduceIte,rL,qR];apply hn;by_cases hr:r<w.m.cells.length
    ·refine qV (by simp only [sy.1,rE,reduceIte,hr]) ?_;refine qC fun KE E1 E2 E3 E4 E5=> ?_;have wr:IntKind.i64.wrap ((r:Int)+1)=((r+1:Nat):Int):=qE hr (by omega);refine qW (sok xt) 0 0 12 [(0,1)] (by kernel_rfl) fun K hn hp=> ?_;simp only [sy.1,rE,reduceIte,rL,rA,rD,syw.1,g1,g11,uJ,wr];refine cAS (kK xt (hJ.up m3) w.m (haJ.up (Nat.le_of_lt hm3)).m fun m5 hm5=> ?_);simp only [xZW] at hm5;simp only [sy.1,rE,reduceIte,rL,rA,syw.1,hm5,Hp.up_up];refine cAS (xZT (cutw_c xt (hJ.up m5) w (haJ.up (by omega)) his (r+1) w.m.W (by omega) (by omega)) fun res hK hres=> ?_);obtain ⟨vc,rfl,hwK,fK,lK,onc⟩:=hres;simp only [xZW] at lK;have fJK:Fr hJ.n hJ hK:=((Fr.refl (xZY _)).up (m:=m5) (by omega)).trans fK (by simp only [xZW];omega);have his':=pM his vc (r+1) w.m.W;have hbn':=(qAW his vc (r+1) w.m.W).trans hbn;simp only [sy.1,rE,reduceIte,rL,rA,syw.1,lK];refine cAS (FnA.inc (xZT (rpack_c xt hK (w.cutW vc (r+1) w.m.W) hwK his' G hbn') fun res hL0 hres=> ?_));obtain ⟨fL0,zL,rfl,ncL0⟩:=hres;obtain ⟨hL,hhL⟩: ∃hL,hL=hL0.up (hL0.n+1):=⟨_,rfl⟩;have fL:Fr hK.n hK hL:=by rw [hhL];exact fL0.up (Nat.le_succ _)
     have ltL:hK.n<hL.n:=by have:=fL0.lo;rw [hhL,xZW];omega
     rw [<-hhL];clear hhL fL0 ncL0;have eE:((w.cutW vc (r+1) w.m.W).packP G (w.cutW vc (r+1) w.m.W).m.cells.length).2=w.Un G (r+1):=by
      have hl:(w.cutW vc (r+1) w.m.W).m.cells.length=w.m.cells.length:=v8 _ _ _;rw [hl,qGI his vc w.m.vc];rfl
     rw [eE];have fJL:Fr hJ.n hJ hL:=fJK.trans fL (by omega);have lJL:=fJL.le;have pL:=(fJL.at_ p4 (.inl (by omega))).trans pJ;simp only [sy.1,rE,reduceIte,rL,rA,sv.1,g1,uJ,ltL];apply hn;have bdE:=his.Un_bd hbn;have ws:IntKind.i64.wrap (w.Un G (r+1) - pv)=w.Un G (r+1) - pv:=by
      have e1:=bdE r;have e2:=bdE (r+1);exact qF _ (by omega) (by omega)
     refine zH (fun tm=>tm.get 1=some (.ptr h.n 0)/\tm.get 2=some (.ptr (h.n+1) 0)/\tm.get 4=some (.ptr p4 0)/\tm.get 10=some (iv pv)/\tm.get 11=some (iv r)/\tm.get 13=some (iv (w.Un G (r+1)))) ⟨by simp [xZZ,g1],by simp [xZZ,g2],by simp [xZZ,g4],by simp [xZZ,g10],by simp [xZZ,g11],by simp [xZZ]⟩ fun tm ht9=> ?_;clear g1 g2 g4 g10 g11;obtain ⟨g1,g2,g4,g10,g11,g13⟩:=ht9;have oL:OwnSl hL hg.n 1 3 z r (ivs (dfl (w.Un G) r)):=oJ.fr fJL (xZY _);obtain ⟨hB,hhB,nB,sB,kB,fB⟩:=yG hL (.cells [iv (w.Un G (r+1) - pv)] 3);obtain ⟨z',hC,r1,r2,r3,r4⟩:=OwnSl.append (P:=Tryz.prog) (xt:=xt) (m:=1) (by_:=8) (x:= .sl hL.n 0 1 1) (oL.fr fB (xZY _)) (by omega) vX rfl tg3 rfl rfl vX rfl (vU (e:=3) sB rfl rfl) (by omega) rfl (by omega) (by omega);have pC:=(r3.at_ p4 (.inl (by omega))).trans ((fB.at_ p4 (.inl (by omega))).trans pL);have oz':=r2.one;have cz':=r2.cells;refine qA fun K hn hp=> ?_;simp only [sw.1,rE,reduceIte,rL,rA,rD,syb.down,g4,g10,pL,g13,ws,jJ,bs75,<-hhB,r1,pC,oz',cz'];apply hn;clear hhB;obtain ⟨hD,hhD⟩: ∃hD:Hp,hD=hC.set p4 (.cells [z',zb] 34):=⟨_,rfl⟩;have nD:hD.n=hC.n:=by rw [hhD];rfl
     have pD:hD.t.get p4=some (.cells [z',zb] 34):=by rw [hhD,xZV,xZZ,if_pos rfl]
     have kD: ∀x,x≠p4->hD.t.get x=hC.t.get x:=fun x hx=>by rw [hhD,xZV,xZZ,if_neg hx]
     have fJC:Fr hg.n hJ hC:=(fJL.lower lJ).trans ((fB.lower (by omega)).trans r3 (xZY _)) (xZY _);have fD4:Fr h4.n h4 hD:=by rw [hhD];exact (fJ.trans fJC (by omega)).set (by omega) (by omega) _
     rw [<-hhD];clear hhD;refine reg fun K hn hp=> ?_;simp only [sy.1,rE,reduceIte,rL,g13];apply hn;refine E1 _ ?_;refine reg fun K hn hp=> ?_;simp only [sy.1,rE,reduceIte,rL,g11,qE hr (show w.m.cells.length<=9223372036854775807 by omega)];apply hn;refine ⟨⟨r+1,hD,z',w.Un G (r+1),_,rfl,by omega,(by simp [xZZ,g1]),(by simp [xZZ,g2]),(by simp [xZZ,g4]),(by simp [xZZ]),(by simp [xZZ]),fD4,by omega,fun b' h1 h2=>(kD b' h2).trans ((fJC.at_ b' (.inl h1)).trans (kJ b' h1 h2)),pD,?_,rfl⟩,by simpa [xZZ,muD] using (by omega:w.m.cells.length - (r+1)<w.m.cells.length - r)⟩;have e3:ivs (dfl (w.Un G) (r+1))=ivs (dfl (w.Un G) r)++[iv (w.Un G (r+1) - pv)]:=by
      rw [qAU,<-hpv];simp [ivs]
     rw [e3];exact r2.keep (by omega) (fun x h1 h2=>kD x (by omega))
    ·refine qU (by simp only [sy.1,rE,reduceIte,hr]) ?_;refine qG (D2 _ ?_);obtain rfl:r=w.m.cells.length:=by omega
     have vJ:=(fJ.at_ (h.n+1) (.inl (by omega))).trans v4;have ozz:=oJ.one;obtain ⟨h9,hh9⟩: ∃h9:Hp,h9=(hJ.up m3).set (h.n+1) (.cells [z,zb] 34):=⟨_,rfl⟩;have n9:h9.n=m3:=by rw [hh9];rfl
     have s9:h9.t.get (h.n+1)=some (.cells [z,zb] 34):=by rw [hh9,xZV,xZZ,if_pos rfl]
     have k9: ∀x,x≠h.n+1->h9.t.get x=hJ.t.get x:=fun x hx=>by rw [hh9,xZV,xZZ,if_neg hx];rfl
     have f9:Fr h.n h h9:=by rw [hh9];exact (fJh.up (by omega)).set (by omega) (by simp only [xZW];omega) _
     refine qA fun K hn hp=> ?_;simp only [sw.1,rE,reduceIte,rL,rA,syw.1,syb.down,g2,g4,pJ,vJ,ozz,onb,<-hh9];apply hn;clear hh9;refine qD (end_c res57 (v:= .agg [z,zb]) ?_ ⟨z,zb,rfl,?_,?_,f9⟩)
     ·simp only [sy.1,rE,reduceIte,rA,syb.down,g2,s9]
     ·have o9:OwnSl h9 hg.n 1 3 z w.m.cells.length (ivs (dfl (w.Un G) w.m.cells.length)):=oJ.keep (by omega) fun x h1 h2=>k9 x (by omega);exact Nums.own (by rw [Wk.prows,bG];exact o9) (by rw [Wk.prows,bG];omega)
     ·have og9:xK h9 h4.n zb es:=by
       rcases og with q|⟨b,q1,q2,q3,q4,q5⟩
       ·exact .inl q
       ·refine .inr ⟨b,q1,q2,by omega,?_,q5⟩;obtain ⟨c1,c2⟩:=lb q1;rw [k9 b (by omega),kJ b (by omega) (by omega)];exact q4
      exact PB.bat his (pb.keep (h':=h9) (by omega) fun x h1 h2=>(k9 x (by omega)).trans (kJ x h2 (by omega))) og9
   ·exact ⟨0,hg,jI,0,_,rfl,(by omega),(by simp [xZZ,g1]),(by simp [xZZ,g2]),(by simp [xZZ,g4]),(by simp [xZZ]),(by simp [xZZ]),fg,xZY _,fun _ _ _=>rfl,pg,.inl ⟨rfl,rfl,rfl⟩,(his.Un_zero G).symm⟩
 ·exact ⟨0,h7,fr0 (w.bnds w.m.cells.length),_,rfl,(by omega),(by simp [xZZ,g1]),(by simp [xZZ,g2]),(by simp [xZZ,g3]),(by simp [xZZ,g4]),(by simp [xZZ]),f47,xZY _,s7,ob7,PB.zero⟩
end Go.Proofs.Kn
