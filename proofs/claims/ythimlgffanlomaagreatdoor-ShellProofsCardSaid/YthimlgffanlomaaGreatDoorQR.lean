/- Parts. -/
import Derived.Test.YthimlgffanlomaaGreatDoorQP
import Derived.Test.YthimlgffanlomaaGreatDoorQD
set_option linter.all false
open Nat renaming reduceEqDiff → rE, reduceLeDiff → rD, reduceAdd → rA, reduceMul → rM, reduceLT → rL
open Go.Ev.T renaming get_put → xZZ
open List renaming getElem?_range → xZY, getElem?_map → xZW, length_map → xZV, getD_eq_getElem?_getD → xZT, take_of_length_le → xZS, mem_map → xZR, mem_map_of_mem → xZQ, length_take → xZO, all_eq_true → xZN
open Nat renaming le_refl → xZX, le_succ → xZP
open Bool renaming and_eq_true → xZU
namespace Go.Proofs.Kn
open Go Go.Ev
set_option maxRecDepth 100000
set_option maxHeartbeats 4000000
theorem ft36 (xt:Xt):(SE xt).ft.get 50=some Tryz.f50:=by kernel_rfl
theorem res36:Tryz.f50.results.toList=[.tmp 4]:=by kernel_rfl
def xQ (hi:Bool) (x:Int×Int):Int:=if hi then x.2 else x.1
def yJ (hi:Bool) (F:Nat->Nat->Int×Int) (R C:Nat):List (List Int):=(List.range R).map fun r=>(List.range C).map fun c=>xQ hi (F r c)
theorem bs75 (h:Hp) (n:Int):j0 tb h 31 1 [(0,iv n)]=some (.sl h.n 0 1 1,h.new (.cells [iv n] 3)):=by kernel_rfl
theorem bs69 (h:Hp) (v:AV) (hv:cellsOf v=[v]):j0 tb h 100 1 [(0,v)]=some (.sl h.n 0 1 1,h.new (.cells [v] 31)):=bs_of (sz:=1) (zs:=[.slice none 0 0]) tg69 rfl vX rfl rfl (by omega) (by omega) (by
 simp only [uX,hv];rfl)
def ivs (l:List Int):List AV:=l.map fun x=>iv x
theorem qEv (l:List Int):ivs l=((l.map Kn.c1).flatten).map .val:=by
 induction l with
 |nil=>rfl
 |cons x l ih=>simp only [ivs,List.map_cons] at ih ⊢;rw [ih];rfl
theorem own_row {xt:Xt} {h:Hp} {N:Nat} {v:AV} {l:List Int} (o:OwnSl h N 1 3 v l.length (ivs l)):RowAt xt h 1 v (l.map Kn.c1):=by
 rw [qEv] at o;exact OwnSl.row (N:=N) (e:=3) (fun c hc=>by obtain ⟨x,_,rfl⟩:=xZR.1 hc;rfl) (by omega) (by rw [xZV];exact o)
theorem ends_c (xt:Xt) (h:Hp) (N M R C:Nat) (v:AV) (F:Nat->Nat->Int×Int) (hs:SG h N M v R C F) (hM:M<=h.n) (hR:R<=100) (hC:C<=100) (b:Bool):
  FnA (SE xt) 50 [v,.val (.bool b)] h (fun res h'=> ∃w,res= .ret w/\Fr h.n h h'/\LRows xt h' h.n 1 31 w ((yJ b F R C).map fun l=>l.map Kn.c1)):=by
 refine FnA.walk (sok xt) (ft36 xt) rfl 51 rfl ?_;have hlen:=hs.len;refine qA fun K hn hp=> ?_;simp only [sw.1,rL];apply hn;refine qA fun K hn hp=> ?_;simp only [sy.1,rL];apply hn;refine qB fun K hn hp=> ?_;simp only [sy.1,rL];apply hn;refine qC fun KA A1 A2 A3 A4 A5=> ?_;refine qI (sok xt) (fun st=> ∃(i:Nat) (w:AV) (hc:Hp) (tm:T AV),st=⟨tm,51,hc,[]⟩/\i<=R/\tm.get 0=some (v)/\tm.get 1=some (.val (.bool b))/\tm.get 5=some (w)/\tm.get 6=some (iv i)/\Fr h.n h hc/\LRows xt hc h.n 1 31 w (((yJ b F R C).take i).map fun l=>l.map Kn.c1)) (fun st=>R - (match st.tm.get 6 with|some (.val (.int _ n))=>n.toNat|_=>0)) ?_ ?_
 ·rintro st ⟨i,w,hc,tm,rfl,hkA,g0,g1,g5,g6,fc,rows⟩;have muA:=g6;refine qB fun K hn hp=> ?_;simp only [sy.1,rE,reduceIte,rL,syw.1,hlen,qR,g0,g6];apply hn;by_cases hi:i<R
  ·refine qV (by simp only [sy.1,rE,reduceIte,hi]) ?_;refine qC fun KB B1 B2 B3 B4 B5=> ?_;refine qA fun K hn hp=> ?_;simp only [sy.1,rL];apply hn;refine qB fun K hn hp=> ?_;simp only [sy.1,rL];apply hn;obtain ⟨l,hl⟩: ∃l,l=(List.range C).map fun c=>xQ b (F i c):=⟨_,rfl⟩;have hll:l.length=C:=by rw [hl];simp
   have hlc: ∀c,c<C->l[c]? =some (xQ b (F i c)):=fun c hc=>by rw [hl,xZW,xZY hc];rfl
   refine qC fun KD D1 D2 D3 D4 D5=> ?_;refine qI (sok xt) (fun st=> ∃(j:Nat) (x:AV) (hd:Hp) (tm:T AV),st=⟨tm,51,hd,[]⟩/\j<=C/\tm.get 0=some (v)/\tm.get 1=some (.val (.bool b))/\tm.get 5=some (w)/\tm.get 6=some (iv i)/\tm.get 7=some (x)/\tm.get 8=some (iv j)/\Fr hc.n hc hd/\OwnSl hd hc.n 1 3 x j (ivs (l.take j))) (fun st=>C - (match st.tm.get 8 with|some (.val (.int _ n))=>n.toNat|_=>0)) ?_ ?_
   ·rintro st ⟨j,x,hd,tm,rfl,hkD,g0,g1,g5,g6,g7,g8,fd,own⟩;have muD:=g8;have hsd:=(hs.fr fc hM).fr fd (by have:=fc.le;omega);obtain ⟨B,bb,rws,z1,z2,z3,z4,z5,z6,z7,z8,z9,_⟩:=hsd.at_ hi;have z10:=fun h'=>sgl55 (C:=C) bb h';refine qB fun K hn hp=> ?_;simp only [sy.1,rE,reduceIte,rL,syw.1,qR,g0,g6,g8,z1,z2,z3,z10];apply hn;by_cases hj:j<C
    ·refine qV (by simp only [sy.1,rE,reduceIte,hj]) ?_;refine qC fun KE E1 E2 E3 E4 E5=> ?_;have x1:=qBe (C:=C) (b:=bb) hj;have x2:=uM (F i) hj;have x3:=gJ (F i) hj;refine qA fun K hn hp=> ?_;simp only [sy.1,rE,reduceIte,rL,g0,g6,g8,z1,z2,z3,z4,x1,x2];apply hn;refine qB fun K hn hp=> ?_;simp only [sy.1,rE,reduceIte,rL,g1];apply hn;have step: ∀(tm:T AV),tm.get 0=some v->tm.get 1=some (.val (.bool b))->tm.get 5=some w->tm.get 6=some (iv i)->tm.get 7=some x->tm.get 8=some (iv j)->tm.get 9=some (iv (xQ b (F i j)))-> ∃(x':AV) (h7:Hp),qT Tryz.prog tb xt .append [31,31] [x,.sl hd.n 0 1 1] (hd.new (.cells [iv (xQ b (F i j))] 3))=some (x',h7)/\Fr hc.n hc h7/\OwnSl h7 hc.n 1 3 x' (j+1) (ivs (l.take (j+1))):=by
      intro tm _ _ _ _ _ _ _;have hlo:=fd.lo;obtain ⟨h7,p1,p2,p3,p4,p5⟩:=(own.new (.cells [iv (xQ b (F i j))] 3)).append2 (P:=Tryz.prog) (xt:=xt) (x:= .sl hd.n 0 1 1) (m:=1) (cz:=[iv (xQ b (F i j))]) (by simp only [Hp.new_n];omega) vX rfl tg3 rfl (show te3.bytes=8 from rfl) vX rfl (vU (e:=3) (uI _ _) rfl rfl) (by omega) rfl (by omega) (by omega);refine ⟨_,h7,p1,(fd.new _).trans p3 (xZX _),?_⟩;have:ivs (l.take (j+1))=ivs (l.take j)++[iv (xQ b (F i j))]:=by
       rw [List.take_succ,hlc j hj];simp [ivs]
      rw [this];exact p2
     rcases Bool.eq_false_or_eq_true b with hb|hb
     ·refine qX (by simp only [sy.1,rE,reduceIte,hb]) ?_;refine qA fun K hn hp=> ?_;simp only [sy.1,rE,reduceIte,rL,g0,g6,g8,z1,z2,z3,z4,x1,x3];apply hn;obtain ⟨x',h7,p1,p2,p3⟩:=step ((((((((T.e.put (some v) 0).put (some (.val (.bool b))) 1).put (some w) 5).put (some (iv i)) 6).put (some x) 7).put (some (iv j)) 8).put (some (iv (xQ b (F i j)))) 9)) (by simp [xZZ]) (by simp [xZZ]) (by simp [xZZ]) (by simp [xZZ]) (by simp [xZZ]) (by simp [xZZ]) (by simp [xZZ]);have he:xQ b (F i j)=(F i j).2:=by rw [hb];rfl
      rw [he] at p1;refine reg fun K hn hp=> ?_;simp only [sy.1,rE,reduceIte,rL,g7,jJ,bs75,p1];refine hn _ _ (E1 _ ?_);refine reg fun K hn hp=> ?_;simp only [sy.1,rE,reduceIte,rL,g8,qE hj (show C<=9223372036854775807 by omega)];apply hn;refine ⟨⟨j+1,x',h7,_,rfl,by omega,(by simp [xZZ,g0]),(by simp [xZZ,g1]),(by simp [xZZ,g5]),(by simp [xZZ,g6]),(by simp [xZZ]),(by simp [xZZ]),p2,p3⟩,by simpa [xZZ,muD] using (by omega:C - (j+1)<C - j)⟩
     ·refine jL (by simp only [sy.1,rE,reduceIte,hb]) ?_;obtain ⟨x',h7,p1,p2,p3⟩:=step ((((((((T.e.put (some v) 0).put (some (.val (.bool b))) 1).put (some w) 5).put (some (iv i)) 6).put (some x) 7).put (some (iv j)) 8).put (some (iv (xQ b (F i j)))) 9)) (by simp [xZZ]) (by simp [xZZ]) (by simp [xZZ]) (by simp [xZZ]) (by simp [xZZ]) (by simp [xZZ]) (by simp [xZZ]);have he:xQ b (F i j)=(F i j).1:=by rw [hb];rfl
      rw [he] at p1;refine reg fun K hn hp=> ?_;simp only [sy.1,rE,reduceIte,rL,g7,jJ,bs75,p1];refine hn _ _ (E1 _ ?_);refine reg fun K hn hp=> ?_;simp only [sy.1,rE,reduceIte,rL,g8,qE hj (show C<=9223372036854775807 by omega)];apply hn;refine ⟨⟨j+1,x',h7,_,rfl,by omega,(by simp [xZZ,g0]),(by simp [xZZ,g1]),(by simp [xZZ,g5]),(by simp [xZZ,g6]),(by simp [xZZ]),(by simp [xZZ]),p2,p3⟩,by simpa [xZZ,muD] using (by omega:C - (j+1)<C - j)⟩
    ·refine qU (by simp only [sy.1,rE,reduceIte,hj]) ?_;have hjC:j=C:=by omega
     rw [hjC,xZS (by omega)] at own;refine qG (D2 _ ?_);have own':OwnSl hd hc.n 1 3 x l.length (ivs l):=by rw [hll];exact own
     have hrow:=own_row (xt:=xt) own';have hlo:=fd.lo;have hlo':=fc.lo;have onex:=own.one;have cellx:=own.cells;have hap:xR w x:=fun bk off n s hx off' n' s' hw=>by
      have h1:=(rows.lt hw).2;rcases own with ⟨_,_,rfl⟩|⟨bk',rfl,q2,_⟩
      ·cases hx
      ·cases hx;omega
     obtain ⟨v',h7,y1,y2,y3,y4,_⟩:=((rows.fr fd (xZX _)).new (.cells [x] 31)).append (P:=Tryz.prog) (a:=x) (x:= .sl hd.n 0 1 1) (l:=l.map Kn.c1) (by simp only [Hp.new_n];omega) tg69 rfl vX rfl (show te31.bytes=24 from rfl) tg69 rfl (vU (e:=31) (uI _ _) rfl (by simp [onex])) (hrow.new _) hap (by simp only [xZV,xZO];omega) (by simp only [xZV,xZO];omega);have bs:=bs69 hd x cellx;refine reg fun K hn hp=> ?_;simp only [sy.1,rE,reduceIte,rL,g5,g7,jJ,bs,y1];refine hn _ _ (B1 _ ?_);refine reg fun K hn hp=> ?_;simp only [sy.1,rE,reduceIte,rL,g6,qE hi (show R<=9223372036854775807 by omega)];apply hn;refine ⟨⟨i+1,v',h7,_,rfl,by omega,(by simp [xZZ,g0]),(by simp [xZZ,g1]),(by simp [xZZ]),(by simp [xZZ]),(fc.trans (fd.new _) (by omega)).trans y3 (xZX _),?_⟩,by simpa [xZZ,muA] using (by omega:R - (i+1)<R - i)⟩;have e1:(yJ b F R C)[i]? =some l:=by rw [yJ,xZW,xZY hi,hl];rfl
     rw [List.take_succ,e1];simpa using y2
   ·exact ⟨0,_,hc,_,rfl,(by omega),(by simp [xZZ,g0]),(by simp [xZZ,g1]),(by simp [xZZ,g5]),(by simp [xZZ,g6]),(by simp [xZZ]),(by simp [xZZ]),Fr.refl (xZX _),OwnSl.nil⟩
  ·refine qU (by simp only [sy.1,rE,reduceIte,hi]) ?_;have hiR:i=R:=by omega
   rw [hiR,xZS (by simp [yJ])] at rows;refine qG (A2 _ ?_);refine qA fun K hn hp=> ?_;simp only [sy.1,rE,reduceIte,rL,g5];apply hn;refine qD (qK res36 ⟨w,?_,fc,rows⟩);simp [xZZ]
 ·exact ⟨0,_,h,_,rfl,(by omega),(by simp [xZZ]),(by simp [xZZ]),(by simp [xZZ]),(by simp [xZZ]),Fr.refl (xZX _),LRows.nil⟩
end Go.Proofs.Kn
noncomputable section
namespace Go.Ev
theorem vF {P:Program} {α β:Type}: ∀(s:Sem α) (f:α->Sem β),qQ P (s>>=f)=(qQ P s).bind (fun a=>qQ P (f a))
 | .pure a,f=>rfl
 | .program k,f=>by show qQ P ((k P)>>=f)=_;rw [vF (k P) f];rfl
 | .mark m k,f=>by show qQ P (k>>=f)=_;rw [vF k f];rfl
 | .load _ _ _,_=>rfl
 | .store _ _ _ _,_=>rfl
 | .new _ _,_=>rfl
 | .shape _ _,_=>rfl
 | .freeze _ _ _,_=>rfl
 | .frozen _ _,_=>rfl
 | .getObj _ _,_=>rfl
 | .setObj _ _ _,_=>rfl
 | .choose _ _,_=>rfl
 | .sys _ _,_=>rfl
 | .halt _,_=>rfl
theorem zK {P:Program} {α:Type} (a:α):qQ P (pure a:Sem α)=some a:=rfl
theorem xB {P:Program} {α:Type} (c:Prop) [Decidable c] (a b:Sem α):qQ P (if c then a else b)=if c then qQ P a else qQ P b:=by split<;>rfl
theorem pV {P:Program}:qQ P program=some P:=rfl
end Go.Ev
namespace Go.Proofs.Kn
open Go Go.Ev
theorem eqib (d:Nat) (t:TypeId) (ht:qQ Tryz.prog (underlying t)=some .bool) (a b:Bool):qQ Tryz.prog (Op.equalIn (d+1) t (.bool a) (.bool b))=some (a==b):=by
 rw [Op.equalIn];simp only [vF,ht,Option.bind_some,zK]
end Go.Proofs.Kn
end
namespace Go.Proofs.Kn
open Go Go.Ev
set_option maxRecDepth 100000
set_option maxHeartbeats 4000000
theorem _root_.Go.Ev.FnA.inc {E:Env} {f:FuncId} {args:List AV} {h:Hp} {K:KP} (hc:FnA E f args h (fun r h'=>K r (h'.up (h'.n+1)))):FnA E f args h K:=by
 obtain ⟨r,h',h1,h2⟩:=hc;exact ⟨r,_,h1.bump (xZP _),h2⟩
theorem gM (b:Bool) (F:Nat->Nat->Int×Int) (R C:Nat):(yJ b F R C).length=R:=by simp [yJ]
theorem gL (b:Bool) (F:Nat->Nat->Int×Int) {R C r:Nat} (hr:r<R):(yJ b F R C).getD r []=(List.range C).map fun c=>xQ b (F r c):=by
 rw [xZT,yJ,xZW,xZY hr];rfl
theorem ends_at {xt:Xt} {h:Hp} {N:Nat} {w:AV} {b:Bool} {F:Nat->Nat->Int×Int} {R C:Nat} (rows:LRows xt h N 1 31 w ((yJ b F R C).map fun l=>l.map Kn.c1)) (hR:R<=100) (hC:C<=100):(⟨w,yJ b F R C⟩:Gr).At xt h:=by
 refine ⟨rows.grid,by simp only [gM];omega,fun l hl=> ?_⟩;simp only [yJ,xZR] at hl;obtain ⟨r,_,rfl⟩:=hl;simp only [xZV,List.length_range];omega
theorem ft32 (xt:Xt):(SE xt).ft.get 49=some Tryz.f49:=by kernel_rfl
theorem res32:Tryz.f49.results.toList=[.tmp 2]:=by kernel_rfl
def Mp.rthick (m:Mp):Th.Grid:=Th.thickR m.T m.J (m.W - 1) m.F0 (m.gs.map gg) m.cells.length (m.W+1)
def Mp.rposs (m:Mp):Bool:=xL m ⟨default,yJ false m.rthick m.cells.length m.W⟩
theorem rposs_c (xt:Xt) (h:Hp) (m:Mp) (ha:m.At xt h) (hm:m.Is m.cells.length m.W) {K:KP} (hk: ∀n,h.n<n->K (.ret (.val (.bool m.rposs))) (h.up n)):FnA (SE xt) 49 [m.av] h K:=by
 refine FnA.calm ?_ hk;clear hk K;refine FnA.walk (sok xt) (ft32 xt) rfl 8 rfl ?_;obtain ⟨o1,o2,o3,o4,o5⟩:=ha.wk.ones;have hR6:=hm.r6;have hC8:=hm.c8;refine qA fun K hn hp=> ?_;simp only [sw.1,reduceIte,rL];apply hn;obtain ⟨h1,hh1,nh1,sh1,_,fbh1⟩:=nwE h (.cells m.cs 27);rw [<-hh1];have fh1:=fbh1;have ha1:=ha.fr fh1 (xZX _);refine qW (sok xt) 0 0 4 [(0,1),(0,2)] (by kernel_rfl) fun K hn hp=> ?_;simp only [sy.1,rE,reduceIte,rL,rA,syw.1,sh1];refine cAS (FnA.mono (qAv xt h1 m ha1 m.cells.length m.W hm rfl) fun res h2 hres=> ?_);obtain ⟨v,M,rfl,f2,sg,m1,m2⟩:=hres;have g2:h1.n<h2.n:=by omega
 have q2:=(f2.at_ h.n (.inl (by omega))).trans sh1;simp only [sy.1,rE,reduceIte,rL,rA,syw.1,g2];refine cAS (FnA.inc (FnA.mono (ends_c xt h2 _ M _ _ v _ sg m2 (by omega) (by omega) false) fun res h3 hres=> ?_));obtain ⟨w,rfl,f3,rows⟩:=hres;obtain ⟨h4,hh4⟩: ∃h4,h4=h3.up (h3.n+1):=⟨_,rfl⟩;have f3':=f3.le;have g3:h2.n<h4.n:=by rw [hh4,Hp.up_n];omega
 have f4:Fr h2.n h2 h4:=by rw [hh4];exact f3.up (xZP _)
 have q4:=(f4.at_ h.n (.inl (by omega))).trans q2;have rows4:LRows xt h4 h2.n 1 31 w ((yJ false m.rthick m.cells.length m.W).map fun l=>l.map Kn.c1):=by rw [hh4];exact rows.up (xZP _)
 rw [<-hh4];simp only [sy.1,rE,reduceIte,rL,rA,syw.1,g3,q2,q4];have fr4:Fr h.n h h4:=(fh1.trans f2 (by omega)).trans f4 (by omega);have ga:=ends_at rows4 (by omega) (by omega);refine cAS (rfits_c xt h4 m (ha.fr fr4 (xZX _)) ⟨w,yJ false m.rthick m.cells.length m.W⟩ ga m.cells.length m.W hm rfl (gM _ _ _ _) (fun r hr=>by rw [gL _ _ hr];simp) fun n5 hn5=> ?_);simp only [sy.1,rE,reduceIte,rL];refine hn _ _ (qD (qK res32 ⟨?_,fr4.up (Nat.le_of_lt hn5)⟩));have:xL m ⟨w,yJ false m.rthick m.cells.length m.W⟩=m.rposs:=rfl;rw [this];simp [xZZ]
structure Mp.Truth (m:Mp) (R C:Nat) (t:Nat->Nat->Int):Prop where
 cell: ∀r,r<R-> ∀c,c<C->(m.cell r c=1->t r c=0)/\(¬m.cell r c=1->0<=t r c/\t r c<=60)
 row: ∀r,r<R->Th.True1 m.T (m.J r) (t r) (C - 1)
 gs: ∀x∈m.gs,x.2.2.1 - x.2.2.2<=t x.1.toNat x.2.1.toNat/\t x.1.toNat x.2.1.toNat<=x.2.2.1+x.2.2.2
def Gr.t (g:Gr):Nat->Nat->Int:=fun r c=>(g.ll.getD r []).getD c 0
theorem yY {p:Nat->Bool} {n:Nat}:(List.range n).all p=true↔ ∀k,k<n->p k=true:=by
 rw [xZN];exact ⟨fun h k hk=>h k (List.mem_range.2 hk),fun h k hk=>h k (List.mem_range.1 hk)⟩
theorem J_iff {m:Mp} {r c:Nat}:m.J r c=true↔ ¬m.cell r c=1/\ ¬m.cell r (c+1)=1:=by
 simp [Mp.J]
theorem qGn {m:Mp} {R C:Nat} (hm:m.Is R C) (hW:m.W=C) (g:Gr):xL m g=true↔m.Truth R C g.t:=by
 have hR:=hm.hR;simp only [xL,xZU,gY,yY,xZN (l:=m.gs)];rw [hR,hW];have key: ∀r,r<R->((∀c,c<C->yK m (g.ll.getD r []) r c=true)↔(∀c,c<C->(m.cell r c=1->g.t r c=0)/\(¬m.cell r c=1->0<=g.t r c/\g.t r c<=60))/\Th.True1 m.T (m.J r) (g.t r) (C - 1)):=fun r hr=>by
  have e: ∀c,c<C->(yK m (g.ll.getD r []) r c=true↔(m.cell r c=1->g.t r c=0)/\(¬m.cell r c=1->(0<=g.t r c/\g.t r c<=60)/\(c+1<C-> ¬m.cell r (c+1)=1->g.t r c - m.T<=g.t r (c+1)/\g.t r (c+1)<=g.t r c))):=fun c hc=>by
   show (if m.rc r c=1 then decide (g.t r c=0) else inB (g.t r c) 0 60 && !(!decide (m.rc r (c+1:Nat)=1) && !inB (g.t r (c+1)) (g.t r c - m.T) (g.t r c)))=true↔_;rw [qDR hm hr,qDR hm hr,if_pos hc];by_cases h1:m.cell r c=1
   ·simp [h1]
   ·rw [if_neg h1];by_cases h2:c+1<C
    ·rw [if_pos h2];simp only [inB,xZU,Bool.not_eq_true',Bool.and_eq_false_iff,decide_eq_true_eq,Bool.not_eq_false',h1,h2,not_false_iff,true_imp_iff,false_imp_iff,true_and];by_cases h3:m.cell r (c+1)=1<;>simp only [h3,not_true,not_false_iff,true_or,false_or,true_imp_iff,false_imp_iff,and_true]<;>omega
    ·rw [if_neg h2];simp only [inB,decide_true,Bool.not_true,Bool.false_and,Bool.not_false,Bool.and_true,xZU,decide_eq_true_eq,h1,h2,not_false_iff,true_imp_iff,false_imp_iff,true_and,and_true]
  constructor
  ·intro h;refine ⟨fun c hc=> ?_,fun c hc hj=> ?_⟩
   ·have:=(e c hc).1 (h c hc);exact ⟨this.1,fun q=>(this.2 q).1⟩
   ·have hj:=J_iff.1 hj;exact (((e c (by omega)).1 (h c (by omega))).2 hj.1).2 (by omega) hj.2
  ·rintro ⟨h1,h2⟩ c hc;refine (e c hc).2 ⟨(h1 c hc).1,fun q=>⟨(h1 c hc).2 q,fun h3 h4=> ?_⟩⟩;exact h2 c (by omega) (J_iff.2 ⟨q,h4⟩)
 have kg: ∀x:Int×Int×Int×Int,y8 g x=true↔x.2.2.1 - x.2.2.2<=g.t x.1.toNat x.2.1.toNat/\g.t x.1.toNat x.2.1.toNat<=x.2.2.1+x.2.2.2:=fun x=>by
  show inB (g.t x.1.toNat x.2.1.toNat) _ _=true↔_;rw [xU]
 constructor
 ·rintro ⟨h1,h2⟩;exact ⟨fun r hr=>((key r hr).1 (h1 r hr)).1,fun r hr=>((key r hr).1 (h1 r hr)).2,fun x hx=>(kg x).1 (h2 x hx)⟩
 ·rintro ⟨h1,h2,h3⟩;exact ⟨fun r hr=>(key r hr).2 ⟨h1 r hr,h2 r hr⟩,fun x hx=>(kg x).2 (h3 x hx)⟩
theorem qC2 (v:AV) (b:Bool) (G:Th.Grid) {R C r c:Nat} (hr:r<R) (hc:c<C):(⟨v,yJ b G R C⟩:Gr).t r c=xQ b (G r c):=by
 show ((yJ b G R C).getD r []).getD c 0=_;rw [gL _ _ hr,xZT,xZW,xZY hc];rfl
theorem Mp.Truth.congr {m:Mp} {R C:Nat} {t t':Nat->Nat->Int} (hm:m.Is R C) (h:m.Truth R C t) (he: ∀r,r<R-> ∀c,c<C->t' r c=t r c):m.Truth R C t':=by
 have hC0:=hm.c0;refine ⟨fun r hr c hc=>by rw [he r hr c hc];exact h.cell r hr c hc,fun r hr c hc hj=> ?_,fun x hx=> ?_⟩
 ·rw [he r hr c (by omega),he r hr (c+1) (by omega)];exact h.row r hr c hc hj
 ·obtain ⟨⟨_,q1⟩,⟨_,q2⟩,_⟩:=hm.gs x hx;rw [hm.hR] at q1;rw [he _ q1 _ (by have:=hm.hC _ q1;omega)];exact h.gs x hx
theorem F0_ok (m:Mp):Th.Ok m.F0:=fun r c=>by simp only [Mp.F0];split<;>simp
theorem gQ {m:Mp} (hm:m.Is m.cells.length m.W) {G:Th.Grid} (h:m.bnd=some G):m.rthick=G/\Th.Ok G/\Th.SubG G m.F0/\m.Truth m.cells.length m.W (fun r c=>(G r c).1)/\m.Truth m.cells.length m.W (fun r c=>(G r c).2):=by
 have hC0:=hm.c0;obtain ⟨h1,h2,h3,_,h5,h6⟩:=Th.bound_ok m.T m.J (m.W - 1) hm.T.1 (F0_ok m) h (m:=m.W+1) (by omega);have hcell: ∀r c,(m.cell r c=1->(G r c).1=0/\(G r c).2=0)/\(¬m.cell r c=1->0<=(G r c).1/\(G r c).2<=60):=fun r c=>by
  have q1:=h2 r c;have q2:=h3 r c;refine ⟨fun q=> ?_,fun q=> ?_⟩
  ·simp only [Mp.F0,q,if_true] at q1;omega
  ·simp only [Mp.F0,q,if_false] at q1;omega
 refine ⟨h1,h3,h2,⟨fun r _ c _=> ?_,h5.row,fun x hx=>h5.gs (gg x) (xZQ hx)⟩,⟨fun r _ c _=> ?_,h6.row,fun x hx=>h6.gs (gg x) (xZQ hx)⟩⟩
 ·have:=h3 r c;exact ⟨fun q=>((hcell r c).1 q).1,fun q=>by have:=(hcell r c).2 q;omega⟩
 ·have:=h3 r c;exact ⟨fun q=>((hcell r c).1 q).2,fun q=>by have:=(hcell r c).2 q;omega⟩
theorem truth_bnd {m:Mp} (hm:m.Is m.cells.length m.W) {t:Nat->Nat->Int} (h:m.Truth m.cells.length m.W t): ∃G,m.bnd=some G/\ ∀r,r<m.cells.length-> ∀c,c<m.W->(G r c).1<=t r c/\t r c<=(G r c).2:=by
 let t':Nat->Nat->Int:=fun r c=>if r<m.cells.length/\c<m.W then t r c else (m.F0 r c).1
 have h':m.Truth m.cells.length m.W t':=h.congr hm fun r hr c hc=>by simp only [t'];rw [if_pos ⟨hr,hc⟩]
 have hin:Th.InG t' m.F0:=fun r c=>by
  by_cases q:r<m.cells.length/\c<m.W
  ·have:=h'.cell r q.1 c q.2;by_cases q1:m.cell r c=1
   ·have:=this.1 q1;simp only [Mp.F0,q1,if_true];omega
   ·have:=this.2 q1;simp only [Mp.F0,q1,if_false];omega
  ·simp only [t'];rw [if_neg q];have:=F0_ok m r c;exact ⟨Int.le_refl _,this⟩
 obtain ⟨G,hG,hi⟩:=Th.bound_in m.T m.J (m.W - 1) (gs:=m.gs.map gg) (R:=m.cells.length) ⟨h'.row,fun g hg=>by
  obtain ⟨x,hx,rfl⟩:=xZR.1 hg;exact h'.gs x hx⟩ hin
 refine ⟨G,hG,fun r hr c hc=> ?_⟩;have:=hi r c;simp only [t'] at this
 rwa [if_pos ⟨hr,hc⟩] at this
theorem qBf {m:Mp} (hm:m.Is m.cells.length m.W):m.rposs=m.bnd.isSome:=by
 rw [Bool.eq_iff_iff,Mp.rposs,qGn hm rfl];constructor
 ·intro h;obtain ⟨G,hG,_⟩:=truth_bnd hm h;rw [hG];rfl
 ·intro h;obtain ⟨G,hG⟩:=Option.isSome_iff_exists.1 h;obtain ⟨h1,_,_,h4,_⟩:=gQ hm hG;rw [h1];exact h4.congr hm fun r hr c hc=>qC2 _ false G hr hc
end Go.Proofs.Kn
