/- MvS6, MvS7: texts in a row, joined by a program. -/
import Derived.Test.YtnmfblokfponlaaGreatDoorQXMvS5
import Derived.Test.YtnmfblokfponlaaGreatDoorQY6
set_option linter.all false
open Nat renaming reduceEqDiff → rE, reduceLeDiff → rD, reduceAdd → rA, reduceMul → rM, reduceLT → rL
open Go.Ev.T renaming get_put → xZZ
open Nat renaming le_refl → xZY, le_of_lt → xZX
open List renaming nil_append → xZW
open Go.Ev.FnA renaming mono → xZV
open Go.Ev.Fr renaming refl → xZU
open Bool renaming and_true → xZT
open Go.Ev.Hp renaming up_n → xZS
namespace Go.Proofs.Kn
open Go Go.Ev
set_option maxRecDepth 100000
set_option maxHeartbeats 4000000
theorem isRd_ap {a:Array Operand} {ts:Array TypeId}:zZ (.call ⟨.builtin .append,a,ts⟩)=false:=rfl
theorem ft19 (xt:Addr->Option Value):(SE xt).ft.get 19=some Tryz.f19:=by kernel_rfl
theorem res19:Tryz.f19.results.toList=[.tmp 2,.tmp 3]:=by kernel_rfl
theorem rpack_c (xt:Addr->Option Value) (h:Hp) (w:Wk) (ha:w.At xt h) (his:w.Is) (G:Th.Grid) (hbn:w.m.bnd=some G):
  FnA (SE xt) 19 [w.av] h (RCgR xt h (w.packP G w.m.cells.length)):=by
 refine FnA.walk (sok xt) (ft19 xt) rfl 129 rfl ?_;obtain ⟨o1,o2,o3,o4,o5⟩:=ha.ones;have hlen:=ha.len;have t4:=his.t4;have c8:=his.m.c8;have r6:=his.m.r6;have w3:=Wk.ws_len his;refine qA fun K hn hp=> ?_;simp only [sw.1,reduceIte,rL];apply hn;obtain ⟨h1,hh1,n1,s1,k1,f1⟩:=yX h (.cells w.cs 30);rw [<-hh1];clear hh1;have ha1:=ha.fr f1 (xZY _);refine qA fun K hn hp=> ?_;simp only [sy.1,rE,reduceIte,rL,rA,rD,s1];refine qB (sok xt) (xZV (qD0 xt h1 w.m ha1.m _ _ his.m rfl) fun res h2 hres=> ?_);obtain ⟨tv,M,rfl,f2,sg,hM1,hM2⟩:=hres;have hG:Th.thickR w.m.T w.m.J (w.m.W - 1) w.m.F0 (w.m.gs.map gg) w.m.cells.length (w.m.W+1)=G:=(qB8 his.m hbn).1;rw [hG] at sg;have onet:=sg.one;simp only [sy.1,rE,reduceIte,rL];refine qB (sok xt) (xZV (endsI_c xt h2 _ M _ _ tv G sg (by omega) (by omega) (by omega) false) fun res h3 hres=> ?_);obtain ⟨z1,rfl,f3,lt3,l1⟩:=hres;have gl: ∀r,r<w.m.cells.length->((⟨z1,xC false G w.m.cells.length w.m.W⟩:Gr).ll.getD r []).length=w.m.W:=fun r hr=>by
  show ((xC false G w.m.cells.length w.m.W).getD r []).length=_;rw [qB3 _ _ hr];simp
 have hbp:=qDH his.m hbn;obtain ⟨g,hgv⟩: ∃g:Gr,g=⟨z1,xC false G w.m.cells.length w.m.W⟩:=⟨_,rfl⟩;have gok:w.GrOk G g:=by
  rw [hgv];refine ⟨qB4 _ _ _ _,gl,fun r c hr hc=> ?_,fun s hs=> ?_⟩
  ·rw [endL_t z1 false G hr hc];exact (hbp r c).1
  ·rw [give_end hs];rfl
 have hg3:g.At xt h3:=by rw [hgv];exact l1
 have egv:z1=g.v:=by rw [hgv]
 rw [egv];clear hgv l1 gl;have oneg:=hg3.grid.one;simp only [sy.1,rE,reduceIte,rL];apply hn;have l2:=f2.le;have l3:=f3.le;have f3h:Fr h.n h h3:=(f1.trans f2 (by omega)).trans f3 (by omega);have u3:=(f3.at_ h.n (.inl (by omega))).trans ((f2.at_ h.n (.inl (by omega))).trans s1);refine qA fun K hn hp=> ?_;simp only [sy.1,rE,reduceIte,rL,vP,mk127'];obtain ⟨h4,hh4,n4,s4,k4,f4⟩:=yX h3 (.cells (List.replicate 7 nilS) 33);rw [<-hh4];apply hn;clear hh4;refine qA fun K hn hp=> ?_;simp only [sy.1,rE,reduceIte,rL,vP,mk75',n4];obtain ⟨h5,hh5,n5,s5,k5,f5⟩:=uL f4 n4 (.cells (List.replicate 7 (iv 0)) 3);simp only [<-hh5];apply hn;clear hh5;simp only [rA] at n5;have f5h:Fr h.n h h5:=f3h.trans f5 (by omega);have u5:=(f5.at_ h.n (.inl (by omega))).trans u3;have v4:=(k5 h3.n (by omega)).trans s4;have ha5:=ha.fr f5h (xZY _)
 let Own:Nat->Prop:=fun b=>b<h3.n+2
 have dp5:DpAt xt Own h5 h3.n (h3.n+1) 7 (fun i=>w.packP G (w.m.cells.length - i)) (fun i=>i=w.m.cells.length):=DpAt.start v4 s5 (by omega) (by simp [Wk.packP_zero]);refine qA fun K hn hp=> ?_;simp only [sy.1,rE,reduceIte,rL,rA,u5];refine qB (sok xt) (xZV (rwidths_c xt h5 w ha5 his) fun res h6 hres=> ?_);obtain ⟨f6,zw,rfl,rw6,low⟩:=hres;have ozw:=rw6.one;have lzw: ∀h',vC tb h' 75 zw=some w.ws.length:=fun h'=>by have:=rw6.len (h':=h') uC rfl;simpa using this
 simp only [sy.1,rE,reduceIte,rL];apply hn;have l6:=f6.le;have f6h:Fr h.n h h6:=f5h.trans f6 (by omega);have u6:=(f6.at_ h.n (.inl (by omega))).trans u5;have dp6:=dp5.fr f6 (by omega) (by omega);have ha6:=ha.fr f6h (xZY _);refine qD ?_;refine qA fun K hn hp=> ?_;simp only [sy.1,rE,reduceIte,rL,rA,rD,u6];refine qB (sok xt) (uD xt h6 w.m ha6.m fun m7 hm7=> ?_);have wR:IntKind.i64.wrap ((w.m.cells.length:Int) - 1)=(w.m.cells.length:Int) - 1:=qK _ (by omega) (by omega);simp only [sy.1,rE,reduceIte,rL,wR];apply hn;obtain ⟨h7,hh7⟩: ∃h7,h7=h6.up m7:=⟨_,rfl⟩;rw [<-hh7];have f67:Fr h6.n h6 h7:=by rw [hh7];exact (xZU (xZY _)).up (xZX hm7)
 clear hh7;have l7:=f67.le;have f7h:Fr h.n h h7:=f6h.trans f67 (by omega);have u7:=(f67.at_ h.n (.inl (by omega))).trans u6;have dp7:=dp6.fr f67 (by omega) (by omega);have rw7:=rw6.fr f67 (xZY _);have f37:Fr h3.n h3 h7:=(f5.trans f6 (by omega)).trans f67 (by omega);refine qF fun KA A1 A2 A3 A4 A5=> ?_;refine qQ (sok xt) (fun st=> ∃(m:Nat) (hg':Hp) (tm:T AV),st=⟨tm,129,hg',[]⟩/\m<=w.m.cells.length/\tm.get 1=some (.ptr h.n 0)/\tm.get 4=some (g.v)/\tm.get 5=some (.sl h3.n 0 7 1)/\tm.get 6=some (.sl (h3.n+1) 0 7 1)/\tm.get 7=some (zw)/\tm.get 8=some (iv ((w.m.cells.length:Int) - 1 - m))/\Fr h3.n h7 hg'/\RowAt xt hg' 1 zw (w.ws.map c1)/\DpAt xt Own hg' h3.n (h3.n+1) 7 (fun i=>w.packP G (w.m.cells.length - i)) (fun i=>w.m.cells.length - m<=i/\i<=w.m.cells.length)) (fun st=>(match st.tm.get 8 with|some (.val (.int _ n))=>(n+1).toNat|_=>0)) ?_ ?_
 ·rintro st ⟨m,hg',tm,rfl,hkA,g1,g4,g5,g6,g7,g8,fg,rwg,dpg⟩;have muA:=g8;have lg:=fg.le;have ug:=(fg.at_ h.n (.inl (by omega))).trans u7;refine qD ?_;refine qA fun K hn hp=> ?_;simp only [sy.1,reduceIte,rL,g8];apply hn;by_cases hm:m<w.m.cells.length
  ·obtain ⟨c,hc⟩: ∃c:Nat,c=w.m.cells.length - (m+1):=⟨_,rfl⟩;have ec:(w.m.cells.length:Int) - 1 - m=(c:Int):=by omega
   rw [ec] at g8;have d:decide ((0:Int)<=(w.m.cells.length:Int) - 1 - m)=true:=decide_eq_true (by omega);refine qC true (by simp only [sy.1,rE,reduceIte,d]) (fun _=> ?_) (fun hx=>by cases hx);refine qG ?_;rw [ec];refine qF fun KB B1 B2 B3 B4 B5=> ?_;have w1:IntKind.i64.wrap ((c:Int)+1)=((c+1:Nat):Int):=by rw [qK _ (by omega) (by omega)];omega
   obtain ⟨z,i1,i2,i3,i4,cz⟩:=dpg.look (i:=c+1) ⟨by omega,by omega⟩;have i5:=qBO (b:=h3.n) (n:=7) (j:=c) (by omega);have i6:=ix75 (b:=h3.n+1) (n:=7) (j:=c) (by omega);obtain ⟨oB,oV,p1,p2,kb,fb,dpb⟩:=dpg.put (show h3.n<h3.n+2 by omega) (show h3.n+1<h3.n+2 by omega) (by omega) (i:=c) (by omega) (w.packP G (w.m.cells.length - (c+1))).2 cz;have oz:=cz.cuts.one;refine zG (sok xt) 0 0 16 [] (by kernel_rfl) fun K hn hp=> ?_;have nBV: ¬h3.n+1=h3.n:=by omega
   simp only [sy.1,rE,reduceIte,rL,rA,syw.1,g5,g6,g8,w1,i1,i2,i3,i4,i5,i6,p1,p2,nBV];apply hn;obtain ⟨hb,hhb⟩: ∃hb:Hp,hb=(hg'.set h3.n oB).set (h3.n+1) oV:=⟨_,rfl⟩;rw [<-hhb] at kb fb dpb ⊢;have nb:hb.n=hg'.n:=by rw [hhb,Hp.set_n,Hp.set_n]
   clear hhb;have fb1:=fb h3.n (by omega) (by omega) (by omega) (by omega);have ub:=(kb h.n (by omega) (by omega)).trans ug;have rwb:RowAt xt hb 1 zw (w.ws.map c1):=rwg.keepB (by omega) fun b off n s e _=>by have:=low b off n s e;exact kb b (by omega) (by omega)
   have dpb1:DpAt xt Own hb h3.n (h3.n+1) 7 (fun i=>if i=c then kH (w.packP G m) (w.pcnd G m 0) else w.packP G (w.m.cells.length - i)) (fun i=>c<=i/\i<=w.m.cells.length):=by
    refine dpb _ _ ?_ fun j hj=> ?_
    ·have e1:w.m.cells.length - (c+1)=m:=by omega
     have e2:w.pcnd G m 0=[w.packP G m]:=by simp [Wk.pcnd]
     simp only [if_true,e2,qC1,e1]
    ·by_cases q:j=c
     ·exact .inl q
     ·exact .inr ⟨by omega,fun _=>if_neg q⟩
   refine qA fun K hn hp=> ?_;simp only [sy.1,rL];apply hn;refine jO fun KD D1 D2 D3 D4 D5=> ?_;refine qQ (sok xt) (fun st=> ∃(q:Nat) (hd:Hp) (tm:T AV),st=⟨tm,129,hd,[]⟩/\q<=w.ws.length/\tm.get 1=some (.ptr h.n 0)/\tm.get 4=some (g.v)/\tm.get 5=some (.sl h3.n 0 7 1)/\tm.get 6=some (.sl (h3.n+1) 0 7 1)/\tm.get 7=some (zw)/\tm.get 8=some (iv (c:Int))/\tm.get 9=some (iv q)/\Fr h3.n h7 hd/\RowAt xt hd 1 zw (w.ws.map c1)/\DpAt xt Own hd h3.n (h3.n+1) 7 (fun i=>if i=c then kH (w.packP G m) (w.pcnd G m q) else w.packP G (w.m.cells.length - i)) (fun i=>c<=i/\i<=w.m.cells.length)) (fun st=>w.ws.length - (match st.tm.get 9 with|some (.val (.int _ n))=>n.toNat|_=>0)) ?_ ?_
   ·rintro st ⟨q,hd,tm,rfl,hkD,g1,g4,g5,g6,g7,g8,g9,fd,rwd,dpd⟩;have muD:=g9;have ld:=fd.le;have ud:=(fd.at_ h.n (.inl (by omega))).trans u7;refine qD ?_;refine qA fun K hn hp=> ?_;simp only [sy.1,rE,reduceIte,rL,syw.1,qZ,lzw,g7,g9];apply hn;by_cases hq:q<w.ws.length
    ·refine qC true (by simp only [sy.1,rE,reduceIte,hq]) (fun _=> ?_) (fun hx=>by cases hx);refine qG ?_;have ltq:w.ws.length<=9223372036854775807:=by omega
     obtain ⟨x,hx⟩: ∃x,w.ws[q]? =some x:=⟨_,List.getElem?_eq_getElem hq⟩;have hx13:=Wk.ws_mem his (List.mem_of_getElem? hx);obtain ⟨xn,rfl⟩: ∃xn:Nat,x=(xn:Int):=⟨x.toNat,by omega⟩;have wi: ∀(h':Hp),RowAt xt h' 1 zw (w.ws.map c1)->qM tb 75 zw (iv (q:Int))=some (elp zw q)/\qT tb xt h' 3 (elp zw q)=some (iv (xn:Int)):=fun h' r=>by
      have a1:=r.idx uC rfl tg3 rfl (i:=q) (by simpa using hq) (k:= .i64);have a2:=r.load0 tg3 rfl (i:=q) (c:=c1 (xn:Int)) (by rw [List.getElem?_map,hx];rfl) rfl;simp only [Nat.mul_one] at a1 a2;exact ⟨a1,a2⟩
     obtain ⟨i1,i2⟩:=wi hd rwd;have w2:IntKind.i64.wrap ((c:Int)+(xn:Int))=((c+xn:Nat):Int):=by rw [qK _ (by omega) (by omega)];omega
     have had:=ha.fr (f7h.trans fd (by omega)) (xZY _);refine qF fun KE E1 E2 E3 E4 E5=> ?_;refine qD ?_;refine zG (sok xt) 0 0 9 [(4,1)] (by kernel_rfl) fun K hn hp=> ?_;simp only [sy.1,rE,reduceIte,rL,rA,rD,syw.1,g1,g7,g8,g9,ud,i1,i2,w2];refine qB (sok xt) (uD xt hd w.m had.m fun m8 hm8=> ?_);have i2u:qT tb xt (hd.up m8) 3 (elp zw q)=some (iv (xn:Int)):=(wi _ (rwd.up (xZX hm8))).2;by_cases e:w.m.cells.length<c+xn
     ·have d1:decide ((w.m.cells.length:Int)<((c+xn:Nat):Int))=true:=decide_eq_true (by omega);simp only [sy.1,rE,reduceIte,rL,rA,syw.1,hm8,i2,d1];apply hn;refine qC true (by simp only [sy.1,rE,reduceIte]) (fun _=> ?_) (fun hx=>by cases hx);refine qO (E2 _ ?_);refine reg fun K hn hp=> ?_;simp only [sy.1,rE,reduceIte,rL,g9,qL hq ltq];apply hn;have f8:Fr hd.n hd (hd.up m8):=(xZU (xZY _)).up (xZX hm8);refine ⟨⟨q+1,hd.up m8,_,rfl,by omega,(by simp [xZZ,g1]),(by simp [xZZ,g4]),(by simp [xZZ,g5]),(by simp [xZZ,g6]),(by simp [xZZ,g7]),(by simp [xZZ,g8]),(by simp [xZZ]),fd.trans f8 (by omega),rwd.fr f8 (xZY _),?_⟩,by simpa [xZZ,muD] using (by omega:w.ws.length - (q+1)<w.ws.length - q)⟩;have e1:w.pcnd G m (q+1)=w.pcnd G m q:=by rw [Wk.pcnd_succ w G m q hx,if_neg (by omega),List.append_nil]
      rw [e1];exact dpd.fr f8 (by omega) (by omega)
     ·have d1:decide ((w.m.cells.length:Int)<((c+xn:Nat):Int))=false:=decide_eq_false (by omega);simp only [sy.1,rE,reduceIte,rL,rA,syw.1,hm8,i2,d1];apply hn;refine qC false (by simp only [sy.1,rE,reduceIte]) (fun hx=>by cases hx) (fun _=> ?_);refine qG ?_;obtain ⟨hf,hhf⟩: ∃hf,hf=hd.up m8:=⟨_,rfl⟩;rw [<-hhf];have f8:Fr hd.n hd hf:=by rw [hhf];exact (xZU (xZY _)).up (xZX hm8)
      have nf:hd.n<hf.n:=by rw [hhf,xZS];exact hm8
      have uf:hf.t.get h.n=some (.cells w.cs 30):=by rw [hhf];exact ud
      clear hhf;have rwf:=rwd.fr f8 (xZY _);have dpf:=dpd.fr f8 (by omega) (by omega);have ff:Fr h3.n h7 hf:=fd.trans f8 (by omega);have haf:=ha.fr (f7h.trans ff (by omega)) (xZY _);have hgf:=hg3.fr (f37.trans ff (by omega)) (xZY _);obtain ⟨_,j2⟩:=wi hf rwf;refine zG (sok xt) 0 0 12 [] (by kernel_rfl) fun K hn hp=> ?_;simp only [sy.1,rE,reduceIte,rL,rA,syw.1,g1,g4,g7,g8,g9,i1,uf,j2];refine qB (sok xt) (FnA.inc (xZV (rband_c xt hf w haf his G hbn g hgf gok c xn (by omega) (by omega)) fun res hB0 hres=> ?_));obtain ⟨fB0,zB,rfl,ncB0⟩:=hres;obtain ⟨hB,hhB⟩: ∃hB,hB=hB0.up (hB0.n+1):=⟨_,rfl⟩;have fB:Fr hf.n hf hB:=by rw [hhB];exact fB0.up (Nat.le_succ _)
      have ltB:hf.n<hB.n:=by have:=fB0.lo;rw [hhB,xZS];omega
      have ncB:NewC xt hf.n hB zB (w.bandP G c xn w.m.W).1:=by rw [hhB];exact ncB0.fr ((xZU (xZY _)).up (Nat.le_succ _)) (xZY _)
      rw [<-hhB];clear hhB fB0 ncB0;have ozB:=ncB.cuts.one;simp only [sy.1,rE,reduceIte,rL,rA,sv.1,ltB];apply hn;have fB1:Fr h3.n h7 hB:=ff.trans fB (by omega);have rwB:=rwf.fr fB (xZY _);have dpB:=dpf.fr fB (by omega) (by omega);obtain ⟨_,jB⟩:=wi hB rwB;have ecw:w.m.cells.length - (c+xn)=m - (xn - 1):=by omega
      have ncw: ¬c+xn=c:=by omega
      have bdX:=his.bandP_bd hbn c xn w.m.W;have bdY:=his.packP_bd hbn (m - (xn - 1));obtain ⟨v1,hC,q1,q2,q3,q4,q5⟩:=GrowAt.append (xt:=xt) (h:=hB) (N:=hB.n) (v:=nilS) (x:=zB) (l:=[]) (.inl ⟨rfl,rfl⟩) (xZY _) ncB.cuts ncB.inn (by simp only [List.length_nil];omega);obtain ⟨z2,m1,m2,m3,m4,cz2⟩:=dpB.look (i:=c+xn) ⟨by omega,by omega⟩;simp only [if_neg ncw,ecw] at m4 cz2;have oz2:=cz2.cuts.one;have m3':j0 (hC.t.get h3.n) (c+xn)=some z2:=by rw [q5 _ (by omega)];exact m3
      have rwC:=rwB.fr q3 (xZY _);obtain ⟨_,jC⟩:=wi hC rwC;have cz2C:=cz2.fr q3 (xZY _);obtain ⟨v2,hD,r1,r2,r3,r4,r5⟩:=GrowAt.append (xt:=xt) (N:=hB.n) q2 (by omega) cz2C.cuts cz2C.inn (by rw [xZW];omega);rw [xZW] at r2;have ov1:=(q2.newC (xt:=xt) (by rw [xZW];omega)).cuts.one;have w4:IntKind.i64.wrap ((w.bandP G c xn w.m.W).2+(w.packP G (m - (xn - 1))).2)=(w.bandP G c xn w.m.W).2+(w.packP G (m - (xn - 1))).2:=qK _ (by omega) (by omega);refine zG (sok xt) 0 0 11 [(7,0),(10,0)] (by kernel_rfl) fun K hn hp=> ?_;simp only [sy.1,rE,reduceIte,rL,rA,syw.1,g5,g7,g8,g9,i1,isRd_ap,q1,WOWn_a q4,jB,jC,w2,m1,m3,m3',r1];apply hn;have fBD:Fr hB.n hB hD:=q3.trans r3 (xZY _);have lD:=fBD.le;have fD1:Fr h3.n h7 hD:=fB1.trans fBD (by omega);have rwD:=rwB.fr fBD (xZY _);obtain ⟨_,jD⟩:=wi hD rwD;have dpD:=dpB.fr fBD (by omega) (by omega);have ncD:NewC xt hB.n hD v2 ((w.bandP G c xn w.m.W).1++(w.packP G (m - (xn - 1))).1):=r2.newC (by rw [List.length_append];omega);have ozD:=ncD.cuts.one;obtain ⟨_,_,n2,_,n4',_⟩:=dpD.look (i:=c+xn) ⟨by omega,by omega⟩;simp only [if_neg ncw,ecw] at n4';obtain ⟨z3,y1,y2,y3,y4,cz3⟩:=dpD.look (i:=c) ⟨by omega,by omega⟩;simp only [if_true] at y4 cz3;have oz3:=cz3.cuts.one;obtain ⟨cd,hcd⟩: ∃cd:Cg,cd=w.pone G m (xn:Int):=⟨_,rfl⟩;have ecd:cd=((w.bandP G c xn w.m.W).1++(w.packP G (m - (xn - 1))).1,(w.bandP G c xn w.m.W).2+(w.packP G (m - (xn - 1))).2):=by rw [hcd];simp only [Wk.pone,Int.toNat_natCast,<-hc]
      have cnext:kH (w.packP G m) (w.pcnd G m (q+1))=if bet cd (kH (w.packP G m) (w.pcnd G m q))=true then cd else kH (w.packP G m) (w.pcnd G m q):=by
       rw [Wk.pcnd_succ w G m q hx,if_pos (by omega),qC0,<-hcd]
      have e1:(w.bandP G c xn w.m.W).1++(w.packP G (m - (xn - 1))).1=cd.1:=by rw [ecd]
      have e2:(w.bandP G c xn w.m.W).2+(w.packP G (m - (xn - 1))).2=cd.2:=by rw [ecd]
      rw [e1] at ncD;have w4:=w4.trans e2;clear ecd hcd;refine zG (sok xt) 0 0 20 [] (by kernel_rfl) fun K hn hp=> ?_;simp only [sy.1,rE,reduceIte,rL,rA,syw.1,g5,g6,g7,g8,g9,i1,jD,w2,n2,n4',w4,y1,y2,y3,y4];refine qB (sok xt) (qCQ xt hD v2 z3 cd (kH (w.packP G m) (w.pcnd G m q)) ncD.cuts cz3.cuts fun m9 hm9=> ?_);obtain ⟨hE,hhE⟩: ∃hE,hE=hD.up m9:=⟨_,rfl⟩;have fE:Fr hD.n hD hE:=by rw [hhE];exact (xZU (xZY _)).up (xZX hm9)
      have nE:hD.n<hE.n:=by rw [hhE];exact hm9
      have dpE:=dpD.fr fE (by omega) (by omega);have fE1:Fr h3.n h7 hE:=fD1.trans fE (by omega);have rwE:=rwD.fr fE (xZY _);obtain ⟨_,jE⟩:=wi hE rwE;have ncE:=ncD.fr fE (xZY _);have n4E:j0 (hE.t.get (h3.n+1)) (c+xn)=some (iv (w.packP G (m - (xn - 1))).2):=by rw [fE.at_ _ (.inl (by omega))];exact n4'
      rw [<-hhE];clear hhE;cases hbt:bet cd (kH (w.packP G m) (w.pcnd G m q))
      ·simp only [sy.1,rL];apply hn;refine qH false (by simp only [sy.1,rE,reduceIte]) (fun hx=>by cases hx) (fun _=> ?_);refine qU (E1 _ ?_);refine reg fun K hn hp=> ?_;simp only [sy.1,rE,reduceIte,rL,g9,qL hq ltq];apply hn;rw [hbt,if_neg (by decide)] at cnext;refine ⟨⟨q+1,hE,_,rfl,by omega,(by simp [xZZ,g1]),(by simp [xZZ,g4]),(by simp [xZZ,g5]),(by simp [xZZ,g6]),(by simp [xZZ,g7]),(by simp [xZZ,g8]),(by simp [xZZ]),fE1,rwE,by rw [cnext];exact dpE⟩,by simpa [xZZ,muD] using (by omega:w.ws.length - (q+1)<w.ws.length - q)⟩
      ·simp only [sy.1,rL];apply hn;refine qH true (by simp only [sy.1,rE,reduceIte]) (fun _=> ?_) (fun hx=>by cases hx);rw [hbt,if_pos rfl] at cnext;have y5:=qBO (b:=h3.n) (n:=7) (j:=c) (by omega);have y6:=ix75 (b:=h3.n+1) (n:=7) (j:=c) (by omega);obtain ⟨o1',o2',p1,p2,kb',fb',dpb'⟩:=dpE.put (show h3.n<h3.n+2 by omega) (show h3.n+1<h3.n+2 by omega) (by omega) (i:=c) (by omega) cd.2 (ncE.cg (Own:=Own) fun b hb=>by have:b<h3.n+2:=hb;omega);refine reg fun K hn hp=> ?_;simp only [sy.1,rE,reduceIte,rL,g5,g6,g7,g8,g9,i1,jE,n2,n4E,w2,w4,y5,y6,p1,p2,nBV];refine hn _ _ (E1 _ ?_);refine reg fun K hn hp=> ?_;simp only [sy.1,rE,reduceIte,rL,g9,qL hq ltq];apply hn;refine ⟨⟨q+1,_,_,rfl,by omega,(by simp [xZZ,g1]),(by simp [xZZ,g4]),(by simp [xZZ,g5]),(by simp [xZZ,g6]),(by simp [xZZ,g7]),(by simp [xZZ,g8]),(by simp [xZZ]),fE1.trans (fb' h3.n (by omega) (by omega) (by omega) (by omega)) (by omega),rwE.keepB (xZY _) (fun b off n s e _=>by have:=low b off n s e;exact kb' b (by omega) (by omega)),dpb' _ _ ?_ fun j hj=> ?_⟩,by simpa [xZZ,muD] using (by omega:w.ws.length - (q+1)<w.ws.length - q)⟩
       ·simp only [if_true,cnext]
       ·by_cases qq:j=c
        ·exact .inl qq
        ·exact .inr ⟨hj,fun _=>by simp only [if_neg qq]⟩
    ·refine qC false (by simp only [sy.1,rE,reduceIte,hq]) (fun hx=>by cases hx) (fun _=> ?_);refine qO (D2 _ ?_);refine B1 _ ?_;obtain rfl:q=w.ws.length:=by omega
     have wc:IntKind.i64.wrap ((c:Int) - 1)=(w.m.cells.length:Int) - 1 - ((m+1:Nat):Int):=by rw [qK _ (by omega) (by omega)];omega
     refine reg fun K hn hp=> ?_;simp only [sy.1,rE,reduceIte,rL,g8,wc];apply hn;refine ⟨⟨m+1,hd,_,rfl,by omega,(by simp [xZZ,g1]),(by simp [xZZ,g4]),(by simp [xZZ,g5]),(by simp [xZZ,g6]),(by simp [xZZ,g7]),(by simp [xZZ]),fd,rwd,dpd.congr (fun i hi=>by omega) (fun i hi=> ?_)⟩,by simp [xZZ,muA];omega⟩;by_cases e:i=c
     ·subst e;simp only [if_true];have e1:w.m.cells.length - i=m+1:=by omega
      rw [e1,Wk.packP_succ]
     ·exact (if_neg e).symm
   ·exact ⟨0,hb,_,rfl,(by omega),(by simp [xZZ,g1]),(by simp [xZZ,g4]),(by simp [xZZ,g5]),(by simp [xZZ,g6]),(by simp [xZZ,g7]),(by simp [xZZ,g8]),(by simp [xZZ]),fg.trans fb1 (by omega),rwb,dpb1⟩
  ·have d:decide ((0:Int)<=(w.m.cells.length:Int) - 1 - m)=false:=decide_eq_false (by omega);refine qC false (by simp only [sy.1,rE,reduceIte,d]) (fun hx=>by cases hx) (fun _=> ?_);refine qO (A2 _ ?_);obtain rfl:m=w.m.cells.length:=by omega
   obtain ⟨z,i1,i2,i3,i4,cz⟩:=dpg.look (i:=0) ⟨by omega,by omega⟩;have i1:qM tb 127 (.sl h3.n 0 7 1) (iv 0)=some (.ptr h3.n 0):=i1;have i2:qM tb 75 (.sl (h3.n+1) 0 7 1) (iv 0)=some (.ptr (h3.n+1) 0):=i2;simp only [Nat.sub_zero] at i4 cz;have oz:=cz.cuts.one;refine jR (sok xt) 7 (by kernel_rfl) fun K hn hp=> ?_;simp only [sy.1,rE,reduceIte,rL,g5,g6,i1,i2,i3,i4];refine hn _ _ (qE (end_2 res19 ⟨f7h.trans fg (by omega),z,?_,⟨cz.cuts,cz.inn,fun b off n s e=>by have:=cz.av b off n s e;omega⟩⟩));simp [xZZ]
 ·exact ⟨0,h7,_,rfl,(by omega),(by simp [xZZ]),(by simp [xZZ]),(by simp [xZZ]),(by simp [xZZ]),(by simp [xZZ]),(by simp [xZZ]),xZU (by omega),rw7,dp7.congr (fun i hi=>by omega) (fun _ _=>rfl)⟩
end Go.Proofs.Kn
namespace Go.Proofs.Kn
open Go Go.Ev
set_option maxRecDepth 100000
set_option maxHeartbeats 4000000
theorem ex_tup3 (a b c:AV):vN (.tup [a,b,c]) 0=some a/\vN (.tup [a,b,c]) 1=some b/\vN (.tup [a,b,c]) 2=some c:=⟨rfl,rfl,rfl⟩
theorem Wk.cut_nil (w:Wk):w.cut []=true:=rfl
theorem Wk.pkd_asked (w:Wk):w.pkd.2=w.asked []:=by
 simp only [Wk.pkd,Wk.asked,Wk.cut_nil,xZT];by_cases z:w.ok=true
 ·rw [if_pos z,if_pos z,qAx (Wk.ok_is z).m];cases w.m.bnd<;>rfl
 ·rw [if_neg z,if_neg z]
theorem Wk.pkd_bad {w:Wk} (h:w.asked []≠0):w.pkd.1=([],0):=by
 simp only [Wk.asked,Wk.cut_nil,xZT] at h;simp only [Wk.pkd];by_cases z:w.ok=true
 ·rw [if_pos z];rw [if_pos z,qAx (Wk.ok_is z).m] at h;cases hb:w.m.bnd with
  |none=>rfl
  |some G=>rw [hb] at h;simp at h
 ·rw [if_neg z]
theorem Wk.asked_ok {w:Wk} (h:w.asked []=0):w.ok=true/\ ∃G,w.m.bnd=some G/\w.pkd.1=w.packP G w.m.cells.length:=by
 simp only [Wk.asked,Wk.cut_nil,xZT] at h;by_cases z:w.ok=true
 ·refine ⟨z,?_⟩;rw [if_pos z,qAx (Wk.ok_is z).m] at h;cases hb:w.m.bnd with
  |none=>rw [hb] at h;simp at h
  |some G=>exact ⟨G,rfl,by simp [Wk.pkd,z,hb]⟩
 ·rw [if_neg z] at h;simp at h
theorem ft3 (xt:Addr->Option Value):(SE xt).ft.get 3=some Tryz.f3:=by kernel_rfl
theorem res3:Tryz.f3.results.toList=[.tmp 2]:=by kernel_rfl
theorem qEX (xt:Addr->Option Value) (h:Hp) (w:Wk) (ha:w.At xt h):FnA (SE xt) 3 [w.av] h qBP:=by
 refine FnA.walk (sok xt) (ft3 xt) rfl 58 rfl ?_;obtain ⟨o1,o2,o3,o4,o5⟩:=ha.ones;refine qA fun K hn hp=> ?_;simp only [sw.1,reduceIte,rL];apply hn;obtain ⟨h1,hh1,n1,s1,k1,f1⟩:=yX h (.cells w.cs 30);rw [<-hh1];clear hh1;have ha1:=ha.fr f1 (xZY _);refine qD ?_;refine qA fun K hn hp=> ?_;simp only [sy.1,rE,reduceIte,rL,rA,s1];refine qB (sok xt) (brief_c xt h1 w ha1 fun m1 hm1=> ?_);cases q1:w.brief
 ·simp only [sy.1,rE,reduceIte,rL];apply hn;refine qC true (by simp only [sy.1,rE,reduceIte]) (fun _=> ?_) (fun hx=>by cases hx);refine qD ?_;refine qA fun K hn hp=> ?_;simp only [sy.1];refine qB (sok xt) (qDn xt _ fun m9 hm9=> ?_);simp only [sy.1,rE,reduceIte,rL];refine hn _ _ (qX (qN res3 ?_));simp [xZZ,qBP]
 simp only [sy.1,rE,reduceIte,rL];apply hn;refine qC false (by simp only [sy.1,rE,reduceIte]) (fun hx=>by cases hx) (fun _=> ?_);refine qG ?_;refine qA fun K hn hp=> ?_;simp only [sy.1,rE,reduceIte,rL,rA,s1];refine qB (sok xt) (xZV (packd_c xt (h1.up m1) w (ha1.up (xZX hm1))) fun res h2 hres=> ?_);obtain ⟨f2,z,rfl,cz⟩:=hres;have oz:=cz.one;have lz:=cz.len;obtain ⟨x0,x1,x2⟩:=ex_tup3 z (iv w.pkd.1.2) (iv w.pkd.2);simp only [sy.1,rE,reduceIte,rL,x0,x1,x2];apply hn;have f2h:Fr h.n h h2:=(f1.up (m:=m1) (by omega)).trans f2 (by simp only [xZS];omega);have u2:=(f2.at_ h.n (.inl (by simp only [xZS];omega))).trans (show (h1.up m1).t.get h.n=_ from s1);have ha2:=ha.fr f2h (xZY _);refine qD ?_;refine qA fun K hn hp=> ?_;simp only [sy.1,rE,reduceIte,rL,rA,u2];refine qB (sok xt) (asked_c xt h2 w ha2 (.val (.slice none 0 0)) [] Cuts.nil fun m2 hm2=> ?_);simp only [sy.1,rE,reduceIte,rL];apply hn;rw [Wk.pkd_asked];refine qD ?_;by_cases e:w.asked []=0
 ·have d:(!decide (w.asked []=0))=false:=by rw [decide_eq_true e];rfl
  have d0:decide (w.asked []=0)=true:=decide_eq_true e;obtain ⟨wok,G,hbn,hpk⟩:=Wk.asked_ok e;refine qA fun K hn hp=> ?_;simp only [sy.1,rE,reduceIte,rL,d];apply hn;refine qC false (by simp only [sy.1,rE,reduceIte]) (fun hx=>by cases hx) (fun _=> ?_);refine qG ?_;refine qA fun K hn hp=> ?_;simp only [sy.1,rE,reduceIte,rL,rA,u2];refine qB (sok xt) (xZV (rpack_c xt (h2.up m2) w (ha2.up (xZX hm2)) (Wk.ok_is wok) G hbn) fun res h4 hres=> ?_);obtain ⟨f4,z2,rfl,nc4⟩:=hres;have oz2:=nc4.cuts.one;simp only [sy.1,rE,reduceIte,rL,sv.1];apply hn;rw [hpk] at cz lz;have f24:Fr h2.n h2 h4:=((xZU (xZY _)).up (xZX hm2)).trans f4 (by simp only [xZS];omega);have dd:decide (w.packP G w.m.cells.length=w.packP G w.m.cells.length)=true:=decide_eq_true rfl;rw [hpk];refine qA fun K hn hp=> ?_;simp only [sy.1,rE,reduceIte,rL,d0];refine qB (sok xt) (same_c xt h4 z z2 _ _ (cz.fr f24 (xZY _)) nc4.cuts fun m5 hm5=> ?_);simp only [sy.1,rE,reduceIte,rL];refine qB (sok xt) (qDn xt _ fun m9 hm9=> ?_);simp only [sy.1,rE,reduceIte,rL];refine hn _ _ (qE (qN res3 ?_));simp [xZZ,qBP]
 ·have d:(!decide (w.asked []=0))=true:=by rw [decide_eq_false e];rfl
  have hpk:=Wk.pkd_bad e;rw [hpk] at lz;rw [hpk];refine qA fun K hn hp=> ?_;simp only [sy.1,rE,reduceIte,rL,d];apply hn;refine qC true (by simp only [sy.1,rE,reduceIte]) (fun _=> ?_) (fun hx=>by cases hx);refine qD ?_;refine qA fun K hn hp=> ?_;have l0:decide (((0:Nat):Int)=0)=true:=rfl;simp only [sy.1,rE,reduceIte,rL,syw.1,lz,l0];refine qB (sok xt) (qDn xt _ fun m9 hm9=> ?_);simp only [sy.1,rE,reduceIte,rL];refine hn _ _ (qX (qN res3 ?_));simp [xZZ,qBP]
end Go.Proofs.Kn
