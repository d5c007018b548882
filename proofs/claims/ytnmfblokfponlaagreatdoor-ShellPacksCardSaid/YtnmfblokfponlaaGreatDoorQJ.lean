/- MvG7: texts in a row, joined by a program. -/
import Derived.Test.YtnmfblokfponlaaGreatDoorQI
set_option linter.all false
open Nat renaming reduceEqDiff → rE, reduceLeDiff → rD, reduceAdd → rA, reduceMul → rM, reduceLT → rL
open Go.Ev.T renaming get_put → xZZ
open Nat renaming le_refl → xZY, add_assoc → xZU
open Option renaming bind_some → xZX
open Go.Ev.Hp renaming set_t → xZW
open Int renaming toNat_natCast → xZV
open Bool renaming false_eq_true → xZT
open Go.Ev.Fr renaming refl → xZS
namespace Go.Proofs.Kn
open Go Go.Ev
set_option maxRecDepth 100000
theorem ft143 (xt:Addr->Option Value):(SE xt).ft.get 143=some Tryz.f143:=by kernel_rfl
theorem res143:Tryz.f143.results.toList=[.cell 2 121]:=by kernel_rfl
structure Mp.Is (m:Mp) (R C:Nat):Prop where
 hR:m.cells.length=R
 hC: ∀r,r<R->(m.cells.getD r []).length=C
 r0:0<R
 c0:0<C
 r6:R<=6
 c8:C<=8
 gs:m.gsIn
 T:0<=m.T/\m.T<=9
def BndR (h:Hp) (w:Wk) (R C:Nat) (res:CR) (h':Hp):Prop:=Fr h.n h h'/\match Th.boundP w.m.T w.m.J (C - 1) w.m.F0 (w.m.gs.map gg) R with
 |some G=> ∃v M,res= .ret (.agg (w.bc v))/\SG h' (h.n+4) M v R C G/\h.n+4<=M/\M<=h'.n
 |none=> ∃a b:Int,res= .pan (.ifc 225 (.agg [iv a,iv b]))
theorem bd121 (w:Wk):vJ tb 121 [(0,w.av)]=some (.agg (w.bc (.val (.slice none 0 0)))):=by kernel_rfl
theorem bound_c (xt:Addr->Option Value) (h:Hp) (w:Wk) (ha:w.At xt h) (R C:Nat) (hm:w.m.Is R C):FnA (SE xt) 143 [w.av] h (BndR h w R C):=by
 refine FnA.walk (sok xt) (ft143 xt) rfl 152 rfl ?_;obtain ⟨o1,o2,o3,o4,o5⟩:=ha.ones;have bd:=bd121 w;have hR:=hm.hR;have hR0:=hm.r0;have hC0:=hm.c0;have hR6:=hm.r6;have hC8:=hm.c8;have hlen: ∀h':Hp,vC tb h' 22 w.m.vc=some R:=fun h'=>by rw [ha.m.len h',hR]
 refine qA fun K hn hp=> ?_;simp only [sw.1,reduceIte,rL];apply hn;clear hn hp K;obtain ⟨h1,hh1⟩: ∃h1:Hp,h1=h.new (.cells w.cs 30):=⟨_,rfl⟩;rw [<-hh1];have nh1:h1.n=h.n+1:=by rw [hh1];rfl
 have sh1:h1.t.get h.n=some (.cells w.cs 30):=by rw [hh1];exact qY _ _
 have kh1: ∀k,k<h.n->h1.t.get k=h.t.get k:=fun k hk=>by rw [hh1];exact jA _ _ hk
 have fbh1:Fr h.n h h1:=by rw [hh1];exact (xZS (xZY _)).new _
 have fh1:=fbh1;obtain ⟨h2,hh2⟩: ∃h2:Hp,h2=h1.new (.cells [.val (.slice none 0 0),iv 0,iv 0,.val (.slice none 0 0),.val (.slice none 0 0),.val (.slice none 0 0),.val (.slice none 0 0),iv 0,.val (.slice none 0 0)] 121):=⟨_,rfl⟩;rw [<-hh2];have nh2:h2.n=h1.n+1:=by rw [hh2];rfl
 have sh2:h2.t.get h1.n=some (.cells [.val (.slice none 0 0),iv 0,iv 0,.val (.slice none 0 0),.val (.slice none 0 0),.val (.slice none 0 0),.val (.slice none 0 0),iv 0,.val (.slice none 0 0)] 121):=by rw [hh2];exact qY _ _
 have kh2: ∀k,k<h1.n->h2.t.get k=h1.t.get k:=fun k hk=>by rw [hh2];exact jA _ _ hk
 have fbh2:Fr h1.n h1 h2:=by rw [hh2];exact (xZS (xZY _)).new _
 have fh2:Fr h.n h h2:=fh1.trans fbh2 (by omega);simp only [nh1,xZU,rA] at nh2 sh2 kh2;have s1:=(kh2 h.n (by omega)).trans sh1;refine qA fun K hn hp=> ?_;simp only [sw.1,rE,reduceIte,rL,rA,o1,o2,o3,o4,o5,bd,nh2,s1];apply hn;clear hn hp K;obtain ⟨h3,hh3⟩: ∃h3:Hp,h3=(h2.new (.cells [.val (.slice none 0 0),iv 0,iv 0,.val (.slice none 0 0),.val (.slice none 0 0),.val (.slice none 0 0),.val (.slice none 0 0),iv 0,.val (.slice none 0 0)] 121)).set h2.n (.cells (w.bc (.val (.slice none 0 0))) 121):=⟨_,rfl⟩;have nh3:h3.n=h2.n+1:=by rw [hh3];rfl
 have sh3:h3.t.get h2.n=some (.cells (w.bc (.val (.slice none 0 0))) 121):=by rw [hh3,xZW,xZZ,if_pos rfl]
 have kh3: ∀k,k<h2.n->h3.t.get k=h2.t.get k:=fun k hk=>by rw [hh3];exact zJ _ _ _ hk
 have fbh3:Fr h2.n h2 h3:=by rw [hh3];exact zK _ _ _
 have fh3:Fr h.n h h3:=fh2.trans fbh3 (by omega);simp only [nh2,xZU,rA] at nh3 sh3 kh3 hh3;rw [<-hh3];have t1:=(kh3 h.n (by omega)).trans s1;have t2:=(kh3 (h.n+1) (by omega)).trans sh2;refine qA fun K hn hp=> ?_;simp only [sw.1,rE,reduceIte,rL,rA,rD,al27,o1,o2,o3,o4,nh3,t1];apply hn;clear hn hp K;obtain ⟨h4,hh4⟩: ∃h4:Hp,h4=(h3.new (.cells [.val (.slice none 0 0),iv 0,iv 0,.val (.slice none 0 0),.val (.slice none 0 0),.val (.slice none 0 0)] 27)).set h3.n (.cells w.m.cs 27):=⟨_,rfl⟩;have nh4:h4.n=h3.n+1:=by rw [hh4];rfl
 have sh4:h4.t.get h3.n=some (.cells w.m.cs 27):=by rw [hh4,xZW,xZZ,if_pos rfl]
 have kh4: ∀k,k<h3.n->h4.t.get k=h3.t.get k:=fun k hk=>by rw [hh4];exact zJ _ _ _ hk
 have fbh4:Fr h3.n h3 h4:=by rw [hh4];exact zK _ _ _
 have fh4:Fr h.n h h4:=fh3.trans fbh4 (by omega);simp only [nh3,xZU,rA] at nh4 sh4 kh4 hh4;rw [<-hh4];have r1:=(kh4 (h.n+1) (by omega)).trans t2;have r2:=(kh4 (h.n+2) (by omega)).trans sh3;refine qD ?_;refine qA fun K hn hp=> ?_;simp only [sy.1,rE,reduceIte,rL,syw.1,hlen,sh4];apply hn;clear hn hp K;have B0:BInv h w C h4 (.val (.slice none 0 0)) h4.n 0 w.m.F0:=⟨fh4,⟨_,rfl,r1⟩,r2,sh4,SG.nil _ _ _ _ _,by omega,xZY _⟩;have hrow:=fun (i:Nat) (hi:i<R)=>ha.m.rowD (i:=i) (by omega);clear r1 r2 t1 t2 s1 sh1 sh2 sh3 sh4 kh1 kh2 kh3 kh4;refine qF fun KA A1 A2 A3 A4 A5=> ?_;refine qQ (sok xt) (fun st=> ∃(k:Nat) (v:AV) (hc:Hp) (tm:T AV),st=⟨tm,152,hc,[]⟩/\k<=R/\tm.get 2=some (.ptr (h.n+1) 0)/\tm.get 3=some (.ptr (h.n+2) 0)/\tm.get 4=some (.ptr (h.n+3) 0)/\tm.get 24=some (w.m.vc)/\tm.get 25=some (iv R)/\tm.get 26=some (iv k)/\BInv h w C hc v hc.n k w.m.F0) (fun st=>R - (match st.tm.get 26 with|some (.val (.int _ n))=>n.toNat|_=>0)) ?_ ?_
 ·rintro st ⟨k,v,hc,tm,rfl,hkA,g2,g3,g4,g24,g25,g26,bi⟩;have muA:=g26;refine qA fun K hn hp=> ?_;simp only [sy.1,rL,qZ,g25,g26];apply hn;clear hn hp K;have hac:=ha.fr bi.fr (xZY _);by_cases hk:k<R
  ·refine qC true (by simp only [sy.1,reduceIte,hk]) (fun _=> ?_) (fun hx=>by cases hx);obtain ⟨rv,i1,i2,i3,i4⟩:=hac.m.rowD (i:=k) (by omega);have hCk:=hm.hC k hk;rw [hCk] at i4;have mk:=mk55 hc (C:=C) (by omega);refine qG ?_;refine qF fun KB B1 B2 B3 B4 B5=> ?_;refine qA fun K hn hp=> ?_;simp only [sy.1,rE,reduceIte,rL,g24,g26,i1,i2];apply hn;clear hn hp K;refine qA fun K hn hp=> ?_;simp only [sy.1,rE,reduceIte,rL,syw.1,i4,mk,vP];apply hn;clear hn hp K;obtain ⟨hd,hhd⟩: ∃hd:Hp,hd=hc.new (.cells (jY (fun _=>(0,0)) C) 43):=⟨_,rfl⟩;rw [<-hhd];have nhd:hd.n=hc.n+1:=by rw [hhd];rfl
   have shd:hd.t.get hc.n=some (.cells (jY (fun _=>(0,0)) C) 43):=by rw [hhd];exact qY _ _
   have khd: ∀k,k<hc.n->hd.t.get k=hc.t.get k:=fun k hk=>by rw [hhd];exact jA _ _ hk
   have fbhd:Fr hc.n hc hd:=by rw [hhd];exact (xZS (xZY _)).new _
   have fhd:=fbhd;refine qD ?_;refine qA fun K hn hp=> ?_;simp only [sy.1,rE,reduceIte,rL,syw.1,i4];apply hn;clear hn hp K;refine qF fun KD D1 D2 D3 D4 D5=> ?_;refine qQ (sok xt) (fun st=> ∃(c:Nat) (he:Hp) (tm:T AV),st=⟨tm,152,he,[]⟩/\c<=C/\tm.get 2=some (.ptr (h.n+1) 0)/\tm.get 3=some (.ptr (h.n+2) 0)/\tm.get 4=some (.ptr (h.n+3) 0)/\tm.get 6=some (rv)/\tm.get 7=some (.sl hc.n 0 C 2)/\tm.get 24=some (w.m.vc)/\tm.get 25=some (iv R)/\tm.get 26=some (iv k)/\tm.get 33=some (rv)/\tm.get 34=some (iv C)/\tm.get 35=some (iv c)/\he.n=hc.n+1/\(∀x,x≠hc.n->he.t.get x=hc.t.get x)/\he.t.get hc.n=some (.cells (jY (kK w.m k c) C) 43)) (fun st=>C - (match st.tm.get 35 with|some (.val (.int _ n))=>n.toNat|_=>0)) ?_ ?_
   ·rintro st ⟨c,he,tm,rfl,hkD,g2,g3,g4,g6,g7,g24,g25,g26,g33,g34,g35,e1,e2,e3⟩;have muD:=g35;refine qA fun K hn hp=> ?_;simp only [sy.1,rL,qZ,g34,g35];apply hn;clear hn hp K;by_cases hc':c<C
    ·refine qC true (by simp only [sy.1,reduceIte,hc']) (fun _=> ?_) (fun hx=>by cases hx);have i5:=i3.keep (h':=he) (by omega) (fun b hb=>e2 b (by omega));obtain ⟨x1,x2⟩:=i5.m58 (k:=c) (by omega);have hcell:(w.m.cells.getD k []).getD c 0=w.m.cell k c:=rfl;rw [hcell] at x2;refine qG ?_;refine qF fun KE E1 E2 E3 E4 E5=> ?_;refine qA fun K hn hp=> ?_;simp only [sy.1,rE,reduceIte,rL,g33,g35,x1,x2];apply hn;clear hn hp K;refine qA fun K hn hp=> ?_;simp only [sy.1,rE,reduceIte,rL];apply hn;clear hn hp K;cases q:decide (w.m.cell k c=1)
     ·refine qH true (by simp only [sy.1,rE,reduceIte]) (fun _=> ?_) (fun hx=>by cases hx);have x3:=qAw (C:=C) (b:=hc.n) hc';have hlf:=zS (kK w.m k c) C;have p1:=zX (h:=he) (b:=hc.n) (off:=c*2+1) (v:=iv 60) (cs:=jY (kK w.m k c) C) (e:=43) rfl rfl (by omega);refine reg fun K hn hp=> ?_;simp only [sy.1,rE,reduceIte,rL,g7,x3,p1,e3];refine hn _ _ (E1 _ ?_);clear hn hp K;refine reg fun K hn hp=> ?_;simp only [sy.1,rE,reduceIte,rL,g35,qL hc' (show C<=9223372036854775807 by omega)];apply hn;clear hn hp K;refine ⟨⟨c+1,_,_,rfl,by omega,(by simp [xZZ,g2]),(by simp [xZZ,g3]),(by simp [xZZ,g4]),(by simp [xZZ,g6]),(by simp [xZZ,g7]),(by simp [xZZ,g24]),(by simp [xZZ,g25]),(by simp [xZZ,g26]),(by simp [xZZ,g33]),(by simp [xZZ,g34]),(by simp [xZZ]),e1,fun x hx=> ?_,?_⟩,by simpa [xZZ,muD] using (by omega:C - (c+1)<C - c)⟩
      ·rw [xZW,xZZ,if_neg hx];exact e2 x hx
      ·rw [xZW,xZZ,if_pos rfl,qEp _ hc'];have q:=of_decide_eq_false q;have e0:(kK w.m k c c).1=0:=by simp [kK]
       rw [e0,qCJ q]
     ·refine qH false (by simp only [sy.1,rE,reduceIte]) (fun hx=>by cases hx) (fun _=> ?_);refine qU (E1 _ ?_);refine reg fun K hn hp=> ?_;simp only [sy.1,rE,reduceIte,rL,g35,qL hc' (show C<=9223372036854775807 by omega)];apply hn;clear hn hp K;refine ⟨⟨c+1,he,_,rfl,by omega,(by simp [xZZ,g2]),(by simp [xZZ,g3]),(by simp [xZZ,g4]),(by simp [xZZ,g6]),(by simp [xZZ,g7]),(by simp [xZZ,g24]),(by simp [xZZ,g25]),(by simp [xZZ,g26]),(by simp [xZZ,g33]),(by simp [xZZ,g34]),(by simp [xZZ]),e1,e2,by rw [e3,qD4 (of_decide_eq_true q)]⟩,by simpa [xZZ,muD] using (by omega:C - (c+1)<C - c)⟩
    ·refine qC false (by simp only [sy.1,reduceIte,hc']) (fun hx=>by cases hx) (fun _=> ?_);have hcC:c=C:=by omega
     refine qO (D2 _ ?_);rw [hcC] at e3;have e3:he.t.get hc.n=some (.cells (jY (w.m.F0 k) C) 43):=by rw [e3,qA1 fun x hx=>qCK hx]
     have hle:=bi.le;have hsge:SG he (h.n+4) hc.n v k C w.m.F0:=bi.sg.keep fun x _ hx=>e2 x (by omega);have hb2:he.t.get (h.n+2)=some (.cells (w.bc v) 121):=by rw [e2 _ (by omega)];exact bi.b2
     have onev:=bi.sg.one;have bs:=bs51 he hc.n C;refine reg fun K hn hp=> ?_;have hn1: ¬h.n+2=he.n:=by omega
     have hn2: ¬he.n=h.n+2:=by omega
     obtain ⟨h6,hh6⟩: ∃h6,h6=he.new (.cells [.sl hc.n 0 C 2] 55):=⟨_,rfl⟩;have n6:h6.n=he.n+1:=by rw [hh6];rfl
     have s6:h6.t.get he.n=some (.cells [.sl hc.n 0 C 2] 55):=by rw [hh6];exact qY _ _
     have k6: ∀x,x<he.n->h6.t.get x=he.t.get x:=fun x hx=>by rw [hh6];exact jA _ _ hx
     obtain ⟨h7,p1,p2,p3,p4,p5⟩:=SG.append (P:=Tryz.prog) (xt:=xt) (h:=h6) (x:= .sl he.n 0 1 1) (b:=hc.n) (hsge.keep fun x _ hx=>k6 x (by omega)) hle (by omega) (xZY _) (by omega) (by rw [k6 _ (by omega)];exact e3) (pQ s6 rfl rfl) (by omega);have b7:h7.t.get (h.n+2)=some (.cells (w.bc v) 121):=by rw [p4 _ (by omega),k6 _ (by omega)];exact hb2
     simp only [sy.1,rE,reduceIte,rL,g3,g7,hb2,jK,bs,<-hh6,p1,b7];have p6:jF 1 h7 (h.n+2) 8 (.sl h6.n 0 (k+1) 1) (some (.cells (w.bc v) 121))=some (h7.set (h.n+2) (.cells (w.bc (.sl h6.n 0 (k+1) 1)) 121)):=zX rfl rfl (show 8<9 by omega);simp only [sy.1,p6];refine hn _ _ (B1 _ ?_);clear hn hp K;obtain ⟨h8,hh8⟩: ∃h8,h8=h7.set (h.n+2) (.cells (w.bc (.sl h6.n 0 (k+1) 1)) 121):=⟨_,rfl⟩;rw [<-hh8];have n8:h8.n=h7.n:=by rw [hh8];rfl
     have k8: ∀x,x≠h.n+2->h8.t.get x=h7.t.get x:=fun x hx=>by rw [hh8,xZW,xZZ,if_neg hx]
     have B8:BInv h w C h8 (.sl h6.n 0 (k+1) 1) h8.n (k+1) w.m.F0:=by
      have hfr:=bi.fr;refine ⟨⟨by omega,by omega,fun x hx=> ?_⟩,?_,?_,?_,?_,by omega,xZY _⟩
      ·rw [k8 x (by omega)];rcases hx with hx|hx
       ·rw [p4 x (by omega),k6 x (by omega),e2 x (by omega)];exact hfr.at_ x (.inl hx)
       ·rw [p5 x (by omega),hh6,Hp.new_t,xZZ,if_neg (by omega),e2 x (by omega)];exact hfr.at_ x (.inr (by omega))
      ·obtain ⟨z,z1,z2⟩:=bi.b1;exact ⟨z,z1,by rw [k8 _ (by omega),p4 _ (by omega),k6 _ (by omega),e2 _ (by omega)];exact z2⟩
      ·rw [hh8,xZW,xZZ,if_pos rfl]
      ·rw [k8 _ (by omega),p4 _ (by omega),k6 _ (by omega),e2 _ (by omega)];exact bi.b3
      ·rw [n8];exact p2.keep fun x hx _=>k8 x (by omega)
     refine reg fun K hn hp=> ?_;simp only [sy.1,rE,reduceIte,rL,g26,qL hk (show R<=9223372036854775807 by omega)];apply hn;clear hn hp K;refine ⟨⟨k+1,_,h8,_,rfl,by omega,(by simp [xZZ,g2]),(by simp [xZZ,g3]),(by simp [xZZ,g4]),(by simp [xZZ,g24]),(by simp [xZZ,g25]),(by simp [xZZ]),B8⟩,by simpa [xZZ,muA] using (by omega:R - (k+1)<R - k)⟩
   ·exact ⟨0,hd,_,rfl,(by omega),(by simp [xZZ,g2]),(by simp [xZZ,g3]),(by simp [xZZ,g4]),(by simp [xZZ]),(by simp [xZZ]),(by simp [xZZ,g24]),(by simp [xZZ,g25]),(by simp [xZZ,g26]),(by simp [xZZ]),(by simp [xZZ]),(by simp [xZZ]),nhd,fun x hx=>by rw [hhd,Hp.new_t,xZZ,if_neg hx],by rw [qBC];exact shd⟩
  ·refine qC false (by simp only [sy.1,reduceIte,hk]) (fun hx=>by cases hx) (fun _=> ?_);have hkR:k=R:=by omega
   rw [hkR] at bi;clear hkR;obtain ⟨M,hM⟩: ∃M,M=hc.n:=⟨_,rfl⟩;rw [<-hM] at bi;refine qO (A2 _ ?_);refine qD ?_;have hgl:=fun h':Hp=>(ha.m.gs).len (h':=h') bL rfl;simp only [List.length_map] at hgl;have b3:=bi.b3;refine qA fun K hn hp=> ?_;simp only [sy.1,rE,reduceIte,rL,syw.1,g4,hgl,b3];apply hn;clear hn hp K;refine qF fun KG G1 G2 G3 G4 G5=> ?_;refine qQ (sok xt) (fun st=> ∃(i:Nat) (hg:Hp) (F:Nat->Nat->Int×Int) (tm:T AV),st=⟨tm,152,hg,[]⟩/\i<=w.m.gs.length/\tm.get 2=some (.ptr (h.n+1) 0)/\tm.get 3=some (.ptr (h.n+2) 0)/\tm.get 4=some (.ptr (h.n+3) 0)/\tm.get 55=some (w.m.vg)/\tm.get 56=some (iv w.m.gs.length)/\tm.get 57=some (iv i)/\BInv h w C hg v M R F/\Bd F/\Th.gaugesP w.m.F0 ((w.m.gs.take i).map gg)=some F) (fun st=>w.m.gs.length - (match st.tm.get 57 with|some (.val (.int _ n))=>n.toNat|_=>0)) ?_ ?_
   ·rintro st ⟨i,hg,F,tm,rfl,hkG,g2,g3,g4,g55,g56,g57,bg,bd60,hga⟩;have muG:=g57;refine qA fun K hn hp=> ?_;simp only [sy.1,rL,qZ,g56,g57];apply hn;clear hn hp K;by_cases hi:i<w.m.gs.length
    ·refine qC true (by simp only [sy.1,reduceIte,hi]) (fun _=> ?_) (fun hx=>by cases hx);have hag:=ha.fr bg.fr (xZY _);obtain ⟨x,hx⟩: ∃x,w.m.gs[i]? =some x:=⟨_,List.getElem?_eq_getElem hi⟩;obtain ⟨y1,y2,y3,y4⟩:=hm.gs x (List.mem_of_getElem? hx);have i1:=hag.m.gs.idx bL rfl wU rfl (i:=i) (by simpa using hi) (k:= .i64);have i2:=hag.m.gs.loadA wU rfl rfl (i:=i) (c:=Kn.g4 x) (by rw [List.getElem?_map,hx];rfl);obtain ⟨xr,xc,xs,xo⟩:=x;simp only [Kn.g4,List.map_cons,List.map_nil] at i2 y1 y2 y3 y4;obtain ⟨r',rfl⟩: ∃r':Nat,xr=r':=⟨xr.toNat,by omega⟩;obtain ⟨c',rfl⟩: ∃c':Nat,xc=c':=⟨xc.toNat,by omega⟩;simp only [xZV] at y1 y2;have hr':r'<R:=by omega
     have hc':c'<C:=by have:=hm.hC r' hr';omega
     refine qG ?_;refine qF fun KH H1 H2 H3 H4 H5=> ?_;have hle:=bg.le;have hhi:=bg.hi;refine qA fun K hn hp=> ?_;simp only [sw.1,rE,reduceIte,rL,rA,al48,g55,g57,i1,i2];apply hn;clear hn hp K;obtain ⟨h9,hh9⟩: ∃h9:Hp,h9=(hg.new (.cells [iv 0,iv 0,iv 0,iv 0] 48)).set hg.n (.cells [iv (r':Int),iv (c':Int),iv xs,iv xo] 48):=⟨_,rfl⟩;have nh9:h9.n=hg.n+1:=by rw [hh9];rfl
     have sh9:h9.t.get hg.n=some (.cells [iv (r':Int),iv (c':Int),iv xs,iv xo] 48):=by rw [hh9,xZW,xZZ,if_pos rfl]
     have kh9: ∀k,k<hg.n->h9.t.get k=hg.t.get k:=fun k hk=>by rw [hh9];exact zJ _ _ _ hk
     have fbh9:Fr hg.n hg h9:=by rw [hh9];exact zK _ _ _
     have fh9:=fbh9;rw [<-hh9];have bg9:=bg.keep fbh9 hhi;have b2:=bg9.b2;have w1:IntKind.i64.wrap (xs - xo)=xs - xo:=qK _ (by omega) (by omega);have w2:IntKind.i64.wrap (xs+xo)=xs+xo:=qK _ (by omega) (by omega);refine reg fun K hn hp=> ?_;simp only [sy.1,rE,reduceIte,rL,rA,g3,sh9,b2,w1,w2,bd43];refine qB (sok xt) (FnA.mono (qBK xt h9 w ha.ones (h.n+4) M v R C F bg9.sg hle bg9.hi r' c' hr' hc' _ _) fun res h' hres=> ?_);obtain ⟨fr,hres⟩:=hres;have esnoc:=qDv (g:=gg ((r':Int),(c':Int),xs,xo)) hga;rw [<-qCD gg hx] at esnoc;have e5:(gg ((r':Int),(c':Int),xs,xo)).span=(xs - xo,xs+xo):=rfl;have e6:(gg ((r':Int),(c':Int),xs,xo)).r=r':=xZV _;have e7:(gg ((r':Int),(c':Int),xs,xo)).c=c':=xZV _;rw [e5,e6,e7] at esnoc;rcases hres with ⟨x,rfl,hnar,sg9⟩|⟨hnar,rfl⟩
     ·simp only [sy.1,rL];refine hn _ _ (H1 _ ?_);clear hn hp K;rw [qEb hnar] at esnoc;refine reg fun K hn hp=> ?_;simp only [sy.1,rE,reduceIte,rL,g57,qL hi ha.m.lg];apply hn;clear hn hp K;refine ⟨⟨i+1,h',_,_,rfl,by omega,(by simp [xZZ,g2]),(by simp [xZZ,g3]),(by simp [xZZ,g4]),(by simp [xZZ,g55]),(by simp [xZZ,g56]),(by simp [xZZ]),bg9.frR fr sg9,bd60.nar hnar,esnoc⟩,by simpa [xZZ,muG] using (by omega:w.m.gs.length - (i+1)<w.m.gs.length - i)⟩
     ·simp only [sy.1];refine hp _ _ _ (H5 _ _ (G5 _ _ ⟨h',rfl,?_,?_⟩))
      ·exact bg9.fr.trans (fr.fr (by omega)) (by omega)
      ·rw [qEc hnar] at esnoc;have:Th.boundP w.m.T w.m.J (C - 1) w.m.F0 (w.m.gs.map gg) R=none:=by
        simp only [Th.boundP,qDu esnoc];rfl
       rw [this];exact ⟨_,_,rfl⟩
    ·refine qC false (by simp only [sy.1,reduceIte,hi]) (fun hx=>by cases hx) (fun _=> ?_);have hiN:i=w.m.gs.length:=by omega
     rw [hiN,List.take_length] at hga;clear hiN;refine qO (G2 _ ?_);refine qD ?_;have b3:=bg.b3;refine qA fun K hn hp=> ?_;simp only [sy.1,rE,reduceIte,rL,syw.1,hlen,g4,b3];apply hn;clear hn hp K;have hT:=hm.T;refine qF fun KI I1 I2 I3 I4 I5=> ?_;refine qQ (sok xt) (fun st=> ∃(r:Nat) (hr:Hp) (F':Nat->Nat->Int×Int) (tm:T AV),st=⟨tm,152,hr,[]⟩/\r<=R/\tm.get 2=some (.ptr (h.n+1) 0)/\tm.get 3=some (.ptr (h.n+2) 0)/\tm.get 4=some (.ptr (h.n+3) 0)/\tm.get 80=some (w.m.vc)/\tm.get 81=some (iv R)/\tm.get 82=some (iv r)/\BInv h w C hr v M R F'/\Bd F'/\Th.rowsP w.m.T w.m.J (C - 1) F r=some F') (fun st=>R - (match st.tm.get 82 with|some (.val (.int _ n))=>n.toNat|_=>0)) ?_ ?_
     ·rintro st ⟨r,hr,F',tm,rfl,hkI,g2,g3,g4,g80,g81,g82,br,br60,hrp⟩;have muI:=g82;refine qA fun K hn hp=> ?_;simp only [sy.1,rL,qZ,g81,g82];apply hn;clear hn hp K;by_cases hr':r<R
      ·refine qC true (by simp only [sy.1,reduceIte,hr']) (fun _=> ?_) (fun hx=>by cases hx);obtain ⟨rv,i1,i2,i3,i4⟩:=ha.m.rowF (i:=r) (by omega);have i2:=i2 hr br.fr;have hCr:=hm.hC r hr';rw [hCr] at i4;have hle:=br.le;have hhi:=br.hi;have stop:Th.rowP w.m.T w.m.J (C - 1) F' r=none->Th.boundP w.m.T w.m.J (C - 1) w.m.F0 (w.m.gs.map gg) R=none:=fun hq=>by
        have:Th.rowsP w.m.T w.m.J (C - 1) F (r+1)=none:=by simp only [Th.rowsP,hrp,xZX,hq]
        simp only [Th.boundP,hga,xZX];exact qBB (show r+1<=R by omega) this
       have crv:=i3.cells;have orv:=i3.one;refine qG ?_;refine qF fun KJ J1 J2 J3 J4 J5=> ?_;refine qA fun K hn hp=> ?_;simp only [sw.1,rE,reduceIte,rL,g80,g82,i1,i2,crv,orv];apply hn;clear hn hp K;obtain ⟨ha1,hha1⟩: ∃ha1:Hp,ha1=(hr.new (.cells [.val (.slice none 0 0)] 58)).set hr.n (.cells [rv] 58):=⟨_,rfl⟩;have nha1:ha1.n=hr.n+1:=by rw [hha1];rfl
       have sha1:ha1.t.get hr.n=some (.cells [rv] 58):=by rw [hha1,xZW,xZZ,if_pos rfl]
       have kha1: ∀k,k<hr.n->ha1.t.get k=hr.t.get k:=fun k hk=>by rw [hha1];exact zJ _ _ _ hk
       have fbha1:Fr hr.n hr ha1:=by rw [hha1];exact zK _ _ _
       have fha1:=fbha1;rw [<-hha1];refine qA fun K hn hp=> ?_;simp only [sy.1,rE,reduceIte,rL];apply hn;clear hn hp K;have wC:IntKind.i64.wrap ((C:Int) - 1)=((C - 1:Nat):Int):=by rw [qK _ (by omega) (by omega)];omega
       refine qD ?_;refine qA fun K hn hp=> ?_;simp only [sy.1,rE,reduceIte,rL,syw.1,i4,sha1,wC];apply hn;clear hn hp K;have ba:=br.keep fbha1 hhi;refine qF fun KL L1 L2 L3 L4 L5=> ?_;refine qQ (sok xt) (fun st=> ∃(c:Nat) (hl:Hp) (f:Nat->Int×Int) (tm:T AV),st=⟨tm,152,hl,[]⟩/\c<=(C - 1)/\tm.get 2=some (.ptr (h.n+1) 0)/\tm.get 3=some (.ptr (h.n+2) 0)/\tm.get 4=some (.ptr (h.n+3) 0)/\tm.get 12=some (iv r)/\tm.get 13=some (.ptr hr.n 0)/\tm.get 14=some (.fn (.func 187) [] [.ptr hr.n 0])/\tm.get 80=some (w.m.vc)/\tm.get 81=some (iv R)/\tm.get 82=some (iv r)/\tm.get 90=some (iv ((C - 1:Nat):Int))/\tm.get 91=some (iv c)/\BInv h w C hl v M R (Th.putRow F' r f)/\Bd (Th.putRow F' r f)/\hr.n<hl.n/\hl.t.get hr.n=some (.cells [rv] 58)/\Th.sweepR w.m.T (w.m.J r) (F' r) c=some f) (fun st=>(C - 1) - (match st.tm.get 91 with|some (.val (.int _ n))=>n.toNat|_=>0)) ?_ ?_
       ·rintro st ⟨c,hl,f,tm,rfl,hkL,g2,g3,g4,g12,g13,g14,g80,g81,g82,g90,g91,bl,bl60,e1,e2,hsw⟩;have muL:=g91;refine qA fun K hn hp=> ?_;simp only [sy.1,rL,qZ,g90,g91];apply hn;clear hn hp K;by_cases hc':c<C - 1
        ·refine qC true (by simp only [sy.1,reduceIte,hc']) (fun _=> ?_) (fun hx=>by cases hx);refine qG ?_;refine qF fun KN N1 N2 N3 N4 N5=> ?_;refine qA fun K hn hp=> ?_;simp only [sy.1,rE,reduceIte,rL,g91];apply hn;clear hn hp K;refine qA fun K hn hp=> ?_;simp only [sy.1,rE,reduceIte,rL,g14];refine kB (sok xt) (qEe xt hl hr.n rv (w.m.cells.getD r []) (i3.fr bl.fr (xZY _)) e2 c (by omega) (by omega) fun n1 hn1=> ?_);have hJ:(!decide ((w.m.cells.getD r []).getD c 0=1) && !decide ((w.m.cells.getD r []).getD (c+1) 0=1))=w.m.J r c:=rfl;rw [hJ];simp only [sy.1,rL];apply hn;clear hn hp K;obtain ⟨h11,hh11⟩: ∃h11,h11=hl.up n1:=⟨_,rfl⟩;have n11:hl.n<h11.n:=by rw [hh11];exact hn1
         have f11:Fr hl.n hl h11:=by rw [hh11];exact (xZS (xZY _)).up (Nat.le_of_lt hn1)
         rw [<-hh11];have bl11:=bl.keep f11 bl.hi;have e2':h11.t.get hr.n=some (.cells [rv] 58):=by rw [f11.at_ _ (.inl e1)];exact e2
         have hhi11:=bl11.hi;have sstep:=qDX hsw;cases qJ:w.m.J r c
         ·refine qH false (by simp only [sy.1,rE,reduceIte]) (fun hx=>by cases hx) (fun _=> ?_);refine qU (N1 _ ?_);simp only [Th.stepR,qJ,xZT,if_false] at sstep;refine reg fun K hn hp=> ?_;simp only [sy.1,rE,reduceIte,rL,g91,qL hc' (show C - 1<=9223372036854775807 by omega)];apply hn;clear hn hp K;refine ⟨⟨c+1,h11,f,_,rfl,by omega,(by simp [xZZ,g2]),(by simp [xZZ,g3]),(by simp [xZZ,g4]),(by simp [xZZ,g12]),(by simp [xZZ,g13]),(by simp [xZZ,g14]),(by simp [xZZ,g80]),(by simp [xZZ,g81]),(by simp [xZZ,g82]),(by simp [xZZ,g90]),(by simp [xZZ]),bl11,bl60,by omega,e2',sstep⟩,by simpa [xZZ,muL] using (by omega:(C - 1) - (c+1)<(C - 1) - c)⟩
         ·refine qH true (by simp only [sy.1,rE,reduceIte]) (fun _=> ?_) (fun hx=>by cases hx);simp only [Th.stepR,qJ,if_true] at sstep;obtain ⟨B,b,rws,z1,z2,z3,z4,z5,z6,z7,z8,z9,_⟩:=bl11.sg.at_ hr';rw [Th.putRow_at] at z4;have z10:=qAw (C:=C) (b:=b) (show c<C by omega);have z11:=pK (f:=f) (show c<C by omega);have b2:=bl11.b2;refine qA fun K hn hp=> ?_;simp only [sw.1,rE,reduceIte,rL,rA,g3,g12,z1,z2,z3,z4,z10,z11,b2];apply hn;clear hn hp K;obtain ⟨h12,hh12⟩: ∃h12:Hp,h12=(h11.new (.cells [iv 0,iv 0] 43)).set h11.n (.cells [iv (f c).1,iv (f c).2] 43):=⟨_,rfl⟩;have nh12:h12.n=h11.n+1:=by rw [hh12];rfl
          have sh12:h12.t.get h11.n=some (.cells [iv (f c).1,iv (f c).2] 43):=by rw [hh12,xZW,xZZ,if_pos rfl]
          have kh12: ∀k,k<h11.n->h12.t.get k=h11.t.get k:=fun k hk=>by rw [hh12];exact zJ _ _ _ hk
          have fbh12:Fr h11.n h11 h12:=by rw [hh12];exact zK _ _ _
          have fh12:=fbh12;rw [<-hh12];have b12:=bl11.keep fbh12 hhi11;have b2':=b12.b2;have b3':=b12.b3;have f60:=bl60 r c;rw [Th.putRow_at] at f60;have w3:=qL (k:=c) (n:=C) (by omega) (by omega);have w4:IntKind.i64.wrap ((f c).1 - w.m.T)=(f c).1 - w.m.T:=qK _ (by omega) (by omega);refine reg fun K hn hp=> ?_;simp only [sy.1,rE,reduceIte,rL,rA,g3,g4,g12,sh12,b2',b3',w3,w4,bd43];refine qB (sok xt) (FnA.mono (qBK xt h12 w ha.ones (h.n+4) M v R C _ b12.sg b12.le b12.hi r (c+1) hr' (by omega) _ _) fun res h' hres=> ?_);obtain ⟨fr,hres⟩:=hres;rw [Th.putRow_at,vO] at hres;rcases hres with ⟨x,rfl,hnar,sg9⟩|⟨hnar,rfl⟩
          ·simp only [sy.1,rL];refine hn _ _ (N1 _ ?_);clear hn hp K;have e3:h'.t.get hr.n=some (.cells [rv] 58):=by rw [fr.at_ _ (by omega),kh12 _ (by omega)];exact e2'
           have hb60:=bl60.nar (r:=r) (c:=c+1) (s:=((f c).1 - w.m.T,(f c).2)) (by rw [Th.putRow_at];exact hnar);rw [Th.putRow_at,vO] at hb60;have hle':=fr.le;refine reg fun K hn hp=> ?_;simp only [sy.1,rE,reduceIte,rL,g91,qL hc' (show C - 1<=9223372036854775807 by omega)];apply hn;clear hn hp K;refine ⟨⟨c+1,h',_,_,rfl,by omega,(by simp [xZZ,g2]),(by simp [xZZ,g3]),(by simp [xZZ,g4]),(by simp [xZZ,g12]),(by simp [xZZ,g13]),(by simp [xZZ,g14]),(by simp [xZZ,g80]),(by simp [xZZ,g81]),(by simp [xZZ,g82]),(by simp [xZZ,g90]),(by simp [xZZ]),b12.frR fr sg9,hb60,by omega,e3,by rw [sstep];exact qBJ hnar⟩,by simpa [xZZ,muL] using (by omega:(C - 1) - (c+1)<(C - 1) - c)⟩
          ·simp only [sy.1];refine hp _ _ _ (N5 _ _ (L5 _ _ (J5 _ _ (I5 _ _ ⟨h',rfl,?_,?_⟩))))
           ·exact b12.fr.trans (fr.fr (by have:=b12.le;omega)) (by omega)
           ·have hno:Th.stepR w.m.T (w.m.J r) f c=none:=by
             simp only [Th.stepR,qJ,if_true];exact gY hnar
            have:Th.rowP w.m.T w.m.J (C - 1) F' r=none:=by
             simp only [Th.rowP,qAT (show c+1<=C - 1 by omega) (by rw [sstep];exact gY hnar)];rfl
            rw [stop this];exact ⟨_,_,rfl⟩
        ·refine qC false (by simp only [sy.1,reduceIte,hc']) (fun hx=>by cases hx) (fun _=> ?_);have hcC:c=C - 1:=by omega
         rw [hcC] at hsw;clear hcC;refine qO (L2 _ ?_);have wC2:IntKind.i64.wrap ((C:Int) - 2)=(C:Int) - 2:=qK _ (by omega) (by omega);refine qA fun K hn hp=> ?_;simp only [sy.1,rE,reduceIte,rL,syw.1,i4,g13,e2,wC2];apply hn;clear hn hp K;refine jO fun KP P1 P2 P3 P4 P5=> ?_;refine qQ (sok xt) (fun st=> ∃(k:Nat) (hn:Hp) (g:Nat->Int×Int) (tm:T AV),st=⟨tm,152,hn,[]⟩/\k<=C - 1/\tm.get 2=some (.ptr (h.n+1) 0)/\tm.get 3=some (.ptr (h.n+2) 0)/\tm.get 4=some (.ptr (h.n+3) 0)/\tm.get 12=some (iv r)/\tm.get 13=some (.ptr hr.n 0)/\tm.get 14=some (.fn (.func 187) [] [.ptr hr.n 0])/\tm.get 17=some (iv ((C:Int) - 2 - k))/\tm.get 80=some w.m.vc/\tm.get 81=some (iv R)/\tm.get 82=some (iv r)/\BInv h w C hn v M R (Th.putRow F' r g)/\Bd (Th.putRow F' r g)/\hr.n<hn.n/\hn.t.get hr.n=some (.cells [rv] 58)/\Th.sweepL w.m.T (w.m.J r) f (C - 1)=Th.sweepL w.m.T (w.m.J r) g (C - 1 - k)) (fun st=>match st.tm.get 17 with|some (.val (.int _ x))=>(x+1).toNat|_=>0) ?_ ?_
         ·rintro st ⟨k,hn,g,tm,rfl,hkC,g2,g3,g4,g12,g13,g14,g17,g80,g81,g82,bn,bn60,p1,p2,hsl⟩;have mu17:=g17;refine qD ?_;have hck:decide ((0:Int)<=(C:Int) - 2 - k)=decide (k<C - 1):=by
           by_cases q:k<C - 1
           ·rw [decide_eq_true q];exact decide_eq_true (by omega)
           ·rw [decide_eq_false q];exact decide_eq_false (by omega)
          refine qA fun K hn hp=> ?_;simp only [sy.1,reduceIte,rL,g17,hck];apply hn;clear hn hp K;by_cases hk:k<C - 1
          ·refine qC true (by simp only [sy.1,rE,reduceIte,hk]) (fun _=> ?_) (fun hx=>by cases hx);obtain ⟨c,hcd⟩: ∃c,c=C - 2 - k:=⟨_,rfl⟩;have hcc:(C:Int) - 2 - k=(c:Int):=by omega
           rw [hcc] at g17 mu17;have hjc:C - 1 - k=c+1:=by omega
           have hjc':C - 1 - (k+1)=c:=by omega
           refine qG ?_;refine qF fun KN N1 N2 N3 N4 N5=> ?_;refine qA fun K hn' hp=> ?_;simp only [sy.1,rE,reduceIte,rL,g14,g17];refine kB (sok xt) (qEe xt hn hr.n rv (w.m.cells.getD r []) (i3.fr bn.fr (xZY _)) p2 c (by omega) (by omega) fun n1 hn1=> ?_);have hJ:(!decide ((w.m.cells.getD r []).getD c 0=1) && !decide ((w.m.cells.getD r []).getD (c+1) 0=1))=w.m.J r c:=rfl;rw [hJ];simp only [sy.1,rL];refine hn' _ _ ?_;clear hn' hp K;obtain ⟨h11,hh11⟩: ∃h11,h11=hn.up n1:=⟨_,rfl⟩;have n11:hn.n<h11.n:=by rw [hh11];exact hn1
           have f11:Fr hn.n hn h11:=by rw [hh11];exact (xZS (xZY _)).up (Nat.le_of_lt hn1)
           rw [<-hh11];have bl11:=bn.keep f11 bn.hi;have e2':h11.t.get hr.n=some (.cells [rv] 58):=by rw [f11.at_ _ (.inl p1)];exact p2
           have hhi11:=bl11.hi;have wk:IntKind.i64.wrap ((c:Int) - 1)=(c:Int) - 1:=qK _ (by omega) (by omega);have again: ∀(tm':T AV) (h':Hp) (g':Nat->Int×Int),tm'.get 2=some (.ptr (h.n+1) 0)->tm'.get 3=some (.ptr (h.n+2) 0)->tm'.get 4=some (.ptr (h.n+3) 0)->tm'.get 12=some (iv r)->tm'.get 13=some (.ptr hr.n 0)->tm'.get 14=some (.fn (.func 187) [] [.ptr hr.n 0])->tm'.get 17=some (iv c)->tm'.get 80=some w.m.vc->tm'.get 81=some (iv R)->tm'.get 82=some (iv r)->BInv h w C h' v M R (Th.putRow F' r g')->Bd (Th.putRow F' r g')->hr.n<h'.n->h'.t.get hr.n=some (.cells [rv] 58)->Th.stepL w.m.T (w.m.J r) g c=some g'->KN .normal ⟨tm',152,h',[]⟩:=by
            intro tm' h' g' g2 g3 g4 g12 g13 g14 g17 g80 g81 g82 b1 b2 b3 b4 b5;refine N1 _ ?_;refine reg fun K hn hp=> ?_;simp only [sy.1,rE,reduceIte,rL,g17,wk];apply hn;clear hn hp K;refine ⟨⟨k+1,h',g',_,rfl,by omega,(by simp [xZZ,g2]),(by simp [xZZ,g3]),(by simp [xZZ,g4]),(by simp [xZZ,g12]),(by simp [xZZ,g13]),(by simp [xZZ,g14]),?_,(by simp [xZZ,g80]),(by simp [xZZ,g81]),(by simp [xZZ,g82]),b1,b2,b3,b4,?_⟩,?_⟩
            ·have:(c:Int) - 1=(C:Int) - 2 - ((k+1:Nat):Int):=by omega
             rw [<-this];simp [xZZ]
            ·rw [hsl,hjc,hjc',qAU,b5];rfl
            ·simp only [xZZ,if_true,mu17];show ((c:Int) - 1+1).toNat<((c:Int)+1).toNat;omega
           have stopL:Th.stepL w.m.T (w.m.J r) g c=none->Th.rowP w.m.T w.m.J (C - 1) F' r=none:=fun hq=>by
            simp only [Th.rowP,hsw,xZX];rw [hsl,hjc,qAU,hq];rfl
           cases qJ:w.m.J r c
           ·refine qH false (by simp only [sy.1,rE,reduceIte]) (fun hx=>by cases hx) (fun _=> ?_);refine qU (again _ h11 g ?_ ?_ ?_ ?_ ?_ ?_ ?_ ?_ ?_ ?_ bl11 bn60 (by omega) e2' (by simp only [Th.stepL,qJ,xZT,if_false]));all_goals simp [xZZ,g2,g3,g4,g12,g13,g14,g17,g80,g81,g82]
           ·refine qH true (by simp only [sy.1,rE,reduceIte]) (fun _=> ?_) (fun hx=>by cases hx);have sstep:Th.stepL w.m.T (w.m.J r) g c=Th.narrow g c (Th.toL w.m.T (g (c+1))):=by simp only [Th.stepL,qJ,if_true]
            obtain ⟨B,b,rws,z1,z2,z3,z4,z5,z6,z7,z8,z9,_⟩:=bl11.sg.at_ hr';rw [Th.putRow_at] at z4;have w3:=qL (k:=c) (n:=C) (by omega) (by omega);have z10:=qAw (C:=C) (b:=b) (show c+1<C by omega);have z11:=pK (f:=g) (show c+1<C by omega);have b2:=bl11.b2;refine qA fun K hn hp=> ?_;simp only [sw.1,rE,reduceIte,rL,rA,g3,g12,g17,z1,z2,z3,z4,z10,z11,w3,b2];apply hn;clear hn hp K;obtain ⟨h12,hh12⟩: ∃h12:Hp,h12=(h11.new (.cells [iv 0,iv 0] 43)).set h11.n (.cells [iv (g (c+1)).1,iv (g (c+1)).2] 43):=⟨_,rfl⟩;have nh12:h12.n=h11.n+1:=by rw [hh12];rfl
            have sh12:h12.t.get h11.n=some (.cells [iv (g (c+1)).1,iv (g (c+1)).2] 43):=by rw [hh12,xZW,xZZ,if_pos rfl]
            have kh12: ∀k,k<h11.n->h12.t.get k=h11.t.get k:=fun k hk=>by rw [hh12];exact zJ _ _ _ hk
            have fbh12:Fr h11.n h11 h12:=by rw [hh12];exact zK _ _ _
            have fh12:=fbh12;rw [<-hh12];have b12:=bl11.keep fbh12 hhi11;have b2':=b12.b2;have b3':=b12.b3;have f60:=bn60 r (c+1);rw [Th.putRow_at] at f60;have w4:IntKind.i64.wrap ((g (c+1)).2+w.m.T)=(g (c+1)).2+w.m.T:=qK _ (by omega) (by omega);refine reg fun K hn' hp=> ?_;simp only [sy.1,rE,reduceIte,rL,rA,g3,g4,g12,g17,sh12,b2',b3',w4,bd43];refine qB (sok xt) (FnA.mono (qBK xt h12 w ha.ones (h.n+4) M v R C _ b12.sg b12.le b12.hi r c hr' (by omega) _ _) fun res h' hres=> ?_);obtain ⟨fr,hres⟩:=hres;rw [Th.putRow_at,vO] at hres;rcases hres with ⟨x,rfl,hnar,sg9⟩|⟨hnar,rfl⟩
            ·simp only [sy.1,rL];refine hn' _ _ ?_;clear hn' hp K;have e3:h'.t.get hr.n=some (.cells [rv] 58):=by rw [fr.at_ _ (by omega),kh12 _ (by omega)];exact e2'
             have hb60:=bn60.nar (r:=r) (c:=c) (s:=((g (c+1)).1,(g (c+1)).2+w.m.T)) (by rw [Th.putRow_at];exact hnar);rw [Th.putRow_at,vO] at hb60;have hle':=fr.le;refine again _ h' _ ?_ ?_ ?_ ?_ ?_ ?_ ?_ ?_ ?_ ?_ (b12.frR fr sg9) hb60 (by omega) e3 (by rw [sstep];exact qBJ hnar);all_goals simp [xZZ,g2,g3,g4,g12,g13,g14,g17,g80,g81,g82]
            ·simp only [sy.1];refine hp _ _ _ (N5 _ _ (P5 _ _ (J5 _ _ (I5 _ _ ⟨h',rfl,?_,?_⟩))))
             ·exact b12.fr.trans (fr.fr (by have:=b12.le;omega)) (by omega)
             ·rw [stop (stopL (by rw [sstep];exact gY hnar))];exact ⟨_,_,rfl⟩
          ·refine qC false (by simp only [sy.1,rE,reduceIte,hk]) (fun hx=>by cases hx) (fun _=> ?_);have hkC':C - 1 - k=0:=by omega
           rw [hkC'] at hsl;refine qO (P2 _ (J1 _ ?_));have hrow:Th.rowsP w.m.T w.m.J (C - 1) F (r+1)=some (Th.putRow F' r g):=by
            simp only [Th.rowsP,hrp,xZX,Th.rowP,hsw,hsl];rfl
           refine reg fun K hn hp=> ?_;simp only [sy.1,rE,reduceIte,rL,g82,qL hr' (show R<=9223372036854775807 by omega)];apply hn;clear hn hp K;refine ⟨⟨r+1,hn,_,_,rfl,by omega,(by simp [xZZ,g2]),(by simp [xZZ,g3]),(by simp [xZZ,g4]),(by simp [xZZ,g80]),(by simp [xZZ,g81]),(by simp [xZZ]),bn,bn60,hrow⟩,by simpa [xZZ,muI] using (by omega:R - (r+1)<R - r)⟩
         ·refine ⟨0,hl,f,_,rfl,Nat.zero_le _,?_,?_,?_,?_,?_,?_,?_,?_,?_,?_,bl,bl60,e1,e2,rfl⟩;all_goals simp [xZZ,g2,g3,g4,g12,g13,g14,g80,g81,g82]
       ·exact ⟨0,ha1,F' r,_,rfl,(by omega),(by simp [xZZ,g2]),(by simp [xZZ,g3]),(by simp [xZZ,g4]),(by simp [xZZ]),(by simp [xZZ]),(by simp [xZZ]),(by simp [xZZ,g80]),(by simp [xZZ,g81]),(by simp [xZZ,g82]),(by simp [xZZ]),(by simp [xZZ]),by rw [wZ];exact ba,by rw [wZ];exact br60,by omega,sha1,rfl⟩
      ·refine qC false (by simp only [sy.1,reduceIte,hr']) (fun hx=>by cases hx) (fun _=> ?_);have hrR:r=R:=by omega
       rw [hrR] at hrp;clear hrR;refine qO (I2 _ ?_);have hle:=br.le;have hhi:=br.hi;have b2:=br.b2;obtain ⟨z,zl,b1⟩:=br.b1;have onev:=br.sg.one;have px:jF 9 hr (h.n+1) 0 (.agg (w.bc v)) (some (.cells z 121))=some (hr.set (h.n+1) (.cells (w.bc v) 121)):=by
        rw [vY,if_pos ⟨rfl,by omega,by simp [kO,o1,o2,o3,o4,o5,onev,bX]⟩];have:z.drop (0+9)=[]:=List.drop_eq_nil_of_le (by omega);rw [this];rfl
       refine qA fun K hn hp=> ?_;simp only [sy.1,rE,reduceIte,rL,rA,g2,g3,b2,b1,px];refine hn _ _ (qE (gR (v:= .agg (w.bc v)) res143 ?_ ⟨?_,?_⟩))
       ·simp only [sy.1,rE,reduceIte,rA,g2]
       ·exact br.fr.set (by omega) (by omega) _
       ·have:Th.boundP w.m.T w.m.J (C - 1) w.m.F0 (w.m.gs.map gg) R=some F':=by
         simp only [Th.boundP,hga,xZX,hrp]
        rw [this];exact ⟨v,M,rfl,br.sg.keep fun k hk _=>by rw [xZW,xZZ,if_neg (by omega)],hle,hhi⟩
     ·exact ⟨0,hg,F,_,rfl,(by omega),(by simp [xZZ,g2]),(by simp [xZZ,g3]),(by simp [xZZ,g4]),(by simp [xZZ]),(by simp [xZZ]),(by simp [xZZ]),bg,bd60,rfl⟩
   ·exact ⟨0,hc,w.m.F0,_,rfl,(by omega),(by simp [xZZ,g2]),(by simp [xZZ,g3]),(by simp [xZZ,g4]),(by simp [xZZ]),(by simp [xZZ]),(by simp [xZZ]),bi,Bd.F0 _,rfl⟩
 ·exact ⟨0,_,h4,_,rfl,(by omega),(by simp [xZZ]),(by simp [xZZ]),(by simp [xZZ]),(by simp [xZZ]),(by simp [xZZ]),(by simp [xZZ]),B0⟩
end Go.Proofs.Kn
