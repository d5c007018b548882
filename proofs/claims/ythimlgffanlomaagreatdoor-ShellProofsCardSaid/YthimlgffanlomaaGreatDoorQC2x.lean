/- Parts. -/
import Derived.Test.YthimlgffanlomaaGreatDoorQC1x
set_option linter.all false
open Nat renaming reduceEqDiff → rE, reduceLeDiff → rD, reduceAdd → rA, reduceMul → rM, reduceLT → rL
open Go.Ev.T renaming get_put → xZZ
open List renaming getElem?_eq_getElem → xZY, mem_range → xZV, getElem?_eq_some_iff → xZU, take_of_length_le → xZT, getElem?_map → xZS, all_eq_true → xZP
open Nat renaming le_refl → xZX
open Go.Ev.Hp renaming up_up → xZW
open Go.Ev.FnA renaming walk → xZR, calm → xZQ
namespace Go.Proofs.Kn
open Go Go.Ev
set_option maxRecDepth 100000
set_option maxHeartbeats 4000000
def Wk.oneF (w:Wk) (b:Int×Int×List Int) (x:Nat×Nat):Bool:=decide (b.1=(x.1:Int)) && (decide (b.2.1=(x.2:Int)) && (decide ((b.2.2.length:Int)=(w.m.W:Int)) && okW b.2.2))
def Wk.allF (w:Wk) (bl:List (Int×Int×List Int)) (xs:List (Nat×Nat)):Bool:=decide (bl.length=xs.length) && (List.range xs.length).all fun i=>match bl[i]?,xs[i]? with|some b,some x=>w.oneF b x|_,_=>true
theorem allF_no {w:Wk} {bl:List (Int×Int×List Int)} {xs:List (Nat×Nat)} {i:Nat} {b:Int×Int×List Int} {x:Nat×Nat} (hb:bl[i]? =some b) (hx:xs[i]? =some x) (h:w.oneF b x=false):w.allF bl xs=false:=by
 rw [Wk.allF,Bool.and_eq_false_iff,List.all_eq_false];refine .inr ⟨i,xZV.2 (xZU.1 hx).1,?_⟩;simp only [hb,hx,h];decide
theorem qF8 {w:Wk} {bl:List (Int×Int×List Int)} {xs:List (Nat×Nat)} (hl:bl.length=xs.length) (h: ∀i b x,i<xs.length->bl[i]? =some b->xs[i]? =some x->w.oneF b x=true):w.allF bl xs=true:=by
 rw [Wk.allF,decide_eq_true hl,Bool.true_and,xZP];intro i hi;have hi:=xZV.1 hi;obtain ⟨b,hb⟩: ∃b,bl[i]? =some b:=⟨_,xZY (by omega)⟩;obtain ⟨x,hx⟩: ∃x,xs[i]? =some x:=⟨_,xZY hi⟩;simp only [hb,hx];exact h i b x hi hb hx
theorem allF_at {w:Wk} {bl:List (Int×Int×List Int)} {xs:List (Nat×Nat)} (h:w.allF bl xs=true) {i:Nat} {x:Nat×Nat} (hx:xs[i]? =some x):bl.length=xs.length/\ ∃b,bl[i]? =some b/\w.oneF b x=true:=by
 rw [Wk.allF,Bool.and_eq_true,decide_eq_true_eq,xZP] at h;have hi:=(xZU.1 hx).1;obtain ⟨b,hb⟩: ∃b,bl[i]? =some b:=⟨_,xZY (by omega)⟩;have:=h.2 i (xZV.2 hi);simp only [hb,hx] at this;exact ⟨h.1,b,hb,this⟩
theorem ft120 (xt:Xt):(SE xt).ft.get 44=some Tryz.f44:=by kernel_rfl
theorem qEj:Tryz.f44.results.toList=[.tmp 6]:=by kernel_rfl
theorem oneF_c (xt:Xt) (h:Hp) (w:Wk) (ha:w.At xt h) (his:w.Is) (v:AV) (onev:Go.Ev.one v=true) (b:Int×Int×List Int) (xw:AV) (hb:Nums xt h xw b.2.2) (x:Nat×Nat) (p7 p6:Nat) (l7:p7<h.n) (l6:p6<h.n) (s7:h.t.get p7=some (.cells (w.bc v) 85)) (s6:h.t.get p6=some (.cells [.val (.func (.func 40) #[] #[])] 95))
  {K:KP} (hk: ∀k,h.n<k->K (.ret (.val (.bool (w.oneF b x)))) (h.up k)):FnA (SE xt) 44 [.agg [iv b.1,iv b.2.1,xw],.agg [iv (x.1:Int),iv (x.2:Int),jI],.ptr p7 0,.ptr p6 0] h K:=by
 refine xZQ ?_ hk;clear hk K;refine xZR (sok xt) (ft120 xt) rfl 34 rfl ?_;have lenx:=hb.len;obtain ⟨o1,o2,o3,o4,o5⟩:=ha.ones;refine qA fun K hn hp=> ?_;simp only [sw.1,rE,reduceIte,rL,rA];obtain ⟨h1,hh1,n1,s1,k1,f1⟩:=yG h (.cells [iv b.1,iv b.2.1,xw] 52);obtain ⟨h2,hh2,n2,s2,k2,f2⟩:=bY f1 n1 (.cells [iv (x.1:Int),iv (x.2:Int),jI] 52);simp only [<-hh1,<-hh2];apply hn;clear hh1 hh2;simp only [rA] at n2;have u1:=(k2 h.n (by omega)).trans s1;have u7:=(f2.at_ p7 (.inl l7)).trans s7;have u6:=(f2.at_ p6 (.inl l6)).trans s6;have ha2:=ha.fr f2 (xZX _);have hb2:=hb.fr f2 (xZX _);by_cases d1:b.1=(x.1:Int)
 rotate_left
 ·refine qW (sok xt) 0 0 24 [(14,1),(15,1)] (by kernel_rfl) fun K hn hp=> ?_;simp only [sy.1,rE,reduceIte,rL,rA,syw.1,syb.down,u1,s2,decide_eq_false d1];refine hn _ _ (qD (qK qEj ⟨?_,f2⟩));simp [xZZ,Wk.oneF,d1]
 by_cases d2:b.2.1=(x.2:Int)
 rotate_left
 ·refine qW (sok xt) 0 0 24 [(14,1),(15,1)] (by kernel_rfl) fun K hn hp=> ?_;simp only [sy.1,rE,reduceIte,rL,rA,syw.1,syb.down,u1,s2,decide_eq_true d1,decide_eq_false d2];refine hn _ _ (qD (qK qEj ⟨?_,f2⟩));simp [xZZ,Wk.oneF,d2]
 refine qW (sok xt) 0 0 24 [(14,1),(15,1)] (by kernel_rfl) fun K hn hp=> ?_;simp only [sy.1,rE,reduceIte,rL,rA,syw.1,syb.down,lenx,u1,s2,u7,decide_eq_true d1,decide_eq_true d2];refine cAS (qES xt h2 w ha2 his v onev fun m3 hm3=> ?_);by_cases d3:(b.2.2.length:Int)=(w.m.W:Int)
 rotate_left
 ·simp only [sy.1,rE,reduceIte,rL,rA,syw.1,lenx,u1,decide_eq_false d3,hm3];refine hn _ _ (qD (qK qEj ⟨?_,f2.up (by omega)⟩));simp [xZZ,Wk.oneF,d3]
 simp only [sy.1,rE,reduceIte,rL,rA,syw.1,syb.down,lenx,u1,u6,decide_eq_true d3,hm3];refine cAS (badw_c xt (h2.up m3) xw b.2.2 (hb2.up (by omega)) fun m4 hm4=> ?_);simp only [Hp.up_n] at hm4;simp only [sy.1,rE,reduceIte,rL,xZW,Bool.not_not];refine hn _ _ (qD (qK qEj ⟨?_,f2.up (by omega)⟩));simp [xZZ,Wk.oneF,d1,d2,d3]
theorem ft119 (xt:Xt):(SE xt).ft.get 43=some Tryz.f43:=by kernel_rfl
theorem res119:Tryz.f43.results.toList=[.tmp 6]:=by kernel_rfl
theorem allF_c (xt:Xt) (h:Hp) (w:Wk) (ha:w.At xt h) (his:w.Is) (v:AV) (onev:Go.Ev.one v=true) (vb:AV) (bl:List (Int×Int×List Int)) (hb:BAt xt h vb bl) (zb:AV) (N:Nat) (ob:xK h N zb (fr0 (w.bnds w.m.cells.length))) (p7 p6:Nat) (l7:p7<h.n) (l6:p6<h.n) (s7:h.t.get p7=some (.cells (w.bc v) 85)) (s6:h.t.get p6=some (.cells [.val (.func (.func 40) #[] #[])] 95))
  {K:KP} (hk: ∀k,h.n<k->K (.ret (.val (.bool (w.allF bl (w.bnds w.m.cells.length))))) (h.up k)):FnA (SE xt) 43 [vb,zb,.fn (.func 44) [] [.ptr p7 0,.ptr p6 0]] h K:=by
 refine xZQ ?_ hk;clear hk K;refine xZR (sok xt) (ft119 xt) rfl 32 rfl ?_;have lenb:=hb.len;have hlt:=hb.lt;obtain ⟨xs,hxs⟩: ∃xs,xs=w.bnds w.m.cells.length:=⟨_,rfl⟩;rw [<-hxs] at ob ⊢;have lenz: ∀h':Hp,zI tb h' 32 zb=some xs.length:=fun h'=>by
  have:=OwnSl.len ob pY rfl (h':=h');simpa [fr0] using this
 have hd:decide ((bl.length:Int)=(xs.length:Int))=decide (bl.length=xs.length):=decide_eq_decide.2 (by omega);refine qA fun K hn hp=> ?_;simp only [sw.1,rL,rA];apply hn;refine jP ?_;by_cases e:bl.length=xs.length
 case neg=>
  refine qA fun K hn hp=> ?_;simp only [sy.1,rE,reduceIte,rL,syw.1,lenb,lenz,hd,decide_eq_false e];apply hn;refine qX (by simp only [sy.1,rE,reduceIte]) ?_;refine qB fun K hn hp=> ?_;simp only [sy.1,rL];apply hn;refine qS (qK res119 ⟨?_,Fr.refl (xZX _)⟩);simp [xZZ,Wk.allF,e]
 refine qA fun K hn hp=> ?_;simp only [sy.1,rE,reduceIte,rL,syw.1,lenb,lenz,hd,decide_eq_true e];apply hn;refine jL (by simp only [sy.1,rE,reduceIte]) ?_;refine qB fun K hn hp=> ?_;simp only [sy.1,rE,reduceIte,rL,syw.1,lenb];apply hn;refine qC fun KA A1 A2 A3 A4 A5=> ?_;refine qI (sok xt) (fun st=> ∃(k:Nat) (hg:Hp) (tm:T AV),st=⟨tm,32,hg,[]⟩/\k<=bl.length/\tm.get 0=some (vb)/\tm.get 1=some (zb)/\tm.get 2=some (.fn (.func 44) [] [.ptr p7 0,.ptr p6 0])/\tm.get 15=some (vb)/\tm.get 16=some (iv bl.length)/\tm.get 17=some (iv k)/\Fr h.n h hg/\ ∀i b x,i<k->bl[i]? =some b->xs[i]? =some x->w.oneF b x=true) (fun st=>bl.length - (match st.tm.get 17 with|some (.val (.int _ n))=>n.toNat|_=>0)) ?_ ?_
 ·rintro st ⟨k,hg,tm,rfl,hkA,g0,g1,g2,g15,g16,g17,fg,hall⟩;have muA:=g17;refine qA fun K hn hp=> ?_;simp only [sy.1,rL,qR,g16,g17];apply hn;have lg:=fg.lo;by_cases hk:k<bl.length
  ·refine qV (by simp only [sy.1,reduceIte,hk]) ?_;obtain ⟨b,hbk⟩: ∃b,bl[k]? =some b:=⟨_,xZY hk⟩;obtain ⟨x,hx⟩: ∃x,xs[k]? =some x:=⟨_,xZY (by omega)⟩;obtain ⟨p,p0,p1,p2,xw,⟨i1,_,_,_⟩,hld⟩:=hb.at_ k b hbk;obtain ⟨⟨l1,_,_,_⟩,hnx,_⟩:=hld hg fg;have hfx:(fr0 xs)[k]? =some ((x.1:Int),(x.2:Int),jI):=by rw [fr0,xZS,hx];rfl
   obtain ⟨bb,⟨_,_,hbb,_⟩,j1,j2⟩:=OwnSl.elt ob hfx xt;have onx:=hnx.one;refine qC fun KB B1 B2 B3 B4 B5=> ?_;refine qA fun K hn hp=> ?_;simp only [sw.1,rE,reduceIte,rL,rA,syb.down,g15,g17,i1,l1,onx];obtain ⟨h3,hh3,n3,s3,k3,f3⟩:=nsE hg (.cells [iv 0,iv 0,jI] 52) (.cells [iv b.1,iv b.2.1,xw] 52);rw [<-hh3];apply hn;clear hh3;have m1:zR 3 (h3.t.get bb) (k*3)=some (.agg [iv (x.1:Int),iv (x.2:Int),jI]):=by
    rw [<-ld118 xt h3 bb (k*3)];exact (j2 h3 ((f3.at_ bb (.inl (by omega))).trans (fg.at_ bb (.inl hbb)))).1
   refine qA fun K hn hp=> ?_;simp only [sw.1,rE,reduceIte,rL,rA,syb.down,g1,j1,m1];obtain ⟨h4,hh4,n4,s4,k4,f4⟩:=nsE h3 (.cells [iv 0,iv 0,jI] 52) (.cells [iv (x.1:Int),iv (x.2:Int),jI] 52);rw [<-hh4];apply hn;clear hh4;have s3':=(k4 hg.n (by omega)).trans s3;have fgh4:Fr hg.n hg h4:=f3.trans f4 (by omega);have fh4:Fr h.n h h4:=fg.trans fgh4 (by omega);rw [n3] at s4 n4;refine qA fun K hn hp=> ?_;simp only [sy.1,rE,reduceIte,rL,rA,syb.down,g2,s3',s4,n3];refine xI (sok xt) (oneF_c xt h4 w (ha.fr fh4 (xZX _)) his v onev b xw (hnx.fr fgh4 (xZX _)) x p7 p6 (by omega) (by omega) ((fh4.at_ p7 (.inl l7)).trans s7) ((fh4.at_ p6 (.inl l6)).trans s6) fun m5 hm5=> ?_);cases q:w.oneF b x
   ·simp only [sy.1,rE,reduceIte,rL];apply hn;refine wcT (by simp only [sy.1,rE,reduceIte]) ?_;refine qA fun K hn hp=> ?_;simp only [sy.1,rL];apply hn;refine qD (B4 _ (A4 _ (qK res119 ⟨?_,fh4.up (by omega)⟩)));simp [xZZ,allF_no hbk hx q]
   ·simp only [sy.1,rE,reduceIte,rL];apply hn;refine wcF (by simp only [sy.1,rE,reduceIte]) ?_;refine qN (B1 _ ?_);refine reg fun K hn hp=> ?_;simp only [sy.1,rE,reduceIte,rL,g17,qE hk hlt];apply hn;refine ⟨⟨k+1,h4.up m5,_,rfl,by omega,(by simp [xZZ,g0]),(by simp [xZZ,g1]),(by simp [xZZ,g2]),(by simp [xZZ,g15]),(by simp [xZZ,g16]),(by simp [xZZ]),fh4.up (by omega),fun i b' x' hi hb' hx'=> ?_⟩,by simpa [xZZ,muA] using (by omega:bl.length - (k+1)<bl.length - k)⟩;by_cases ei:i=k
    ·subst ei;rw [hbk] at hb';cases hb';rw [hx] at hx';cases hx';exact q
    ·exact hall i b' x' (by omega) hb' hx'
  ·refine qU (by simp only [sy.1,reduceIte,hk]) ?_;refine qG (A2 _ ?_);obtain rfl:k=bl.length:=by omega
   refine qA fun K hn hp=> ?_;simp only [sy.1,rL];apply hn;refine qD (qK res119 ⟨?_,fg⟩);simp [xZZ,qF8 e fun i b x hi=>hall i b x (by omega)]
 ·exact ⟨0,h,_,rfl,(by omega),(by simp [xZZ]),(by simp [xZZ]),(by simp [xZZ]),(by simp [xZZ]),(by simp [xZZ]),(by simp [xZZ]),Fr.refl (xZX _),fun i b x hi=>absurd hi (by omega)⟩
theorem ft56 (xt:Xt):(SE xt).ft.get 10=some Tryz.f10:=by kernel_rfl
theorem res56:Tryz.f10.results.toList=[.tmp 4]:=by kernel_rfl
theorem qGm {a b:List (Int×Int×List Int)} {k:Nat} {x y:Int×Int×List Int} (ha:a[k]? =some x) (hb:b[k]? =some y) (h:a.take k=b.take k) (e1:x.1=y.1) (e2:x.2.1=y.2.1) (e3:x.2.2=y.2.2):a.take (k+1)=b.take (k+1):=by
 obtain ⟨x1,x2,x3⟩:=x;obtain ⟨y1,y2,y3⟩:=y;simp only at e1 e2 e3;subst e1;subst e2;subst e3;rw [List.take_succ,List.take_succ,h,ha,hb]
theorem qCs {a b:List (Int×Int×List Int)} {k:Nat} {x y:Int×Int×List Int} (ha:a[k]? =some x) (hb:b[k]? =some y) (h: ¬(x.1=y.1/\x.2.1=y.2.1/\x.2.2=y.2.2)): ¬a=b:=by
 intro e;rw [e,hb] at ha;cases ha;exact h ⟨rfl,rfl,rfl⟩
theorem sameP_c (xt:Xt) (h:Hp) (u v ub vb:AV) (a b:List Int) (al bl:List (Int×Int×List Int)) (ha:Nums xt h u a) (hb:Nums xt h v b) (hal:BAt xt h ub al) (hbl:BAt xt h vb bl) {K:KP} (hk: ∀k,h.n<k->K (.ret (.val (.bool (decide (a=b/\al=bl))))) (h.up k)):FnA (SE xt) 10 [.agg [u,ub],.agg [v,vb]] h K:=by
 refine xZQ ?_ hk;clear hk K;refine xZR (sok xt) (ft56 xt) rfl 72 rfl ?_;have n1':=hal.len;have n2':=hbl.len;have hlt:=hal.lt;have hd:decide ((al.length:Int)=(bl.length:Int))=decide (al.length=bl.length):=decide_eq_decide.2 (by omega);refine qA fun K hn hp=> ?_;simp only [sw.1,rE,reduceIte,rL];obtain ⟨h1,hh1,n1,s1,k1,f1⟩:=yG h (.cells [u,ub] 34);obtain ⟨h2,hh2,n2,s2,k2,f2⟩:=bY f1 n1 (.cells [v,vb] 34);simp only [<-hh1,<-hh2];apply hn;clear hh1 hh2;simp only [rA] at n2;have u1:=(k2 h.n (by omega)).trans s1;refine qB fun K hn hp=> ?_;simp only [sy.1,rE,reduceIte,rL,syb.down,u1,s2];refine cAS (rsame_c xt h2 u v a b (ha.fr f2 (xZX _)) (hb.fr f2 (xZX _)) fun m3 hm3=> ?_);by_cases d1:a=b
 rotate_left
 ·simp only [sy.1,rE,reduceIte,rL,decide_eq_false d1];apply hn;refine qX (by simp only [sy.1,rE,reduceIte]) ?_;refine qB fun K hn hp=> ?_;simp only [sy.1,rL];apply hn;refine qS (qK res56 ⟨?_,f2.up (by omega)⟩);simp [xZZ,d1]
 by_cases d2:al.length=bl.length
 rotate_left
 ·simp only [sy.1,rE,reduceIte,rL,syw.1,syb.down,n1',n2',hd,u1,s2,decide_eq_true d1,decide_eq_false d2];apply hn;refine qX (by simp only [sy.1,rE,reduceIte]) ?_;refine qB fun K hn hp=> ?_;simp only [sy.1,rL];apply hn;refine qS (qK res56 ⟨?_,f2.up (by omega)⟩);have: ¬al=bl:=fun q=>d2 (by rw [q]);simp [xZZ,this]
 simp only [sy.1,rE,reduceIte,rL,syw.1,syb.down,n1',n2',hd,u1,s2,decide_eq_true d1,decide_eq_true d2];apply hn;refine jL (by simp only [sy.1,rE,reduceIte]) ?_;refine qB fun K hn hp=> ?_;simp only [sy.1,rL];apply hn;refine qC fun KA A1 A2 A3 A4 A5=> ?_;refine qI (sok xt) (fun st=> ∃(k:Nat) (m:Nat) (tm:T AV),st=⟨tm,72,h2.up m,[]⟩/\k<=al.length/\tm.get 2=some (.ptr h.n 0)/\tm.get 3=some (.ptr (h.n+1) 0)/\tm.get 5=some (iv k)/\h2.n<=m/\al.take k=bl.take k) (fun st=>al.length - (match st.tm.get 5 with|some (.val (.int _ n))=>n.toNat|_=>0)) ?_ ?_
 ·rintro st ⟨k,m,tm,rfl,hkA,g2,g3,g5,hm,hs⟩;have muA:=g5;refine qB fun K hn hp=> ?_;simp only [sy.1,rE,reduceIte,rL,syw.1,syb.down,n1',qR,u1,g2,g5];apply hn;by_cases hk:k<al.length
  ·refine qV (by simp only [sy.1,rE,reduceIte,hk]) ?_;obtain ⟨x,hx⟩: ∃x,al[k]? =some x:=⟨_,xZY hk⟩;obtain ⟨y,hy⟩: ∃y,bl[k]? =some y:=⟨_,xZY (by omega)⟩;obtain ⟨p,q0,q1,q2,xw,⟨i1,i2,i3,i4⟩,hld⟩:=hal.at_ k x hx;obtain ⟨⟨_,l1,l2,l3⟩,hnx,_⟩:=hld h2 f2;obtain ⟨p',q0',q1',q2',yw,⟨i1',i2',i3',i4'⟩,hld'⟩:=hbl.at_ k y hy;obtain ⟨⟨_,l1',l2',l3'⟩,hny,_⟩:=hld' h2 f2;have stop: ∀(tm:T AV) (m':Nat),h2.n<=m'-> ¬al=bl->tm.get 4=some (.val (.bool false))->xX (SE xt) Tryz.f10 (fun r h'=>r= .ret (.val (.bool (decide (a=b/\al=bl))))/\Fr h.n h h') .ret ⟨tm,72,h2.up m',[]⟩:=fun tm m' hm' hne g4=>by
    refine qK res56 ⟨?_,f2.up (by omega)⟩;simp [g4,hne]
   refine qC fun KB B1 B2 B3 B4 B5=> ?_;by_cases e1:x.1=y.1
   rotate_left
   ·refine qW (sok xt) 0 0 41 [] (by kernel_rfl) fun K hn hp=> ?_;simp only [sy.1,rE,reduceIte,rL,rA,syw.1,syb.down,u1,s2,g2,g3,g5,i1,i2,l1,i1',i2',l1',decide_eq_false e1];apply hn;refine wcT (by simp only [sy.1,rE,reduceIte]) ?_;refine qA fun K hn hp=> ?_;simp only [sy.1,rL];apply hn;exact qD (B4 _ (A4 _ (stop _ m hm (qCs hx hy fun q=>e1 q.1) (by simp [xZZ]))))
   by_cases e2:x.2.1=y.2.1
   rotate_left
   ·refine qW (sok xt) 0 0 41 [] (by kernel_rfl) fun K hn hp=> ?_;simp only [sy.1,rE,reduceIte,rL,rA,syw.1,syb.down,u1,s2,g2,g3,g5,i1,i2,i3,l1,l2,i1',i2',i3',l1',l2',decide_eq_true e1,decide_eq_false e2];apply hn;refine wcT (by simp only [sy.1,rE,reduceIte]) ?_;refine qA fun K hn hp=> ?_;simp only [sy.1,rL];apply hn;exact qD (B4 _ (A4 _ (stop _ m hm (qCs hx hy fun q=>e2 q.2.1) (by simp [xZZ]))))
   refine qW (sok xt) 0 0 41 [] (by kernel_rfl) fun K hn hp=> ?_;simp only [sy.1,rE,reduceIte,rL,rA,syw.1,syb.down,u1,s2,g2,g3,g5,i1,i2,i3,i4,l1,l2,l3,i1',i2',i3',i4',l1',l2',l3',decide_eq_true e1,decide_eq_true e2];refine cAS (rsame_c xt (h2.up m) xw yw x.2.2 y.2.2 (hnx.up hm) (hny.up hm) fun m5 hm5=> ?_);simp only [Hp.up_n] at hm5;by_cases e3:x.2.2=y.2.2
   rotate_left
   ·simp only [sy.1,rE,reduceIte,rL,decide_eq_false e3,xZW];apply hn;refine wcT (by simp only [sy.1,rE,reduceIte]) ?_;refine qA fun K hn hp=> ?_;simp only [sy.1,rL];apply hn;exact qD (B4 _ (A4 _ (stop _ m5 (by omega) (qCs hx hy fun q=>e3 q.2.2) (by simp [xZZ]))))
   simp only [sy.1,rE,reduceIte,rL,decide_eq_true e3,xZW];apply hn;refine wcF (by simp only [sy.1,rE,reduceIte]) ?_;refine qN (B1 _ ?_);refine reg fun K hn hp=> ?_;simp only [sy.1,rE,reduceIte,rL,g5,qE hk hlt];apply hn;refine ⟨⟨k+1,m5,_,rfl,by omega,(by simp [xZZ,g2]),(by simp [xZZ,g3]),(by simp [xZZ]),by omega,qGm hx hy hs e1 e2 e3⟩,by simpa [xZZ,muA] using (by omega:al.length - (k+1)<al.length - k)⟩
  ·refine qU (by simp only [sy.1,rE,reduceIte,hk]) ?_;refine qG (A2 _ ?_);obtain rfl:k=al.length:=by omega
   refine qA fun K hn hp=> ?_;simp only [sy.1,rL];apply hn;refine qD (qK res56 ⟨?_,f2.up hm⟩);have:al=bl:=by rwa [xZT (xZX _),xZT (by omega)] at hs
   simp [xZZ,d1,this]
 ·exact ⟨0,m3,_,rfl,(by omega),(by simp [xZZ]),(by simp [xZZ]),(by simp [xZZ]),by omega,rfl⟩
def Wk.isP (w:Wk) (rl:List Int) (bl:List (Int×Int×List Int)):Bool:=decide ((rl.length:Int)=(w.m.cells.length:Int)) && (okW rl && w.allF bl (w.bnds w.m.cells.length))
theorem ft59 (xt:Xt):(SE xt).ft.get 13=some Tryz.f13:=by kernel_rfl
theorem res59:Tryz.f13.results.toList=[.tmp 4]:=by kernel_rfl
theorem risP_c (xt:Xt) (h:Hp) (w:Wk) (ha:w.At xt h) (his:w.Is) (vr vb:AV) (rl:List Int) (bl:List (Int×Int×List Int)) (hr:Nums xt h vr rl) (hb:BAt xt h vb bl) {K:KP} (hk: ∀k,h.n<k->K (.ret (.val (.bool (w.isP rl bl)))) (h.up k)):FnA (SE xt) 13 [w.av,.agg [vr,vb]] h K:=by
 refine xZQ ?_ hk;clear hk K;refine xZR (sok xt) (ft59 xt) rfl 75 rfl ?_;obtain ⟨o1,o2,o3,o4,o5⟩:=ha.ones;have n1':=hr.len;have n3':=hb.len;refine qA fun K hn hp=> ?_;simp only [sw.1,rE,reduceIte,rL];obtain ⟨h1,hh1,n1,s1,k1,f1⟩:=yG h (.cells w.cs 30);obtain ⟨h2,hh2,n2,s2,k2,f2⟩:=bY f1 n1 (.cells [vr,vb] 34);simp only [<-hh1,<-hh2];apply hn;clear hh1 hh2;simp only [rA] at n2;have u2:=(k2 h.n (by omega)).trans s1;have ha2:=ha.fr f2 (xZX _);refine qA fun K hn hp=> ?_;simp only [sy.1,rE,reduceIte,rL,rA,u2];refine cAS (FnA.mono (qFi xt h2 w ha2 his) fun res h3 hres=> ?_);obtain ⟨zb,rfl,ob,f3,lt3⟩:=hres;simp only [sy.1,rE,reduceIte,rL];apply hn;obtain ⟨xs,hxs⟩: ∃xs,xs=w.bnds w.m.cells.length:=⟨_,rfl⟩;have eisP:w.isP rl bl=(decide ((rl.length:Int)=(w.m.cells.length:Int)) && (okW rl && w.allF bl xs)):=by rw [hxs];rfl
 rw [eisP];have hxl:xs.length<=1000:=by
  have:=xJ his w.m.cells.length;have:=his.m.r6;rw [hxs];omega
 rw [<-hxs] at ob;have lenz: ∀h':Hp,zI tb h' 32 zb=some xs.length:=fun h'=>by
  have:=OwnSl.len ob pY rfl (h':=h');simpa [fr0] using this
 have f3h:=f2.trans f3 (by omega);have u3:=(f3.at_ h.n (.inl (by omega))).trans u2;have v3:=(f3.at_ (h.n+1) (.inl (by omega))).trans s2;have ha3:=ha.fr f3h (xZX _);have hr3:=hr.fr f3h (xZX _);have hb3:=hb.fr f3h (xZX _);have hd:decide ((bl.length:Int)=(xs.length:Int))=decide (bl.length=xs.length):=decide_eq_decide.2 (by omega);clear hxs eisP;refine zH (fun tm=>tm.get 2=some (.ptr h.n 0)/\tm.get 3=some (.ptr (h.n+1) 0)/\tm.get 5=some zb) ⟨by simp [xZZ],by simp [xZZ],by simp [xZZ]⟩ fun tm ht=> ?_;obtain ⟨g2,g3,g5⟩:=ht;refine jP ?_;refine qW (sok xt) 0 0 19 [(1,1),(2,1)] (by kernel_rfl) fun K hn hp=> ?_;simp only [sy.1,rE,reduceIte,rL,rA,rD,syw.1,syb.down,n1',u3,v3,g2,g3];refine cAS (kH xt h3 w.m ha3.m fun m4 hm4=> ?_);by_cases d1:(rl.length:Int)=(w.m.cells.length:Int)
 rotate_left
 ·simp only [sy.1,rE,reduceIte,rL,rA,syw.1,n1',v3,decide_eq_false d1,hm4];apply hn;refine qX (by simp only [sy.1,rE,reduceIte]) ?_;refine qB fun K hn hp=> ?_;simp only [sy.1,rL];apply hn;refine qS (qK res59 ⟨?_,f3h.up (by omega)⟩);simp [xZZ,d1]
 simp only [sy.1,rE,reduceIte,rL,rA,syw.1,syb.down,v3,g3,decide_eq_true d1,hm4];refine cAS (qCt xt (h3.up m4) vr rl (hr3.up (by omega)) fun m5 hm5=> ?_);simp only [Hp.up_n] at hm5;cases d2:okW rl
 ·simp only [sy.1,rE,reduceIte,rL,rA,syw.1,n1',v3,hm5,xZW];apply hn;refine qX (by simp only [sy.1,rE,reduceIte]) ?_;refine qB fun K hn hp=> ?_;simp only [sy.1,rL];apply hn;refine qS (qK res59 ⟨?_,f3h.up (by omega)⟩);simp [xZZ,d1,d2]
 by_cases d3:bl.length=xs.length
 rotate_left
 ·simp only [sy.1,rE,reduceIte,rL,rA,syw.1,syb.down,n1',n3',v3,lenz,hd,g3,g5,decide_eq_false d3,hm5,xZW];apply hn;refine qX (by simp only [sy.1,rE,reduceIte]) ?_;refine qB fun K hn hp=> ?_;simp only [sy.1,rL];apply hn;refine qS (qK res59 ⟨?_,f3h.up (by omega)⟩);simp [xZZ,d1,Wk.allF,d3]
 simp only [sy.1,rE,reduceIte,rL,rA,syw.1,syb.down,n1',n3',v3,lenz,hd,g3,g5,decide_eq_true d3,hm5,xZW];apply hn;refine jL (by simp only [sy.1,rE,reduceIte]) ?_;refine qB fun K hn hp=> ?_;simp only [sy.1,rL];apply hn;refine qC fun KA A1 A2 A3 A4 A5=> ?_;refine qI (sok xt) (fun st=> ∃(k:Nat) (hg:Hp) (tm:T AV),st=⟨tm,75,hg,[]⟩/\k<=xs.length/\tm.get 2=some (.ptr h.n 0)/\tm.get 3=some (.ptr (h.n+1) 0)/\tm.get 5=some (zb)/\tm.get 6=some (iv k)/\Fr h3.n h3 hg/\ ∀i b x,i<k->bl[i]? =some b->xs[i]? =some x->w.oneF b x=true) (fun st=>xs.length - (match st.tm.get 6 with|some (.val (.int _ n))=>n.toNat|_=>0)) ?_ ?_
 ·rintro st ⟨k,hg,tm,rfl,hkA,g2,g3,g5,g6,fg,hall⟩;have muA:=g6;have lg:=fg.lo;have fgh:=f3h.trans fg (by omega);have ug:=(fg.at_ h.n (.inl (by omega))).trans u3;have vg:=(fg.at_ (h.n+1) (.inl (by omega))).trans v3;refine qB fun K hn hp=> ?_;simp only [sy.1,rE,reduceIte,rL,syw.1,qR,lenz,g5,g6];apply hn;by_cases hk:k<xs.length
  ·refine qV (by simp only [sy.1,rE,reduceIte,hk]) ?_;obtain ⟨b,hbk⟩: ∃b,bl[k]? =some b:=⟨_,xZY (by omega)⟩;obtain ⟨x,hx⟩: ∃x,xs[k]? =some x:=⟨_,xZY hk⟩;obtain ⟨p,p0,q1,q2,xw,⟨i1,_,_,_⟩,hld⟩:=hb3.at_ k b hbk;obtain ⟨⟨l1,_,_,_⟩,hnx,_⟩:=hld hg fg;have hfx:(fr0 xs)[k]? =some ((x.1:Int),(x.2:Int),jI):=by rw [fr0,xZS,hx];rfl
   obtain ⟨bb,⟨_,_,hbb,hbc⟩,j1,j2⟩:=OwnSl.elt ob hfx xt;obtain ⟨c1,c2,_⟩:=qBq hfx;have onx:=hnx.one;have lenx:=hnx.len;refine qC fun KB B1 B2 B3 B4 B5=> ?_;refine qA fun K hn hp=> ?_;simp only [sw.1,rE,reduceIte,rL,rA,syb.down,g3,g6,vg,i1,l1,onx];obtain ⟨h5,hh5,n5,s5,k5,f5⟩:=nsE hg (.cells [iv 0,iv 0,jI] 52) (.cells [iv b.1,iv b.2.1,xw] 52);rw [<-hh5];apply hn;clear hh5;have bb5:=(f5.at_ bb (.inl (by omega))).trans ((fg.at_ bb (.inl hbb)).trans hbc);have u5:=(f5.at_ h.n (.inl (by omega))).trans ug;have f5h:=fgh.trans f5 (by omega);have hnx5:=hnx.fr f5 (xZX _);have ha5:=ha.fr f5h (xZX _);have stop: ∀(tm:T AV) (m':Nat),h5.n<=m'->w.oneF b x=false->tm.get 4=some (.val (.bool false))->xX (SE xt) Tryz.f13 (fun r h'=>r= .ret (.val (.bool (decide ((rl.length:Int)=(w.m.cells.length:Int)) && (okW rl && w.allF bl xs))))/\Fr h.n h h') .ret ⟨tm,75,h5.up m',[]⟩:=fun tm m' hm' hne g4=>by
    refine qK res59 ⟨?_,f5h.up hm'⟩;simp [g4,allF_no hbk hx hne]
   by_cases e1:b.1=(x.1:Int)
   rotate_left
   ·refine qW (sok xt) 0 0 25 [(20,1),(21,1)] (by kernel_rfl) fun K hn hp=> ?_;simp only [sy.1,rE,reduceIte,rL,rA,syw.1,syb.down,g5,g6,s5,bb5,j1,c1,decide_eq_false e1];apply hn;refine wcT (by simp only [sy.1,rE,reduceIte]) ?_;refine qA fun K hn hp=> ?_;simp only [sy.1,rL];apply hn;exact qD (B4 _ (A4 _ (stop _ h5.n (xZX _) (by simp [Wk.oneF,e1]) (by simp [xZZ]))))
   by_cases e2:b.2.1=(x.2:Int)
   rotate_left
   ·refine qW (sok xt) 0 0 25 [(20,1),(21,1)] (by kernel_rfl) fun K hn hp=> ?_;simp only [sy.1,rE,reduceIte,rL,rA,syw.1,syb.down,g5,g6,s5,bb5,j1,c1,c2,decide_eq_true e1,decide_eq_false e2];apply hn;refine wcT (by simp only [sy.1,rE,reduceIte]) ?_;refine qA fun K hn hp=> ?_;simp only [sy.1,rL];apply hn;exact qD (B4 _ (A4 _ (stop _ h5.n (xZX _) (by simp [Wk.oneF,e2]) (by simp [xZZ]))))
   refine qW (sok xt) 0 0 25 [(20,1),(21,1)] (by kernel_rfl) fun K hn hp=> ?_;simp only [sy.1,rE,reduceIte,rL,rA,rD,syw.1,syb.down,g2,g5,g6,s5,bb5,u5,j1,c1,c2,lenx,decide_eq_true e1,decide_eq_true e2];refine cAS (kK xt h5 w.m ha5.m fun m6 hm6=> ?_);by_cases e3:(b.2.2.length:Int)=(w.m.W:Int)
   rotate_left
   ·simp only [sy.1,rE,reduceIte,rL,rA,syw.1,s5,lenx,decide_eq_false e3,hm6];apply hn;refine wcT (by simp only [sy.1,rE,reduceIte]) ?_;refine qA fun K hn hp=> ?_;simp only [sy.1,rL];apply hn;exact qD (B4 _ (A4 _ (stop _ m6 (by omega) (by simp [Wk.oneF,e3]) (by simp [xZZ]))))
   simp only [sy.1,rE,reduceIte,rL,rA,syw.1,syb.down,s5,lenx,decide_eq_true e3,hm6];refine cAS (qCt xt (h5.up m6) xw b.2.2 (hnx5.up (by omega)) fun m7 hm7=> ?_);simp only [Hp.up_n] at hm7;cases e4:okW b.2.2
   ·simp only [sy.1,rE,reduceIte,rL,xZW];apply hn;refine wcT (by simp only [sy.1,rE,reduceIte]) ?_;refine qA fun K hn hp=> ?_;simp only [sy.1,rL];apply hn;exact qD (B4 _ (A4 _ (stop _ m7 (by omega) (by simp [Wk.oneF,e4]) (by simp [xZZ]))))
   simp only [sy.1,rE,reduceIte,rL,xZW];apply hn;refine wcF (by simp only [sy.1,rE,reduceIte]) ?_;refine qN (B1 _ ?_);refine reg fun K hn hp=> ?_;simp only [sy.1,rE,reduceIte,rL,g6,qE hk (show xs.length<=9223372036854775807 by omega)];apply hn;refine ⟨⟨k+1,h5.up m7,_,rfl,by omega,(by simp [xZZ,g2]),(by simp [xZZ,g3]),(by simp [xZZ,g5]),(by simp [xZZ]),(fg.trans f5 (by omega)).up (by omega),fun i b' x' hi hb' hx'=> ?_⟩,by simpa [xZZ,muA] using (by omega:xs.length - (k+1)<xs.length - k)⟩;by_cases ei:i=k
   ·subst ei;rw [hbk] at hb';cases hb';rw [hx] at hx';cases hx';rw [Wk.oneF,decide_eq_true e1,decide_eq_true e2,decide_eq_true e3,e4];rfl
   ·exact hall i b' x' (by omega) hb' hx'
  ·refine qU (by simp only [sy.1,rE,reduceIte,hk]) ?_;refine qG (A2 _ ?_);obtain rfl:k=xs.length:=by omega
   refine qA fun K hn hp=> ?_;simp only [sy.1,rL];apply hn;refine qD (qK res59 ⟨?_,fgh⟩);simp [xZZ,d1,d2,qF8 d3 hall]
 ·exact ⟨0,h3.up m5,_,rfl,(by omega),(by simp [xZZ,g2]),(by simp [xZZ,g3]),(by simp [xZZ,g5]),(by simp [xZZ]),(Fr.refl (xZX _)).up (by omega),fun i b x hi=>absurd hi (by omega)⟩
end Go.Proofs.Kn
