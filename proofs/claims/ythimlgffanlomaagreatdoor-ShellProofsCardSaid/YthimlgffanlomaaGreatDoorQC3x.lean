/- Parts. -/
import Derived.Test.YthimlgffanlomaaGreatDoorQC2x
set_option linter.all false
open Nat renaming reduceEqDiff → rE, reduceLeDiff → rD, reduceAdd → rA, reduceMul → rM, reduceLT → rL
open Go.Ev.T renaming get_put → xZZ
open Nat renaming le_refl → xZY
open Go.Ev.Hp renaming set_t → xZX, up_n → xZT, set_n → xZR, up_up → xZO
open List renaming all_eq_true → xZW, getElem?_eq_getElem → xZV, mem_range → xZU, all_eq_false → xZQ, getElem?_eq_some_iff → xZP, length_take → xZM
open Bool renaming and_eq_true → xZS
open Go.Ev.Fr renaming refl → xZN
namespace Go.Proofs.Kn
open Go Go.Ev
set_option maxRecDepth 100000
set_option maxHeartbeats 4000000
theorem end_cm {E:Env} {fn:Func} {K:KP} {tm:T AV} {nt:Nat} {h h':Hp} {mks:List Nat} {t:Tmp} {ty:TypeId} {v:AV} (h1:fn.results.toList=[.cell t ty]) (hd:vK mks h=some h') (h2:qO E.tb E.xt h' ty ((tm.get t).getD default)=some v) (h3:K (.ret v) h'):xX E fn K .ret ⟨tm,nt,h,mks⟩:=by
 refine ⟨h',[v],hd,?_,h3⟩;have e1:(match tm.get t with|some a=>a|none=>default)=(tm.get t).getD default:=by cases tm.get t<;>rfl
 rw [h1];show (match qO E.tb E.xt h' ty (match tm.get t with|some a=>a|none=>default) with|none=>none|some v=>match vO E tm h' [] with|none=>none|some l=>some (v::l))=_;rw [e1,h2];rfl
theorem isEf_sl {t:TypeId} {x:Operand} {lo hi m:Option Operand}:zY (.slice t x lo hi m)=false:=rfl
theorem isRd_sl {t:TypeId} {x:Operand} {lo hi m:Option Operand}:zT (.slice t x lo hi m)=true:=rfl
theorem isCall_sl {t:TypeId} {x:Operand} {lo hi m:Option Operand}:jO (.slice t x lo hi m)=false:=rfl
def Wk.prv1 (w:Wk) (G:Th.Grid) (rl l:List Int) (x:Nat×Nat):Bool:=decide (l.sum<=seg rl x.1 x.2) && (List.range w.m.W).all fun c=>(List.range w.ts.length).all fun k=> !w.sel x.2 (Wk.blkK x.1 c k) || decide (w.lv G (Wk.blkK x.1 c k)<=seg l c x.2)
def Wk.prvs (w:Wk) (G:Th.Grid) (rl:List Int) (bl:List (Int×Int×List Int)) (xs:List (Nat×Nat)):Bool:=(List.range xs.length).all fun i=>match bl[i]?,xs[i]? with|some b,some x=>w.prv1 G rl b.2.2 x|_,_=>true
section
variable {w:Wk} {G:Th.Grid} {rl l:List Int} {bl:List (Int×Int×List Int)} {xs:List (Nat×Nat)} {i:Nat} {b:Int×Int×List Int} {x:Nat×Nat}
theorem qB5 (hb:bl[i]? =some b) (hx:xs[i]? =some x) (h:w.prv1 G rl b.2.2 x=false):w.prvs G rl bl xs=false:=by
 rw [Wk.prvs,xZQ];refine ⟨i,xZU.2 (xZP.1 hx).1,?_⟩;simp only [hb,hx,h];decide
theorem qFk (h: ∀i b x,i<xs.length->bl[i]? =some b->xs[i]? =some x->w.prv1 G rl b.2.2 x=true):w.prvs G rl bl xs=true:=by
 rw [Wk.prvs,xZW];intro i hi;have hi:=xZU.1 hi;obtain ⟨x,hx⟩: ∃x,xs[i]? =some x:=⟨_,xZV hi⟩;cases hb:bl[i]? with
 |none=>rfl
 |some b=>
  simp only [hx];exact h i b x hi hb hx
theorem qFm (h:seg rl x.1 x.2<l.sum):w.prv1 G rl l x=false:=by
 rw [Wk.prv1,decide_eq_false (by omega)];rfl
theorem prv1_no {c k:Nat} (hc:c<w.m.W) (hk:k<w.ts.length) (hs:w.sel x.2 (Wk.blkK x.1 c k)=true) (h:seg l c x.2<w.lv G (Wk.blkK x.1 c k)):w.prv1 G rl l x=false:=by
 rw [Wk.prv1,Bool.and_eq_false_iff,xZQ];refine .inr ⟨c,xZU.2 hc,?_⟩;rw [Bool.not_eq_true,xZQ];refine ⟨k,xZU.2 hk,?_⟩;rw [hs,decide_eq_false (by omega)];decide
theorem qFl (h: ¬seg rl x.1 x.2<l.sum) (h2: ∀c k,c<w.m.W->k<w.ts.length->w.sel x.2 (Wk.blkK x.1 c k)=true-> ¬seg l c x.2<w.lv G (Wk.blkK x.1 c k)):w.prv1 G rl l x=true:=by
 rw [Wk.prv1,decide_eq_true (by omega),Bool.true_and,xZW];intro c hc;rw [xZW];intro k hk;cases q:w.sel x.2 (Wk.blkK x.1 c k)
 ·rfl
 ·have:=h2 c k (xZU.1 hc) (xZU.1 hk) q;rw [decide_eq_true (by omega)];rfl
end
theorem okW_mem {l:List Int} (h:okW l=true) {y:Int} (hy:y∈l):0<=y/\y<=1000000:=by
 have:=xZW.1 h y hy;exact kQ.1 this
theorem qEn {l:List Int} (h:okW l=true) (a n:Nat):okW ((l.drop a).take n)=true:=by
 rw [okW,xZW];intro y hy;exact xZW.1 h y (List.mem_of_mem_drop (List.mem_of_mem_take hy))
theorem qBk {l:List Int} (h:okW l=true): ∀k,k<=l.length->0<=kM l k/\kM l k<=1000000*(k:Int)
 |0,_=>by simp [kM]
 |k+1,hk=>by
  have ih:=qBk h k (by omega);have e:l.getD k 0∈l:=by
   rw [List.getD_eq_getElem?_getD,xZV (by omega)];exact List.getElem_mem (by omega)
  have:=okW_mem h e;rw [kM];omega
theorem isP_at {w:Wk} {rl:List Int} {bl:List (Int×Int×List Int)} (h:w.isP rl bl=true):rl.length=w.m.cells.length/\okW rl=true/\ ∀(i:Nat) (b:Int×Int×List Int),bl[i]? =some b-> ∃x,(w.bnds w.m.cells.length)[i]? =some x/\b.1=(x.1:Int)/\b.2.1=(x.2:Int)/\b.2.2.length=w.m.W/\okW b.2.2=true:=by
 simp only [Wk.isP,xZS,decide_eq_true_eq] at h;refine ⟨by omega,h.2.1,fun i b hb=> ?_⟩;have hl:bl.length=(w.bnds w.m.cells.length).length:=by
  have:=h.2.2;rw [Wk.allF,xZS,decide_eq_true_eq] at this;exact this.1
 obtain ⟨x,hx⟩: ∃x,(w.bnds w.m.cells.length)[i]? =some x:=⟨_,xZV (by have:=(xZP.1 hb).1;omega)⟩;obtain ⟨_,b',hb',h1⟩:=allF_at h.2.2 hx;rw [hb] at hb';cases hb';simp only [Wk.oneF,xZS,decide_eq_true_eq] at h1;exact ⟨x,hx,h1.1,h1.2.1,by omega,h1.2.2.2⟩
theorem isP_len {w:Wk} {rl:List Int} {bl:List (Int×Int×List Int)} (h:w.isP rl bl=true):bl.length=(w.bnds w.m.cells.length).length:=by
 simp only [Wk.isP,xZS,decide_eq_true_eq,Wk.allF] at h;exact h.2.2.1
theorem ft122 (xt:Xt):(SE xt).ft.get 46=some Tryz.f46:=by kernel_rfl
theorem res122:Tryz.f46.results.toList=[.cell 4 4]:=by kernel_rfl
theorem proves_c (xt:Xt) (h:Hp) (w:Wk) (his:w.Is) (N M:Nat) (v:AV) (G:Th.Grid) (hbd:w.Bd xt h N M v G) (hbn:w.m.bnd=some G) (vr vb:AV) (rl:List Int) (bl:List (Int×Int×List Int)) (hr:Nums xt h vr rl) (cr:xH vr) (hb:BAt xt h vb bl) (hP:w.isP rl bl=true):
  FnA (SE xt) 46 [.agg (w.bc v),.agg [vr,vb]] h (fun res h'=>res= .ret (.val (.bool (w.prvs G rl bl (w.bnds w.m.cells.length))))/\Fr h.n h h'):=by
 refine FnA.walk (sok xt) (ft122 xt) rfl 59 rfl ?_;obtain ⟨o1,o2,o3,o4,o5⟩:=hbd.at_.ones;have onev:=hbd.sg.one;have lenb:=hb.len;have hlt:=hb.lt;have c8:=his.m.c8;have r6:=his.m.r6;obtain ⟨P1,P2,P3⟩:=isP_at hP;have P4:=isP_len hP;have hnb:=xJ his w.m.cells.length;obtain ⟨xs,hxs⟩: ∃xs,xs=w.bnds w.m.cells.length:=⟨_,rfl⟩;rw [<-hxs] at P3 P4 hnb ⊢;refine qA fun K hn hp=> ?_;simp only [sw.1,rE,reduceIte,rL];obtain ⟨h1,hh1,n1,s1,k1,f1⟩:=yG h (.cells (w.bc v) 85);obtain ⟨h2,hh2,n2,s2,k2,f2⟩:=bY f1 n1 (.cells [vr,vb] 34);obtain ⟨h3,hh3,n3,s3,k3,f3⟩:=bY f2 n2 (.cells [.val (.bool false)] 4);simp only [<-hh1,<-hh2,<-hh3];apply hn;clear hh1 hh2 hh3;simp only [rA] at n2 n3 s3 k3;have u3:=(k3 h.n (by omega)).trans ((k2 h.n (by omega)).trans s1);have v3:=(k3 (h.n+1) (by omega)).trans s2;have hr3:=hr.fr f3 (xZY _);have hb3:=hb.fr f3 (xZY _);have bd3:=hbd.fr f3 (xZY _);refine zH (fun tm=>tm.get 2=some (.ptr h.n 0)/\tm.get 3=some (.ptr (h.n+1) 0)/\tm.get 4=some (.ptr (h.n+2) 0)) ⟨by simp [xZZ],by simp [xZZ],by simp [xZZ]⟩ fun tm ht=> ?_;obtain ⟨g2,g3,g4⟩:=ht;have stop: ∀(tm:T AV) (hx:Hp) (mks:List Nat),tm.get 4=some (.ptr (h.n+2) 0)->hx.t.get (h.n+2)=some (.cells [.val (.bool false)] 4)->Fr h.n h hx->h3.n<=hx.n->Mks h3.n hx mks->w.prvs G rl bl xs=false->xX (SE xt) Tryz.f46 (fun res h'=>res= .ret (.val (.bool (w.prvs G rl bl xs)))/\Fr h.n h h') .ret ⟨tm,59,hx,mks⟩:=by
  intro tm hx mks q4 qx qf ql qm qp;obtain ⟨h9,d1,d2⟩:=qm.del (xZN (h:=hx) ql);have x9:=(d2.at_ (h.n+2) (.inl (by omega))).trans qx;refine end_cm (v:= .val (.bool false)) res122 d1 ?_ ⟨by rw [qp],qf.trans d2 (by omega)⟩;rw [q4];simp only [sy.1,x9]
 refine qB fun K hn hp=> ?_;simp only [sy.1,rE,reduceIte,rL,syw.1,syb.down,lenb,g3,v3];apply hn;refine qC fun KA A1 A2 A3 A4 A5=> ?_;refine qI (sok xt) (fun st=> ∃(i:Nat) (hg:Hp) (mks:List Nat) (tm:T AV),st=⟨tm,59,hg,mks⟩/\i<=bl.length/\tm.get 2=some (.ptr h.n 0)/\tm.get 3=some (.ptr (h.n+1) 0)/\tm.get 4=some (.ptr (h.n+2) 0)/\tm.get 11=some (vb)/\tm.get 12=some (iv bl.length)/\tm.get 13=some (iv i)/\Fr h3.n h3 hg/\Mks h3.n hg mks/\ ∀i' b x,i'<i->bl[i']? =some b->xs[i']? =some x->w.prv1 G rl b.2.2 x=true) (fun st=>bl.length - (match st.tm.get 13 with|some (.val (.int _ n))=>n.toNat|_=>0)) ?_ ?_
 ·rintro st ⟨i,hg,mks,tm,rfl,hkA,g2,g3,g4,g11,g12,g13,fg,mg,hall⟩;have muA:=g13;have lg:=fg.lo;have fgh:=f3.trans fg (by omega);have ug:=(fg.at_ h.n (.inl (by omega))).trans u3;have vg:=(fg.at_ (h.n+1) (.inl (by omega))).trans v3;have wg:=(fg.at_ (h.n+2) (.inl (by omega))).trans s3;refine qA fun K hn hp=> ?_;simp only [sy.1,rL,qR,g12,g13];apply hn;by_cases hi:i<bl.length
  ·refine qV (by simp only [sy.1,reduceIte,hi]) ?_;refine qC fun KB B1 B2 B3 B4 B5=> ?_;obtain ⟨b,hbi⟩: ∃b,bl[i]? =some b:=⟨_,xZV hi⟩;obtain ⟨x,hx,e1,e2,e3,e4⟩:=P3 i b hbi;obtain ⟨p,p0,q1,q2,xw,⟨i1,_,_,_⟩,hld⟩:=hb3.at_ i b hbi;obtain ⟨⟨l1,_,_,_⟩,hnx,cx⟩:=hld hg fg;have hx12:=qA2 his (k:=w.m.cells.length) (f:=x.1) (wd:=x.2) (by rw [hxs] at hx;exact List.mem_of_getElem? hx);obtain ⟨bf,bw,l⟩:=b;obtain ⟨f,wd⟩:=x;simp only at e1 e2 e3 e4 l1 hnx hx12;subst e1;subst e2;have onx:=hnx.one;refine qA fun K hn hp=> ?_;simp only [sw.1,rE,reduceIte,rL,rA,syb.down,g11,g13,i1,l1,onx];obtain ⟨h5,hh5,n5,s5,k5,f5⟩:=nsE hg (.cells [iv 0,iv 0,jI] 52) (.cells [iv (f:Int),iv (wd:Int),xw] 52);rw [<-hh5];apply hn;clear hh5;have u5:=(f5.at_ h.n (.inl (by omega))).trans ug;have v5:=(f5.at_ (h.n+1) (.inl (by omega))).trans vg;have w5:=(f5.at_ (h.n+2) (.inl (by omega))).trans wg;have hr5:=(hr3.fr fg (xZY _)).fr f5 (xZY _);have hn5:=hnx.fr f5 (xZY _);have f35:Fr h3.n h3 h5:=fg.trans f5 (by omega);have m5:Mks h3.n h5 mks:=mg.keep f5.le fun b _ hb=>f5.at_ b (.inl hb);refine zH (fun tm=>tm.get 2=some (.ptr h.n 0)/\tm.get 3=some (.ptr (h.n+1) 0)/\tm.get 4=some (.ptr (h.n+2) 0)/\tm.get 6=some (.ptr hg.n 0)/\tm.get 11=some vb/\tm.get 12=some (iv bl.length)/\tm.get 13=some (iv i)) ⟨by simp [xZZ,g2],by simp [xZZ,g3],by simp [xZZ,g4],by simp [xZZ],by simp [xZZ,g11],by simp [xZZ,g12],by simp [xZZ,g13]⟩ fun tm ht9=> ?_;clear g2 g3 g4 g11 g12 g13;obtain ⟨g2,g3,g4,g6,g11,g12,g13⟩:=ht9;obtain ⟨vs,sl1,sl2⟩:=hr5.sub cr (a:=f) (n:=wd) (by omega);have okR:=qEn P2 f wd;have wfw:IntKind.i64.wrap ((f:Int)+(wd:Int))=((f+wd:Nat):Int):=by rw [qF _ (by omega) (by omega)];omega
   have lR:((rl.drop f).take wd).length<=3:=by rw [xZM];omega
   refine jP ?_;refine qW (sok xt) 0 0 13 [(12,0)] (by kernel_rfl) fun K hn hp=> ?_;simp only [sy.1,rE,reduceIte,rL,rA,syw.1,syb.down,g3,g6,v5,s5,wfw,isEf_sl,isRd_sl,isCall_sl,uD,sl1];refine cAS (sum_c xt h5 vs _ sl2.row sl2.lt (fun k hk=>by have:=qBk okR k hk;omega) fun m6 hm6=> ?_);rw [yS];simp only [sy.1,rE,reduceIte,rL,rA,syw.1,syb.down,g6,s5,hm6];refine cAS (sum_c xt (h5.up m6) xw l (hn5.up (by omega)).row hn5.lt (fun k hk=>by have:=qBk e4 k hk;omega) fun m7 hm7=> ?_);simp only [xZT] at hm7;rw [yS];have eseg:((rl.drop f).take wd).sum=seg rl f wd:=rfl;rw [eseg];by_cases d1:seg rl f wd<l.sum
   ·simp only [sy.1,rE,reduceIte,rL,xZO,decide_eq_true d1];apply hn;refine qX (by simp only [sy.1,rE,reduceIte]) ?_;refine qB fun K hn hp=> ?_;simp only [sw.1,rE,reduceIte,g4,w5];apply hn;refine qS (B4 _ (A4 _ (stop _ _ mks (by simp [xZZ,g4]) ?_ ?_ ?_ ?_ (qB5 hbi hx (qFm d1)))))
    ·rw [xZX,xZZ,if_pos rfl]
    ·exact ((f3.trans f35 (by omega)).up (m:=m7) (by omega)).set (by omega) (by simp only [xZT];omega) _
    ·simp only [xZR,xZT];omega
    ·exact m5.keep (by simp only [xZR,xZT];omega) fun b hb _=>by rw [xZX,xZZ,if_neg (by omega)];rfl
   simp only [sy.1,rE,reduceIte,rL,xZO,decide_eq_false d1];apply hn;refine jL (by simp only [sy.1,rE,reduceIte]) ?_;have f37:Fr h3.n h3 (h5.up m7):=f35.up (by omega);refine qA fun K hn hp=> ?_;simp only [sy.1,rE,reduceIte,rL,rA,g2,u5];refine cAS (qES xt (h5.up m7) w (bd3.fr f37 (xZY _)).at_ his v onev fun m8 hm8=> ?_);simp only [xZT] at hm8;simp only [sy.1,rL,xZO];apply hn;refine zH (fun tm=>tm.get 2=some (.ptr h.n 0)/\tm.get 3=some (.ptr (h.n+1) 0)/\tm.get 4=some (.ptr (h.n+2) 0)/\tm.get 6=some (.ptr hg.n 0)/\tm.get 11=some vb/\tm.get 12=some (iv bl.length)/\tm.get 13=some (iv i)/\tm.get 33=some (iv w.m.W)/\tm.get 34=some (iv 0)) ⟨by simp [xZZ,g2],by simp [xZZ,g3],by simp [xZZ,g4],by simp [xZZ,g6],by simp [xZZ,g11],by simp [xZZ,g12],by simp [xZZ,g13],by simp [xZZ],by simp [xZZ]⟩ fun tm ht9=> ?_;clear g2 g3 g4 g6 g11 g12 g13;obtain ⟨g2,g3,g4,g6,g11,g12,g13,g33,g34⟩:=ht9;refine qY fun KD D1 D2 D3 D4 D5=> ?_;refine qI (sok xt) (fun st=> ∃(c:Nat) (hJ:Hp) (mkj:List Nat) (tm:T AV),st=⟨tm,59,hJ,mkj⟩/\c<=w.m.W/\tm.get 2=some (.ptr h.n 0)/\tm.get 3=some (.ptr (h.n+1) 0)/\tm.get 4=some (.ptr (h.n+2) 0)/\tm.get 6=some (.ptr hg.n 0)/\tm.get 11=some (vb)/\tm.get 12=some (iv bl.length)/\tm.get 13=some (iv i)/\tm.get 33=some (iv w.m.W)/\tm.get 34=some (iv c)/\Fr h5.n h5 hJ/\Mks h3.n hJ mkj/\ ∀c' k,c'<c->k<w.ts.length->w.sel wd (Wk.blkK f c' k)=true-> ¬seg l c' wd<w.lv G (Wk.blkK f c' k)) (fun st=>w.m.W - (match st.tm.get 34 with|some (.val (.int _ n))=>n.toNat|_=>0)) ?_ ?_
   ·rintro st ⟨c,hJ,mkj,tm,rfl,hkD,g2,g3,g4,g6,g11,g12,g13,g33,g34,fJ,mJ,hcol⟩;have muD:=g34;have lJ:=fJ.lo;have uJ:=(fJ.at_ h.n (.inl (by omega))).trans u5;have wJ:=(fJ.at_ (h.n+2) (.inl (by omega))).trans w5;have sJ:=(fJ.at_ hg.n (.inl (by omega))).trans s5;refine qA fun K hn hp=> ?_;simp only [sy.1,rL,qR,g33,g34];apply hn;by_cases hc:c<w.m.W
    ·refine qV (by simp only [sy.1,reduceIte,hc]) ?_;refine qC fun KE E1 E2 E3 E4 E5=> ?_;refine qA fun K hn hp=> ?_;simp only [sw.1,rE,reduceIte,rL,g34];obtain ⟨h8,hh8,n8,s8,k8,f8⟩:=nsE hJ (.cells [iv 0] 3) (.cells [iv (c:Int)] 3);rw [<-hh8];apply hn;clear hh8;have u8:=(f8.at_ h.n (.inl (by omega))).trans uJ;have w8:=(f8.at_ (h.n+2) (.inl (by omega))).trans wJ;have x8:=(f8.at_ hg.n (.inl (by omega))).trans sJ;have f58:Fr h5.n h5 h8:=fJ.trans f8 (by omega);have f38:Fr h3.n h3 h8:=f35.trans f58 (by omega);have bd8:w.Bd xt h8 N M v G:=bd3.fr f38 (xZY _);obtain ⟨hw,hhw⟩: ∃hw:Hp,hw=(((h8.new (.cells (w.bc v) 85)).new (.cells [iv (f:Int)] 3)).new (.cells [iv (wd:Int)] 3)).new (.cells [iv (c:Int)] 3):=⟨_,rfl⟩;have nw:hw.n=h8.n+4:=by rw [hhw];rfl
     have b0:hw.t.get h8.n=some (.cells (w.bc v) 85):=by rw [hhw];simp only [Hp.new_t,Hp.new_n];rw [xZZ,if_neg (by omega),xZZ,if_neg (by omega),xZZ,if_neg (by omega),xZZ,if_pos rfl]
     have b1:hw.t.get (h8.n+1)=some (.cells [iv (f:Int)] 3):=by rw [hhw];simp only [Hp.new_t,Hp.new_n];rw [xZZ,if_neg (by omega),xZZ,if_neg (by omega),xZZ,if_pos rfl]
     have b2:hw.t.get (h8.n+2)=some (.cells [iv (wd:Int)] 3):=by rw [hhw];simp only [Hp.new_t,Hp.new_n];rw [xZZ,if_neg (by omega),xZZ,if_pos rfl]
     have b3:hw.t.get (h8.n+3)=some (.cells [iv (c:Int)] 3):=by rw [hhw];simp only [Hp.new_t,Hp.new_n];rw [xZZ,if_pos rfl]
     have fw:Fr h8.n h8 hw:=by rw [hhw];exact ((((xZN (xZY _)).new _).new _).new _).new _
     refine qA fun K hn hp=> ?_;simp only [sy.1,rE,reduceIte,rL,rA,syb.down,g2,g6,u8,s8,x8];refine cAS (qFY xt h8 w bd8.at_ v onev (f:Int) (wd:Int) (c:Int) ?_);rw [<-hhw];simp only [sy.1,rL];apply hn;clear hhw;have f5w:Fr h5.n h5 hw:=f58.trans fw (by omega);have mw:Mks h3.n hw mkj:=mJ.keep (by omega) fun b _ hb=>(fw.at_ b (.inl (by omega))).trans (f8.at_ b (.inl hb));have ww:=(fw.at_ (h.n+2) (.inl (by omega))).trans w8;have xw6:=(fw.at_ hg.n (.inl (by omega))).trans x8;have xw7:=(fw.at_ hJ.n (.inl (by omega))).trans s8;refine zH (fun tm=>tm.get 2=some (.ptr h.n 0)/\tm.get 3=some (.ptr (h.n+1) 0)/\tm.get 4=some (.ptr (h.n+2) 0)/\tm.get 6=some (.ptr hg.n 0)/\tm.get 7=some (.ptr hJ.n 0)/\tm.get 11=some vb/\tm.get 12=some (iv bl.length)/\tm.get 13=some (iv i)/\tm.get 33=some (iv w.m.W)/\tm.get 34=some (iv c)/\tm.get 43=some (.fn (.func 147) [] [.ptr h8.n 0,.ptr (h8.n+1) 0,.ptr (h8.n+3) 0,.ptr (h8.n+2) 0])) ⟨by simp [xZZ,g2],by simp [xZZ,g3],by simp [xZZ,g4],by simp [xZZ,g6],by simp [xZZ],by simp [xZZ,g11],by simp [xZZ,g12],by simp [xZZ,g13],by simp [xZZ,g33],by simp [xZZ,g34],by simp [xZZ]⟩ fun tm ht9=> ?_;clear g2 g3 g4 g6 g11 g12 g13 g33 g34;obtain ⟨g2,g3,g4,g6,g7,g11,g12,g13,g33,g34,g43⟩:=ht9;have next: ∀(hx:Hp) (mks':List Nat),Fr h5.n h5 hx->Mks h3.n hx mks'->(∀k,k<w.ts.length->w.sel wd (Wk.blkK f c k)=true-> ¬seg l c wd<w.lv G (Wk.blkK f c k))->KE .normal ⟨tm,59,hx,mks'⟩:=by
      intro hx mks' q1 q2 q3;refine E1 _ ?_;refine reg fun K hn hp=> ?_;simp only [sy.1,reduceIte,rL,g34,qE hc (show w.m.W<=9223372036854775807 by omega)];apply hn;refine ⟨⟨c+1,hx,mks',_,rfl,by omega,(by simp [xZZ,g2]),(by simp [xZZ,g3]),(by simp [xZZ,g4]),(by simp [xZZ,g6]),(by simp [xZZ,g11]),(by simp [xZZ,g12]),(by simp [xZZ,g13]),(by simp [xZZ,g33]),(by simp [xZZ]),q1,q2,fun c' k h1 h2 h3=> ?_⟩,by simpa [xZZ,muD] using (by omega:w.m.W - (c+1)<w.m.W - c)⟩;by_cases ec:c'=c
      ·subst ec;exact q3 k h2 h3
      ·exact hcol c' k (by omega) h2 h3
     let I:ALoop->Nat->Hp->Prop:=fun rc k h'=>FrM (fun b=>b=hw.n+1) (hw.n+2) (LH hw rc) h'/\h'.t.get (hw.n+1)=some (.loop rc)/\ ∀k',k'<k->w.sel wd (Wk.blkK f c k')=true-> ¬seg l c wd<w.lv G (Wk.blkK f c k')
     let S:ALoop->Ex->Hp->Prop:=fun rc x h'=>x= .ret/\h'.t.get (hw.n+1)=some (.loop (rc.left .ret))/\h'.t.get hw.n=some .deferred/\hw.n+2<=h'.n/\w.prvs G rl bl xs=false/\h'.t.get (h.n+2)=some (.cells [.val (.bool false)] 4)/\Fr h.n h h'/\ ∀b,h3.n<=b->b<hw.n->h'.t.get b=hw.t.get b
     have nHL: ∀rc,(LH hw rc).n=hw.n+2:=fun rc=>rfl;have key: ∀rc k h',I rc k h'->hw.n+2<=h'.n/\Fr h5.n h5 h'/\ ∀b,b<hw.n->h'.t.get b=hw.t.get b:=by
      rintro rc k h' ⟨z1,z2,z3⟩;have nn:=nHL rc;have:=z1.le;refine ⟨by omega,z1.toFr (f5w.trans (LH_fr hw rc) (by omega)) (by omega) (fun b hb=>by omega),fun b q1=> ?_⟩;rw [z1.get (by omega) (by omega)];exact pT hw rc q1
     refine qY fun KF F1 F2 F3 F4 F5=> ?_;refine uS (sok xt) (g:=147) (xs:=[.yld (hw.n+1),.ptr h8.n 0,.ptr (h8.n+1) 0,.ptr (h8.n+3) 0,.ptr (h8.n+2) 0]) (S:=S) (Z:=fun rc h'=>I rc w.ts.length h') (by simp only [sy.1,g43];rfl) (fun rc c1 c2 c3 c4 c5 c6 c7=> ?_) ?_ ?_
     ·refine qD5 xt (LH hw rc) w his N M v G hbn (hw.n+1) h8.n (h8.n+1) (h8.n+3) (h8.n+2) f c wd (I rc) _ ?_ ?_ ?_ ?_ ?_ ?_
      ·exact ⟨FrM.refl (xZY _),LH_l hw rc,fun k' hk'=>absurd hk' (by omega)⟩
      ·intro k h' hI;obtain ⟨q1,q2,q3⟩:=key rc k h' hI;exact ⟨bd3.fr (f35.trans q2 (by omega)) (xZY _),(q3 _ (by omega)).trans b0,(q3 _ (by omega)).trans b1,(q3 _ (by omega)).trans b3,(q3 _ (by omega)).trans b2⟩
      ·intro k h' hI;obtain ⟨q1,q2,q3⟩:=key rc k h' hI;omega
      ·rintro k h' h'' hI f;obtain ⟨q1,q2,q3⟩:=key rc k h' hI;obtain ⟨z1,z2,z3⟩:=hI;exact ⟨z1.fr f (by omega),(f.at_ _ (.inl (by omega))).trans z2,z3⟩
      ·rintro k h' hk hs ⟨z1,z2,z3⟩;refine ⟨z1,z2,fun k' h1 h2=> ?_⟩;by_cases ek:k'=k
       ·subst ek;rw [show w.sel wd (Wk.blkK f c k')=false from hs] at h2;cases h2
       ·exact z3 k' (by omega) h2
      ·intro k hk hs;refine uQ (sok xt) (S:=S rc) c1 c2 c3 c4 c5 c6 c7 (fun h' hA=>hA.2.1) (fun h' hA=>⟨_,rfl,?_⟩);have kI:=key rc k h' hA;obtain ⟨z1,z2,z3⟩:=hA;obtain ⟨q1,q2,q3⟩:=kI;refine reg fun K hn hp=> ?_;simp only [sy.1,rE,reduceIte,rL];apply hn;refine ⟨rfl,rfl,rfl,?_⟩;dsimp only;obtain ⟨h7,hh7⟩: ∃h7:Hp,h7=h'.set (hw.n+1) (.loop rc.busy):=⟨_,rfl⟩;rw [<-hh7];have n7:h7.n=h'.n:=by rw [hh7];rfl
       have z5:FrM (fun b=>b=hw.n+1) (hw.n+2) (LH hw rc) h7:=by rw [hh7];exact z1.set (.inr rfl) _
       have z6:h7.t.get (hw.n+1)=some (.loop rc.busy):=by rw [hh7,xZX,xZZ,if_pos rfl]
       have k7: ∀b,b≠hw.n+1->h7.t.get b=h'.t.get b:=fun b hb=>by rw [hh7,xZX,xZZ,if_neg hb]
       have nn:=nHL rc;have f57:Fr h5.n h5 h7:=by rw [hh7];exact q2.set (by omega) (by omega) _
       clear hh7;have y4:=(k7 (h.n+2) (by omega)).trans ((q3 _ (by omega)).trans ww);have y6:=(k7 hg.n (by omega)).trans ((q3 _ (by omega)).trans xw6);have y7:=(k7 hJ.n (by omega)).trans ((q3 _ (by omega)).trans xw7);have yd:h7.t.get hw.n=some .deferred:=(k7 _ (by omega)).trans ((z1.get (by omega) (by omega)).trans (LH_d hw rc));have hn7:=hn5.fr f57 (xZY _);have hin:=(his.selBlk hk hs).2.2.1;obtain ⟨vc,sc1,sc2⟩:=hn7.sub cx (a:=c) (n:=wd) (by omega);have okC:=qEn e4 c wd;have wcw:IntKind.i64.wrap ((c:Int)+(wd:Int))=((c+wd:Nat):Int):=by rw [qF _ (by omega) (by omega)];omega
       have lC:((l.drop c).take wd).length<=3:=by rw [xZM];omega
       refine qY fun K' k1' k2' k3' k4' k5'=> ?_;refine qA fun K hn hp=> ?_;simp only [sy.1,rE,reduceIte,rL,syb.down,g6,g7,y6,y7,wcw,uD,sc1];refine cAS (sum_c xt h7 vc _ sc2.row sc2.lt (fun k hk=>by have:=qBk okC k hk;omega) fun m6 hm6=> ?_);rw [yS,show ((l.drop c).take wd).sum=seg l c wd from rfl];have hbk:w.lv G ((f:Int),(c:Int),(k:Int))=w.lv G (Wk.blkK f c k):=rfl;by_cases dc:seg l c wd<w.lv G (Wk.blkK f c k)
       ·simp only [sy.1,rE,reduceIte,rL,hbk,decide_eq_true dc];apply hn;refine wcT (by simp only [sy.1,rE,reduceIte]) ?_;refine qA fun K hn hp=> ?_;simp only [sw.1,rE,reduceIte,g4,y4];apply hn;refine qD (k4' _ ⟨rfl,?_,.inr ⟨.ret,rfl,rfl,?_,?_,?_,qB5 hbi hx (prv1_no hc hk hs dc),?_,?_,fun b h1 h2=> ?_⟩⟩)
        ·rw [xZX,xZZ,if_neg (by omega)];exact z6
        ·rw [xZX,xZZ,if_pos rfl]
        ·rw [xZX,xZZ,if_neg (by omega),xZX,xZZ,if_neg (by omega)];exact yd
        ·simp only [xZR,xZT];omega
        ·rw [xZX,xZZ,if_neg (by omega),xZX,xZZ,if_pos rfl]
        ·exact ((((f3.trans f35 (by omega)).trans f57 (by omega)).up (m:=m6) (by omega)).set (by omega) (by simp only [xZT];omega) _).set (by omega) (by simp only [xZR,xZT];omega) _
        ·rw [xZX,xZZ,if_neg (by omega),xZX,xZZ,if_neg (by omega)];exact (k7 _ (by omega)).trans (q3 _ h2)
       ·simp only [sy.1,rE,reduceIte,rL,hbk,decide_eq_false dc];apply hn;refine wcF (by simp only [sy.1,rE,reduceIte]) ?_;refine qN (k1' _ ⟨rfl,?_,.inl ⟨rfl,?_,?_,fun k' h1 h2=> ?_⟩⟩)
        ·exact z6
        ·exact (z5.up (by omega)).set (.inr rfl) _
        ·rw [xZX,xZZ,if_pos rfl]
        ·by_cases ek:k'=k
         ·subst ek;exact dc
         ·exact z3 k' (by omega) h2
     ·rintro rc h' c1 c2 hI;obtain ⟨q1,q2,q3⟩:=key rc _ h' hI;obtain ⟨z1,z2,z3⟩:=hI;refine ⟨z2,F1 _ (next _ _ (q2.set (by omega) (by omega) _) ?_ (fun k hk hs=>z3 k hk hs))⟩;have hd:h'.t.get hw.n=some .deferred:=(z1.get (by have:=nHL rc;omega) (by omega)).trans (LH_d hw rc);refine Mks.add (mw.keep (by simp only [xZR];omega) fun b h1 h2=> ?_) (by omega) (by simp only [xZR];omega) (by rw [xZX,xZZ,if_neg (by omega)];exact hd) fun hm=> ?_
      ·rw [xZX,xZZ,if_neg (by omega)];exact q3 b h2
      ·have:=(mw.mrk _ hm).2.1;omega
     ·rintro rc x h' ⟨rfl,q1,q2,q3,q4,q5,q6,q7⟩;refine ⟨.ret,rfl,q1,F4 _ (E4 _ (D4 _ (B4 _ (A4 _ (stop _ _ _ g4 ?_ (q6.set (by omega) (by omega) _) (by simp only [xZR];omega) ?_ q4)))))⟩
      ·rw [xZX,xZZ,if_neg (by omega)];exact q5
      ·refine Mks.add (mw.keep (by simp only [xZR];omega) fun b h1 h2=> ?_) (by omega) (by simp only [xZR];omega) (by rw [xZX,xZZ,if_neg (by omega)];exact q2) fun hm=> ?_
       ·rw [xZX,xZZ,if_neg (by omega)];exact q7 b h1 h2
       ·have:=(mw.mrk _ hm).2.1;omega
    ·refine qU (by simp only [sy.1,reduceIte,hc]) ?_;refine qG (D2 _ (B1 _ ?_));obtain rfl:c=w.m.W:=by omega
     refine reg fun K hn hp=> ?_;simp only [sy.1,rE,reduceIte,rL,g13,qE hi hlt];apply hn;refine ⟨⟨i+1,hJ,mkj,_,rfl,by omega,(by simp [xZZ,g2]),(by simp [xZZ,g3]),(by simp [xZZ,g4]),(by simp [xZZ,g11]),(by simp [xZZ,g12]),(by simp [xZZ]),f35.trans fJ (by omega),mJ,fun i' b' x' h1 hb' hx'=> ?_⟩,by simpa [xZZ,muA] using (by omega:bl.length - (i+1)<bl.length - i)⟩;by_cases ei:i'=i
     ·subst ei;rw [hbi] at hb';cases hb';rw [hx] at hx';cases hx';exact qFl d1 fun c k hc hk hs=>hcol c k hc hk hs
     ·exact hall i' b' x' (by omega) hb' hx'
   ·exact ⟨0,h5.up m8,mks,_,rfl,(by omega),(by simp [g2]),(by simp [g3]),(by simp [g4]),(by simp [g6]),(by simp [g11]),(by simp [g12]),(by simp [g13]),(by simp [g33]),(by simp [g34]),(xZN (xZY _)).up (by omega),m5.keep (by simp only [xZT];omega) (fun _ _ _=>rfl),fun c' k h1=>absurd h1 (by omega)⟩
  ·refine qU (by simp only [sy.1,reduceIte,hi]) ?_;refine qG (A2 _ ?_);obtain rfl:i=bl.length:=by omega
   obtain ⟨hq,hhq⟩: ∃hq:Hp,hq=hg.set (h.n+2) (.cells [.val (.bool true)] 4):=⟨_,rfl⟩;have nq:hq.n=hg.n:=by rw [hhq];rfl
   have xq:hq.t.get (h.n+2)=some (.cells [.val (.bool true)] 4):=by rw [hhq,xZX,xZZ,if_pos rfl]
   have fq:Fr h.n h hq:=by rw [hhq];exact fgh.set (by omega) (by omega) _
   have mq:Mks h3.n hq mks:=mg.keep (by omega) fun b hb _=>by rw [hhq,xZX,xZZ,if_neg (by omega)]
   obtain ⟨h9,d1,d2⟩:=mq.del (xZN (h:=hq) (by omega));have x9:=(d2.at_ (h.n+2) (.inl (by omega))).trans xq;refine qA fun K hn hp=> ?_;simp only [sw.1,rE,reduceIte,g4,wg,<-hhq];apply hn;clear hhq;refine qD (end_cm (v:= .val (.bool true)) res122 d1 ?_ ⟨?_,fq.trans d2 (by omega)⟩)
   ·simp only [sy.1,rE,reduceIte,g4,x9]
   ·rw [qFk fun i b x hi=>hall i b x (by omega)]
 ·exact ⟨0,h3,[],_,rfl,(by omega),(by simp [xZZ,g2]),(by simp [xZZ,g3]),(by simp [xZZ,g4]),(by simp [xZZ]),(by simp [xZZ]),(by simp [xZZ]),xZN (xZY _),Mks.nil,fun i' b x hi=>absurd hi (by omega)⟩
def Wk.pPrv (w:Wk) (rl:List Int) (bl:List (Int×Int×List Int)):Int×Int:=if w.ok && w.isP rl bl then match w.m.bnd with|none=>(0,7)|some G=>if w.prvs G rl bl (w.bnds w.m.cells.length) then (rl.sum,0) else (0,5) else (0,2)
theorem ft55 (xt:Xt):(SE xt).ft.get 8=some Tryz.f8:=by kernel_rfl
theorem qCD:Tryz.f8.results.toList=[.tmp 4,.tmp 5]:=by kernel_rfl
theorem pproves_c (xt:Xt) (h:Hp) (w:Wk) (ha:w.At xt h) (vr vb:AV) (rl:List Int) (bl:List (Int×Int×List Int)) (hr:Nums xt h vr rl) (cr:xH vr) (hb:BAt xt h vb bl) (hl8:rl.length<=1000)
  {K:KP} (hk: ∀m,h.n<m->K (.ret (.tup [iv (w.pPrv rl bl).1,iv (w.pPrv rl bl).2])) (h.up m)):FnA (SE xt) 8 [w.av,.agg [vr,vb]] h K:=by
 refine FnA.calm ?_ hk;clear hk K;refine FnA.walk (sok xt) (ft55 xt) rfl 51 rfl ?_;obtain ⟨o1,o2,o3,o4,o5⟩:=ha.ones;have lenr:=hr.len;refine qA fun K hn hp=> ?_;simp only [sw.1,rE,reduceIte,rL];obtain ⟨h1,hh1,n1,s1,k1,f1⟩:=yG h (.cells w.cs 30);obtain ⟨h2,hh2,n2,s2,k2,f2⟩:=bY f1 n1 (.cells [vr,vb] 34);simp only [<-hh1,<-hh2];apply hn;clear hh1 hh2;simp only [rA] at n2;obtain ⟨h3,hh3,n3,s3,k3,f3⟩:=nsE h2 (.cells [.val .nilFunc] 95) (.cells [.val (.func (.func 40) #[] #[])] 95);have cf:cellsOf (.val (.func (.func 40) #[] #[]))=[.val (.func (.func 40) #[] #[])]:=rfl;refine qA fun K hn hp=> ?_;simp only [sw.1,rE,reduceIte,rL,syb.down,cf];rw [<-hh3];apply hn;clear hh3;rw [n2] at s3 n3;have f3h:=f2.trans f3 (by omega);have u3:=(k3 h.n (by omega)).trans ((k2 h.n (by omega)).trans s1);have v3:=(k3 (h.n+1) (by omega)).trans s2;have ha3:=ha.fr f3h (xZY _);refine zH (fun tm=>tm.get 2=some (.ptr h.n 0)/\tm.get 3=some (.ptr (h.n+1) 0)/\tm.get 6=some (.ptr (h.n+2) 0)) ⟨by simp [xZZ],by simp [xZZ],by simp [xZZ,n2]⟩ fun tm ht=> ?_;obtain ⟨g2,g3,g6⟩:=ht;refine qB fun K hn hp=> ?_;simp only [sy.1,reduceIte,rL,rA,g2,u3];refine cAS (qFy xt _ w ha3 fun m1 hm1=> ?_);cases e1:w.ok
 ·simp only [sy.1,rE,reduceIte,rL];apply hn;refine qX (by simp only [sy.1,rE,reduceIte]) ?_;refine qB fun K hn hp=> ?_;simp only [sy.1,rL];apply hn;refine qS (wP qCD ⟨?_,f3h.up (by omega)⟩);simp [xZZ,Wk.pPrv,e1]
 have his:=Wk.ok_is e1;have r6:=his.m.r6;simp only [sy.1,rE,reduceIte,rL];apply hn;refine jL (by simp only [sy.1,rE,reduceIte]) ?_;obtain ⟨h4,hh4,n4,s4,k4,f4⟩:=nsE (h3.up m1) (.cells p9 85) (.cells (w.bc jI) 85);refine qA fun K hn hp=> ?_;simp only [sw.1,rE,reduceIte,rL,rA,o1,o2,o3,o4,o5,g2,u3,bd121];change K _ _ (((h3.up m1).new (.cells p9 85)).set (h3.up m1).n (.cells (w.bc jI) 85));rw [<-hh4];apply hn;clear hh4;simp only [xZT] at n4 s4 k4 f4;have f4h:=(f3h.up (m:=m1) (by omega)).trans f4 (by omega);have u4:=(k4 h.n (by omega)).trans u3;have v4:=(k4 (h.n+1) (by omega)).trans v3;have w4:=(k4 (h.n+2) (by omega)).trans s3;have ha4:=ha.fr f4h (xZY _);have hr4:=hr.fr f4h (xZY _);refine zH (fun tm=>tm.get 2=some (.ptr h.n 0)/\tm.get 3=some (.ptr (h.n+1) 0)/\tm.get 6=some (.ptr (h.n+2) 0)/\tm.get 7=some (.ptr m1 0)) ⟨by simp [xZZ,g2],by simp [xZZ,g3],by simp [xZZ,g6],by simp [xZZ]⟩ fun tm ht9=> ?_;clear g2 g3 g6;obtain ⟨g2,g3,g6,g7⟩:=ht9;refine jP ?_;refine qW (sok xt) 0 0 18 [(1,1),(2,1),(14,2),(14,3)] (by kernel_rfl) fun K hn hp=> ?_;simp only [sy.1,rE,reduceIte,rL,rA,syw.1,syb.down,lenr,g3,g7,v4,s4];refine cAS (qA1 xt h4 w ha4 jI rfl fun m5 hm5=> ?_);by_cases d1:(rl.length:Int)=(w.m.cells.length:Int)
 rotate_left
 ·simp only [sy.1,rE,reduceIte,rL,rA,syw.1,lenr,v4,decide_eq_false d1,hm5];apply hn;refine qX (by simp only [sy.1,rE,reduceIte]) ?_;refine qB fun K hn hp=> ?_;simp only [sy.1,rL];apply hn;refine qS (wP qCD ⟨?_,f4h.up (by omega)⟩);simp [xZZ,Wk.pPrv,Wk.isP,d1]
 simp only [sy.1,rE,reduceIte,rL,rA,syw.1,syb.down,g3,g6,v4,w4,decide_eq_true d1,hm5];refine cAS (badw_c xt (h4.up m5) vr rl (hr4.up (by omega)) fun m6 hm6=> ?_);simp only [xZT] at hm6;cases d2:okW rl
 ·simp only [sy.1,rE,reduceIte,rL,rA,syw.1,lenr,v4,hm6,xZO];apply hn;refine qX (by simp only [sy.1,rE,reduceIte]) ?_;refine qB fun K hn hp=> ?_;simp only [sy.1,rL];apply hn;refine qS (wP qCD ⟨?_,f4h.up (by omega)⟩);simp [xZZ,Wk.pPrv,Wk.isP,d2]
 simp only [sy.1,rE,reduceIte,rL,rA,syw.1,syb.down,g3,g7,v4,s4,hm6,xZO];refine cAS (FnA.mono (bands_c xt (h4.up m6) w (ha4.up (by omega)) his jI rfl) fun res h7 hres=> ?_);obtain ⟨zb,rfl,ob,f7,lt7⟩:=hres;simp only [xZT] at ob f7 lt7;have f47:Fr h4.n h4 h7:=((xZN (xZY _)).up (m:=m6) (by omega)).trans f7 (by omega);have u7:=(f47.at_ h.n (.inl (by omega))).trans u4;have v7:=(f47.at_ (h.n+1) (.inl (by omega))).trans v4;have w7:=(f47.at_ (h.n+2) (.inl (by omega))).trans w4;have s7:=(f47.at_ m1 (.inl (by omega))).trans s4;have f7h:=f4h.trans f47 (by omega);have ha7:=ha.fr f7h (xZY _);have hb7:=hb.fr f7h (xZY _);simp only [sy.1,rE,reduceIte,rL,rA,syw.1,syb.down,lenr,g6,g7,v4,v7,isEf_mf,isRd_mf,lt7];refine cAS (allF_c xt h7 w ha7 his jI rfl vb bl hb7 zb _ ob m1 (h.n+2) (by omega) (by omega) s7 w7 fun m8 hm8=> ?_);cases d3:w.allF bl (w.bnds w.m.cells.length)
 ·simp only [sy.1,rE,reduceIte,rL];apply hn;refine qX (by simp only [sy.1,rE,reduceIte]) ?_;refine qB fun K hn hp=> ?_;simp only [sy.1,rL];apply hn;refine qS (wP qCD ⟨?_,f7h.up (by omega)⟩);simp [xZZ,Wk.pPrv,Wk.isP,d3]
 have hP:w.isP rl bl=true:=by rw [Wk.isP,decide_eq_true d1,d2,d3];rfl
 simp only [sy.1,rE,reduceIte,rL];apply hn;refine jL (by simp only [sy.1,rE,reduceIte]) ?_;refine zH (fun tm=>tm.get 2=some (.ptr h.n 0)/\tm.get 3=some (.ptr (h.n+1) 0)) ⟨by simp [xZZ,g2],by simp [xZZ,g3]⟩ fun tm ht9=> ?_;clear g2 g3 g6 g7;obtain ⟨g2,g3⟩:=ht9;refine qA fun K hn hp=> ?_;simp only [sy.1,reduceIte,rL,rA,g2,u7];refine cAS (FnA.mono (qFX xt (h7.up m8) w (ha7.up (by omega)) _ _ his.m) fun res h9 hres=> ?_);obtain ⟨f9,hres⟩:=hres;have low9: ∀k,k<m8->h9.t.get k=h7.t.get k:=fun k hk=>f9.at_ k (.inl hk);have v9:=(low9 (h.n+1) (by omega)).trans v7;have n9:m8<=h9.n:=f9.lo;have f9h:Fr h.n h h9:=(f7h.up (m:=m8) (by omega)).trans f9 (by simp only [xZT];omega);change match w.m.bnd with|some G=>_|none=>_ at hres
 cases hbn:w.m.bnd with
 |none=>
  rw [hbn] at hres;subst hres;simp only [sw.1,rE,reduceIte,rL,rA,sv.1];obtain ⟨hA,hhA,nA,sA,kA,fA⟩:=nsE h9 (.cells p9 85) (.cells p9 85);rw [<-hhA];apply hn;clear hhA;refine qB fun K hn hp=> ?_;simp only [sy.1,rE,reduceIte,rL];apply hn;refine qX (by simp only [sy.1,rE,reduceIte,d70]) ?_;refine qB fun K hn hp=> ?_;simp only [sy.1,rE,reduceIte,rL];apply hn;refine qS (wP qCD ⟨?_,f9h.trans fA (by omega)⟩);simp [xZZ,Wk.pPrv,e1,hP,hbn]
 |some G=>
  rw [hbn] at hres;obtain ⟨v,M,rfl,sg,m1',m2'⟩:=hres;have onev:=sg.one;simp only [sw.1,rE,reduceIte,rL,rA,sv.1,o1,o2,o3,o4,o5,onev];obtain ⟨hA,hhA,nA,sA,kA,fA⟩:=nsE h9 (.cells p9 85) (.cells (w.bc v) 85);rw [<-hhA];apply hn;clear hhA;have fAh:=f9h.trans fA (by omega);have vA:=(kA (h.n+1) (by omega)).trans v9;have sgA:SG hA (h7.up m8).n M v _ _ G:=sg.keep fun k _ hk=>kA k (by omega);have bdA:w.Bd xt hA (h7.up m8).n M v G:=⟨ha.fr fAh (xZY _),sgA,by omega⟩;refine qB fun K hn hp=> ?_;simp only [sy.1,rE,reduceIte,rL];apply hn;refine jL (by simp only [sy.1,rE,reduceIte]) ?_;refine qB fun K hn hp=> ?_;simp only [sy.1,rE,reduceIte,rL,rA,syb.down,g3,vA,sA];refine cAS (FnA.mono (proves_c xt hA w his _ M v G bdA hbn vr vb rl bl (hr.fr fAh (xZY _)) cr (hb.fr fAh (xZY _)) hP) fun res hB hres=> ?_);obtain ⟨rfl,fB⟩:=hres;have fBh:=fAh.trans fB (by omega);have vB:=(fB.at_ (h.n+1) (.inl (by omega))).trans vA;have hrB:=hr.fr fBh (xZY _);cases d4:w.prvs G rl bl (w.bnds w.m.cells.length)
  ·simp only [sy.1,rE,reduceIte,rL];apply hn;refine qX (by simp only [sy.1,rE,reduceIte]) ?_;refine qB fun K hn hp=> ?_;simp only [sy.1,rL];apply hn;refine qS (wP qCD ⟨?_,fBh⟩);simp [xZZ,Wk.pPrv,e1,hP,hbn,d4]
  simp only [sy.1,rE,reduceIte,rL];apply hn;refine jL (by simp only [sy.1,rE,reduceIte]) ?_;refine qA fun K hn hp=> ?_;simp only [sy.1,rE,reduceIte,rL,syb.down,g3,vB];refine cAS (sum_c xt hB vr rl hrB.row hrB.lt (fun k hk=>by have:=qBk d2 k hk;omega) fun mC hmC=> ?_);rw [yS];simp only [sy.1,rE,reduceIte,rL];apply hn;refine qD (wP qCD ⟨?_,fBh.up (by omega)⟩);simp [xZZ,Wk.pPrv,e1,hP,hbn,d4]
end Go.Proofs.Kn
