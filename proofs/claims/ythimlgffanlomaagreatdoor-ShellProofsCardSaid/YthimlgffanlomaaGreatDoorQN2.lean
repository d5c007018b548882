/- Parts. -/
import Derived.Test.YthimlgffanlomaaGreatDoorQX1
import Derived.Test.YthimlgffanlomaaGreatDoorQN1
set_option linter.all false
open Nat renaming reduceEqDiff → rE, reduceLeDiff → rD, reduceAdd → rA, reduceMul → rM, reduceLT → rL
open Nat renaming le_refl → xZZ
open Go.Ev.T renaming get_put → xZY
open Go.Ev.Hp renaming up_up → xZX
noncomputable section
namespace Go.Proofs.Kn
open Go Go.Ev Go.RowKit Go.ChangeShapes Go.WideShapes Go.ChangeAt
set_option maxRecDepth 100000
section
variable {H:Type} {enc:TypeId×Value->H} {w:World} {base:Nat} {sp:Nat->Bool} {held:Bool}
end
end Go.Proofs.Kn
end
namespace Go.Proofs.Kn
open Go Go.Ev
set_option maxRecDepth 100000
set_option maxHeartbeats 4000000
def Wk.Blk (w:Wk) (s:Int×Int×Int):Prop:= ∃(r0 c0 q n:Nat) (th wo:Int),s=((r0:Int),(c0:Int),(q:Int))/\Tub w q n th wo/\r0+n<=w.m.cells.length/\c0+n<=w.m.W
theorem Wk.Blk.isT {w:Wk} {s:Int×Int×Int} (h:w.Blk s):w.isT s=true:=by
 obtain ⟨r0,c0,q,n,th,wo,rfl,ht,_,_⟩:=h;have:=(List.getElem?_eq_some_iff.1 ht.at_).1;rw [Wk.isT,kQ];simp only;omega
theorem give_bd {w:Wk} (his:w.Is) {t:Nat->Nat->Int} (hpos: ∀r c,r<w.m.cells.length->c<w.m.W->0<=t r c) {s:Int×Int×Int} (h:w.Blk s):0<=w.give t s/\w.give t s<=65:=by
 obtain ⟨r0,c0,q,n,th,wo,rfl,ht,h1,h2⟩:=h;rw [Wk.give_q ht];have k0:=his.k0;have k5:=his.k5;have t1:=ht.h1;have b1:=bP t r0 c0 n n;have b2:0<=zC t r0 c0 n n:=bQ (by omega) n fun i hi j hj=>hpos _ _ (by omega) (by omega);have e5:(zC t r0 c0 n n+w.kerf).tdiv (th+w.kerf)=(zC t r0 c0 n n+w.kerf) / (th+w.kerf):=Int.tdiv_eq_ediv_of_nonneg (by omega);have e6:=Int.ediv_nonneg (a:=zC t r0 c0 n n+w.kerf) (b:=th+w.kerf) (by omega) (by omega);have e7:=Int.ediv_le_self (th+w.kerf) (show 0<=zC t r0 c0 n n+w.kerf by omega);omega
theorem ft106 (xt:Xt):(SE xt).ft.get 60=some Tryz.f60:=by kernel_rfl
theorem res106:Tryz.f60.results.toList=[.tmp 6]:=by kernel_rfl
theorem qFd (xt:Xt) (h:Hp) (w:Wk) (ha:w.At xt h) (his:w.Is) (s:Int×Int×Int) (hb:w.Blk s) (g:Gr) (hg:g.At xt h) (hgl:g.ll.length=w.m.cells.length) (hgr: ∀r,r<w.m.cells.length->(g.ll.getD r []).length=w.m.W) (hpos: ∀r c,r<w.m.cells.length->c<w.m.W->0<=g.t r c)
  {K:KP} (hk: ∀m,h.n<m->K (.ret (iv ((w.tb s.2.2.toNat).2.2*w.give g.t s))) (h.up m)):FnA (SE xt) 60 [w.av,qBx s,g.v] h K:=by
 refine FnA.calm ?_ hk;clear hk K;refine FnA.walk (sok xt) (ft106 xt) rfl 19 rfl ?_;obtain ⟨o1,o2,o3,o4,o5⟩:=ha.ones;have hgb:=give_bd his hpos hb;obtain ⟨r0,c0,q,n,th,wo,rfl,ht,hrn,hcn⟩:=hb;obtain ⟨i1,_,_,i4,ld⟩:=ha.tubs ht.at_;have w1:=ht.w1;have w2:=ht.w100;have hr6:=his.m.r6;have hc8:=his.m.c8;refine qA fun K hn hp=> ?_;simp only [sw.1,rE,reduceIte,rL,rA];apply hn;obtain ⟨h1,hh1,nh1,sh1,_,fbh1⟩:=nwE h (.cells w.cs 30);rw [<-hh1];have fh1:=fbh1;obtain ⟨h2,hh2,nh2,sh2,kh2,fbh2⟩:=nwE h1 (.cells [iv r0,iv c0,iv q] 63);rw [<-hh2];have fh2:Fr h.n h h2:=fh1.trans fbh2 (by omega);simp only [nh1,Nat.add_assoc,rA] at nh2 sh2 kh2;have s1:=(kh2 h.n (by omega)).trans sh1;obtain ⟨_,_,l3⟩:=ld h2 fh2;refine qW (sok xt) 0 0 11 [(5,0),(7,0),(10,0)] (by kernel_rfl) fun K hn hp=> ?_;simp only [sy.1,rE,reduceIte,rL,rA,syw.1,sh2,s1];refine cAS (rslices_c xt h2 w (ha.fr fh2 (xZZ _)) r0 c0 q n th wo ht.at_ g (hg.fr fh2 (xZZ _)) _ _ (by omega) (by omega) hgl hgr hrn hcn his.k0 his.k5 ht.h1 ht.h60 (fun i hi j hj=>hpos _ _ (by omega) (by omega)) fun m1 hm1=> ?_);rw [<-Wk.give_q ht];have p1:0<=w.give g.t ((r0:Int),(c0:Int),(q:Int))*wo:=Int.mul_nonneg hgb.1 (by omega);have p2:w.give g.t ((r0:Int),(c0:Int),(q:Int))*wo<=65*100:=Int.mul_le_mul hgb.2 w2 (by omega) (by omega);have w3:IntKind.i64.wrap (w.give g.t ((r0:Int),(c0:Int),(q:Int))*wo)=w.give g.t ((r0:Int),(c0:Int),(q:Int))*wo:=qF _ (by omega) (by omega);simp only [sy.1,rE,reduceIte,rL,rA,syw.1,i1,i4,sh2,s1,hm1,l3,w3];refine hn _ _ (qD (qK res106 ⟨?_,fh2.up (by omega)⟩));simp [xZY,ht.tb,Int.mul_comm]
set_option maxHeartbeats 4000000
theorem isEf_mf {f:Fn} {a b:Array Operand}:zY (.makeFunc f a b)=false:=rfl
theorem isRd_mf {f:Fn} {a b:Array Operand}:zT (.makeFunc f a b)=false:=rfl
def Wk.asked (w:Wk) (ls:List (Int×Int×Int)):Int:=if (w.ok && w.cut ls)=true then (if w.m.rposs=true then 0 else 7) else 2
theorem ft18 (xt:Xt):(SE xt).ft.get 9=some Tryz.f9:=by kernel_rfl
theorem res18:Tryz.f9.results.toList=[.tmp 4]:=by kernel_rfl
theorem asked_c (xt:Xt) (h:Hp) (w:Wk) (ha:w.At xt h) (v:AV) (ls:List (Int×Int×Int)) (hl:Cuts xt h v ls)
  {K:KP} (hk: ∀k,h.n<k->K (.ret (iv (w.asked ls))) (h.up k)):FnA (SE xt) 9 [w.av,v] h K:=by
 refine FnA.calm ?_ hk;clear hk K;refine FnA.walk (sok xt) (ft18 xt) rfl 18 rfl ?_;obtain ⟨o1,o2,o3,o4,o5⟩:=ha.ones;refine qA fun K hn hp=> ?_;simp only [sw.1,rE,reduceIte,rL];apply hn;obtain ⟨h1,hh1,nh1,sh1,_,fbh1⟩:=nwE h (.cells w.cs 30);rw [<-hh1];have fh1:=fbh1;have ha1:=ha.fr fh1 (xZZ _);have hl1:=hl.fr fh1 (xZZ _);refine qB fun K hn hp=> ?_;simp only [sy.1,rE,reduceIte,rL,rA,sh1];refine cAS (rwork_c xt h1 w ha1 fun m1 hm1=> ?_);cases e1:w.ok
 ·simp only [sy.1,rE,reduceIte,rL];apply hn;refine qX (by simp only [sy.1,rE,reduceIte]) ?_;refine qB fun K hn hp=> ?_;simp only [sy.1,rL];apply hn;refine qS (qK res18 ⟨?_,fh1.up (by omega)⟩);simp [xZY,Wk.asked,e1]
 have his:=Wk.ok_is e1;simp only [sy.1,rE,reduceIte,rL,rA,sh1];refine cAS (rcut_c xt _ w (ha1.up (n:=m1) (by omega)) his v ls (hl1.up (by omega)) fun m2 hm2=> ?_);simp only [Hp.up_n] at hm2;cases e2:w.cut ls
 ·simp only [sy.1,rE,reduceIte,rL,xZX];apply hn;refine qX (by simp only [sy.1,rE,reduceIte]) ?_;refine qB fun K hn hp=> ?_;simp only [sy.1,rL];apply hn;refine qS (qK res18 ⟨?_,fh1.up (by omega)⟩);simp [xZY,Wk.asked,e1,e2]
 simp only [sy.1,rE,reduceIte,rL,xZX];apply hn;refine jL (by simp only [sy.1,rE,reduceIte]) ?_;refine qB fun K hn hp=> ?_;simp only [sy.1,rE,reduceIte,rL,rA,rD,sh1];refine cAS (rposs_c xt (h1.up m2) w.m (ha1.up (n:=m2) (by omega)).m his.m fun m3 hm3=> ?_);simp only [Hp.up_n] at hm3;cases e3:w.m.rposs
 ·simp only [sy.1,rE,reduceIte,rL,xZX];apply hn;refine qX (by simp only [sy.1,rE,reduceIte]) ?_;refine qB fun K hn hp=> ?_;simp only [sy.1,rL];apply hn;refine qS (qK res18 ⟨?_,fh1.up (by omega)⟩);simp [xZY,Wk.asked,e1,e2,e3]
 simp only [sy.1,rE,reduceIte,rL,xZX];apply hn;refine jL (by simp only [sy.1,rE,reduceIte]) ?_;refine qA fun K hn hp=> ?_;simp only [sy.1,rL];apply hn;refine qD (qK res18 ⟨?_,fh1.up (by omega)⟩);simp [xZY,Wk.asked,e1,e2,e3]
theorem qA3 {m:Mp} (hm:m.Is m.cells.length m.W) {G:Th.Grid} (hb:m.bnd=some G) (r c:Nat):0<=(G r c).1/\0<=(G r c).2:=by
 obtain ⟨_,hok,hsub,_⟩:=gQ hm hb;have q1:=hsub r c;have q2:=hok r c;have:0<=(m.F0 r c).1:=by simp only [Mp.F0];split<;>simp
 omega
def Wk.fit (w:Wk) (ls:List (Int×Int×Int)) (g:Gr):Bool:=w.ok && (w.cut ls && (g.shape w.m && fitsB w.m g))
def Wk.run (w:Wk) (ls:List (Int×Int×Int)) (g:Gr):Int×Int:=if w.fit ls g=true then (w.worth (w.give g.t) ls,0) else (0,2)
theorem qCQ {w:Wk} {v:AV} {b:Bool} {G:Th.Grid} {s:Int×Int×Int} (hb:w.Blk s):w.give (⟨v,yJ b G w.m.cells.length w.m.W⟩:Gr).t s=w.give (fun r c=>xQ b (G r c)) s:=by
 obtain ⟨r0,c0,q,n,th,wo,rfl,ht,hrn,hcn⟩:=hb;rw [Wk.give_q ht,Wk.give_q ht];have:zC (⟨v,yJ b G w.m.cells.length w.m.W⟩:Gr).t r0 c0 n n=zC (fun r c=>xQ b (G r c)) r0 c0 n n:=qA4 n fun i hi j hj=>qC2 v b G (by omega) (by omega);rw [this]
end Go.Proofs.Kn
