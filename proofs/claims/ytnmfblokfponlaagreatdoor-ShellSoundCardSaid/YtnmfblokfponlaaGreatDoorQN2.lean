/- MvU1, MvN5, MvN6, MvN7, MvN8, MvN9: texts in a row, joined by a program. -/
import Derived.Test.YtnmfblokfponlaaGreatDoorQX1
import Derived.Test.YtnmfblokfponlaaGreatDoorQN1
set_option linter.all false
open Nat renaming reduceEqDiff → rE, reduceLeDiff → rD, reduceAdd → rA, reduceMul → rM, reduceLT → rL
open Nat renaming le_refl → xZZ, le_of_lt → xZY
open Go.Ev.Hp renaming up_n → xZX
open Go.Ev.T renaming get_put → xZW
noncomputable section
namespace Go.Proofs.Kn
open Go Go.Ev Go.RowKit Go.ChangeShapes Go.WideShapes Go.ChangeAt
set_option maxRecDepth 100000
section
variable {H:Type} {enc:TypeId×Value->H} {w:World} {base:Nat} {sp:Nat->Bool} {held:Bool}
theorem read_cuts {t:Value} {d:DataW H} {ps:List MemPlace} {r:Reach} {b0:Nat} (hval:Value.okWide Tryz.prog w r b0 33 t) (hd:DataW.Trod enc Tryz.prog w base sp held 33 t d ps) (h':Hp):
  ∃l:List (Int×Int×Int),Cuts w.cell? h' (.val t) l:=by
 obtain ⟨l,h1,h2⟩:=read_cut hval hd h';refine ⟨l,h1,h2,?_⟩;obtain ⟨a,len,cap,rfl⟩:=okWide_slice und33 hval;obtain ⟨fuel,hf⟩:=hd;rcases DataW.trod_slice und33 hf with ⟨e,_⟩|⟨a',len',cap',elems,rest,n,_,e,_,_,hlc,hcm,_⟩
 ·simp [Value.cells] at e;obtain ⟨rfl,rfl,rfl⟩:=e;intro ad n c e;cases e;exact xZZ _
 ·simp [Value.cells] at e;obtain ⟨rfl,rfl,rfl⟩:=e;intro ad n c e;cases e;exact hlc
end
end Go.Proofs.Kn
end
namespace Go.Proofs.Kn
open Go Go.Ev
set_option maxRecDepth 100000
set_option maxHeartbeats 4000000
def Wk.Blk (w:Wk) (s:Int×Int×Int):Prop:= ∃(r0 c0 q n:Nat) (th wo:Int),s=((r0:Int),(c0:Int),(q:Int))/\Tub w q n th wo/\r0+n<=w.m.cells.length/\c0+n<=w.m.W
theorem wP {w:Wk} (his:w.Is) {ls:List (Int×Int×Int)} (h:w.cut ls=true): ∀s∈ls,w.Blk s:=fun s hs=>by
 obtain ⟨i,hi,e⟩:=List.getElem_of_mem hs;exact qCI his (by rw [List.getElem?_eq_getElem hi,e]) (qC8 h hi)
theorem Wk.Blk.isT {w:Wk} {s:Int×Int×Int} (h:w.Blk s):w.isT s=true:=by
 obtain ⟨r0,c0,q,n,th,wo,rfl,ht,_,_⟩:=h;have:=(List.getElem?_eq_some_iff.1 ht.at_).1;rw [Wk.isT,zC];simp only;omega
theorem wN {w:Wk} (his:w.Is) {t:Nat->Nat->Int} (hpos: ∀r c,r<w.m.cells.length->c<w.m.W->0<=t r c) {s:Int×Int×Int} (h:w.Blk s):0<=w.give t s/\w.give t s<=65:=by
 obtain ⟨r0,c0,q,n,th,wo,rfl,ht,h1,h2⟩:=h;rw [Wk.give_q ht];have k0:=his.k0;have k5:=his.k5;have t1:=ht.h1;have b1:=wU t r0 c0 n n;have b2:0<=zG t r0 c0 n n:=wV (by omega) n fun i hi j hj=>hpos _ _ (by omega) (by omega);have e5:(zG t r0 c0 n n+w.kerf).tdiv (th+w.kerf)=(zG t r0 c0 n n+w.kerf) / (th+w.kerf):=Int.tdiv_eq_ediv_of_nonneg (by omega);have e6:=Int.ediv_nonneg (a:=zG t r0 c0 n n+w.kerf) (b:=th+w.kerf) (by omega) (by omega);have e7:=Int.ediv_le_self (th+w.kerf) (show 0<=zG t r0 c0 n n+w.kerf by omega);omega
end Go.Proofs.Kn
namespace Go.Proofs.Kn
open Go Go.Ev
set_option maxRecDepth 100000
set_option maxHeartbeats 4000000
end Go.Proofs.Kn
namespace Go.Proofs.Kn
open Go Go.Ev
set_option maxRecDepth 100000
set_option maxHeartbeats 4000000
theorem isEf_mf {f:Fn} {a b:Array Operand}:zQ (.makeFunc f a b)=false:=rfl
theorem isRd_mf {f:Fn} {a b:Array Operand}:zK (.makeFunc f a b)=false:=rfl
def Wk.pworth (w:Wk) (ls:List (Int×Int×Int)):(Int×Int)×Int:=
 if (w.ok && w.cut ls)=true then
  match w.m.bnd with
  |none=>((0,0),7)
  |some G=>((w.worth (w.give (gLo G)) ls,w.worth (w.give (gHi G)) ls),0)
 else ((0,0),2)
theorem bI {m:Mp} (hm:m.Is m.cells.length m.W) {G:Th.Grid} (hb:m.bnd=some G) (r c:Nat):0<=(G r c).1/\0<=(G r c).2:=by
 obtain ⟨_,hok,hsub,_⟩:=qD4 hm hb;have q1:=hsub r c;have q2:=hok r c;have:0<=(m.F0 r c).1:=by simp only [Mp.F0];split<;>simp
 omega
theorem ft23 (xt:Addr->Option Value):(SE xt).ft.get 23=some Tryz.f23:=by kernel_rfl
theorem res23:Tryz.f23.results.toList=[.cell 4 43,.tmp 5]:=by kernel_rfl
theorem worth_c (xt:Addr->Option Value) (h:Hp) (w:Wk) (ha:w.At xt h) (v0:AV) (ls:List (Int×Int×Int)) (hl:Cuts xt h v0 ls) (hl50:ls.length<=1000000)
  {K:CR->Hp->Prop} (hk: ∀m,h.n<m->K (.ret (.tup [.agg [iv (w.pworth ls).1.1,iv (w.pworth ls).1.2],iv (w.pworth ls).2])) (h.up m)):FnA (SE xt) 23 [w.av,v0] h K:=by
 refine FnA.calm ?_ hk;clear hk K;refine FnA.walk (sok xt) (ft23 xt) rfl 38 rfl ?_;obtain ⟨o1,o2,o3,o4,o5⟩:=ha.ones;refine qA fun K hn hp=> ?_;simp only [sw.1,rE,reduceIte,rL];apply hn;obtain ⟨h1,hh1,n1,s1,k1,f1⟩:=uO h (.cells w.cs 30);obtain ⟨h3,hh3,n3,s3,k3,f3⟩:=newF f1 n1 (.cells [iv 0,iv 0] 43);simp only [<-hh1,<-hh3];clear hh1 hh3;have u1:=(k3 h.n (by omega)).trans s1;have ha3:=ha.fr f3 (xZZ _);have hl3:=hl.fr f3 (xZZ _);simp only [rA] at s3 n3;refine qE ?_;refine qA fun K hn hp=> ?_;simp only [sy.1,rE,reduceIte,rL,rA,u1];refine qB (sok xt) (gN xt _ w ha3 fun m1 hm1=> ?_);cases e1:w.ok
 ·simp only [sy.1,rE,reduceIte,rL];apply hn;refine qC true (by simp only [sy.1,rE,reduceIte]) (fun _=> ?_) (fun hx=>by cases hx);refine qE ?_;refine qA fun K hn hp=> ?_;simp only [sw.1,rE,reduceIte,rL,rA,s3,qBM];apply hn;refine qU (yT (v:= .agg [iv 0,iv 0]) res23 ?_ ⟨?_,?_⟩)
  ·simp only [sy.1,rE,reduceIte,rA,s3]
  ·simp [xZW,Wk.pworth,e1]
  ·exact (f3.up (xZY hm1)).set (by omega) (by simp only [xZX];omega) _
 have his:=Wk.ok_is e1;simp only [sy.1,rE,reduceIte,rL,rA,u1];refine qB (sok xt) (qCQ xt _ w (ha3.up (xZY hm1)) his v0 ls (hl3.up (xZY hm1)) fun m2 hm2=> ?_);simp only [xZX] at hm2;cases e2:w.cut ls
 ·simp only [sy.1,rE,reduceIte,rL,Hp.up_up];apply hn;refine qC true (by simp only [sy.1,rE,reduceIte]) (fun _=> ?_) (fun hx=>by cases hx);refine qE ?_;refine qA fun K hn hp=> ?_;simp only [sw.1,rE,reduceIte,rL,rA,s3,qBM];apply hn;refine qU (yT (v:= .agg [iv 0,iv 0]) res23 ?_ ⟨?_,?_⟩)
  ·simp only [sy.1,rE,reduceIte,rA,s3]
  ·simp [xZW,Wk.pworth,e1,e2]
  ·exact (f3.up (by omega)).set (by omega) (by simp only [xZX];omega) _
 simp only [sy.1,rE,reduceIte,rL,Hp.up_up];apply hn;refine qC false (by simp only [sy.1,rE,reduceIte]) (fun hx=>by cases hx) (fun _=> ?_);refine qI ?_;refine qA fun K hn hp=> ?_;simp only [sy.1,rE,reduceIte,rL,rA,u1];have ha3u:=ha3.up (n:=m2) (by omega);refine qB (sok xt) (FnA.mono (bH xt (h3.up m2) w ha3u _ _ his.m) fun res h4 hres=> ?_);obtain ⟨f4,hres⟩:=hres;have low4: ∀k,k<m2->h4.t.get k=h3.t.get k:=fun k hk=>f4.at_ k (.inl hk);have v1:=(low4 h.n (by omega)).trans u1;have v3:=(low4 (h.n+1) (by omega)).trans s3;have n4:m2<=h4.n:=f4.lo;have f4h:Fr h.n h h4:=(f3.up (m:=m2) (by omega)).trans f4 (by simp only [xZX];omega);change match w.m.bnd with|some G=>_|none=>_ at hres
 cases hb:w.m.bnd with
 |none=>
  rw [hb] at hres;subst hres;simp only [sw.1,rE,reduceIte,rL,rA,sv.1];obtain ⟨h5,hh5,n5,s5,k5,f5⟩:=nsE h4 (.cells yL 121) (.cells yL 121);rw [<-hh5];apply hn;clear hh5;have x3:=(k5 (h.n+1) (by omega)).trans v3;refine qE ?_;refine qA fun K hn hp=> ?_;simp only [sy.1,rE,reduceIte,rL];apply hn;refine qC true (by simp only [sy.1,rE,reduceIte,d70]) (fun _=> ?_) (fun hx=>by cases hx);refine qE ?_;refine qA fun K hn hp=> ?_;simp only [sw.1,rE,reduceIte,rL,rA,x3,qBM];apply hn;refine qU (yT (v:= .agg [iv 0,iv 0]) res23 ?_ ⟨?_,?_⟩)
  ·simp only [sy.1,rE,reduceIte,rA,x3]
  ·simp [xZW,Wk.pworth,e1,e2,hb]
  ·exact (f4h.trans f5 (by omega)).set (by omega) (by omega) _
 |some G=>
  rw [hb] at hres;obtain ⟨v,M,rfl,sg,m1',m2'⟩:=hres;have onev:=sg.one;simp only [sw.1,rE,reduceIte,rL,rA,sv.1,o1,o2,o3,o4,o5,onev];obtain ⟨h5,hh5,n5,s5,k5,f5⟩:=nsE h4 (.cells yL 121) (.cells (w.bc v) 121);rw [<-hh5];apply hn;clear hh5;have f5h:=f4h.trans f5 (by omega);have x3:=(k5 (h.n+1) (by omega)).trans v3;have ha5:=ha.fr f5h (xZZ _);have hl5:=hl.fr f5h (xZZ _);refine qE ?_;refine qA fun K hn hp=> ?_;simp only [sy.1,rE,reduceIte,rL];apply hn;refine qC false (by simp only [sy.1,rE,reduceIte]) (fun hx=>by cases hx) (fun _=> ?_);refine qI ?_;have hblk:=wP his e2;have hr6:=his.m.r6;have hc8:=his.m.c8;have sg5:SG h5 (h3.up m2).n M v _ _ G:=sg.keep fun k _ hk=>k5 k (by omega);have hpos:=bI his.m hb;refine uT (sok xt) 0 0 9 [(5,0),(7,0)] (by kernel_rfl) fun K hn hp=> ?_;simp only [sy.1,rE,reduceIte,rL,rA,syw.1,isEf_mf,isRd_mf,s5];refine qB (sok xt) (qAS xt h5 w ha5 his v onev v0 ls hl5 (fun s hs=>(hblk s hs).isT) hl50 _ (w.give (gLo G)) (fun s hs=>wN his (fun r c _ _=>(hpos r c).1) (hblk s hs)) (fun h' s fr hs K hK=> ?_) fun m3 hm3=> ?_)
  ·obtain ⟨r0,c0,q,n,th,wo,rfl,ht,hrn,hcn⟩:=hblk s hs;refine j7 (sok xt) (gL xt h' w (ha5.fr fr (xZZ _)) v G _ M _ _ (sg5.fr fr (by omega)) (by have:=fr.le;omega) r0 c0 q n th wo ht.at_ (by omega) (by omega) hrn hcn ht.n3 ht.n1 his.k0 his.k5 ht.h1 ht.h60 (fun i _ j _=>(hpos _ _).1) fun m4 hm4=> ?_);rw [<-Wk.give_q ht];exact hK m4 hm4
  simp only [sy.1,rE,reduceIte,rL,rA,syw.1,isEf_mf,isRd_mf,s5,hm3];refine qB (sok xt) (qAS xt (h5.up m3) w (ha5.up (xZY hm3)) his v onev v0 ls (hl5.up (xZY hm3)) (fun s hs=>(hblk s hs).isT) hl50 _ (w.give (gHi G)) (fun s hs=>wN his (fun r c _ _=>(hpos r c).2) (hblk s hs)) (fun h' s fr hs K hK=> ?_) fun m4 hm4=> ?_)
  ·obtain ⟨r0,c0,q,n,th,wo,rfl,ht,hrn,hcn⟩:=hblk s hs;have le1:=fr.le;simp only [xZX] at le1;refine j7 (sok xt) (most_c xt h' w ((ha5.up (xZY hm3)).fr fr (xZZ _)) v G _ M _ _ ((sg5.up m3).fr fr (by simp only [xZX];omega)) (by omega) r0 c0 q n th wo ht.at_ (by omega) (by omega) hrn hcn ht.n3 ht.n1 his.k0 his.k5 ht.h1 ht.h60 (fun i _ j _=>(hpos _ _).2) fun m4 hm4=> ?_);rw [<-Wk.give_q ht];exact hK m4 hm4
  simp only [xZX] at hm4;simp only [sw.1,rE,reduceIte,rL,rA,x3,Hp.up_up,bd43];refine hn _ _ (qD (yT (v:= .agg [iv (w.worth (w.give (gLo G)) ls),iv (w.worth (w.give (gHi G)) ls)]) res23 ?_ ⟨?_,?_⟩))
  ·simp only [sy.1,rE,reduceIte,rA,x3]
  ·simp [xZW,Wk.pworth,e1,e2,hb]
  ·exact (f5h.up (by omega)).set (by omega) (by simp only [xZX];omega) _
end Go.Proofs.Kn
namespace Go.Proofs.Kn
open Go Go.Ev
set_option maxRecDepth 100000
set_option maxHeartbeats 4000000
def Wk.fit (w:Wk) (ls:List (Int×Int×Int)) (g:Gr):Bool:=w.ok && (w.cut ls && (g.shape w.m && fitsB w.m g))
def Wk.run (w:Wk) (ls:List (Int×Int×Int)) (g:Gr):Int×Int:=if w.fit ls g=true then (w.worth (w.give g.t) ls,0) else (0,2)
end Go.Proofs.Kn
namespace Go.Proofs.Kn
open Go Go.Ev
set_option maxRecDepth 100000
set_option maxHeartbeats 4000000
end Go.Proofs.Kn
