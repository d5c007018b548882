/- Parts. -/
import Derived.Test.YthimlgffanlomaaGreatDoorQY3
import Derived.Test.YthimlgffanlomaaGreatDoorQN2
import Derived.Test.YthimlgffanlomaaGreatDoorQY4
set_option linter.all false
open Nat renaming reduceEqDiff → rE, reduceLeDiff → rD, reduceAdd → rA, reduceMul → rM, reduceLT → rL
open Go.Ev.T renaming get_put → xZZ
open Int renaming toNat_natCast → xZY
open Nat renaming le_refl → xZX
namespace Go.Proofs.Kn
open Go Go.Ev
set_option maxRecDepth 100000
set_option maxHeartbeats 4000000
structure Wk.Bd (w:Wk) (xt:Xt) (h:Hp) (N M:Nat) (v:AV) (G:Th.Grid):Prop where
 at_:w.At xt h
 sg:SG h N M v w.m.cells.length w.m.W G
 hM:M<=h.n
theorem Wk.Bd.fr {w:Wk} {xt:Xt} {h h':Hp} {N M:Nat} {v:AV} {G:Th.Grid} (a:w.Bd xt h N M v G) {n:Nat} (f:Fr n h h') (hn:h.n<=n):w.Bd xt h' N M v G:=⟨a.at_.fr f hn,a.sg.fr f (Nat.le_trans a.hM hn),Nat.le_trans a.hM f.le⟩
def Wk.lv (w:Wk) (G:Th.Grid) (s:Int×Int×Int):Int:=(w.tb s.2.2.toNat).2.2*w.give (gLo G) s
def Wk.sel (w:Wk) (wd:Nat) (s:Int×Int×Int):Bool:=decide ((w.tb s.2.2.toNat).1=(wd:Int)) && w.pcan s
theorem Wk.Is.lv_bd {w:Wk} (his:w.Is) {G:Th.Grid} (hb:w.m.bnd=some G) {s:Int×Int×Int} (hs:w.Blk s):0<=w.lv G s/\w.lv G s<=6500:=by
 have hpos:=qA3 his.m hb;have g1:=give_bd his (fun r c _ _=>(hpos r c).1) hs;obtain ⟨r0,c0,q,n,th,wo,rfl,ht,hrn,hcn⟩:=hs;have w1:=ht.w1;have w2:=ht.w100;simp only [Wk.lv,xZY,ht.tb];have p1:0<=wo*w.give (gLo G) ((r0:Int),(c0:Int),(q:Int)):=Int.mul_nonneg (by omega) g1.1;have p2:wo*w.give (gLo G) ((r0:Int),(c0:Int),(q:Int))<=100*65:=Int.mul_le_mul w2 g1.2 g1.1 (by omega);exact ⟨p1,p2⟩
theorem seq_label {E:Env} {r:Option Nat} {l:Nat} {b:Code} {st:St} {Q:Ex->St->Prop} (hw:wpc E r b st Q):wpc E r (.seq (.label l) b) st Q:=hw
theorem bd61 (a b c:Int):vN tb 63 [(0,iv a),(1,iv b),(2,iv c)]=some (.agg [iv a,iv b,iv c]):=by kernel_rfl
theorem ft210 (xt:Xt):(SE xt).ft.get 147=some Tryz.f147:=by kernel_rfl
theorem res210:Tryz.f147.results.toList=[]:=by kernel_rfl
theorem qD5 (xt:Xt) (h:Hp) (w:Wk) (his:w.Is) (N M:Nat) (v:AV) (G:Th.Grid) (hb:w.m.bnd=some G) (l pb pr pc pw row col wd:Nat) (I:Nat->Hp->Prop) (S:Hp->Prop) (h0:I 0 h)
  (hmem: ∀k h',I k h'->w.Bd xt h' N M v G/\h'.t.get pb=some (.cells (w.bc v) 85)/\h'.t.get pr=some (.cells [iv row] 3)/\h'.t.get pc=some (.cells [iv col] 3)/\h'.t.get pw=some (.cells [iv wd] 3))
  (hlt: ∀k h',I k h'->pb<h'.n/\pr<h'.n/\pc<h'.n/\pw<h'.n)
  (hfr: ∀k h' h'',I k h'->Fr h'.n h' h''->I k h'')
  (hskip: ∀k h',k<w.ts.length->w.sel wd ((row:Int),(col:Int),(k:Int))=false->I k h'->I (k+1) h')
  (hY: ∀k,k<w.ts.length->w.sel wd ((row:Int),(col:Int),(k:Int))=true->qE3 (SE xt) (.yld l) [qBx ((row:Int),(col:Int),(k:Int)),iv (w.lv G ((row:Int),(col:Int),(k:Int)))] (I k) (I (k+1)) S):
  FnA (SE xt) 147 [.yld l,.ptr pb 0,.ptr pr 0,.ptr pc 0,.ptr pw 0] h (fun res h'=>(∃v,res= .ret v)/\(I w.ts.length h'\/S h')):=by
 refine FnA.walk (sok xt) (ft210 xt) rfl 44 rfl ?_;obtain ⟨b0,e0,e1,e2,e3⟩:=hmem _ _ h0;obtain ⟨o1,o2,o3,o4,o5⟩:=b0.at_.ones;have onev:=b0.sg.one;have hlen:=b0.at_.len;have t4:=his.t4;have t0:=his.t0;have r6:=his.m.r6;have c8:=his.m.c8;refine seq_label (l:=0) ?_;refine qA fun K hn hp=> ?_;simp only [sw.1,rE,reduceIte,rL,rA,syw.1,hlen,e0];apply hn;refine qY fun KA A1 A2 A3 A4 A5=> ?_;refine qI (sok xt) (fun st=> ∃(k:Nat) (hg:Hp) (tm:T AV),st=⟨tm,44,hg,[]⟩/\k<=w.ts.length/\tm.get 0=some (.yld l)/\tm.get 1=some (.ptr pb 0)/\tm.get 2=some (.ptr pr 0)/\tm.get 3=some (.ptr pc 0)/\tm.get 4=some (.ptr pw 0)/\tm.get 11=some (w.vt)/\tm.get 12=some (iv (w.ts.length:Int))/\tm.get 13=some (iv k)/\I k hg) (fun st=>w.ts.length - (match st.tm.get 13 with|some (.val (.int _ n))=>n.toNat|_=>0)) ?_ ?_
 ·rintro st ⟨k,hg,tm,rfl,hkA,g0,g1,g2,g3,g4,g11,g12,g13,hI⟩;have muA:=g13;refine qA fun K hn hp=> ?_;simp only [sy.1,rL,qR,g12,g13];apply hn;by_cases hk:k<w.ts.length
  ·refine qV (by simp only [sy.1,reduceIte,hk]) ?_;obtain ⟨n,th,wo,ht⟩:=his.tub hk;have hx:=ht.at_;obtain ⟨bg,e0,e1,e2,e3⟩:=hmem _ _ hI;obtain ⟨l0,l1,l2,l3⟩:=hlt _ _ hI;have i1:=bg.at_.ts.idx qAg rfl yF rfl (i:=k) (by simpa using hk) (k:= .i64);have i2:=bg.at_.ts.loadA yF rfl rfl (i:=k) (c:=Kn.t3 ((n:Int),th,wo)) (by rw [List.getElem?_map,hx];rfl);simp only [Kn.t3,List.map_cons,List.map_nil] at i2;refine qC fun KB B1 B2 B3 B4 B5=> ?_;refine qA fun K hn hp=> ?_;simp only [sw.1,rE,reduceIte,rL,rA,al90,g11,g13,i1,i2];obtain ⟨h5,hh5,n5,s5,k5,f5⟩:=nsE hg (.cells [iv 0,iv 0,iv 0] 111) (.cells [iv (n:Int),iv th,iv wo] 111);rw [<-hh5];apply hn;clear hh5;have x1:=(k5 pr l1).trans e1;have x2:=(k5 pc l2).trans e2;refine qA fun K hn hp=> ?_;simp only [sw.1,rE,reduceIte,rL,rA,al61,g2,g3,x1,x2,bd61];obtain ⟨h6,hh6,n6,s6,k6,f6⟩:=nsE h5 (.cells [iv 0,iv 0,iv 0] 63) (.cells [iv (row:Int),iv (col:Int),iv (k:Int)] 63);rw [n5] at n6 s6 k6;rw [<-hh6];apply hn;clear hh6;have f6g:Fr hg.n hg h6:=f5.trans f6 (by omega);have y0:=(f6g.at_ pb (.inl l0)).trans e0;have y3:=(f6g.at_ pw (.inl l3)).trans e3;have y5:=(k6 hg.n (by omega)).trans s5;have b6:=bg.fr f6g (xZX _);have hsel:w.sel wd ((row:Int),(col:Int),(k:Int))=(decide ((n:Int)=(wd:Int)) && w.m.pcan w.m.cells.length w.m.W n (row:Int) (col:Int)):=by
    simp [Wk.sel,ht.tb,Wk.pcan_q ht]
   refine jP ?_;by_cases e:(n:Int)=(wd:Int)
   ·have d:decide ((n:Int)=(wd:Int))=true:=decide_eq_true e;refine qA fun K hn hp=> ?_;simp only [sy.1,rE,reduceIte,rL,rA,rD,g1,g4,y0,y3,y5,s6,n5,d];refine cAS (can_c xt h6 w b6.at_ _ _ his.m his.rc (row:Int) (col:Int) k n th wo hx ht.n3 fun m1 hm1=> ?_);cases hc:w.m.pcan w.m.cells.length w.m.W n (row:Int) (col:Int)
    ·simp only [sy.1,rE,reduceIte,rL];apply hn;refine qX (by simp only [sy.1,rE,reduceIte]) ?_;refine qG (B2 _ ?_);refine reg fun K hn hp=> ?_;simp only [sy.1,rE,reduceIte,rL,g13,qE hk (show w.ts.length<=9223372036854775807 by omega)];apply hn;refine ⟨⟨k+1,h6.up m1,_,rfl,by omega,(by simp [xZZ,g0]),(by simp [xZZ,g1]),(by simp [xZZ,g2]),(by simp [xZZ,g3]),(by simp [xZZ,g4]),(by simp [xZZ,g11]),(by simp [xZZ,g12]),(by simp [xZZ]),hskip k _ hk (by rw [hsel,hc,Bool.and_false]) (hfr k hg _ hI (f6g.up (Nat.le_of_lt hm1)))⟩,by simpa [xZZ,muA] using (by omega:w.ts.length - (k+1)<w.ts.length - k)⟩
    ·simp only [sy.1,rE,reduceIte,rL];apply hn;refine jL (by simp only [sy.1,rE,reduceIte]) ?_;have hs:w.sel wd ((row:Int),(col:Int),(k:Int))=true:=by rw [hsel,hc,d];rfl
     obtain ⟨r0,c0,er,ec,hrn,hcn⟩:=Wk.pcan_in ht (a:=(row:Int)) (b:=(col:Int)) (by rw [Wk.pcan_q ht];exact hc);obtain rfl:row=r0:=by omega
     obtain rfl:col=c0:=by omega
     have hpos:=qA3 his.m hb;have hlv:w.lv G ((row:Int),(col:Int),(k:Int))=wo*w.give (gLo G) ((row:Int),(col:Int),(k:Int)):=by simp only [Wk.lv,xZY,ht.tb]
     have hbd:=his.lv_bd hb (s:=((row:Int),(col:Int),(k:Int))) ⟨_,_,_,n,th,wo,rfl,ht,hrn,hcn⟩;rw [hlv] at hbd;have b7:=b6.fr ((Fr.refl (xZX _)).up (Nat.le_of_lt hm1)) (xZX _);refine qW (sok xt) 0 0 8 [(1,1),(1,2),(2,1),(3,1)] (by kernel_rfl) fun K hn hp=> ?_;simp only [sy.1,rE,reduceIte,rL,rA,syw.1,g0,g1,y0,s6];refine cAS (least_c xt (h6.up m1) w b7.at_ v G N M _ _ b7.sg b7.hM row col k n th wo ht.at_ (by omega) (by omega) hrn hcn ht.n3 ht.n1 his.k0 his.k5 ht.h1 ht.h60 (fun i _ j _=>(hpos _ _).1) fun m2 hm2=> ?_);simp only [Hp.up_n] at hm2;rw [<-Wk.give_q ht];simp only [sy.1,rE,reduceIte,rL,rA,syw.1,Hp.up_up,hm2];refine cAS (value_c xt (h6.up m2) w (b6.at_.up (by omega)) v onev (row:Int) (col:Int) k n th wo ht.at_ (w.give (gLo G) ((row:Int),(col:Int),(k:Int))) (by omega) (by omega) fun m3 hm3=> ?_);simp only [Hp.up_n] at hm3;simp only [sy.1,rE,reduceIte,rL,rA,syw.1,g1,y0,s6,Hp.up_up,hm3];rw [<-hlv];refine (hY k hk hs (h6.up m3) (hfr k hg _ hI (f6g.up (by omega)))).mono ?_;rintro res h7 (⟨rfl,hI7⟩|⟨rfl,hS⟩)
     ·simp only [sy.1,rE,reduceIte,rL];apply hn;refine wcF (by simp only [sy.1,rE,reduceIte]) ?_;refine qN (B1 _ ?_);refine reg fun K hn hp=> ?_;simp only [sy.1,rE,reduceIte,rL,g13,qE hk (show w.ts.length<=9223372036854775807 by omega)];apply hn;refine ⟨⟨k+1,h7,_,rfl,by omega,(by simp [xZZ,g0]),(by simp [xZZ,g1]),(by simp [xZZ,g2]),(by simp [xZZ,g3]),(by simp [xZZ,g4]),(by simp [xZZ,g11]),(by simp [xZZ,g12]),(by simp [xZZ]),hI7⟩,by simpa [xZZ,muA] using (by omega:w.ts.length - (k+1)<w.ts.length - k)⟩
     ·simp only [sy.1,rE,reduceIte,rL];apply hn;refine wcT (by simp only [sy.1,rE,reduceIte]) ?_;refine qD (B4 _ (A4 _ ⟨_,[],rfl,by rw [res210];rfl,⟨_,rfl⟩,.inr hS⟩))
   ·have d:decide ((n:Int)=(wd:Int))=false:=decide_eq_false e;refine qA fun K hn hp=> ?_;simp only [sy.1,rE,reduceIte,rL,g4,y3,y5,n5,d];apply hn;refine qX (by simp only [sy.1,rE,reduceIte]) ?_;refine qG (B2 _ ?_);refine reg fun K hn hp=> ?_;simp only [sy.1,rE,reduceIte,rL,g13,qE hk (show w.ts.length<=9223372036854775807 by omega)];apply hn;refine ⟨⟨k+1,h6,_,rfl,by omega,(by simp [xZZ,g0]),(by simp [xZZ,g1]),(by simp [xZZ,g2]),(by simp [xZZ,g3]),(by simp [xZZ,g4]),(by simp [xZZ,g11]),(by simp [xZZ,g12]),(by simp [xZZ]),hskip k _ hk (by rw [hsel,d,Bool.false_and]) (hfr k hg _ hI f6g)⟩,by simpa [xZZ,muA] using (by omega:w.ts.length - (k+1)<w.ts.length - k)⟩
  ·refine qU (by simp only [sy.1,reduceIte,hk]) ?_;refine qG (A2 _ ?_);obtain rfl:k=w.ts.length:=by omega
   exact ⟨_,[],rfl,by rw [res210];rfl,⟨_,rfl⟩,.inl hI⟩
 ·exact ⟨0,h,_,rfl,(by omega),(by simp [xZZ]),(by simp [xZZ]),(by simp [xZZ]),(by simp [xZZ]),(by simp [xZZ]),(by simp [xZZ]),(by simp [xZZ]),(by simp [xZZ]),h0⟩
theorem ft169 (xt:Xt):(SE xt).ft.get 94=some Tryz.f94:=by kernel_rfl
theorem res169:Tryz.f94.results.toList=[.tmp 8]:=by kernel_rfl
theorem qFY (xt:Xt) (h:Hp) (w:Wk) (ha:w.At xt h) (v:AV) (onev:Go.Ev.one v=true) (row wd col:Int) {K:KP}
  (hk:K (.ret (.fn (.func 147) [] [.ptr h.n 0,.ptr (h.n+1) 0,.ptr (h.n+3) 0,.ptr (h.n+2) 0])) ((((h.new (.cells (w.bc v) 85)).new (.cells [iv row] 3)).new (.cells [iv wd] 3)).new (.cells [iv col] 3))):FnA (SE xt) 94 [.agg (w.bc v),iv row,iv wd,iv col] h K:=by
 refine FnA.walk (sok xt) (ft169 xt) rfl 10 rfl ?_;obtain ⟨o1,o2,o3,o4,o5⟩:=ha.ones;refine qA fun K hn hp=> ?_;simp only [sw.1,rE,reduceIte,rL,rA];apply hn;refine qA fun K hn hp=> ?_;simp only [sy.1,rE,reduceIte,rL];apply hn;refine qD (qK res169 ?_);simpa [xZZ] using hk
def vM (c0:Cg) (l:List Cg):Cg:=l.foldl (fun out y=>if bet y out=true then y else out) c0
theorem qA0 {c0:Cg} {l:List Cg}:vM c0 l=c0\/vM c0 l∈l:=by
 unfold vM;induction l generalizing c0 with
 |nil=>exact .inl rfl
 |cons c l ih=>
  simp only [List.foldl_cons];rcases ih (c0:=if bet c c0=true then c else c0) with h|h
  ·rw [h];split
   ·exact .inr List.mem_cons_self
   ·exact .inl rfl
  ·exact .inr (List.mem_cons_of_mem _ h)
abbrev Wk.blkK (row col:Nat) (k:Nat):Int×Int×Int:=((row:Int),(col:Int),(k:Int))
def Wk.selTo (w:Wk) (wd row col k:Nat):List (Int×Int×Int):=((List.range k).map (Wk.blkK row col)).filter (w.sel wd)
theorem Wk.selTo_succ (w:Wk) (wd row col k:Nat):w.selTo wd row col (k+1)=w.selTo wd row col k++if w.sel wd (Wk.blkK row col k)=true then [Wk.blkK row col k] else []:=by
 simp only [Wk.selTo,List.range_succ,List.map_append,List.filter_append,List.map_cons,List.map_nil,List.filter_cons,List.filter_nil]
def Wk.bandP (w:Wk) (G:Th.Grid) (row wd:Nat):Nat->Cg
 |0=>([],0)
 |m+1=>vM (Wk.bandP w G row wd m) (Wk.bandP w G row wd m::(w.selTo wd row (w.m.W - (m+1)) w.ts.length).map fun s=>(s::(Wk.bandP w G row wd (m - (wd - 1))).1,w.lv G s+(Wk.bandP w G row wd (m - (wd - 1))).2))
termination_by m=>m
decreasing_by all_goals omega
def Wk.cnd (w:Wk) (G:Th.Grid) (row wd m k:Nat):List Cg:=Wk.bandP w G row wd m::(w.selTo wd row (w.m.W - (m+1)) k).map fun s=>(s::(Wk.bandP w G row wd (m - (wd - 1))).1,w.lv G s+(Wk.bandP w G row wd (m - (wd - 1))).2)
theorem Wk.bandP_succ (w:Wk) (G:Th.Grid) (row wd m:Nat):w.bandP G row wd (m+1)=vM (w.bandP G row wd m) (w.cnd G row wd m w.ts.length):=by rw [Wk.bandP];rfl
theorem Wk.bandP_zero (w:Wk) (G:Th.Grid) (row wd:Nat):w.bandP G row wd 0=([],0):=by rw [Wk.bandP]
theorem Wk.cnd_succ (w:Wk) (G:Th.Grid) (row wd m k:Nat):w.cnd G row wd m (k+1)=w.cnd G row wd m k++if w.sel wd (Wk.blkK row (w.m.W - (m+1)) k)=true then [(Wk.blkK row (w.m.W - (m+1)) k::(w.bandP G row wd (m - (wd - 1))).1,w.lv G (Wk.blkK row (w.m.W - (m+1)) k)+(w.bandP G row wd (m - (wd - 1))).2)] else []:=by
 simp only [Wk.cnd,Wk.selTo_succ,List.map_append,List.cons_append];split<;>rfl
theorem Wk.Is.selBlk {w:Wk} (his:w.Is) {wd row col k:Nat} (hk:k<w.ts.length) (hs:w.sel wd (Wk.blkK row col k)=true):w.Blk (Wk.blkK row col k)/\row+wd<=w.m.cells.length/\col+wd<=w.m.W/\1<=wd/\wd<=3:=by
 obtain ⟨n,th,wo,ht⟩:=his.tub hk;simp only [Wk.sel,Wk.blkK,Bool.and_eq_true,decide_eq_true_eq,xZY,ht.tb] at hs;obtain ⟨r0,c0,er,ec,hr,hc⟩:=Wk.pcan_in ht hs.2;obtain rfl:row=r0:=by omega
 obtain rfl:col=c0:=by omega
 obtain rfl:n=wd:=by omega
 exact ⟨⟨_,_,_,n,th,wo,rfl,ht,hr,hc⟩,hr,hc,ht.n1,ht.n3⟩
theorem Wk.selTo_mem {w:Wk} {wd row col k:Nat} {s:Int×Int×Int} (hs:s∈w.selTo wd row col k): ∃j,j<k/\s=Wk.blkK row col j/\w.sel wd s=true:=by
 obtain ⟨h1,h2⟩:=List.mem_filter.1 hs;obtain ⟨j,hj,rfl⟩:=List.mem_map.1 h1;exact ⟨j,List.mem_range.1 hj,rfl,h2⟩
theorem Wk.Is.bandP_bd {w:Wk} (his:w.Is) {G:Th.Grid} (hb:w.m.bnd=some G) (row wd:Nat): ∀m,(w.bandP G row wd m).1.length<=m/\0<=(w.bandP G row wd m).2/\(w.bandP G row wd m).2<=6500*m:=by
 intro m;induction m using Nat.strongRecOn with
 |ind m ih=>
 cases m with
 |zero=>rw [Wk.bandP_zero];simp
 |succ m=>
  have i1:=ih m (by omega);have i2:=ih (m - (wd - 1)) (by omega);have key: ∀c∈w.cnd G row wd m w.ts.length,c.1.length<=m+1/\0<=c.2/\c.2<=6500*((m+1:Nat):Int):=by
   intro c hc;rcases List.mem_cons.1 hc with rfl|hc
   ·omega
   ·obtain ⟨s,hs,rfl⟩:=List.mem_map.1 hc;obtain ⟨j,hj,rfl,hsel⟩:=Wk.selTo_mem hs;obtain ⟨b1,b2,b3,b4,b5⟩:=his.selBlk hj hsel;have l1:=his.lv_bd hb b1;simp only [List.length_cons];omega
  rw [Wk.bandP_succ];rcases qA0 (c0:=w.bandP G row wd m) (l:=w.cnd G row wd m w.ts.length) with e|e
  ·rw [e];omega
  ·exact key _ e
structure CgAt (xt:Xt) (Own:Nat->Prop) (h:Hp) (z:AV) (l:List (Int×Int×Int)):Prop where
 cuts:Cuts xt h z l
 inn:Inn z
 av: ∀b off n s,z= .sl b off n s-> ¬Own b
theorem CgAt.keep {xt:Xt} {Own:Nat->Prop} {h h':Hp} {z:AV} {l:List (Int×Int×Int)} (a:CgAt xt Own h z l) (hn:h.n<=h'.n) (hk: ∀b,b<h.n-> ¬Own b->h'.t.get b=h.t.get b):CgAt xt Own h' z l:=
 ⟨⟨a.cuts.row.keepB hn fun b off n s e hb=>hk b hb (a.av b off n s e),a.cuts.lt,a.cuts.cap⟩,a.inn,a.av⟩
theorem CgAt.more {xt:Xt} {Own:Nat->Prop} {h:Hp} {z:AV} {l:List (Int×Int×Int)} (a:CgAt xt Own h z l) (X:Nat->Prop) (hX: ∀b,X b->h.n<=b):CgAt xt (fun b=>Own b\/X b) h z l:=
 ⟨a.cuts,a.inn,fun b off n s e=>by
  rintro (h1|h1)
  ·exact a.av b off n s e h1
  ·have:=a.cuts.row.lt e;have:=hX b h1;omega⟩
theorem CgAt.less {xt:Xt} {Own Own':Nat->Prop} {h:Hp} {z:AV} {l:List (Int×Int×Int)} (a:CgAt xt Own h z l) (hO: ∀b,Own' b->Own b):CgAt xt Own' h z l:=⟨a.cuts,a.inn,fun b off n s e hb=>a.av b off n s e (hO b hb)⟩
theorem NewC.cg {xt:Xt} {N:Nat} {h:Hp} {z:AV} {l:List (Int×Int×Int)} (a:NewC xt N h z l) {Own:Nat->Prop} (hO: ∀b,Own b->b<N):CgAt xt Own h z l:=⟨a.cuts,a.inn,fun b off n s e hb=>by have:=a.lo b off n s e;have:=hO b hb;omega⟩
theorem CgAt.nil {xt:Xt} {Own:Nat->Prop} {h:Hp}:CgAt xt Own h (.val (.slice none 0 0)) []:=⟨Cuts.nil,fun _ _ _ e=>(by cases e),fun _ _ _ _ e _=>(by cases e)⟩
def MI (xt:Xt) (Own:Nat->Prop) (h:Hp) (P:Int->Cg) (l:Mem):Prop:= ∀e∈l,CgAt xt Own h e.2.1 e.2.2.1/\e.2.2=P e.1
theorem MI.keep {xt:Xt} {Own:Nat->Prop} {h h':Hp} {P:Int->Cg} {l:Mem} (a:MI xt Own h P l) (hn:h.n<=h'.n) (hk: ∀b,b<h.n-> ¬Own b->h'.t.get b=h.t.get b):MI xt Own h' P l:=fun e he=>⟨(a e he).1.keep hn hk,(a e he).2⟩
theorem MI.more {xt:Xt} {Own:Nat->Prop} {h:Hp} {P:Int->Cg} {l:Mem} (a:MI xt Own h P l) (X:Nat->Prop) (hX: ∀b,X b->h.n<=b):MI xt (fun b=>Own b\/X b) h P l:=fun e he=>⟨(a e he).1.more X hX,(a e he).2⟩
theorem MI.less {xt:Xt} {Own Own':Nat->Prop} {h:Hp} {P:Int->Cg} {l:Mem} (a:MI xt Own h P l) (hO: ∀b,Own' b->Own b):MI xt Own' h P l:=fun e he=>⟨(a e he).1.less hO,(a e he).2⟩
abbrev slv (b:Nat):AV:= .fn (.func 154) [] [.ptr b 0,.ptr (b+5) 0,.ptr (b+6) 0,.ptr (b+1) 0,.ptr (b+2) 0]
structure BEnv (w:Wk) (hb:Hp) (v:AV) (row wd:Nat) (h:Hp):Prop where
 fr:Fr hb.n hb h
 q1:h.t.get hb.n=some (.cells (w.bc v) 85)
 q4:h.t.get (hb.n+1)=some (.cells [iv (row:Int)] 3)
 q5:h.t.get (hb.n+2)=some (.cells [iv (wd:Int)] 3)
 q2:h.t.get (hb.n+5)=some (.cells [.mp (hb.n+4)] 220)
 q3:h.t.get (hb.n+6)=some (.cells [slv hb.n] 129)
 lt:hb.n+7<=h.n
theorem BEnv.frM {w:Wk} {hb:Hp} {v:AV} {row wd:Nat} {h h':Hp} {M:Nat->Prop} {m:Nat} (a:BEnv w hb v row wd h) (f:FrM M m h h') (hm:hb.n+7<=m) (hM: ∀k,M k->(k=hb.n+4\/hb.n+7<=k)/\k<h.n):BEnv w hb v row wd h':=by
 have l1:=f.le;have l2:=a.lt;have hk: ∀b,b<hb.n+7->b≠hb.n+4->h'.t.get b=h.t.get b:=fun b h1 h2=>f.get (by omega) fun h3=>by have:=hM b h3;omega
 refine ⟨f.toFr a.fr (by omega) fun k hk=> ?_,?_,?_,?_,?_,?_,by omega⟩
 ·have:=hM k hk;omega
 ·rw [hk _ (by omega) (by omega)];exact a.q1
 ·rw [hk _ (by omega) (by omega)];exact a.q4
 ·rw [hk _ (by omega) (by omega)];exact a.q5
 ·rw [hk _ (by omega) (by omega)];exact a.q2
 ·rw [hk _ (by omega) (by omega)];exact a.q3
theorem BEnv.fr' {w:Wk} {hb:Hp} {v:AV} {row wd:Nat} {h h':Hp} (a:BEnv w hb v row wd h) (f:Fr h.n h h'):BEnv w hb v row wd h':=a.frM (M:=fun _=>False) (FrM.of f) a.lt (fun _ h=>h.elim)
end Go.Proofs.Kn
