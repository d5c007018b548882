/- MvU1, MvN5, MvN6, MvN7, MvN8, MvN9: texts in a row, joined by a program. -/
import Derived.Test.YtnmfblokfponlaaGreatDoorQX1
import Derived.Test.YtnmfblokfponlaaGreatDoorQN1
set_option linter.all false
open Nat renaming reduceEqDiff → rE, reduceLeDiff → rD, reduceAdd → rA, reduceMul → rM, reduceLT → rL
open Nat renaming le_refl → xZZ
open Go.Ev.T renaming get_put → xZY
open List renaming getElem?_eq_getElem → xZX
open Go.Ev.Hp renaming up_up → xZW
noncomputable section
namespace Go.Proofs.Kn
open Go Go.Ev Go.RowKit Go.ChangeShapes Go.WideShapes Go.ChangeAt
set_option maxRecDepth 100000
section
variable {H:Type} {enc:TypeId×Value->H} {w:World} {base:Nat} {sp:Nat->Bool} {held:Bool}
theorem read_cuts {t:Value} {d:DataW H} {ps:List MemPlace} {r:Reach} {b0:Nat} (hval:Value.okWide Tryz.prog w r b0 33 t) (hd:DataW.Trod enc Tryz.prog w base sp held 33 t d ps) (h':Hp):
  ∃l:List (Int×Int×Int),Cuts w.cell? h' (.val t) l:=by
 obtain ⟨l,h1,h2⟩:=read_cut hval hd h';refine ⟨l,h1,h2,?_⟩;obtain ⟨a,len,cap,rfl⟩:=okWide_slice und33 hval;obtain ⟨fuel,hf⟩:=hd;rcases DataW.trod_slice und33 hf with ⟨e,_⟩|⟨a',len',cap',elems,rest,n,_,e,_,_,hlc,hcm,_⟩
 ·simp [Value.cells] at e;obtain ⟨rfl,rfl,rfl⟩:=e;intro ad n c e;cases e;exact xZZ _
 ·simp [Value.cells] at e;obtain ⟨rfl,rfl,rfl⟩:=e;intro ad n c e;cases e;exact hlc
end
end Go.Proofs.Kn
end
namespace Go.Proofs.Kn
open Go Go.Ev
set_option maxRecDepth 100000
set_option maxHeartbeats 4000000
def Wk.Blk (w:Wk) (s:Int×Int×Int):Prop:= ∃(r0 c0 q n:Nat) (th wo:Int),s=((r0:Int),(c0:Int),(q:Int))/\Tub w q n th wo/\r0+n<=w.m.cells.length/\c0+n<=w.m.W
theorem qA4 {w:Wk} (his:w.Is) {ls:List (Int×Int×Int)} (h:w.cut ls=true): ∀s∈ls,w.Blk s:=fun s hs=>by
 obtain ⟨i,hi,e⟩:=List.getElem_of_mem hs;exact qCS his (by rw [xZX hi,e]) (qDf h hi)
theorem Wk.Blk.isT {w:Wk} {s:Int×Int×Int} (h:w.Blk s):w.isT s=true:=by
 obtain ⟨r0,c0,q,n,th,wo,rfl,ht,_,_⟩:=h;have:=(List.getElem?_eq_some_iff.1 ht.at_).1;rw [Wk.isT,zW];simp only;omega
theorem gY {w:Wk} (his:w.Is) {t:Nat->Nat->Int} (hpos: ∀r c,r<w.m.cells.length->c<w.m.W->0<=t r c) {s:Int×Int×Int} (h:w.Blk s):0<=w.give t s/\w.give t s<=65:=by
 obtain ⟨r0,c0,q,n,th,wo,rfl,ht,h1,h2⟩:=h;rw [Wk.give_q ht];have k0:=his.k0;have k5:=his.k5;have t1:=ht.h1;have b1:=pB t r0 c0 n n;have b2:0<=jV t r0 c0 n n:=pC (by omega) n fun i hi j hj=>hpos _ _ (by omega) (by omega);have e5:(jV t r0 c0 n n+w.kerf).tdiv (th+w.kerf)=(jV t r0 c0 n n+w.kerf) / (th+w.kerf):=Int.tdiv_eq_ediv_of_nonneg (by omega);have e6:=Int.ediv_nonneg (a:=jV t r0 c0 n n+w.kerf) (b:=th+w.kerf) (by omega) (by omega);have e7:=Int.ediv_le_self (th+w.kerf) (show 0<=jV t r0 c0 n n+w.kerf by omega);omega
theorem ft106 (xt:Addr->Option Value):(SE xt).ft.get 106=some Tryz.f106:=by kernel_rfl
theorem res106:Tryz.f106.results.toList=[.tmp 6]:=by kernel_rfl
theorem uX (xt:Addr->Option Value) (h:Hp) (w:Wk) (ha:w.At xt h) (his:w.Is) (s:Int×Int×Int) (hb:w.Blk s) (g:Gr) (hg:g.At xt h) (hgl:g.ll.length=w.m.cells.length) (hgr: ∀r,r<w.m.cells.length->(g.ll.getD r []).length=w.m.W) (hpos: ∀r c,r<w.m.cells.length->c<w.m.W->0<=g.t r c)
  {K:CR->Hp->Prop} (hk: ∀m,h.n<m->K (.ret (iv ((w.tb s.2.2.toNat).2.2*w.give g.t s))) (h.up m)):FnA (SE xt) 106 [w.av,uR s,g.v] h K:=by
 refine FnA.calm ?_ hk;clear hk K;refine FnA.walk (sok xt) (ft106 xt) rfl 19 rfl ?_;obtain ⟨o1,o2,o3,o4,o5⟩:=ha.ones;have hgb:=gY his hpos hb;obtain ⟨r0,c0,q,n,th,wo,rfl,ht,hrn,hcn⟩:=hb;obtain ⟨i1,_,_,i4,ld⟩:=ha.tubs ht.at_;have w1:=ht.w1;have w2:=ht.w100;have hr6:=his.m.r6;have hc8:=his.m.c8;refine qA fun K hn hp=> ?_;simp only [sw.1,rE,reduceIte,rL,rA];apply hn;obtain ⟨h1,hh1⟩: ∃h1:Hp,h1=h.new (.cells w.cs 30):=⟨_,rfl⟩;rw [<-hh1];have nh1:h1.n=h.n+1:=by rw [hh1];rfl
 have sh1:h1.t.get h.n=some (.cells w.cs 30):=by rw [hh1];exact qS _ _
 have kh1: ∀k,k<h.n->h1.t.get k=h.t.get k:=fun k hk=>by rw [hh1];exact qU _ _ hk
 have fbh1:Fr h.n h h1:=by rw [hh1];exact (Fr.refl (xZZ _)).new _
 have fh1:=fbh1;obtain ⟨h2,hh2⟩: ∃h2:Hp,h2=h1.new (.cells [iv r0,iv c0,iv q] 61):=⟨_,rfl⟩;rw [<-hh2];have nh2:h2.n=h1.n+1:=by rw [hh2];rfl
 have sh2:h2.t.get h1.n=some (.cells [iv r0,iv c0,iv q] 61):=by rw [hh2];exact qS _ _
 have kh2: ∀k,k<h1.n->h2.t.get k=h1.t.get k:=fun k hk=>by rw [hh2];exact qU _ _ hk
 have fbh2:Fr h1.n h1 h2:=by rw [hh2];exact (Fr.refl (xZZ _)).new _
 have fh2:Fr h.n h h2:=fh1.trans fbh2 (by omega);simp only [nh1,Nat.add_assoc,rA] at nh2 sh2 kh2;have s1:=(kh2 h.n (by omega)).trans sh1;obtain ⟨_,_,l3⟩:=ld h2 fh2;refine yT (sok xt) 0 0 11 [(5,0),(7,0),(10,0)] (by kernel_rfl) fun K hn hp=> ?_;simp only [sy.1,rE,reduceIte,rL,rA,syw.1,sh2,s1];refine qB (sok xt) (rslices_c xt h2 w (ha.fr fh2 (xZZ _)) r0 c0 q n th wo ht.at_ g (hg.fr fh2 (xZZ _)) _ _ (by omega) (by omega) hgl hgr hrn hcn his.k0 his.k5 ht.h1 ht.h60 (fun i hi j hj=>hpos _ _ (by omega) (by omega)) fun m1 hm1=> ?_);rw [<-Wk.give_q ht];have p1:0<=w.give g.t ((r0:Int),(c0:Int),(q:Int))*wo:=Int.mul_nonneg hgb.1 (by omega);have p2:w.give g.t ((r0:Int),(c0:Int),(q:Int))*wo<=65*100:=Int.mul_le_mul hgb.2 w2 (by omega) (by omega);have w3:IntKind.i64.wrap (w.give g.t ((r0:Int),(c0:Int),(q:Int))*wo)=w.give g.t ((r0:Int),(c0:Int),(q:Int))*wo:=wrap_i64 _ (by omega) (by omega);simp only [sy.1,rE,reduceIte,rL,rA,syw.1,i1,i4,sh2,s1,hm1,l3,w3];refine hn _ _ (qE (qL res106 ⟨?_,fh2.up (by omega)⟩));simp [xZY,ht.tb,Int.mul_comm]
theorem ft52 (xt:Addr->Option Value):(SE xt).ft.get 52=some Tryz.f52:=by kernel_rfl
theorem res52:Tryz.f52.results.toList=[.tmp 6]:=by kernel_rfl
theorem vals_bd {w:Wk} (his:w.Is) {t:Nat->Nat->Int} (hpos: ∀r c,r<w.m.cells.length->c<w.m.W->0<=t r c) {ls:List (Int×Int×Int)} (hb: ∀s∈ls,w.Blk s): ∀x∈w.vals (w.give t) ls,0<=x/\x<=6500:=fun x hx=>by
 obtain ⟨s,hs,rfl⟩:=List.mem_map.1 hx;have g1:=gY his hpos (hb s hs);obtain ⟨r0,c0,q,n,th,wo,rfl,ht,hrn,hcn⟩:=hb s hs;rw [Int.toNat_natCast,ht.tb];have w1:=ht.w1;have w2:=ht.w100;have p1:0<=wo*w.give t ((r0:Int),(c0:Int),(q:Int)):=Int.mul_nonneg (by omega) g1.1;have p2:wo*w.give t ((r0:Int),(c0:Int),(q:Int))<=100*65:=Int.mul_le_mul w2 g1.2 g1.1 (by omega);exact ⟨p1,p2⟩
theorem vals_at (w:Wk) (gv:Int×Int×Int->Int) {ls:List (Int×Int×Int)} {k:Nat} {s:Int×Int×Int} (hs:ls[k]? =some s):(w.vals gv ls).getD k 0=(w.tb s.2.2.toNat).2.2*gv s:=by
 rw [List.getD_eq_getElem?_getD,Wk.vals,List.getElem?_map,hs];rfl
theorem rworthL_c (xt:Addr->Option Value) (h:Hp) (w:Wk) (ha:w.At xt h) (his:w.Is) (v:AV) (ls:List (Int×Int×Int)) (hl:Cuts xt h v ls) (hl50:ls.length<=1000000) (hb: ∀s∈ls,w.Blk s) (g:Gr) (hg:g.At xt h) (hgl:g.ll.length=w.m.cells.length) (hgr: ∀r,r<w.m.cells.length->(g.ll.getD r []).length=w.m.W) (hpos: ∀r c,r<w.m.cells.length->c<w.m.W->0<=g.t r c)
  {K:CR->Hp->Prop} (hk: ∀m,h.n<m->K (.ret (iv (w.worth (w.give g.t) ls))) (h.up m)):FnA (SE xt) 52 [w.av,v,g.v] h K:=by
 refine FnA.calm ?_ hk;clear hk K;refine FnA.walk (sok xt) (ft52 xt) rfl 25 rfl ?_;obtain ⟨o1,o2,o3,o4,o5⟩:=ha.ones;have hlen:=hl.len;have hlt:=hl.lt;have hvb:=vals_bd his hpos hb;have hsb:=fun k=>gG (B:=6500) (by omega) hvb k;refine qA fun K hn hp=> ?_;simp only [sw.1,rE,reduceIte,rL,rA];apply hn;obtain ⟨h1,hh1⟩: ∃h1:Hp,h1=h.new (.cells w.cs 30):=⟨_,rfl⟩;rw [<-hh1];have nh1:h1.n=h.n+1:=by rw [hh1];rfl
 have sh1:h1.t.get h.n=some (.cells w.cs 30):=by rw [hh1];exact qS _ _
 have kh1: ∀k,k<h.n->h1.t.get k=h.t.get k:=fun k hk=>by rw [hh1];exact qU _ _ hk
 have fbh1:Fr h.n h h1:=by rw [hh1];exact (Fr.refl (xZZ _)).new _
 have fh1:=fbh1;have ha1:=ha.fr fh1 (xZZ _);have hl1:=hl.fr fh1 (xZZ _);have hg1:=hg.fr fh1 (xZZ _);refine qA fun K hn hp=> ?_;simp only [sy.1,rL];apply hn;refine qD ?_;refine qA fun K hn hp=> ?_;simp only [sy.1,rL];apply hn;refine qF fun KA A1 A2 A3 A4 A5=> ?_;refine qP (sok xt) (fun st=> ∃(k:Nat) (m:Nat) (x:Int) (tm:T AV),st=⟨tm,25,h1.up m,[]⟩/\k<=ls.length/\tm.get 1=some (v)/\tm.get 2=some (g.v)/\tm.get 3=some (.ptr h.n 0)/\tm.get 7=some (iv x)/\tm.get 8=some (iv k)/\h1.n<=m/\x=zO (w.vals (w.give g.t) ls) k) (fun st=>ls.length - (match st.tm.get 8 with|some (.val (.int _ n))=>n.toNat|_=>0)) ?_ ?_
 ·rintro st ⟨k,m,x,tm,rfl,hkA,g1,g2,g3,g7,g8,hm,rfl⟩;have muA:=g8;refine qD ?_;refine qA fun K hn hp=> ?_;simp only [sy.1,rE,reduceIte,rL,syw.1,hlen,jA,g1,g8];apply hn;by_cases hk:k<ls.length
  ·refine qC true (by simp only [sy.1,rE,reduceIte,hk]) (fun _=> ?_) (fun hx=>by cases hx);refine qH ?_;obtain ⟨s,hs⟩: ∃s,ls[k]? =some s:=⟨_,xZX hk⟩;have hsm:=List.mem_of_getElem? hs;obtain ⟨i1,i2,_,_⟩:=hl1.at_ hs;refine qF fun KB B1 B2 B3 B4 B5=> ?_;refine regW (sok xt) 0 0 8 [] (by kernel_rfl) fun K hn hp=> ?_;simp only [sy.1,rE,reduceIte,rL,rA,syw.1,sh1,g1,g2,g3,g7,g8,i1,i2];refine qB (sok xt) (uX xt _ w (ha1.up hm) his s (hb s hsm) g (hg1.up hm) hgl hgr hpos fun m1 hm1=> ?_);simp only [Hp.up_n] at hm1;rw [<-vals_at w (w.give g.t) hs];have q1:=hsb (k+1);have q2:((k+1:Nat):Int)*6500<=1000000*6500:=by omega
   have w1:IntKind.i64.wrap (zO (w.vals (w.give g.t) ls) k+(w.vals (w.give g.t) ls).getD k 0)=zO (w.vals (w.give g.t) ls) (k+1):=wrap_i64 _ (by simp only [zO] at q1;omega) (by simp only [zO] at q1;omega);simp only [sy.1,rE,reduceIte,rL,rA,syw.1,hm1,xZW,w1];refine hn _ _ (B1 _ ?_);refine reg fun K hn hp=> ?_;simp only [sy.1,rE,reduceIte,rL,g8,qK hk hlt];apply hn;refine ⟨⟨k+1,m1,_,_,rfl,by omega,(by simp [xZY,g1]),(by simp [xZY,g2]),(by simp [xZY,g3]),(by simp [xZY]),(by simp [xZY]),by omega,rfl⟩,by simpa [xZY,muA] using (by omega:ls.length - (k+1)<ls.length - k)⟩
  ·refine qC false (by simp only [sy.1,rE,reduceIte,hk]) (fun hx=>by cases hx) (fun _=> ?_);refine qM (A2 _ ?_);obtain rfl:k=ls.length:=by omega
   refine qA fun K hn hp=> ?_;simp only [sy.1,rE,reduceIte,rL,g7];apply hn;refine qE (qL res52 ⟨?_,fh1.up hm⟩);simp [xZY,Wk.worth]
 ·exact ⟨0,h1.n,0,_,rfl,(by omega),(by simp [xZY]),(by simp [xZY]),(by simp [xZY]),(by simp [xZY]),(by simp [xZY]),xZZ _,rfl⟩
end Go.Proofs.Kn
namespace Go.Proofs.Kn
open Go Go.Ev
set_option maxRecDepth 100000
set_option maxHeartbeats 4000000
end Go.Proofs.Kn
namespace Go.Proofs.Kn
open Go Go.Ev
set_option maxRecDepth 100000
set_option maxHeartbeats 4000000
def Wk.asked (w:Wk) (ls:List (Int×Int×Int)):Int:=if (w.ok && w.cut ls)=true then (if w.m.rposs=true then 0 else 7) else 2
theorem ft18 (xt:Addr->Option Value):(SE xt).ft.get 18=some Tryz.f18:=by kernel_rfl
theorem res18:Tryz.f18.results.toList=[.tmp 4]:=by kernel_rfl
theorem asked_c (xt:Addr->Option Value) (h:Hp) (w:Wk) (ha:w.At xt h) (v:AV) (ls:List (Int×Int×Int)) (hl:Cuts xt h v ls)
  {K:CR->Hp->Prop} (hk: ∀k,h.n<k->K (.ret (iv (w.asked ls))) (h.up k)):FnA (SE xt) 18 [w.av,v] h K:=by
 refine FnA.calm ?_ hk;clear hk K;refine FnA.walk (sok xt) (ft18 xt) rfl 18 rfl ?_;obtain ⟨o1,o2,o3,o4,o5⟩:=ha.ones;refine qA fun K hn hp=> ?_;simp only [sw.1,rE,reduceIte,rL];apply hn;obtain ⟨h1,hh1⟩: ∃h1:Hp,h1=h.new (.cells w.cs 30):=⟨_,rfl⟩;rw [<-hh1];have nh1:h1.n=h.n+1:=by rw [hh1];rfl
 have sh1:h1.t.get h.n=some (.cells w.cs 30):=by rw [hh1];exact qS _ _
 have kh1: ∀k,k<h.n->h1.t.get k=h.t.get k:=fun k hk=>by rw [hh1];exact qU _ _ hk
 have fbh1:Fr h.n h h1:=by rw [hh1];exact (Fr.refl (xZZ _)).new _
 have fh1:=fbh1;have ha1:=ha.fr fh1 (xZZ _);have hl1:=hl.fr fh1 (xZZ _);refine qD ?_;refine qA fun K hn hp=> ?_;simp only [sy.1,rE,reduceIte,rL,rA,sh1];refine qB (sok xt) (rwork_c xt h1 w ha1 fun m1 hm1=> ?_);cases e1:w.ok
 ·simp only [sy.1,rE,reduceIte,rL];apply hn;refine qC true (by simp only [sy.1,rE,reduceIte]) (fun _=> ?_) (fun hx=>by cases hx);refine qD ?_;refine qA fun K hn hp=> ?_;simp only [sy.1,rL];apply hn;refine qY (qL res18 ⟨?_,fh1.up (by omega)⟩);simp [xZY,Wk.asked,e1]
 have his:=Wk.ok_is e1;simp only [sy.1,rE,reduceIte,rL,rA,sh1];refine qB (sok xt) (rcut_c xt _ w (ha1.up (n:=m1) (by omega)) his v ls (hl1.up (by omega)) fun m2 hm2=> ?_);simp only [Hp.up_n] at hm2;cases e2:w.cut ls
 ·simp only [sy.1,rE,reduceIte,rL,xZW];apply hn;refine qC true (by simp only [sy.1,rE,reduceIte]) (fun _=> ?_) (fun hx=>by cases hx);refine qD ?_;refine qA fun K hn hp=> ?_;simp only [sy.1,rL];apply hn;refine qY (qL res18 ⟨?_,fh1.up (by omega)⟩);simp [xZY,Wk.asked,e1,e2]
 simp only [sy.1,rE,reduceIte,rL,xZW];apply hn;refine qC false (by simp only [sy.1,rE,reduceIte]) (fun hx=>by cases hx) (fun _=> ?_);refine qH ?_;refine qD ?_;refine qA fun K hn hp=> ?_;simp only [sy.1,rE,reduceIte,rL,rA,rD,sh1];refine qB (sok xt) (rposs_c xt (h1.up m2) w.m (ha1.up (n:=m2) (by omega)).m his.m fun m3 hm3=> ?_);simp only [Hp.up_n] at hm3;cases e3:w.m.rposs
 ·simp only [sy.1,rE,reduceIte,rL,xZW];apply hn;refine qC true (by simp only [sy.1,rE,reduceIte]) (fun _=> ?_) (fun hx=>by cases hx);refine qD ?_;refine qA fun K hn hp=> ?_;simp only [sy.1,rL];apply hn;refine qY (qL res18 ⟨?_,fh1.up (by omega)⟩);simp [xZY,Wk.asked,e1,e2,e3]
 simp only [sy.1,rE,reduceIte,rL,xZW];apply hn;refine qC false (by simp only [sy.1,rE,reduceIte]) (fun hx=>by cases hx) (fun _=> ?_);refine qH ?_;refine qA fun K hn hp=> ?_;simp only [sy.1,rL];apply hn;refine qE (qL res18 ⟨?_,fh1.up (by omega)⟩);simp [xZY,Wk.asked,e1,e2,e3]
theorem bP {m:Mp} (hm:m.Is m.cells.length m.W) {G:Th.Grid} (hb:m.bnd=some G) (r c:Nat):0<=(G r c).1/\0<=(G r c).2:=by
 obtain ⟨_,hok,hsub,_⟩:=bO hm hb;have q1:=hsub r c;have q2:=hok r c;have:0<=(m.F0 r c).1:=by simp only [Mp.F0];split<;>simp
 omega
end Go.Proofs.Kn
namespace Go.Proofs.Kn
open Go Go.Ev
set_option maxRecDepth 100000
set_option maxHeartbeats 4000000
def Wk.fit (w:Wk) (ls:List (Int×Int×Int)) (g:Gr):Bool:=w.ok && (w.cut ls && (g.shape w.m && fitsB w.m g))
def Wk.run (w:Wk) (ls:List (Int×Int×Int)) (g:Gr):Int×Int:=if w.fit ls g=true then (w.worth (w.give g.t) ls,0) else (0,2)
end Go.Proofs.Kn
namespace Go.Proofs.Kn
open Go Go.Ev
set_option maxRecDepth 100000
set_option maxHeartbeats 4000000
theorem qDA {w:Wk} {gv gv':Int×Int×Int->Int} {ls:List (Int×Int×Int)} (h: ∀s∈ls,gv s=gv' s):w.worth gv ls=w.worth gv' ls:=by
 have:w.vals gv ls=w.vals gv' ls:=List.map_congr_left fun s hs=>by rw [h s hs]
 rw [Wk.worth,Wk.worth,this]
theorem gX {w:Wk} {v:AV} {b:Bool} {G:Th.Grid} {s:Int×Int×Int} (hb:w.Blk s):w.give (⟨v,vM b G w.m.cells.length w.m.W⟩:Gr).t s=w.give (fun r c=>kO b (G r c)) s:=by
 obtain ⟨r0,c0,q,n,th,wo,rfl,ht,hrn,hcn⟩:=hb;rw [Wk.give_q ht,Wk.give_q ht];have:jV (⟨v,vM b G w.m.cells.length w.m.W⟩:Gr).t r0 c0 n n=jV (fun r c=>kO b (G r c)) r0 c0 n n:=bQ n fun i hi j hj=>qDa v b G (by omega) (by omega);rw [this]
end Go.Proofs.Kn
