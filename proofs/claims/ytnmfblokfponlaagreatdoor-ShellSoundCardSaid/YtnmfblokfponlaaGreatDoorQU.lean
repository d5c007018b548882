/- MvJ1, MvJ2, MvK1, MvK2, MvK3, MvK4, MvK5: texts in a row, joined by a program. -/
import Derived.Test.YtnmfblokfponlaaGreatDoorQS
set_option linter.all false
open Nat renaming reduceEqDiff → rE, reduceLeDiff → rD, reduceAdd → rA, reduceMul → rM, reduceLT → rL
open Go.Ev.T renaming get_put → xZZ
open Nat renaming le_refl → xZY
open Go.Ev.Hp renaming up_up → xZX, up_n → xZW
open Go.Ev.Fr renaming refl → xZV
open Go.Ev.FnA renaming walk → xZU, calm → xZT
open List renaming getElem?_map → xZS
namespace Go.Proofs.Kn
open Go Go.Ev
set_option maxRecDepth 100000
set_option maxHeartbeats 4000000
end Go.Proofs.Kn
namespace Go.Proofs.Kn
open Go Go.Ev
set_option maxRecDepth 100000
set_option maxHeartbeats 4000000
end Go.Proofs.Kn
namespace Go.Proofs.Kn
open Go Go.Ev
set_option maxRecDepth 100000
set_option maxHeartbeats 1000000
theorem ft141 (xt:Addr->Option Value):(SE xt).ft.get 141=some Tryz.f141:=by kernel_rfl
theorem res141:Tryz.f141.results.toList=[.tmp 2]:=by kernel_rfl
def yX (t:Int×Int×Int):Bool:= !inB t.1 1 3 || (!inB t.2.1 1 60 || !inB t.2.2 1 100)
theorem badT_ok (xt:Addr->Option Value) (h:Hp) (t:Int×Int×Int):FnA (SE xt) 141 [.agg [iv t.1,iv t.2.1,iv t.2.2]] h (fun r h'=>r= .ret (.val (.bool (yX t)))/\Fr h.n h h'):=by
 refine xZU (sok xt) (ft141 xt) rfl 19 rfl ?_;refine qA fun K hn hp=> ?_;simp only [sw.1,reduceIte,rL];apply hn;obtain ⟨h1,hh1⟩: ∃h1:Hp,h1=h.new (.cells [iv t.1,iv t.2.1,iv t.2.2] 90):=⟨_,rfl⟩;rw [<-hh1];have nh1:h1.n=h.n+1:=by rw [hh1];rfl
 have sh1:h1.t.get h.n=some (.cells [iv t.1,iv t.2.1,iv t.2.2] 90):=by rw [hh1];exact qX _ _
 have kh1: ∀k,k<h.n->h1.t.get k=h.t.get k:=fun k hk=>by rw [hh1];exact qW _ _ hk
 have fbh1:Fr h.n h h1:=by rw [hh1];exact (xZV (xZY _)).new _
 have fh1:=fbh1;refine qA fun K1 hn hp=> ?_;simp only [sy.1,rE,reduceIte,rL,sh1];refine qB (sok xt) (uP xt _ _ _ _ fun m1 hm1=> ?_);cases e1:(decide (1<=t.1) && decide (t.1<=3))
 ·simp only [sy.1,rE,reduceIte,rL];refine hn _ _ (qD (qK res141 ⟨?_,fh1.up (by omega)⟩));simp [xZZ,yX,inB,e1]
 simp only [sy.1,rE,reduceIte,rL,sh1];refine qB (sok xt) (uP xt _ _ _ _ fun m2 hm2=> ?_);simp only [xZW] at hm2;cases e2:(decide (1<=t.2.1) && decide (t.2.1<=60))
 ·simp only [sy.1,rE,reduceIte,rL,xZX];refine hn _ _ (qD (qK res141 ⟨?_,fh1.up (by omega)⟩));simp [xZZ,yX,inB,e1,e2]
 simp only [sy.1,rE,reduceIte,rL,sh1,xZX];refine qB (sok xt) (uP xt _ _ _ _ fun m3 hm3=> ?_);simp only [xZW] at hm3;simp only [sy.1,rE,reduceIte,rL,xZX];refine hn _ _ (qD (qK res141 ⟨?_,fh1.up (by omega)⟩));simp [xZZ,yX,inB,e1,e2]
theorem badT_c (xt:Addr->Option Value) (h:Hp) (t:Int×Int×Int) {K:CR->Hp->Prop} (hk: ∀n,h.n<n->K (.ret (.val (.bool (yX t)))) (h.up n)):FnA (SE xt) 141 [.agg [iv t.1,iv t.2.1,iv t.2.2]] h K:=xZT (badT_ok xt h t) hk
theorem ts_asks (xt:Addr->Option Value) (h:Hp) (w:Wk):zT (SE xt) h (.val (.func (.func 141) #[] #[])) (fun c=> .agg (c.map .val)) (w.ts.map t3) (fun c=>match c with|[.int _ x,.int _ y,.int _ z]=>yX (x,y,z)|_=>false):=by
 intro n c K hn hc hk;obtain ⟨g,_,rfl⟩:=List.mem_map.1 hc;exact qB (sok xt) (badT_c xt _ g fun n' hn'=>by have:=hk n' hn';rw [xZX];exact this)
theorem any_ts (w:Wk):((w.ts.map t3).any fun c=>match c with|[.int _ x,.int _ y,.int _ z]=>yX (x,y,z)|_=>false)=w.ts.any yX:=by
 rw [List.any_map];rfl
theorem ft71 (xt:Addr->Option Value):(SE xt).ft.get 71=some Tryz.f71:=by kernel_rfl
theorem res71:Tryz.f71.results.toList=[.tmp 2]:=by kernel_rfl
theorem Wk.At.len {w:Wk} {xt:Addr->Option Value} {h:Hp} (a:w.At xt h) (h':Hp):vF tb h' 28 w.vt=some w.ts.length:=by
 have:=a.ts.len (h':=h') qAL rfl;simpa using this
def Wk.ok (w:Wk):Bool:=w.m.ok && (inB w.ts.length 1 4 && (inB w.kerf 0 5 && !w.ts.any yX))
theorem gN (xt:Addr->Option Value) (h:Hp) (w:Wk) (ha:w.At xt h) {K:CR->Hp->Prop} (hk: ∀n,h.n<n->K (.ret (.val (.bool w.ok))) (h.up n)):FnA (SE xt) 71 [w.av] h K:=by
 refine xZT ?_ hk;clear hk K;refine xZU (sok xt) (ft71 xt) rfl 23 rfl ?_;obtain ⟨o1,o2,o3,o4,o5⟩:=ha.ones;have hlen:=ha.len;refine qA fun K hn hp=> ?_;simp only [sw.1,reduceIte,rL];apply hn;obtain ⟨h1,hh1⟩: ∃h1:Hp,h1=h.new (.cells w.cs 30):=⟨_,rfl⟩;rw [<-hh1];have nh1:h1.n=h.n+1:=by rw [hh1];rfl
 have sh1:h1.t.get h.n=some (.cells w.cs 30):=by rw [hh1];exact qX _ _
 have kh1: ∀k,k<h.n->h1.t.get k=h.t.get k:=fun k hk=>by rw [hh1];exact qW _ _ hk
 have fbh1:Fr h.n h h1:=by rw [hh1];exact (xZV (xZY _)).new _
 have fh1:=fbh1;have ha1:=ha.fr fh1 (xZY _);refine qA fun K1 hn hp=> ?_;simp only [sy.1,rE,reduceIte,rL,rA,rD,sh1];refine qB (sok xt) (isMap_c xt _ w.m ha1.m fun m1 hm1=> ?_);cases e1:w.m.ok
 ·simp only [sy.1,rE,reduceIte,rL];refine hn _ _ (qD (qK res71 ⟨?_,fh1.up (by omega)⟩));simp [xZZ,Wk.ok,e1]
 simp only [sy.1,rE,reduceIte,rL,syw.1,hlen,sh1];refine qB (sok xt) (uP xt _ _ _ _ fun m2 hm2=> ?_);simp only [xZW] at hm2;cases e2:(decide ((1:Int)<=w.ts.length) && decide ((w.ts.length:Int)<=4))
 ·simp only [sy.1,rE,reduceIte,rL,xZX];refine hn _ _ (qD (qK res71 ⟨?_,fh1.up (by omega)⟩));have e2':inB w.ts.length 1 4=false:=e2;simp [xZZ,Wk.ok,e1,e2']
 simp only [sy.1,rE,reduceIte,rL,sh1,xZX];refine qB (sok xt) (uP xt _ _ _ _ fun m3 hm3=> ?_);simp only [xZW] at hm3;have e2':inB w.ts.length 1 4=true:=e2;cases e3:(decide (0<=w.kerf) && decide (w.kerf<=5))
 ·simp only [sy.1,rE,reduceIte,rL,xZX];refine hn _ _ (qD (qK res71 ⟨?_,fh1.up (by omega)⟩));have e3':inB w.kerf 0 5=false:=e3;simp [xZZ,Wk.ok,e1,e2',e3']
 simp only [sy.1,rE,reduceIte,rL,sh1,xZX];have e3':inB w.kerf 0 5=true:=e3;refine qB (sok xt) (any140_c xt _ w.vt _ _ _ (ha1.ts.up (by omega)) (by have:=ha1.lt;simpa using this) (ts_asks xt _ w) fun m4 hm4=> ?_);simp only [xZW] at hm4;rw [any_ts];simp only [sy.1,rE,reduceIte,rL,xZX];refine hn _ _ (qD (qK res71 ⟨?_,fh1.up (by omega)⟩));simp [xZZ,Wk.ok,e1,e2',e3']
theorem ft15 (xt:Addr->Option Value):(SE xt).ft.get 15=some Tryz.f15:=by kernel_rfl
theorem res15:Tryz.f15.results.toList=[.tmp 2]:=by kernel_rfl
def Wk.brief (w:Wk):Bool:=w.m.short && decide ((w.ts.length:Int)<=6)
theorem brief_c (xt:Addr->Option Value) (h:Hp) (w:Wk) (ha:w.At xt h) {K:CR->Hp->Prop} (hk: ∀n,h.n<n->K (.ret (.val (.bool w.brief))) (h.up n)):FnA (SE xt) 15 [w.av] h K:=by
 refine xZT ?_ hk;clear hk K;refine xZU (sok xt) (ft15 xt) rfl 12 rfl ?_;obtain ⟨o1,o2,o3,o4,o5⟩:=ha.ones;have hlen:=ha.len;refine qA fun K hn hp=> ?_;simp only [sw.1,reduceIte,rL];apply hn;obtain ⟨h1,hh1⟩: ∃h1:Hp,h1=h.new (.cells w.cs 30):=⟨_,rfl⟩;rw [<-hh1];have nh1:h1.n=h.n+1:=by rw [hh1];rfl
 have sh1:h1.t.get h.n=some (.cells w.cs 30):=by rw [hh1];exact qX _ _
 have kh1: ∀k,k<h.n->h1.t.get k=h.t.get k:=fun k hk=>by rw [hh1];exact qW _ _ hk
 have fbh1:Fr h.n h h1:=by rw [hh1];exact (xZV (xZY _)).new _
 have fh1:=fbh1;have ha1:=ha.fr fh1 (xZY _);refine qA fun K1 hn hp=> ?_;simp only [sy.1,rE,reduceIte,rL,rA,rD,sh1];refine qB (sok xt) (short_c xt _ w.m ha1.m fun m1 hm1=> ?_);cases e1:w.m.short
 ·simp only [sy.1,rE,reduceIte,rL];refine hn _ _ (qD (qK res15 ⟨?_,fh1.up (by omega)⟩));simp [xZZ,Wk.brief,e1]
 simp only [sy.1,rE,reduceIte,rL,syw.1,hlen,sh1];refine hn _ _ (qD (qK res15 ⟨?_,fh1.up (by omega)⟩));simp [xZZ,Wk.brief,e1]
theorem ft31 (xt:Addr->Option Value):(SE xt).ft.get 31=some Tryz.f31:=by kernel_rfl
theorem res31:Tryz.f31.results.toList=[.tmp 4]:=by kernel_rfl
theorem rtube_c (xt:Addr->Option Value) (h:Hp) (w:Wk) (ha:w.At xt h) (t:Int) {K:CR->Hp->Prop} (hk: ∀n,h.n<n->K (.ret (.val (.bool (inB t 0 ((w.ts.length:Int) - 1))))) (h.up n)):FnA (SE xt) 31 [w.av,iv t] h K:=by
 refine xZT ?_ hk;clear hk K;refine xZU (sok xt) (ft31 xt) rfl 11 rfl ?_;obtain ⟨o1,o2,o3,o4,o5⟩:=ha.ones;have hlen:=ha.len;have hlt:=ha.lt;refine qA fun K hn hp=> ?_;simp only [sw.1,rE,reduceIte,rL];apply hn;obtain ⟨h1,hh1⟩: ∃h1:Hp,h1=h.new (.cells w.cs 30):=⟨_,rfl⟩;rw [<-hh1];have nh1:h1.n=h.n+1:=by rw [hh1];rfl
 have sh1:h1.t.get h.n=some (.cells w.cs 30):=by rw [hh1];exact qX _ _
 have kh1: ∀k,k<h.n->h1.t.get k=h.t.get k:=fun k hk=>by rw [hh1];exact qW _ _ hk
 have fbh1:Fr h.n h h1:=by rw [hh1];exact (xZV (xZY _)).new _
 have fh1:=fbh1;refine qA fun K1 hn hp=> ?_;simp only [sy.1,rE,reduceIte,rL,syw.1,hlen,sh1];have hw:IntKind.i64.wrap ((w.ts.length:Int) - 1)=(w.ts.length:Int) - 1:=wrap_i64 _ (by omega) (by omega);rw [hw];refine qB (sok xt) (kH xt _ _ _ _ fun m1 hm1=> ?_);simp only [sy.1,rE,reduceIte,rL];refine hn _ _ (qD (qK res31 ⟨?_,fh1.up (by omega)⟩));simp [xZZ,inB]
end Go.Proofs.Kn
namespace Go.Proofs.Kn
open Go Go.Ev
set_option maxRecDepth 100000
set_option maxHeartbeats 4000000
theorem al90 (h:Hp):jI tb h 90=some (.ptr h.n 0,h.new (.cells (([(.int .i64 0),(.int .i64 0),(.int .i64 0)]:List Value).map .val) 90)):=kJ yB rfl
theorem ft21 (xt:Addr->Option Value):(SE xt).ft.get 21=some Tryz.f21:=by kernel_rfl
theorem res21:Tryz.f21.results.toList=[.tmp 2]:=by kernel_rfl
theorem Wk.t_no {w:Wk} {t:Int×Int×Int} (hm:t∈w.ts) (hb:yX t=true):w.ok=false:=by
 have:w.ts.any yX=true:=List.any_eq_true.2 ⟨t,hm,hb⟩;simp [Wk.ok,this]
theorem rwork_c (xt:Addr->Option Value) (h:Hp) (w:Wk) (ha:w.At xt h) {K:CR->Hp->Prop} (hk: ∀n,h.n<n->K (.ret (.val (.bool w.ok))) (h.up n)):FnA (SE xt) 21 [w.av] h K:=by
 refine xZT ?_ hk;clear hk K;refine xZU (sok xt) (ft21 xt) rfl 47 rfl ?_;obtain ⟨o1,o2,o3,o4,o5⟩:=ha.ones;have hlen:=ha.len;have hlt:=ha.lt;refine qA fun K hn hp=> ?_;simp only [sw.1,reduceIte,rL];apply hn;clear hn hp K;obtain ⟨h1,hh1⟩: ∃h1:Hp,h1=h.new (.cells w.cs 30):=⟨_,rfl⟩;rw [<-hh1];have nh1:h1.n=h.n+1:=by rw [hh1];rfl
 have sh1:h1.t.get h.n=some (.cells w.cs 30):=by rw [hh1];exact qX _ _
 have kh1: ∀k,k<h.n->h1.t.get k=h.t.get k:=fun k hk=>by rw [hh1];exact qW _ _ hk
 have fbh1:Fr h.n h h1:=by rw [hh1];exact (xZV (xZY _)).new _
 have fh1:=fbh1;have ha1:=ha.fr fh1 (xZY _);refine qE ?_;refine qA fun K hn hp=> ?_;simp only [sy.1,rL];apply hn;clear hn hp K;refine qF fun KG G1 G2 G3 G4 G5=> ?_;refine qS (sok xt) (fun st=> ∃(i:Nat) (hg:Hp) (tm:T AV),st=⟨tm,47,hg,[]⟩/\i<=w.ts.length/\tm.get 1=some (.ptr h.n 0)/\tm.get 3=some (iv i)/\Fr h1.n h1 hg/\ ∀x∈w.ts.take i,yX x=false) (fun st=>w.ts.length - (match st.tm.get 3 with|some (.val (.int _ n))=>n.toNat|_=>0)) ?_ ?_
 ·rintro st ⟨i,hg,tm,rfl,hkG,g1,g3,fg,hallg⟩;have muG:=g3;have fgh:=fh1.trans fg (by omega);have q1:=(fg.at_ h.n (.inl (by omega))).trans sh1;refine qE ?_;refine qA fun K hn hp=> ?_;simp only [sy.1,rE,reduceIte,rL,syw.1,hlen,jR,g1,g3,q1];apply hn;clear hn hp K;by_cases hi:i<w.ts.length
  ·refine qC true (by simp only [sy.1,rE,reduceIte,hi]) (fun _=> ?_) (fun hx=>by cases hx);have hag:=ha.fr fgh (xZY _);obtain ⟨x,hx⟩: ∃x,w.ts[i]? =some x:=⟨_,List.getElem?_eq_getElem hi⟩;have i1:=hag.ts.idx qAL rfl yB rfl (i:=i) (by simpa using hi) (k:= .i64);have i2:=hag.ts.loadA yB rfl rfl (i:=i) (c:=Kn.t3 x) (by rw [xZS,hx];rfl);have gno:yX x=true->w.ok=false:=fun hb=>Wk.t_no (List.mem_of_getElem? hx) hb;have gyes:yX x=false-> ∀y∈w.ts.take (i+1),yX y=false:=fun hb=>by
    rw [List.take_succ,hx];intro y hy;simp only [Option.toList_some,List.mem_append,List.mem_singleton] at hy;rcases hy with hy|rfl
    ·exact hallg y hy
    ·exact hb
   obtain ⟨xr,xc,xs⟩:=x;simp only [Kn.t3,List.map_cons,List.map_nil] at i2;refine qI ?_;refine qF fun KH H1 H2 H3 H4 H5=> ?_;refine qA fun K hn hp=> ?_;simp only [sw.1,rE,reduceIte,rL,rA,al90,g1,g3,i1,i2,q1];apply hn;clear hn hp K;obtain ⟨h9,hh9⟩: ∃h9:Hp,h9=(hg.new (.cells [iv 0,iv 0,iv 0] 90)).set hg.n (.cells [iv xr,iv xc,iv xs] 90):=⟨_,rfl⟩;have nh9:h9.n=hg.n+1:=by rw [hh9];rfl
   have sh9:h9.t.get hg.n=some (.cells [iv xr,iv xc,iv xs] 90):=by rw [hh9,Hp.set_t,xZZ,if_pos rfl]
   have kh9: ∀k,k<hg.n->h9.t.get k=hg.t.get k:=fun k hk=>by rw [hh9];exact zO _ _ _ hk
   have fbh9:Fr hg.n hg h9:=by rw [hh9];exact zP _ _ _
   have fh9:=fbh9;rw [<-hh9];have f9:=fg.trans fbh9 fg.lo;have retG: ∀(n:Nat) (tm:T AV),h9.n<=n->tm.get 2=some (.val (.bool false))->yX (xr,xc,xs)=true->wB (SE xt) Tryz.f21 (fun r h'=>r= .ret (.val (.bool w.ok))/\Fr h.n h h') .ret ⟨tm,47,h9.up n,[]⟩:=fun n tm hn g hm=>qK res21 ⟨by simp [g,gno hm],(fh1.trans f9 (by omega)).up hn⟩;refine qA fun K hn hp=> ?_;simp only [sy.1,rE,reduceIte,rL,sh9];refine qB (sok xt) (kH xt _ _ _ _ fun n10 hn10=> ?_);cases c2:inB xr 1 3
   ·have c2':=c2;unfold inB at c2';simp only [sy.1,rE,reduceIte,rL,c2'];apply hn;clear hn hp K;refine qH true (by simp only [sy.1,rE,reduceIte]) (fun _=> ?_) (fun hx=>by cases hx);refine qA fun K hn hp=> ?_;simp only [sy.1,rL];apply hn;clear hn hp K;refine qD (H4 _ (G4 _ (retG _ _ (by omega) (by simp [xZZ]) (by simp [yX,c2]))))
   have c2':=c2;unfold inB at c2';simp only [sy.1,rE,reduceIte,rL,sh9,c2'];refine qB (sok xt) (kH xt _ _ _ _ fun n11 hn11=> ?_);simp only [xZW] at hn11;cases c3:inB xc 1 60
   ·have c3':=c3;unfold inB at c3';simp only [sy.1,rE,reduceIte,rL,c3',xZX];apply hn;clear hn hp K;refine qH true (by simp only [sy.1,rE,reduceIte]) (fun _=> ?_) (fun hx=>by cases hx);refine qA fun K hn hp=> ?_;simp only [sy.1,rL];apply hn;clear hn hp K;refine qD (H4 _ (G4 _ (retG _ _ (by omega) (by simp [xZZ]) (by simp [yX,c2,c3]))))
   have c3':=c3;unfold inB at c3';simp only [sy.1,rE,reduceIte,rL,sh9,c3',xZX];refine qB (sok xt) (kH xt _ _ _ _ fun n12 hn12=> ?_);simp only [xZW] at hn12;cases c4:inB xs 1 100
   ·have c4':=c4;unfold inB at c4';simp only [sy.1,rE,reduceIte,rL,c4',xZX];apply hn;clear hn hp K;refine qH true (by simp only [sy.1,rE,reduceIte]) (fun _=> ?_) (fun hx=>by cases hx);refine qA fun K hn hp=> ?_;simp only [sy.1,rL];apply hn;clear hn hp K;refine qD (H4 _ (G4 _ (retG _ _ (by omega) (by simp [xZZ]) (by simp [yX,c2,c3,c4]))))
   have c4':=c4;unfold inB at c4';simp only [sy.1,rE,reduceIte,rL,c4',xZX];apply hn;clear hn hp K;refine qH false (by simp only [sy.1,rE,reduceIte]) (fun hx=>by cases hx) (fun _=> ?_);refine qY (H1 _ ?_);refine reg fun K hn hp=> ?_;simp only [sy.1,rE,reduceIte,rL,g3,qQ hi hlt];apply hn;clear hn hp K;refine ⟨⟨i+1,h9.up n12,_,rfl,by omega,(by simp [xZZ,g1]),(by simp [xZZ]),(fg.trans fbh9 fg.lo).up (by omega),gyes (by simp [yX,c2,c3,c4])⟩,by simpa [xZZ,muG] using (by omega:w.ts.length - (i+1)<w.ts.length - i)⟩
  ·refine qC false (by simp only [sy.1,rE,reduceIte,hi]) (fun hx=>by cases hx) (fun _=> ?_);have hall:w.ts.any yX=false:=by
    rw [List.any_eq_false];intro x hx;have:=hallg x (by rw [List.take_of_length_le (by omega)];exact hx);simp [this]
   have hag:=ha.fr fgh (xZY _);refine qR (G2 _ ?_);refine qA fun K hn hp=> ?_;simp only [sy.1,rE,reduceIte,rL,rA,rD,g1,q1];refine qB (sok xt) (rmap_c xt hg w.m hag.m fun n13 hn13=> ?_);cases e1:w.m.ok
   ·simp only [sy.1,rE,reduceIte,rL];refine hn _ _ (qD (qK res21 ⟨?_,fgh.up (by omega)⟩));simp [xZZ,Wk.ok,e1]
   simp only [sy.1,rE,reduceIte,rL,syw.1,hlen,g1,q1];refine qB (sok xt) (kH xt _ _ _ _ fun n14 hn14=> ?_);simp only [xZW] at hn14;cases e2:(decide ((1:Int)<=w.ts.length) && decide ((w.ts.length:Int)<=4))
   ·simp only [sy.1,rE,reduceIte,rL,xZX];refine hn _ _ (qD (qK res21 ⟨?_,fgh.up (by omega)⟩));have e2':inB w.ts.length 1 4=false:=e2;simp [xZZ,Wk.ok,e1,e2']
   simp only [sy.1,rE,reduceIte,rL,g1,q1,xZX];refine qB (sok xt) (kH xt _ _ _ _ fun n15 hn15=> ?_);simp only [xZW] at hn15;simp only [sy.1,rE,reduceIte,rL,xZX];refine hn _ _ (qD (qK res21 ⟨?_,fgh.up (by omega)⟩));obtain ⟨z1,z2⟩:=Bool.and_eq_true_iff.1 e2;have z1:=of_decide_eq_true z1;have z2:=of_decide_eq_true z2;simp [xZZ,Wk.ok,e1,hall,inB]
   intros
   omega
 ·exact ⟨0,h1,_,rfl,(by omega),(by simp [xZZ]),(by simp [xZZ]),xZV (xZY _),fun x hx=>absurd hx (by simp)⟩
end Go.Proofs.Kn
namespace Go.Proofs.Kn
open Go Go.Ev
set_option maxRecDepth 100000
set_option maxHeartbeats 4000000
theorem qEk {P:Program} {t:TypeId} {ox oy:Operand} (a b:Int) (hb:b≠0):yW P tb .quo t ox oy (iv a) (iv b)=some (iv (IntKind.i64.wrap (a.tdiv b))):=by
 have e2:Op.intDiv .quo .i64 a b=pure (.int .i64 (IntKind.i64.wrap (a.tdiv b))):=by unfold Op.intDiv;rw [if_neg hb]
 have e3:qM P (do eqGuard .quo t ox oy (.int .i64 a) (.int .i64 b);binOp .quo t (.int .i64 a) (.int .i64 b))=some (.int .i64 (IntKind.i64.wrap (a.tdiv b))):=by
  show qM P (Op.intDiv .quo .i64 a b)=_;rw [e2];rfl
 show (match qM P (do eqGuard .quo t ox oy (.int .i64 a) (.int .i64 b);binOp .quo t (.int .i64 a) (.int .i64 b)) with|some r=>some (AV.val r)|none=>none)=_;rw [e3]
theorem ft85 (xt:Addr->Option Value):(SE xt).ft.get 85=some Tryz.f85:=by kernel_rfl
theorem res85:Tryz.f85.results.toList=[.tmp 4]:=by kernel_rfl
abbrev wY (s:Int×Int×Int):AV:= .agg [iv s.1,iv s.2.1,iv s.2.2]
theorem qDG (xt:Addr->Option Value) (h:Hp) (w:Wk) (ha:w.At xt h) (s:Int×Int×Int) {K:CR->Hp->Prop} (hk: ∀n,h.n<n->K (.ret (.val (.bool (inB s.2.2 0 ((w.ts.length:Int) - 1))))) (h.up n)):FnA (SE xt) 85 [w.av,wY s] h K:=by
 refine xZT ?_ hk;clear hk K;refine xZU (sok xt) (ft85 xt) rfl 12 rfl ?_;obtain ⟨o1,o2,o3,o4,o5⟩:=ha.ones;have hlen:=ha.len;have hlt:=ha.lt;refine qA fun K hn hp=> ?_;simp only [sw.1,rE,reduceIte,rL];apply hn;obtain ⟨h1,hh1⟩: ∃h1:Hp,h1=h.new (.cells w.cs 30):=⟨_,rfl⟩;rw [<-hh1];have nh1:h1.n=h.n+1:=by rw [hh1];rfl
 have sh1:h1.t.get h.n=some (.cells w.cs 30):=by rw [hh1];exact qX _ _
 have kh1: ∀k,k<h.n->h1.t.get k=h.t.get k:=fun k hk=>by rw [hh1];exact qW _ _ hk
 have fbh1:Fr h.n h h1:=by rw [hh1];exact (xZV (xZY _)).new _
 have fh1:=fbh1;obtain ⟨h2,hh2⟩: ∃h2:Hp,h2=h1.new (.cells [iv s.1,iv s.2.1,iv s.2.2] 61):=⟨_,rfl⟩;rw [<-hh2];have nh2:h2.n=h1.n+1:=by rw [hh2];rfl
 have sh2:h2.t.get h1.n=some (.cells [iv s.1,iv s.2.1,iv s.2.2] 61):=by rw [hh2];exact qX _ _
 have kh2: ∀k,k<h1.n->h2.t.get k=h1.t.get k:=fun k hk=>by rw [hh2];exact qW _ _ hk
 have fbh2:Fr h1.n h1 h2:=by rw [hh2];exact (xZV (xZY _)).new _
 have fh2:Fr h.n h h2:=fh1.trans fbh2 (by omega);simp only [nh1,Nat.add_assoc,rA] at nh2 sh2 kh2;have s1:=(kh2 h.n (by omega)).trans sh1;refine qA fun K1 hn hp=> ?_;simp only [sy.1,rE,reduceIte,rL,syw.1,hlen,sh2,s1];have hw:IntKind.i64.wrap ((w.ts.length:Int) - 1)=(w.ts.length:Int) - 1:=wrap_i64 _ (by omega) (by omega);rw [hw];refine qB (sok xt) (uP xt _ _ _ _ fun m1 hm1=> ?_);simp only [sy.1,rE,reduceIte,rL];refine hn _ _ (qD (qK res85 ⟨?_,fh2.up (by omega)⟩));simp [xZZ,inB]
end Go.Proofs.Kn
namespace Go.Proofs.Kn
open Go Go.Ev
set_option maxRecDepth 100000
set_option maxHeartbeats 4000000
def yN (t:Nat->Int) (c:Nat):Nat->Int->Int
 |0,a=>a
 |n+1,a=>min (yN t c n a) (t (c+n))
def zG (t:Nat->Nat->Int) (r c n:Nat):Nat->Int
 |0=>60
 |k+1=>yN (t (r+k)) c n (zG t r c n k)
@[simp] theorem rowMin_0 (t:Nat->Int) (c:Nat) (a:Int):yN t c 0 a=a:=rfl
@[simp] theorem blkMin_0 (t:Nat->Nat->Int) (r c n:Nat):zG t r c n 0=60:=rfl
theorem qCf (t:Nat->Int) (c:Nat): ∀(n:Nat) (a:Int),yN t c n a<=a
 |0,a=>Int.le_refl a
 |n+1,a=>by have:=qCf t c n a;simp only [yN];omega
theorem qCg {t:Nat->Int} {c:Nat} {b:Int}: ∀(n:Nat) (a:Int),b<=a->(∀j,j<n->b<=t (c+j))->b<=yN t c n a
 |0,a,ha,_=>ha
 |n+1,a,ha,h=>by
  have h1:=qCg n a ha fun j hj=>h j (by omega);have h2:=h n (by omega);simp only [yN];omega
theorem wU (t:Nat->Nat->Int) (r c n:Nat): ∀k:Nat,zG t r c n k<=60
 |0=>Int.le_refl _
 |k+1=>Int.le_trans (qCf _ _ _ _) (wU t r c n k)
theorem wV {t:Nat->Nat->Int} {r c n:Nat} {b:Int} (hb:b<=60): ∀k:Nat,(∀i,i<k-> ∀j,j<n->b<=t (r+i) (c+j))->b<=zG t r c n k
 |0,_=>hb
 |k+1,h=>qCg n _ (wV hb k fun i hi=>h i (by omega)) (h k (by omega))
end Go.Proofs.Kn
namespace Go.Proofs.Kn
open Go Go.Ev
set_option maxRecDepth 100000
set_option maxHeartbeats 4000000
theorem ft99 (xt:Addr->Option Value):(SE xt).ft.get 99=some Tryz.f99:=by kernel_rfl
theorem res99:Tryz.f99.results.toList=[.tmp 8]:=by kernel_rfl
def gP (r0 c0 n:Nat) (x y:Int):Bool:=inB x r0 ((r0:Int)+((n:Int) - 1)) && inB y c0 ((c0:Int)+((n:Int) - 1))
theorem has_c (xt:Addr->Option Value) (h:Hp) (w:Wk) (ha:w.At xt h) (r0 c0 q n:Nat) (th wo:Int) (hx:w.ts[q]? =some ((n:Int),th,wo)) (hr:r0<=100) (hc:c0<=100) (hn:n<=100) (x y:Int)
  {K:CR->Hp->Prop} (hk: ∀m,h.n<m->K (.ret (.val (.bool (gP r0 c0 n x y)))) (h.up m)):FnA (SE xt) 99 [w.av,wY ((r0:Int),(c0:Int),(q:Int)),iv x,iv y] h K:=by
 refine xZT ?_ hk;clear hk K;refine xZU (sok xt) (ft99 xt) rfl 36 rfl ?_;obtain ⟨o1,o2,o3,o4,o5⟩:=ha.ones;have hq:q<w.ts.length:=(List.getElem?_eq_some_iff.1 hx).1;have i1:=ha.ts.idx qAL rfl yB rfl (i:=q) (by simpa using hq) (k:= .i64);refine qA fun K hn hp=> ?_;simp only [sw.1,rE,reduceIte,rL,rA];apply hn;obtain ⟨h1,hh1⟩: ∃h1:Hp,h1=h.new (.cells w.cs 30):=⟨_,rfl⟩;rw [<-hh1];have nh1:h1.n=h.n+1:=by rw [hh1];rfl
 have sh1:h1.t.get h.n=some (.cells w.cs 30):=by rw [hh1];exact qX _ _
 have kh1: ∀k,k<h.n->h1.t.get k=h.t.get k:=fun k hk=>by rw [hh1];exact qW _ _ hk
 have fbh1:Fr h.n h h1:=by rw [hh1];exact (xZV (xZY _)).new _
 have fh1:=fbh1;obtain ⟨h2,hh2⟩: ∃h2:Hp,h2=h1.new (.cells [iv r0,iv c0,iv q] 61):=⟨_,rfl⟩;rw [<-hh2];have nh2:h2.n=h1.n+1:=by rw [hh2];rfl
 have sh2:h2.t.get h1.n=some (.cells [iv r0,iv c0,iv q] 61):=by rw [hh2];exact qX _ _
 have kh2: ∀k,k<h1.n->h2.t.get k=h1.t.get k:=fun k hk=>by rw [hh2];exact qW _ _ hk
 have fbh2:Fr h1.n h1 h2:=by rw [hh2];exact (xZV (xZY _)).new _
 have fh2:Fr h.n h h2:=fh1.trans fbh2 (by omega);simp only [nh1,Nat.add_assoc,rA] at nh2 sh2 kh2;have s1:=(kh2 h.n (by omega)).trans sh1;have ha2:=ha.fr fh2 (xZY _);have hne:w.ts.map Kn.t3≠[]:=by intro e;have:=congrArg List.length e;simp at this;rw [this] at hq;simp at hq
 have i2:=ha2.ts.fa hne yB rfl (f:=0) (o:=0) (s:=0) (ft:=3) rfl (q*3);have i3:qP tb xt h2 3 (elp w.vt (q*3+0))=some (iv n):=ha2.ts.load tg3 rfl (i:=q) (j:=0) (c:=Kn.t3 ((n:Int),th,wo)) (by rw [xZS,hx];rfl) rfl;have w1:IntKind.i64.wrap ((n:Int) - 1)=(n:Int) - 1:=wrap_i64 _ (by omega) (by omega);have w2:IntKind.i64.wrap ((r0:Int)+((n:Int) - 1))=(r0:Int)+((n:Int) - 1):=wrap_i64 _ (by omega) (by omega);have w3:IntKind.i64.wrap ((c0:Int)+((n:Int) - 1))=(c0:Int)+((n:Int) - 1):=wrap_i64 _ (by omega) (by omega);simp only [Nat.add_zero] at i2 i3;refine qA fun K hn hp=> ?_;simp only [sy.1,rE,reduceIte,rL,i1,sh2,s1,i2,i3,w1];apply hn;refine qA fun K hn hp=> ?_;simp only [sy.1,rE,reduceIte,rL,sh2,w2];refine qB (sok xt) (uP xt _ _ _ _ fun m1 hm1=> ?_);cases e1:(decide ((r0:Int)<=x) && decide (x<=(r0:Int)+((n:Int) - 1)))
 ·simp only [sy.1,rE,reduceIte,rL];refine hn _ _ (qD (qK res99 ⟨?_,fh2.up (by omega)⟩));have e1':inB x r0 ((r0:Int)+((n:Int) - 1))=false:=e1;simp [xZZ,gP,e1']
 simp only [sy.1,rE,reduceIte,rL,sh2,w3];refine qB (sok xt) (uP xt _ _ _ _ fun m2 hm2=> ?_);simp only [xZW] at hm2;simp only [sy.1,rE,reduceIte,rL,xZX];refine hn _ _ (qD (qK res99 ⟨?_,fh2.up (by omega)⟩));have e1':inB x r0 ((r0:Int)+((n:Int) - 1))=true:=e1;have e2':(decide ((c0:Int)<=y) && decide (y<=(c0:Int)+((n:Int) - 1)))=inB y c0 ((c0:Int)+((n:Int) - 1)):=rfl;simp only [gP,e1',<-e2',Bool.true_and];simp [xZZ]
end Go.Proofs.Kn
