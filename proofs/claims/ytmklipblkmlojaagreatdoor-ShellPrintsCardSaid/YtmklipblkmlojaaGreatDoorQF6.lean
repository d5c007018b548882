/- Parts of the proof, joined by a program. -/
import Derived.Test.YtmklipblkmlojaaGreatDoorQF5
import Derived.Test.YtmklipblkmlojaaGreatDoorQF4
set_option linter.all false
open Nat renaming reduceEqDiff → rE, reduceLeDiff → rD, reduceAdd → rA, reduceMul → rM, reduceLT → rL
open Nat renaming le_refl → xZZ
open Bool renaming false_eq_true → xZY
open Go.Ev.T renaming get_put → xZX
namespace Go.Proofs.Kn
open Go Go.Ev
set_option maxRecDepth 100000
set_option maxHeartbeats 4000000
theorem ft7s (xt:Addr->Option Value):(SE xt).ft.get 7=some Tryz.f7:=by kernel_rfl
theorem qCi (xt:Addr->Option Value) (h:Hp) {K:CR->Hp->Prop} (hk: ∀n,h.n<n->K (.ret (.val (.bool true))) (h.up n)):FnA (SE xt) 7 [] h K:=by
 refine FnA.calm (v:= .ret (.val (.bool true))) ⟨_,h,⟨xZZ _,⟨_,ft7s xt,rfl⟩,fun lim _ c w args' g hxt ha=> ?_⟩,rfl,Fr.refl (xZZ _)⟩ hk;have:args'=[]:=by simpa [Go.Ev.RL] using ha
 subst this;refine (callsIn_wide.2 (known_ok w)).mono fun e w' ⟨h1,h2⟩=>⟨c,Stp.below g h2,_,h1,by simp only [R]⟩
def qA3 (r:CR) (_:Hp):Prop:=r= .ret (.val (.bool true))
theorem ft3s (xt:Addr->Option Value):(SE xt).ft.get 3=some Tryz.f3:=by kernel_rfl
theorem res3s:Tryz.f3.results.toList=[.tmp 2]:=by kernel_rfl
theorem ey00:decide ((0:Int)=0)=true:=by decide
theorem ey22:decide ((2:Int)=2)=true:=by decide
theorem eyee:decide (([]:List UInt8)=[])=true:=by decide
theorem qCZ (xt:Addr->Option Value) (hx:Lx xt) (h:Hp) (m:Mp) (ha:m.At xt h):FnA (SE xt) 3 [m.av] h qA3:=by
 refine FnA.walk (sok xt) (ft3s xt) rfl 53 rfl ?_;obtain ⟨o1,o2,o3,o4⟩:=ha.ones;refine qA fun K hn hp=> ?_;simp only [sw.1,rE,reduceIte,rL,rA,rM,rD,svn.down,syw.1,qC,qE,qD,o1,o2,o3,o4];apply hn;obtain ⟨h1,hh1⟩: ∃h1:Hp,h1=h.new (.cells m.cs 27):=⟨_,rfl⟩;rw [<-hh1];have nh1:h1.n=h.n+1:=by rw [hh1];rfl
 have sh1:h1.t.get h.n=some (.cells m.cs 27):=by rw [hh1];exact jI _ _
 have kh1: ∀k,k<h.n->h1.t.get k=h.t.get k:=fun k hk=>by rw [hh1];exact zY _ _ hk
 have fbh1:Fr h.n h h1:=by rw [hh1];exact (Fr.refl (xZZ _)).new _
 have fh1:=fbh1;have ha1:=ha.fr fh1 (xZZ _);refine qI ?_;refine qA fun K hn hp=> ?_;simp only [sw.1,rE,reduceIte,rL,rA,rM,rD,svn.down,syw.1,qC,qE,qD,o1,o2,o3,o4,sh1,nh1];refine qB (sok xt) (short_c xt h1 m ha1 fun n1 hn1=> ?_);cases q1:m.short
 ·simp only [sw.1,rE,reduceIte,rL,rA,rM,rD,svn.down,syw.1,qC,qE,qD,o1,o2,o3,o4,sh1,nh1,q1];apply hn;refine qF true (by simp only [sw.1,rE,reduceIte,rL,rA,rM,rD,svn.down,syw.1,qC,qE,qD,o1,o2,o3,o4,sh1,nh1]) (fun _=> ?_) (fun hx=>by cases hx);refine qI ?_;refine qA fun K hn hp=> ?_;simp only [sw.1,rE,reduceIte,rL,rA,rM,rD,svn.down,syw.1,qC,qE,qD,o1,o2,o3,o4,sh1,nh1];refine qB (sok xt) (qCi xt _ fun n2 hn2=> ?_);simp only [sw.1,rE,reduceIte,rL,rA,rM,rD,svn.down,syw.1,qC,qE,qD,o1,o2,o3,o4,sh1,nh1];refine hn _ _ (zG (jE res3s ?_));simp [xZX,qA3]
 simp only [sw.1,rE,reduceIte,rL,rA,rM,rD,svn.down,syw.1,qC,qE,qD,o1,o2,o3,o4,sh1,nh1,q1];apply hn;refine qF false (by simp only [sw.1,rE,reduceIte,rL,rA,rM,rD,svn.down,syw.1,qC,qE,qD,o1,o2,o3,o4,sh1,nh1]) (fun hx=>by cases hx) (fun _=> ?_);refine qT ?_;refine qA fun K hn hp=> ?_;simp only [sw.1,rE,reduceIte,rL,rA,rM,rD,svn.down,syw.1,qC,qE,qD,o1,o2,o3,o4,sh1,nh1];refine qB (sok xt) (print_c xt hx _ m (ha1.up (by omega)) fun n2 hn2=> ?_);simp only [Hp.up_n] at hn2;cases q:m.ok
 ·simp only [sw.1,rE,reduceIte,rL,rA,rM,rD,svn.down,syw.1,qC,qE,qD,o1,o2,o3,o4,sh1,nh1,q,Hp.up_up,xZY];apply hn;refine qI ?_;refine qA fun K hn hp=> ?_;simp only [sw.1,rE,reduceIte,rL,rA,rM,rD,svn.down,syw.1,qC,qE,qD,o1,o2,o3,o4,sh1,nh1];refine qB (sok xt) (rmap_c xt _ m (ha1.up (by omega)) fun n3 hn3=> ?_);simp only [sw.1,rE,reduceIte,rL,rA,rM,rD,svn.down,syw.1,qC,qE,qD,o1,o2,o3,o4,sh1,nh1,q];apply hn;refine qF true (by simp only [sw.1,rE,reduceIte,rL,rA,rM,rD,svn.down,syw.1,qC,qE,qD,o1,o2,o3,o4,sh1,nh1]) (fun _=> ?_) (fun hx=>by cases hx);refine qI ?_;refine qA fun K hn hp=> ?_;simp only [sw.1,rE,reduceIte,rL,rA,rM,rD,svn.down,syw.1,qC,qE,qD,o1,o2,o3,o4,sh1,nh1,ey22,eyee];refine qB (sok xt) (qCi xt _ fun n4 hn4=> ?_);simp only [sw.1,rE,reduceIte,rL,rA,rM,rD,svn.down,syw.1,qC,qE,qD,o1,o2,o3,o4,sh1,nh1];refine hn _ _ (zG (jE res3s ?_));simp [xZX,qA3]
 simp only [sw.1,rE,reduceIte,rL,rA,rM,rD,svn.down,syw.1,qC,qE,qD,o1,o2,o3,o4,sh1,nh1,q,Hp.up_up,xZY];apply hn;refine qI ?_;refine qA fun K hn hp=> ?_;simp only [sw.1,rE,reduceIte,rL,rA,rM,rD,svn.down,syw.1,qC,qE,qD,o1,o2,o3,o4,sh1,nh1];refine qB (sok xt) (rmap_c xt _ m (ha1.up (by omega)) fun n3 hn3=> ?_);simp only [Hp.up_n] at hn3;simp only [sw.1,rE,reduceIte,rL,rA,rM,rD,svn.down,syw.1,qC,qE,qD,o1,o2,o3,o4,sh1,nh1,q,Hp.up_up,xZY];apply hn;refine qF false (by simp only [sw.1,rE,reduceIte,rL,rA,rM,rD,svn.down,syw.1,qC,qE,qD,o1,o2,o3,o4,sh1,nh1]) (fun hx=>by cases hx) (fun _=> ?_);refine qT ?_;have hlen:=Mp.text_600 q;refine qA fun K hn hp=> ?_;simp only [sw.1,rE,reduceIte,rL,rA,rM,rD,svn.down,syw.1,qC,qE,qD,o1,o2,o3,o4,sh1,nh1];refine qB (sok xt) (FnA.mono (Read_c xt hx (h1.up n3) m.textB (by omega)) fun res h5 hres=> ?_);obtain ⟨f5,hres⟩:=hres;rw [if_neg (by omega),Mp.read_text q] at hres;simp only [Mp.md_ok,q,if_true] at hres;obtain ⟨a,b,c,e,rfl,hy⟩:=hres;obtain ⟨x,hxm⟩: ∃x:Mp,x=m.md.mp a b c e:=⟨_,rfl⟩;rw [<-hxm] at hy;simp only [Hp.up_n] at f5;have fr5:Fr h.n h h5:=(fh1.up (by omega)).trans f5 (by omega);have s5:h5.t.get h.n=some (.cells m.cs 27):=by rw [f5.at_ _ (.inl (by omega))];exact sh1
 have ha5:=ha.fr fr5 (xZZ _);obtain ⟨p1,p2,p3,p4⟩:=hy.ones;rw [<-hxm];simp only [sw.1,rE,reduceIte,rL,rA,rM,rD,svn.down,syw.1,qC,qE,qD,o1,o2,o3,o4,sh1,nh1,p1,p2,p3,p4];apply hn;obtain ⟨h6,hh6⟩: ∃h6:Hp,h6=(h5.new (.cells z27 27)).set h5.n (.cells x.cs 27):=⟨_,rfl⟩;have nh6:h6.n=h5.n+1:=by rw [hh6];rfl
 have sh6:h6.t.get h5.n=some (.cells x.cs 27):=by rw [hh6,Hp.set_t,xZX,if_pos rfl]
 have kh6: ∀k,k<h5.n->h6.t.get k=h5.t.get k:=fun k hk=>by rw [hh6];exact kU _ _ _ hk
 have fbh6:Fr h5.n h5 h6:=by rw [hh6];exact kV _ _ _
 have fh6:=fbh6;rw [<-hh6];have lt5:=f5.le;simp only [Hp.up_n] at lt5;have s56:=(kh6 h.n (by omega)).trans s5;refine qA fun K hn hp=> ?_;simp only [sw.1,rE,reduceIte,rL,rA,rM,rD,svn.down,syw.1,qC,qE,qD,o1,o2,o3,o4,sh1,nh1,p1,p2,p3,p4,nh6,ey00,s56,sh6];refine qB (sok xt) (rprint_c xt _ m (ha5.fr fbh6 (xZZ _)) (Mp.ok_txt q) fun n7 hn7=> ?_);simp only [sw.1,rE,reduceIte,rL,rA,rM,rD,svn.down,syw.1,qC,qE,qD,o1,o2,o3,o4,sh1,nh1,p1,p2,p3,p4,nh6,ey00,s56,sh6,decide_true];refine qB (sok xt) (same_c xt _ x m ((hy.fr fbh6 (xZZ _)).up (by omega)) ((ha5.fr fbh6 (xZZ _)).up (by omega)) (by rw [hxm];rfl) (by rw [hxm];rfl) (by rw [hxm];rfl) (by rw [hxm];rfl) (by rw [hxm];rfl) (by rw [hxm];rfl) fun n8 hn8=> ?_);simp only [sw.1,rE,reduceIte,rL,rA,rM,rD,svn.down,syw.1,qC,qE,qD,o1,o2,o3,o4,sh1,nh1,p1,p2,p3,p4,sh6,nh6];refine qB (sok xt) (qCi xt _ fun n9 hn9=> ?_);simp only [sw.1,rE,reduceIte,rL,rA,rM,rD,svn.down,syw.1,qC,qE,qD,o1,o2,o3,o4,sh1,nh1,p1,p2,p3,p4,sh6,nh6];refine hn _ _ (qO (jE res3s ?_));simp [xZX,qA3]
end Go.Proofs.Kn
