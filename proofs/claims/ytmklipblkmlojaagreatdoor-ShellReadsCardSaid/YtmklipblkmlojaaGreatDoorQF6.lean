/- Parts of the proof, joined by a program. -/
import Derived.Test.YtmklipblkmlojaaGreatDoorQF5
import Derived.Test.YtmklipblkmlojaaGreatDoorQF4
set_option linter.all false
open Nat renaming reduceEqDiff → rE, reduceLeDiff → rD, reduceAdd → rA, reduceMul → rM, reduceLT → rL
open Go.Ev.T renaming get_put → xZZ
open Nat renaming le_refl → xZY
namespace Go.Proofs.Kn
open Go Go.Ev
set_option maxRecDepth 100000
set_option maxHeartbeats 4000000
theorem ft7s (xt:Addr->Option Value):(SE xt).ft.get 7=some Tryz.f7:=by kernel_rfl
theorem qCF (xt:Addr->Option Value) (h:Hp) {K:CR->Hp->Prop} (hk: ∀n,h.n<n->K (.ret (.val (.bool true))) (h.up n)):FnA (SE xt) 7 [] h K:=by
 refine FnA.calm (v:= .ret (.val (.bool true))) ⟨_,h,⟨xZY _,⟨_,ft7s xt,rfl⟩,fun lim _ c w args' g hxt ha=> ?_⟩,rfl,Fr.refl (xZY _)⟩ hk;have:args'=[]:=by simpa [Go.Ev.RL] using ha
 subst this;refine (callsIn_wide.2 (known_ok w)).mono fun e w' ⟨h1,h2⟩=>⟨c,Stp.below g h2,_,h1,by simp only [R]⟩
def qBl (r:CR) (_:Hp):Prop:=r= .ret (.val (.bool true))
theorem ey00:decide ((0:Int)=0)=true:=by decide
end Go.Proofs.Kn
namespace Go.Proofs.Kn
open Go Go.Ev
set_option maxRecDepth 100000
set_option maxHeartbeats 4000000
def zM:Mp:=⟨jE,jE,jE,jE,[],0,0,[],[],[]⟩
theorem qB2 (xt:Addr->Option Value) (h:Hp):zM.At xt h:=
 ⟨.inl ⟨[],⟨by simp,Nat.one_pos,.inl ⟨rfl,rfl⟩⟩,rfl,fun i l hl=>by simp [zM] at hl⟩,⟨by simp [zM],by omega,.inl ⟨rfl,rfl⟩⟩,⟨by simp [zM],by omega,.inl ⟨rfl,rfl⟩⟩,⟨by simp [zM],by omega,.inl ⟨rfl,rfl⟩⟩,by simp [zM],by simp [zM],by simp [zM],by simp [zM],by simp [zM]⟩
theorem RdR.norm {xt:Addr->Option Value} {h h':Hp} {s:List UInt8} {res:CR} (hr:RdR xt h s res h'):Fr h.n h h'/\ ∃(x:Mp) (ec:Int),res= .ret (.tup [x.av,iv ec])/\x.At xt h'/\
  ((600<s.length/\ec=3/\x=zM)\/(¬600<s.length/\j7 s=none/\ec=4/\x=zM)\/(¬600<s.length/\ ∃d,j7 s=some d/\d.ok=false/\ec=2/\x=zM)\/(¬600<s.length/\ ∃d a b c e,j7 s=some d/\d.ok=true/\ec=0/\x=d.mp a b c e)):=by
 obtain ⟨f,hr⟩:=hr;refine ⟨f,?_⟩;by_cases hl:600<s.length
 ·rw [if_pos hl] at hr;exact ⟨zM,3,hr,qB2 xt h',.inl ⟨hl,rfl,rfl⟩⟩
 ·rw [if_neg hl] at hr;cases hp:j7 s with
  |none=>rw [hp] at hr;exact ⟨zM,4,hr,qB2 xt h',.inr (.inl ⟨hl,rfl,rfl,rfl⟩)⟩
  |some d=>
   rw [hp] at hr;cases hd:d.ok with
   |false=>simp only [hd,Bool.false_eq_true,if_false] at hr;exact ⟨zM,2,hr,qB2 xt h',.inr (.inr (.inl ⟨hl,d,rfl,hd,rfl,rfl⟩))⟩
   |true=>
    simp only [hd,if_true] at hr;obtain ⟨a,b,c,e,h1,h2⟩:=hr;exact ⟨_,0,h1,h2,.inr (.inr (.inr ⟨hl,d,a,b,c,e,rfl,hd,rfl,rfl⟩))⟩
theorem RfR.norm {xt:Addr->Option Value} {h h':Hp} {s:List UInt8} {res:CR} (hr:RfR xt h (yT s) res h'):Fr h.n h h'/\ ∃(y:Mp) (b:Bool),res= .ret (.tup [y.av,.val (.bool b)])/\y.At xt h'/\
  ((yT s=none/\b=false/\y=zM)\/ ∃d a b' c e,yT s=some d/\b=true/\y=d.mp a b' c e):=by
 obtain ⟨f,hr⟩:=hr;refine ⟨f,?_⟩;cases hp:yT s with
 |none=>rw [hp] at hr;exact ⟨zM,false,hr,qB2 xt h',.inl ⟨rfl,rfl,rfl⟩⟩
 |some d=>
  rw [hp] at hr;obtain ⟨a,b,c,e,h1,h2⟩:=hr;exact ⟨_,true,h1,h2,.inr ⟨d,a,b,c,e,rfl,rfl,rfl⟩⟩
theorem ft4s (xt:Addr->Option Value):(SE xt).ft.get 4=some Tryz.f4:=by kernel_rfl
theorem res4s:Tryz.f4.results.toList=[.tmp 2]:=by kernel_rfl
theorem qD5 (xt:Addr->Option Value) (hx:Lx xt) (h:Hp) (s:List UInt8) (hmx:s.length<=9223372036854775807):FnA (SE xt) 4 [sv s] h qBl:=by
 refine FnA.walk (sok xt) (ft4s xt) rfl 69 rfl ?_;refine qA fun K hn hp=> ?_;simp only [sw.1,rE,reduceIte,rL,rA,rM,rD,svn.down,syw.1,qB,qD,qC];apply hn;refine qG ?_;refine qA fun K hn hp=> ?_;simp only [sw.1,rE,reduceIte,rL,rA,rM,rD,svn.down,syw.1,qB,qD,qC];apply hn;by_cases h7:700<s.length
 ·refine qF true (by simp only [sw.1,rE,reduceIte,rL,rA,rM,rD,svn.down,syw.1,qB,qD,qC,decide_eq_true (show (700:Int)<(s.length:Int) by omega)]) (fun _=> ?_) (fun hx=>by cases hx);refine qG ?_;refine qA fun K hn hp=> ?_;simp only [sw.1,rE,reduceIte,rL,rA,rM,rD,svn.down,syw.1,qB,qD,qC];refine qE (sok xt) (qCF xt _ fun n2 hn2=> ?_);simp only [sw.1,rE,reduceIte,rL,rA,rM,rD,svn.down,syw.1,qB,qD,qC];refine hn _ _ (jI (jF res4s ?_));simp [xZZ,qBl]
 refine qF false (by simp only [sw.1,rE,reduceIte,rL,rA,rM,rD,svn.down,syw.1,qB,qD,qC,decide_eq_false (show¬(700:Int)<(s.length:Int) by omega)]) (fun hx=>by cases hx) (fun _=> ?_);refine qN ?_;refine qA fun K hn hp=> ?_;simp only [sw.1,rE,reduceIte,rL,rA,rM,rD,svn.down,syw.1,qB,qD,qC];refine qE (sok xt) (FnA.mono (Read_c xt hx h s (by omega)) fun res h5 hres=> ?_);obtain ⟨f5,x,ec,rfl,hxa,hxc⟩:=RdR.norm hres;obtain ⟨p1,p2,p3,p4⟩:=hxa.ones;simp only [sw.1,rE,reduceIte,rL,rA,rM,rD,svn.down,syw.1,qB,qD,qC,p1,p2,p3,p4];apply hn;obtain ⟨h6,hh6⟩: ∃h6:Hp,h6=(h5.new (.cells z27 27)).set h5.n (.cells x.cs 27):=⟨_,rfl⟩;have nh6:h6.n=h5.n+1:=by rw [hh6];rfl
 have sh6:h6.t.get h5.n=some (.cells x.cs 27):=by rw [hh6,Hp.set_t,xZZ,if_pos rfl]
 have kh6: ∀k,k<h5.n->h6.t.get k=h5.t.get k:=fun k hk=>by rw [hh6];exact kJ _ _ _ hk
 have fbh6:Fr h5.n h5 h6:=by rw [hh6];exact kK _ _ _
 have fh6:=fbh6;rw [<-hh6];refine qA fun K hn hp=> ?_;simp only [sw.1,rE,reduceIte,rL,rA,rM,rD,svn.down,syw.1,qB,qD,qC,p1,p2,p3,p4,sh6,nh6];refine qE (sok xt) (FnA.mono (ref_c xt h6 s (by omega)) fun res h7 hres=> ?_);obtain ⟨f7,y,ib,rfl,hya,hyc⟩:=RfR.norm hres;obtain ⟨r1,r2,r3,r4⟩:=hya.ones;simp only [sw.1,rE,reduceIte,rL,rA,rM,rD,svn.down,syw.1,qB,qD,qC,p1,p2,p3,p4,sh6,nh6,r1,r2,r3,r4];apply hn;obtain ⟨h8,hh8⟩: ∃h8:Hp,h8=(h7.new (.cells z27 27)).set h7.n (.cells y.cs 27):=⟨_,rfl⟩;have nh8:h8.n=h7.n+1:=by rw [hh8];rfl
 have sh8:h8.t.get h7.n=some (.cells y.cs 27):=by rw [hh8,Hp.set_t,xZZ,if_pos rfl]
 have kh8: ∀k,k<h7.n->h8.t.get k=h7.t.get k:=fun k hk=>by rw [hh8];exact kJ _ _ _ hk
 have fbh8:Fr h7.n h7 h8:=by rw [hh8];exact kK _ _ _
 have fh8:=fbh8;rw [<-hh8];have lt7:=f7.le;have sx:=(kh8 h5.n (by omega)).trans ((f7.at_ _ (.inl (by omega))).trans sh6);have hxa8:=(hxa.fr fbh6 (xZY _)).fr (f7.trans fbh8 (by omega)) (xZY _);have hya8:=hya.fr fbh8 (xZY _);refine qA fun K hn hp=> ?_;simp only [sw.1,rE,reduceIte,rL,rA,rM,rD,svn.down,syw.1,qB,qD,qC,p1,p2,p3,p4,sh6,nh6,r1,r2,r3,r4,sh8,nh8];apply hn;refine seq_any fun K kN kx=> ?_;have fin_err: ∀(hg:Hp) (w:Int) (tm:T AV),hg.t.get h5.n=some (.cells zM.cs 27)->ec=w->w≠0->tm.get 3=some (.ptr h5.n 0)->tm.get 4=some (iv ec)->tm.get 7=some (iv w)->K .normal ⟨tm,69,hg,[]⟩:=by
  intro hg w tm sg he hw g3 g4 g7;subst he;have hw0:decide (ec=0)=false:=decide_eq_false hw;have hw1:decide (ec=ec)=true:=decide_eq_true rfl;refine kN _ ?_;refine qG ?_;refine qA fun K hn hp=> ?_;simp only [sw.1,rE,reduceIte,rL,rA,rM,rD,svn.down,syw.1,qB,qD,qC,p1,p2,p3,p4,sh6,nh6,r1,r2,r3,r4,sh8,nh8,g3,g4,g7,hw0];apply hn;refine qF true (by simp only [sw.1,rE,reduceIte,rL,rA,rM,rD,svn.down,syw.1,qB,qD,qC,p1,p2,p3,p4,sh6,nh6,r1,r2,r3,r4,sh8,nh8,g3,g4,g7]) (fun _=> ?_) (fun hx=>by cases hx);refine qG ?_;refine qA fun K hn hp=> ?_;simp only [sw.1,rE,reduceIte,rL,rA,rM,rD,svn.down,syw.1,qB,qD,qC,p1,p2,p3,p4,sh6,nh6,r1,r2,r3,r4,sh8,nh8,g3,g4,g7,hw1,sg,bd27z];refine qE (sok xt) (same_c xt hg zM zM (qB2 _ _) (qB2 _ _) rfl rfl rfl rfl rfl rfl fun n9 hn9=> ?_);simp only [sw.1,rE,reduceIte,rL,rA,rM,rD,svn.down,syw.1,qB,qD,qC,p1,p2,p3,p4,sh6,nh6,r1,r2,r3,r4,sh8,nh8,g3,g4,g7];refine qE (sok xt) (qCF xt _ fun n10 hn10=> ?_);simp only [sw.1,rE,reduceIte,rL,rA,rM,rD,svn.down,syw.1,qB,qD,qC,p1,p2,p3,p4,sh6,nh6,r1,r2,r3,r4,sh8,nh8,g3,g4,g7];refine hn _ _ (jI (jF res4s ?_));simp [xZZ,qBl]
 have hxz:(600<s.length\/j7 s=none\/ ∃d,j7 s=some d/\d.ok=false)->x=zM:=by
  rintro hq;rcases hxc with ⟨a1,a2,a3⟩|⟨a1,a2,a3,a4⟩|⟨a1,d,a2,a3,a4,a5⟩|⟨a1,d,a,b,c,e,a2,a3,a4,a5⟩
  ·exact a3
  ·exact a4
  ·exact a5
  ·rcases hq with hq|hq|⟨d',hq,hq2⟩
   ·exact absurd hq a1
   ·rw [a2] at hq;cases hq
   ·rw [a2] at hq;cases hq;rw [a3] at hq2;cases hq2
 have hrr:=read_ref (s:=s) (by omega);refine qA fun K hn hp=> ?_;simp only [sw.1,rE,reduceIte,rL,rA,rM,rD,svn.down,syw.1,qB,qD,qC,p1,p2,p3,p4,sh6,nh6,r1,r2,r3,r4,sh8,nh8];apply hn;by_cases h6l:600<s.length
 ·have e3:ec=3:=by
   rcases hxc with ⟨a1,a2,a3⟩|⟨a1,_⟩|⟨a1,_⟩|⟨a1,_⟩
   ·exact a2
   ·exact absurd h6l a1
   ·exact absurd h6l a1
   ·exact absurd h6l a1
  rw [hxz (.inl h6l)] at sx;refine qQ true (by simp only [sw.1,rE,reduceIte,rL,rA,rM,rD,svn.down,syw.1,qB,qD,qC,p1,p2,p3,p4,sh6,nh6,r1,r2,r3,r4,sh8,nh8,decide_eq_true (show (600:Int)<(s.length:Int) by omega)]) (fun _=> ?_) (fun hx=>by cases hx);refine reg fun K hn hp=> ?_;simp only [sw.1,rE,reduceIte,rL,rA,rM,rD,svn.down,syw.1,qB,qD,qC,p1,p2,p3,p4,sh6,nh6,r1,r2,r3,r4,sh8,nh8];apply hn;exact fin_err _ 3 _ sx e3 (by omega) (by simp [xZZ]) (by simp [xZZ]) (by simp [xZZ])
 refine qQ false (by simp only [sw.1,rE,reduceIte,rL,rA,rM,rD,svn.down,syw.1,qB,qD,qC,p1,p2,p3,p4,sh6,nh6,r1,r2,r3,r4,sh8,nh8,decide_eq_false (show¬(600:Int)<(s.length:Int) by omega)]) (fun hx=>by cases hx) (fun _=> ?_);rcases hyc with ⟨b1,b2,b3⟩|⟨d,v1,v2,v3,v4,b1,b2,b3⟩
 ·have hnone:j7 s=none:=hrr.trans b1;have e4:ec=4:=by
   rcases hxc with ⟨a1,_⟩|⟨a1,a2,a3,a4⟩|⟨a1,d,a2,_⟩|⟨a1,d,a,b,c,e,a2,_⟩
   ·exact absurd a1 h6l
   ·exact a3
   ·rw [hnone] at a2;cases a2
   ·rw [hnone] at a2;cases a2
  rw [hxz (.inr (.inl hnone))] at sx;subst b2;refine qA fun K hn hp=> ?_;simp only [sw.1,rE,reduceIte,rL,rA,rM,rD,svn.down,syw.1,qB,qD,qC,p1,p2,p3,p4,sh6,nh6,r1,r2,r3,r4,sh8,nh8];apply hn;refine qQ true (by simp only [sw.1,rE,reduceIte,rL,rA,rM,rD,svn.down,syw.1,qB,qD,qC,p1,p2,p3,p4,sh6,nh6,r1,r2,r3,r4,sh8,nh8]) (fun _=> ?_) (fun hx=>by cases hx);refine reg fun K hn hp=> ?_;simp only [sw.1,rE,reduceIte,rL,rA,rM,rD,svn.down,syw.1,qB,qD,qC,p1,p2,p3,p4,sh6,nh6,r1,r2,r3,r4,sh8,nh8];apply hn;exact fin_err _ 4 _ sx e4 (by omega) (by simp [xZZ]) (by simp [xZZ]) (by simp [xZZ])
 subst b2;have hsome:j7 s=some d:=hrr.trans b1;refine qA fun K hn hp=> ?_;simp only [sw.1,rE,reduceIte,rL,rA,rM,rD,svn.down,syw.1,qB,qD,qC,p1,p2,p3,p4,sh6,nh6,r1,r2,r3,r4,sh8,nh8];apply hn;refine qQ false (by simp only [sw.1,rE,reduceIte,rL,rA,rM,rD,svn.down,syw.1,qB,qD,qC,p1,p2,p3,p4,sh6,nh6,r1,r2,r3,r4,sh8,nh8]) (fun hx=>by cases hx) (fun _=> ?_);refine qA fun K hn hp=> ?_;simp only [sw.1,rE,reduceIte,rL,rA,rM,rD,svn.down,syw.1,qB,qD,qC,p1,p2,p3,p4,sh6,nh6,r1,r2,r3,r4,nh8,sh8];refine qE (sok xt) (rmap_c xt h8 y hya8 fun n9 hn9=> ?_);have hok:y.ok=d.ok:=by rw [b3];rfl
 rw [hok];cases q:d.ok
 ·have e2:ec=2:=by
   rcases hxc with ⟨a1,_⟩|⟨a1,a2,_⟩|⟨a1,d',a2,a3,a4,a5⟩|⟨a1,d',a,b,c,e,a2,a3,_⟩
   ·exact absurd a1 h6l
   ·rw [hsome] at a2;cases a2
   ·exact a4
   ·rw [hsome] at a2;cases a2;rw [q] at a3;cases a3
  rw [hxz (.inr (.inr ⟨d,hsome,q⟩))] at sx;simp only [sw.1,rE,reduceIte,rL,rA,rM,rD,svn.down,syw.1,qB,qD,qC,p1,p2,p3,p4,sh6,nh6,r1,r2,r3,r4,sh8,nh8];apply hn;refine qQ true (by simp only [sw.1,rE,reduceIte,rL,rA,rM,rD,svn.down,syw.1,qB,qD,qC,p1,p2,p3,p4,sh6,nh6,r1,r2,r3,r4,sh8,nh8]) (fun _=> ?_) (fun hx=>by cases hx);refine reg fun K hn hp=> ?_;simp only [sw.1,rE,reduceIte,rL,rA,rM,rD,svn.down,syw.1,qB,qD,qC,p1,p2,p3,p4,sh6,nh6,r1,r2,r3,r4,sh8,nh8];apply hn;exact fin_err _ 2 _ sx e2 (by omega) (by simp [xZZ]) (by simp [xZZ]) (by simp [xZZ])
 obtain ⟨v5,v6,v7,v8,e0,e1⟩: ∃a b c e,ec=0/\x=d.mp a b c e:=by
  rcases hxc with ⟨a1,_⟩|⟨a1,a2,_⟩|⟨a1,d',a2,a3,_⟩|⟨a1,d',a,b,c,e,a2,a3,a4,a5⟩
  ·exact absurd a1 h6l
  ·rw [hsome] at a2;cases a2
  ·rw [hsome] at a2;cases a2;rw [q] at a3;cases a3
  ·rw [hsome] at a2;cases a2;exact ⟨a,b,c,e,a4,a5⟩
 subst e0;have htx:x.textB=s:=by rw [e1];exact (readP_can (by omega) hsome).2
 have hxok:x.ok=true:=by rw [e1];exact q
 simp only [sw.1,rE,reduceIte,rL,rA,rM,rD,svn.down,syw.1,qB,qD,qC,p1,p2,p3,p4,sh6,nh6,r1,r2,r3,r4,sh8,nh8];apply hn;refine qQ false (by simp only [sw.1,rE,reduceIte,rL,rA,rM,rD,svn.down,syw.1,qB,qD,qC,p1,p2,p3,p4,sh6,nh6,r1,r2,r3,r4,sh8,nh8]) (fun hx=>by cases hx) (fun _=> ?_);refine jO (kN _ ?_);refine qG ?_;refine qA fun K hn hp=> ?_;simp only [sw.1,rE,reduceIte,rL,rA,rM,rD,svn.down,syw.1,qB,qD,qC,p1,p2,p3,p4,sh6,nh6,r1,r2,r3,r4,sh8,nh8,ey00];apply hn;refine qF false (by simp only [sw.1,rE,reduceIte,rL,rA,rM,rD,svn.down,syw.1,qB,qD,qC,p1,p2,p3,p4,sh6,nh6,r1,r2,r3,r4,sh8,nh8]) (fun hx=>by cases hx) (fun _=> ?_);refine qN ?_;refine qA fun K hn hp=> ?_;simp only [sw.1,rE,reduceIte,rL,rA,rM,rD,svn.down,syw.1,qB,qD,qC,p1,p2,p3,p4,sh6,nh6,r1,r2,r3,r4,sh8,nh8,sx];refine qE (sok xt) (print_c xt hx _ x (hxa8.up (by omega)) fun n10 hn10=> ?_);simp only [Hp.up_n] at hn10;rw [hxok,htx];simp only [sw.1,rE,reduceIte,rL,rA,rM,rD,svn.down,syw.1,qB,qD,qC,p1,p2,p3,p4,sh6,nh6,r1,r2,r3,r4,sh8,nh8,Hp.up_up];apply hn;refine qA fun K hn hp=> ?_;simp only [sw.1,rE,reduceIte,rL,rA,rM,rD,svn.down,syw.1,qB,qD,qC,p1,p2,p3,p4,sh6,nh6,r1,r2,r3,r4,nh8,ey00,sx,sh8];refine qE (sok xt) (same_c xt _ x y (hxa8.up (by omega)) (hya8.up (by omega)) (by rw [b3,e1];rfl) (by rw [b3,e1];rfl) (by rw [b3,e1];rfl) (by rw [b3,e1];rfl) (by rw [b3,e1];rfl) (by rw [b3,e1];rfl) fun n11 hn11=> ?_);simp only [sw.1,rE,reduceIte,rL,rA,rM,rD,svn.down,syw.1,qB,qD,qC,p1,p2,p3,p4,sh6,nh6,r1,r2,r3,r4,sh8,nh8,ey00,decide_true];refine qE (sok xt) (qCF xt _ fun n12 hn12=> ?_);simp only [sw.1,rE,reduceIte,rL,rA,rM,rD,svn.down,syw.1,qB,qD,qC,p1,p2,p3,p4,sh6,nh6,r1,r2,r3,r4,sh8,nh8];refine hn _ _ (qR (jF res4s ?_));simp [xZZ,qBl]
end Go.Proofs.Kn
