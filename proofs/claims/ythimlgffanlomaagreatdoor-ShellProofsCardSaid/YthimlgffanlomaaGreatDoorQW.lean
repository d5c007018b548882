/- Parts. -/
import Derived.Test.YthimlgffanlomaaGreatDoorQC
import Derived.Test.YthimlgffanlomaaGreatDoorQD
import Derived.Test.YthimlgffanlomaaGreatDoorQV
set_option linter.all false
open Nat renaming reduceEqDiff → rE, reduceLeDiff → rD, reduceAdd → rA, reduceMul → rM, reduceLT → rL
open Go.Ev.T renaming get_put → xZZ
open Nat renaming le_refl → xZY, le_of_lt → xZW, add_assoc → xZS, lt_of_lt_of_le → xZP
open Go.Ev.Hp renaming set_t → xZX, up_up → xZV, up_n → xZT, set_n → xZL
open List renaming getElem?_eq_some_iff → xZU, getElem?_map → xZO
open Go.Ev.FnA renaming walk → xZR
open Bool renaming and_eq_true_iff → xZQ
open Go.Ev.Fr renaming refl → xZN
open Int renaming toNat_natCast → xZM
noncomputable section
namespace Go.Ev
structure FrM (M:Nat->Prop) (n:Nat) (h h':Hp):Prop where
 lo:n<=h'.n
 le:h.n<=h'.n
 at_: ∀k,(k<n\/h'.n<=k)-> ¬M k->h'.t.get k=h.t.get k
section
variable {M:Nat->Prop} {n m:Nat} {h h1 h2:Hp}
theorem FrM.refl (hn:n<=h.n):FrM M n h h:=⟨hn,xZY _,fun _ _ _=>rfl⟩
theorem FrM.of (f:Fr n h h1):FrM M n h h1:=⟨f.lo,f.le,fun k hk _=>f.at_ k hk⟩
theorem FrM.trans (f:FrM M n h h1) (g:FrM M m h1 h2) (hm:n<=m):FrM M n h h2:=by
 refine ⟨Nat.le_trans hm g.lo,Nat.le_trans f.le g.le,fun k hk hM=> ?_⟩;have:=f.lo;have:=g.le;have:=g.lo;rw [g.at_ k (by omega) hM,f.at_ k (by omega) hM]
theorem FrM.fr (f:FrM M n h h1) (g:Fr m h1 h2) (hm:n<=m):FrM M n h h2:=f.trans (FrM.of g) hm
theorem FrM.new (f:FrM M n h h1) (o:AO):FrM M n h (h1.new o):=f.fr (Fr.new (xZN f.lo) o) (xZY _)
theorem FrM.up (f:FrM M n h h1) (hm:h1.n<=m):FrM M n h (h1.up m):=f.fr (Fr.up (xZN f.lo) hm) (xZY _)
theorem FrM.set (f:FrM M n h h1) {b:Nat} (hb:(n<=b/\b<h1.n)\/M b) (o:AO):FrM M n h (h1.set b o):=by
 refine ⟨f.lo,f.le,fun k hk hM=> ?_⟩;simp only [xZX,xZL] at hk ⊢;rw [xZZ,if_neg (by rintro rfl;rcases hb with hb|hb;omega;exact hM hb)];exact f.at_ k hk hM
theorem FrM.del (f:FrM M n h h1) {b:Nat} (hb:n<=b) (hb':b<h1.n):FrM M n h (h1.del b):=by
 refine ⟨f.lo,f.le,fun k hk hM=> ?_⟩;simp only [Hp.del_t,Hp.del_n] at hk ⊢;rw [xZZ,if_neg (by omega)];exact f.at_ k hk hM
theorem FrM.toFr (f:FrM M m h1 h2) (g:Fr n h h1) (hn:n<=m) (hM: ∀k,M k->n<=k/\k<h1.n):Fr n h h2:=by
 have a:=g.lo;have b:=f.le;have c:=f.lo;have d:=g.le;refine ⟨by omega,by omega,fun k hk=> ?_⟩;rw [f.at_ k (by omega) (fun hm=>by have:=hM k hm;omega),g.at_ k (by omega)]
theorem FrM.get (f:FrM M n h h1) {k:Nat} (hk:k<n) (hM: ¬M k):h1.t.get k=h.t.get k:=f.at_ k (.inl hk) hM
theorem RowAt.frM {xt:Xt} {sz:Nat} {v:AV} {cs:List (List Value)} (r:RowAt xt h sz v cs) (f:FrM M n h h1) (hn:h.n<=n) (hM: ∀k,k<h.n-> ¬M k):RowAt xt h1 sz v cs:=r.keep f.le fun b hb=>f.get (by omega) (hM b hb)
end
theorem yG (h:Hp) (o:AO): ∃h1:Hp,h1=h.new o/\h1.n=h.n+1/\h1.t.get h.n=some o/\(∀k,k<h.n->h1.t.get k=h.t.get k)/\Fr h.n h h1:=
 ⟨_,rfl,rfl,by simp [Hp.new_t,xZZ],fun k hk=>by simp only [Hp.new_t];rw [xZZ,if_neg (by omega)],(xZN (xZY _)).new _⟩
theorem bY {h0 h:Hp} {n:Nat} (f:Fr h0.n h0 h) (hn:h.n=h0.n+n) (o:AO): ∃h1:Hp,h1=h.new o/\h1.n=h0.n+(n+1)/\h1.t.get (h0.n+n)=some o/\(∀k,k<h0.n+n->h1.t.get k=h.t.get k)/\Fr h0.n h0 h1:=by
 obtain ⟨h1,e1,e2,e3,e4,e5⟩:=yG h o;rw [hn] at e2 e3 e4;exact ⟨h1,e1,by omega,e3,e4,f.trans e5 (by omega)⟩
theorem nsE (h:Hp) (z o:AO): ∃h1:Hp,h1=(h.new z).set h.n o/\h1.n=h.n+1/\h1.t.get h.n=some o/\(∀k,k<h.n->h1.t.get k=h.t.get k)/\Fr h.n h h1:=
 ⟨_,rfl,rfl,by simp [xZX,xZZ],fun k hk=>by simp only [xZX,Hp.new_t];rw [xZZ,if_neg (by omega),xZZ,if_neg (by omega)],((xZN (xZY _)).new _).set (xZY _) (Nat.lt_succ_self _) _⟩
abbrev LH (h:Hp) (rc:ALoop):Hp:=(h.new .deferred).new (.loop rc)
theorem pT (h:Hp) (rc:ALoop) {k:Nat} (hk:k<h.n):(LH h rc).t.get k=h.t.get k:=by
 simp only [LH,Hp.new_t,Hp.new_n];rw [xZZ,if_neg (by omega),xZZ,if_neg (by omega)]
theorem LH_l (h:Hp) (rc:ALoop):(LH h rc).t.get (h.n+1)=some (.loop rc):=by simp [LH,Hp.new_t,Hp.new_n,xZZ]
theorem LH_d (h:Hp) (rc:ALoop):(LH h rc).t.get h.n=some .deferred:=by simp [LH,Hp.new_t,Hp.new_n,xZZ]
theorem LH_fr (h:Hp) (rc:ALoop):Fr h.n h (LH h rc):=((xZN (xZY _)).new _).new _
theorem FrM.sub {M M':Nat->Prop} {n:Nat} {h h1:Hp} (f:FrM M n h h1) (hm: ∀k,M k->M' k):FrM M' n h h1:=⟨f.lo,f.le,fun k hk hM=>f.at_ k hk fun e=>hM (hm k e)⟩
theorem end_1d {E:Env} {fn:Func} {K:KP} {tm:T AV} {nt:Nat} {h:Hp} {t:Tmp} {d:Nat} (h1:fn.results.toList=[.tmp t]) (hd:h.t.get d=some .deferred) (h3:K (.ret ((tm.get t).getD default)) (h.del d)):xX E fn K .ret ⟨tm,nt,h,[d]⟩:=by
 have e1:(match tm.get t with|some a=>a|none=>default)=(tm.get t).getD default:=by cases tm.get t<;>rfl
 refine ⟨h.del d,[(tm.get t).getD default],?_,?_,h3⟩
 ·show (match h.t.get d with|some .deferred=>vK [] (h.del d)|_=>none)=_;rw [hd];rfl
 ·rw [h1,<-e1];rfl
def qE3 (E:Env) (yv:AV) (args:List AV) (A B S:Hp->Prop):Prop:= ∀h,A h->CallA E yv args h fun res h2=>(res= .ret (.val (.bool true))/\B h2)\/(res= .ret (.val (.bool false))/\S h2)
abbrev ALoop.busy (rc:ALoop):ALoop:={rc with state:= .busy}
abbrev ALoop.left (rc:ALoop) (c:Code):ALoop:={rc with state:= .done,pending:=some c}
def bodyK (l:Nat) (rc:ALoop) (B:Hp->Prop) (S:Ex->Hp->Prop) (x:Ex) (s:St):Prop:=
 s.mks=[]/\s.h.t.get l=some (.loop rc.busy)/\((x= .normal/\B (s.h.set l (.loop rc)))\/(∃c,yL x=some (some c)/\S x (s.h.set l (.loop (rc.left c)))))
def assignK (E:Env) (l:Nat) (rc:ALoop) (h:Hp) (cb:Code) (B:Hp->Prop) (S:Ex->Hp->Prop) (x:Ex) (s:St):Prop:=
 x= .normal/\s.mks=[]/\s.h=h/\wpc E (some l) cb ⟨s.tm,s.nt,h.set l (.loop rc.busy),[]⟩ (bodyK l rc B S)
theorem SemC.goto {E:Env} {r:Option Nat} {t:Nat} {st:St}:SemC E r (.goto t) st (.goto t) st:=⟨xZY _,fun _ _ _ c _ _ s _ _ hQ=>wpIn_goto (hQ _ _ _ ⟨c,Stp.refl s.good,rfl,s⟩)⟩
theorem uQ {E:Env} (ok:SyOk E) {l:Nat} {rc:ALoop} (c1:rc.state= .ready) (c2:rc.pending=none) {tm0:T AV} {nt:Nat} {ps:Array Tmp} {ca cb:Code} (c3:rc.tmps=tm0) (c4:rc.nt=nt) (c5:rc.params=ps) (c6:rc.assign=ca) (c7:rc.body=cb) {args:List AV} {A B:Hp->Prop} {S:Ex->Hp->Prop}
  (hA: ∀h,A h->h.t.get l=some (.loop rc)) (hb: ∀h,A h-> ∃tm1,wY nt ps.toList args tm0=some tm1/\wpc E (some l) ca ⟨tm1,nt,h,[]⟩ (assignK E l rc h cb B S)):
  qE3 E (.yld l) args A B (fun h2=> ∃x,S x h2):=by
 intro h ha;obtain ⟨tm1,hp,hw⟩:=hb h ha;refine CallA.round (hA h ha) c1 (by rw [c3,c4,c5];exact hp) ?_;rw [c4,c6,c7];refine (wpc.ok ok.tb _ _ _ hw).mono ?_;rintro x ⟨tm1,nt1,hh1,mk1⟩ ⟨q1,q2,q3,q5⟩;simp only at q2 q3 q5;subst q2;subst q3;refine ⟨q1,rfl,rc,hA _ ha,c1,(wpc.ok ok.tb _ _ _ q5).mono ?_⟩;rintro y ⟨tm2,nt2,hh2,mk2⟩ ⟨r1,r2,r3⟩;simp only at r1 r2 r3;subst r1;rcases r3 with ⟨rfl,hB⟩|⟨c,hj,hS⟩
 ·refine ⟨none,_,rfl,rfl,r2,.inl ⟨rfl,?_⟩⟩;have e:({rc.busy with state:= .ready,pending:=none}:ALoop)=rc:=by
   cases rc;simp only at c1 c2;subst c1;subst c2;rfl
  simp only [Option.isNone_none,if_true];rw [e];exact hB
 ·exact ⟨some c,_,hj,rfl,r2,.inr ⟨rfl,y,hS⟩⟩
theorem uS {E:Env} (ok:SyOk E) {f:Operand} {ps:Array Tmp} {ca cb:Code} {tm:T AV} {nt:Nat} {h:Hp} {mks:List Nat} {Q:Ex->St->Prop} {g:FuncId} {xs:List AV} {S:ALoop->Ex->Hp->Prop} {Z:ALoop->Hp->Prop}
  (hcal:callee (qH tm f) [.yld (h.n+1)]=some (g,xs))
  (hgen: ∀rc:ALoop,rc.state= .ready->rc.pending=none->rc.tmps=tm->rc.nt=nt->rc.params=ps->rc.assign=ca->rc.body=cb->FnA E g xs ((h.new .deferred).new (.loop rc)) (fun res h'=>(∃v,res= .ret v)/\(Z rc h'\/ ∃x,S rc x h')))
  (hz: ∀rc h',rc.state= .ready->rc.pending=none->Z rc h'->h'.t.get (h.n+1)=some (.loop rc)/\Q .normal ⟨tm,nt,h'.set (h.n+1) (.loop {rc with state:= .exhausted}),h.n::mks⟩)
  (hs: ∀rc x h',S rc x h'-> ∃c,yL x=some (some c)/\h'.t.get (h.n+1)=some (.loop (rc.left c))/\Q x ⟨tm,nt,h'.set (h.n+1) (.loop {rc.left c with state:= .exhausted}),h.n::mks⟩):
  wpc E none (.rangeFunc f ps ca cb) ⟨tm,nt,h,mks⟩ Q:=by
 refine wpc_range ok hcal fun rc c1 c2 c3 c4 c5 c6 c7=>(hgen rc c1 c2 c3 c4 c5 c6 c7).mono ?_;rintro res h' ⟨⟨v,rfl⟩,hzs⟩;rcases hzs with hZ|⟨x,hS⟩
 ·obtain ⟨p1,p2⟩:=hz rc h' c1 c2 hZ;exact ⟨rc,p1,by rw [c1];simp,fun _=>p2,fun c hc=>by rw [c2] at hc;cases hc⟩
 ·obtain ⟨c,hj,p1,p2⟩:=hs rc x h' hS;refine ⟨rc.left c,p1,by simp,fun hc=>by simp at hc,fun c' hc=> ?_⟩;simp only [Option.some.injEq] at hc;subst hc;cases x with
  |normal=>simp [yL] at hj
  |panic v=>simp [yL] at hj
  |ret=>simp only [yL,Option.some.injEq] at hj;subst hj;exact ⟨_,_,SemC.ret,p2⟩
  |exit id=>simp only [yL,Option.some.injEq] at hj;subst hj;exact ⟨_,_,SemC.exit,p2⟩
  |goto id=>simp only [yL,Option.some.injEq] at hj;subst hj;exact ⟨_,_,SemC.goto,p2⟩
end Go.Ev
end
namespace Go.Proofs.Kn
open Go Go.Ev
set_option maxRecDepth 100000
set_option maxHeartbeats 4000000
theorem ft166 (xt:Xt):(SE xt).ft.get 124=some Tryz.f124:=by kernel_rfl
theorem res166:Tryz.f124.results.toList=[]:=by kernel_rfl
theorem qFW (xt:Xt) (h:Hp) (w:Wk) (ha:w.At xt h) (l bw bb r0 c0 q n:Nat) (th wo:Int) (hx:w.ts[q]? =some ((n:Int),th,wo)) (hr:r0<=100) (hc:c0<=100) (hn:n<=3)
  (q1:h.t.get bw=some (.cells w.cs 30)) (I:Nat->Nat->Hp->Prop) (S:Hp->Prop) (h0:I 0 0 h) (hb: ∀i j h',I i j h'->h'.t.get bb=some (.cells [iv r0,iv c0,iv q] 63))
  (hrow: ∀i h',i<n->I i n h'->I (i+1) 0 h') (hY: ∀i j,i<n->j<n->qE3 (SE xt) (.yld l) [iv ((r0+i:Nat):Int),iv ((c0+j:Nat):Int)] (I i j) (I i (j+1)) S):
  FnA (SE xt) 124 [.yld l,.ptr bw 0,.ptr bb 0] h (fun res h'=>(∃v,res= .ret v)/\(I n 0 h'\/S h')):=by
 refine xZR (sok xt) (ft166 xt) rfl 35 rfl ?_;have hq:q<w.ts.length:=(xZU.1 hx).1;have i1:=ha.ts.idx qAg rfl yF rfl (i:=q) (by simpa using hq) (k:= .i64);have hne:w.ts.map Kn.t3≠[]:=by intro e;have:=congrArg List.length e;simp at this;rw [this] at hq;simp at hq
 have i2:=ha.ts.fa hne yF rfl (f:=0) (o:=0) (s:=0) (ft:=3) rfl (q*3);have i3:qO tb xt h 3 (elp w.vt (q*3+0))=some (iv n):=ha.ts.load tg3 rfl (i:=q) (j:=0) (c:=Kn.t3 ((n:Int),th,wo)) (by rw [xZO,hx];rfl) rfl;simp only [Nat.add_zero] at i2 i3;have hb0:=hb _ _ _ h0;refine qA fun K hn hp=> ?_;simp only [sw.1,rE,reduceIte,rL,rA,i1,i2,i3,q1,hb0];apply hn;refine qA fun K hn hp=> ?_;simp only [sy.1,rE,reduceIte,rL];apply hn;refine qY fun KA A1 A2 A3 A4 A5=> ?_;refine qI (sok xt) (fun st=> ∃(i:Nat) (hc:Hp) (tm:T AV),st=⟨tm,35,hc,[]⟩/\i<=n/\tm.get 0=some (.yld l)/\tm.get 2=some (.ptr bb 0)/\tm.get 4=some (iv n)/\tm.get 14=some (iv n)/\tm.get 15=some (iv i)/\I i 0 hc) (fun st=>n - (match st.tm.get 15 with|some (.val (.int _ n))=>n.toNat|_=>0)) ?_ ?_
 ·rintro st ⟨i,hc,tm,rfl,hkA,g0,g2,g4,g14,g15,hi0⟩;have muA:=g15;refine qA fun K hn hp=> ?_;simp only [sy.1,rL,qR,g14,g15];apply hn;by_cases hi:i<n
  ·refine qV (by simp only [sy.1,reduceIte,hi]) ?_;refine qC fun KB B1 B2 B3 B4 B5=> ?_;refine qA fun K hn hp=> ?_;simp only [sy.1,rE,reduceIte,rL,g15];apply hn;refine qA fun K hn hp=> ?_;simp only [sy.1,rE,reduceIte,rL,g4];apply hn;refine qY fun KD D1 D2 D3 D4 D5=> ?_;refine qI (sok xt) (fun st=> ∃(j:Nat) (hd:Hp) (tm:T AV),st=⟨tm,35,hd,[]⟩/\j<=n/\tm.get 0=some (.yld l)/\tm.get 2=some (.ptr bb 0)/\tm.get 4=some (iv n)/\tm.get 5=some (iv i)/\tm.get 14=some (iv n)/\tm.get 15=some (iv i)/\tm.get 18=some (iv n)/\tm.get 19=some (iv j)/\I i j hd) (fun st=>n - (match st.tm.get 19 with|some (.val (.int _ n))=>n.toNat|_=>0)) ?_ ?_
   ·rintro st ⟨j,hd,tm,rfl,hkD,g0,g2,g4,g5,g14,g15,g18,g19,hj0⟩;have muD:=g19;refine qA fun K hn hp=> ?_;simp only [sy.1,rL,qR,g18,g19];apply hn;by_cases hj:j<n
    ·refine qV (by simp only [sy.1,reduceIte,hj]) ?_;refine qC fun KE E1 E2 E3 E4 E5=> ?_;refine qA fun K hn hp=> ?_;simp only [sy.1,rE,reduceIte,rL,g19];apply hn;have hb1:=hb _ _ _ hj0;have w5:IntKind.i64.wrap ((r0:Int)+(i:Int))=((r0+i:Nat):Int):=by rw [qF _ (by omega) (by omega)];simp
     have w6:IntKind.i64.wrap ((c0:Int)+(j:Int))=((c0+j:Nat):Int):=by rw [qF _ (by omega) (by omega)];simp
     refine qA fun K hn hp=> ?_;simp only [sy.1,rE,reduceIte,rL,g0,g2,g5,hb1,w5,w6];refine (hY i j hi hj hd hj0).mono ?_;rintro res h2 (⟨rfl,hI⟩|⟨rfl,hS⟩)
     ·simp only [sy.1,rE,reduceIte,rL];apply hn;refine wcF (by simp only [sy.1,rE,reduceIte]) ?_;refine qN (E1 _ ?_);refine reg fun K hn hp=> ?_;simp only [sy.1,rE,reduceIte,rL,g19,qE hj (show n<=9223372036854775807 by omega)];apply hn;refine ⟨⟨j+1,h2,_,rfl,by omega,(by simp [xZZ,g0]),(by simp [xZZ,g2]),(by simp [xZZ,g4]),(by simp [xZZ,g5]),(by simp [xZZ,g14]),(by simp [xZZ,g15]),(by simp [xZZ,g18]),(by simp [xZZ]),hI⟩,by simpa [xZZ,muD] using (by omega:n - (j+1)<n - j)⟩
     ·simp only [sy.1,rE,reduceIte,rL];apply hn;refine wcT (by simp only [sy.1,rE,reduceIte]) ?_;refine qD (E4 _ (D4 _ (B4 _ (A4 _ ⟨_,[],rfl,by rw [res166];rfl,⟨_,rfl⟩,.inr hS⟩))))
    ·refine qU (by simp only [sy.1,reduceIte,hj]) ?_;refine qG (D2 _ ?_);refine B1 _ ?_;have e:j=n:=by omega
     refine reg fun K hn hp=> ?_;simp only [sy.1,rE,reduceIte,rL,g15,qE hi (show n<=9223372036854775807 by omega)];apply hn;refine ⟨⟨i+1,hd,_,rfl,by omega,(by simp [xZZ,g0]),(by simp [xZZ,g2]),(by simp [xZZ,g4]),(by simp [xZZ,g14]),(by simp [xZZ]),hrow i hd hi (e▸hj0)⟩,by simpa [xZZ,muA] using (by omega:n - (i+1)<n - i)⟩
   ·exact ⟨0,hc,_,rfl,(by omega),(by simp [xZZ,g0]),(by simp [xZZ,g2]),(by simp [xZZ,g4]),(by simp [xZZ]),(by simp [xZZ,g14]),(by simp [xZZ,g15]),(by simp [xZZ]),(by simp [xZZ]),hi0⟩
  ·refine qU (by simp only [sy.1,reduceIte,hi]) ?_;refine qG (A2 _ ?_);have e:i=n:=by omega
   exact ⟨_,[],rfl,by rw [res166];rfl,⟨_,rfl⟩,.inl (e▸hi0)⟩
 ·exact ⟨0,h,_,rfl,(by omega),(by simp [xZZ]),(by simp [xZZ]),(by simp [xZZ]),(by simp [xZZ]),(by simp [xZZ]),h0⟩
theorem ft100 (xt:Xt):(SE xt).ft.get 72=some Tryz.f72:=by kernel_rfl
theorem res100:Tryz.f72.results.toList=[.tmp 4]:=by kernel_rfl
theorem cells_c (xt:Xt) (h:Hp) (w:Wk) (ha:w.At xt h) (x:Int×Int×Int) {K:KP}
  (hk:K (.ret (.fn (.func 124) [] [.ptr h.n 0,.ptr (h.n+1) 0])) ((h.new (.cells w.cs 30)).new (.cells [iv x.1,iv x.2.1,iv x.2.2] 63))):FnA (SE xt) 72 [w.av,qBx x] h K:=by
 refine xZR (sok xt) (ft100 xt) rfl 6 rfl ?_;obtain ⟨o1,o2,o3,o4,o5⟩:=ha.ones;refine qA fun K hn hp=> ?_;simp only [sw.1,rE,reduceIte,rL];apply hn;refine qA fun K hn hp=> ?_;simp only [sy.1,rE,reduceIte,rL];apply hn;refine qD (qK res100 ?_);simpa [xZZ] using hk
theorem ft159 (xt:Xt):(SE xt).ft.get 117=some Tryz.f117:=by kernel_rfl
theorem res159:Tryz.f117.results.toList=[.tmp 4]:=by kernel_rfl
def qAe (r0 c0 n:Nat) (k:Int×Int×Bool):Bool:=hasB r0 c0 n k.1 k.2.1 && hasB r0 c0 n (bZ k) (b8 k)
theorem crkIn_c (xt:Xt) (h:Hp) (w:Wk) (ha:w.At xt h) (bw bb r0 c0 q n:Nat) (th wo:Int) (hx:w.ts[q]? =some ((n:Int),th,wo)) (hr:r0<=100) (hc:c0<=100) (hn:n<=100) (hbw:bw<h.n) (hbb:bb<h.n)
  (q1:h.t.get bw=some (.cells w.cs 30)) (q2:h.t.get bb=some (.cells [iv r0,iv c0,iv q] 63)) (k:Int×Int×Bool) {K:KP} (hk: ∀m,h.n<m->K (.ret (.val (.bool (qAe r0 c0 n k)))) (h.up m)):
  FnA (SE xt) 117 [.agg [iv k.1,iv k.2.1,.val (.bool k.2.2)],.ptr bw 0,.ptr bb 0] h K:=by
 refine FnA.calm ?_ hk;clear hk K;refine xZR (sok xt) (ft159 xt) rfl 26 rfl ?_;refine qA fun K hn hp=> ?_;simp only [sw.1,rE,reduceIte,rL,rA];apply hn;obtain ⟨h1,hh1,n1,s1,k1,f1⟩:=yG h (.cells [iv k.1,iv k.2.1,.val (.bool k.2.2)] 120);rw [<-hh1];have ha1:=ha.fr f1 (xZY _);have q1:=(k1 _ hbw).trans q1;have q2:=(k1 _ hbb).trans q2;refine qA fun K hn hp=> ?_;simp only [sy.1,rE,reduceIte,rL,rA,s1];refine cAS (bey_c xt _ k fun m0 hm0=> ?_);simp only [sy.1,rE,reduceIte,rL,sv.1];apply hn;refine qA fun K hn hp=> ?_;simp only [sy.1,rE,reduceIte,rL,rA,s1,q1,q2];refine cAS (has_c xt _ w (ha1.up (by omega)) r0 c0 q n th wo hx hr hc (by omega) _ _ fun m1 hm1=> ?_);simp only [xZT] at hm1;cases e1:hasB r0 c0 n k.1 k.2.1
 ·simp only [sy.1,rE,reduceIte,rL,xZV];refine hn _ _ (qD (qK res159 ⟨?_,f1.up (by omega)⟩));simp [xZZ,qAe,e1]
 simp only [sy.1,rE,reduceIte,rL,rA,q1,q2,xZV];refine cAS (has_c xt _ w (ha1.up (by omega)) r0 c0 q n th wo hx hr hc (by omega) _ _ fun m2 hm2=> ?_);simp only [xZT] at hm2;simp only [sy.1,rE,reduceIte,rL,xZV];refine hn _ _ (qD (qK res159 ⟨?_,f1.up (by omega)⟩));simp [xZZ,qAe,e1]
theorem crk_asks (xt:Xt) (h:Hp) (w:Wk) (ha:w.At xt h) (bw bb r0 c0 q n:Nat) (th wo:Int) (hx:w.ts[q]? =some ((n:Int),th,wo)) (hr:r0<=100) (hc:c0<=100) (hn:n<=100) (hbw:bw<h.n) (hbb:bb<h.n)
  (q1:h.t.get bw=some (.cells w.cs 30)) (q2:h.t.get bb=some (.cells [iv r0,iv c0,iv q] 63)):kR (SE xt) h (.fn (.func 117) [] [.ptr bw 0,.ptr bb 0]) (fun c=> .agg (c.map .val)) (w.m.ks.map k3) (fun c=>match c with|[.int _ x,.int _ y,.bool z]=>qAe r0 c0 n (x,y,z)|_=>false):=by
 intro m c K hm hc' hk;obtain ⟨g,_,rfl⟩:=List.mem_map.1 hc';exact xI (sok xt) (crkIn_c xt (h.up m) w (ha.up hm) bw bb r0 c0 q n th wo hx hr hc hn (xZP hbw hm) (xZP hbb hm) q1 q2 g fun n' hn'=>by have:=hk n' hn';rw [xZV];exact this)
theorem any_crk (w:Wk) (r0 c0 n:Nat):((w.m.ks.map k3).any fun c=>match c with|[.int _ x,.int _ y,.bool z]=>qAe r0 c0 n (x,y,z)|_=>false)=w.m.ks.any (qAe r0 c0 n):=by
 rw [List.any_map];rfl
def solTo (m:Mp) (r0 c0 n i j:Nat):Prop:=(∀i' j',i'<i->j'<n->m.is (r0+i':Nat) (c0+j':Nat) 2=true)/\ ∀j',j'<j->m.is (r0+i:Nat) (c0+j':Nat) 2=true
def Mp.pcan (m:Mp) (R C:Nat) (n:Nat) (a b:Int):Bool:=inB a 0 ((R:Int) - n) && (inB b 0 ((C:Int) - n) && (((List.range n).all fun i=>(List.range n).all fun j=>m.is (a.toNat+i:Nat) (b.toNat+j:Nat) 2) && !m.ks.any (qAe a.toNat b.toNat n)))
theorem ft86 (xt:Xt):(SE xt).ft.get 66=some Tryz.f66:=by kernel_rfl
theorem res86:Tryz.f66.results.toList=[.cell 4 4]:=by kernel_rfl
theorem can_c (xt:Xt) (h:Hp) (w:Wk) (ha:w.At xt h) (R C:Nat) (hm:w.m.Is R C) (hrc:w.m.Rect) (a b:Int) (q n:Nat) (th wo:Int) (hx:w.ts[q]? =some ((n:Int),th,wo)) (hn3:n<=3)
  {K:KP} (hk: ∀m,h.n<m->K (.ret (.val (.bool (w.m.pcan R C n a b)))) (h.up m)):FnA (SE xt) 66 [w.av,qBx (a,b,(q:Int))] h K:=by
 refine FnA.calm ?_ hk;clear hk K;refine xZR (sok xt) (ft86 xt) rfl 55 rfl ?_;have hR6:=hm.r6;have hC8:=hm.c8;have hRR:=hm.hR;obtain ⟨o1,o2,o3,o4,o5⟩:=ha.ones;have hq:q<w.ts.length:=(xZU.1 hx).1;have i1:=ha.ts.idx qAg rfl yF rfl (i:=q) (by simpa using hq) (k:= .i64);refine qA fun K hn hp=> ?_;simp only [sw.1,rE,reduceIte,rL];apply hn;obtain ⟨h1,hh1,nh1,sh1,kh1,fbh1⟩:=nwE h (.cells w.cs 30);rw [<-hh1];have fh1:=fbh1;obtain ⟨h2,hh2,nh2,sh2,kh2,fbh2⟩:=nwE h1 (.cells [iv a,iv b,iv q] 63);rw [<-hh2];have fh2:Fr h.n h h2:=fh1.trans fbh2 (by omega);simp only [nh1,xZS,rA] at nh2 sh2 kh2;obtain ⟨h3,hh3,nh3,sh3,kh3,fbh3⟩:=nwE h2 (.cells [.val (.bool false)] 4);rw [<-hh3];have fh3:Fr h.n h h3:=fh2.trans fbh3 (by omega);simp only [nh2,xZS,rA] at nh3 sh3 kh3;have s1:=(kh3 h.n (by omega)).trans ((kh2 h.n (by omega)).trans sh1);have s2:=(kh3 (h.n+1) (by omega)).trans sh2;refine qA fun K hn hp=> ?_;simp only [sw.1,rE,reduceIte,rL,rA,rD,al27,o1,o2,o3,o4,nh3,s1];apply hn;obtain ⟨h4,hh4,nh4,sh4,kh4,fbh4⟩:=nwS h3 (.cells [.val (.slice none 0 0),iv 0,iv 0,.val (.slice none 0 0),.val (.slice none 0 0),.val (.slice none 0 0)] 27) (.cells w.m.cs 27);have fh4:Fr h.n h h4:=fh3.trans fbh4 (by omega);simp only [nh3,xZS,rA] at nh4 sh4 kh4 hh4;rw [<-hh4];have ha4:=ha.fr fh4 (xZY _);have u1:=(kh4 h.n (by omega)).trans s1;have u2:=(kh4 (h.n+1) (by omega)).trans s2;have u3:=(kh4 (h.n+2) (by omega)).trans sh3;have hne:w.ts.map Kn.t3≠[]:=by intro e;have:=congrArg List.length e;simp at this;rw [this] at hq;simp at hq
 have i2:=ha4.ts.fa hne yF rfl (f:=0) (o:=0) (s:=0) (ft:=3) rfl (q*3);have i3:qO tb xt h4 3 (elp w.vt (q*3+0))=some (iv n):=ha4.ts.load tg3 rfl (i:=q) (j:=0) (c:=Kn.t3 ((n:Int),th,wo)) (by rw [xZO,hx];rfl) rfl;simp only [Nat.add_zero] at i2 i3;have w1:IntKind.i64.wrap ((R:Int) - (n:Int))=(R:Int) - n:=qF _ (by omega) (by omega);have w2:IntKind.i64.wrap ((C:Int) - (n:Int))=(C:Int) - n:=qF _ (by omega) (by omega);refine qA fun K hn hp=> ?_;simp only [sy.1,rE,reduceIte,rL,i1,u1,u2,i2,i3];apply hn;refine jP ?_;have hlen4:=ha4.m.len;have g0:=ha4.m.cells.at_ tg22 rfl gC rfl rfl (i:=0) (l:=(w.m.cells.headD []).map Kn.c1) (by
  have:=hm.r0;cases hcs:w.m.cells with
  |nil=>rw [hcs] at hRR;simp at hRR;omega
  |cons l ls=>rfl)
 obtain ⟨v0,g1,g2,g3⟩:=g0;have g1:qM tb 22 w.m.vc (.val (.int .i64 0))=some (elp w.m.vc 0):=g1 .i64;have l0: ∀h',zI tb h' 114 v0=some C:=fun h'=>by
  have:=g3.len (h':=h') gC rfl;have hc:=hm.hC 0 hm.r0;have e:w.m.cells.headD []=w.m.cells.getD 0 []:=by cases w.m.cells<;>rfl
  rw [List.length_map,e,hc] at this;exact this
 refine qW (sok xt) 0 0 22 [] (by kernel_rfl) fun K hn hp=> ?_;simp only [sy.1,rE,reduceIte,rL,rA,syw.1,sh4,u2,hlen4,hRR,w1];refine cAS (pZ xt _ _ _ _ fun n1 hn1=> ?_);cases e1:(decide (0<=a) && decide (a<=(R:Int) - n))
 ·simp only [sy.1,rE,reduceIte,rL,rA,syw.1,hn1];apply hn;refine qX (by simp only [sy.1,rE,reduceIte]) ?_;refine qB fun K hn hp=> ?_;simp only [sw.1,rE,reduceIte,nh4,u3];apply hn;refine qS (end_c (v:= .val (.bool false)) res86 ?_ ⟨?_,?_⟩)
  ·simp only [sy.1,rE,reduceIte,u3]
  ·have e1':inB a 0 ((R:Int) - n)=false:=e1;simp [Mp.pcan,e1']
  ·exact (fh4.up (by simp at hn1;omega)).set (by omega) (by simp at hn1 ⊢;omega) _
 simp only [sy.1,rE,reduceIte,rL,rA,syw.1,sh4,u2,hn1,g1,g2,l0,w2];refine cAS (pZ xt _ _ _ _ fun n2 hn2=> ?_);simp only [xZT] at hn1 hn2;cases e2:(decide (0<=b) && decide (b<=(C:Int) - n))
 ·simp only [sy.1,rE,reduceIte,rL,rA,syw.1,hn2,xZV];apply hn;refine qX (by simp only [sy.1,rE,reduceIte]) ?_;refine qB fun K hn hp=> ?_;simp only [sw.1,rE,reduceIte,nh4,u3];apply hn;refine qS (end_c (v:= .val (.bool false)) res86 ?_ ⟨?_,?_⟩)
  ·simp only [sy.1,rE,reduceIte,u3]
  ·have e1':inB a 0 ((R:Int) - n)=true:=e1;have e2':inB b 0 ((C:Int) - n)=false:=e2;simp [Mp.pcan,e1',e2']
  ·exact (fh4.up (by omega)).set (by omega) (by simp;omega) _
 simp only [sy.1,rE,reduceIte,rL,rA,syw.1,hn2,xZV];apply hn;refine jL (by simp only [sy.1,rE,reduceIte]) ?_;obtain ⟨za,zb⟩:=xZQ.1 e1;have za:=of_decide_eq_true za;have zb:=of_decide_eq_true zb;obtain ⟨zc,zd⟩:=xZQ.1 e2;have zc:=of_decide_eq_true zc;have zd:=of_decide_eq_true zd;obtain ⟨r0,rfl⟩: ∃r0:Nat,a=r0:=⟨a.toNat,by omega⟩;obtain ⟨c0,rfl⟩: ∃c0:Nat,b=c0:=⟨b.toNat,by omega⟩;have e1':inB (r0:Int) 0 ((R:Int) - n)=true:=e1;have e2':inB (c0:Int) 0 ((C:Int) - n)=true:=e2;refine qB fun K hn hp=> ?_;simp only [sy.1,rE,reduceIte,rL,rA,nh4,u1,u2];refine cAS (cells_c xt (h4.up n2) w (ha4.up (n:=n2) (by omega)) ((r0:Int),(c0:Int),(q:Int)) ?_);obtain ⟨h5,hh5,n5,s5,k5,f5⟩:=yG (h4.up n2) (.cells w.cs 30);obtain ⟨h6,hh6,n6,s6,k6,f6⟩:=bY f5 n5 (.cells [iv r0,iv c0,iv q] 63);simp only [xZT,Hp.up_t,rA] at n5 s5 k5 f5 n6 s6 k6 f6;simp only [sy.1,rL,<-hh5,<-hh6];apply hn;clear hh5 hh6;have f6h:Fr h.n h h6:=(fh4.up (m:=n2) (by omega)).trans f6 (by omega);have low6: ∀k,k<n2->h6.t.get k=h4.t.get k:=fun k hk=>by rw [k6 k (by omega),k5 k hk]
 have v1:=(low6 h.n (by omega)).trans u1;have v2:=(low6 (h.n+1) (by omega)).trans u2;have v3:=(low6 (h.n+2) (by omega)).trans u3;have v4:=(low6 (h.n+3) (by omega)).trans sh4;have v5:=(k6 n2 (by omega)).trans s5;refine qC fun KB B1 B2 B3 B4 B5=> ?_
 let HL:ALoop->Hp:=LH h6
 let I:ALoop->Nat->Nat->Hp->Prop:=fun rc i j h'=>FrM (fun k=>k=h6.n+1) (h6.n+2) (HL rc) h'/\h'.t.get (h6.n+1)=some (.loop rc)/\solTo w.m r0 c0 n i j
 let S:ALoop->Ex->Hp->Prop:=fun rc x h'=>x= .ret/\FrM (fun k=>k=h6.n+1\/k=h.n+2) (h6.n+2) (HL rc) h'/\h'.t.get (h6.n+1)=some (.loop (rc.left .ret))/\h'.t.get (h.n+2)=some (.cells [.val (.bool false)] 4)/\w.m.pcan R C n r0 c0=false
 have hHL: ∀rc k,k<h6.n->(HL rc).t.get k=h6.t.get k:=fun rc k hk=>pT h6 rc hk;have fHL: ∀rc,Fr h.n h (HL rc):=fun rc=>f6h.trans (LH_fr h6 rc) (by omega);have nHL: ∀rc,(HL rc).n=h6.n+2:=fun rc=>rfl;refine uS (sok xt) (g:=124) (xs:=[.yld (h6.n+1),.ptr n2 0,.ptr (n2+1) 0]) (S:=S) (Z:=fun rc h'=>I rc n 0 h') (by simp only [sy.1,rE,reduceIte];rfl) (fun rc c1 c2 c3 c4 c5 c6 c7=> ?_) ?_ ?_
 ·refine qFW xt _ w (ha.fr (fHL rc) (xZY _)) (h6.n+1) n2 (n2+1) r0 c0 q n th wo hx (by omega) (by omega) hn3 (by rw [<-v5];exact hHL rc _ (by omega)) (I rc) _ ⟨FrM.refl (xZY _),LH_l h6 rc,fun i' j' h1=>absurd h1 (by omega),fun j' h1=>absurd h1 (by omega)⟩ ?_ ?_ ?_
  ·rintro i j h' ⟨z1,_⟩;rw [z1.get (by omega) (by omega)];exact (hHL rc _ (by omega)).trans s6
  ·rintro i h' hi ⟨z1,z2,z3,z4⟩;refine ⟨z1,z2,fun i' j' h1 h2=> ?_,fun j' h1=>absurd h1 (by omega)⟩;by_cases e:i'=i
   ·subst e;exact z4 j' h2
   ·exact z3 i' j' (by omega) h2
  ·intro i j hi hj;refine uQ (sok xt) c1 c2 c3 c4 c5 c6 c7 (fun h' hA=>hA.2.1) (fun h' hA=>⟨_,rfl,?_⟩);obtain ⟨z1,z2,z3,z4⟩:=hA;refine qA fun K hn hp=> ?_;simp only [sy.1,rE,reduceIte,rL];apply hn;refine reg fun K hn hp=> ?_;simp only [sy.1,rE,reduceIte,rL];apply hn;refine ⟨rfl,rfl,rfl,?_⟩;obtain ⟨h7,hh7⟩: ∃h7:Hp,h7=h'.set (h6.n+1) (.loop rc.busy):=⟨_,rfl⟩;rw [<-hh7];have z5:FrM (fun k=>k=h6.n+1) (h6.n+2) (HL rc) h7:=by rw [hh7];exact z1.set (.inr rfl) _
   have z6:h7.t.get (h6.n+1)=some (.loop rc.busy):=by rw [hh7,xZX,xZZ,if_pos rfl]
   have z7: ∀k,k<h6.n->h7.t.get k=h6.t.get k:=fun k hk=>(z5.get (by omega) (by omega)).trans (hHL rc k hk);have x3:=(z7 (h.n+2) (by omega)).trans v3;have x4:=(z7 (h.n+3) (by omega)).trans v4;have f7:Fr h.n h h7:=z5.toFr (fHL rc) (by omega) (fun k hk=>by subst hk;exact ⟨by omega,by rw [nHL];omega⟩);have ha7:=ha.fr f7 (xZY _);have nn:=nHL rc;refine qY fun K' k1' k2' k3' k4' k5'=> ?_;refine qA fun K hn hp=> ?_;simp only [sy.1,rE,reduceIte,rL,rA,x4];refine cAS (is_c xt _ w.m ha7.m hrc _ _ _ fun n3 hn3=> ?_);cases e3:w.m.is (r0+i:Nat) (c0+j:Nat) 2
   ·simp only [sy.1,rE,reduceIte,rL];apply hn;refine wcT (by simp only [sy.1,rE,reduceIte]) ?_;refine qA fun K hn hp=> ?_;simp only [sw.1,rE,reduceIte,x3];apply hn;refine qD (k4' _ ⟨rfl,?_,.inr ⟨.ret,rfl,rfl,?_,?_,?_,?_⟩⟩)
    ·simp only [xZX,Hp.up_t];rw [xZZ,if_neg (by omega)];exact z6
    ·refine (((z5.sub fun k hk=> .inl hk).up (xZW hn3)).set (.inr (.inr rfl)) _).set (.inr (.inl rfl)) _
    ·simp [xZX,xZZ]
    ·simp only [xZX];rw [xZZ,if_neg (by omega),xZZ,if_pos rfl]
    ·simp only [Mp.pcan,e1',e2',Bool.true_and,xZM];have:((List.range n).all fun i=>(List.range n).all fun j=>w.m.is (r0+i:Nat) (c0+j:Nat) 2)=false:=xA (p:=fun i=>(List.range n).all fun j=>w.m.is (r0+i:Nat) (c0+j:Nat) 2) (k:=i) hi (xA (p:=fun j=>w.m.is (r0+i:Nat) (c0+j:Nat) 2) (k:=j) hj e3);rw [this];rfl
   ·simp only [sy.1,rE,reduceIte,rL];apply hn;refine wcF (by simp only [sy.1,rE,reduceIte]) ?_;refine qN (k1' _ ⟨rfl,?_,.inl ⟨rfl,?_,?_,z3,fun j' h1=> ?_⟩⟩)
    ·simp only [Hp.up_t];exact z6
    ·exact (z5.up (xZW hn3)).set (.inr rfl) _
    ·simp [xZX,xZZ]
    ·by_cases e:j'=j
     ·rw [e];exact e3
     ·exact z4 j' (by omega)
 ·rintro rc h' c1 c2 ⟨z1,z2,z3,_⟩;refine ⟨z2,B1 _ ?_⟩;obtain ⟨h8,hh8⟩: ∃h8:Hp,h8=h'.set (h6.n+1) (.loop {rc with state:= .exhausted}):=⟨_,rfl⟩;rw [<-hh8];have z5:FrM (fun k=>k=h6.n+1) (h6.n+2) (HL rc) h8:=by rw [hh8];exact z1.set (.inr rfl) _
  have nn:=nHL rc;have l8:=z5.le;have z7: ∀k,k<h6.n->h8.t.get k=h6.t.get k:=fun k hk=>(z5.get (by omega) (by omega)).trans (hHL rc k hk);have x1:=(z7 h.n (by omega)).trans v1;have x2:=(z7 (h.n+1) (by omega)).trans v2;have x3:=(z7 (h.n+2) (by omega)).trans v3;have x4:=(z7 (h.n+3) (by omega)).trans v4;have x6:h8.t.get h6.n=some .deferred:=(z5.get (by omega) (by omega)).trans (LH_d h6 rc);have f8:Fr h.n h h8:=z5.toFr (fHL rc) (by omega) (fun k hk=>by subst hk;exact ⟨by omega,by omega⟩);have ha8:=ha.fr f8 (xZY _);refine qA fun K hn hp=> ?_;simp only [sy.1,rE,reduceIte,rL,x4];refine cAS (qF6 xt _ _ _ _ _ ha8.m.ks (by simpa using ha.m.lk) (crk_asks xt h8 w ha8 h.n (h.n+1) r0 c0 q n th wo hx (by omega) (by omega) (by omega) (by omega) (by omega) x1 x2) fun n3 hn3=> ?_);rw [any_crk];simp only [sw.1,rE,reduceIte,rL,x3];refine hn _ _ (qD (end_cd res86 (d:=h6.n) (v:= .val (.bool !w.m.ks.any (qAe r0 c0 n))) ?_ ?_ ⟨?_,?_⟩))
  ·simp only [xZX,Hp.up_t];rw [xZZ,if_neg (by omega)];exact x6
  ·simp only [sy.1,rE,reduceIte,Hp.del_t];rw [if_neg (by omega)];rfl
  ·have:((List.range n).all fun i=>(List.range n).all fun j=>w.m.is (r0+i:Nat) (c0+j:Nat) 2)=true:=uA fun i h1=>uA fun j h2=>z3 i j h1 h2;simp only [Mp.pcan,e1',e2',Bool.true_and,xZM,this]
  ·exact ((f8.up (xZW hn3)).set (by omega) (by simp only [xZT];omega) _).del (by omega) (by simp only [xZT,xZL];omega)
 ·rintro rc x h' ⟨rfl,z1,z2,z3,z4⟩;refine ⟨.ret,rfl,z2,B4 _ ?_⟩;have nn:=nHL rc;have l8:=z1.le;have x6:h'.t.get h6.n=some .deferred:=(z1.get (by omega) (by omega)).trans (LH_d h6 rc);have f8:Fr h.n h h':=z1.toFr (fHL rc) (by omega) (fun k hk=>by omega);refine end_cd res86 (d:=h6.n) (v:= .val (.bool false)) ?_ ?_ ⟨by rw [z4],?_⟩
  ·simp only [xZX];rw [xZZ,if_neg (by omega)];exact x6
  ·simp only [sy.1,rE,reduceIte,Hp.del_t];rw [if_neg (by omega),if_neg (by omega),z3];rfl
  ·exact (f8.set (by omega) (by omega) _).del (by omega) (by simp only [xZL];omega)
theorem ft80 (xt:Xt):(SE xt).ft.get 67=some Tryz.f67:=by kernel_rfl
theorem res80:Tryz.f67.results.toList=[.tmp 4]:=by kernel_rfl
abbrev gLo (F:Nat->Nat->Int×Int):Nat->Nat->Int:=fun r c=>(F r c).1
theorem least_c (xt:Xt) (h:Hp) (w:Wk) (ha:w.At xt h) (v:AV) (F:Nat->Nat->Int×Int) (N M R C:Nat) (sg:SG h N M v R C F) (hM:M<=h.n) (r0 c0 q n:Nat) (th wo:Int) (hx:w.ts[q]? =some ((n:Int),th,wo)) (hR:R<=100) (hC:C<=100) (hrn:r0+n<=R) (hcn:c0+n<=C) (hn3:n<=3) (hn0:0<n) (hk1:0<=w.kerf) (hk2:w.kerf<=5) (ht1:1<=th) (ht2:th<=60) (hpos: ∀i,i<n-> ∀j,j<n->0<=gLo F (r0+i) (c0+j))
  {K:KP} (hk: ∀m,h.n<m->K (.ret (iv ((zC (gLo F) r0 c0 n n+w.kerf).tdiv (th+w.kerf)))) (h.up m)):FnA (SE xt) 67 [.agg (w.bc v),qBx ((r0:Int),(c0:Int),(q:Int))] h K:=by
 refine FnA.calm ?_ hk;clear hk K;refine xZR (sok xt) (ft80 xt) rfl 29 rfl ?_;obtain ⟨o1,o2,o3,o4,o5⟩:=ha.ones;have onev:=sg.one;refine qA fun K hn hp=> ?_;simp only [sw.1,rE,reduceIte,rL];apply hn;obtain ⟨h1,hh1,n1,s1,k1,f1⟩:=yG h (.cells (w.bc v) 85);obtain ⟨h2,hh2,n2,s2,k2,f2⟩:=bY f1 n1 (.cells [iv r0,iv c0,iv q] 63);rw [<-hh1,<-hh2];simp only [rA] at n2;refine qA fun K hn hp=> ?_;simp only [sw.1,rE,reduceIte,rL,n2];apply hn;obtain ⟨h3,hh3⟩: ∃h3:Hp,h3=(h2.new (.cells [iv 0] 3)).set (h.n+2) (.cells [iv 60] 3):=⟨_,rfl⟩;rw [<-hh3];have n3:h3.n=h.n+3:=by rw [hh3];rw [xZL,Hp.new_n,n2]
 have s3:h3.t.get (h.n+2)=some (.cells [iv 60] 3):=by rw [hh3,xZX,xZZ,if_pos rfl]
 have k3: ∀k,k<h.n+2->h3.t.get k=h2.t.get k:=fun k hk=>by rw [hh3];simp only [xZX,Hp.new_t];rw [xZZ,if_neg (by omega),xZZ,if_neg (by omega)]
 have f3:Fr h.n h h3:=by rw [hh3];exact (f2.new _).set (by omega) (by rw [Hp.new_n];omega) _
 have u1:=(k3 h.n (by omega)).trans ((k2 h.n (by omega)).trans s1);have u2:=(k3 (h.n+1) (by omega)).trans s2;clear hh1 hh2 hh3;refine qB fun K hn hp=> ?_;simp only [sy.1,rE,reduceIte,rL,rA,rD,u1,u2];refine cAS (cells_c xt h3 w (ha.fr f3 (xZY _)) ((r0:Int),(c0:Int),(q:Int)) ?_);obtain ⟨h4,hh4,n4,s4,k4,f4⟩:=yG h3 (.cells w.cs 30);obtain ⟨h5,hh5,n5,s5,k5,f5⟩:=bY f4 n4 (.cells [iv r0,iv c0,iv q] 63);rw [n3] at n4 s4 k4 n5 s5 k5;simp only [sy.1,rL,<-hh4,<-hh5,n3];apply hn;clear hh4 hh5;have f5h:Fr h.n h h5:=f3.trans f5 (by omega);have low5: ∀k,k<h.n+3->h5.t.get k=h3.t.get k:=fun k hk=>by rw [k5 k (by omega),k4 k hk]
 have v1:=(low5 h.n (by omega)).trans u1;have v2:=(low5 (h.n+1) (by omega)).trans u2;have v3:=(low5 (h.n+2) (by omega)).trans s3;have v5:=(k5 (h.n+3) (by omega)).trans s4
 let HL:=LH h5
 let I:ALoop->Nat->Nat->Hp->Prop:=fun rc i j h'=>FrM (fun k=>k=h5.n+1\/k=h.n+2) (h5.n+2) (LH h5 rc) h'/\h'.t.get (h5.n+1)=some (.loop rc)/\h'.t.get (h.n+2)=some (.cells [iv (vZ (gLo F (r0+i)) c0 j (zC (gLo F) r0 c0 n i))] 3)
 have fHL: ∀rc,Fr h.n h (LH h5 rc):=fun rc=>f5h.trans (LH_fr h5 rc) (by omega);have nHL: ∀rc,(LH h5 rc).n=h5.n+2:=fun rc=>rfl;refine qC fun KB B1 B2 B3 B4 B5=> ?_;refine uS (sok xt) (g:=124) (xs:=[.yld (h5.n+1),.ptr (h.n+3) 0,.ptr (h.n+4) 0]) (S:=fun _ _ _=>False) (Z:=fun rc h'=>I rc n 0 h') (by simp only [sy.1,rE,reduceIte];rfl) (fun rc c1 c2 c3 c4 c5 c6 c7=> ?_) ?_ (fun _ _ _ hf=>hf.elim)
 ·refine qFW xt _ w (ha.fr (fHL rc) (xZY _)) (h5.n+1) (h.n+3) (h.n+4) r0 c0 q n th wo hx (by omega) (by omega) hn3 (by rw [<-v5];exact pT h5 rc (by omega)) (I rc) _ ⟨FrM.refl (xZY _),LH_l h5 rc,(pT h5 rc (by omega)).trans v3⟩ ?_ ?_ ?_
  ·rintro i j h' ⟨z1,_⟩;rw [z1.get (by omega) (by omega)];exact (pT h5 rc (by omega)).trans s5
  ·rintro i h' hi ⟨z1,z2,z3⟩;exact ⟨z1,z2,z3⟩
  ·intro i j hi hj;refine uQ (sok xt) c1 c2 c3 c4 c5 c6 c7 (fun h' hA=>hA.2.1) (fun h' hA=>⟨_,rfl,?_⟩);obtain ⟨z1,z2,z3⟩:=hA;refine qA fun K hn hp=> ?_;simp only [sy.1,rE,reduceIte,rL];apply hn;refine reg fun K hn hp=> ?_;simp only [sy.1,rE,reduceIte,rL];apply hn;refine ⟨rfl,rfl,rfl,?_⟩;dsimp only;obtain ⟨h7,hh7⟩: ∃h7:Hp,h7=h'.set (h5.n+1) (.loop rc.busy):=⟨_,rfl⟩;rw [<-hh7];have z5:FrM (fun k=>k=h5.n+1\/k=h.n+2) (h5.n+2) (LH h5 rc) h7:=by rw [hh7];exact z1.set (.inr (.inl rfl)) _
   have z6:h7.t.get (h5.n+1)=some (.loop rc.busy):=by rw [hh7,xZX,xZZ,if_pos rfl]
   have z8:h7.t.get (h.n+2)=some (.cells [iv (vZ (gLo F (r0+i)) c0 j (zC (gLo F) r0 c0 n i))] 3):=by rw [hh7,xZX,xZZ,if_neg (by omega)];exact z3
   have z7: ∀k,k<h5.n->k≠h.n+2->h7.t.get k=h5.t.get k:=fun k hk hk2=>(z5.get (by omega) (by omega)).trans (pT h5 rc hk);have x1:=(z7 h.n (by omega) (by omega)).trans v1;have nn:=nHL rc;have sg7:=sg.keep (h':=h7) fun k _ hk=>(z7 k (by omega) (by omega)).trans (f5h.at_ k (.inl (by omega)));obtain ⟨B,b,rws,g1,g2,g3,g4,g5,g6,g7,g8,g9,_⟩:=sg7.at_ (r:=r0+i) (by omega);have g10:=qBe (b:=b) (C:=C) (c:=c0+j) (by omega);have g11:=uM (F (r0+i)) (C:=C) (c:=c0+j) (by omega);refine qY fun K' k1' k2' k3' k4' k5'=> ?_;refine regD (sok xt) 11 (by kernel_rfl) fun K hn hp=> ?_;simp only [sw.1,rE,reduceIte,rL,x1,z8,g1,g2,g3,g4,g10,g11];refine hn _ _ (k1' _ ⟨rfl,?_,.inl ⟨rfl,?_,?_,?_⟩⟩)
   ·rw [xZX,xZZ,if_neg (by omega)];exact z6
   ·exact (z5.set (.inr (.inr rfl)) _).set (.inr (.inl rfl)) _
   ·rw [xZX,xZZ,if_pos rfl]
   ·rw [xZX,xZZ,if_neg (by omega),xZX,xZZ,if_pos rfl];rfl
 ·rintro rc h' c1 c2 ⟨z1,z2,z3⟩;refine ⟨z2,B1 _ ?_⟩;obtain ⟨h8,hh8⟩: ∃h8:Hp,h8=h'.set (h5.n+1) (.loop {rc with state:= .exhausted}):=⟨_,rfl⟩;rw [<-hh8];have z5:FrM (fun k=>k=h5.n+1\/k=h.n+2) (h5.n+2) (LH h5 rc) h8:=by rw [hh8];exact z1.set (.inr (.inl rfl)) _
  have nn:=nHL rc;have l8:=z5.le;have z7: ∀k,k<h5.n->k≠h.n+2->h8.t.get k=h5.t.get k:=fun k hk hk2=>(z5.get (by omega) (by omega)).trans (pT h5 rc hk);have x1:=(z7 h.n (by omega) (by omega)).trans v1;have x2:=(z7 (h.n+1) (by omega) (by omega)).trans v2;have x3:h8.t.get (h.n+2)=some (.cells [iv (zC (gLo F) r0 c0 n n)] 3):=by rw [hh8,xZX,xZZ,if_neg (by omega)];exact z3
  have x6:h8.t.get h5.n=some .deferred:=(z5.get (by omega) (by omega)).trans (LH_d h5 rc);have f8:Fr h.n h h8:=z5.toFr (fHL rc) (by omega) (fun k hk=>by omega);refine qA fun K hn hp=> ?_;simp only [sy.1,rE,reduceIte,rL,rA,x1,x2,x3];refine cAS (slices_c xt h8 w (ha.fr f8 (xZY _)) v onev r0 c0 q n th wo hx hk1 hk2 ht1 ht2 (zC (gLo F) r0 c0 n n) (bP _ _ _ _ _) (bQ (by omega) n hpos) fun m1 hm1=> ?_);simp only [sy.1,rE,reduceIte,rL];refine hn _ _ (qD (end_1d res80 (d:=h5.n) (by simpa using x6) ⟨?_,?_⟩))
  ·simp [xZZ]
  ·exact (f8.up (xZW hm1)).del (by omega) (by simp only [xZT];omega)
set_option maxHeartbeats 4000000
end Go.Proofs.Kn
