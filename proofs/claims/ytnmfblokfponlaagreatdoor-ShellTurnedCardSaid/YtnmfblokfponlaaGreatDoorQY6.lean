/- MvR1, MvR2, MvR3, MvR4: texts in a row, joined by a program. -/
import Derived.Test.YtnmfblokfponlaaGreatDoorQY5
set_option linter.all false
open Nat renaming reduceEqDiff → rE, reduceLeDiff → rD, reduceAdd → rA, reduceMul → rM, reduceLT → rL
open Nat renaming le_refl → xZZ, le_succ → xZX, le_of_lt → xZQ, strongRecOn → xZI
open Go.Ev.T renaming get_put → xZY
open List renaming length_map → xZW, mem_singleton → xZU, length_filter_le → xZT, length_cons → xZO, map_cons → xZM, map_append → xZJ, map_nil → xZH, mem_cons_self → xZG, length_range → xZF, length_take → xZD, filter_cons → xZC
open Go.Ev.Hp renaming set_t → xZV, up_n → xZP, set_n → xZN
open Go.Ev.FnA renaming mono → xZS, walk → xZE
open Go.Ev.Fr renaming refl → xZR
open Bool renaming false_eq_true → xZL
open Int renaming toNat_natCast → xZK
namespace Go.Proofs.Kn
open Go Go.Ev
set_option maxRecDepth 100000
set_option maxHeartbeats 4000000
theorem FrM.join {M M':Nat->Prop} {n m:Nat} {h h1 h2:Hp} (f:FrM M n h h1) (g:FrM M' m h1 h2) (hn:n<=m) (hM: ∀k,M' k->M k\/(n<=k/\k<h1.n)):FrM M n h h2:=by
 refine ⟨Nat.le_trans hn g.lo,Nat.le_trans f.le g.le,fun k hk hk2=> ?_⟩;have:=f.lo;have:=g.le;have:=g.lo;rw [g.at_ k (by omega) (fun q=>by rcases hM k q with q|q;exact hk2 q;omega),f.at_ k (by omega) hk2]
theorem MI.fr {xt:Addr->Option Value} {Own:Nat->Prop} {h h':Hp} {P:Int->Cg} {l:Mem} (a:MI xt Own h P l) {n:Nat} (f:Fr n h h') (hn:h.n<=n):MI xt Own h' P l:=a.keep f.le fun b hb _=>f.at_ b (.inl (by omega))
theorem CgAt.fr {xt:Addr->Option Value} {Own:Nat->Prop} {h h':Hp} {z:AV} {l:List (Int×Int×Int)} (a:CgAt xt Own h z l) {n:Nat} (f:Fr n h h') (hn:h.n<=n):CgAt xt Own h' z l:=a.keep f.le fun b hb _=>f.at_ b (.inl (by omega))
theorem MI.frM {xt:Addr->Option Value} {Own:Nat->Prop} {h h':Hp} {P:Int->Cg} {l:Mem} (a:MI xt Own h P l) {n:Nat} {M:Nat->Prop} (f:FrM M n h h') (hn:h.n<=n) (hM: ∀k,M k->k<h.n->Own k):MI xt Own h' P l:=a.keep f.le fun b hb ho=>f.get (by omega) fun q=>ho (hM b q hb)
theorem CgAt.frM {xt:Addr->Option Value} {Own:Nat->Prop} {h h':Hp} {z:AV} {l:List (Int×Int×Int)} (a:CgAt xt Own h z l) {n:Nat} {M:Nat->Prop} (f:FrM M n h h') (hn:h.n<=n) (hM: ∀k,M k->k<h.n->Own k):CgAt xt Own h' z l:=a.keep f.le fun b hb ho=>f.get (by omega) fun q=>ho (hM b q hb)
theorem CRows.keepC {xt:Addr->Option Value} {h h':Hp} {N:Nat} {v:AV} {es:List (AV×Cg)} (r:CRows xt h N v es) (hn:h.n<=h'.n) (hk: ∀b cs,b<h.n->h.t.get b=some (.cells cs 125)->h'.t.get b=h.t.get b) (hc: ∀e∈es,Cuts xt h' e.1 e.2.1):CRows xt h' N v es:=by
 refine ⟨?_,fun e he=>⟨hc e he,(r.at_ e he).2⟩⟩;rcases r.own with o|⟨b,h1,h2,h3,h4,h5⟩
 ·exact .inl o
 ·exact .inr ⟨b,h1,h2,by omega,(hk b _ h3 h4).trans h4,h5⟩
theorem bs33 (h:Hp) (a b c:Int):jC tb h 33 1 [(0,.agg [iv a,iv b,iv c])]=some (.sl h.n 0 1 3,h.new (.cells [iv a,iv b,iv c] 61)):=by kernel_rfl
theorem bd125s (b:Nat) (x:Int):zY tb 125 [(0,.sl b 0 1 3),(1,iv x)]=some (.agg [.sl b 0 1 3,iv x]):=bd125 _ _ rfl
def assignG (E:Env) (l:Nat) (rc:ALoop) (cb:Code) (B:Hp->Prop) (S:Ex->Hp->Prop) (x:Ex) (s:St):Prop:=
 x= .normal/\s.mks=[]/\s.h.t.get l=some (.loop rc)/\wpc E (some l) cb ⟨s.tm,s.nt,s.h.set l (.loop rc.busy),[]⟩ (bodyK l rc B S)
theorem qCL {E:Env} (ok:SyOk E) {l:Nat} {rc:ALoop} (c1:rc.state= .ready) (c2:rc.pending=none) {tm0:T AV} {nt:Nat} {ps:Array Tmp} {ca cb:Code} (c3:rc.tmps=tm0) (c4:rc.nt=nt) (c5:rc.params=ps) (c6:rc.assign=ca) (c7:rc.body=cb) {args:List AV} {A B:Hp->Prop} {S:Ex->Hp->Prop}
  (hA: ∀h,A h->h.t.get l=some (.loop rc)) (hb: ∀h,A h-> ∃tm1,xL nt ps.toList args tm0=some tm1/\wpc E (some l) ca ⟨tm1,nt,h,[]⟩ (assignG E l rc cb B S)):
  qBd E (.yld l) args A B (fun h2=> ∃x,S x h2):=by
 intro h ha;obtain ⟨tm1,hp,hw⟩:=hb h ha;refine CallA.round (hA h ha) c1 (by rw [c3,c4,c5];exact hp) ?_;rw [c4,c6,c7];refine (wpc.ok ok.tb _ _ _ hw).mono ?_;rintro x ⟨tm1,nt1,hh1,mk1⟩ ⟨q1,q2,q3,q5⟩;simp only at q2 q3 q5;subst q2;refine ⟨q1,rfl,rc,q3,c1,(wpc.ok ok.tb _ _ _ q5).mono ?_⟩;rintro y ⟨tm2,nt2,hh2,mk2⟩ ⟨r1,r2,r3⟩;simp only at r1 r2 r3;subst r1;rcases r3 with ⟨rfl,hB⟩|⟨c,hj,hS⟩
 ·refine ⟨none,_,rfl,rfl,r2,.inl ⟨rfl,?_⟩⟩;have e:({rc.busy with state:= .ready,pending:=none}:ALoop)=rc:=by
   cases rc;simp only at c1 c2;subst c1;subst c2;rfl
  simp only [Option.isNone_none,if_true];rw [e];exact hB
 ·exact ⟨some c,_,hj,rfl,r2,.inr ⟨rfl,y,hS⟩⟩
theorem ft190 (xt:Addr->Option Value):(SE xt).ft.get 190=some Tryz.f190:=by kernel_rfl
theorem res190:Tryz.f190.results.toList=[.cell 7 125]:=by kernel_rfl
abbrev Wk.bP (w:Wk) (G:Th.Grid) (row wd:Nat) (x:Int):Cg:=w.bandP G row wd (w.m.W - x.toNat)
def BandR (xt:Addr->Option Value) (w:Wk) (hb:Hp) (G:Th.Grid) (row wd:Nat) (Own:Nat->Prop) (h:Hp) (m:Nat) (res:CR) (h':Hp):Prop:=
 FrM (fun k=>k=hb.n+4) h.n h h'/\ ∃z l',res= .ret (.agg [z,iv (w.bandP G row wd m).2])/\h'.t.get (hb.n+4)=some (.map (mks l'))/\MI xt Own h' (w.bP G row wd) l'/\CgAt xt Own h' z (w.bandP G row wd m).1
theorem band1_c (xt:Addr->Option Value) (w:Wk) (his:w.Is) (hb:Hp) (N M:Nat) (v:AV) (G:Th.Grid) (hbd:w.Bd xt hb N M v G) (hbn:w.m.bnd=some G) (row wd:Nat) (hwd1:1<=wd) (hwd3:wd<=3):
  ∀m,m<=w.m.W-> ∀(h:Hp) (l:Mem) (Own:Nat->Prop),BEnv w hb v row wd h->h.t.get (hb.n+4)=some (.map (mks l))->MI xt Own h (w.bP G row wd) l->(∀b,Own b->b<h.n)->Own (hb.n+4)->
   FnA (SE xt) 190 [iv ((w.m.W - m:Nat):Int),.ptr hb.n 0,.ptr (hb.n+5) 0,.ptr (hb.n+6) 0,.ptr (hb.n+1) 0,.ptr (hb.n+2) 0] h (BandR xt w hb G row wd Own h m):=by
 intro m;induction m using xZI with
 |ind m ih=>
 intro hm h l Own be hmap mi hown ownm;refine xZE (sok xt) (ft190 xt) rfl 58 rfl ?_;have c8:=his.m.c8;have r6:=his.m.r6;have t4:=his.t4;have belt:=be.lt;obtain ⟨o1,o2,o3,o4,o5⟩:=hbd.at_.ones;have onev:=hbd.sg.one;obtain ⟨fr0,hfr0⟩: ∃fr0:Nat,fr0=w.m.W - m:=⟨_,rfl⟩;rw [<-hfr0];refine qA fun K hn hp=> ?_;simp only [sw.1,rE,reduceIte,rL,rA,syp.1];apply hn;obtain ⟨h1,hh1,n1,s1,k1,f1⟩:=yH h (.cells [iv (fr0:Int)] 3);obtain ⟨h2,hh2,n2,s2,k2,f2⟩:=wE f1 n1 (.cells [.val (.slice none 0 0),iv 0] 125);simp only [<-hh1,<-hh2];clear hh1 hh2;have u1:=(k2 h.n (by omega)).trans s1;simp only [rA] at n2;have b2:=be.fr' f2;have a2:=hbd.at_.fr b2.fr (xZZ _);have e1:=b2.q1;have m2:=(f2.at_ (hb.n+4) (.inl (by omega))).trans hmap;have mi2:=mi.keep f2.le fun b hb' _=>f2.at_ b (.inl hb');refine qE ?_;refine yR (sok xt) 0 0 3 [(0,1)] (by kernel_rfl) fun K hn hp=> ?_;simp only [sy.1,rE,reduceIte,rL,rA,syw.1,u1,e1];refine qB (sok xt) (bcols_c xt h2 w a2 his v onev fun m3 hm3=> ?_);simp only [sy.1,rE,reduceIte,rL,rA,syw.1,u1,hm3];apply hn;obtain ⟨h3,hh3⟩: ∃h3,h3=h2.up m3:=⟨_,rfl⟩;rw [<-hh3];have f23:Fr h2.n h2 h3:=by rw [hh3];exact (xZR (xZZ _)).up (xZQ hm3)
 have n3:h.n+2<h3.n:=by rw [hh3,xZP];omega
 have f3:Fr h.n h h3:=f2.trans f23 (by omega);have b3:=be.fr' f3;have s3:h3.t.get (h.n+1)=some (.cells [.val (.slice none 0 0),iv 0] 125):=by rw [hh3];exact s2
 have u3:h3.t.get h.n=some (.cells [iv (fr0:Int)] 3):=by rw [hh3];exact u1
 have m3':=(f3.at_ (hb.n+4) (.inl (by omega))).trans hmap;have mi3:=mi.keep f3.le fun b hb' _=>f3.at_ b (.inl hb');clear hh3 mi2 m2;have e2:=b3.q2;cases m with
 |zero=>
  have e0:fr0=w.m.W:=by omega
  have d:decide ((w.m.W:Int)<=(fr0:Int))=true:=decide_eq_true (by omega);refine qC true (by simp only [sy.1,rE,reduceIte,d]) (fun _=> ?_) (fun hx=>by cases hx);refine qE ?_;refine qA fun K hn hp=> ?_;simp only [sw.1,rE,reduceIte,rL,rA,syp.1,s3,bd125z];apply hn;refine jF (pU (v:= .agg [.val (.slice none 0 0),iv 0]) res190 ?_ ⟨FrM.of (f3.set (by omega) (by omega) _),.val (.slice none 0 0),l,?_,?_,?_,?_⟩)
  ·simp only [sy.1,rE,reduceIte,rA,syp.1,s3]
  ·rw [Wk.bandP_zero]
  ·rw [xZV,xZY,if_neg (by omega)];exact m3'
  ·exact mi.fr (f3.set (by omega) (by omega) _) (xZZ _)
  ·rw [Wk.bandP_zero];exact CgAt.nil
 |succ m=>
  have d:decide ((w.m.W:Int)<=(fr0:Int))=false:=decide_eq_false (by omega);refine qC false (by simp only [sy.1,rE,reduceIte,d]) (fun hx=>by cases hx) (fun _=> ?_);refine qI ?_;refine qE ?_;rcases mem_look h3 (hb.n+4) l m3' (fr0:Int) with lk|⟨e,hel,lk⟩
  rotate_left
  ·obtain ⟨ce,pe⟩:=mi _ hel;have oe:=ce.cuts.one;have ceo:=ce.cuts.cells;have pe:e.2=w.bandP G row wd (m+1):=by
    simp only at pe;rw [pe];simp only [Wk.bP,xZK]
    congr 1
    omega
   refine qA fun K hn hp=> ?_;simp only [sw.1,rE,reduceIte,rL,rA,sv.1,syp.1,u3,e2,oe,qB5,lk];apply hn;obtain ⟨h4,hh4,n4,s4,k4,f4⟩:=nsE h3 (.cells [.val (.slice none 0 0),iv 0] 125) (.cells [e.1,iv e.2.2] 125);rw [<-hh4];clear hh4;have f4h:Fr h.n h h4:=f3.trans f4 (by omega);have x7:=(k4 (h.n+1) (by omega)).trans s3;refine qE ?_;refine qA fun K hn hp=> ?_;simp only [sy.1,rE,reduceIte,rL];apply hn;refine qC true (by simp only [sy.1,rE,reduceIte]) (fun _=> ?_) (fun hx=>by cases hx);refine qE ?_;refine qA fun K hn hp=> ?_;simp only [sw.1,rE,reduceIte,rL,rA,syp.1,oe,s4,x7];apply hn;have f5:Fr h.n h (h4.set (h.n+1) (.cells [e.1,iv e.2.2] 125)):=f4h.set (by omega) (by omega) _;refine jF (pU (v:= .agg [e.1,iv e.2.2]) res190 ?_ ⟨FrM.of f5,e.1,l,?_,?_,mi.fr f5 (xZZ _),?_⟩)
   ·simp only [sy.1,rE,reduceIte,rA,syp.1,x7]
   ·rw [pe]
   ·rw [f5.at_ (hb.n+4) (.inl (by omega))];exact hmap
   ·have:=ce.fr f5 (xZZ _);simp only [pe] at this ⊢;exact this
  ·refine qA fun K hn hp=> ?_;simp only [sw.1,rE,reduceIte,rL,rA,sv.1,syp.1,u3,e2,qB5,lk];apply hn;obtain ⟨h4,hh4,n4,s4,k4,f4⟩:=nsE h3 (.cells [.val (.slice none 0 0),iv 0] 125) (.cells [.val (.slice none 0 0),iv 0] 125);rw [<-hh4];clear hh4;have f4h:Fr h.n h h4:=f3.trans f4 (by omega);have b4:=be.fr' f4h;have u4:=(k4 h.n (by omega)).trans u3;have m4:=(f4h.at_ (hb.n+4) (.inl (by omega))).trans hmap;have e3:=b4.q3;refine qE ?_;refine qA fun K hn hp=> ?_;simp only [sy.1,rE,reduceIte,rL];apply hn;refine qC false (by simp only [sy.1,rE,reduceIte]) (fun hx=>by cases hx) (fun _=> ?_);refine qI ?_;have w1:IntKind.i64.wrap ((fr0:Int)+1)=((w.m.W - m:Nat):Int):=by rw [qM _ (by omega) (by omega)];omega
   let Own1:Nat->Prop:=fun b=>Own b\/b=h.n+1
   have mi4:MI xt Own1 h4 (w.bP G row wd) l:=(mi.more (fun b=>b=h.n+1) (fun b q=>by omega)).fr f4h (xZZ _);refine qA fun K hn hp=> ?_;simp only [sy.1,rE,reduceIte,rL,syp.1,u4,e3,w1];refine vN (sok xt) (xZS (ih m (by omega) (by omega) h4 l Own1 b4 m4 mi4 (fun b q=>by rcases q with q|q;have:=hown b q;omega;omega) (.inl ownm)) fun res h5 hres=> ?_);obtain ⟨f5,z1,l1,rfl,m5,mi5,cg5⟩:=hres;have oz1:=cg5.cuts.one;have cz1:=cg5.cuts.cells;simp only [sw.1,rE,reduceIte,rL,syp.1,jI,bs192,cz1];obtain ⟨h6,hh6,n6,s6,k6,f6⟩:=yH h5 (.cells [z1,iv (w.bandP G row wd m).2] 125);obtain ⟨h7,hh7,n7,s7,k7,f7⟩:=nsF f6 n6 (.cells [.val (.slice none 0 0)] 192) (.cells [.sl h5.n 0 1 2] 192);rw [n6] at hh7;rw [<-hh6,<-hh7];apply hn;clear hh6 hh7;simp only [rA] at n7;have l5:=f5.le;have f5h:FrM (fun k=>k=hb.n+4) h.n h h5:=(FrM.of f4h).trans f5 (by omega);have f7h:FrM (fun k=>k=hb.n+4) h.n h h7:=f5h.fr f7 (by omega);have b7:=be.frM f7h belt (fun k hk=>by omega);have f54:FrM (fun k=>k=hb.n+4) h4.n h4 h7:=f5.fr f7 (by omega);have u7:=(f54.get (k:=h.n) (by omega) (by omega)).trans u4;have x7:=(f54.get (k:=h.n+1) (by omega) (by omega)).trans ((k4 (h.n+1) (by omega)).trans s3);have g1:=b7.q1;have g4:=b7.q4;have g5:=b7.q5;have g2:=b7.q2;have g3:=b7.q3;have a7:=hbd.at_.fr b7.fr (xZZ _);refine qE ?_;refine qA fun K hn hp=> ?_;simp only [sy.1,rE,reduceIte,rL,rA,u7,g1,g4,g5];refine qB (sok xt) (blanks_c xt h7 w a7 v onev (row:Int) (wd:Int) (fr0:Int) ?_);obtain ⟨ha,hha,na,sa,ka,fa⟩:=yH h7 (.cells (w.bc v) 121);obtain ⟨hc,hhc,nc,sc,kc,fc⟩:=wE fa na (.cells [iv (row:Int)] 3);obtain ⟨hd,hhd,nd,sd,kd,fd⟩:=wE fc nc (.cells [iv (wd:Int)] 3);obtain ⟨hz,hhz,nz,sz,kz,fz⟩:=wE fd nd (.cells [iv (fr0:Int)] 3);rw [<-hha,<-hhc,<-hhd,<-hhz];simp only [sy.1,rL];apply hn;clear hha hhc hhd hhz;simp only [rA] at nc nd nz sc sd sz;have pz0:=(kz h7.n (by omega)).trans ((kd h7.n (by omega)).trans ((kc h7.n (by omega)).trans sa));have pz1:=(kz (h7.n+1) (by omega)).trans ((kd (h7.n+1) (by omega)).trans sc);have pz2:=(kz (h7.n+2) (by omega)).trans sd;have fzh:FrM (fun k=>k=hb.n+4) h.n h hz:=f7h.fr fz (by omega);have bz:=be.frM fzh belt (fun k hk=>by omega);have uz:=(fz.at_ h.n (.inl (by omega))).trans u7;have tz:=(fz.at_ (h5.n+1) (.inl (by omega))).trans s7;have mz:=(fz.at_ (hb.n+4) (.inl (by omega))).trans ((f7.at_ (hb.n+4) (.inl (by omega))).trans m5)
   let X:Nat->Prop:=fun b=>b=h5.n+1\/b=hz.n\/b=hz.n+1
   have hX: ∀b,X b->h5.n<=b:=fun b q=>by rcases q with q|q|q<;>omega
   let Own2:Nat->Prop:=fun b=>Own1 b\/X b
   let OwnV:AV->Nat->Prop:=fun av b=>Own2 b\/ ∃off n s,av= .sl b off n s
   have hV0: ∀b,OwnV (.sl h5.n 0 1 2) b->Own1 b\/(X b\/b=h5.n):=fun b q=>by
    rcases q with (q|q)|⟨off,n,s,q⟩
    ·exact .inl q
    ·exact .inr (.inl q)
    ·cases q;exact .inr (.inr rfl)
   have hX': ∀b,(X b\/b=h5.n)->h5.n<=b:=fun b q=>by
    rcases q with q|q
    ·exact hX b q
    ·omega
   have miz:MI xt (OwnV (.sl h5.n 0 1 2)) hz (w.bP G row wd) l1:=(((mi5.more _ hX').less hV0).fr f7 (xZZ _)).fr fz (xZZ _);have cgz:CgAt xt (OwnV (.sl h5.n 0 1 2)) hz z1 (w.bandP G row wd m).1:=(((cg5.more _ hX').less hV0).fr f7 (xZZ _)).fr fz (xZZ _);have f7z:Fr h5.n h5 hz:=f7.trans fz (by omega);have crz:CRows xt hz h5.n (.sl h5.n 0 1 2) [(z1,w.bandP G row wd m)]:=by
    refine ⟨.inr ⟨h5.n,rfl,xZZ _,by omega,?_,rfl⟩,fun e he=> ?_⟩
    ·rw [fz.at_ h5.n (.inl (by omega)),k7 h5.n (by omega),s6];rfl
    ·rw [xZU] at he;subst he;exact ⟨cgz.cuts,fun b off n s e off' n' s' e'=>by cases e';have:=cg5.cuts.row.lt e;omega⟩
   have hOwn2: ∀b,Own2 b->b<hz.n+2:=fun b q=>by
    rcases q with (q|q)|q|q|q
    ·have:=hown b q;omega
    all_goals omega
   refine qG fun KB B1 B2 B3 B4 B5=> ?_
   let I:ALoop->Nat->Hp->Prop:=fun rc k h'=> ∃l' av es,FrM (fun b=>b=hb.n+4\/b=hz.n+1\/b=h5.n+1\/b=h5.n) (hz.n+2) (LH hz rc) h'/\h'.t.get (hz.n+1)=some (.loop rc)/\h'.t.get (h5.n+1)=some (.cells [av] 192)/\CRows xt h' h5.n av es/\es.map Prod.snd=w.cnd G row wd m k/\h'.t.get (hb.n+4)=some (.map (mks l'))/\MI xt (OwnV av) h' (w.bP G row wd) l'/\(∀e∈es,CgAt xt (OwnV av) h' e.1 e.2.1)/\ ∀b off n s,av= .sl b off n s->b=h5.n\/hz.n+2<=b
   have nLH: ∀rc,(LH hz rc).n=hz.n+2:=fun rc=>rfl;have keyI: ∀rc k h',I rc k h'->BEnv w hb v row wd h'/\hz.n+2<=h'.n/\ ∀b,b<hz.n->b≠hb.n+4->b≠h5.n+1->b≠h5.n->h'.t.get b=hz.t.get b:=by
    rintro rc k h' ⟨l',av,es,z1,z2,z3,z4,z5,z6,z7,z8,z9⟩;have:=z1.le;have nn:=nLH rc;refine ⟨(bz.fr' (qAQ hz rc)).frM z1 (by omega) (fun k hk=>by omega),by omega,fun b q1 q2 q3 q4=> ?_⟩;rw [z1.get (by omega) (by omega)];exact uS hz rc q1
   refine wB (sok xt) (g:=210) (xs:=[.yld (hz.n+1),.ptr h7.n 0,.ptr (h7.n+1) 0,.ptr (h7.n+3) 0,.ptr (h7.n+2) 0]) (S:=fun _ _ _=>False) (Z:=fun rc h'=>I rc w.ts.length h') (by simp only [sy.1,rE,reduceIte];rfl) (fun rc c1 c2 c3 c4 c5 c6 c7=> ?_) ?_ (fun _ _ _ hf=>hf.elim)
   ·refine blanks1_c xt (LH hz rc) w his N M v G hbn (hz.n+1) h7.n (h7.n+1) (h7.n+3) (h7.n+2) row fr0 wd (I rc) _ ?_ ?_ ?_ ?_ ?_ ?_
    ·refine ⟨l1,.sl h5.n 0 1 2,[(z1,w.bandP G row wd m)],FrM.refl (xZZ _),LH_l hz rc,(uS hz rc (by omega)).trans tz,crz.fr (qAQ hz rc) (xZZ _),?_,(uS hz rc (by omega)).trans mz,miz.fr (qAQ hz rc) (xZZ _),fun e he=> ?_,fun b off n s e=>(by cases e;exact .inl rfl)⟩
     ·simp [Wk.cnd,Wk.selTo]
     ·rw [xZU] at he;subst he;exact cgz.fr (qAQ hz rc) (xZZ _)
    ·intro k h' hI;obtain ⟨q1,q2,q3⟩:=keyI rc k h' hI;refine ⟨hbd.fr q1.fr (xZZ _),?_,?_,?_,?_⟩
     ·rw [q3 _ (by omega) (by omega) (by omega) (by omega)];exact pz0
     ·rw [q3 _ (by omega) (by omega) (by omega) (by omega)];exact pz1
     ·rw [q3 _ (by omega) (by omega) (by omega) (by omega)];exact sz
     ·rw [q3 _ (by omega) (by omega) (by omega) (by omega)];exact pz2
    ·intro k h' hI;obtain ⟨q1,q2,q3⟩:=keyI rc k h' hI;omega
    ·rintro k h' h'' ⟨l',av,es,z1,z2,z3,z4,z5,z6,z7,z8,z9⟩ f;have q2:=z1.le;have nn:=nLH rc;refine ⟨l',av,es,z1.fr f (by omega),(f.at_ _ (.inl (by omega))).trans z2,(f.at_ _ (.inl (by omega))).trans z3,z4.fr f (xZZ _),z5,(f.at_ _ (.inl (by omega))).trans z6,z7.fr f (xZZ _),fun e he=>(z8 e he).fr f (xZZ _),z9⟩
    ·rintro k h' hk hs ⟨l',av,es,z1,z2,z3,z4,z5,z6,z7,z8,z9⟩;refine ⟨l',av,es,z1,z2,z3,z4,?_,z6,z7,z8,z9⟩;have e1:w.sel wd (Wk.blkK row (w.m.W - (m+1)) k)=false:=by rw [<-hfr0];exact hs
     rw [z5,Wk.cnd_succ,e1];simp
    ·intro k hk hs;refine qCL (sok xt) c1 c2 c3 c4 c5 c6 c7 (fun h' hA=>by obtain ⟨l',av,es,z1,z2,_⟩:=hA;exact z2) (fun h' hA=>⟨_,rfl,?_⟩);have kI:=keyI rc k h' hA;obtain ⟨l',av,es,z1,z2,z3,z4,z5,z6,z7,z8,z9⟩:=hA;obtain ⟨q1,q2,q3⟩:=kI;refine qA fun K hn hp=> ?_;simp only [sw.1,rE,reduceIte,rL,rA,al61];apply hn;refine reg fun K hn hp=> ?_;simp only [sy.1,rE,reduceIte,rL];apply hn;obtain ⟨hp0,hhp,np,sp,kp,fp⟩:=nsE h' (.cells [iv 0,iv 0,iv 0] 61) (.cells [iv (row:Int),iv (fr0:Int),iv (k:Int)] 61);rw [<-hhp];clear hhp;have lb:=(kp (hz.n+1) (by omega)).trans z2;refine ⟨rfl,rfl,lb,?_⟩;dsimp only;obtain ⟨hA,hhA⟩: ∃hA:Hp,hA=hp0.set (hz.n+1) (.loop rc.busy):=⟨_,rfl⟩;have nA:hA.n=h'.n+1:=by rw [hhA,xZN,np]
     have lA:hA.t.get (hz.n+1)=some (.loop rc.busy):=by rw [hhA,xZV,xZY,if_pos rfl]
     have kA: ∀b,b≠hz.n+1->hA.t.get b=hp0.t.get b:=fun b hb=>by rw [hhA,xZV,xZY,if_neg hb]
     have fA:FrM (fun b=>b=hb.n+4\/b=hz.n+1\/b=h5.n+1\/b=h5.n) (hz.n+2) (LH hz rc) hA:=by rw [hhA];exact (z1.fr fp (by omega)).set (.inr (.inr (.inl rfl))) _
     rw [<-hhA];clear hhA;have bA:=(bz.fr' (qAQ hz rc)).frM fA (by omega) (fun k hk=>by have:=nLH rc;omega);have a11:=(kA h'.n (by omega)).trans sp;have aT:=(kA (h5.n+1) (by omega)).trans ((kp _ (by omega)).trans z3);have aM:=(kA (hb.n+4) (by omega)).trans ((kp _ (by omega)).trans z6);have a6:hA.t.get h.n=some (.cells [iv (fr0:Int)] 3):=(kA h.n (by omega)).trans ((kp _ (by omega)).trans ((q3 h.n (by omega) (by omega) (by omega) (by omega)).trans uz));have keepA: ∀b,b<h'.n-> ¬OwnV av b->hA.t.get b=h'.t.get b:=fun b hb1 hb2=>(kA b (fun e=>hb2 (.inl (.inr (.inr (.inr e)))))).trans (kp b hb1);have miA:MI xt (OwnV av) hA (w.bP G row wd) l':=z7.keep (by omega) keepA;have cgA: ∀e∈es,CgAt xt (OwnV av) hA e.1 e.2.1:=fun e he=>(z8 e he).keep (by omega) keepA;have crA:CRows xt hA h5.n av es:=z4.keepC (by omega) (fun b cs hb1 hb2=>(kA b (by rintro rfl;rw [z2] at hb2;cases hb2)).trans (kp b hb1)) (fun e he=>(cgA e he).cuts);have onea:=crA.one;have aw:=bA.q5;have as_:=bA.q3;obtain ⟨sb,sr,sc',sw1,sw3⟩:=his.selBlk hk hs;have lvb:0<=w.lv G ((row:Int),(fr0:Int),(k:Int))/\w.lv G ((row:Int),(fr0:Int),(k:Int))<=6500:=his.lv_bd hbn sb;have ihm:m - (wd - 1)<m+1:=by omega
     have w2:IntKind.i64.wrap ((fr0:Int)+(wd:Int))=((w.m.W - (m - (wd - 1)):Nat):Int):=by rw [qM _ (by omega) (by omega)];omega
     refine jX fun K' k1' k2' k3' k4' k5'=> ?_;refine regG (sok xt) 12 [2,11] [(10,[2])] [(0,1),(0,2),(1,1)] (by kernel_rfl) fun K hn hp=> ?_;simp only [sy.1,rE,reduceIte,rL,rA,syw.1,syp.1,a11,aT,a6,aw,as_,syg.1,xZL,jI,bs33,bd125s,w2];have em:(w.m.W - (m - (wd - 1)):Nat)=fr0+wd:=by omega
     let Own3:Nat->Prop:=fun b=>OwnV av b\/b=hA.n
     have bU:BEnv w hb v row wd (hA.up (hA.n+1)):=bA.fr' ((xZR (xZZ _)).up (xZX _));have miU:MI xt Own3 (hA.up (hA.n+1)) (w.bP G row wd) l':=(miA.more (fun b=>b=hA.n) (fun b q=>by omega)).fr ((xZR (xZZ _)).up (xZX _)) (xZZ _);have hOwn3: ∀b,Own3 b->b<hA.n+1:=fun b q=>by
      rcases q with (q|⟨off,n,s,q⟩)|q
      ·have:=hOwn2 b q;omega
      ·rcases crA.own with ⟨_,_,o⟩|⟨b',o,_,o2,_⟩
       ·rw [o] at q;cases q
       ·rw [o] at q;cases q;omega
      ·omega
     refine vN (sok xt) (FnA.inc (xZS (ih (m - (wd - 1)) ihm (by omega) (hA.up (hA.n+1)) l' Own3 bU aM miU hOwn3 (.inl (.inl (.inl (.inl ownm))))) fun res hB0 hres=> ?_));obtain ⟨fB0,zB,lB,rfl,mB0,miB0,cgB0⟩:=hres;obtain ⟨hB,hhB⟩: ∃hB,hB=hB0.up (hB0.n+1):=⟨_,rfl⟩;have fB:FrM (fun k=>k=hb.n+4) (hA.n+1) (hA.up (hA.n+1)) hB:=by rw [hhB];exact fB0.up (xZX _)
     have ltB:hA.n+1<hB.n:=by have:=fB0.lo;rw [hhB,xZP];simp only [xZP] at this;omega
     have mB:hB.t.get (hb.n+4)=some (.map (mks lB)):=by rw [hhB];exact mB0
     have miB:MI xt Own3 hB (w.bP G row wd) lB:=by rw [hhB];exact miB0.fr ((xZR (xZZ _)).up (xZX _)) (xZZ _)
     have cgB:CgAt xt Own3 hB zB (w.bandP G row wd (m - (wd - 1))).1:=by rw [hhB];exact cgB0.fr ((xZR (xZZ _)).up (xZX _)) (xZZ _)
     rw [<-hhB];clear hhB fB0 mB0 miB0 cgB0;simp only [sy.1,rE,reduceIte,rL,xV ltB];obtain ⟨hC,hhC⟩: ∃hC:Hp,hC=hB.set hA.n (.cells [iv (row:Int),iv (fr0:Int),iv (k:Int)] 61):=⟨_,rfl⟩;have eC:({t:=hB.t.put (some (.cells [iv (row:Int),iv (fr0:Int),iv (k:Int)] 61)) hA.n,n:=hB.n}:Hp)=hC:=hhC.symm;rw [eC];have nC:hC.n=hB.n:=by rw [hhC,xZN]
     have sC:hC.t.get hA.n=some (.cells [iv (row:Int),iv (fr0:Int),iv (k:Int)] 61):=by rw [hhC,xZV,xZY,if_pos rfl]
     have kC: ∀b,b≠hA.n->hC.t.get b=hB.t.get b:=fun b hb=>by rw [hhC,xZV,xZY,if_neg hb]
     have fC:FrM (fun k=>k=hb.n+4) hA.n hA hC:=by rw [hhC];exact (((FrM.refl (xZZ _)).up (xZX _)).trans fB (xZX _)).set (.inl ⟨xZZ _,by omega⟩) _
     clear hhC eC;have miC:MI xt Own3 hC (w.bP G row wd) lB:=miB.keep (by omega) fun b _ ho=>kC b fun e=>ho (.inr e);have cgC:CgAt xt Own3 hC zB (w.bandP G row wd (m - (wd - 1))).1:=cgB.keep (by omega) fun b _ ho=>kC b fun e=>ho (.inr e);obtain ⟨cs1,ci1⟩:=GrowAt.cuts (xt:=xt) (N:=0) (h:=hC) (v:= .sl hA.n 0 1 3) (ls:=[((row:Int),(fr0:Int),(k:Int))]) (.inr ⟨hA.n,_,rfl,Nat.zero_le _,by omega,sC,by simp,rfl⟩) (by simp);have bdB:=his.bandP_bd hbn row wd (m - (wd - 1));refine qB (sok xt) (FnA.inc (xZS (then_c xt hC (.sl hA.n 0 1 3) zB ([((row:Int),(fr0:Int),(k:Int))],w.lv G ((row:Int),(fr0:Int),(k:Int))) (w.bandP G row wd (m - (wd - 1))) cs1 cgC.cuts ci1 cgC.inn (by simp only [List.length_singleton];omega) lvb.1 (Int.le_trans lvb.2 (by decide)) bdB.2.1 (by omega)) fun res hD0 hres=> ?_));obtain ⟨fD0,zD,rfl,ncD0⟩:=hres;obtain ⟨hD,hhD⟩: ∃hD,hD=hD0.up (hD0.n+1):=⟨_,rfl⟩;have fD:Fr hC.n hC hD:=by rw [hhD];exact fD0.up (xZX _)
     have ltD:hB.n<hD.n:=by have:=fD0.lo;rw [hhD,xZP];omega
     have ncD:NewC xt hC.n hD zD ([((row:Int),(fr0:Int),(k:Int))]++(w.bandP G row wd (m - (wd - 1))).1):=by rw [hhD];exact ncD0.fr ((xZR (xZZ _)).up (xZX _)) (xZZ _)
     rw [<-hhD];clear hhD fD0 ncD0;have czD:=ncD.cuts.cells;have ozD:=ncD.cuts.one;have v11:hB.t.get h'.n=some (.cells [iv (row:Int),iv (fr0:Int),iv (k:Int)] 61):=(fB.get (by omega) (by omega)).trans a11;have vT:hB.t.get (h5.n+1)=some (.cells [av] 192):=(fB.get (by omega) (by omega)).trans aT;have vTD:hD.t.get (h5.n+1)=some (.cells [av] 192):=(fD.at_ _ (.inl (by omega))).trans ((kC _ (by omega)).trans vT);simp only [sy.1,rE,reduceIte,rL,rA,v11,vT,vTD,czD,syg.1,xV ltD,bs192];have avb: ∀b off n s,av= .sl b off n s->b<hA.n:=fun b off n s e=>by
      rcases crA.own with ⟨_,_,o⟩|⟨b',o,_,o2,_⟩
      ·rw [o] at e;cases e
      ·rw [o] at e;cases e;exact o2
     have fDA:FrM (fun k=>k=hb.n+4) hA.n hA hD:=fC.fr fD (by omega);have cgD: ∀e∈es,CgAt xt (OwnV av) hD e.1 e.2.1:=fun e he=>(cgA e he).frM fDA (xZZ _) fun k e _=>by subst e;exact .inl (.inl (.inl ownm))
     have miD:MI xt (OwnV av) hD (w.bP G row wd) lB:=(miC.less fun b q=> .inl q).fr fD (xZZ _);have hVC: ∀b,OwnV av b->b<hC.n:=fun b q=>by
      have:=hOwn3 b (.inl q);omega
     have cgDz:CgAt xt (OwnV av) hD zD ([((row:Int),(fr0:Int),(k:Int))]++(w.bandP G row wd (m - (wd - 1))).1):=ncD.cg hVC;have crD:CRows xt hD h5.n av es:=crA.keepC fDA.le (fun b cs hb1 hb2=>fDA.get hb1 (by rintro rfl;rw [aM] at hb2;cases hb2)) (fun e he=>(cgD e he).cuts);have les:es.length<=k+1:=by
      have e1:es.length=(w.cnd G row wd m k).length:=by rw [<-z5,xZW]
      rw [e1,Wk.cnd,xZO,xZW];have:=xZT (w.sel wd) ((List.range k).map (Wk.blkK row (w.m.W - (m+1))));rw [xZW,xZF] at this;simp only [Wk.selTo];omega
     obtain ⟨v',hE,p1,p2,p3,p4,p5,p6⟩:=crD.append (by omega) (z:=zD) (c:=([((row:Int),(fr0:Int),(k:Int))]++(w.bandP G row wd (m - (wd - 1))).1,w.lv G ((row:Int),(fr0:Int),(k:Int))+(w.bandP G row wd (m - (wd - 1))).2)) ncD.cuts (fun b off n s e off' n' s' e'=>by have:=ncD.lo b off n s e;have:=avb b off' n' s' e';omega) (by omega);have p1':qS Tryz.prog tb xt .append [192,192] [av,.sl hD.n 0 1 2] {t:=hD.t.put (some (.cells [zD,iv (w.lv G ((row:Int),(fr0:Int),(k:Int))+(w.bandP G row wd (m - (wd - 1))).2)] 125)) hD.n,n:=hD.n+1}=some (v',hE):=p1;have yT:hE.t.get (h5.n+1)=some (.cells [av] 192):=(p5 _ (by omega) fun off n s e=>by have:=z9 _ _ _ _ e;omega).trans vTD;have yL:hE.t.get (hz.n+1)=some (.loop rc.busy):=(p5 _ (by omega) fun off n s e=>by have:=z9 _ _ _ _ e;omega).trans ((fDA.get (by omega) (by omega)).trans lA);have yM:hE.t.get (hb.n+4)=some (.map (mks lB)):=(p5 _ (by omega) fun off n s e=>by have:=z9 _ _ _ _ e;omega).trans ((fD.at_ _ (.inl (by omega))).trans ((kC _ (by omega)).trans mB));have o1':=p2.one;have c1':=p2.cells;simp only [sw.1,rE,reduceIte,rL,syp.1,yT,o1',c1',p1'];refine hn _ _ (k1' _ ⟨rfl,?_,.inl ⟨rfl,?_⟩⟩)
     ·rw [xZV,xZY,if_neg (by omega)];exact yL
     obtain ⟨hG,hhG⟩: ∃hG:Hp,hG=(hE.set (h5.n+1) (.cells [v'] 192)).set (hz.n+1) (.loop rc):=⟨_,rfl⟩;have gL:hG.t.get (hz.n+1)=some (.loop rc):=by rw [hhG,xZV,xZY,if_pos rfl]
     have gT:hG.t.get (h5.n+1)=some (.cells [v'] 192):=by rw [hhG,xZV,xZY,if_neg (by omega),xZV,xZY,if_pos rfl]
     have gK: ∀b,b≠hz.n+1->b≠h5.n+1->hG.t.get b=hE.t.get b:=fun b q1 q2=>by rw [hhG,xZV,xZY,if_neg q1,xZV,xZY,if_neg q2]
     have nG:hG.n=hE.n:=by rw [hhG,xZN,xZN]
     have fE:FrM (fun b=> ∃off n s,av= .sl b off n s) hD.n hD hE:=⟨by omega,by omega,fun b hb1 hb2=>by
      by_cases q:b<hD.n
      ·exact p5 b q fun off n s e=>hb2 ⟨off,n,s,e⟩
      ·exact p3.at_ b (.inr (by omega))⟩
     have fG:FrM (fun b=>b=hb.n+4\/b=hz.n+1\/b=h5.n+1\/b=h5.n) (hz.n+2) (LH hz rc) hG:=by
      rw [hhG];refine FrM.set (FrM.set ?_ (.inr (.inr (.inr (.inl rfl)))) _) (.inr (.inr (.inl rfl))) _;refine FrM.join (FrM.join fA fDA (by omega) fun b q=> .inl (.inl q)) fE (by omega) ?_;rintro b ⟨off,n,s,e⟩;have q1:=z9 b off n s e;have q2:=avb b off n s e;rcases q1 with q1|q1
      ·exact .inl (.inr (.inr (.inr q1)))
      ·exact .inr ⟨q1,by omega⟩
     rw [<-hhG];clear hhG;have toG: ∀{z:AV} {ls:List (Int×Int×Int)},CgAt xt (OwnV av) hD z ls->CgAt xt (OwnV v') hG z ls:=fun {z ls} c=>by
      refine ((c.more (fun b=>hD.n<=b) (fun b q=>q)).keep (by omega) fun b hb1 hb2=> ?_).less fun b q=> ?_
      ·rw [gK b (fun e=>hb2 (.inl (.inl (.inr (.inr (.inr e)))))) (fun e=>hb2 (.inl (.inl (.inr (.inl e)))))];exact p5 b hb1 fun off n s e=>hb2 (.inl (.inr ⟨off,n,s,e⟩))
      ·rcases q with q|⟨off,n,s,q⟩
       ·exact .inl (.inl q)
       ·rw [p4] at q;cases q;exact .inr (by omega)
     have cgG: ∀e∈es++[(zD,([((row:Int),(fr0:Int),(k:Int))]++(w.bandP G row wd (m - (wd - 1))).1,w.lv G ((row:Int),(fr0:Int),(k:Int))+(w.bandP G row wd (m - (wd - 1))).2))],CgAt xt (OwnV v') hG e.1 e.2.1:=fun e he=>by
      rcases List.mem_append.1 he with he|he
      ·exact toG (cgD e he)
      ·rw [xZU] at he;subst he;exact toG cgDz
     refine ⟨lB,v',_,fG,gL,gT,p2.keepC (by omega) (fun b cs hb1 hb2=>gK b (by rintro rfl;rw [yL] at hb2;cases hb2) (by rintro rfl;rw [yT] at hb2;cases hb2)) (fun e he=>(cgG e he).cuts),?_,(gK _ (by omega) (by omega)).trans yM,fun e he=>⟨toG (miD e he).1,(miD e he).2⟩,cgG,fun b off n s e=> ?_⟩
     ·have e1:w.sel wd (Wk.blkK row (w.m.W - (m+1)) k)=true:=by rw [<-hfr0];exact hs
      rw [Wk.cnd_succ,e1,xZJ,z5,<-hfr0];rfl
     ·rw [p4] at e;cases e;right;omega
   ·rintro rc h' c1 c2 hI;obtain ⟨q1,q2,q3⟩:=keyI rc _ h' hI;obtain ⟨l',av,es,z1,z2,z3,z4,z5,z6,z7,z8,z9⟩:=hI;refine ⟨z2,B1 _ ?_⟩;obtain ⟨h8,hh8⟩: ∃h8:Hp,h8=h'.set (hz.n+1) (.loop {rc with state:= .exhausted}):=⟨_,rfl⟩;rw [<-hh8];have n8:h8.n=h'.n:=by rw [hh8,xZN]
    have k8: ∀b,b≠hz.n+1->h8.t.get b=h'.t.get b:=fun b hb=>by rw [hh8,xZV,xZY,if_neg hb]
    have z1':FrM (fun b=>b=hb.n+4\/b=hz.n+1\/b=h5.n+1\/b=h5.n) (hz.n+2) (LH hz rc) h8:=by rw [hh8];exact z1.set (.inr (.inr (.inl rfl))) _
    have f8h:FrM (fun k=>k=hb.n+4) h.n h h8:=FrM.join (fzh.fr (qAQ hz rc) (by omega)) z1' (by omega) fun b q=>by
     have:=nLH rc;rcases q with q|q
     ·exact .inl q
     ·exact .inr (by omega)
    clear hh8;have b8:=be.frM f8h belt (fun k hk=>by omega);have v2:=b8.q2;have v6:h8.t.get h.n=some (.cells [iv (fr0:Int)] 3):=(k8 _ (by omega)).trans ((q3 h.n (by omega) (by omega) (by omega) (by omega)).trans uz);have v7:h8.t.get (h.n+1)=some (.cells [.val (.slice none 0 0),iv 0] 125):=(k8 _ (by omega)).trans ((q3 _ (by omega) (by omega) (by omega) (by omega)).trans ((fz.at_ (h.n+1) (.inl (by omega))).trans x7));have vT:=(k8 (h5.n+1) (by omega)).trans z3;have vM:=(k8 (hb.n+4) (by omega)).trans z6;have vd:h8.t.get hz.n=some .deferred:=(k8 _ (by omega)).trans ((z1.get (by omega) (by omega)).trans (LH_d hz rc));have keep8: ∀b,b<h'.n-> ¬OwnV av b->h8.t.get b=h'.t.get b:=fun b _ hb2=>k8 b (fun e=>hb2 (.inl (.inr (.inr (.inr e)))));have cg8: ∀e∈es,CgAt xt (OwnV av) h8 e.1 e.2.1:=fun e he=>(z8 e he).keep (by omega) keep8;have mi8:MI xt (OwnV av) h8 (w.bP G row wd) l':=z7.keep (by omega) keep8;have cr8:CRows xt h8 h5.n av es:=z4.keepC (by omega) (fun b cs hb1 hb2=>k8 b (by rintro rfl;rw [z2] at hb2;cases hb2)) (fun e he=>(cg8 e he).cuts);have av1:=cr8.one;obtain ⟨e0,es',hes⟩: ∃e0 es',es=e0::es':=by
     cases es with
     |nil=>simp [Wk.cnd] at z5
     |cons e0 es'=>exact ⟨e0,es',rfl⟩
    have he0:e0.2=w.bandP G row wd m:=by
     rw [hes] at z5;simp only [xZM,Wk.cnd,List.cons.injEq] at z5;exact z5.1
    have hbst:(yD e0 es).2=w.bandP G row wd (m+1):=by rw [qEc,z5,he0,Wk.bandP_succ]
    have les:es.length<=1000000:=by
     have e1:es.length=(w.cnd G row wd m w.ts.length).length:=by rw [<-z5,xZW]
     rw [e1,Wk.cnd,xZO,xZW];have:=xZT (w.sel wd) ((List.range w.ts.length).map (Wk.blkK row (w.m.W - (m+1))));rw [xZW,xZF] at this;simp only [Wk.selTo];omega
    refine qA fun K hn hp=> ?_;simp only [sy.1,rE,reduceIte,rL,syp.1,vT];refine qB (sok xt) (best_c xt h8 h5.n av es cr8 e0 (by rw [hes];rfl) les fun m9 hm9=> ?_);obtain ⟨zb,hzb⟩: ∃zb,zb=(yD e0 es).1:=⟨_,rfl⟩;have cgb:CgAt xt (OwnV av) h8 zb (w.bandP G row wd (m+1)).1:=by
     rw [hzb,<-hbst];rcases qBQ (e0:=e0) es with e|e
     ·rw [e];exact cg8 _ (by rw [hes];exact xZG)
     ·exact cg8 _ e
    rw [<-hzb,hbst];have ozb:=cgb.cuts.one;have czb:=cgb.cuts.cells;simp only [sw.1,rE,reduceIte,rL,rA,syp.1,ozb];obtain ⟨h9,hh9,n9,s9,k9,f9⟩:=nsE (h8.up m9) (.cells [.val (.slice none 0 0),iv 0] 125) (.cells [zb,iv (w.bandP G row wd (m+1)).2] 125);simp only [xZP] at hh9 n9 s9 k9 f9;simp only [<-hh9];apply hn;clear hh9;have l8:=f8h.le;have k9': ∀b,b<h8.n->h9.t.get b=h8.t.get b:=fun b hb=>k9 b (by omega);have y2:=(k9' (hb.n+5) (by omega)).trans v2;have y6:=(k9' h.n (by omega)).trans v6;have yM:=(k9' (hb.n+4) (by omega)).trans vM;have y7:=(k9' (h.n+1) (by omega)).trans v7;have yd:=(k9' hz.n (by omega)).trans vd;obtain ⟨l9,ml9,hl9⟩:=mem_put h9 (hb.n+4) l' yM (fr0:Int) zb (w.bandP G row wd (m+1));refine qA fun K hn hp=> ?_;simp only [sy.1,rE,reduceIte,rL,rA,syp.1,y2,y6,s9,qCj,ml9];apply hn;obtain ⟨h10,hh10⟩: ∃h10:Hp,h10=h9.set (hb.n+4) (.map (mks l9)):=⟨_,rfl⟩;rw [<-hh10];have n10:h10.n=h9.n:=by rw [hh10,xZN]
    have k10: ∀b,b≠hb.n+4->h10.t.get b=h9.t.get b:=fun b hb=>by rw [hh10,xZV,xZY,if_neg hb]
    have w7:=(k10 (h.n+1) (by omega)).trans y7;have w13:=(k10 m9 (by omega)).trans s9;have wd':=(k10 hz.n (by omega)).trans yd;have wM:h10.t.get (hb.n+4)=some (.map (mks l9)):=by rw [hh10,xZV,xZY,if_pos rfl]
    have f89:Fr h8.n h8 h9:=((xZR (xZZ _)).up (by omega)).trans f9 (by omega);have f10h:FrM (fun k=>k=hb.n+4) h.n h h10:=by rw [hh10];exact (f8h.fr f89 (by omega)).set (.inr rfl) _
    refine qA fun K hn hp=> ?_;simp only [sw.1,rE,reduceIte,rL,rA,syp.1,ozb,w7,w13];apply hn;obtain ⟨hF,hhF⟩: ∃hF:Hp,hF=(h10.set (h.n+1) (.cells [zb,iv (w.bandP G row wd (m+1)).2] 125)).del hz.n:=⟨_,rfl⟩;have nF:hF.n=h10.n:=by rw [hhF,Hp.del_n,xZN]
    have kF: ∀b,b≠hz.n->b≠h.n+1->hF.t.get b=h10.t.get b:=fun b q1 q2=>by rw [hhF,Hp.del_t,xZY,if_neg q1,xZV,xZY,if_neg q2]
    have keepF: ∀b,b<h8.n-> ¬OwnV av b->hF.t.get b=h8.t.get b:=fun b q1 q2=>by
     rw [kF b (fun e=>q2 (.inl (.inr (.inr (.inl e))))) (fun e=>q2 (.inl (.inl (.inr e)))),k10 b (fun e=>q2 (.inl (.inl (.inl (e▸ownm))))),k9' b q1]
    have toF: ∀{z:AV} {ls:List (Int×Int×Int)},CgAt xt (OwnV av) h8 z ls->CgAt xt Own hF z ls:=fun {z ls} c=>(c.keep (by omega) keepF).less fun b q=> .inl (.inl (.inl q));have pe:w.bP G row wd (fr0:Int)=w.bandP G row wd (m+1):=by
     simp only [Wk.bP,xZK]
     congr 1
     omega
    have miF:MI xt Own hF (w.bP G row wd) l9:=fun e he=>by
     rcases hl9 e he with q|rfl
     ·exact ⟨toF (mi8 e q).1,(mi8 e q).2⟩
     ·exact ⟨toF cgb,pe.symm⟩
    have mF:hF.t.get (hb.n+4)=some (.map (mks l9)):=(kF _ (by omega) (by omega)).trans wM;have cgF:=toF cgb;rw [hhF] at miF mF cgF;refine qD (end_cd (v:= .agg [zb,iv (w.bandP G row wd (m+1)).2]) (d:=hz.n) res190 ?_ ?_ ⟨?_,zb,l9,rfl,mF,miF,cgF⟩)
    ·rw [xZV,xZY,if_neg (by omega)];exact wd'
    ·have ne: ¬h.n+1=hz.n:=by omega
     simp only [sy.1,rE,reduceIte,rA,syp.1,w7,Hp.del_t,ne]
    ·exact (f10h.set (.inl ⟨by omega,by omega⟩) _).del (by omega) (by rw [xZN];omega)
end Go.Proofs.Kn
namespace Go.Proofs.Kn
open Go Go.Ev
set_option maxRecDepth 100000
set_option maxHeartbeats 4000000
theorem ft145 (xt:Addr->Option Value):(SE xt).ft.get 145=some Tryz.f145:=by kernel_rfl
theorem res145:Tryz.f145.results.toList=[.cell 6 125]:=by kernel_rfl
def CgR (xt:Addr->Option Value) (h:Hp) (c:Cg) (res:CR) (h':Hp):Prop:=Fr h.n h h'/\ ∃z,res= .ret (.agg [z,iv c.2])/\NewC xt h.n h' z c.1
theorem band_c (xt:Addr->Option Value) (h:Hp) (w:Wk) (his:w.Is) (N M:Nat) (v:AV) (G:Th.Grid) (hbd:w.Bd xt h N M v G) (hbn:w.m.bnd=some G) (row wd:Nat) (hwd1:1<=wd) (hwd3:wd<=3):
  FnA (SE xt) 145 [.agg (w.bc v),iv (row:Int),iv (wd:Int)] h (CgR xt h (w.bandP G row wd w.m.W)):=by
 refine xZE (sok xt) (ft145 xt) rfl 13 rfl ?_;obtain ⟨o1,o2,o3,o4,o5⟩:=hbd.at_.ones;have onev:=hbd.sg.one;refine qA fun K hn hp=> ?_;simp only [sw.1,rE,reduceIte,rL,rA,syp.1];apply hn;obtain ⟨h1,hh1,n1,s1,k1,f1⟩:=yH h (.cells (w.bc v) 121);obtain ⟨h2,hh2,n2,s2,k2,f2⟩:=wE f1 n1 (.cells [iv (row:Int)] 3);obtain ⟨h3,hh3,n3,s3,k3,f3⟩:=wE f2 n2 (.cells [iv (wd:Int)] 3);obtain ⟨h4,hh4,n4,s4,k4,f4⟩:=wE f3 n3 (.cells [.val (.slice none 0 0),iv 0] 125);simp only [<-hh1,<-hh2,<-hh3,<-hh4];clear hh1 hh2 hh3 hh4;simp only [rA] at n2 n3 n4 s3 s4;refine qA fun K hn hp=> ?_;have cm: ∀b,cellsOf (.mp b)=[.mp b]:=fun _=>rfl;have om: ∀b,Go.Ev.one (.mp b)=true:=fun _=>rfl;have cf: ∀f a b,cellsOf (.fn f a b)=[.fn f a b]:=fun _ _ _=>rfl;have of': ∀f a b,Go.Ev.one (.fn f a b)=true:=fun _ _ _=>rfl;have ll: ∀a:AV,([a]:List AV).length=1:=fun _=>rfl;have al: ∀a:AV,([a]:List AV).all Go.Ev.one=Go.Ev.one a:=fun _=>by simp
 simp only [sw.1,rE,reduceIte,rL,syp.1,cm,om,WOp_map];obtain ⟨h5,hh5,n5,s5,k5,f5⟩:=wE f4 n4 (.map []);obtain ⟨h6,hh6,n6,s6,k6,f6⟩:=nsF f5 n5 (.cells [.val (.map none)] 240) (.cells [.mp (h.n+4)] 240);simp only [rA] at n5 n6 s5 s6 k6;rw [n5] at hh6;simp only [sy.1,<-hh5,n4];rw [<-hh6];apply hn;clear hh5 hh6;refine qA fun K hn hp=> ?_;simp only [sy.1,rL,syp.1,n6];obtain ⟨h7,hh7,n7,s7,k7,f7⟩:=wE f6 n6 (.cells [.val .nilFunc] 126);simp only [rA] at n7 s7 k7;rw [<-hh7];apply hn;clear hh7;refine qA fun K hn hp=> ?_;simp only [sw.1,rE,reduceIte,rL,syp.1,s7];apply hn;obtain ⟨h8,hh8⟩: ∃h8:Hp,h8=h7.set (h.n+6) (.cells [slv h.n] 126):=⟨_,rfl⟩;rw [<-hh8];have n8:h8.n=h.n+7:=by rw [hh8,xZN,n7]
 have k8: ∀b,b<h.n+6->h8.t.get b=h7.t.get b:=fun b hb=>by rw [hh8,xZV,xZY,if_neg (by omega)]
 have s8:h8.t.get (h.n+6)=some (.cells [slv h.n] 126):=by rw [hh8,xZV,xZY,if_pos rfl]
 have f8:Fr h.n h h8:=by rw [hh8];exact f7.set (by omega) (by omega) _
 clear hh8;have t5:=(k8 (h.n+5) (by omega)).trans ((k7 _ (by omega)).trans s6);have t4:=(k8 (h.n+4) (by omega)).trans ((k7 _ (by omega)).trans ((k6 _ (by omega)).trans s5));have t3:=(k8 (h.n+3) (by omega)).trans ((k7 _ (by omega)).trans ((k6 _ (by omega)).trans ((k5 _ (by omega)).trans s4)));have t2:=(k8 (h.n+2) (by omega)).trans ((k7 _ (by omega)).trans ((k6 _ (by omega)).trans ((k5 _ (by omega)).trans ((k4 _ (by omega)).trans s3))));have t1:=(k8 (h.n+1) (by omega)).trans ((k7 _ (by omega)).trans ((k6 _ (by omega)).trans ((k5 _ (by omega)).trans ((k4 _ (by omega)).trans ((k3 _ (by omega)).trans s2)))));have t0:=(k8 h.n (by omega)).trans ((k7 _ (by omega)).trans ((k6 _ (by omega)).trans ((k5 _ (by omega)).trans ((k4 _ (by omega)).trans ((k3 _ (by omega)).trans ((k2 _ (by omega)).trans s1))))));have be:BEnv w h v row wd h8:=⟨f8,t0,t1,t2,t5,s8,by omega⟩;refine qA fun K hn hp=> ?_;simp only [sy.1,rE,reduceIte,rL,syp.1,s8];have bb:=band1_c xt w his h N M v G hbd hbn row wd hwd1 hwd3 w.m.W (xZZ _) h8 [] (fun b=>b<h8.n) be t4 (fun e he=>(by cases he)) (fun b q=>q) (by omega);rw [Nat.sub_self] at bb;refine vN (sok xt) (xZS bb fun res h9 hres=> ?_);obtain ⟨f9,z,l',rfl,m9,mi9,cg9⟩:=hres;have oz:=cg9.cuts.one;have cz:=cg9.cuts.cells;have u3:=(f9.get (k:=h.n+3) (by omega) (by omega)).trans t3;have f9h:Fr h.n h h9:=f9.toFr f8 (by omega) fun k e=>by omega
 have l9:=f9.le;simp only [sw.1,rE,reduceIte,rL,rA,syp.1,oz,u3];refine hn _ _ (qD (pU (v:= .agg [z,iv (w.bandP G row wd w.m.W).2]) res145 ?_ ⟨f9h.set (by omega) (by omega) _,z,rfl,?_⟩))
 ·simp only [sy.1,rE,reduceIte,rA,syp.1]
 ·exact (NewC.set (N:=h8.n) ⟨cg9.cuts,cg9.inn,fun b off n s e=>by have:=cg9.av b off n s e;omega⟩ (by omega) _).lower (by omega)
end Go.Proofs.Kn
namespace Go.Proofs.Kn
open Go Go.Ev
set_option maxRecDepth 100000
set_option maxHeartbeats 4000000
def Wk.packP (w:Wk) (G:Th.Grid):Nat->Cg
 |0=>([],0)
 |m+1=>qAV (Wk.packP w G m) (Wk.packP w G m::(w.ws.filter fun x=>decide (x<=((m+1:Nat):Int))).map fun x=>((w.bandP G (w.m.cells.length - (m+1)) x.toNat w.m.W).1++(Wk.packP w G (m - (x.toNat - 1))).1,(w.bandP G (w.m.cells.length - (m+1)) x.toNat w.m.W).2+(Wk.packP w G (m - (x.toNat - 1))).2))
termination_by m=>m
decreasing_by all_goals omega
def Wk.pone (w:Wk) (G:Th.Grid) (m:Nat) (x:Int):Cg:=((w.bandP G (w.m.cells.length - (m+1)) x.toNat w.m.W).1++(w.packP G (m - (x.toNat - 1))).1,(w.bandP G (w.m.cells.length - (m+1)) x.toNat w.m.W).2+(w.packP G (m - (x.toNat - 1))).2)
def Wk.pcnd (w:Wk) (G:Th.Grid) (m k:Nat):List Cg:=w.packP G m::((w.ws.take k).filter fun x=>decide (x<=((m+1:Nat):Int))).map (w.pone G m)
theorem Wk.packP_zero (w:Wk) (G:Th.Grid):w.packP G 0=([],0):=by rw [Wk.packP]
theorem Wk.packP_succ (w:Wk) (G:Th.Grid) (m:Nat):w.packP G (m+1)=qAV (w.packP G m) (w.pcnd G m w.ws.length):=by rw [Wk.packP,Wk.pcnd,List.take_length];rfl
theorem Wk.pcnd_succ (w:Wk) (G:Th.Grid) (m k:Nat) {x:Int} (hx:w.ws[k]? =some x):w.pcnd G m (k+1)=w.pcnd G m k++if x<=((m+1:Nat):Int) then [w.pone G m x] else []:=by
 simp only [Wk.pcnd,List.take_succ,hx,Option.toList_some,List.filter_append,xZJ,List.cons_append];by_cases q:x<=((m+1:Nat):Int)
 ·simp only [if_pos q,xZC,decide_eq_true q,List.filter_nil,if_true,xZM,xZH]
 ·simp only [if_neg q,xZC,decide_eq_false q,List.filter_nil,xZL,if_false,xZH]
theorem Wk.Is.packP_bd {w:Wk} (his:w.Is) {G:Th.Grid} (hb:w.m.bnd=some G): ∀m,(w.packP G m).1.length<=8*m/\0<=(w.packP G m).2/\(w.packP G m).2<=52000*m:=by
 intro m;induction m using xZI with
 |ind m ih=>
 cases m with
 |zero=>rw [Wk.packP_zero];simp
 |succ m=>
  have i1:=ih m (by omega);have c8:=his.m.c8;have key: ∀c∈w.pcnd G m w.ws.length,c.1.length<=8*(m+1)/\0<=c.2/\c.2<=52000*((m+1:Nat):Int):=by
   intro c hc;rcases List.mem_cons.1 hc with rfl|hc
   ·omega
   ·obtain ⟨x,hx,rfl⟩:=List.mem_map.1 hc;obtain ⟨hx1,hx2⟩:=List.mem_filter.1 hx;have hx2:x<=((m+1:Nat):Int):=of_decide_eq_true hx2;have hw:=Wk.ws_mem his (List.mem_of_mem_take hx1);have i2:=ih (m - (x.toNat - 1)) (by omega);have i3:=his.bandP_bd hb (w.m.cells.length - (m+1)) x.toNat w.m.W;simp only [Wk.pone,List.length_append];omega
  rw [Wk.packP_succ];rcases bT (c0:=w.packP G m) (l:=w.pcnd G m w.ws.length) with e|e
  ·rw [e];omega
  ·exact key _ e
abbrev CgL:=List (AV×Cg)
theorem ft73 (xt:Addr->Option Value):(SE xt).ft.get 73=some Tryz.f73:=by kernel_rfl
theorem res73:Tryz.f73.results.toList=[.cell 4 125]:=by kernel_rfl
theorem pack1_c (xt:Addr->Option Value) (w:Wk) (his:w.Is) (N M:Nat) (v:AV) (G:Th.Grid) (hbn:w.m.bnd=some G): ∀m,m<=w.m.cells.length-> ∀h:Hp,w.Bd xt h N M v G->
  FnA (SE xt) 73 [.agg (w.bc v),iv ((w.m.cells.length - m:Nat):Int)] h (CgR xt h (w.packP G m)):=by
 intro m;induction m using xZI with
 |ind m ih=>
 intro hm h hbd;refine xZE (sok xt) (ft73 xt) rfl 47 rfl ?_;have c8:=his.m.c8;have r6:=his.m.r6;have w3:=Wk.ws_len his;obtain ⟨o1,o2,o3,o4,o5⟩:=hbd.at_.ones;have onev:=hbd.sg.one;obtain ⟨fr0,hfr0⟩: ∃fr0:Nat,fr0=w.m.cells.length - m:=⟨_,rfl⟩;rw [<-hfr0];refine qA fun K hn hp=> ?_;simp only [sw.1,rE,reduceIte,rL,syp.1];apply hn;obtain ⟨h1,hh1,n1,s1,k1,f1⟩:=yH h (.cells (w.bc v) 121);obtain ⟨h2,hh2,n2,s2,k2,f2⟩:=wE f1 n1 (.cells [.val (.slice none 0 0),iv 0] 125);simp only [<-hh1,<-hh2];clear hh1 hh2;have u0:=(k2 h.n (by omega)).trans s1;simp only [rA] at n2;have b2:=hbd.fr f2 (xZZ _);refine qE ?_;refine qA fun K hn hp=> ?_;simp only [sy.1,rE,reduceIte,rL,rA,u0];refine qB (sok xt) (brows_c xt h2 w b2.at_ v onev fun m3 hm3=> ?_);simp only [sy.1,rE,reduceIte,rL];apply hn;obtain ⟨h3,hh3⟩: ∃h3,h3=h2.up m3:=⟨_,rfl⟩;rw [<-hh3];have n3:h.n+2<h3.n:=by rw [hh3,xZP];omega
 have f3:Fr h.n h h3:=by rw [hh3];exact f2.up (xZQ hm3)
 have s3:h3.t.get (h.n+1)=some (.cells [.val (.slice none 0 0),iv 0] 125):=by rw [hh3];exact s2
 have u3:h3.t.get h.n=some (.cells (w.bc v) 121):=by rw [hh3];exact u0
 have b3:=hbd.fr f3 (xZZ _);clear hh3;cases m with
 |zero=>
  have d:decide ((w.m.cells.length:Int)<=(fr0:Int))=true:=decide_eq_true (by omega);refine qC true (by simp only [sy.1,rE,reduceIte,d]) (fun _=> ?_) (fun hx=>by cases hx);refine qE ?_;refine qA fun K hn hp=> ?_;simp only [sw.1,rE,reduceIte,rL,rA,syp.1,s3,bd125z];apply hn;refine jF (pU (v:= .agg [.val (.slice none 0 0),iv 0]) res73 ?_ ⟨f3.set (by omega) (by omega) _,.val (.slice none 0 0),?_,?_⟩)
  ·simp only [sy.1,rE,reduceIte,rA,syp.1,s3]
  ·rw [Wk.packP_zero]
  ·rw [Wk.packP_zero];exact ⟨Cuts.nil,fun _ _ _ e=>(by cases e),fun _ _ _ _ e=>(by cases e)⟩
 |succ m=>
  have d:decide ((w.m.cells.length:Int)<=(fr0:Int))=false:=decide_eq_false (by omega);refine qC false (by simp only [sy.1,rE,reduceIte,d]) (fun hx=>by cases hx) (fun _=> ?_);refine qI ?_;have w1:IntKind.i64.wrap ((fr0:Int)+1)=((w.m.cells.length - m:Nat):Int):=by rw [qM _ (by omega) (by omega)];omega
  refine qA fun K hn hp=> ?_;simp only [sy.1,rE,reduceIte,rL,rA,u3,w1];refine qB (sok xt) (xZS (ih m (by omega) (by omega) h3 b3) fun res h5 hres=> ?_);obtain ⟨f5,z1,rfl,nc5⟩:=hres;have oz1:=nc5.cuts.one;have cz1:=nc5.cuts.cells;simp only [sy.1,rE,reduceIte,rL,cz1,jI,bs192];obtain ⟨h6,hh6,n6,s6,k6,f6⟩:=yH h5 (.cells [z1,iv (w.packP G m).2] 125);rw [<-hh6];apply hn;clear hh6;have l5:=f5.le;have f6h:Fr h.n h h6:=(f3.trans f5 (by omega)).trans f6 (by omega);have b6:=hbd.fr f6h (xZZ _);have u6:=(k6 h.n (by omega)).trans ((f5.at_ _ (.inl (by omega))).trans u3);have v6:=(k6 (h.n+1) (by omega)).trans ((f5.at_ _ (.inl (by omega))).trans s3);refine qE ?_;refine qA fun K hn hp=> ?_;simp only [sy.1,rE,reduceIte,rL,rA,u6];refine qB (sok xt) (xZS (widths_c xt h6 w b6.at_ his v onev) fun res h7 hres=> ?_);obtain ⟨f7,zw,rfl,rw7,low⟩:=hres;have ozw:=rw7.one;have lzw: ∀h',zP tb h' 75 zw=some w.ws.length:=fun h'=>by have:=rw7.len (h':=h') pY rfl;simpa using this
  simp only [sy.1,rE,reduceIte,rL,syw.1,lzw];apply hn;have l7:=f7.le;have f57:Fr h5.n h5 h7:=f6.trans f7 (by omega);have cr7:CRows xt h7 h5.n (.sl h5.n 0 1 2) [(z1,w.packP G m)]:=by
   refine ⟨.inr ⟨h5.n,rfl,xZZ _,by omega,?_,rfl⟩,fun e he=> ?_⟩
   ·rw [f7.at_ h5.n (.inl (by omega)),s6];rfl
   ·rw [xZU] at he;subst he;exact ⟨nc5.cuts.fr f57 (xZZ _),fun b off n s e off' n' s' e'=>by cases e';have:=nc5.cuts.row.lt e;omega⟩
  have f7h:Fr h.n h h7:=f6h.trans f7 (by omega);have u7:=(f7.at_ h.n (.inl (by omega))).trans u6;have v7:=(f7.at_ (h.n+1) (.inl (by omega))).trans v6;refine qG fun KA A1 A2 A3 A4 A5=> ?_;refine qV (sok xt) (fun st=> ∃(k:Nat) (av:AV) (es:CgL) (hg:Hp) (tm:T AV),st=⟨tm,47,hg,[]⟩/\k<=w.ws.length/\tm.get 1=some (iv (fr0:Int))/\tm.get 2=some (.ptr h.n 0)/\tm.get 4=some (.ptr (h.n+1) 0)/\tm.get 5=some (av)/\tm.get 19=some (zw)/\tm.get 20=some (iv (w.ws.length:Int))/\tm.get 21=some (iv k)/\Fr h5.n h7 hg/\RowAt xt hg 1 zw (w.ws.map c1)/\pX av zw/\CRows xt hg h5.n av es/\es.map Prod.snd=w.pcnd G m k/\(∀e∈es,Inn e.1/\ ∀b off n s,e.1= .sl b off n s->h.n+2<=b)) (fun st=>w.ws.length - (match st.tm.get 21 with|some (.val (.int _ n))=>n.toNat|_=>0)) ?_ ?_
  ·rintro st ⟨k,av,es,hg,tm,rfl,hkA,g1,g2,g4,g5,g19,g20,g21,fg,rwg,apg,crg,mpg,ing⟩;have muA:=g21;have fgh:Fr h.n h hg:=f7h.trans fg (by omega);have lg:=fg.le;have ug:=(fg.at_ h.n (.inl (by omega))).trans u7;have vg:=(fg.at_ (h.n+1) (.inl (by omega))).trans v7;refine qA fun K hn hp=> ?_;simp only [sy.1,rL,jU,g20,g21];apply hn;by_cases hk:k<w.ws.length
   ·refine qC true (by simp only [sy.1,reduceIte,hk]) (fun _=> ?_) (fun hx=>by cases hx);refine qI ?_;obtain ⟨x,hx⟩: ∃x,w.ws[k]? =some x:=⟨_,List.getElem?_eq_getElem hk⟩;have hxm:=List.mem_of_getElem? hx;have hx13:=Wk.ws_mem his hxm;obtain ⟨xn,rfl⟩: ∃xn:Nat,x=(xn:Int):=⟨x.toNat,by omega⟩;have i1:=rwg.idx pY rfl tg3 rfl (i:=k) (by simpa using hk) (k:= .i64);have i2:=rwg.load0 tg3 rfl (i:=k) (c:=c1 (xn:Int)) (by rw [List.getElem?_map,hx];rfl) rfl;simp only [Nat.mul_one] at i1 i2;refine qG fun KB B1 B2 B3 B4 B5=> ?_;refine qA fun K hn hp=> ?_;simp only [sy.1,rE,reduceIte,rL,g19,g21,i1,i2];apply hn;have w2:IntKind.i64.wrap ((fr0:Int)+(xn:Int))=((fr0+xn:Nat):Int):=by rw [qM _ (by omega) (by omega)];omega
    have bg:=hbd.fr fgh (xZZ _);refine qA fun K hn hp=> ?_;simp only [sy.1,rE,reduceIte,rL,rA,g1,g2,ug,w2];refine qB (sok xt) (brows_c xt hg w bg.at_ v onev fun m8 hm8=> ?_);simp only [sy.1,rE,reduceIte,rL];apply hn;obtain ⟨hA,hhA⟩: ∃hA,hA=hg.up m8:=⟨_,rfl⟩;rw [<-hhA];have fA:Fr hg.n hg hA:=by rw [hhA];exact (xZR (xZZ _)).up (xZQ hm8)
    have uA:hA.t.get h.n=some (.cells (w.bc v) 121):=by rw [hhA];exact ug
    have nA:hg.n<hA.n:=by rw [hhA,xZP];exact hm8
    have bA:=bg.fr fA (xZZ _);have crA:=crg.fr fA (xZZ _);have rwA:=rwg.fr fA (xZZ _);clear hhA;by_cases q:fr0+xn<=w.m.cells.length
    ·have dq:decide (((fr0+xn:Nat):Int)<=(w.m.cells.length:Int))=true:=decide_eq_true (by omega);refine qH true (by simp only [sy.1,rE,reduceIte,dq]) (fun _=> ?_) (fun hx=>by cases hx);have em:(w.m.cells.length - (m - (xn - 1)):Nat)=fr0+xn:=by omega
     have onea:=crA.one;refine regG (sok xt) 12 [11] [] [(5,0)] (by kernel_rfl) fun K hn hp=> ?_;simp only [sy.1,rE,reduceIte,rL,rA,syw.1,g1,g2,g5,uA,syg.1,xZL,jI];refine qB (sok xt) (FnA.inc (xZS (band_c xt hA w his N M v G bA hbn fr0 xn (by omega) (by omega)) fun res hB0 hres=> ?_));obtain ⟨fB0,zB,rfl,ncB0⟩:=hres;obtain ⟨hB,hhB⟩: ∃hB,hB=hB0.up (hB0.n+1):=⟨_,rfl⟩;have fB:Fr hA.n hA hB:=by rw [hhB];exact fB0.up (xZX _)
     have ltB:hA.n<hB.n:=by have:=fB0.lo;rw [hhB,xZP];omega
     have ncB:NewC xt hA.n hB zB (w.bandP G fr0 xn w.m.W).1:=by rw [hhB];exact ncB0.fr ((xZR (xZZ _)).up (xZX _)) (xZZ _)
     rw [<-hhB];clear hhB fB0 ncB0;have uB:=(fB.at_ h.n (.inl (by omega))).trans uA;have bB:=bA.fr fB (xZZ _);simp only [sy.1,rE,reduceIte,rL,rA,g1,g2,uA,uB,syg.1,xV ltB,w2];rw [<-em];refine qB (sok xt) (FnA.inc (xZS (ih (m - (xn - 1)) (by omega) (by omega) hB bB) fun res hC0 hres=> ?_));obtain ⟨fC0,zC,rfl,ncC0⟩:=hres;obtain ⟨hC,hhC⟩: ∃hC,hC=hC0.up (hC0.n+1):=⟨_,rfl⟩;have fC:Fr hB.n hB hC:=by rw [hhC];exact fC0.up (xZX _)
     have ltC:hB.n<hC.n:=by have:=fC0.lo;rw [hhC,xZP];omega
     have ncC:NewC xt hB.n hC zC (w.packP G (m - (xn - 1))).1:=by rw [hhC];exact ncC0.fr ((xZR (xZZ _)).up (xZX _)) (xZZ _)
     rw [<-hhC];clear hhC fC0 ncC0;simp only [sy.1,rE,reduceIte,rL,xV ltC];have bd1:=his.bandP_bd hbn fr0 xn w.m.W;have bd2:=his.packP_bd hbn (m - (xn - 1));refine qB (sok xt) (FnA.inc (xZS (then_c xt hC zB zC (w.bandP G fr0 xn w.m.W) (w.packP G (m - (xn - 1))) (ncB.fr fC (xZZ _)).cuts ncC.cuts ncB.inn ncC.inn (by omega) bd1.2.1 (by omega) bd2.2.1 (by omega)) fun res hD0 hres=> ?_));obtain ⟨fD0,zD,rfl,ncD0⟩:=hres;obtain ⟨hD,hhD⟩: ∃hD,hD=hD0.up (hD0.n+1):=⟨_,rfl⟩;have fD:Fr hC.n hC hD:=by rw [hhD];exact fD0.up (xZX _)
     have ltD:hC.n<hD.n:=by have:=fD0.lo;rw [hhD,xZP];omega
     have ncD:NewC xt hC.n hD zD ((w.bandP G fr0 xn w.m.W).1++(w.packP G (m - (xn - 1))).1):=by rw [hhD];exact ncD0.fr ((xZR (xZZ _)).up (xZX _)) (xZZ _)
     rw [<-hhD];clear hhD fD0 ncD0;have czD:=ncD.cuts.cells;have ozD:=ncD.cuts.one;have fAD:Fr hA.n hA hD:=(fB.trans fC (by omega)).trans fD (by omega);have crD:=crA.fr fAD (xZZ _);have rwD:=rwA.fr fAD (xZZ _);have les:es.length<=1000000:=by
      have e1:es.length=(w.pcnd G m k).length:=by rw [<-mpg,xZW]
      rw [e1,Wk.pcnd,xZO,xZW];have:=xZT (fun x=>decide (x<=((m+1:Nat):Int))) (w.ws.take k);rw [xZD] at this;omega
     obtain ⟨v',hE,p1,p2,p3,p4,p5,p6⟩:=crD.append (by omega) (z:=zD) (c:=((w.bandP G fr0 xn w.m.W).1++(w.packP G (m - (xn - 1))).1,(w.bandP G fr0 xn w.m.W).2+(w.packP G (m - (xn - 1))).2)) ncD.cuts (fun b off n s e off' n' s' e'=>by
      have:=ncD.lo b off n s e;rcases crA.own with ⟨_,_,o⟩|⟨b',o,_,o2,_⟩
      ·rw [o] at e';cases e'
      ·rw [o] at e';cases e';omega) (by omega)
     have p1':qS Tryz.prog tb xt .append [192,192] [av,.sl hD.n 0 1 2] {t:=hD.t.put (some (.cells [zD,iv ((w.bandP G fr0 xn w.m.W).2+(w.packP G (m - (xn - 1))).2)] 125)) hD.n,n:=hD.n+1}=some (v',hE):=p1;simp only [sy.1,rE,reduceIte,rL,czD,syg.1,xV ltD,bs192,p1'];refine hn _ _ (B1 _ ?_);refine reg fun K hn hp=> ?_;simp only [sy.1,rE,reduceIte,rL,g21,qQ hk (show w.ws.length<=9223372036854775807 by omega)];apply hn;refine ⟨⟨k+1,v',es++[(zD,_)],hE,_,rfl,by omega,(by simp [xZY,g1]),(by simp [xZY,g2]),(by simp [xZY,g4]),(by simp [xZY]),(by simp [xZY,g19]),(by simp [xZY,g20]),(by simp [xZY]),((fg.trans fA (by omega)).trans fAD (by omega)).trans p3 (by omega),?_,?_,p2,?_,?_⟩,by simpa [xZY,muA] using (by omega:w.ws.length - (k+1)<w.ws.length - k)⟩
     ·exact rwD.keepB p3.le fun b off n s e hb=>p5 b hb fun off' n' s' e'=>apg b off n s e off' n' s' e'
     ·intro b off n s e off' n' s' e';have:=rwD.lt e;rw [p4] at e';cases e';omega
     ·rw [Wk.pcnd_succ w G m k hx,if_pos (by omega),xZJ,mpg];simp only [Wk.pone,xZM,xZH,xZK,<-hfr0]
     ·intro e he;rcases List.mem_append.1 he with he|he
      ·exact ing e he
      ·rw [xZU] at he;subst he;exact ⟨ncD.inn,fun b off n s e=>by have:=ncD.lo b off n s e;omega⟩
    ·have dq:decide (((fr0+xn:Nat):Int)<=(w.m.cells.length:Int))=false:=decide_eq_false (by omega);refine qH false (by simp only [sy.1,rE,reduceIte,dq]) (fun hx=>by cases hx) (fun _=> ?_);refine qX (B1 _ ?_);refine reg fun K hn hp=> ?_;simp only [sy.1,rE,reduceIte,rL,g21,qQ hk (show w.ws.length<=9223372036854775807 by omega)];apply hn;refine ⟨⟨k+1,av,es,hA,_,rfl,by omega,(by simp [xZY,g1]),(by simp [xZY,g2]),(by simp [xZY,g4]),(by simp [xZY,g5]),(by simp [xZY,g19]),(by simp [xZY,g20]),(by simp [xZY]),fg.trans fA (by omega),rwA,apg,crA,?_,ing⟩,by simpa [xZY,muA] using (by omega:w.ws.length - (k+1)<w.ws.length - k)⟩;rw [Wk.pcnd_succ w G m k hx,if_neg (by omega),List.append_nil];exact mpg
   ·refine qC false (by simp only [sy.1,reduceIte,hk]) (fun hx=>by cases hx) (fun _=> ?_);refine qT (A2 _ ?_);obtain rfl:k=w.ws.length:=by omega
    obtain ⟨e0,es',hes⟩: ∃e0 es',es=e0::es':=by
     cases es with
     |nil=>simp [Wk.pcnd] at mpg
     |cons e0 es'=>exact ⟨e0,es',rfl⟩
    have he0:e0.2=w.packP G m:=by
     rw [hes] at mpg;simp only [xZM,Wk.pcnd,List.cons.injEq] at mpg;exact mpg.1
    have hbst:(yD e0 es).2=w.packP G (m+1):=by rw [qEc,mpg,he0,Wk.packP_succ]
    have les:es.length<=1000000:=by
     have e1:es.length=(w.pcnd G m w.ws.length).length:=by rw [<-mpg,xZW]
     rw [e1,Wk.pcnd,xZO,xZW];have:=xZT (fun x=>decide (x<=((m+1:Nat):Int))) (w.ws.take w.ws.length);rw [xZD] at this;omega
    have onea:=crg.one;refine qA fun K hn hp=> ?_;simp only [sy.1,rE,reduceIte,rL,g5];refine qB (sok xt) (best_c xt hg h5.n av es crg e0 (by rw [hes];rfl) les fun m9 hm9=> ?_);obtain ⟨zb,hzb⟩: ∃zb,zb=(yD e0 es).1:=⟨_,rfl⟩;have cgb:NewC xt (h.n+2) hg zb (w.packP G (m+1)).1:=by
     rw [hzb,<-hbst];have key: ∀e∈es,NewC xt (h.n+2) hg e.1 e.2.1:=fun e he=>⟨(crg.at_ e he).1,(ing e he).1,(ing e he).2⟩;rcases qBQ (e0:=e0) es with e|e
     ·rw [e];exact key _ (by rw [hes];exact xZG)
     ·exact key _ e
    rw [<-hzb,hbst];have ozb:=cgb.cuts.one;have czb:=cgb.cuts.cells;simp only [sw.1,rE,reduceIte,rL,rA,syp.1,g4,vg,ozb];refine hn _ _ (qD (pU (v:= .agg [zb,iv (w.packP G (m+1)).2]) res73 ?_ ⟨(fgh.up (xZQ hm9)).set (by omega) (by simp only [xZP];omega) _,zb,rfl,?_⟩))
    ·simp only [sy.1,rE,reduceIte,rA,syp.1,g4,vg]
    ·exact (NewC.set (N:=h.n+2) (cgb.fr ((xZR (xZZ _)).up (xZQ hm9)) (xZZ _)) (by omega) _).lower (by omega)
  ·have ap0:pX (.sl h5.n 0 1 2) zw:=fun b off n s e off' n' s' e'=>by cases e';have:=low _ _ _ _ e;omega
   have mp0:([(z1,w.packP G m)]:CgL).map Prod.snd=w.pcnd G m 0:=by simp [Wk.pcnd]
   have in0: ∀e∈([(z1,w.packP G m)]:CgL),Inn e.1/\ ∀b off n s,e.1= .sl b off n s->h.n+2<=b:=fun e he=>by
    rw [xZU] at he;subst he;exact ⟨nc5.inn,fun b off n s e=>by have:=nc5.lo b off n s e;omega⟩
   exact ⟨0,_,_,h7,_,rfl,(by omega),(by simp [xZY]),(by simp [xZY]),(by simp [xZY]),(by simp [xZY]),(by simp [xZY]),(by simp [xZY]),(by simp [xZY]),xZR (by omega),rw7,ap0,cr7,mp0,in0⟩
end Go.Proofs.Kn
namespace Go.Proofs.Kn
open Go Go.Ev
set_option maxRecDepth 100000
set_option maxHeartbeats 4000000
def Wk.pkd (w:Wk):Cg×Int:=
 if w.ok=true then
  match w.m.bnd with
  |none=>(([],0),7)
  |some G=>(w.packP G w.m.cells.length,0)
 else (([],0),2)
theorem ft17 (xt:Addr->Option Value):(SE xt).ft.get 17=some Tryz.f17:=by kernel_rfl
theorem res17:Tryz.f17.results.toList=[.tmp 2,.tmp 3,.tmp 4]:=by kernel_rfl
theorem end_3 {E:Env} {fn:Func} {K:CR->Hp->Prop} {tm:T AV} {nt:Nat} {h:Hp} {a b c:Tmp} (h1:fn.results.toList=[.tmp a,.tmp b,.tmp c]) (h3:K (.ret (.tup [(tm.get a).getD default,(tm.get b).getD default,(tm.get c).getD default])) h):gD E fn K .ret ⟨tm,nt,h,[]⟩:=by
 refine ⟨h,_,rfl,by rw [h1];rfl,?_⟩;have e1:(match tm.get a with|some a=>a|none=>default)=(tm.get a).getD default:=by cases tm.get a<;>rfl
 have e2:(match tm.get b with|some a=>a|none=>default)=(tm.get b).getD default:=by cases tm.get b<;>rfl
 have e3:(match tm.get c with|some a=>a|none=>default)=(tm.get c).getD default:=by cases tm.get c<;>rfl
 show K (.ret (.tup [match tm.get a with|some a=>a|none=>default,match tm.get b with|some a=>a|none=>default,match tm.get c with|some a=>a|none=>default])) h;rw [e1,e2,e3];exact h3
theorem packd_c (xt:Addr->Option Value) (h:Hp) (w:Wk) (ha:w.At xt h):
  FnA (SE xt) 17 [w.av] h (fun res h'=>Fr h.n h h'/\ ∃z,res= .ret (.tup [z,iv w.pkd.1.2,iv w.pkd.2])/\Cuts xt h' z w.pkd.1.1):=by
 refine xZE (sok xt) (ft17 xt) rfl 25 rfl ?_;obtain ⟨o1,o2,o3,o4,o5⟩:=ha.ones;refine qA fun K hn hp=> ?_;simp only [sw.1,reduceIte,rL];apply hn;obtain ⟨h1,hh1,n1,s1,k1,f1⟩:=yH h (.cells w.cs 30);rw [<-hh1];clear hh1;have ha1:=ha.fr f1 (xZZ _);refine qE ?_;refine qA fun K hn hp=> ?_;simp only [sy.1,rE,reduceIte,rL,rA,s1];refine qB (sok xt) (isWork_c xt _ w ha1 fun m1 hm1=> ?_);cases e1:w.ok
 ·simp only [sy.1,rE,reduceIte,rL];apply hn;refine qC true (by simp only [sy.1,rE,reduceIte]) (fun _=> ?_) (fun hx=>by cases hx);refine qE ?_;refine qA fun K hn hp=> ?_;simp only [sy.1,rL];apply hn;refine jF (end_3 res17 ⟨f1.up (xZQ hm1),.val (.slice none 0 0),?_,?_⟩)
  ·simp [xZY,Wk.pkd,e1]
  ·simp only [Wk.pkd,e1];exact Cuts.nil
 have his:=Wk.ok_is e1;simp only [sy.1,rE,reduceIte,rL];apply hn;refine qC false (by simp only [sy.1,rE,reduceIte]) (fun hx=>by cases hx) (fun _=> ?_);refine qI ?_;refine qA fun K hn hp=> ?_;simp only [sy.1,rE,reduceIte,rL,rA,s1];have ha2:=ha1.up (n:=m1) (by omega);refine qB (sok xt) (xZS (qEd xt (h1.up m1) w ha2 _ _ his.m) fun res h4 hres=> ?_);obtain ⟨f4,hres⟩:=hres;have n4:m1<=h4.n:=f4.lo;have f4h:Fr h.n h h4:=(f1.up (m:=m1) (by omega)).trans f4 (by simp only [xZP];omega);change match w.m.bnd with|some G=>_|none=>_ at hres
 cases hb:w.m.bnd with
 |none=>
  rw [hb] at hres;subst hres;simp only [sw.1,rE,reduceIte,rL,rA,sv.1];obtain ⟨h5,hh5,n5,s5,k5,f5⟩:=nsE h4 (.cells pI 121) (.cells pI 121);rw [<-hh5];apply hn;clear hh5;refine qE ?_;refine qA fun K hn hp=> ?_;simp only [sy.1,rE,reduceIte,rL];apply hn;refine qC true (by simp only [sy.1,rE,reduceIte,d70]) (fun _=> ?_) (fun hx=>by cases hx);refine qE ?_;refine qA fun K hn hp=> ?_;simp only [sy.1,rE,reduceIte,rL];apply hn;refine jF (end_3 res17 ⟨f4h.trans f5 (by omega),.val (.slice none 0 0),?_,?_⟩)
  ·simp [xZY,Wk.pkd,e1,hb]
  ·simp only [Wk.pkd,e1,hb];exact Cuts.nil
 |some G=>
  rw [hb] at hres;obtain ⟨v,M,rfl,sg,m1',m2'⟩:=hres;have onev:=sg.one;simp only [sw.1,rE,reduceIte,rL,rA,sv.1,o1,o2,o3,o4,o5,onev];obtain ⟨h5,hh5,n5,s5,k5,f5⟩:=nsE h4 (.cells pI 121) (.cells (w.bc v) 121);rw [<-hh5];apply hn;clear hh5;have f5h:=f4h.trans f5 (by omega);have ha5:=ha.fr f5h (xZZ _);refine qE ?_;refine qA fun K hn hp=> ?_;simp only [sy.1,rE,reduceIte,rL];apply hn;refine qC false (by simp only [sy.1,rE,reduceIte]) (fun hx=>by cases hx) (fun _=> ?_);refine qI ?_;have sg5:SG h5 (h1.up m1).n M v _ _ G:=sg.keep fun k _ hk=>k5 k (by omega);have bd5:w.Bd xt h5 (h1.up m1).n M v G:=⟨ha5,sg5,by omega⟩;have pk:=pack1_c xt w his _ M v G hb w.m.cells.length (xZZ _) h5 bd5;rw [Nat.sub_self] at pk;refine qA fun K hn hp=> ?_;simp only [sy.1,rE,reduceIte,rL,rA,s5];refine qB (sok xt) (xZS pk fun res h6 hres=> ?_);obtain ⟨f6,z,rfl,nc⟩:=hres;have oz:=nc.cuts.one;have cz:=nc.cuts.cells;simp only [sw.1,rE,reduceIte,rL,rA,syp.1,oz];obtain ⟨h7,hh7,n7,s7,k7,f7⟩:=nsE h6 (.cells [.val (.slice none 0 0),iv 0] 125) (.cells [z,iv (w.packP G w.m.cells.length).2] 125);rw [<-hh7];apply hn;clear hh7;refine zZ (sok xt) 5 (by kernel_rfl) fun K hn hp=> ?_;simp only [sy.1,rE,reduceIte,rL,syp.1,s7];refine hn _ _ (qD (end_3 res17 ⟨(f5h.trans f6 (by omega)).trans f7 (by have:=f6.lo;omega),z,?_,?_⟩))
  ·simp [xZY,Wk.pkd,e1,hb]
  ·simp only [Wk.pkd,e1,hb];exact nc.cuts.fr f7 (xZZ _)
end Go.Proofs.Kn
