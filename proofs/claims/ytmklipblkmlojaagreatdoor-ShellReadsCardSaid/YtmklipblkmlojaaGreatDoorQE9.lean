/- Parts of the proof, joined by a program. -/
import Derived.Test.YtmklipblkmlojaaGreatDoorQE8
import Derived.Test.YtmklipblkmlojaaGreatDoorQE3
set_option linter.all false
open Nat renaming reduceEqDiff → rE, reduceLeDiff → rD, reduceAdd → rA, reduceMul → rM, reduceLT → rL
open Go.Ev.T renaming get_put → xZZ
open List renaming length_append → xZY, length_cons → xZW, length_nil → xZU, mem_nil_iff → xZS, mem_cons → xZR, take_length → xZQ, map_append → xZP, mem_of_getElem? → xZO, cons_append → xZM
open Bool renaming false_eq_true → xZX
open Nat renaming le_of_lt → xZV, le_refl → xZT
open Go.Ev.Hp renaming up_n → xZN
namespace Go.Proofs.Kn
open Go Go.Ev
set_option maxRecDepth 100000
set_option maxHeartbeats 4000000
theorem ft11s (xt:Addr->Option Value):(SE xt).ft.get 11=some Tryz.f11:=by kernel_rfl
theorem res11s:Tryz.f11.results.toList=[.tmp 2]:=by kernel_rfl
abbrev taperS:List UInt8:=[32,116,97,112,101,114]
abbrev hiddenS:List UInt8:=[32,104,105,100,100,101,110]
theorem yR {l:List Int} (h:l≠[]):zN l=32::vQ l:=by
 cases l with
 |nil=>exact absurd rfl h
 |cons x r=>
  rw [vQ,vD,List.map_cons,Lib.join_cons];simp only [zN,List.flatMap_cons,xZM,Lib.joinTail,List.map_map];simp [List.flatMap_def,Function.comp_def]
theorem qCA (a b:List UInt8):vD [a,b]=a++32::b:=by simp [vD,Lib.join_cons,Lib.joinTail]
theorem line_3 (a b c:List UInt8):vD [a,b,c]=a++32::b++32::c:=by simp [vD,Lib.join_cons,Lib.joinTail]
theorem line_6 (a b c d e f:List UInt8):vD [a,b,c,d,e,f]=a++32::b++32::c++32::d++32::e++32::f:=by simp [vD,Lib.join_cons,Lib.joinTail]
theorem headB_r (m:Mp):uG++zN [(m.cells.length:Int),(m.W:Int)]++taperS++zN [m.T]++hiddenS++zN [m.H]=m.headB:=by
 rw [Mp.headB,line_6,yR (by simp),yR (by simp),yR (by simp)]
theorem qDz (g:Int×Int×Int×Int):zL++zN [g.1,g.2.1,g.2.2.1,g.2.2.2]=jX g:=by
 rw [jX,qCA,yR (by simp)]
theorem crackB_r (k:Int×Int×Bool):zB++zN [k.1,k.2.1]++32::yN k.2.2=jH k:=by
 rw [jH,line_3,yR (by simp)]
theorem qDm (p:Int×Int):kB++zN [p.1,p.2]=jN p:=by
 rw [jN,qCA,yR (by simp)]
noncomputable def b11:Code:=qAf Tryz.f11.body
noncomputable def c11a:Code:=zR b11
noncomputable def c11b:Code:=zR c11a
theorem pN {a b c:List UInt8} (h:c=a++b) (hl:c.length<=1000000000) (ox oy:Operand):vG Tryz.prog tb .add 9 ox oy (sv a) (sv b)=some (sv c):=by
 rw [h] at hl ⊢;rw [xZY] at hl;exact kY _ _ (by omega)
theorem head_r (xt:Addr->Option Value) (h1:Hp) (m:Mp) (ha:m.At xt h1) (B:Nat) (hB:B<h1.n) (q1:h1.t.get B=some (.cells m.cs 27)) (ht:Txt m) (tm:T AV) (g1:tm.get 1=some (.ptr B 0)) {Q:Ex->St->Prop}
  (next: ∀tm hg u,tm.get 1=some (.ptr B 0)->tm.get 3=some u->TI h1 hg u [m.headB]->wpc (SE xt) none c11b ⟨tm,216,hg,[]⟩ Q):wpc (SE xt) none c11a ⟨tm,216,h1,[]⟩ Q:=by
 refine vC rfl ?_;have hlc:=ht.lc;have hW:=ht.W;have nR:jK (m.cells.length:Int):=⟨by omega,by omega⟩;have nW:jK (m.W:Int):=⟨by omega,by omega⟩;have l1:=vY [(m.cells.length:Int),(m.W:Int)];have l2:=vY [m.T];have l3:=vY [m.H];simp only [xZW,xZU] at l1 l2 l3;obtain ⟨W1,hW1⟩: ∃W1,W1=uG++zN [(m.cells.length:Int),(m.W:Int)]:=⟨_,rfl⟩;obtain ⟨W2,hW2⟩: ∃W2,W2=W1++taperS:=⟨_,rfl⟩;obtain ⟨W3,hW3⟩: ∃W3,W3=W2++zN [m.T]:=⟨_,rfl⟩;obtain ⟨W4,hW4⟩: ∃W4,W4=W3++hiddenS:=⟨_,rfl⟩;have hW5:m.headB=W4++zN [m.H]:=by rw [hW4,hW3,hW2,hW1];exact (headB_r m).symm
 have z1:W1.length<=20:=by rw [hW1];simp only [xZY,xZW,xZU];omega
 have z2:W2.length<=30:=by rw [hW2];simp only [xZY,xZW,xZU];omega
 have z3:W3.length<=40:=by rw [hW3];simp only [xZY];omega
 have z4:W4.length<=50:=by rw [hW4];simp only [xZY,xZW,xZU];omega
 have z5:m.headB.length<=60:=by rw [hW5];simp only [xZY];omega
 have c1:=fun ox oy=>pN hW1 (by omega) ox oy;have c2:=fun ox oy=>pN hW2 (by omega) ox oy;have c3:=fun ox oy=>pN hW3 (by omega) ox oy;have c4:=fun ox oy=>pN hW4 (by omega) ox oy;have c5:=fun ox oy=>pN hW5 (by omega) ox oy;refine gO (sok xt) 18 [4,10,16] [(1,[]),(3,[]),(5,[4]),(11,[4,10]),(17,[4,10,16])] [(2,0),(9,0),(9,1),(9,2),(15,0),(15,1),(15,2),(15,3)] (by kernel_rfl) fun K hn hp=> ?_;simp only [sw.1,rE,reduceIte,rL,rA,rM,rD,svn.down,syw.1,qB,qO,qS,g1,q1,syg.1,xZX,qH,bI,uU];refine qE (sok xt) (bR xt _ m ha fun n1 hn1=> ?_);obtain ⟨h2,hh2⟩: ∃h2:Hp,h2=h1.up n1:=⟨_,rfl⟩;have ha2:m.At xt h2:=by rw [hh2];exact ha.up (xZV hn1)
 have f2:Fr h1.n h1 h2:=by rw [hh2];exact (Fr.refl (xZT _)).up (xZV hn1)
 have q2:h2.t.get B=some (.cells m.cs 27):=by rw [hh2];exact q1
 have lt2:h1.n<h2.n:=by rw [hh2,xZN];omega
 have e0:({t:=h1.t,n:=n1}:Hp)=h2:=by rw [hh2];rfl
 rw [show h1.up n1=h2 from hh2.symm];clear hh2;simp only [sw.1,rE,reduceIte,rL,rA,rM,rD,svn.down,syw.1,qB,qO,qS,g1,q1,q2,syg.1,xZX,qH,bI,uU,zS lt2];refine qE (sok xt) (qBz xt _ m ha2 fun n2 hn2=> ?_);obtain ⟨h3,hh3⟩: ∃h3:Hp,h3=h2.up n2:=⟨_,rfl⟩;have f3:Fr h1.n h1 h3:=by rw [hh3];exact f2.up (xZV hn2)
 have q3:h3.t.get B=some (.cells m.cs 27):=by rw [hh3];exact q2
 have lt3:h2.n<h3.n:=by rw [hh3,xZN];omega
 rw [show h2.up n2=h3 from hh3.symm];clear hh3;simp only [sw.1,rE,reduceIte,rL,rA,rM,rD,svn.down,syw.1,qB,qO,qS,g1,q1,q2,q3,syg.1,xZX,qH,bI,uU,zS lt3];obtain ⟨h4,hh4,n4,s4,k4,f4⟩:=gA h3 (.cells [iv (m.cells.length:Int),iv (m.W:Int)] 3);have e4:({t:=h3.t.put (some (.cells [iv (m.cells.length:Int),iv (m.W:Int)] 3)) h3.n,n:=h3.n+1}:Hp)=h4:=by rw [hh4];rfl
 rw [e4];have q4:=(k4 B (by omega)).trans q3;refine qE (sok xt) (uW xt h4 _ h3.n [(m.cells.length:Int),(m.W:Int)] (j6 s4 (by omega)) (by simp) (by intro x hx;simp only [xZR,xZS,or_false] at hx;rcases hx with rfl|rfl;exact nR;exact nW) fun m1 hm1=> ?_);obtain ⟨h5,hh5⟩: ∃h5:Hp,h5=h4.up m1:=⟨_,rfl⟩;have f5:Fr h1.n h1 h5:=by rw [hh5];exact (f3.trans f4 (by omega)).up (xZV hm1)
 have q5:h5.t.get B=some (.cells m.cs 27):=by rw [hh5];exact q4
 have lt5:h3.n+1<h5.n:=by rw [hh5,xZN];omega
 rw [<-hh5];clear hh4 hh5;simp only [sw.1,rE,reduceIte,rL,rA,rM,rD,svn.down,syw.1,qB,qO,qS,g1,q1,q2,q3,q5,syg.1,xZX,qH,bI,uU,zS lt5,c1,c2];obtain ⟨h6,hh6,n6,s6,k6,f6⟩:=gA h5 (.cells [iv m.T] 3);have e6:({t:=h5.t.put (some (.cells [iv m.T] 3)) h5.n,n:=h5.n+1}:Hp)=h6:=by rw [hh6];rfl
 rw [e6];have q6:=(k6 B (by omega)).trans q5;refine qE (sok xt) (uW xt h6 _ h5.n [m.T] (j6 s6 (by omega)) (by simp) (by intro x hx;simp only [xZR,xZS,or_false] at hx;rcases hx with rfl;exact ht.T) fun m2 hm2=> ?_);obtain ⟨h7,hh7⟩: ∃h7:Hp,h7=h6.up m2:=⟨_,rfl⟩;have f7:Fr h1.n h1 h7:=by rw [hh7];exact (f5.trans f6 (by omega)).up (xZV hm2)
 have q7:h7.t.get B=some (.cells m.cs 27):=by rw [hh7];exact q6
 have lt7:h5.n+1<h7.n:=by rw [hh7,xZN];omega
 rw [<-hh7];clear hh6 hh7;simp only [sw.1,rE,reduceIte,rL,rA,rM,rD,svn.down,syw.1,qB,qO,qS,g1,q1,q2,q3,q5,q7,syg.1,xZX,qH,bI,uU,zS lt7,c3,c4];obtain ⟨h8,hh8,n8,s8,k8,f8⟩:=gA h7 (.cells [iv m.H] 3);have e8:({t:=h7.t.put (some (.cells [iv m.H] 3)) h7.n,n:=h7.n+1}:Hp)=h8:=by rw [hh8];rfl
 rw [e8];refine qE (sok xt) (uW xt h8 _ h7.n [m.H] (j6 s8 (by omega)) (by simp) (by intro x hx;simp only [xZR,xZS,or_false] at hx;rcases hx with rfl;exact ht.H) fun m3 hm3=> ?_);obtain ⟨h9,hh9⟩: ∃h9:Hp,h9=h8.up m3:=⟨_,rfl⟩;have f9:Fr h1.n h1 h9:=by rw [hh9];exact (f7.trans f8 (by omega)).up (xZV hm3)
 have lt9:h7.n+1<h9.n:=by rw [hh9,xZN];omega
 rw [<-hh9];clear hh8 hh9;have f9l:=f9.le;simp only [sw.1,rE,reduceIte,rL,rA,rM,rD,svn.down,syw.1,qB,qO,qS,g1,q1,q2,q3,q5,q7,syg.1,xZX,qH,gE,zS lt9,c5];apply hn;refine next _ _ (.sl h9.n 0 1 1) (by simp [xZZ,g1]) (by simp [xZZ]) ⟨f9.new _,?_⟩;have o:=j6 (h:=h9.new (.cells [sv m.headB] 9)) (jG _ _) (by rw [Hp.new_n];omega);rcases o with ⟨o,_⟩|⟨b,o1,o2,o3,o4,o5⟩
 ·simp at o
 ·exact .inr ⟨b,o1,by omega,o3,o4,o5⟩
end Go.Proofs.Kn
namespace Go.Proofs.Kn
open Go Go.Ev
set_option maxRecDepth 100000
set_option maxHeartbeats 4000000
noncomputable def c11c:Code:=zR c11b
theorem app40 {xt:Addr->Option Value} {h hB:Hp} {N n:Nat} {v:AV} {cs:List AV} {a:UInt8} (o:OwnSl h N 1 5 v n cs) (hN:N<=h.n) (fB:Fr h.n h hB) (nB:hB.n=h.n+1) (sB:hB.t.get h.n=some (.cells [ub a] 5)) (hl:n<=1000000):
  ∃h',jD Tryz.prog tb xt .append [40,40] [v,.sl h.n 0 1 1] hB=some (.sl (h.n+1) 0 (n+1) 1,h')/\OwnSl h' N 1 5 (.sl (h.n+1) 0 (n+1) 1) (n+1) (cs++[ub a])/\Fr N h h'/\h.n<h'.n:=
 wY (sz:=1) (by_:=1) (c:=[ub a]) tg40 rfl tg5 rfl rfl o hN fB nB sB rfl rfl (by omega) (by omega)
theorem cv_own {h:Hp} {N:Nat} {v:AV} {l:List UInt8} (o:OwnSl h N 1 5 v l.length (l.map ub)):yQ tb h 40 9 v=some (sv l):=by
 rcases o with ⟨h2,_,rfl⟩|⟨b,rfl,_,_,h4,_⟩
 ·have:l=[]:=List.length_eq_zero_iff.1 h2;subst this;exact aconv_nil tg40 rfl tg9 rfl tg5 rfl _ _
 ·exact cv409 h h4
theorem rows_r (xt:Addr->Option Value) (h1:Hp) (m:Mp) (ha:m.At xt h1) (B:Nat) (hB:B<h1.n) (q1:h1.t.get B=some (.cells m.cs 27)) (ht:Txt m) (tm:T AV) (hg:Hp) (u:AV) (g1:tm.get 1=some (.ptr B 0)) (g3:tm.get 3=some u) (ti:TI h1 hg u [m.headB]) {Q:Ex->St->Prop}
  (next: ∀tm hg u,tm.get 1=some (.ptr B 0)->tm.get 3=some u->TI h1 hg u (m.headB::m.cells.map yL)->wpc (SE xt) none c11c ⟨tm,216,hg,[]⟩ Q):wpc (SE xt) none c11b ⟨tm,216,hg,[]⟩ Q:=by
 refine vC rfl ?_;have hlen:=ha.len;have hlc:=ht.lc;refine qG ?_;refine qA fun K hn hp=> ?_;simp only [sw.1,rE,reduceIte,rL,rA,rM,rD,svn.down,syw.1,qB,hlen,g1,g3];apply hn;refine qI fun KA A1 A2 A3 A4 A5=> ?_;refine qY (sok xt) (fun st=> ∃(k:Nat) (hk:Hp) (u:AV) (tm:T AV),st=⟨tm,216,hk,[]⟩/\k<=m.cells.length/\tm.get 1=some (.ptr B 0)/\tm.get 3=some (u)/\tm.get 4=some (iv k)/\TI h1 hk u (m.headB::(m.cells.take k).map yL)) (fun st=>m.cells.length - (match st.tm.get 4 with|some (.val (.int _ n))=>n.toNat|_=>0)) ?_ ?_
 ·rintro st ⟨k,hk,u,tm,rfl,hkA,g1,g3,g4,tk⟩;have muA:=g4;have q:decide ((k:Int)<(m.cells.length:Int))=decide (k<m.cells.length):=qJ _ _;have qk:=(tk.1.at_ B (.inl hB)).trans q1;refine qG ?_;refine qA fun K hn hp=> ?_;simp only [sw.1,rE,reduceIte,rL,rA,rM,rD,svn.down,syw.1,qB,hlen,g1,g3,g4,qk];refine qE (sok xt) (bR xt _ m (ha.fr tk.1 (xZT _)) fun n1 hn1=> ?_);simp only [sw.1,rE,reduceIte,rL,rA,rM,rD,svn.down,syw.1,qB,hlen,g1,g3,g4,q];apply hn;obtain ⟨h2,hh2⟩: ∃h2:Hp,h2=hk.up n1:=⟨_,rfl⟩;have tk2:TI h1 h2 u (m.headB::(m.cells.take k).map yL):=by rw [hh2];exact tk.up (xZV hn1)
  have q2:h2.t.get B=some (.cells m.cs 27):=by rw [hh2];exact qk
  rw [<-hh2];clear hh2 tk qk;by_cases hlt:k<m.cells.length
  ·refine qF true (by simp only [sw.1,rE,reduceIte,rL,rA,rM,rD,svn.down,syw.1,qB,hlen,g1,g3,g4,hlt]) (fun _=> ?_) (fun hx=>by cases hx);refine qN ?_;refine qI fun K2 e1 e2 e3 e4 e5=> ?_;obtain ⟨l,hl⟩: ∃l,l=m.cells.getD k []:=⟨_,rfl⟩;have hll:l.length<=999:=by rw [hl];exact ht.lr _ (xZO (getD_some [] hlt))
   refine qA fun K hn hp=> ?_;simp only [sw.1,rE,reduceIte,rL,rA,rM,rD,svn.down,syw.1,qB,hlen,g1,g3,g4];apply hn;refine qG ?_;refine qA fun K hn hp=> ?_;simp only [sw.1,rE,reduceIte,rL,rA,rM,rD,svn.down,syw.1,qB,hlen,g1,g3,g4];apply hn;refine qI fun KD D1 D2 D3 D4 D5=> ?_;refine qY (sok xt) (fun st=> ∃(c:Nat) (hi:Hp) (bv:AV) (tm:T AV),st=⟨tm,216,hi,[]⟩/\c<=l.length/\tm.get 1=some (.ptr B 0)/\tm.get 3=some (u)/\tm.get 4=some (iv k)/\tm.get 5=some (bv)/\tm.get 6=some (iv c)/\Fr h2.n h2 hi/\OwnSl hi h2.n 1 5 bv ((l.take c).map mkB).length (((l.take c).map mkB).map ub)) (fun st=>l.length - (match st.tm.get 6 with|some (.val (.int _ n))=>n.toNat|_=>0)) ?_ ?_
   ·rintro st ⟨c,hi,bv,tm,rfl,hkD,g1,g3,g4,g5,g6,fi,ob⟩;have muD:=g6;have q2':decide ((c:Int)<(l.length:Int))=decide (c<l.length):=qJ _ _;have f0:=tk2.1.trans fi tk2.1.le;have qi:=(f0.at_ B (.inl hB)).trans q1;obtain ⟨v,i1,i2,i3,i4⟩:=(ha.fr f0 (xZT _)).rowD hlt;rw [<-hl] at i3 i4;refine qG ?_;refine qA fun K hn hp=> ?_;simp only [sw.1,rE,reduceIte,rL,rA,rM,rD,svn.down,syw.1,qB,hlen,g1,g3,g4,g5,g6,qi,i1,i2,i4,q2'];apply hn;by_cases hc:c<l.length
    ·refine qF true (by simp only [sw.1,rE,reduceIte,rL,rA,rM,rD,svn.down,syw.1,qB,hlen,g1,g3,g4,g5,g6,hc]) (fun _=> ?_) (fun hx=>by cases hx);refine qN ?_;refine qI fun K3 f1 f2 f3 f4 f5=> ?_;obtain ⟨x,hx⟩: ∃x,x=l.getD c 0:=⟨_,rfl⟩;have hx3:1<=x/\x<=3:=by rw [hx,hl];exact ht.at hlt (by rw [<-hl];exact hc)
     obtain ⟨j1,j2⟩:=i3.m58 hc;rw [<-hx] at j2;obtain ⟨h',p1,p2,p3,p4⟩:=app40 (xt:=xt) (a:=mkB x) ob fi.le (fbn hi [ub (mkB x)] 5) rfl (jG _ _) (by simp;omega);have obo:=ob.one;refine qA fun K hn hp=> ?_;simp only [sw.1,rE,reduceIte,rL,rA,rM,rD,svn.down,syw.1,qB,hlen,g1,g3,g4,g5,g6];apply hn;refine qG ?_;have hs:(l.take (c+1)).map mkB=(l.take c).map mkB++[mkB x]:=by rw [List.take_succ,getD_some 0 hc,<-hx];simp
     have w3:=qW hc (by omega);rcases (by omega:x=1\/x=2\/x=3) with rfl|rfl|rfl
     ·refine qA fun K hn hp=> ?_;simp only [sw.1,rE,reduceIte,rL,rA,rM,rD,svn.down,syw.1,qB,hlen,g1,g3,g4,g5,g6,qi,i1,i2,j1,j2];apply hn;refine qQ false (by simp only [sw.1,rE,reduceIte,rL,rA,rM,rD,svn.down,syw.1,qB,hlen,g1,g3,g4,g5,g6,show decide ((1:Int)=2)=false from rfl]) (fun hx=>by cases hx) (fun _=> ?_);refine jO ?_;refine qG ?_;refine qA fun K hn hp=> ?_;simp only [sw.1,rE,reduceIte,rL,rA,rM,rD,svn.down,syw.1,qB,hlen,g1,g3,g4,g5,g6,qi,i1,i2,j1,j2];apply hn;refine qQ false (by simp only [sw.1,rE,reduceIte,rL,rA,rM,rD,svn.down,syw.1,qB,hlen,g1,g3,g4,g5,g6,show decide ((1:Int)=3)=false from rfl]) (fun hx=>by cases hx) (fun _=> ?_);refine jO ?_;have em:ub (mkB 1)= .val (.int .u8 46):=rfl;rw [em] at p1;refine reg fun K hn hp=> ?_;simp only [sw.1,rE,reduceIte,rL,rA,rM,rD,svn.down,syw.1,qB,hlen,g1,g3,g4,g5,g6,qH,b40_1,p1];apply hn;refine f1 _ ?_;refine reg fun K hn hp=> ?_;simp only [sw.1,rE,reduceIte,rL,rA,rM,rD,svn.down,syw.1,qB,hlen,g1,g3,g4,g5,g6,w3];apply hn;refine ⟨⟨c+1,h',.sl (hi.n+1) 0 (((l.take c).map mkB).length+1) 1,_,rfl,by omega,(by simp [xZZ,g1,g3,g4,g5,g6]),(by simp [xZZ,g1,g3,g4,g5,g6]),(by simp [xZZ,g1,g3,g4,g5,g6]),(by simp [xZZ,g1,g3,g4,g5,g6]),(by simp [xZZ,g1,g3,g4,g5,g6]),fi.trans p3 (xZT _),by rw [hs,xZY,xZP];exact p2⟩,by simpa [xZZ,muD] using (by omega:l.length - (c+1)<l.length - c)⟩
     ·refine qA fun K hn hp=> ?_;simp only [sw.1,rE,reduceIte,rL,rA,rM,rD,svn.down,syw.1,qB,hlen,g1,g3,g4,g5,g6,qi,i1,i2,j1,j2];apply hn;refine qQ true (by simp only [sw.1,rE,reduceIte,rL,rA,rM,rD,svn.down,syw.1,qB,hlen,g1,g3,g4,g5,g6,show decide ((2:Int)=2)=true from rfl]) (fun _=> ?_) (fun hx=>by cases hx);refine qA fun K hn hp=> ?_;simp only [sw.1,rE,reduceIte,rL,rA,rM,rD,svn.down,syw.1,qB,hlen,g1,g3,g4,g5,g6];apply hn;refine qG ?_;refine qA fun K hn hp=> ?_;simp only [sw.1,rE,reduceIte,rL,rA,rM,rD,svn.down,syw.1,qB,hlen,g1,g3,g4,g5,g6,qi,i1,i2,j1,j2];apply hn;refine qQ false (by simp only [sw.1,rE,reduceIte,rL,rA,rM,rD,svn.down,syw.1,qB,hlen,g1,g3,g4,g5,g6,show decide ((2:Int)=3)=false from rfl]) (fun hx=>by cases hx) (fun _=> ?_);refine jO ?_;have em:ub (mkB 2)= .val (.int .u8 35):=rfl;rw [em] at p1;refine reg fun K hn hp=> ?_;simp only [sw.1,rE,reduceIte,rL,rA,rM,rD,svn.down,syw.1,qB,hlen,g1,g3,g4,g5,g6,qH,b40_1,p1];apply hn;refine f1 _ ?_;refine reg fun K hn hp=> ?_;simp only [sw.1,rE,reduceIte,rL,rA,rM,rD,svn.down,syw.1,qB,hlen,g1,g3,g4,g5,g6,w3];apply hn;refine ⟨⟨c+1,h',.sl (hi.n+1) 0 (((l.take c).map mkB).length+1) 1,_,rfl,by omega,(by simp [xZZ,g1,g3,g4,g5,g6]),(by simp [xZZ,g1,g3,g4,g5,g6]),(by simp [xZZ,g1,g3,g4,g5,g6]),(by simp [xZZ,g1,g3,g4,g5,g6]),(by simp [xZZ,g1,g3,g4,g5,g6]),fi.trans p3 (xZT _),by rw [hs,xZY,xZP];exact p2⟩,by simpa [xZZ,muD] using (by omega:l.length - (c+1)<l.length - c)⟩
     ·refine qA fun K hn hp=> ?_;simp only [sw.1,rE,reduceIte,rL,rA,rM,rD,svn.down,syw.1,qB,hlen,g1,g3,g4,g5,g6,qi,i1,i2,j1,j2];apply hn;refine qQ false (by simp only [sw.1,rE,reduceIte,rL,rA,rM,rD,svn.down,syw.1,qB,hlen,g1,g3,g4,g5,g6,show decide ((3:Int)=2)=false from rfl]) (fun hx=>by cases hx) (fun _=> ?_);refine jO ?_;refine qG ?_;refine qA fun K hn hp=> ?_;simp only [sw.1,rE,reduceIte,rL,rA,rM,rD,svn.down,syw.1,qB,hlen,g1,g3,g4,g5,g6,qi,i1,i2,j1,j2];apply hn;refine qQ true (by simp only [sw.1,rE,reduceIte,rL,rA,rM,rD,svn.down,syw.1,qB,hlen,g1,g3,g4,g5,g6,show decide ((3:Int)=3)=true from rfl]) (fun _=> ?_) (fun hx=>by cases hx);refine qA fun K hn hp=> ?_;simp only [sw.1,rE,reduceIte,rL,rA,rM,rD,svn.down,syw.1,qB,hlen,g1,g3,g4,g5,g6];apply hn;have em:ub (mkB 3)= .val (.int .u8 111):=rfl;rw [em] at p1;refine reg fun K hn hp=> ?_;simp only [sw.1,rE,reduceIte,rL,rA,rM,rD,svn.down,syw.1,qB,hlen,g1,g3,g4,g5,g6,qH,b40_1,p1];apply hn;refine f1 _ ?_;refine reg fun K hn hp=> ?_;simp only [sw.1,rE,reduceIte,rL,rA,rM,rD,svn.down,syw.1,qB,hlen,g1,g3,g4,g5,g6,w3];apply hn;refine ⟨⟨c+1,h',.sl (hi.n+1) 0 (((l.take c).map mkB).length+1) 1,_,rfl,by omega,(by simp [xZZ,g1,g3,g4,g5,g6]),(by simp [xZZ,g1,g3,g4,g5,g6]),(by simp [xZZ,g1,g3,g4,g5,g6]),(by simp [xZZ,g1,g3,g4,g5,g6]),(by simp [xZZ,g1,g3,g4,g5,g6]),fi.trans p3 (xZT _),by rw [hs,xZY,xZP];exact p2⟩,by simpa [xZZ,muD] using (by omega:l.length - (c+1)<l.length - c)⟩
    ·have hcl:c=l.length:=by omega
     subst hcl;rw [xZQ] at ob;refine qF false (by simp only [sw.1,rE,reduceIte,rL,rA,rM,rD,svn.down,syw.1,qB,hlen,g1,g3,g4,g5,g6,hc]) (fun hx=>by cases hx) (fun _=> ?_);refine qX (D2 _ ?_);have obo:=ob.one;have cv:yQ tb hi 40 9 bv=some (sv (yL l)):=cv_own ob;have hsr:=pS yL m.cells k [] hlt;rw [<-hl] at hsr;obtain ⟨h',p1,p2,p3⟩:=(tk2.fr fi).snoc (xt:=xt) (yL l) (by simp;omega);have ou:=tk2.2.one;refine reg fun K hn hp=> ?_;simp only [sw.1,rE,reduceIte,rL,rA,rM,rD,svn.down,syw.1,qB,hlen,g1,g3,g4,g5,g6,cv,qH,gE,p1];apply hn;refine e1 _ ?_;have w3:=qW hlt (by omega);refine reg fun K hn hp=> ?_;simp only [sw.1,rE,reduceIte,rL,rA,rM,rD,svn.down,syw.1,qB,hlen,g1,g3,g4,g5,g6,w3];apply hn;rw [xZM,<-hsr] at p2;have hu:(m.headB::(m.cells.take k).map yL).length+1=k+2:=by simp;omega
     refine ⟨⟨k+1,h',.sl (hi.n+1) 0 ((m.headB::(m.cells.take k).map yL).length+1) 1,_,rfl,by omega,(by simp [xZZ,g1,g3,g4]),(by simp [xZZ,g1,g3,g4]),(by simp [xZZ,g1,g3,g4]),p2⟩,by simpa [xZZ,muA] using (by omega:m.cells.length - (k+1)<m.cells.length - k)⟩
   ·exact ⟨0,h2,jE,_,rfl,by omega,by simp [xZZ,g1],by simp [xZZ,g3],by simp [xZZ,g4],by simp [xZZ],by simp [xZZ],Fr.refl (xZT _),by simpa using OwnSl.nil⟩
  ·have hkl:k=m.cells.length:=by omega
   subst hkl;rw [xZQ] at tk2;refine qF false (by simp only [sw.1,rE,reduceIte,rL,rA,rM,rD,svn.down,syw.1,qB,hlen,g1,g3,g4,hlt]) (fun hx=>by cases hx) (fun _=> ?_);exact qX (A2 _ (next _ _ _ (by simp [xZZ,g1]) (by simp [xZZ,g3]) tk2))
 ·exact ⟨0,_,_,_,rfl,by omega,by simp [xZZ,g1],by simp [xZZ,g3],by simp [xZZ],ti⟩
end Go.Proofs.Kn
namespace Go.Proofs.Kn
open Go Go.Ev
set_option maxRecDepth 100000
set_option maxHeartbeats 4000000
noncomputable def c11d:Code:=zR c11c
theorem gauges_r (xt:Addr->Option Value) (h1:Hp) (m:Mp) (ha:m.At xt h1) (B:Nat) (hB:B<h1.n) (q1:h1.t.get B=some (.cells m.cs 27)) (ht:Txt m) (L:List (List UInt8)) (hL:L.length<=10000) (tm:T AV) (hg:Hp) (u:AV) (g1:tm.get 1=some (.ptr B 0)) (g3:tm.get 3=some u) (ti:TI h1 hg u L) {Q:Ex->St->Prop}
  (next: ∀tm hg u,tm.get 1=some (.ptr B 0)->tm.get 3=some u->TI h1 hg u (L++m.gs.map jX)->wpc (SE xt) none c11d ⟨tm,216,hg,[]⟩ Q):wpc (SE xt) none c11c ⟨tm,216,hg,[]⟩ Q:=by
 refine vC rfl ?_;have hlg:=fun h'=>(ha.gs).len (h':=h') wK rfl;simp only [List.length_map] at hlg;have hlc:=ht.lg;refine qG ?_;refine qA fun K hn hp=> ?_;simp only [sw.1,rE,reduceIte,rL,rA,rM,rD,svn.down,syw.1,qB,qO,qS,hlg,g1,g3];apply hn;refine qI fun KA A1 A2 A3 A4 A5=> ?_;refine qY (sok xt) (fun st=> ∃(k:Nat) (hk:Hp) (u:AV) (tm:T AV),st=⟨tm,216,hk,[]⟩/\k<=m.gs.length/\tm.get 1=some (.ptr B 0)/\tm.get 3=some (u)/\tm.get 8=some (iv k)/\TI h1 hk u (L++(m.gs.take k).map jX)) (fun st=>m.gs.length - (match st.tm.get 8 with|some (.val (.int _ n))=>n.toNat|_=>0)) ?_ ?_
 ·rintro st ⟨k,hk,u,tm,rfl,hkA,g1,g3,g8,tk⟩;have muA:=g8;have q:decide ((k:Int)<(m.gs.length:Int))=decide (k<m.gs.length):=qJ _ _;have qk:=(tk.1.at_ B (.inl hB)).trans q1;refine qG ?_;refine qA fun K hn hp=> ?_;simp only [sw.1,rE,reduceIte,rL,rA,rM,rD,svn.down,syw.1,qB,qO,qS,hlg,g1,g3,g8,qk,q];apply hn;by_cases hlt:k<m.gs.length
  ·refine qF true (by simp only [sw.1,rE,reduceIte,rL,rA,rM,rD,svn.down,syw.1,qB,qO,qS,hlg,g1,g3,g8,hlt]) (fun _=> ?_) (fun hx=>by cases hx);refine qN ?_;refine qI fun K2 e1 e2 e3 e4 e5=> ?_;obtain ⟨x,hxg⟩: ∃x,m.gs[k]? =some x:=⟨_,List.getElem?_eq_getElem hlt⟩;have hag:=ha.fr tk.1 (xZT _);have i1:=hag.gs.idx wK rfl uF rfl (i:=k) (by simpa using hlt) (k:= .i64);have i2:=hag.gs.loadA uF rfl rfl (i:=k) (c:=Kn.g4 x) (by rw [List.getElem?_map,hxg];rfl);obtain ⟨n1,n2,n3,n4⟩:=ht.gs x (xZO hxg);have hs:(m.gs.take (k+1)).map jX=(m.gs.take k).map jX++[jX x]:=by rw [List.take_succ,hxg];simp
   obtain ⟨xr,xc,xs,xo⟩:=x;simp only [Kn.g4,List.map_cons,List.map_nil] at i2 n1 n2 n3 n4;refine qA fun K hn hp=> ?_;simp only [sw.1,rE,reduceIte,rL,rA,rM,rD,svn.down,syw.1,qB,qO,qS,hlg,g1,g3,g8,qk,i1,i2];apply hn;obtain ⟨h9,hh9⟩: ∃h9:Hp,h9=(hk.new (.cells [iv 0,iv 0,iv 0,iv 0] 87)).set hk.n (.cells [iv xr,iv xc,iv xs,iv xo] 87):=⟨_,rfl⟩;have nh9:h9.n=hk.n+1:=by rw [hh9];rfl
   have sh9:h9.t.get hk.n=some (.cells [iv xr,iv xc,iv xs,iv xo] 87):=by rw [hh9,Hp.set_t,xZZ,if_pos rfl]
   have kh9: ∀k,k<hk.n->h9.t.get k=hk.t.get k:=fun k hk=>by rw [hh9];exact kJ _ _ _ hk
   have fbh9:Fr hk.n hk h9:=by rw [hh9];exact kK _ _ _
   have fh9:=fbh9;rw [<-hh9];have wl:=vY [xr,xc,xs,xo];simp only [xZW,xZU] at wl;have c1:=fun ox oy=>pN (qDz (xr,xc,xs,xo)).symm (by rw [<-qDz];simp only [xZY,xZW,xZU];omega) ox oy;refine reg fun K hn hp=> ?_;simp only [sw.1,rE,reduceIte,rL,rA,rM,rD,svn.down,syw.1,qB,qO,qS,hlg,g1,g3,g8,sh9,qH,b65_4];refine qE (sok xt) (uW xt _ _ h9.n [xr,xc,xs,xo] (j6 (jG _ _) (by rw [Hp.new_n];omega)) (by simp) (by intro x hx;simp only [xZR,xZS,or_false] at hx;rcases hx with rfl|rfl|rfl|rfl<;>assumption) fun m1 hm1=> ?_)
   obtain ⟨h10,hh10⟩: ∃h10:Hp,h10=(h9.new (.cells [iv xr,iv xc,iv xs,iv xo] 3)).up m1:=⟨_,rfl⟩;have f10:Fr hk.n hk h10:=by rw [hh10];exact (fh9.new _).up (xZV hm1)
   rw [<-hh10];clear hh10;obtain ⟨h',p1,p2,p3⟩:=(tk.fr f10).snoc (xt:=xt) (jX (xr,xc,xs,xo)) (by simp;omega);have ou:=tk.2.one;simp only [sw.1,rE,reduceIte,rL,rA,rM,rD,svn.down,syw.1,qB,qO,qS,hlg,g1,g3,g8,c1,qH,gE,p1];refine hn _ _ (e1 _ ?_);have w3:=qW hlt (by omega);refine reg fun K hn hp=> ?_;simp only [sw.1,rE,reduceIte,rL,rA,rM,rD,svn.down,syw.1,qB,qO,qS,hlg,g1,g3,g8,w3];apply hn;rw [List.append_assoc,<-hs] at p2;refine ⟨⟨k+1,h',.sl (h10.n+1) 0 ((L++(m.gs.take k).map jX).length+1) 1,_,rfl,by omega,(by simp [xZZ,g1,g3,g8]),(by simp [xZZ,g1,g3,g8]),(by simp [xZZ,g1,g3,g8]),p2⟩,by simpa [xZZ,muA] using (by omega:m.gs.length - (k+1)<m.gs.length - k)⟩
  ·have hkl:k=m.gs.length:=by omega
   subst hkl;rw [xZQ] at tk;refine qF false (by simp only [sw.1,rE,reduceIte,rL,rA,rM,rD,svn.down,syw.1,qB,qO,qS,hlg,g1,g3,g8,hlt]) (fun hx=>by cases hx) (fun _=> ?_);exact qX (A2 _ (next _ _ _ (by simp [xZZ,g1]) (by simp [xZZ,g3]) tk))
 ·exact ⟨0,_,u,_,rfl,by omega,by simp [xZZ,g1],by simp [xZZ,g3],by simp [xZZ],by simpa using ti⟩
end Go.Proofs.Kn
