/- Parts. -/
import Derived.Test.YthimlgffanlomaaGreatDoorQY6
set_option linter.all false
open Nat renaming reduceEqDiff → rE, reduceLeDiff → rD, reduceAdd → rA, reduceMul → rM, reduceLT → rL
open Go.Ev.T renaming get_put → xZZ
open Nat renaming le_refl → xZY
open List renaming getElem?_eq_some_iff → xZX, drop_eq_getElem_cons → xZU, getElem?_eq_getElem → xZT, getElem?_replicate → xZS, getElem?_set_self → xZR, drop_eq_nil_of_le → xZQ, length_replicate → xZP, getElem?_set_ne → xZO, length_append → xZN, getElem?_map → xZM
open Go.Ev.Fr renaming refl → xZW
open Go.Ev.Hp renaming set_t → xZV
namespace Go.Proofs.Kn
open Go Go.Ev
set_option maxRecDepth 100000
set_option maxHeartbeats 4000000
def wE (l:List Int):Nat->List Int
 |0=>[]
 |k+1=>wE l k++if l.contains ((k:Int)+1) then [(k:Int)+1] else []
theorem wdsTo3 (l:List Int):wE l 3=[1,2,3].filter fun x=>l.contains x:=by
 have e1:(((0:Nat):Int)+1)=1:=rfl;have e2:(((1:Nat):Int)+1)=2:=rfl;have e3:(((2:Nat):Int)+1)=3:=rfl;simp only [wE,e1,e2,e3,List.filter_cons,List.filter_nil,List.nil_append];cases l.contains 1<;>cases l.contains 2<;>cases l.contains 3<;>rfl
theorem qDz (l:List Int): ∀k,(wE l k).length<=k
 |0=>xZY _
 |k+1=>by
  have:=qDz l k;simp only [wE,xZN];split<;>simp<;>omega
theorem ft74 (xt:Xt):(SE xt).ft.get 102=some Tryz.f102:=by kernel_rfl
theorem res74:Tryz.f102.results.toList=[.tmp 2]:=by kernel_rfl
theorem qDJ (xt:Xt) (h:Hp) (w:Wk) (ha:w.At xt h) (his:w.Is):
  FnA (SE xt) 102 [w.av] h (fun res h'=>Fr h.n h h'/\ ∃z,res= .ret z/\RowAt xt h' 1 z (w.ws.map c1)/\ ∀b off n s,z= .sl b off n s->h.n<=b):=by
 refine FnA.walk (sok xt) (ft74 xt) rfl 35 rfl ?_;obtain ⟨o1,o2,o3,o4,o5⟩:=ha.ones;have hlen:=ha.len;have t4:=his.t4;refine qA fun K hn hp=> ?_;simp only [sw.1,reduceIte,rL];apply hn;obtain ⟨h1,hh1,nh1,sh1,_,fbh1⟩:=nwE h (.cells w.cs 30);rw [<-hh1];have fh1:=fbh1;have hl1:w.wds.length=w.ts.length:=by simp [Wk.wds]
 refine qA fun K hn hp=> ?_;simp only [sy.1,rL];apply hn;refine qB fun K hn hp=> ?_;simp only [sy.1,rL];apply hn;refine qC fun KA A1 A2 A3 A4 A5=> ?_;refine qI (sok xt) (fun st=> ∃(k:Nat) (z:AV) (hg:Hp) (tm:T AV),st=⟨tm,35,hg,[]⟩/\k<=3/\tm.get 1=some (.ptr h.n 0)/\tm.get 3=some (z)/\tm.get 4=some (iv ((k:Int)+1))/\Fr h1.n h1 hg/\OwnSl hg h1.n 1 3 z (wE w.wds k).length (ivs (wE w.wds k))) (fun st=>5 - (match st.tm.get 4 with|some (.val (.int _ n))=>n.toNat|_=>0)) ?_ ?_
 ·rintro st ⟨k,z,hg,tm,rfl,hkA,g1,g3,g4,fg,own⟩;have muA:=g4;have fgh:Fr h.n h hg:=fh1.trans fg (by omega);have ug:=(fg.at_ h.n (.inl (by omega))).trans sh1;refine qB fun K hn hp=> ?_;simp only [sy.1,reduceIte,rL,g4];apply hn;by_cases hk:k<3
  ·have d:decide ((k:Int)+1<=3)=true:=decide_eq_true (by omega);refine qV (by simp only [sy.1,rE,reduceIte,d]) ?_;refine qC fun KB B1 B2 B3 B4 B5=> ?_;refine qA fun K hn hp=> ?_;simp only [sy.1,rL];apply hn;refine qB fun K hn hp=> ?_;simp only [sy.1,rL];apply hn;refine qC fun KD D1 D2 D3 D4 D5=> ?_;refine qI (sok xt) (fun st=> ∃(q:Nat) (b:Bool) (tm:T AV),st=⟨tm,35,hg,[]⟩/\q<=w.ts.length/\tm.get 1=some (.ptr h.n 0)/\tm.get 3=some (z)/\tm.get 4=some (iv ((k:Int)+1))/\tm.get 5=some (.val (.bool b))/\tm.get 6=some (iv q)/\b=(w.wds.take q).contains ((k:Int)+1)) (fun st=>w.ts.length - (match st.tm.get 6 with|some (.val (.int _ n))=>n.toNat|_=>0)) ?_ ?_
   ·rintro st ⟨q,b,tm,rfl,hkD,g1,g3,g4,g5,g6,hbq⟩;have muD:=g6;refine qB fun K hn hp=> ?_;simp only [sy.1,rE,reduceIte,rL,syw.1,hlen,qR,g1,g6,ug];apply hn;by_cases hq:q<w.ts.length
    ·refine qV (by simp only [sy.1,rE,reduceIte,hq]) ?_;obtain ⟨n,th,wo,ht⟩:=his.tub hq;have hag:=ha.fr fgh (xZY _);obtain ⟨i1,i2,_,_,ld⟩:=hag.tubs ht.at_;have i3:=(ld hg (xZW (xZY _))).1;have e9:w.wds[q]? =some (n:Int):=by rw [Wk.wds,xZM,ht.at_];rfl
     have et:(w.wds.take (q+1)).contains ((k:Int)+1)=(b || decide ((n:Int)=(k:Int)+1)):=by
      rw [List.take_succ,e9,Option.toList_some,hbq];simp only [List.contains_eq_any_beq,List.any_append,List.any_cons,List.any_nil,Bool.or_false]
      congr 1
      by_cases e:(n:Int)=(k:Int)+1
      ·simp [e]
      ·have e': ¬(k:Int)+1=(n:Int):=fun q=>e q.symm;simp [e,e']
     refine qC fun KE E1 E2 E3 E4 E5=> ?_;cases b
     ·refine reg fun K hn hp=> ?_;simp only [sy.1,rE,reduceIte,rL,g1,g4,g5,g6,ug,i1,i2,i3];apply hn;refine E1 _ ?_;refine reg fun K hn hp=> ?_;simp only [sy.1,rE,reduceIte,rL,g6,qE hq (show w.ts.length<=9223372036854775807 by omega)];apply hn;refine ⟨⟨q+1,decide ((n:Int)=(k:Int)+1),_,rfl,by omega,(by simp [xZZ,g1]),(by simp [xZZ,g3]),(by simp [xZZ,g4]),(by simp [xZZ]),(by simp [xZZ]),by rw [et,Bool.false_or]⟩,by simpa [xZZ,muD] using (by omega:w.ts.length - (q+1)<w.ts.length - q)⟩
     ·refine reg fun K hn hp=> ?_;simp only [sy.1,rE,reduceIte,rL,g5];apply hn;refine E1 _ ?_;refine reg fun K hn hp=> ?_;simp only [sy.1,rE,reduceIte,rL,g6,qE hq (show w.ts.length<=9223372036854775807 by omega)];apply hn;refine ⟨⟨q+1,true,_,rfl,by omega,(by simp [xZZ,g1]),(by simp [xZZ,g3]),(by simp [xZZ,g4]),(by simp [xZZ]),(by simp [xZZ]),by rw [et,Bool.true_or]⟩,by simpa [xZZ,muD] using (by omega:w.ts.length - (q+1)<w.ts.length - q)⟩
    ·refine qU (by simp only [sy.1,rE,reduceIte,hq]) ?_;refine qG (D2 _ ?_);obtain rfl:q=w.ts.length:=by omega
     rw [List.take_of_length_le (by omega)] at hbq;have a1:((k:Int)+1+1).toNat=k+2:=by omega
     have a2:((k:Int)+1).toNat=k+1:=by omega
     have ww:IntKind.i64.wrap ((k:Int)+1+1)=((k+1:Nat):Int)+1:=by rw [qF _ (by omega) (by omega)];omega
     refine qA fun K hn hp=> ?_;simp only [sy.1,rE,reduceIte,rL,g5];apply hn;cases b
     ·refine wcF (by simp only [sy.1,rE,reduceIte]) ?_;refine qN (B1 _ ?_);refine reg fun K hn hp=> ?_;simp only [sy.1,rE,reduceIte,rL,g4,ww];apply hn;have e1:wE w.wds (k+1)=wE w.wds k:=by rw [wE,<-hbq];simp
      refine ⟨⟨k+1,z,hg,_,rfl,by omega,(by simp [xZZ,g1]),(by simp [xZZ,g3]),(by simp [xZZ]),fg,by rw [e1];exact own⟩,by simpa [xZZ,muA,a1,a2] using (by omega:5 - (k+2)<5 - (k+1))⟩
     ·refine wcT (by simp only [sy.1,rE,reduceIte]) ?_;have e1:wE w.wds (k+1)=wE w.wds k++[(k:Int)+1]:=by rw [wE,<-hbq];simp
      have:=qDz w.wds k;obtain ⟨z',h7,p1,p2,p3⟩:=qFs (xt:=xt) own (by have:=fg.lo;omega) ((k:Int)+1) (by omega);refine reg fun K hn hp=> ?_;simp only [sy.1,rE,reduceIte,rL,g3,g4,jJ,bs75',p1];refine hn _ _ (B1 _ ?_);refine reg fun K hn hp=> ?_;simp only [sy.1,rE,reduceIte,rL,g4,ww];apply hn;refine ⟨⟨k+1,z',h7,_,rfl,by omega,(by simp [xZZ,g1]),(by simp [xZZ]),(by simp [xZZ]),fg.trans p3 (xZY _),by rw [e1,xZN];exact p2⟩,by simpa [xZZ,muA,a1,a2] using (by omega:5 - (k+2)<5 - (k+1))⟩
   ·exact ⟨0,false,_,rfl,(by omega),(by simp [xZZ,g1]),(by simp [xZZ,g3]),(by simp [xZZ,g4]),(by simp [xZZ]),(by simp [xZZ]),by simp⟩
  ·have d:decide ((k:Int)+1<=3)=false:=decide_eq_false (by omega);refine qU (by simp only [sy.1,rE,reduceIte,d]) ?_;refine qG (A2 _ ?_);obtain rfl:k=3:=by omega
   rw [wdsTo3,<-his.ws] at own;refine qA fun K hn hp=> ?_;simp only [sy.1,rE,reduceIte,rL,g3];apply hn;refine qD (qK res74 ⟨fgh,z,?_,own_row own,fun b off n s e=> ?_⟩)
   ·simp [xZZ]
   ·rcases own with ⟨_,_,o⟩|⟨b',o,q,_⟩
    ·rw [o] at e;cases e
    ·rw [o] at e;cases e;omega
 ·exact ⟨0,_,h1,_,rfl,(by omega),(by simp [xZZ]),(by simp [xZZ]),(by simp [xZZ]),xZW (xZY _),OwnSl.nil⟩
theorem qAX (a b:Int):cmpI a b<0↔a<b:=by
 unfold cmpI;split
 ·simp_all
 ·split
  ·simp;omega
  ·simp;omega
theorem bM (a b:Int):cmpI a b=0↔a=b:=by
 unfold cmpI;split
 ·simp;omega
 ·split
  ·simp;omega
  ·simp;omega
theorem qCG (x:Int) (l:List Int):orL (x::l)=if x=0 then orL l else x:=rfl
theorem bef_zero {a b:Int×Int×Int}:bef a b=0↔a=b:=by
 obtain ⟨a1,a2,a3⟩:=a;obtain ⟨b1,b2,b3⟩:=b;have z:orL []=0:=rfl;simp only [bef,qCG,Prod.mk.injEq,z,bM];by_cases e1:a1=b1
 ·by_cases e2:a2=b2
  ·by_cases e3:a3=b3
   ·simp [e1,e2,e3]
   ·simp [e1,e2,e3,bM]
  ·simp [e1,e2,bM]
 ·simp [e1,bM]
theorem qCj {a b:Int×Int×Int}:bef a b<0↔if a.1=b.1 then (if a.2.1=b.2.1 then a.2.2<b.2.2 else a.2.1<b.2.1) else a.1<b.1:=by
 obtain ⟨a1,a2,a3⟩:=a;obtain ⟨b1,b2,b3⟩:=b;have z:orL []=0:=rfl;simp only [bef,qCG,z,bM];by_cases e1:a1=b1
 ·by_cases e2:a2=b2
  ·by_cases e3:a3=b3
   ·simp [e1,e2,e3]
   ·simp [e1,e2,e3,qAX]
  ·simp [e1,e2,qAX]
 ·simp [e1,qAX]
def yQ:List (Int×Int×Int)->List (Int×Int×Int)->Bool
 |a::l,b::m=>if a=b then yQ l m else decide (bef a b<0)
 |_,_=>false
theorem qF1: ∀{l m:List (Int×Int×Int)},l.length=m.length->yQ l m=decide (cmpF l m<0)
 |[],[],_=>rfl
 |[],_::_,h=>by simp at h
 |_::_,[],h=>by simp at h
 |a::l,b::m,h=>by
  simp only [yQ,cmpF,bef_zero];by_cases e:a=b
  ·rw [if_pos e,if_pos e];exact qF1 (by simpa using h)
  ·rw [if_neg e,if_neg e]
theorem befB_nilr (l:List (Int×Int×Int)):yQ l []=false:=by cases l<;>rfl
theorem Cuts.flds {xt:Xt} {h:Hp} {v:AV} {ls:List (Int×Int×Int)} (a:Cuts xt h v ls) {i:Nat} {s:Int×Int×Int} (hx:ls[i]? =some s):
  qM tb 65 v (iv (i:Int))=some (elp v (i*3))/\qL tb 63 (elp v (i*3)) 0=some (elp v (i*3))/\qL tb 63 (elp v (i*3)) 1=some (elp v (i*3+1))/\qL tb 63 (elp v (i*3)) 2=some (elp v (i*3+2))/\
  qO tb xt h 3 (elp v (i*3))=some (iv s.1)/\qO tb xt h 3 (elp v (i*3+1))=some (iv s.2.1)/\qO tb xt h 3 (elp v (i*3+2))=some (iv s.2.2):=by
 have hq:i<ls.length:=(xZX.1 hx).1;have hne:ls.map Kn.t3≠[]:=by intro e;have:=congrArg List.length e;simp at this;rw [this] at hq;simp at hq
 have hc:(ls.map Kn.t3)[i]? =some (Kn.t3 s):=by rw [xZM,hx];rfl
 refine ⟨a.row.idx tg33 rfl bU rfl (i:=i) (by simpa using hq) (k:= .i64),?_,a.row.fa hne bU rfl (f:=1) (o:=1) (s:=0) (ft:=3) rfl (i*3),a.row.fa hne bU rfl (f:=2) (o:=2) (s:=0) (ft:=3) rfl (i*3),a.row.load0 tg3 rfl (i:=i) hc rfl,a.row.load tg3 rfl (i:=i) (j:=1) hc rfl,a.row.load tg3 rfl (i:=i) (j:=2) hc rfl⟩;simpa using a.row.fa hne bU rfl (f:=0) (o:=0) (s:=0) (ft:=3) rfl (i*3)
theorem ft82 (xt:Xt):(SE xt).ft.get 149=some Tryz.f149:=by kernel_rfl
theorem res82:Tryz.f149.results.toList=[.tmp 4]:=by kernel_rfl
theorem rbefore_c (xt:Xt) (h:Hp) (va vb:AV) (l m:List (Int×Int×Int)) (hl:Cuts xt h va l) (hm:Cuts xt h vb m) {K:KP} (hk: ∀k,h.n<k->K (.ret (.val (.bool (yQ l m)))) (h.up k)):FnA (SE xt) 149 [va,vb] h K:=by
 refine FnA.calm ?_ hk;clear hk K;refine FnA.walk (sok xt) (ft82 xt) rfl 84 rfl ?_;have lla:=hl.len;have llb:=hm.len;have ltl:=hl.lt;refine qA fun K hn hp=> ?_;simp only [sw.1,rL];apply hn;refine qB fun K hn hp=> ?_;simp only [sy.1,rL];apply hn;refine qC fun KA A1 A2 A3 A4 A5=> ?_;refine qI (sok xt) (fun st=> ∃(k:Nat) (tm:T AV),st=⟨tm,84,h,[]⟩/\k<=l.length/\tm.get 0=some (va)/\tm.get 1=some (vb)/\tm.get 5=some (iv k)/\k<=m.length/\yQ (l.drop k) (m.drop k)=yQ l m) (fun st=>l.length - (match st.tm.get 5 with|some (.val (.int _ n))=>n.toNat|_=>0)) ?_ ?_
 ·rintro st ⟨k,tm,rfl,hkA,g0,g1,g5,hkm,hbf⟩;have muA:=g5;refine jP ?_;by_cases hk:k<l.length
  ·by_cases hk2:k<m.length
   ·refine qA fun K hn hp=> ?_;simp only [sy.1,rE,reduceIte,rL,syw.1,lla,llb,qR,g0,g1,g5,hk,hk2];apply hn;refine qV (by simp only [sy.1,rE,reduceIte]) ?_;obtain ⟨a,hxa⟩: ∃a,l[k]? =some a:=⟨_,xZT hk⟩;obtain ⟨b,hxb⟩: ∃b,m[k]? =some b:=⟨_,xZT hk2⟩;obtain ⟨i1,i2,i3,i4,i5,i6,i7⟩:=hl.flds hxa;obtain ⟨j1,j2,j3,j4,j5,j6,j7⟩:=hm.flds hxb;have ea:l.drop k=a::l.drop (k+1):=by rw [xZU hk,(xZX.1 hxa).2]
    have eb:m.drop k=b::m.drop (k+1):=by rw [xZU hk2,(xZX.1 hxb).2]
    rw [ea,eb,yQ] at hbf;have out: ∀bb:Bool,a≠b->bb=decide (bef a b<0)->bb=yQ l m:=fun bb q1 q2=>by rw [<-hbf,if_neg q1,q2]
    refine qC fun KB B1 B2 B3 B4 B5=> ?_;refine jP ?_;by_cases q1:a.1=b.1
    ·have d1:(!decide (a.1=b.1))=false:=by rw [decide_eq_true q1];rfl
     refine jQ (sok xt) 10 (by kernel_rfl) fun K hn hp=> ?_;simp only [sy.1,rE,reduceIte,rL,g0,g1,g5,i1,i2,i5,j1,j2,j5,d1];apply hn;refine jL (by simp only [sy.1,rE,reduceIte]) ?_;refine jP ?_;by_cases q2:a.2.1=b.2.1
     ·have d2:(!decide (a.2.1=b.2.1))=false:=by rw [decide_eq_true q2];rfl
      refine jQ (sok xt) 10 (by kernel_rfl) fun K hn hp=> ?_;simp only [sy.1,rE,reduceIte,rL,g0,g1,g5,i1,i3,i6,j1,j3,j6,d2];apply hn;refine jL (by simp only [sy.1,rE,reduceIte]) ?_;by_cases q3:a.2.2=b.2.2
      ·have d3:(!decide (a.2.2=b.2.2))=false:=by rw [decide_eq_true q3];rfl
       refine jQ (sok xt) 10 (by kernel_rfl) fun K hn hp=> ?_;simp only [sy.1,rE,reduceIte,rL,g0,g1,g5,i1,i4,i7,j1,j4,j7,d3];apply hn;refine wcF (by simp only [sy.1,rE,reduceIte]) ?_;refine qN (B1 _ ?_);refine reg fun K hn hp=> ?_;simp only [sy.1,rE,reduceIte,rL,g5,qE hk ltl];apply hn;have eab:a=b:=Prod.ext q1 (Prod.ext q2 q3);rw [if_pos eab] at hbf;refine ⟨⟨k+1,_,rfl,by omega,(by simp [xZZ,g0]),(by simp [xZZ,g1]),(by simp [xZZ]),by omega,hbf⟩,by simpa [xZZ,muA] using (by omega:l.length - (k+1)<l.length - k)⟩
      ·have d3:(!decide (a.2.2=b.2.2))=true:=by rw [decide_eq_false q3];rfl
       refine jQ (sok xt) 10 (by kernel_rfl) fun K hn hp=> ?_;simp only [sy.1,rE,reduceIte,rL,g0,g1,g5,i1,i4,i7,j1,j4,j7,d3];apply hn;refine wcT (by simp only [sy.1,rE,reduceIte]) ?_;refine jQ (sok xt) 10 (by kernel_rfl) fun K hn hp=> ?_;simp only [sy.1,rE,reduceIte,rL,g0,g1,g5,i1,i4,i7,j1,j4,j7];refine hn _ _ (qD (B4 _ (A4 _ (qK res82 ⟨?_,xZW (xZY _)⟩))));rw [<-out (decide (a.2.2<b.2.2)) (fun e=>q3 (by rw [e])) (by simp [qCj,q1,q2])];simp [xZZ]
     ·have d2:(!decide (a.2.1=b.2.1))=true:=by rw [decide_eq_false q2];rfl
      refine jQ (sok xt) 10 (by kernel_rfl) fun K hn hp=> ?_;simp only [sy.1,rE,reduceIte,rL,g0,g1,g5,i1,i3,i6,j1,j3,j6,d2];apply hn;refine qX (by simp only [sy.1,rE,reduceIte]) ?_;refine jP ?_;refine jQ (sok xt) 10 (by kernel_rfl) fun K hn hp=> ?_;simp only [sy.1,rE,reduceIte,rL,g0,g1,g5,i1,i3,i6,j1,j3,j6];refine hn _ _ (qS (B4 _ (A4 _ (qK res82 ⟨?_,xZW (xZY _)⟩))));rw [<-out (decide (a.2.1<b.2.1)) (fun e=>q2 (by rw [e])) (by simp [qCj,q1,q2])];simp [xZZ]
    ·have d1:(!decide (a.1=b.1))=true:=by rw [decide_eq_false q1];rfl
     refine jQ (sok xt) 10 (by kernel_rfl) fun K hn hp=> ?_;simp only [sy.1,rE,reduceIte,rL,g0,g1,g5,i1,i2,i5,j1,j2,j5,d1];apply hn;refine qX (by simp only [sy.1,rE,reduceIte]) ?_;refine jP ?_;refine jQ (sok xt) 10 (by kernel_rfl) fun K hn hp=> ?_;simp only [sy.1,rE,reduceIte,rL,g0,g1,g5,i1,i2,i5,j1,j2,j5];refine hn _ _ (qS (B4 _ (A4 _ (qK res82 ⟨?_,xZW (xZY _)⟩))));rw [<-out (decide (a.1<b.1)) (fun e=>q1 (by rw [e])) (by simp [qCj,q1])];simp [xZZ]
   ·refine qA fun K hn hp=> ?_;simp only [sy.1,rE,reduceIte,rL,syw.1,lla,llb,qR,g0,g1,g5,hk,hk2];apply hn;refine qU (by simp only [sy.1,rE,reduceIte]) ?_;refine qG (A2 _ ?_);refine qA fun K hn hp=> ?_;simp only [sy.1,rL];apply hn;refine qD (qK res82 ⟨?_,xZW (xZY _)⟩);rw [<-hbf,xZQ (show m.length<=k by omega),befB_nilr];simp [xZZ]
  ·refine qA fun K hn hp=> ?_;simp only [sy.1,rE,reduceIte,rL,syw.1,lla,qR,g0,g5,hk];apply hn;refine qU (by simp only [sy.1,rE,reduceIte]) ?_;refine qG (A2 _ ?_);refine qA fun K hn hp=> ?_;simp only [sy.1,rL];apply hn;refine qD (qK res82 ⟨?_,xZW (xZY _)⟩);have e1:yQ [] (m.drop k)=false:=rfl;rw [<-hbf,xZQ (show l.length<=k by omega),e1];simp [xZZ]
 ·exact ⟨0,_,rfl,(by omega),(by simp [xZZ]),(by simp [xZZ]),(by simp [xZZ]),Nat.zero_le _,rfl⟩
theorem qER (a b:Cg):bet a b=if a.2=b.2 then (if a.1.length=b.1.length then yQ a.1 b.1 else decide (a.1.length<b.1.length)) else decide (b.2<a.2):=by
 obtain ⟨l,x⟩:=a;obtain ⟨m,y⟩:=b;have z:orL []=0:=rfl;simp only [bet,qCG,z,bM];by_cases e1:x=y
 ·have e1':y=x:=e1.symm;simp only [e1,if_true];by_cases e2:l.length=m.length
  ·simp only [e2,if_true];rw [qF1 e2];by_cases e3:cmpF l m=0
   ·simp [e3]
   ·simp [e3]
  ·have e2': ¬(l.length:Int)=(m.length:Int):=by omega
   simp only [e2,e2',if_false,qAX];exact decide_eq_decide.2 (by omega)
 ·have e1': ¬y=x:=fun e=>e1 e.symm;simp only [e1,e1',if_false,qAX]
theorem ft24 (xt:Xt):(SE xt).ft.get 103=some Tryz.f103:=by kernel_rfl
theorem res24:Tryz.f103.results.toList=[.tmp 8]:=by kernel_rfl
theorem qDS (xt:Xt) (h:Hp) (za zb:AV) (a b:Cg) (ha:Cuts xt h za a.1) (hb:Cuts xt h zb b.1) {K:KP} (hk: ∀k,h.n<k->K (.ret (.val (.bool (bet a b)))) (h.up k)):FnA (SE xt) 103 [za,iv a.2,zb,iv b.2] h K:=by
 refine FnA.calm ?_ hk;clear hk K;refine FnA.walk (sok xt) (ft24 xt) rfl 28 rfl ?_;have lla:=ha.len;have llb:=hb.len;refine qA fun K hn hp=> ?_;simp only [sw.1,rL,rA];apply hn;refine jP ?_;by_cases q1:a.2=b.2
 ·have d1:(!decide (a.2=b.2))=false:=by rw [decide_eq_true q1];rfl
  refine qA fun K hn hp=> ?_;simp only [sy.1,rE,reduceIte,rL,d1];apply hn;refine jL (by simp only [sy.1,rE,reduceIte]) ?_;refine jP ?_;by_cases q2:a.1.length=b.1.length
  ·have d2:(!decide ((a.1.length:Int)=(b.1.length:Int)))=false:=by rw [decide_eq_true (by omega)];rfl
   refine qA fun K hn hp=> ?_;simp only [sy.1,rE,reduceIte,rL,syw.1,lla,llb,d2];apply hn;refine jL (by simp only [sy.1,rE,reduceIte]) ?_;refine qA fun K hn hp=> ?_;simp only [sy.1,rE,reduceIte,rL];refine cAS (rbefore_c xt h za zb a.1 b.1 ha hb fun k1 hk1=> ?_);simp only [sy.1,rE,reduceIte,rL];refine hn _ _ (qD (qK res24 ⟨?_,(xZW (xZY _)).up (Nat.le_of_lt hk1)⟩));rw [qER,if_pos q1,if_pos q2];simp [xZZ]
  ·have d2:(!decide ((a.1.length:Int)=(b.1.length:Int)))=true:=by rw [decide_eq_false (by omega)];rfl
   refine qA fun K hn hp=> ?_;simp only [sy.1,rE,reduceIte,rL,syw.1,lla,llb,d2];apply hn;refine qX (by simp only [sy.1,rE,reduceIte]) ?_;refine qB fun K hn hp=> ?_;simp only [sy.1,rE,reduceIte,rL,syw.1,lla,llb];apply hn;refine qS (qK res24 ⟨?_,xZW (xZY _)⟩);rw [qER,if_pos q1,if_neg q2];simp [xZZ]
 ·have d1:(!decide (a.2=b.2))=true:=by rw [decide_eq_false q1];rfl
  refine qA fun K hn hp=> ?_;simp only [sy.1,rE,reduceIte,rL,d1];apply hn;refine qX (by simp only [sy.1,rE,reduceIte]) ?_;refine qB fun K hn hp=> ?_;simp only [sy.1,rE,reduceIte,rL];apply hn;refine qS (qK res24 ⟨?_,xZW (xZY _)⟩);rw [qER,if_neg q1];simp [xZZ]
def DpAt (xt:Xt) (Own:Nat->Prop) (h:Hp) (B V n:Nat) (f:Nat->Cg) (D:Nat->Prop):Prop:=
 ∃bz vz,h.t.get B=some (.cells bz 65)/\h.t.get V=some (.cells vz 3)/\bz.length=n/\vz.length=n/\ ∀i,D i->i<n/\ ∃z,bz[i]? =some z/\vz[i]? =some (iv (f i).2)/\CgAt xt Own h z (f i).1
theorem qCM {b n j:Nat} (hj:j<n):qM tb 169 (.sl b 0 n 1) (iv (j:Int))=some (.ptr b j):=by
 have e1:qAm (iv (j:Int))=some (Int.ofNat j):=rfl;have e2:Nat.blt j n=true:=by rw [Nat.blt_eq];exact hj
 have d127:te169.d= .slice 65:=rfl;have s33:te65.size=1:=rfl;simp [qM,tg127,e1,d127,tg33,e2,s33]
theorem DpAt.look {xt:Xt} {Own:Nat->Prop} {h:Hp} {B V n:Nat} {f:Nat->Cg} {D:Nat->Prop} (a:DpAt xt Own h B V n f D) {i:Nat} (hi:D i):
  ∃z,qM tb 169 (.sl B 0 n 1) (iv (i:Int))=some (.ptr B i)/\qM tb 31 (.sl V 0 n 1) (iv (i:Int))=some (.ptr V i)/\jX (h.t.get B) i=some z/\jX (h.t.get V) i=some (iv (f i).2)/\CgAt xt Own h z (f i).1:=by
 obtain ⟨bz,vz,h1,h2,h3,h4,h5⟩:=a;obtain ⟨q,z,e1,e2,c⟩:=h5 i hi;refine ⟨z,qCM q,wK q,?_,?_,c⟩
 ·rw [h1];simpa [jX] using e1
 ·rw [h2];simpa [jX] using e2
theorem DpAt.keep {xt:Xt} {Own:Nat->Prop} {h h':Hp} {B V n:Nat} {f:Nat->Cg} {D:Nat->Prop} (a:DpAt xt Own h B V n f D) (hn:h.n<=h'.n) (hB:h'.t.get B=h.t.get B) (hV:h'.t.get V=h.t.get V) (hk: ∀b,b<h.n-> ¬Own b->h'.t.get b=h.t.get b):DpAt xt Own h' B V n f D:=by
 obtain ⟨bz,vz,h1,h2,h3,h4,h5⟩:=a;refine ⟨bz,vz,hB.trans h1,hV.trans h2,h3,h4,fun i hi=> ?_⟩;obtain ⟨q,z,e1,e2,c⟩:=h5 i hi;exact ⟨q,z,e1,e2,c.keep hn hk⟩
theorem DpAt.fr {xt:Xt} {Own:Nat->Prop} {h h':Hp} {B V n:Nat} {f:Nat->Cg} {D:Nat->Prop} (a:DpAt xt Own h B V n f D) (fr:Fr h.n h h') (hB:B<h.n) (hV:V<h.n):DpAt xt Own h' B V n f D:=
 a.keep fr.le (fr.at_ B (.inl hB)) (fr.at_ V (.inl hV)) fun b hb _=>fr.at_ b (.inl hb)
theorem DpAt.congr {xt:Xt} {Own:Nat->Prop} {h:Hp} {B V n:Nat} {f f':Nat->Cg} {D D':Nat->Prop} (a:DpAt xt Own h B V n f D) (hd: ∀i,D' i->D i) (hf: ∀i,D' i->f' i=f i):DpAt xt Own h B V n f' D':=by
 obtain ⟨bz,vz,h1,h2,h3,h4,h5⟩:=a;refine ⟨bz,vz,h1,h2,h3,h4,fun i hi=> ?_⟩;rw [hf i hi];exact h5 i (hd i hi)
theorem DpAt.put {xt:Xt} {Own:Nat->Prop} {h:Hp} {B V n:Nat} {f:Nat->Cg} {D:Nat->Prop} (a:DpAt xt Own h B V n f D) (hB:Own B) (hV:Own V) (hBV:B≠V) {i:Nat} (hi:i<n) {z:AV} {l:List (Int×Int×Int)} (x:Int) (c:CgAt xt Own h z l):
  ∃o1 o2,jG 1 h B i z (h.t.get B)=some (h.set B o1)/\jG 1 (h.set B o1) V i (iv x) (h.t.get V)=some ((h.set B o1).set V o2)/\(∀b,b≠B->b≠V->((h.set B o1).set V o2).t.get b=h.t.get b)/\(∀N,N<=B->B<h.n->N<=V->V<h.n->Fr N h ((h.set B o1).set V o2))/\
  ∀(f':Nat->Cg) (D':Nat->Prop),f' i=(l,x)->(∀j,D' j->j=i\/(D j/\(j≠i->f' j=f j)))->DpAt xt Own ((h.set B o1).set V o2) B V n f' D':=by
 obtain ⟨bz,vz,h1,h2,h3,h4,h5⟩:=a;have p1:=zW (h:=h) (b:=B) (off:=i) (v:=z) (cs:=bz) (e:=65) c.cuts.cells c.cuts.one (by omega);have p2:=zW (h:=h.set B (.cells (bz.set i z) 65)) (b:=V) (off:=i) (v:=iv x) (cs:=vz) (e:=3) rfl rfl (by omega);refine ⟨.cells (bz.set i z) 65,.cells (vz.set i (iv x)) 3,by rw [h1];exact p1,by rw [h2];exact p2,fun b q1 q2=> ?_,fun N q1 q2 q3 q4=> ?_,fun f' D' e hD=> ?_⟩
 ·rw [xZV,xZZ,if_neg q2,xZV,xZZ,if_neg q1]
 ·exact ((xZW (by omega)).set q1 q2 _).set q3 (by rw [Hp.set_n];exact q4) _
 ·have keep: ∀{z':AV} {l':List (Int×Int×Int)},CgAt xt Own h z' l'->CgAt xt Own ((h.set B (.cells (bz.set i z) 65)).set V (.cells (vz.set i (iv x)) 3)) z' l':=fun {z' l'} c=>c.keep (xZY _) fun b _ hb=>by
   rw [xZV,xZZ,if_neg (by rintro rfl;exact hb hV),xZV,xZZ,if_neg (by rintro rfl;exact hb hB)]
  refine ⟨bz.set i z,vz.set i (iv x),?_,?_,by rw [List.length_set,h3],by rw [List.length_set,h4],fun j hj=> ?_⟩
  ·rw [xZV,xZZ,if_neg hBV,xZV,xZZ,if_pos rfl]
  ·rw [xZV,xZZ,if_pos rfl]
  ·by_cases q:j=i
   ·subst q;refine ⟨hi,z,?_,?_,?_⟩
    ·rw [xZR (by omega)]
    ·rw [xZR (by omega),e]
    ·rw [e];exact keep c
   ·obtain ⟨qd,qf⟩:=(hD j hj).resolve_left q;obtain ⟨r1,z',r2,r3,r4⟩:=h5 j qd;rw [qf q];refine ⟨r1,z',?_,?_,keep r4⟩
    ·rw [xZO (fun e=>q e.symm)];exact r2
    ·rw [xZO (fun e=>q e.symm)];exact r3
theorem mk127 (h:Hp):zO tb h 169 (iv 12) (iv 12)=some (.sl h.n 0 12 1,h.new (.cells (List.replicate 12 jI) 65)):=by kernel_rfl
theorem mk75 (h:Hp):zO tb h 31 (iv 12) (iv 12)=some (.sl h.n 0 12 1,h.new (.cells (List.replicate 12 (iv 0)) 3)):=by kernel_rfl
theorem mk127' (h:Hp):zO tb h 169 (iv 7) (iv 7)=some (.sl h.n 0 7 1,h.new (.cells (List.replicate 7 jI) 65)):=by kernel_rfl
theorem mk75' (h:Hp):zO tb h 31 (iv 7) (iv 7)=some (.sl h.n 0 7 1,h.new (.cells (List.replicate 7 (iv 0)) 3)):=by kernel_rfl
theorem DpAt.start {xt:Xt} {Own:Nat->Prop} {h:Hp} {B V n i0:Nat} {f:Nat->Cg} (h1:h.t.get B=some (.cells (List.replicate n jI) 65)) (h2:h.t.get V=some (.cells (List.replicate n (iv 0)) 3)) (hi:i0<n) (hf:f i0=([],0)):DpAt xt Own h B V n f (fun i=>i=i0):=by
 refine ⟨_,_,h1,h2,xZP,xZP,fun i e=> ?_⟩;subst e;refine ⟨hi,jI,?_,?_,?_⟩
 ·rw [xZS,if_pos hi]
 ·rw [xZS,if_pos hi,hf]
 ·rw [hf];exact CgAt.nil
end Go.Proofs.Kn
