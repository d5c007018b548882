/- MvS1, MvS2, MvS3, MvS4: texts in a row, joined by a program. -/
import Derived.Test.YtnmfblokfponlaaGreatDoorQY6
set_option linter.all false
open Nat renaming reduceEqDiff → rE, reduceLeDiff → rD, reduceAdd → rA, reduceMul → rM, reduceLT → rL
open Go.Ev.T renaming get_put → xZZ
open Nat renaming le_refl → xZY
open List renaming getElem?_eq_getElem → xZX, getElem?_eq_some_iff → xZV, take_of_length_le → xZT, take_succ → xZR, drop_eq_getElem_cons → xZQ, getElem?_replicate → xZP, getElem?_set_self → xZO, drop_eq_nil_of_le → xZN, length_replicate → xZM, getElem?_set_ne → xZL, length_append → xZK, getElem?_map → xZJ
open Go.Ev.Fr renaming refl → xZW
open Option renaming bind_some → xZU
open Go.Ev.Hp renaming set_t → xZS
open Go.Ev.FnA renaming walk → xZI
namespace Go.Proofs.Kn
open Go Go.Ev
set_option maxRecDepth 100000
set_option maxHeartbeats 4000000
def uJ (l:List Int):Nat->List Int
 |0=>[]
 |k+1=>uJ l k++if l.contains ((k:Int)+1) then [(k:Int)+1] else []
theorem wdsTo3 (l:List Int):uJ l 3=[1,2,3].filter fun x=>l.contains x:=by
 have e1:(((0:Nat):Int)+1)=1:=rfl;have e2:(((1:Nat):Int)+1)=2:=rfl;have e3:(((2:Nat):Int)+1)=3:=rfl;simp only [uJ,e1,e2,e3,List.filter_cons,List.filter_nil,List.nil_append];cases l.contains 1<;>cases l.contains 2<;>cases l.contains 3<;>rfl
theorem qCB (l:List Int): ∀k,(uJ l k).length<=k
 |0=>xZY _
 |k+1=>by
  have:=qCB l k;simp only [uJ,xZK];split<;>simp<;>omega
theorem ft74 (xt:Addr->Option Value):(SE xt).ft.get 74=some Tryz.f74:=by kernel_rfl
theorem res74:Tryz.f74.results.toList=[.tmp 2]:=by kernel_rfl
theorem rwidths_c (xt:Addr->Option Value) (h:Hp) (w:Wk) (ha:w.At xt h) (his:w.Is):
  FnA (SE xt) 74 [w.av] h (fun res h'=>Fr h.n h h'/\ ∃z,res= .ret z/\RowAt xt h' 1 z (w.ws.map c1)/\ ∀b off n s,z= .sl b off n s->h.n<=b):=by
 refine xZI (sok xt) (ft74 xt) rfl 35 rfl ?_;obtain ⟨o1,o2,o3,o4,o5⟩:=ha.ones;have hlen:=ha.len;have t4:=his.t4;refine qA fun K hn hp=> ?_;simp only [sw.1,reduceIte,rL];apply hn;obtain ⟨h1,hh1⟩: ∃h1:Hp,h1=h.new (.cells w.cs 30):=⟨_,rfl⟩;rw [<-hh1];have nh1:h1.n=h.n+1:=by rw [hh1];rfl
 have sh1:h1.t.get h.n=some (.cells w.cs 30):=by rw [hh1];exact qY _ _
 have kh1: ∀k,k<h.n->h1.t.get k=h.t.get k:=fun k hk=>by rw [hh1];exact jA _ _ hk
 have fbh1:Fr h.n h h1:=by rw [hh1];exact (xZW (xZY _)).new _
 have fh1:=fbh1;have ha1:=ha.fr fh1 (xZY _);have hl1:w.wds.length=w.ts.length:=by simp [Wk.wds]
 refine qA fun K hn hp=> ?_;simp only [sy.1,rL];apply hn;refine qD ?_;refine qA fun K hn hp=> ?_;simp only [sy.1,rL];apply hn;refine qF fun KA A1 A2 A3 A4 A5=> ?_;refine qQ (sok xt) (fun st=> ∃(k:Nat) (z:AV) (hg:Hp) (tm:T AV),st=⟨tm,35,hg,[]⟩/\k<=3/\tm.get 1=some (.ptr h.n 0)/\tm.get 3=some (z)/\tm.get 4=some (iv ((k:Int)+1))/\Fr h1.n h1 hg/\OwnSl hg h1.n 1 3 z (uJ w.wds k).length (ivs (uJ w.wds k))) (fun st=>5 - (match st.tm.get 4 with|some (.val (.int _ n))=>n.toNat|_=>0)) ?_ ?_
 ·rintro st ⟨k,z,hg,tm,rfl,hkA,g1,g3,g4,fg,own⟩;have muA:=g4;have fgh:Fr h.n h hg:=fh1.trans fg (by omega);have ug:=(fg.at_ h.n (.inl (by omega))).trans sh1;refine qD ?_;refine qA fun K hn hp=> ?_;simp only [sy.1,reduceIte,rL,g4];apply hn;by_cases hk:k<3
  ·have d:decide ((k:Int)+1<=3)=true:=decide_eq_true (by omega);refine qC true (by simp only [sy.1,rE,reduceIte,d]) (fun _=> ?_) (fun hx=>by cases hx);refine qG ?_;refine qF fun KB B1 B2 B3 B4 B5=> ?_;refine qA fun K hn hp=> ?_;simp only [sy.1,rL];apply hn;refine qD ?_;refine qA fun K hn hp=> ?_;simp only [sy.1,rL];apply hn;refine qF fun KD D1 D2 D3 D4 D5=> ?_;refine qQ (sok xt) (fun st=> ∃(q:Nat) (b:Bool) (tm:T AV),st=⟨tm,35,hg,[]⟩/\q<=w.ts.length/\tm.get 1=some (.ptr h.n 0)/\tm.get 3=some (z)/\tm.get 4=some (iv ((k:Int)+1))/\tm.get 5=some (.val (.bool b))/\tm.get 6=some (iv q)/\b=(w.wds.take q).contains ((k:Int)+1)) (fun st=>w.ts.length - (match st.tm.get 6 with|some (.val (.int _ n))=>n.toNat|_=>0)) ?_ ?_
   ·rintro st ⟨q,b,tm,rfl,hkD,g1,g3,g4,g5,g6,hbq⟩;have muD:=g6;refine qD ?_;refine qA fun K hn hp=> ?_;simp only [sy.1,rE,reduceIte,rL,syw.1,hlen,qZ,g1,g6,ug];apply hn;by_cases hq:q<w.ts.length
    ·refine qC true (by simp only [sy.1,rE,reduceIte,hq]) (fun _=> ?_) (fun hx=>by cases hx);refine qG ?_;obtain ⟨n,th,wo,ht⟩:=his.tub hq;have hag:=ha.fr fgh (xZY _);obtain ⟨i1,i2,_,_,ld⟩:=hag.tubs ht.at_;have i3:=(ld hg (xZW (xZY _))).1;have e9:w.wds[q]? =some (n:Int):=by rw [Wk.wds,xZJ,ht.at_];rfl
     have et:(w.wds.take (q+1)).contains ((k:Int)+1)=(b || decide ((n:Int)=(k:Int)+1)):=by
      rw [xZR,e9,Option.toList_some,hbq];simp only [List.contains_eq_any_beq,List.any_append,List.any_cons,List.any_nil,Bool.or_false]
      congr 1
      by_cases e:(n:Int)=(k:Int)+1
      ·simp [e]
      ·have e': ¬(k:Int)+1=(n:Int):=fun q=>e q.symm;simp [e,e']
     refine qF fun KE E1 E2 E3 E4 E5=> ?_;cases b
     ·refine reg fun K hn hp=> ?_;simp only [sy.1,rE,reduceIte,rL,g1,g4,g5,g6,ug,i1,i2,i3];apply hn;refine E1 _ ?_;refine reg fun K hn hp=> ?_;simp only [sy.1,rE,reduceIte,rL,g6,qL hq (show w.ts.length<=9223372036854775807 by omega)];apply hn;refine ⟨⟨q+1,decide ((n:Int)=(k:Int)+1),_,rfl,by omega,(by simp [xZZ,g1]),(by simp [xZZ,g3]),(by simp [xZZ,g4]),(by simp [xZZ]),(by simp [xZZ]),by rw [et,Bool.false_or]⟩,by simpa [xZZ,muD] using (by omega:w.ts.length - (q+1)<w.ts.length - q)⟩
     ·refine reg fun K hn hp=> ?_;simp only [sy.1,rE,reduceIte,rL,g5];apply hn;refine E1 _ ?_;refine reg fun K hn hp=> ?_;simp only [sy.1,rE,reduceIte,rL,g6,qL hq (show w.ts.length<=9223372036854775807 by omega)];apply hn;refine ⟨⟨q+1,true,_,rfl,by omega,(by simp [xZZ,g1]),(by simp [xZZ,g3]),(by simp [xZZ,g4]),(by simp [xZZ]),(by simp [xZZ]),by rw [et,Bool.true_or]⟩,by simpa [xZZ,muD] using (by omega:w.ts.length - (q+1)<w.ts.length - q)⟩
    ·refine qC false (by simp only [sy.1,rE,reduceIte,hq]) (fun hx=>by cases hx) (fun _=> ?_);refine qO (D2 _ ?_);obtain rfl:q=w.ts.length:=by omega
     rw [xZT (by omega)] at hbq;have a1:((k:Int)+1+1).toNat=k+2:=by omega
     have a2:((k:Int)+1).toNat=k+1:=by omega
     have ww:IntKind.i64.wrap ((k:Int)+1+1)=((k+1:Nat):Int)+1:=by rw [qK _ (by omega) (by omega)];omega
     refine qA fun K hn hp=> ?_;simp only [sy.1,rE,reduceIte,rL,g5];apply hn;cases b
     ·refine qH false (by simp only [sy.1,rE,reduceIte]) (fun hx=>by cases hx) (fun _=> ?_);refine qU (B1 _ ?_);refine reg fun K hn hp=> ?_;simp only [sy.1,rE,reduceIte,rL,g4,ww];apply hn;have e1:uJ w.wds (k+1)=uJ w.wds k:=by rw [uJ,<-hbq];simp
      refine ⟨⟨k+1,z,hg,_,rfl,by omega,(by simp [xZZ,g1]),(by simp [xZZ,g3]),(by simp [xZZ]),fg,by rw [e1];exact own⟩,by simpa [xZZ,muA,a1,a2] using (by omega:5 - (k+2)<5 - (k+1))⟩
     ·refine qH true (by simp only [sy.1,rE,reduceIte]) (fun _=> ?_) (fun hx=>by cases hx);have e1:uJ w.wds (k+1)=uJ w.wds k++[(k:Int)+1]:=by rw [uJ,<-hbq];simp
      have:=qCB w.wds k;obtain ⟨z',h7,p1,p2,p3⟩:=qD9 (xt:=xt) own (by have:=fg.lo;omega) ((k:Int)+1) (by omega);refine reg fun K hn hp=> ?_;simp only [sy.1,rE,reduceIte,rL,g3,g4,jK,bs75',p1];refine hn _ _ (B1 _ ?_);refine reg fun K hn hp=> ?_;simp only [sy.1,rE,reduceIte,rL,g4,ww];apply hn;refine ⟨⟨k+1,z',h7,_,rfl,by omega,(by simp [xZZ,g1]),(by simp [xZZ]),(by simp [xZZ]),fg.trans p3 (xZY _),by rw [e1,xZK];exact p2⟩,by simpa [xZZ,muA,a1,a2] using (by omega:5 - (k+2)<5 - (k+1))⟩
   ·exact ⟨0,false,_,rfl,(by omega),(by simp [xZZ,g1]),(by simp [xZZ,g3]),(by simp [xZZ,g4]),(by simp [xZZ]),(by simp [xZZ]),by simp⟩
  ·have d:decide ((k:Int)+1<=3)=false:=decide_eq_false (by omega);refine qC false (by simp only [sy.1,rE,reduceIte,d]) (fun hx=>by cases hx) (fun _=> ?_);refine qO (A2 _ ?_);obtain rfl:k=3:=by omega
   rw [wdsTo3,<-his.ws] at own;refine qA fun K hn hp=> ?_;simp only [sy.1,rE,reduceIte,rL,g3];apply hn;refine qE (qN res74 ⟨fgh,z,?_,qDf own,fun b off n s e=> ?_⟩)
   ·simp [xZZ]
   ·rcases own with ⟨_,_,o⟩|⟨b',o,q,_⟩
    ·rw [o] at e;cases e
    ·rw [o] at e;cases e;omega
 ·exact ⟨0,_,h1,_,rfl,(by omega),(by simp [xZZ]),(by simp [xZZ]),(by simp [xZZ]),xZW (xZY _),OwnSl.nil⟩
end Go.Proofs.Kn
namespace Go.Proofs.Kn
open Go Go.Ev
set_option maxRecDepth 100000
set_option maxHeartbeats 4000000
theorem qAj (a b:Int):xS a b<0↔a<b:=by
 unfold xS;split
 ·simp_all
 ·split
  ·simp;omega
  ·simp;omega
theorem pZ (a b:Int):xS a b=0↔a=b:=by
 unfold xS;split
 ·simp;omega
 ·split
  ·simp;omega
  ·simp;omega
theorem qBI (x:Int) (l:List Int):orL (x::l)=if x=0 then orL l else x:=rfl
theorem bef_zero {a b:Int×Int×Int}:bef a b=0↔a=b:=by
 obtain ⟨a1,a2,a3⟩:=a;obtain ⟨b1,b2,b3⟩:=b;have z:orL []=0:=rfl;simp only [bef,qBI,Prod.mk.injEq,z,pZ];by_cases e1:a1=b1
 ·by_cases e2:a2=b2
  ·by_cases e3:a3=b3
   ·simp [e1,e2,e3]
   ·simp [e1,e2,e3,pZ]
  ·simp [e1,e2,pZ]
 ·simp [e1,pZ]
theorem qDJ {a b:Int×Int×Int}:bef a b<0↔if a.1=b.1 then (if a.2.1=b.2.1 then a.2.2<b.2.2 else a.2.1<b.2.1) else a.1<b.1:=by
 obtain ⟨a1,a2,a3⟩:=a;obtain ⟨b1,b2,b3⟩:=b;have z:orL []=0:=rfl;simp only [bef,qBI,z,pZ];by_cases e1:a1=b1
 ·by_cases e2:a2=b2
  ·by_cases e3:a3=b3
   ·simp [e1,e2,e3]
   ·simp [e1,e2,e3,qAj]
  ·simp [e1,e2,qAj]
 ·simp [e1,qAj]
def befB:List (Int×Int×Int)->List (Int×Int×Int)->Bool
 |a::l,b::m=>if a=b then befB l m else decide (bef a b<0)
 |_,_=>false
theorem qEE: ∀{l m:List (Int×Int×Int)},l.length=m.length->befB l m=decide (gF l m<0)
 |[],[],_=>rfl
 |[],_::_,h=>by simp at h
 |_::_,[],h=>by simp at h
 |a::l,b::m,h=>by
  simp only [befB,gF,bef_zero];by_cases e:a=b
  ·rw [if_pos e,if_pos e];exact qEE (by simpa using h)
  ·rw [if_neg e,if_neg e]
theorem befB_nilr (l:List (Int×Int×Int)):befB l []=false:=by cases l<;>rfl
theorem Cuts.flds {xt:Addr->Option Value} {h:Hp} {v:AV} {ls:List (Int×Int×Int)} (a:Cuts xt h v ls) {i:Nat} {s:Int×Int×Int} (hx:ls[i]? =some s):
  qM tb 33 v (iv (i:Int))=some (elp v (i*3))/\qP tb 61 (elp v (i*3)) 0=some (elp v (i*3))/\qP tb 61 (elp v (i*3)) 1=some (elp v (i*3+1))/\qP tb 61 (elp v (i*3)) 2=some (elp v (i*3+2))/\
  qT tb xt h 3 (elp v (i*3))=some (iv s.1)/\qT tb xt h 3 (elp v (i*3+1))=some (iv s.2.1)/\qT tb xt h 3 (elp v (i*3+2))=some (iv s.2.2):=by
 have hq:i<ls.length:=(xZV.1 hx).1;have hne:ls.map Kn.t3≠[]:=by intro e;have:=congrArg List.length e;simp at this;rw [this] at hq;simp at hq
 have hc:(ls.map Kn.t3)[i]? =some (Kn.t3 s):=by rw [xZJ,hx];rfl
 refine ⟨a.row.idx tg33 rfl gE rfl (i:=i) (by simpa using hq) (k:= .i64),?_,a.row.fa hne gE rfl (f:=1) (o:=1) (s:=0) (ft:=3) rfl (i*3),a.row.fa hne gE rfl (f:=2) (o:=2) (s:=0) (ft:=3) rfl (i*3),a.row.load0 tg3 rfl (i:=i) hc rfl,a.row.load tg3 rfl (i:=i) (j:=1) hc rfl,a.row.load tg3 rfl (i:=i) (j:=2) hc rfl⟩;simpa using a.row.fa hne gE rfl (f:=0) (o:=0) (s:=0) (ft:=3) rfl (i*3)
theorem ft82 (xt:Addr->Option Value):(SE xt).ft.get 82=some Tryz.f82:=by kernel_rfl
theorem res82:Tryz.f82.results.toList=[.tmp 4]:=by kernel_rfl
theorem rbefore_c (xt:Addr->Option Value) (h:Hp) (va vb:AV) (l m:List (Int×Int×Int)) (hl:Cuts xt h va l) (hm:Cuts xt h vb m) {K:CR->Hp->Prop} (hk: ∀k,h.n<k->K (.ret (.val (.bool (befB l m)))) (h.up k)):FnA (SE xt) 82 [va,vb] h K:=by
 refine FnA.calm ?_ hk;clear hk K;refine xZI (sok xt) (ft82 xt) rfl 84 rfl ?_;have onea:=hl.one;have oneb:=hm.one;have lla:=hl.len;have llb:=hm.len;have ltl:=hl.lt;have ltm:=hm.lt;refine qA fun K hn hp=> ?_;simp only [sw.1,rL];apply hn;refine qD ?_;refine qA fun K hn hp=> ?_;simp only [sy.1,rL];apply hn;refine qF fun KA A1 A2 A3 A4 A5=> ?_;refine qQ (sok xt) (fun st=> ∃(k:Nat) (tm:T AV),st=⟨tm,84,h,[]⟩/\k<=l.length/\tm.get 0=some (va)/\tm.get 1=some (vb)/\tm.get 5=some (iv k)/\k<=m.length/\befB (l.drop k) (m.drop k)=befB l m) (fun st=>l.length - (match st.tm.get 5 with|some (.val (.int _ n))=>n.toNat|_=>0)) ?_ ?_
 ·rintro st ⟨k,tm,rfl,hkA,g0,g1,g5,hkm,hbf⟩;have muA:=g5;refine qD ?_;by_cases hk:k<l.length
  ·by_cases hk2:k<m.length
   ·refine qA fun K hn hp=> ?_;simp only [sy.1,rE,reduceIte,rL,syw.1,lla,llb,qZ,g0,g1,g5,hk,hk2];apply hn;refine qC true (by simp only [sy.1,rE,reduceIte]) (fun _=> ?_) (fun hx=>by cases hx);refine qG ?_;obtain ⟨a,hxa⟩: ∃a,l[k]? =some a:=⟨_,xZX hk⟩;obtain ⟨b,hxb⟩: ∃b,m[k]? =some b:=⟨_,xZX hk2⟩;obtain ⟨i1,i2,i3,i4,i5,i6,i7⟩:=hl.flds hxa;obtain ⟨j1,j2,j3,j4,j5,j6,j7⟩:=hm.flds hxb;have ea:l.drop k=a::l.drop (k+1):=by rw [xZQ hk,(xZV.1 hxa).2]
    have eb:m.drop k=b::m.drop (k+1):=by rw [xZQ hk2,(xZV.1 hxb).2]
    rw [ea,eb,befB] at hbf;have out: ∀bb:Bool,a≠b->bb=decide (bef a b<0)->bb=befB l m:=fun bb q1 q2=>by rw [<-hbf,if_neg q1,q2]
    refine qF fun KB B1 B2 B3 B4 B5=> ?_;refine qD ?_;by_cases q1:a.1=b.1
    ·have d1:(!decide (a.1=b.1))=false:=by rw [decide_eq_true q1];rfl
     refine jR (sok xt) 10 (by kernel_rfl) fun K hn hp=> ?_;simp only [sy.1,rE,reduceIte,rL,g0,g1,g5,i1,i2,i5,j1,j2,j5,d1];apply hn;refine qC false (by simp only [sy.1,rE,reduceIte]) (fun hx=>by cases hx) (fun _=> ?_);refine qG ?_;refine qD ?_;by_cases q2:a.2.1=b.2.1
     ·have d2:(!decide (a.2.1=b.2.1))=false:=by rw [decide_eq_true q2];rfl
      refine jR (sok xt) 10 (by kernel_rfl) fun K hn hp=> ?_;simp only [sy.1,rE,reduceIte,rL,g0,g1,g5,i1,i3,i6,j1,j3,j6,d2];apply hn;refine qC false (by simp only [sy.1,rE,reduceIte]) (fun hx=>by cases hx) (fun _=> ?_);refine qG ?_;by_cases q3:a.2.2=b.2.2
      ·have d3:(!decide (a.2.2=b.2.2))=false:=by rw [decide_eq_true q3];rfl
       refine jR (sok xt) 10 (by kernel_rfl) fun K hn hp=> ?_;simp only [sy.1,rE,reduceIte,rL,g0,g1,g5,i1,i4,i7,j1,j4,j7,d3];apply hn;refine qH false (by simp only [sy.1,rE,reduceIte]) (fun hx=>by cases hx) (fun _=> ?_);refine qU (B1 _ ?_);refine reg fun K hn hp=> ?_;simp only [sy.1,rE,reduceIte,rL,g5,qL hk ltl];apply hn;have eab:a=b:=Prod.ext q1 (Prod.ext q2 q3);rw [if_pos eab] at hbf;refine ⟨⟨k+1,_,rfl,by omega,(by simp [xZZ,g0]),(by simp [xZZ,g1]),(by simp [xZZ]),by omega,hbf⟩,by simpa [xZZ,muA] using (by omega:l.length - (k+1)<l.length - k)⟩
      ·have d3:(!decide (a.2.2=b.2.2))=true:=by rw [decide_eq_false q3];rfl
       refine jR (sok xt) 10 (by kernel_rfl) fun K hn hp=> ?_;simp only [sy.1,rE,reduceIte,rL,g0,g1,g5,i1,i4,i7,j1,j4,j7,d3];apply hn;refine qH true (by simp only [sy.1,rE,reduceIte]) (fun _=> ?_) (fun hx=>by cases hx);refine jR (sok xt) 10 (by kernel_rfl) fun K hn hp=> ?_;simp only [sy.1,rE,reduceIte,rL,g0,g1,g5,i1,i4,i7,j1,j4,j7];refine hn _ _ (qE (B4 _ (A4 _ (qN res82 ⟨?_,xZW (xZY _)⟩))));rw [<-out (decide (a.2.2<b.2.2)) (fun e=>q3 (by rw [e])) (by simp [qDJ,q1,q2])];simp [xZZ]
     ·have d2:(!decide (a.2.1=b.2.1))=true:=by rw [decide_eq_false q2];rfl
      refine jR (sok xt) 10 (by kernel_rfl) fun K hn hp=> ?_;simp only [sy.1,rE,reduceIte,rL,g0,g1,g5,i1,i3,i6,j1,j3,j6,d2];apply hn;refine qC true (by simp only [sy.1,rE,reduceIte]) (fun _=> ?_) (fun hx=>by cases hx);refine qD ?_;refine jR (sok xt) 10 (by kernel_rfl) fun K hn hp=> ?_;simp only [sy.1,rE,reduceIte,rL,g0,g1,g5,i1,i3,i6,j1,j3,j6];refine hn _ _ (qX (B4 _ (A4 _ (qN res82 ⟨?_,xZW (xZY _)⟩))));rw [<-out (decide (a.2.1<b.2.1)) (fun e=>q2 (by rw [e])) (by simp [qDJ,q1,q2])];simp [xZZ]
    ·have d1:(!decide (a.1=b.1))=true:=by rw [decide_eq_false q1];rfl
     refine jR (sok xt) 10 (by kernel_rfl) fun K hn hp=> ?_;simp only [sy.1,rE,reduceIte,rL,g0,g1,g5,i1,i2,i5,j1,j2,j5,d1];apply hn;refine qC true (by simp only [sy.1,rE,reduceIte]) (fun _=> ?_) (fun hx=>by cases hx);refine qD ?_;refine jR (sok xt) 10 (by kernel_rfl) fun K hn hp=> ?_;simp only [sy.1,rE,reduceIte,rL,g0,g1,g5,i1,i2,i5,j1,j2,j5];refine hn _ _ (qX (B4 _ (A4 _ (qN res82 ⟨?_,xZW (xZY _)⟩))));rw [<-out (decide (a.1<b.1)) (fun e=>q1 (by rw [e])) (by simp [qDJ,q1])];simp [xZZ]
   ·refine qA fun K hn hp=> ?_;simp only [sy.1,rE,reduceIte,rL,syw.1,lla,llb,qZ,g0,g1,g5,hk,hk2];apply hn;refine qC false (by simp only [sy.1,rE,reduceIte]) (fun hx=>by cases hx) (fun _=> ?_);refine qO (A2 _ ?_);refine qA fun K hn hp=> ?_;simp only [sy.1,rL];apply hn;refine qE (qN res82 ⟨?_,xZW (xZY _)⟩);rw [<-hbf,xZN (show m.length<=k by omega),befB_nilr];simp [xZZ]
  ·refine qA fun K hn hp=> ?_;simp only [sy.1,rE,reduceIte,rL,syw.1,lla,qZ,g0,g5,hk];apply hn;refine qC false (by simp only [sy.1,rE,reduceIte]) (fun hx=>by cases hx) (fun _=> ?_);refine qO (A2 _ ?_);refine qA fun K hn hp=> ?_;simp only [sy.1,rL];apply hn;refine qE (qN res82 ⟨?_,xZW (xZY _)⟩);have e1:befB [] (m.drop k)=false:=rfl;rw [<-hbf,xZN (show l.length<=k by omega),e1];simp [xZZ]
 ·exact ⟨0,_,rfl,(by omega),(by simp [xZZ]),(by simp [xZZ]),(by simp [xZZ]),Nat.zero_le _,rfl⟩
end Go.Proofs.Kn
namespace Go.Proofs.Kn
open Go Go.Ev
set_option maxRecDepth 100000
set_option maxHeartbeats 4000000
theorem bet_eq (a b:Cg):bet a b=if a.2=b.2 then (if a.1.length=b.1.length then befB a.1 b.1 else decide (a.1.length<b.1.length)) else decide (b.2<a.2):=by
 obtain ⟨l,x⟩:=a;obtain ⟨m,y⟩:=b;have z:orL []=0:=rfl;simp only [bet,qBI,z,pZ];by_cases e1:x=y
 ·have e1':y=x:=e1.symm;simp only [e1,if_true];by_cases e2:l.length=m.length
  ·simp only [e2,if_true];rw [qEE e2];by_cases e3:gF l m=0
   ·simp [e3]
   ·simp [e3]
  ·have e2': ¬(l.length:Int)=(m.length:Int):=by omega
   simp only [e2,e2',if_false,qAj];exact decide_eq_decide.2 (by omega)
 ·have e1': ¬y=x:=fun e=>e1 e.symm;simp only [e1,e1',if_false,qAj]
theorem ft24 (xt:Addr->Option Value):(SE xt).ft.get 24=some Tryz.f24:=by kernel_rfl
theorem res24:Tryz.f24.results.toList=[.tmp 8]:=by kernel_rfl
theorem qCQ (xt:Addr->Option Value) (h:Hp) (za zb:AV) (a b:Cg) (ha:Cuts xt h za a.1) (hb:Cuts xt h zb b.1) {K:CR->Hp->Prop} (hk: ∀k,h.n<k->K (.ret (.val (.bool (bet a b)))) (h.up k)):FnA (SE xt) 24 [za,iv a.2,zb,iv b.2] h K:=by
 refine FnA.calm ?_ hk;clear hk K;refine xZI (sok xt) (ft24 xt) rfl 28 rfl ?_;have onea:=ha.one;have oneb:=hb.one;have lla:=ha.len;have llb:=hb.len;refine qA fun K hn hp=> ?_;simp only [sw.1,rL,rA];apply hn;refine qD ?_;by_cases q1:a.2=b.2
 ·have d1:(!decide (a.2=b.2))=false:=by rw [decide_eq_true q1];rfl
  refine qA fun K hn hp=> ?_;simp only [sy.1,rE,reduceIte,rL,d1];apply hn;refine qC false (by simp only [sy.1,rE,reduceIte]) (fun hx=>by cases hx) (fun _=> ?_);refine qG ?_;refine qD ?_;by_cases q2:a.1.length=b.1.length
  ·have d2:(!decide ((a.1.length:Int)=(b.1.length:Int)))=false:=by rw [decide_eq_true (by omega)];rfl
   refine qA fun K hn hp=> ?_;simp only [sy.1,rE,reduceIte,rL,syw.1,lla,llb,d2];apply hn;refine qC false (by simp only [sy.1,rE,reduceIte]) (fun hx=>by cases hx) (fun _=> ?_);refine qG ?_;refine qA fun K hn hp=> ?_;simp only [sy.1,rE,reduceIte,rL];refine qB (sok xt) (rbefore_c xt h za zb a.1 b.1 ha hb fun k1 hk1=> ?_);simp only [sy.1,rE,reduceIte,rL];refine hn _ _ (qE (qN res24 ⟨?_,(xZW (xZY _)).up (Nat.le_of_lt hk1)⟩));rw [bet_eq,if_pos q1,if_pos q2];simp [xZZ]
  ·have d2:(!decide ((a.1.length:Int)=(b.1.length:Int)))=true:=by rw [decide_eq_false (by omega)];rfl
   refine qA fun K hn hp=> ?_;simp only [sy.1,rE,reduceIte,rL,syw.1,lla,llb,d2];apply hn;refine qC true (by simp only [sy.1,rE,reduceIte]) (fun _=> ?_) (fun hx=>by cases hx);refine qD ?_;refine qA fun K hn hp=> ?_;simp only [sy.1,rE,reduceIte,rL,syw.1,lla,llb];apply hn;refine qX (qN res24 ⟨?_,xZW (xZY _)⟩);rw [bet_eq,if_pos q1,if_neg q2];simp [xZZ]
 ·have d1:(!decide (a.2=b.2))=true:=by rw [decide_eq_false q1];rfl
  refine qA fun K hn hp=> ?_;simp only [sy.1,rE,reduceIte,rL,d1];apply hn;refine qC true (by simp only [sy.1,rE,reduceIte]) (fun _=> ?_) (fun hx=>by cases hx);refine qD ?_;refine qA fun K hn hp=> ?_;simp only [sy.1,rE,reduceIte,rL];apply hn;refine qX (qN res24 ⟨?_,xZW (xZY _)⟩);rw [bet_eq,if_neg q1];simp [xZZ]
theorem eqi61 (d:Nat) (a b c e f g:Int):qR Tryz.prog (Op.equalIn (d+1+1) 61 (.agg #[.int .i64 a,.int .i64 b,.int .i64 c]) (.agg #[.int .i64 e,.int .i64 f,.int .i64 g]))=some (decide (a=e) && (decide (b=f) && decide (c=g))):=by
 have h1:qR Tryz.prog (underlying 61)=some (TypeDesc.struct #[{name:= "Row",type:=3,offset:=0,embedded:=false,tag:= "",pkgPath:= "",byteOffset:=0},{name:= "Column",type:=3,offset:=1,embedded:=false,tag:= "",pkgPath:= "",byteOffset:=8},{name:= "Tube",type:=3,offset:=2,embedded:=false,tag:= "",pkgPath:= "",byteOffset:=16}]):=by kernel_rfl
 have h2:Tryz.prog.stoodInHeld 61=false:=by kernel_rfl
 have h3: ∀d a b,qR Tryz.prog (Op.equalIn (d+1) 3 (.int .i64 a) (.int .i64 b))=some (a==b):=fun d a b=>by
  rw [Op.equalIn];simp only [jV,undI3,xZU,if_true,jG]
 have p1: ∀a b x,qR Tryz.prog (part 3 #[.int .i64 a,.int .i64 b,.int .i64 x] 0)=some (.int .i64 a):=fun a b x=>by kernel_rfl
 have p2: ∀a b x,qR Tryz.prog (part 3 #[.int .i64 a,.int .i64 b,.int .i64 x] 1)=some (.int .i64 b):=fun a b x=>by kernel_rfl
 have p3: ∀a b x,qR Tryz.prog (part 3 #[.int .i64 a,.int .i64 b,.int .i64 x] 2)=some (.int .i64 x):=fun a b x=>by kernel_rfl
 rw [Op.equalIn];simp only [jV,h1,xZU,kE,h2,Bool.false_eq_true,if_false];rw [<-Array.forIn_toList];simp only [List.forIn_cons,List.forIn_nil,jV,zP,p1,h3,xZU,jG];by_cases q1:a=e
 ·by_cases q2:b=f
  ·by_cases q3:c=g
   ·simp [q1,q2,q3,jG,jV,p2,p3,h3,zP]
   ·simp [q1,q2,q3,jG,jV,p2,p3,h3,zP]
  ·simp [q1,q2,jG,jV,p2,h3,zP]
 ·simp [q1,jG]
theorem neq61 (ox oy:Operand) (s t:Int×Int×Int):uF Tryz.prog tb .neq 61 ox oy (pJ s) (pJ t)=some (.val (.bool (!decide (s=t)))):=by
 obtain ⟨a,b,c⟩:=s;obtain ⟨e,f,g⟩:=t;have h:=eqi61 9998 a b c e f g;have hq:qR Tryz.prog (Op.equal 61 (.agg #[.int .i64 a,.int .i64 b,.int .i64 c]) (.agg #[.int .i64 e,.int .i64 f,.int .i64 g]))=some (decide (a=e) && (decide (b=f) && decide (c=g))):=h;have hg:qR Tryz.prog (eqGuard .neq 61 ox oy (.agg #[.int .i64 a,.int .i64 b,.int .i64 c]) (.agg #[.int .i64 e,.int .i64 f,.int .i64 g]))=some ():=by
  have h1:Tryz.prog.eqGuardType Tryz.prog.depth 61=false:=by kernel_rfl
  simp [eqGuard,jV,jG,kE,zP,h1]
 have hd:(decide (a=e) && (decide (b=f) && decide (c=g)))=decide ((a,b,c)=(e,f,g)):=by
  rw [<-Bool.decide_and,<-Bool.decide_and];exact decide_eq_decide.2 (by simp)
 rw [hd] at hq;simp only [uF,toVal,toVals,jV,hg,xZU,binOp,hq,jG]
theorem ft20 (xt:Addr->Option Value):(SE xt).ft.get 20=some Tryz.f20:=by kernel_rfl
theorem res20:Tryz.f20.results.toList=[.tmp 4]:=by kernel_rfl
theorem same_c (xt:Addr->Option Value) (h:Hp) (va vb:AV) (l m:List (Int×Int×Int)) (hl:Cuts xt h va l) (hm:Cuts xt h vb m) {K:CR->Hp->Prop} (hk: ∀k,h.n<k->K (.ret (.val (.bool (decide (l=m))))) (h.up k)):FnA (SE xt) 20 [va,vb] h K:=by
 refine FnA.calm ?_ hk;clear hk K;refine xZI (sok xt) (ft20 xt) rfl 26 rfl ?_;have onea:=hl.one;have oneb:=hm.one;have lla:=hl.len;have llb:=hm.len;have ltl:=hl.lt;refine qA fun K hn hp=> ?_;simp only [sw.1,rL];apply hn;refine qD ?_;by_cases q1:l.length=m.length
 ·have d1:(!decide ((l.length:Int)=(m.length:Int)))=false:=by rw [decide_eq_true (by omega)];rfl
  refine qA fun K hn hp=> ?_;simp only [sy.1,rE,reduceIte,rL,syw.1,lla,llb,d1];apply hn;refine qC false (by simp only [sy.1,rE,reduceIte]) (fun hx=>by cases hx) (fun _=> ?_);refine qG ?_;refine qD ?_;refine qA fun K hn hp=> ?_;simp only [sy.1,rL];apply hn;refine qF fun KA A1 A2 A3 A4 A5=> ?_;refine qQ (sok xt) (fun st=> ∃(k:Nat) (tm:T AV),st=⟨tm,26,h,[]⟩/\k<=l.length/\tm.get 0=some (va)/\tm.get 1=some (vb)/\tm.get 5=some (iv k)/\l.take k=m.take k) (fun st=>l.length - (match st.tm.get 5 with|some (.val (.int _ n))=>n.toNat|_=>0)) ?_ ?_
  ·rintro st ⟨k,tm,rfl,hkA,g0,g1,g5,htk⟩;have muA:=g5;refine qD ?_;refine qA fun K hn hp=> ?_;simp only [sy.1,rE,reduceIte,rL,syw.1,lla,qZ,g0,g5];apply hn;by_cases hk:k<l.length
   ·refine qC true (by simp only [sy.1,rE,reduceIte,hk]) (fun _=> ?_) (fun hx=>by cases hx);refine qG ?_;obtain ⟨a,hxa⟩: ∃a,l[k]? =some a:=⟨_,xZX hk⟩;obtain ⟨b,hxb⟩: ∃b,m[k]? =some b:=⟨_,xZX (by omega)⟩;obtain ⟨i1,i2,_,_⟩:=hl.at_ hxa;obtain ⟨j1,j2,_,_⟩:=hm.at_ hxb;refine qF fun KB B1 B2 B3 B4 B5=> ?_;refine jR (sok xt) 8 (by kernel_rfl) fun K hn hp=> ?_;have et:l.take (k+1)=m.take (k+1)↔a=b:=by
     rw [xZR,xZR,hxa,hxb,htk];simp
    by_cases e:a=b
    ·have de:(!decide (a=b))=false:=by rw [decide_eq_true e];rfl
     simp only [sy.1,rE,reduceIte,rL,g0,g1,g5,i1,i2,j1,j2,neq61,de];apply hn;refine qH false (by simp only [sy.1,rE,reduceIte]) (fun hx=>by cases hx) (fun _=> ?_);refine qU (B1 _ ?_);refine reg fun K hn hp=> ?_;simp only [sy.1,rE,reduceIte,rL,g5,qL hk ltl];apply hn;refine ⟨⟨k+1,_,rfl,by omega,(by simp [xZZ,g0]),(by simp [xZZ,g1]),(by simp [xZZ]),et.2 e⟩,by simpa [xZZ,muA] using (by omega:l.length - (k+1)<l.length - k)⟩
    ·have de:(!decide (a=b))=true:=by rw [decide_eq_false e];rfl
     simp only [sy.1,rE,reduceIte,rL,g0,g1,g5,i1,i2,j1,j2,neq61,de];apply hn;refine qH true (by simp only [sy.1,rE,reduceIte]) (fun _=> ?_) (fun hx=>by cases hx);refine qA fun K hn hp=> ?_;simp only [sy.1,rL];apply hn;refine qE (B4 _ (A4 _ (qN res20 ⟨?_,xZW (xZY _)⟩)));have: ¬l=m:=fun q=>e (et.1 (by rw [q]));simp [xZZ,this]
   ·refine qC false (by simp only [sy.1,rE,reduceIte,hk]) (fun hx=>by cases hx) (fun _=> ?_);refine qO (A2 _ ?_);refine qA fun K hn hp=> ?_;simp only [sy.1,rL];apply hn;refine qE (qN res20 ⟨?_,xZW (xZY _)⟩);rw [xZT (by omega),xZT (by omega)] at htk;simp [xZZ,htk]
  ·exact ⟨0,_,rfl,(by omega),(by simp [xZZ]),(by simp [xZZ]),(by simp [xZZ]),rfl⟩
 ·have d1:(!decide ((l.length:Int)=(m.length:Int)))=true:=by rw [decide_eq_false (by omega)];rfl
  refine qA fun K hn hp=> ?_;simp only [sy.1,rE,reduceIte,rL,syw.1,lla,llb,d1];apply hn;refine qC true (by simp only [sy.1,rE,reduceIte]) (fun _=> ?_) (fun hx=>by cases hx);refine qD ?_;refine qA fun K hn hp=> ?_;simp only [sy.1,rL];apply hn;refine qX (qN res20 ⟨?_,xZW (xZY _)⟩);have: ¬l=m:=fun e=>q1 (by rw [e]);simp [xZZ,this]
end Go.Proofs.Kn
namespace Go.Proofs.Kn
open Go Go.Ev
set_option maxRecDepth 100000
set_option maxHeartbeats 4000000
def DpAt (xt:Addr->Option Value) (Own:Nat->Prop) (h:Hp) (B V n:Nat) (f:Nat->Cg) (D:Nat->Prop):Prop:=
 ∃bz vz,h.t.get B=some (.cells bz 33)/\h.t.get V=some (.cells vz 3)/\bz.length=n/\vz.length=n/\ ∀i,D i->i<n/\ ∃z,bz[i]? =some z/\vz[i]? =some (iv (f i).2)/\CgAt xt Own h z (f i).1
theorem qBO {b n j:Nat} (hj:j<n):qM tb 127 (.sl b 0 n 1) (iv (j:Int))=some (.ptr b j):=by
 have e1:qAp (iv (j:Int))=some (Int.ofNat j):=rfl;have e2:Nat.blt j n=true:=by rw [Nat.blt_eq];exact hj
 have d127:te127.d= .slice 33:=rfl;have s33:te33.size=1:=rfl;simp [qM,tg127,e1,d127,tg33,e2,s33]
theorem DpAt.look {xt:Addr->Option Value} {Own:Nat->Prop} {h:Hp} {B V n:Nat} {f:Nat->Cg} {D:Nat->Prop} (a:DpAt xt Own h B V n f D) {i:Nat} (hi:D i):
  ∃z,qM tb 127 (.sl B 0 n 1) (iv (i:Int))=some (.ptr B i)/\qM tb 75 (.sl V 0 n 1) (iv (i:Int))=some (.ptr V i)/\j0 (h.t.get B) i=some z/\j0 (h.t.get V) i=some (iv (f i).2)/\CgAt xt Own h z (f i).1:=by
 obtain ⟨bz,vz,h1,h2,h3,h4,h5⟩:=a;obtain ⟨q,z,e1,e2,c⟩:=h5 i hi;refine ⟨z,qBO q,ix75 q,?_,?_,c⟩
 ·rw [h1];simpa [j0] using e1
 ·rw [h2];simpa [j0] using e2
theorem DpAt.keep {xt:Addr->Option Value} {Own:Nat->Prop} {h h':Hp} {B V n:Nat} {f:Nat->Cg} {D:Nat->Prop} (a:DpAt xt Own h B V n f D) (hn:h.n<=h'.n) (hB:h'.t.get B=h.t.get B) (hV:h'.t.get V=h.t.get V) (hk: ∀b,b<h.n-> ¬Own b->h'.t.get b=h.t.get b):DpAt xt Own h' B V n f D:=by
 obtain ⟨bz,vz,h1,h2,h3,h4,h5⟩:=a;refine ⟨bz,vz,hB.trans h1,hV.trans h2,h3,h4,fun i hi=> ?_⟩;obtain ⟨q,z,e1,e2,c⟩:=h5 i hi;exact ⟨q,z,e1,e2,c.keep hn hk⟩
theorem DpAt.fr {xt:Addr->Option Value} {Own:Nat->Prop} {h h':Hp} {B V n:Nat} {f:Nat->Cg} {D:Nat->Prop} (a:DpAt xt Own h B V n f D) (fr:Fr h.n h h') (hB:B<h.n) (hV:V<h.n):DpAt xt Own h' B V n f D:=
 a.keep fr.le (fr.at_ B (.inl hB)) (fr.at_ V (.inl hV)) fun b hb _=>fr.at_ b (.inl hb)
theorem DpAt.congr {xt:Addr->Option Value} {Own:Nat->Prop} {h:Hp} {B V n:Nat} {f f':Nat->Cg} {D D':Nat->Prop} (a:DpAt xt Own h B V n f D) (hd: ∀i,D' i->D i) (hf: ∀i,D' i->f' i=f i):DpAt xt Own h B V n f' D':=by
 obtain ⟨bz,vz,h1,h2,h3,h4,h5⟩:=a;refine ⟨bz,vz,h1,h2,h3,h4,fun i hi=> ?_⟩;rw [hf i hi];exact h5 i (hd i hi)
theorem DpAt.put {xt:Addr->Option Value} {Own:Nat->Prop} {h:Hp} {B V n:Nat} {f:Nat->Cg} {D:Nat->Prop} (a:DpAt xt Own h B V n f D) (hB:Own B) (hV:Own V) (hBV:B≠V) {i:Nat} (hi:i<n) {z:AV} {l:List (Int×Int×Int)} (x:Int) (c:CgAt xt Own h z l):
  ∃o1 o2,jF 1 h B i z (h.t.get B)=some (h.set B o1)/\jF 1 (h.set B o1) V i (iv x) (h.t.get V)=some ((h.set B o1).set V o2)/\(∀b,b≠B->b≠V->((h.set B o1).set V o2).t.get b=h.t.get b)/\(∀N,N<=B->B<h.n->N<=V->V<h.n->Fr N h ((h.set B o1).set V o2))/\
  ∀(f':Nat->Cg) (D':Nat->Prop),f' i=(l,x)->(∀j,D' j->j=i\/(D j/\(j≠i->f' j=f j)))->DpAt xt Own ((h.set B o1).set V o2) B V n f' D':=by
 obtain ⟨bz,vz,h1,h2,h3,h4,h5⟩:=a;have p1:=zX (h:=h) (b:=B) (off:=i) (v:=z) (cs:=bz) (e:=33) c.cuts.cells c.cuts.one (by omega);have p2:=zX (h:=h.set B (.cells (bz.set i z) 33)) (b:=V) (off:=i) (v:=iv x) (cs:=vz) (e:=3) rfl rfl (by omega);refine ⟨.cells (bz.set i z) 33,.cells (vz.set i (iv x)) 3,by rw [h1];exact p1,by rw [h2];exact p2,fun b q1 q2=> ?_,fun N q1 q2 q3 q4=> ?_,fun f' D' e hD=> ?_⟩
 ·rw [xZS,xZZ,if_neg q2,xZS,xZZ,if_neg q1]
 ·exact ((xZW (by omega)).set q1 q2 _).set q3 (by rw [Hp.set_n];exact q4) _
 ·have keep: ∀{z':AV} {l':List (Int×Int×Int)},CgAt xt Own h z' l'->CgAt xt Own ((h.set B (.cells (bz.set i z) 33)).set V (.cells (vz.set i (iv x)) 3)) z' l':=fun {z' l'} c=>c.keep (xZY _) fun b _ hb=>by
   rw [xZS,xZZ,if_neg (by rintro rfl;exact hb hV),xZS,xZZ,if_neg (by rintro rfl;exact hb hB)]
  refine ⟨bz.set i z,vz.set i (iv x),?_,?_,by rw [List.length_set,h3],by rw [List.length_set,h4],fun j hj=> ?_⟩
  ·rw [xZS,xZZ,if_neg hBV,xZS,xZZ,if_pos rfl]
  ·rw [xZS,xZZ,if_pos rfl]
  ·by_cases q:j=i
   ·subst q;refine ⟨hi,z,?_,?_,?_⟩
    ·rw [xZO (by omega)]
    ·rw [xZO (by omega),e]
    ·rw [e];exact keep c
   ·obtain ⟨qd,qf⟩:=(hD j hj).resolve_left q;obtain ⟨r1,z',r2,r3,r4⟩:=h5 j qd;rw [qf q];refine ⟨r1,z',?_,?_,keep r4⟩
    ·rw [xZL (fun e=>q e.symm)];exact r2
    ·rw [xZL (fun e=>q e.symm)];exact r3
theorem mk127 (h:Hp):vI tb h 127 (iv 12) (iv 12)=some (.sl h.n 0 12 1,h.new (.cells (List.replicate 12 nilS) 33)):=by kernel_rfl
theorem mk75 (h:Hp):vI tb h 75 (iv 12) (iv 12)=some (.sl h.n 0 12 1,h.new (.cells (List.replicate 12 (iv 0)) 3)):=by kernel_rfl
theorem mk127' (h:Hp):vI tb h 127 (iv 7) (iv 7)=some (.sl h.n 0 7 1,h.new (.cells (List.replicate 7 nilS) 33)):=by kernel_rfl
theorem mk75' (h:Hp):vI tb h 75 (iv 7) (iv 7)=some (.sl h.n 0 7 1,h.new (.cells (List.replicate 7 (iv 0)) 3)):=by kernel_rfl
theorem DpAt.start {xt:Addr->Option Value} {Own:Nat->Prop} {h:Hp} {B V n i0:Nat} {f:Nat->Cg} (h1:h.t.get B=some (.cells (List.replicate n nilS) 33)) (h2:h.t.get V=some (.cells (List.replicate n (iv 0)) 3)) (hi:i0<n) (hf:f i0=([],0)):DpAt xt Own h B V n f (fun i=>i=i0):=by
 refine ⟨_,_,h1,h2,xZM,xZM,fun i e=> ?_⟩;subst e;refine ⟨hi,nilS,?_,?_,?_⟩
 ·rw [xZP,if_pos hi]
 ·rw [xZP,if_pos hi,hf]
 ·rw [hf];exact CgAt.nil
end Go.Proofs.Kn
