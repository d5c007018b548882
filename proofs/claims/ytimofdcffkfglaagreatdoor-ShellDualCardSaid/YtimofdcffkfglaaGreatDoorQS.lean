/- Parts. -/
import Derived.Shelf.GgSortFunc.Insertion
import Derived.Test.YtimofdcffkfglaaGreatDoorQP
import Derived.Test.YtimofdcffkfglaaGreatDoorQN
set_option linter.all false
open Nat renaming reduceEqDiff → rE, reduceLeDiff → rD, reduceAdd → rA, reduceMul → rM, reduceLT → rL
open Go.Ev.T renaming get_put → xZZ
open List renaming mem_cons_of_mem → xZY, mem_cons_self → xZX, mem_cons → xZV, getElem?_eq_getElem → xZU, length_append → xZT, cons_append → xZS, pairwise_cons → xZQ, mem_append → xZP, mem_map → xZO, mem_filter → xZL, pairwise_iff_getElem → xZK, getElem?_eq_some_iff → xZJ, getElem?_replicate → xZI, getElem?_set_self → xZH, length_replicate → xZG, pairwise_append → xZF, getElem?_set_ne → xZE, length_cons → xZC
open Nat renaming le_refl → xZW
open Go.Ev.Hp renaming set_t → xZR
open Int renaming toNat_natCast → xZN
open Bool renaming and_eq_true → xZM, eq_false_iff → xZD
namespace Go.Proofs.Kn
open Go Go.Ev
set_option maxRecDepth 100000
set_option maxHeartbeats 4000000
def uX (l:List Int):Nat->List Int
 |0=>[]
 |k+1=>uX l k++if l.contains ((k:Int)+1) then [(k:Int)+1] else []
theorem wdsTo3 (l:List Int):uX l 3=[1,2,3].filter fun x=>l.contains x:=by
 have e1:(((0:Nat):Int)+1)=1:=rfl;have e2:(((1:Nat):Int)+1)=2:=rfl;have e3:(((2:Nat):Int)+1)=3:=rfl;simp only [uX,e1,e2,e3,List.filter_cons,List.filter_nil,List.nil_append];cases l.contains 1<;>cases l.contains 2<;>cases l.contains 3<;>rfl
theorem qDA (l:List Int): ∀k,(uX l k).length<=k
 |0=>xZW _
 |k+1=>by
  have:=qDA l k;simp only [uX,xZT];split<;>simp<;>omega
theorem ft74 (xt:Xt):(SE xt).ft.get 74=some Tryz.f74:=by kernel_rfl
theorem res74:Tryz.f74.results.toList=[.tmp 2]:=by kernel_rfl
theorem rwidths_c (xt:Xt) (h:Hp) (w:Wk) (ha:w.At xt h) (his:w.Is):
  FnA (SE xt) 74 [w.av] h (fun res h'=>Fr h.n h h'/\ ∃z,res= .ret z/\RowAt xt h' 1 z (w.ws.map c1)/\ ∀b off n s,z= .sl b off n s->h.n<=b):=by
 refine FnA.walk (sok xt) (ft74 xt) rfl 35 rfl ?_;obtain ⟨o1,o2,o3,o4,o5⟩:=ha.ones;have hlen:=ha.len;have t4:=his.t4;refine qA fun K hn hp=> ?_;simp only [sw.1,reduceIte,rL];apply hn;obtain ⟨h1,hh1,nh1,sh1,_,fbh1⟩:=nwE h (.cells w.cs 30);rw [<-hh1];have fh1:=fbh1;have hl1:w.wds.length=w.ts.length:=by simp [Wk.wds]
 refine qA fun K hn hp=> ?_;simp only [sy.1,rL];apply hn;refine qB fun K hn hp=> ?_;simp only [sy.1,rL];apply hn;refine qD fun KA A1 A2 A3 A4 A5=> ?_;refine qM (sok xt) (fun st=> ∃(k:Nat) (z:AV) (hg:Hp) (tm:T AV),st=⟨tm,35,hg,[]⟩/\k<=3/\tm.get 1=some (.ptr h.n 0)/\tm.get 3=some (z)/\tm.get 4=some (iv ((k:Int)+1))/\Fr h1.n h1 hg/\OwnSl hg h1.n 1 3 z (uX w.wds k).length (ivs (uX w.wds k))) (fun st=>5 - (match st.tm.get 4 with|some (.val (.int _ n))=>n.toNat|_=>0)) ?_ ?_
 ·rintro st ⟨k,z,hg,tm,rfl,hkA,g1,g3,g4,fg,own⟩;have muA:=g4;have fgh:Fr h.n h hg:=fh1.trans fg (by omega);have ug:=(fg.at_ h.n (.inl (by omega))).trans sh1;refine qB fun K hn hp=> ?_;simp only [sy.1,reduceIte,rL,g4];apply hn;by_cases hk:k<3
  ·have d:decide ((k:Int)+1<=3)=true:=decide_eq_true (by omega);refine jC (by simp only [sy.1,rE,reduceIte,d]) ?_;refine qD fun KB B1 B2 B3 B4 B5=> ?_;refine qA fun K hn hp=> ?_;simp only [sy.1,rL];apply hn;refine qB fun K hn hp=> ?_;simp only [sy.1,rL];apply hn;refine qD fun KD D1 D2 D3 D4 D5=> ?_;refine qM (sok xt) (fun st=> ∃(q:Nat) (b:Bool) (tm:T AV),st=⟨tm,35,hg,[]⟩/\q<=w.ts.length/\tm.get 1=some (.ptr h.n 0)/\tm.get 3=some (z)/\tm.get 4=some (iv ((k:Int)+1))/\tm.get 5=some (.val (.bool b))/\tm.get 6=some (iv q)/\b=(w.wds.take q).contains ((k:Int)+1)) (fun st=>w.ts.length - (match st.tm.get 6 with|some (.val (.int _ n))=>n.toNat|_=>0)) ?_ ?_
   ·rintro st ⟨q,b,tm,rfl,hkD,g1,g3,g4,g5,g6,hbq⟩;have muD:=g6;refine qB fun K hn hp=> ?_;simp only [sy.1,rE,reduceIte,rL,syw.1,hlen,qV,g1,g6,ug];apply hn;by_cases hq:q<w.ts.length
    ·refine jC (by simp only [sy.1,rE,reduceIte,hq]) ?_;obtain ⟨n,th,wo,ht⟩:=his.tub hq;have hag:=ha.fr fgh (xZW _);obtain ⟨i1,i2,_,_,ld⟩:=hag.tubs ht.at_;have i3:=(ld hg (Fr.refl (xZW _))).1;have e9:w.wds[q]? =some (n:Int):=by rw [Wk.wds,List.getElem?_map,ht.at_];rfl
     have et:(w.wds.take (q+1)).contains ((k:Int)+1)=(b || decide ((n:Int)=(k:Int)+1)):=by
      rw [List.take_succ,e9,Option.toList_some,hbq];simp only [List.contains_eq_any_beq,List.any_append,List.any_cons,List.any_nil,Bool.or_false]
      congr 1
      by_cases e:(n:Int)=(k:Int)+1
      ·simp [e]
      ·have e': ¬(k:Int)+1=(n:Int):=fun q=>e q.symm;simp [e,e']
     refine qD fun KE E1 E2 E3 E4 E5=> ?_;cases b
     ·refine reg fun K hn hp=> ?_;simp only [sy.1,rE,reduceIte,rL,g1,g4,g5,g6,ug,i1,i2,i3];apply hn;refine E1 _ ?_;refine reg fun K hn hp=> ?_;simp only [sy.1,rE,reduceIte,rL,g6,qF hq (show w.ts.length<=9223372036854775807 by omega)];apply hn;refine ⟨⟨q+1,decide ((n:Int)=(k:Int)+1),_,rfl,by omega,(by simp [xZZ,g1]),(by simp [xZZ,g3]),(by simp [xZZ,g4]),(by simp [xZZ]),(by simp [xZZ]),by rw [et,Bool.false_or]⟩,by simpa [xZZ,muD] using (by omega:w.ts.length - (q+1)<w.ts.length - q)⟩
     ·refine reg fun K hn hp=> ?_;simp only [sy.1,rE,reduceIte,rL,g5];apply hn;refine E1 _ ?_;refine reg fun K hn hp=> ?_;simp only [sy.1,rE,reduceIte,rL,g6,qF hq (show w.ts.length<=9223372036854775807 by omega)];apply hn;refine ⟨⟨q+1,true,_,rfl,by omega,(by simp [xZZ,g1]),(by simp [xZZ,g3]),(by simp [xZZ,g4]),(by simp [xZZ]),(by simp [xZZ]),by rw [et,Bool.true_or]⟩,by simpa [xZZ,muD] using (by omega:w.ts.length - (q+1)<w.ts.length - q)⟩
    ·refine jD (by simp only [sy.1,rE,reduceIte,hq]) ?_;refine qL (D2 _ ?_);obtain rfl:q=w.ts.length:=by omega
     rw [List.take_of_length_le (by omega)] at hbq;have a1:((k:Int)+1+1).toNat=k+2:=by omega
     have a2:((k:Int)+1).toNat=k+1:=by omega
     have ww:IntKind.i64.wrap ((k:Int)+1+1)=((k+1:Nat):Int)+1:=by rw [qG _ (by omega) (by omega)];omega
     refine qA fun K hn hp=> ?_;simp only [sy.1,rE,reduceIte,rL,g5];apply hn;cases b
     ·refine wcF (by simp only [sy.1,rE,reduceIte]) ?_;refine qR (B1 _ ?_);refine reg fun K hn hp=> ?_;simp only [sy.1,rE,reduceIte,rL,g4,ww];apply hn;have e1:uX w.wds (k+1)=uX w.wds k:=by rw [uX,<-hbq];simp
      refine ⟨⟨k+1,z,hg,_,rfl,by omega,(by simp [xZZ,g1]),(by simp [xZZ,g3]),(by simp [xZZ]),fg,by rw [e1];exact own⟩,by simpa [xZZ,muA,a1,a2] using (by omega:5 - (k+2)<5 - (k+1))⟩
     ·refine wcT (by simp only [sy.1,rE,reduceIte]) ?_;have e1:uX w.wds (k+1)=uX w.wds k++[(k:Int)+1]:=by rw [uX,<-hbq];simp
      have:=qDA w.wds k;obtain ⟨z',h7,p1,p2,p3⟩:=qCz (xt:=xt) own (by have:=fg.lo;omega) ((k:Int)+1) (by omega);refine reg fun K hn hp=> ?_;simp only [sy.1,rE,reduceIte,rL,g3,g4,jF,bs75',p1];refine hn _ _ (B1 _ ?_);refine reg fun K hn hp=> ?_;simp only [sy.1,rE,reduceIte,rL,g4,ww];apply hn;refine ⟨⟨k+1,z',h7,_,rfl,by omega,(by simp [xZZ,g1]),(by simp [xZZ]),(by simp [xZZ]),fg.trans p3 (xZW _),by rw [e1,xZT];exact p2⟩,by simpa [xZZ,muA,a1,a2] using (by omega:5 - (k+2)<5 - (k+1))⟩
   ·exact ⟨0,false,_,rfl,(by omega),(by simp [xZZ,g1]),(by simp [xZZ,g3]),(by simp [xZZ,g4]),(by simp [xZZ]),(by simp [xZZ]),by simp⟩
  ·have d:decide ((k:Int)+1<=3)=false:=decide_eq_false (by omega);refine jD (by simp only [sy.1,rE,reduceIte,d]) ?_;refine qL (A2 _ ?_);obtain rfl:k=3:=by omega
   rw [wdsTo3,<-his.ws] at own;refine qA fun K hn hp=> ?_;simp only [sy.1,rE,reduceIte,rL,g3];apply hn;refine qC (qH res74 ⟨fgh,z,?_,qEn own,fun b off n s e=> ?_⟩)
   ·simp [xZZ]
   ·rcases own with ⟨_,_,o⟩|⟨b',o,q,_⟩
    ·rw [o] at e;cases e
    ·rw [o] at e;cases e;omega
 ·exact ⟨0,_,h1,_,rfl,(by omega),(by simp [xZZ]),(by simp [xZZ]),(by simp [xZZ]),Fr.refl (xZW _),OwnSl.nil⟩
theorem qAU (a b:Int):xY a b<0↔a<b:=by
 unfold xY;split
 ·simp_all
 ·split
  ·simp;omega
  ·simp;omega
theorem gY (a b:Int):xY a b=0↔a=b:=by
 unfold xY;split
 ·simp;omega
 ·split
  ·simp;omega
  ·simp;omega
theorem qCB (x:Int) (l:List Int):orL (x::l)=if x=0 then orL l else x:=rfl
theorem bef_zero {a b:Int×Int×Int}:bef a b=0↔a=b:=by
 obtain ⟨a1,a2,a3⟩:=a;obtain ⟨b1,b2,b3⟩:=b;have z:orL []=0:=rfl;simp only [bef,qCB,Prod.mk.injEq,z,gY];by_cases e1:a1=b1
 ·by_cases e2:a2=b2
  ·by_cases e3:a3=b3
   ·simp [e1,e2,e3]
   ·simp [e1,e2,e3,gY]
  ·simp [e1,e2,gY]
 ·simp [e1,gY]
theorem bef_neg {a b:Int×Int×Int}:bef a b<0↔if a.1=b.1 then (if a.2.1=b.2.1 then a.2.2<b.2.2 else a.2.1<b.2.1) else a.1<b.1:=by
 obtain ⟨a1,a2,a3⟩:=a;obtain ⟨b1,b2,b3⟩:=b;have z:orL []=0:=rfl;simp only [bef,qCB,z,gY];by_cases e1:a1=b1
 ·by_cases e2:a2=b2
  ·by_cases e3:a3=b3
   ·simp [e1,e2,e3]
   ·simp [e1,e2,e3,qAU]
  ·simp [e1,e2,qAU]
 ·simp [e1,qAU]
def xF:List (Int×Int×Int)->List (Int×Int×Int)->Bool
 |a::l,b::m=>if a=b then xF l m else decide (bef a b<0)
 |_,_=>false
theorem qF8: ∀{l m:List (Int×Int×Int)},l.length=m.length->xF l m=decide (bJ l m<0)
 |[],[],_=>rfl
 |[],_::_,h=>by simp at h
 |_::_,[],h=>by simp at h
 |a::l,b::m,h=>by
  simp only [xF,bJ,bef_zero];by_cases e:a=b
  ·rw [if_pos e,if_pos e];exact qF8 (by simpa using h)
  ·rw [if_neg e,if_neg e]
theorem bet_eq (a b:Cg):bet a b=if a.2=b.2 then (if a.1.length=b.1.length then xF a.1 b.1 else decide (a.1.length<b.1.length)) else decide (b.2<a.2):=by
 obtain ⟨l,x⟩:=a;obtain ⟨m,y⟩:=b;have z:orL []=0:=rfl;simp only [bet,qCB,z,gY];by_cases e1:x=y
 ·have e1':y=x:=e1.symm;simp only [e1,if_true];by_cases e2:l.length=m.length
  ·simp only [e2,if_true];rw [qF8 e2];by_cases e3:bJ l m=0
   ·simp [e3]
   ·simp [e3]
  ·have e2': ¬(l.length:Int)=(m.length:Int):=by omega
   simp only [e2,e2',if_false,qAU];exact decide_eq_decide.2 (by omega)
 ·have e1': ¬y=x:=fun e=>e1 e.symm;simp only [e1,e1',if_false,qAU]
def B3 (a b:Int×Int×Int):Prop:=a.1<b.1\/(a.1=b.1/\(a.2.1<b.2.1\/(a.2.1=b.2.1/\a.2.2<b.2.2)))
theorem bef_B3 {a b:Int×Int×Int}:bef a b<0↔B3 a b:=by
 rw [bef_neg,B3];by_cases e1:a.1=b.1
 ·by_cases e2:a.2.1=b.2.1
  ·simp [e1,e2]
  ·simp [e1,e2]
 ·simp [e1]
theorem B3.trans {a b c:Int×Int×Int} (h:B3 a b) (k:B3 b c):B3 a c:=by
 unfold B3 at*;omega
theorem B3.irrefl (a:Int×Int×Int): ¬B3 a a:=by unfold B3;omega
theorem B3.tri (a b:Int×Int×Int):B3 a b\/a=b\/B3 b a:=by
 obtain ⟨a1,a2,a3⟩:=a;obtain ⟨b1,b2,b3⟩:=b;unfold B3;simp only [Prod.mk.injEq];omega
theorem qBv {a b:Int×Int×Int} {l m:List (Int×Int×Int)}:xF (a::l) (b::m)=true↔B3 a b\/(a=b/\xF l m=true):=by
 rw [xF];by_cases e:a=b
 ·subst e;rw [if_pos rfl];exact ⟨fun h=> .inr ⟨rfl,h⟩,fun h=>by rcases h with h|h;exact absurd h (B3.irrefl _);exact h.2⟩
 ·rw [if_neg e,decide_eq_true_eq,bef_B3];exact ⟨.inl,fun h=>by rcases h with h|h;exact h;exact absurd h.1 e⟩
theorem gF: ∀l:List (Int×Int×Int),xF l l=false
 |[]=>rfl
 |a::l=>by rw [xF,if_pos rfl];exact gF l
theorem qC7: ∀{l m n:List (Int×Int×Int)},xF l m=true->xF m n=true->xF l n=true
 |[],_,_,h,_=>by simp [xF] at h
 |_::_,[],_,h,_=>by simp [xF] at h
 |_::_,_::_,[],_,h=>by simp [xF] at h
 |a::l,b::m,c::n,h,k=>by
  rw [qBv] at h k ⊢;rcases h with h|⟨rfl,h⟩
  ·rcases k with k|⟨rfl,k⟩
   ·exact .inl (h.trans k)
   ·exact .inl h
  ·rcases k with k|⟨rfl,k⟩
   ·exact .inl k
   ·exact .inr ⟨rfl,qC7 h k⟩
theorem qF5: ∀{l m:List (Int×Int×Int)},l.length=m.length->xF l m=true\/l=m\/xF m l=true
 |[],[],_=> .inr (.inl rfl)
 |[],_::_,h=>by simp at h
 |_::_,[],h=>by simp at h
 |a::l,b::m,h=>by
  rw [qBv,qBv];rcases B3.tri a b with q|rfl|q
  ·exact .inl (.inl q)
  ·rcases qF5 (l:=l) (m:=m) (by simpa using h) with q|rfl|q
   ·exact .inl (.inr ⟨rfl,q⟩)
   ·exact .inr (.inl rfl)
   ·exact .inr (.inr (.inr ⟨rfl,q⟩))
  ·exact .inr (.inr (.inl q))
theorem pD {a b:Cg}:bet a b=true↔b.2<a.2\/(a.2=b.2/\(a.1.length<b.1.length\/(a.1.length=b.1.length/\xF a.1 b.1=true))):=by
 rw [bet_eq];by_cases e1:a.2=b.2
 ·by_cases e2:a.1.length=b.1.length
  ·simp [e1,e2]
  ·simp [e1,e2]
 ·simp [e1]
theorem qC6 (a:Cg):bet a a=false:=by
 cases h:bet a a with
 |false=>rfl
 |true=>
  rw [pD,gF] at h;simp at h
theorem qD5 {a b c:Cg} (h:bet a b=true) (k:bet b c=true):bet a c=true:=by
 rw [pD] at*;rcases h with h|⟨h1,h2⟩
 ·rcases k with k|⟨k1,_⟩
  ·exact .inl (by omega)
  ·exact .inl (by omega)
 ·rcases k with k|⟨k1,k2⟩
  ·exact .inl (by omega)
  ·refine .inr ⟨by omega,?_⟩;rcases h2 with h2|⟨h2,h3⟩
   ·rcases k2 with k2|⟨k2,_⟩
    ·exact .inl (by omega)
    ·exact .inl (by omega)
   ·rcases k2 with k2|⟨k2,k3⟩
    ·exact .inl (by omega)
    ·exact .inr ⟨by omega,qC7 h3 k3⟩
theorem bet_tri (a b:Cg):bet a b=true\/a=b\/bet b a=true:=by
 rw [pD,pD];rcases Int.lt_trichotomy a.2 b.2 with h|h|h
 ·exact .inr (.inr (.inl h))
 ·rcases Nat.lt_trichotomy a.1.length b.1.length with k|k|k
  ·exact .inl (.inr ⟨h,.inl k⟩)
  ·rcases qF5 k with q|q|q
   ·exact .inl (.inr ⟨h,.inr ⟨k,q⟩⟩)
   ·exact .inr (.inl (Prod.ext q h))
   ·exact .inr (.inr (.inr ⟨h.symm,.inr ⟨k.symm,q⟩⟩))
  ·exact .inr (.inr (.inr ⟨h.symm,.inl k⟩))
 ·exact .inl (.inl h)
def Ge (a b:Cg):Prop:=bet b a=false
theorem Ge.refl (a:Cg):Ge a a:=qC6 a
theorem Ge.iff {a b:Cg}:Ge a b↔bet a b=true\/a=b:=by
 constructor
 ·intro h;rcases bet_tri a b with q|q|q
  ·exact .inl q
  ·exact .inr q
  ·rw [Ge,q] at h;cases h
 ·rintro (h|rfl)
  ·rw [Ge];cases q:bet b a with
   |false=>rfl
   |true=>have:=qD5 h q;rw [qC6] at this;cases this
  ·exact Ge.refl _
theorem Ge.trans {a b c:Cg} (h:Ge a b) (k:Ge b c):Ge a c:=by
 rw [Ge.iff] at*;rcases h with h|rfl
 ·rcases k with k|rfl
  ·exact .inl (qD5 h k)
  ·exact .inl h
 ·exact k
theorem bD {c0:Cg} {l:List Cg}:Ge (gD c0 l) c0/\ ∀y∈l,Ge (gD c0 l) y:=by
 unfold gD;induction l generalizing c0 with
 |nil=>exact ⟨Ge.refl _,fun y hy=>by cases hy⟩
 |cons c l ih=>
  simp only [List.foldl_cons];obtain ⟨h1,h2⟩:=ih (c0:=if bet c c0=true then c else c0);have k1:Ge (if bet c c0=true then c else c0) c0:=by
   split
   ·rename_i q;exact Ge.iff.2 (.inl q)
   ·exact Ge.refl _
  have k2:Ge (if bet c c0=true then c else c0) c:=by
   split
   ·exact Ge.refl _
   ·rename_i q;simpa [Ge] using q
  refine ⟨h1.trans k1,fun y hy=> ?_⟩;rcases xZV.1 hy with rfl|hy
  ·exact h1.trans k2
  ·exact h2 y hy
theorem qF7: ∀(p:List (Int×Int×Int)) {l m:List (Int×Int×Int)},xF (p++l) (p++m)=xF l m
 |[],_,_=>rfl
 |a::p,l,m=>by
  rw [xZS,xZS,xF,if_pos rfl];exact qF7 p
theorem qF6: ∀{l m:List (Int×Int×Int)} (z:List (Int×Int×Int)),l.length=m.length->xF (l++z) (m++z)=xF l m
 |[],[],z,_=>gF z
 |[],_::_,_,h=>by simp at h
 |_::_,[],_,h=>by simp at h
 |a::l,b::m,z,h=>by
  rw [xZS,xZS,xF,xF];split
  ·exact qF6 z (by simpa using h)
  ·rfl
theorem Ge.pre (p:List (Int×Int×Int)) (v:Int) {a b:Cg} (h:Ge a b):Ge (p++a.1,v+a.2) (p++b.1,v+b.2):=by
 rw [Ge,xZD] at*;intro k;apply h
 rw [pD] at*;simp only [xZT,qF7] at k;rcases k with k|⟨k1,k|⟨k2,k3⟩⟩
 ·exact .inl (by omega)
 ·exact .inr ⟨by omega,.inl (by omega)⟩
 ·exact .inr ⟨by omega,.inr ⟨by omega,k3⟩⟩
theorem Ge.suf (z:List (Int×Int×Int)) (v:Int) {a b:Cg} (h:Ge a b):Ge (a.1++z,a.2+v) (b.1++z,b.2+v):=by
 rw [Ge,xZD] at*;intro k;apply h
 rw [pD] at*;simp only [xZT] at k;rcases k with k|⟨k1,k|⟨k2,k3⟩⟩
 ·exact .inl (by omega)
 ·exact .inr ⟨by omega,.inl (by omega)⟩
 ·refine .inr ⟨by omega,.inr ⟨by omega,?_⟩⟩;rw [qF6 z (by omega)] at k3;exact k3
def Wk.V (w:Wk) (G:Th.Grid):List (Int×Int×Int)->Int
 |[]=>0
 |s::l=>w.lv G s+Wk.V w G l
theorem Wk.V_app (w:Wk) (G:Th.Grid): ∀l m:List (Int×Int×Int),w.V G (l++m)=w.V G l+w.V G m
 |[],m=>by simp [Wk.V]
 |s::l,m=>by rw [xZS,Wk.V,Wk.V,Wk.V_app w G l m];omega
theorem b9 (x:Int) (l:List Int): ∀k,vG (x::l) (k+1)=x+vG l k
 |0=>by simp [vG]
 |k+1=>by
  rw [vG,b9 x l k,vG];simp only [List.getD_cons_succ];omega
theorem Wk.V_worth (w:Wk) (G:Th.Grid): ∀ls:List (Int×Int×Int),w.worth (w.give (gLo G)) ls=w.V G ls
 |[]=>rfl
 |s::l=>by
  have ih:=Wk.V_worth w G l;rw [Wk.worth] at ih ⊢;rw [Wk.vals,List.map_cons,xZC,b9,Wk.V,<-ih];rfl
theorem Wk.Is.blk {w:Wk} (his:w.Is) {s:Int×Int×Int} (h1:w.isT s=true) (h2:w.pcan s=true): ∃(r0 c0 q n:Nat) (th wo:Int),s=((r0:Int),(c0:Int),(q:Int))/\Tub w q n th wo/\r0+n<=w.m.cells.length/\c0+n<=w.m.W/\q<w.ts.length:=by
 obtain ⟨q,n,th,wo,hq,ht⟩:=his.tub' h1;obtain ⟨a,b,c⟩:=s;simp only at hq;subst hq;obtain ⟨r0,c0,rfl,rfl,h3,h4⟩:=Wk.pcan_in ht h2;exact ⟨r0,c0,q,n,th,wo,rfl,ht,h3,h4,(xZJ.1 ht.at_).1⟩
structure Wk.CutL (w:Wk) (lo:Nat) (ls:List (Int×Int×Int)):Prop where
 all: ∀s∈ls,w.isT s=true/\w.pcan s=true/\(lo:Int)<=s.1
 pw:ls.Pairwise fun a b=>w.apt a b=true
theorem Wk.CutL.of {w:Wk} (his:w.Is) {ls:List (Int×Int×Int)} (h:w.cut ls=true):w.CutL 0 ls:=by
 refine ⟨fun s hs=> ?_,?_⟩
 ·obtain ⟨i,hi⟩:=List.mem_iff_getElem?.1 hs;obtain ⟨h1,h2,_⟩:=qEp hi (cut_at h (xZJ.1 hi).1);obtain ⟨r0,c0,q,n,th,wo,rfl,_⟩:=his.blk h1 h2;exact ⟨h1,h2,by simp only;omega⟩
 ·rw [xZK];intro i j hi hj hij;obtain ⟨_,_,h3⟩:=qEp (xZU hj) (cut_at h hj);have:=h3 i hij;rw [yU (xZU hi)] at this;exact this
theorem Wk.CutL.cut {w:Wk} {lo:Nat} {ls:List (Int×Int×Int)} (h:w.CutL lo ls):w.cut ls=true:=by
 refine qER fun i hi=> ?_;obtain ⟨h1,h2,_⟩:=h.all _ (List.getElem_mem hi);refine qCC (xZU hi) h1 h2 fun k hk=> ?_;rw [yU (xZU (by omega:k<ls.length))];exact xZK.1 h.pw k i (by omega) hi hk
structure Wk.Strip (w:Wk) (row wd lo:Nat) (ls:List (Int×Int×Int)):Prop where
 all: ∀s∈ls,w.isT s=true/\w.sel wd s=true/\s.1=(row:Int)/\(lo:Int)<=s.2.1
 pw:ls.Pairwise fun a b=>a.2.1+(wd:Int)<=b.2.1
theorem Wk.sel_iff {w:Wk} {wd:Nat} {s:Int×Int×Int}:w.sel wd s=true↔(w.tb s.2.2.toNat).1=(wd:Int)/\w.pcan s=true:=by
 rw [Wk.sel,xZM,decide_eq_true_eq]
theorem Wk.Is.band_best {w:Wk} (his:w.Is) (G:Th.Grid) (row wd:Nat): ∀m,m<=w.m.W-> ∀ls,w.Strip row wd (w.m.W - m) ls->Ge (w.bandP G row wd m) (ls,w.V G ls):=by
 intro m;induction m using Nat.strongRecOn with
 |ind m ih=>
  intro hm ls hs;cases m with
  |zero=>
   cases ls with
   |nil=>rw [Wk.bandP_zero];exact Ge.refl _
   |cons s S=>
    exfalso;obtain ⟨a1,a2,a3,a4⟩:=hs.all s xZX;obtain ⟨r0,c0,q,n,th,wo,rfl,ht,b1,b2,_⟩:=his.blk a1 (Wk.sel_iff.1 a2).2;have:=ht.n1;simp only at a4;omega
  |succ m=>
   have g1:Ge (w.bandP G row wd (m+1)) (w.bandP G row wd m):=by rw [Wk.bandP_succ];exact bD.1
   cases ls with
   |nil=>exact g1.trans (ih m (by omega) (by omega) [] ⟨fun _ h=>(by cases h),List.Pairwise.nil⟩)
   |cons s S=>
    obtain ⟨a1,a2,a3,a4⟩:=hs.all s xZX;obtain ⟨p1,p2⟩:=xZQ.1 hs.pw;obtain ⟨a5,a6⟩:=Wk.sel_iff.1 a2;obtain ⟨r0,c0,q,n,th,wo,rfl,ht,b1,b2,b3⟩:=his.blk a1 a6;simp only [xZN,ht.tb] at a5;simp only at a3 a4 p1;obtain rfl:n=wd:=by omega
    obtain rfl:r0=row:=by omega
    have n1:=ht.n1;by_cases e:c0=w.m.W - (m+1)
    ·have k1:=ih (m - (n - 1)) (by omega) (by omega) S ⟨fun x hx=>by
      obtain ⟨c1,c2,c3,c4⟩:=hs.all x (xZY _ hx);have:=p1 x hx;exact ⟨c1,c2,c3,by omega⟩,p2⟩
     have k2:=Ge.pre [((r0:Int),(c0:Int),(q:Int))] (w.lv G ((r0:Int),(c0:Int),(q:Int))) k1;have k3:Ge (w.bandP G r0 n (m+1)) (((r0:Int),(c0:Int),(q:Int))::(w.bandP G r0 n (m - (n - 1))).1,w.lv G ((r0:Int),(c0:Int),(q:Int))+(w.bandP G r0 n (m - (n - 1))).2):=by
      rw [Wk.bandP_succ];refine bD.2 _ (xZY _ (xZO.2 ⟨((r0:Int),(c0:Int),(q:Int)),xZL.2 ⟨xZO.2 ⟨q,List.mem_range.2 b3,by rw [<-e]⟩,a2⟩,rfl⟩))
     exact k3.trans k2
    ·refine g1.trans (ih m (by omega) (by omega) _ ⟨fun x hx=> ?_,hs.pw⟩);obtain ⟨c1,c2,c3,c4⟩:=hs.all x hx;refine ⟨c1,c2,c3,?_⟩;rcases xZV.1 hx with rfl|hx
     ·simp only;omega
     ·have:=p1 x hx;omega
theorem Wk.split {w:Wk} {s:Int×Int×Int} {wd:Nat} (hw:(w.tb s.2.2.toNat).1=(wd:Int)) (hpos: ∀b:Int×Int×Int,w.isT b=true->1<=(w.tb b.2.2.toNat).1): ∀T:List (Int×Int×Int),(∀b∈T,w.isT b=true)->(∀b∈T,w.apt s b=true)->(T.Pairwise fun a b=>w.apt a b=true)-> ∃S Y,T=S++Y/\(∀b∈S,b.1=s.1/\(w.tb b.2.2.toNat).1=(wd:Int))/\ ∀b∈Y,s.1+(wd:Int)<=b.1
 |[],_,_,_=>⟨[],[],rfl,fun _ h=>(by cases h),fun _ h=>(by cases h)⟩
 |b::T,hT,ha,hp=>by
  have hb:=ha b xZX;obtain ⟨p1,p2⟩:=xZQ.1 hp;by_cases e:s.1=b.1
  ·obtain ⟨S,Y,e1,e2,e3⟩:=Wk.split hw hpos T (fun x hx=>hT x (xZY _ hx)) (fun x hx=>ha x (xZY _ hx)) p2;refine ⟨b::S,Y,by rw [e1];rfl,fun x hx=> ?_,e3⟩;rcases xZV.1 hx with rfl|hx
   ·rw [Wk.apt,if_pos e,xZM,decide_eq_true_eq] at hb;exact ⟨e.symm,by rw [<-hb.1,hw]⟩
   ·exact e2 x hx
  ·refine ⟨[],b::T,rfl,fun _ h=>(by cases h),fun x hx=> ?_⟩;rw [Wk.apt,if_neg e,decide_eq_true_eq,hw] at hb;rcases xZV.1 hx with rfl|hx
   ·exact hb
   ·have:=p1 x hx;have hp:=hpos b (hT b xZX);rw [Wk.apt] at this;split at this
    ·omega
    ·rw [decide_eq_true_eq] at this;omega
theorem Wk.Is.pack_best {w:Wk} (his:w.Is) (G:Th.Grid): ∀m,m<=w.m.cells.length-> ∀ls,w.CutL (w.m.cells.length - m) ls->Ge (w.packP G m) (ls,w.V G ls):=by
 intro m;induction m using Nat.strongRecOn with
 |ind m ih=>
  intro hm ls hs;cases m with
  |zero=>
   cases ls with
   |nil=>rw [Wk.packP_zero];exact Ge.refl _
   |cons s S=>
    exfalso;obtain ⟨a1,a2,a3⟩:=hs.all s xZX;obtain ⟨r0,c0,q,n,th,wo,rfl,ht,b1,b2,_⟩:=his.blk a1 a2;have:=ht.n1;simp only at a3;omega
  |succ m=>
   have g1:Ge (w.packP G (m+1)) (w.packP G m):=by rw [Wk.packP_succ];exact bD.1
   cases ls with
   |nil=>exact g1.trans (ih m (by omega) (by omega) [] ⟨fun _ h=>(by cases h),List.Pairwise.nil⟩)
   |cons s T=>
    obtain ⟨a1,a2,a3⟩:=hs.all s xZX;obtain ⟨p1,p2⟩:=xZQ.1 hs.pw;obtain ⟨r0,c0,q,n,th,wo,rfl,ht,b1,b2,b3⟩:=his.blk a1 a2;have n1:=ht.n1;have htb:(w.tb ((r0:Int),(c0:Int),(q:Int)).2.2.toNat).1=(n:Int):=by simp [ht.tb]
    have hpos: ∀b:Int×Int×Int,w.isT b=true->1<=(w.tb b.2.2.toNat).1:=fun b hb=>by
     obtain ⟨q,n,th,wo,hq,ht⟩:=his.tub' hb;have:=ht.n1;simp only [hq,xZN,ht.tb];omega
    obtain ⟨S,Y,rfl,e2,e3⟩:=Wk.split htb hpos T (fun x hx=>(hs.all x (xZY _ hx)).1) p1 p2;simp only at a3 e2 e3;by_cases e:r0=w.m.cells.length - (m+1)
    ·have k1:Ge (w.bandP G r0 n w.m.W) (((r0:Int),(c0:Int),(q:Int))::S,w.V G (((r0:Int),(c0:Int),(q:Int))::S)):=by
      refine his.band_best G r0 n w.m.W (xZW _) _ ⟨fun x hx=> ?_,?_⟩
      ·have hx':x∈((r0:Int),(c0:Int),(q:Int))::(S++Y):=by
        rcases xZV.1 hx with rfl|hx
        ·exact xZX
        ·exact xZY _ (xZP.2 (.inl hx))
       obtain ⟨c1,c2,c3⟩:=hs.all x hx';obtain ⟨r1,c4,q1,n1,th1,wo1,rfl,ht1,_⟩:=his.blk c1 c2;rcases xZV.1 hx with hx|hx
       ·rw [hx];rw [hx] at c1 c2;exact ⟨c1,Wk.sel_iff.2 ⟨htb,c2⟩,rfl,by simp only;omega⟩
       ·obtain ⟨d1,d2⟩:=e2 _ hx;exact ⟨c1,Wk.sel_iff.2 ⟨d2,c2⟩,d1,by simp only;omega⟩
      ·have key: ∀a b:Int×Int×Int,a.1=(r0:Int)->b.1=(r0:Int)->(w.tb a.2.2.toNat).1=(n:Int)->w.apt a b=true->a.2.1+(n:Int)<=b.2.1:=fun a b ha hb hw h=>by
        rw [Wk.apt,if_pos (ha.trans hb.symm),xZM,decide_eq_true_eq,decide_eq_true_eq,hw] at h;exact h.2
       refine xZQ.2 ⟨fun x hx=>key _ _ rfl (e2 x hx).1 htb (p1 x (xZP.2 (.inl hx))),?_⟩;have:=(xZF.1 p2).1;exact this.imp_of_mem fun {a b} ha hb h=>key a b (e2 a ha).1 (e2 b hb).1 (e2 a ha).2 h
     have k2:Ge (w.packP G (m - (n - 1))) (Y,w.V G Y):=by
      refine ih _ (by omega) (by omega) Y ⟨fun x hx=> ?_,(xZF.1 p2).2.1⟩;obtain ⟨c1,c2,c3⟩:=hs.all x (xZY _ (xZP.2 (.inr hx)));have:=e3 x hx;exact ⟨c1,c2,by omega⟩
     have k3:Ge (w.packP G (m+1)) ((w.bandP G r0 n w.m.W).1++(w.packP G (m - (n - 1))).1,(w.bandP G r0 n w.m.W).2+(w.packP G (m - (n - 1))).2):=by
      rw [Wk.packP_succ];refine bD.2 _ (xZY _ (xZO.2 ⟨(n:Int),xZL.2 ⟨?_,decide_eq_true (by omega)⟩,?_⟩))
      ·rw [List.take_length,his.ws];refine xZL.2 ⟨?_,?_⟩
       ·have:=ht.n3;rcases (by omega:n=1\/n=2\/n=3) with rfl|rfl|rfl<;>simp
       ·simp only [List.contains_iff_mem,Wk.wds];exact xZO.2 ⟨_,List.mem_of_getElem? ht.at_,rfl⟩
      ·simp only [Wk.pone,xZN,<-e]
     have k4:=Ge.suf (w.packP G (m - (n - 1))).1 (w.packP G (m - (n - 1))).2 k1;have k5:=Ge.pre (((r0:Int),(c0:Int),(q:Int))::S) (w.V G (((r0:Int),(c0:Int),(q:Int))::S)) k2;have k6:=k3.trans (k4.trans k5);rw [<-Wk.V_app] at k6;exact k6
    ·refine g1.trans (ih m (by omega) (by omega) _ ⟨fun x hx=> ?_,hs.pw⟩);obtain ⟨c1,c2,c3⟩:=hs.all x hx;refine ⟨c1,c2,?_⟩;rcases xZV.1 hx with rfl|hx
     ·simp only;omega
     ·rcases xZP.1 hx with hx|hx
      ·have:=(e2 x hx).1;omega
      ·have:=e3 x hx;omega
theorem Wk.Is.pack_top {w:Wk} (his:w.Is) (G:Th.Grid) {ls:List (Int×Int×Int)} (h:w.cut ls=true):bet (ls,w.worth (w.give (gLo G)) ls) (w.packP G w.m.cells.length)=false:=by
 have:=his.pack_best G w.m.cells.length (xZW _) ls (by rw [Nat.sub_self];exact Wk.CutL.of his h);rw [Wk.V_worth];exact this
def hasP (l:List (Int×Int)) (r c:Int):Bool:=l.any fun p=>decide (r=p.1) && decide (c=p.2)
structure Plc (xt:Xt) (h:Hp) (v:AV) (l:List (Int×Int)):Prop where
 row:RowAt xt h 2 v (l.map p2)
 lt:l.length<=9223372036854775807
theorem Plc.fr {xt:Xt} {h h':Hp} {v:AV} {l:List (Int×Int)} (a:Plc xt h v l) {n:Nat} (f:Fr n h h') (hn:h.n<=n):Plc xt h' v l:=⟨a.row.fr f hn,a.lt⟩
theorem Plc.up {xt:Xt} {h:Hp} {v:AV} {l:List (Int×Int)} (a:Plc xt h v l) {n:Nat} (hn:h.n<=n):Plc xt (h.up n) v l:=⟨a.row.up hn,a.lt⟩
theorem Plc.len {xt:Xt} {h:Hp} {v:AV} {l:List (Int×Int)} (a:Plc xt h v l) (h':Hp):zA tb h' 25 v=some l.length:=by
 have:=a.row.len (h':=h') tg25 rfl;simpa using this
def Mp.bare (m:Mp) (r c:Int):Bool:=m.is r c 2 && !hasP m.ps r c
set_option maxHeartbeats 4000000
set_option maxHeartbeats 4000000
def Wk.hit1 (w:Wk) (s:Int×Int×Int) (p:Int×Int):Bool:=hasB s.1.toNat s.2.1.toNat (w.tb s.2.2.toNat).1.toNat p.1 p.2
def Wk.hit (w:Wk) (hs:List (Int×Int)) (s:Int×Int×Int):Bool:=hs.any (w.hit1 s)
def Wk.left (w:Wk) (hs:List (Int×Int)) (ls:List (Int×Int×Int)):List (Int×Int×Int):=ls.filter fun s=> !w.hit hs s
set_option maxHeartbeats 4000000
end Go.Proofs.Kn
namespace Go.Proofs.Kn
open Go Go.Ev
end Go.Proofs.Kn
namespace Go.Proofs.Kn
open Go Go.Ev
set_option maxRecDepth 100000
set_option maxHeartbeats 4000000
def DpAt (xt:Xt) (Own:Nat->Prop) (h:Hp) (B V n:Nat) (f:Nat->Cg) (D:Nat->Prop):Prop:=
 ∃bz vz,h.t.get B=some (.cells bz 33)/\h.t.get V=some (.cells vz 3)/\bz.length=n/\vz.length=n/\ ∀i,D i->i<n/\ ∃z,bz[i]? =some z/\vz[i]? =some (iv (f i).2)/\CgAt xt Own h z (f i).1
theorem DpAt.keep {xt:Xt} {Own:Nat->Prop} {h h':Hp} {B V n:Nat} {f:Nat->Cg} {D:Nat->Prop} (a:DpAt xt Own h B V n f D) (hn:h.n<=h'.n) (hB:h'.t.get B=h.t.get B) (hV:h'.t.get V=h.t.get V) (hk: ∀b,b<h.n-> ¬Own b->h'.t.get b=h.t.get b):DpAt xt Own h' B V n f D:=by
 obtain ⟨bz,vz,h1,h2,h3,h4,h5⟩:=a;refine ⟨bz,vz,hB.trans h1,hV.trans h2,h3,h4,fun i hi=> ?_⟩;obtain ⟨q,z,e1,e2,c⟩:=h5 i hi;exact ⟨q,z,e1,e2,c.keep hn hk⟩
theorem DpAt.fr {xt:Xt} {Own:Nat->Prop} {h h':Hp} {B V n:Nat} {f:Nat->Cg} {D:Nat->Prop} (a:DpAt xt Own h B V n f D) (fr:Fr h.n h h') (hB:B<h.n) (hV:V<h.n):DpAt xt Own h' B V n f D:=
 a.keep fr.le (fr.at_ B (.inl hB)) (fr.at_ V (.inl hV)) fun b hb _=>fr.at_ b (.inl hb)
theorem DpAt.congr {xt:Xt} {Own:Nat->Prop} {h:Hp} {B V n:Nat} {f f':Nat->Cg} {D D':Nat->Prop} (a:DpAt xt Own h B V n f D) (hd: ∀i,D' i->D i) (hf: ∀i,D' i->f' i=f i):DpAt xt Own h B V n f' D':=by
 obtain ⟨bz,vz,h1,h2,h3,h4,h5⟩:=a;refine ⟨bz,vz,h1,h2,h3,h4,fun i hi=> ?_⟩;rw [hf i hi];exact h5 i (hd i hi)
theorem DpAt.put {xt:Xt} {Own:Nat->Prop} {h:Hp} {B V n:Nat} {f:Nat->Cg} {D:Nat->Prop} (a:DpAt xt Own h B V n f D) (hB:Own B) (hV:Own V) (hBV:B≠V) {i:Nat} (hi:i<n) {z:AV} {l:List (Int×Int×Int)} (x:Int) (c:CgAt xt Own h z l):
  ∃o1 o2,qX 1 h B i z (h.t.get B)=some (h.set B o1)/\qX 1 (h.set B o1) V i (iv x) (h.t.get V)=some ((h.set B o1).set V o2)/\(∀b,b≠B->b≠V->((h.set B o1).set V o2).t.get b=h.t.get b)/\(∀N,N<=B->B<h.n->N<=V->V<h.n->Fr N h ((h.set B o1).set V o2))/\
  ∀(f':Nat->Cg) (D':Nat->Prop),f' i=(l,x)->(∀j,D' j->j=i\/(D j/\(j≠i->f' j=f j)))->DpAt xt Own ((h.set B o1).set V o2) B V n f' D':=by
 obtain ⟨bz,vz,h1,h2,h3,h4,h5⟩:=a;have p1:=zO (h:=h) (b:=B) (off:=i) (v:=z) (cs:=bz) (e:=33) c.cuts.cells c.cuts.one (by omega);have p2:=zO (h:=h.set B (.cells (bz.set i z) 33)) (b:=V) (off:=i) (v:=iv x) (cs:=vz) (e:=3) rfl rfl (by omega);refine ⟨.cells (bz.set i z) 33,.cells (vz.set i (iv x)) 3,by rw [h1];exact p1,by rw [h2];exact p2,fun b q1 q2=> ?_,fun N q1 q2 q3 q4=> ?_,fun f' D' e hD=> ?_⟩
 ·rw [xZR,xZZ,if_neg q2,xZR,xZZ,if_neg q1]
 ·exact ((Fr.refl (by omega)).set q1 q2 _).set q3 (by rw [Hp.set_n];exact q4) _
 ·have keep: ∀{z':AV} {l':List (Int×Int×Int)},CgAt xt Own h z' l'->CgAt xt Own ((h.set B (.cells (bz.set i z) 33)).set V (.cells (vz.set i (iv x)) 3)) z' l':=fun {z' l'} c=>c.keep (xZW _) fun b _ hb=>by
   rw [xZR,xZZ,if_neg (by rintro rfl;exact hb hV),xZR,xZZ,if_neg (by rintro rfl;exact hb hB)]
  refine ⟨bz.set i z,vz.set i (iv x),?_,?_,by rw [List.length_set,h3],by rw [List.length_set,h4],fun j hj=> ?_⟩
  ·rw [xZR,xZZ,if_neg hBV,xZR,xZZ,if_pos rfl]
  ·rw [xZR,xZZ,if_pos rfl]
  ·by_cases q:j=i
   ·subst q;refine ⟨hi,z,?_,?_,?_⟩
    ·rw [xZH (by omega)]
    ·rw [xZH (by omega),e]
    ·rw [e];exact keep c
   ·obtain ⟨qd,qf⟩:=(hD j hj).resolve_left q;obtain ⟨r1,z',r2,r3,r4⟩:=h5 j qd;rw [qf q];refine ⟨r1,z',?_,?_,keep r4⟩
    ·rw [xZE (fun e=>q e.symm)];exact r2
    ·rw [xZE (fun e=>q e.symm)];exact r3
theorem DpAt.start {xt:Xt} {Own:Nat->Prop} {h:Hp} {B V n i0:Nat} {f:Nat->Cg} (h1:h.t.get B=some (.cells (List.replicate n jV) 33)) (h2:h.t.get V=some (.cells (List.replicate n (iv 0)) 3)) (hi:i0<n) (hf:f i0=([],0)):DpAt xt Own h B V n f (fun i=>i=i0):=by
 refine ⟨_,_,h1,h2,xZG,xZG,fun i e=> ?_⟩;subst e;refine ⟨hi,jV,?_,?_,?_⟩
 ·rw [xZI,if_pos hi]
 ·rw [xZI,if_pos hi,hf]
 ·rw [hf];exact CgAt.nil
structure Wk.GrOk (w:Wk) (G:Th.Grid) (g:Gr):Prop where
 len:g.ll.length=w.m.cells.length
 row: ∀r,r<w.m.cells.length->(g.ll.getD r []).length=w.m.W
 pos: ∀r c,r<w.m.cells.length->c<w.m.W->0<=g.t r c
 lv: ∀s,w.Blk s->(w.tb s.2.2.toNat).2.2*w.give g.t s=w.lv G s
set_option maxHeartbeats 4000000
theorem ex_tup3 (a b c:AV):vJ (.tup [a,b,c]) 0=some a/\vJ (.tup [a,b,c]) 1=some b/\vJ (.tup [a,b,c]) 2=some c:=⟨rfl,rfl,rfl⟩
theorem Wk.cut_nil (w:Wk):w.cut []=true:=rfl
theorem Wk.pkd_asked (w:Wk):w.pkd.2=w.asked []:=by
 simp only [Wk.pkd,Wk.asked,Wk.cut_nil,Bool.and_true];by_cases z:w.ok=true
 ·rw [if_pos z,if_pos z,qDL (Wk.ok_is z).m];cases w.m.bnd<;>rfl
 ·rw [if_neg z,if_neg z]
set_option maxHeartbeats 4000000
set_option maxHeartbeats 4000000
set_option maxHeartbeats 4000000
set_option maxHeartbeats 4000000
def Wk.hok (w:Wk) (hs:List (Int×Int)):Bool:= !decide (w.m.H<(hs.length:Int)) && !(hs.any fun p=> !w.m.bare p.1 p.2)
end Go.Proofs.Kn
namespace Go.Ev
open Go Go.Proofs Go.Sort
end Go.Ev
namespace Go.Proofs.Kn
open Go Go.Ev Go.Sort
abbrev encF (M:Nat) (x:Fin (M+1)):Value:= .int .i64 (x.val:Int)
structure IsSort (P:Program) (f g:FuncId) (M:Nat):Prop where
 calls: ∀(blk cap:Nat) (d:Array (Fin (M+1))) (w:World),Holds (encF M) w blk 0 d->blk<w.heap.size->d.size<4611686018427387904->
  Calls P f #[.slice (some ⟨blk,0,none⟩) d.size cap,.func (.func g) #[] #[]] w fun e w'=>e= .returned (.tuple #[])/\ ∃n os,w'=sortWorld (encF M) w blk 0 n (d.toList.mergeSort fun x y=>decide (y<=x)).toArray os
 none: ∀(cap:Nat) (fv:Value) (w:World),Calls P f #[.slice none 0 cap,fv] w fun e w'=>e= .returned (.tuple #[])/\w'=w
end Go.Proofs.Kn
namespace Go.Proofs.Kn
open Go Go.Ev
set_option maxRecDepth 100000
set_option maxHeartbeats 4000000
theorem qD2 {N:Nat} {h:Hp}: ∀(mks:List Nat) (hg:Hp),(∀d∈mks,N<=d/\d<hg.n/\hg.t.get d=some .deferred)->mks.Nodup->Fr N h hg-> ∃h',vD mks hg=some h'/\Fr N h h'
 |[],hg,_,_,f=>⟨hg,rfl,f⟩
 |d::ds,hg,hd,hn,f=>by
  obtain ⟨h1,h2⟩:=List.nodup_cons.1 hn;obtain ⟨a1,a2,a3⟩:=hd d xZX;obtain ⟨h',e,f'⟩:=qD2 ds (hg.del d) (fun x hx=>by
   obtain ⟨b1,b2,b3⟩:=hd x (xZY _ hx);refine ⟨b1,b2,?_⟩;rw [Hp.del_t,xZZ,if_neg (fun q=>h1 (by rw [<-q];exact hx))];exact b3) h2 (f.del a1 a2)
  refine ⟨h',?_,f'⟩;show (match hg.t.get d with|some .deferred=>vD ds (hg.del d)|_=>none)=some h';rw [a3];exact e
structure SInv (h hB:Hp) (p:Nat) (hg:Hp) (mks:List Nat) (vz:AV) (L:List Int):Prop where
 fr:Fr h.n h hg
 le:hB.n<=hg.n
 low: ∀k,k<hB.n->k≠p->hg.t.get k=hB.t.get k
 pz:hg.t.get p=some (.cells [vz] 75)
 own:OwnSl hg hB.n 1 3 vz L.length (ivs L)
 nd:mks.Nodup
 mrk: ∀d∈mks,hB.n<=d/\d<hg.n/\hg.t.get d=some .deferred
 nz:L=[]->vz= .val (.slice none 0 0)
section
variable {h hB hg h':Hp} {p:Nat} {mks:List Nat} {vz:AV} {L:List Int}
theorem SInv.keep (s:SInv h hB p hg mks vz L) (hp:p<hB.n) (hn:h.n<=hB.n) {n:Nat} (f:Fr n hg h') (hg':hg.n<=n):SInv h hB p h' mks vz L:=
 ⟨s.fr.trans f (by have:=s.le;omega),by have:=s.le;have:=f.le;omega,fun k h1 h2=>(f.at_ k (.inl (by have:=s.le;omega))).trans (s.low k h1 h2),(f.at_ p (.inl (by have:=s.le;omega))).trans s.pz,s.own.fr f hg',s.nd,fun d hd=>by
  obtain ⟨a1,a2,a3⟩:=s.mrk d hd;have:=f.le;exact ⟨a1,by omega,(f.at_ d (.inl (by omega))).trans a3⟩,s.nz⟩
theorem SInv.mark (s:SInv h hB p hg mks vz L) {d:Nat} (h1:hB.n<=d) (h2:d<hg.n) (h3:hg.t.get d=some .deferred) (h4:d ∉ mks):SInv h hB p hg (d::mks) vz L:=
 ⟨s.fr,s.le,s.low,s.pz,s.own,List.nodup_cons.2 ⟨h4,s.nd⟩,fun x hx=>by
  rcases xZV.1 hx with rfl|hx
  ·exact ⟨h1,h2,h3⟩
  ·exact s.mrk x hx,s.nz⟩
theorem SInv.add (s:SInv h hB p hg mks vz L) {xt:Xt} (hp:p<hB.n) (hn:h.n<=p) (x:Int) (hL:L.length<=1000000):
  ∃vz' h',qS Tryz.prog tb xt .append [75,75] [vz,.sl hg.n 0 1 1] (hg.new (.cells [iv x] 3))=some (vz',h')/\Go.Ev.one vz'=true/\cellsOf vz'=[vz']/\h'.t.get p=some (.cells [vz] 75)/\hg.n<=h'.n/\(∀k,k<hg.n->(∀off n e,vz≠ .sl k off n e)->h'.t.get k=hg.t.get k)/\SInv h hB p (h'.set p (.cells [vz'] 75)) mks vz' (L++[x])/\vz'= .sl (hg.n+1) 0 (L.length+1) 1:=by
 have hle:=s.le;obtain ⟨h7,p1,p2,p3,p4,p5⟩:=(s.own.new (.cells [iv x] 3)).append2 (P:=Tryz.prog) (xt:=xt) (x:= .sl hg.n 0 1 1) (m:=1) (cz:=[iv x]) (by simp only [Hp.new_n];omega) yG rfl tg3 rfl (show te3.bytes=8 from rfl) yG rfl (wO (e:=3) (pT _ _) rfl rfl) (by omega) rfl (by omega) (by omega);simp only [Hp.new_n] at p1 p2 p4 p5;have f7:Fr hB.n hg h7:=((Fr.refl hle).new _).trans p3 (xZW _);have keep: ∀k,k<hg.n->(∀off n e,vz≠ .sl k off n e)->h7.t.get k=hg.t.get k:=fun k hk hv=>(p5 k (by omega) hv).trans (pR _ _ hk);have e: ∀y,y≠p->(h7.set p (.cells [.sl (hg.n+1) 0 (L.length+1) 1] 75)).t.get y=h7.t.get y:=fun y hy=>by rw [xZR,xZZ,if_neg hy]
 have hvb: ∀d,d<hg.n->hB.n<=d->hg.t.get d=some .deferred-> ∀off n e,vz≠ .sl d off n e:=fun d _ _ hd off n e q=>by
  rcases s.own with ⟨_,_,q2⟩|⟨b,q2,_,_,q3,_⟩
  ·rw [q2] at q;cases q
  ·rw [q2] at q;have:=(AV.sl.inj q).1;rw [this] at q3;rw [hd] at q3;cases q3
 refine ⟨_,h7,p1,rfl,rfl,(f7.at_ p (.inl hp)).trans s.pz,by omega,keep,⟨?_,?_,fun k h1 h2=> ?_,?_,?_,s.nd,fun d hd=> ?_,fun e=>by simp at e⟩,rfl⟩
 ·exact (s.fr.trans f7 (by omega)).set (by omega) (by omega) _
 ·show hB.n<=h7.n;omega
 ·exact (e k h2).trans ((f7.at_ k (.inl h1)).trans (s.low k h1 h2))
 ·rw [xZR,xZZ,if_pos rfl]
 ·have e1:ivs (L++[x])=ivs L++[iv x]:=by simp [ivs]
  rw [e1,xZT,List.length_singleton];exact p2.keep (xZW _) fun k h1 h2=>e k (by omega)
 ·obtain ⟨a1,a2,a3⟩:=s.mrk d hd;refine ⟨a1,by show d<h7.n;omega,(e d (by omega)).trans ((keep d a2 (hvb d a2 a1 a3)).trans a3)⟩
theorem SInv.put (s:SInv h hB p hg mks vz L) (hn:h.n<=hB.n) (hp:p<hB.n) {b:Nat} (hv:vz= .sl b 0 L.length 1) (h0:L≠[]) {L':List Int} (hl:L'.length=L.length):SInv h hB p (hg.set b (.cells (ivs L') 3)) mks vz L':=by
 rcases s.own with ⟨_,_,q⟩|⟨b',q,q1,q2,q3,q4⟩
 ·rw [q] at hv;cases hv
 ·rw [q] at hv;have:=(AV.sl.inj hv).1;subst this;have e: ∀x,x≠b'->(hg.set b' (.cells (ivs L') 3)).t.get x=hg.t.get x:=fun x hx=>by rw [xZR,xZZ,if_neg hx]
  refine ⟨s.fr.set (by omega) q2 _,s.le,fun x h1 h2=>(e x (by omega)).trans (s.low x h1 h2),(e p (by omega)).trans s.pz,?_,s.nd,fun d hd=> ?_,fun e'=> ?_⟩
  ·refine .inr ⟨b',by rw [q,hl],q1,q2,by rw [xZR,xZZ,if_pos rfl],by rw [zV];omega⟩
  ·obtain ⟨a1,a2,a3⟩:=s.mrk d hd;refine ⟨a1,a2,(e d (fun q'=> ?_)).trans a3⟩;rw [q',q3] at a3;cases a3
  ·rw [e'] at hl;exact absurd (List.length_eq_zero_iff.1 hl.symm) h0
end
theorem xN: ∀l:List Int,vG l l.length=l.sum
 |[]=>rfl
 |x::l=>by rw [xZC,b9,xN l,List.sum_cons]
theorem zY {E:Env} {r:Option Nat} {b:Code} {tm:T AV} {nt:Nat} {h:Hp} {mks:List Nat} {Q:Ex->St->Prop} (P:T AV->Prop) (hp:P tm) (hw: ∀tm,P tm->wpc E r b ⟨tm,nt,h,mks⟩ Q):wpc E r b ⟨tm,nt,h,mks⟩ Q:=hw tm hp
end Go.Proofs.Kn
