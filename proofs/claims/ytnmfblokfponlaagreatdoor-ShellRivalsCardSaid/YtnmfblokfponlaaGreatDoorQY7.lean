/- MvS1, MvS2, MvS3, MvS4: texts in a row, joined by a program. -/
import Derived.Test.YtnmfblokfponlaaGreatDoorQY6
set_option linter.all false
open Nat renaming reduceEqDiff → rE, reduceLeDiff → rD, reduceAdd → rA, reduceMul → rM, reduceLT → rL
open Go.Ev.T renaming get_put → xZZ
open Nat renaming le_refl → xZY
open List renaming getElem?_eq_some_iff → xZX, drop_eq_getElem_cons → xZU, getElem?_eq_getElem → xZT, getElem?_replicate → xZS, getElem?_set_self → xZR, drop_eq_nil_of_le → xZQ, length_replicate → xZP, getElem?_set_ne → xZO
open Go.Ev.Fr renaming refl → xZW
open Go.Ev.Hp renaming set_t → xZV
namespace Go.Proofs.Kn
open Go Go.Ev
set_option maxRecDepth 100000
set_option maxHeartbeats 4000000
end Go.Proofs.Kn
namespace Go.Proofs.Kn
open Go Go.Ev
set_option maxRecDepth 100000
set_option maxHeartbeats 4000000
theorem bQ (a b:Int):xB a b<0↔a<b:=by
 unfold xB;split
 ·simp_all
 ·split
  ·simp;omega
  ·simp;omega
theorem pB (a b:Int):xB a b=0↔a=b:=by
 unfold xB;split
 ·simp;omega
 ·split
  ·simp;omega
  ·simp;omega
theorem qBq (x:Int) (l:List Int):orL (x::l)=if x=0 then orL l else x:=rfl
theorem bef_zero {a b:Int×Int×Int}:bef a b=0↔a=b:=by
 obtain ⟨a1,a2,a3⟩:=a;obtain ⟨b1,b2,b3⟩:=b;have z:orL []=0:=rfl;simp only [bef,qBq,Prod.mk.injEq,z,pB];by_cases e1:a1=b1
 ·by_cases e2:a2=b2
  ·by_cases e3:a3=b3
   ·simp [e1,e2,e3]
   ·simp [e1,e2,e3,pB]
  ·simp [e1,e2,pB]
 ·simp [e1,pB]
theorem qA5 {a b:Int×Int×Int}:bef a b<0↔if a.1=b.1 then (if a.2.1=b.2.1 then a.2.2<b.2.2 else a.2.1<b.2.1) else a.1<b.1:=by
 obtain ⟨a1,a2,a3⟩:=a;obtain ⟨b1,b2,b3⟩:=b;have z:orL []=0:=rfl;simp only [bef,qBq,z,pB];by_cases e1:a1=b1
 ·by_cases e2:a2=b2
  ·by_cases e3:a3=b3
   ·simp [e1,e2,e3]
   ·simp [e1,e2,e3,bQ]
  ·simp [e1,e2,bQ]
 ·simp [e1,bQ]
def vQ:List (Int×Int×Int)->List (Int×Int×Int)->Bool
 |a::l,b::m=>if a=b then vQ l m else decide (bef a b<0)
 |_,_=>false
theorem qEi: ∀{l m:List (Int×Int×Int)},l.length=m.length->vQ l m=decide (pL l m<0)
 |[],[],_=>rfl
 |[],_::_,h=>by simp at h
 |_::_,[],h=>by simp at h
 |a::l,b::m,h=>by
  simp only [vQ,pL,bef_zero];by_cases e:a=b
  ·rw [if_pos e,if_pos e];exact qEi (by simpa using h)
  ·rw [if_neg e,if_neg e]
theorem befB_nilr (l:List (Int×Int×Int)):vQ l []=false:=by cases l<;>rfl
theorem Cuts.flds {xt:Addr->Option Value} {h:Hp} {v:AV} {ls:List (Int×Int×Int)} (a:Cuts xt h v ls) {i:Nat} {s:Int×Int×Int} (hx:ls[i]? =some s):
  qM tb 33 v (iv (i:Int))=some (elp v (i*3))/\qL tb 61 (elp v (i*3)) 0=some (elp v (i*3))/\qL tb 61 (elp v (i*3)) 1=some (elp v (i*3+1))/\qL tb 61 (elp v (i*3)) 2=some (elp v (i*3+2))/\
  qS tb xt h 3 (elp v (i*3))=some (iv s.1)/\qS tb xt h 3 (elp v (i*3+1))=some (iv s.2.1)/\qS tb xt h 3 (elp v (i*3+2))=some (iv s.2.2):=by
 have hq:i<ls.length:=(xZX.1 hx).1;have hne:ls.map Kn.t3≠[]:=by intro e;have:=congrArg List.length e;simp at this;rw [this] at hq;simp at hq
 have hc:(ls.map Kn.t3)[i]? =some (Kn.t3 s):=by rw [List.getElem?_map,hx];rfl
 refine ⟨a.row.idx tg33 rfl wD rfl (i:=i) (by simpa using hq) (k:= .i64),?_,a.row.fa hne wD rfl (f:=1) (o:=1) (s:=0) (ft:=3) rfl (i*3),a.row.fa hne wD rfl (f:=2) (o:=2) (s:=0) (ft:=3) rfl (i*3),a.row.load0 tg3 rfl (i:=i) hc rfl,a.row.load tg3 rfl (i:=i) (j:=1) hc rfl,a.row.load tg3 rfl (i:=i) (j:=2) hc rfl⟩;simpa using a.row.fa hne wD rfl (f:=0) (o:=0) (s:=0) (ft:=3) rfl (i*3)
theorem ft82 (xt:Addr->Option Value):(SE xt).ft.get 82=some Tryz.f82:=by kernel_rfl
theorem res82:Tryz.f82.results.toList=[.tmp 4]:=by kernel_rfl
theorem rbefore_c (xt:Addr->Option Value) (h:Hp) (va vb:AV) (l m:List (Int×Int×Int)) (hl:Cuts xt h va l) (hm:Cuts xt h vb m) {K:CR->Hp->Prop} (hk: ∀k,h.n<k->K (.ret (.val (.bool (vQ l m)))) (h.up k)):FnA (SE xt) 82 [va,vb] h K:=by
 refine FnA.calm ?_ hk;clear hk K;refine FnA.walk (sok xt) (ft82 xt) rfl 84 rfl ?_;have onea:=hl.one;have oneb:=hm.one;have lla:=hl.len;have llb:=hm.len;have ltl:=hl.lt;have ltm:=hm.lt;refine qA fun K hn hp=> ?_;simp only [sw.1,rL];apply hn;refine qE ?_;refine qA fun K hn hp=> ?_;simp only [sy.1,rL];apply hn;refine qF fun KA A1 A2 A3 A4 A5=> ?_;refine qT (sok xt) (fun st=> ∃(k:Nat) (tm:T AV),st=⟨tm,84,h,[]⟩/\k<=l.length/\tm.get 0=some (va)/\tm.get 1=some (vb)/\tm.get 5=some (iv k)/\k<=m.length/\vQ (l.drop k) (m.drop k)=vQ l m) (fun st=>l.length - (match st.tm.get 5 with|some (.val (.int _ n))=>n.toNat|_=>0)) ?_ ?_
 ·rintro st ⟨k,tm,rfl,hkA,g0,g1,g5,hkm,hbf⟩;have muA:=g5;refine qE ?_;by_cases hk:k<l.length
  ·by_cases hk2:k<m.length
   ·refine qA fun K hn hp=> ?_;simp only [sy.1,rE,reduceIte,rL,syw.1,lla,llb,jE,g0,g1,g5,hk,hk2];apply hn;refine qC true (by simp only [sy.1,rE,reduceIte]) (fun _=> ?_) (fun hx=>by cases hx);refine qI ?_;obtain ⟨a,hxa⟩: ∃a,l[k]? =some a:=⟨_,xZT hk⟩;obtain ⟨b,hxb⟩: ∃b,m[k]? =some b:=⟨_,xZT hk2⟩;obtain ⟨i1,i2,i3,i4,i5,i6,i7⟩:=hl.flds hxa;obtain ⟨j1,j2,j3,j4,j5,j6,j7⟩:=hm.flds hxb;have ea:l.drop k=a::l.drop (k+1):=by rw [xZU hk,(xZX.1 hxa).2]
    have eb:m.drop k=b::m.drop (k+1):=by rw [xZU hk2,(xZX.1 hxb).2]
    rw [ea,eb,vQ] at hbf;have out: ∀bb:Bool,a≠b->bb=decide (bef a b<0)->bb=vQ l m:=fun bb q1 q2=>by rw [<-hbf,if_neg q1,q2]
    refine qF fun KB B1 B2 B3 B4 B5=> ?_;refine qE ?_;by_cases q1:a.1=b.1
    ·have d1:(!decide (a.1=b.1))=false:=by rw [decide_eq_true q1];rfl
     refine jS (sok xt) 10 (by kernel_rfl) fun K hn hp=> ?_;simp only [sy.1,rE,reduceIte,rL,g0,g1,g5,i1,i2,i5,j1,j2,j5,d1];apply hn;refine qC false (by simp only [sy.1,rE,reduceIte]) (fun hx=>by cases hx) (fun _=> ?_);refine qI ?_;refine qE ?_;by_cases q2:a.2.1=b.2.1
     ·have d2:(!decide (a.2.1=b.2.1))=false:=by rw [decide_eq_true q2];rfl
      refine jS (sok xt) 10 (by kernel_rfl) fun K hn hp=> ?_;simp only [sy.1,rE,reduceIte,rL,g0,g1,g5,i1,i3,i6,j1,j3,j6,d2];apply hn;refine qC false (by simp only [sy.1,rE,reduceIte]) (fun hx=>by cases hx) (fun _=> ?_);refine qI ?_;by_cases q3:a.2.2=b.2.2
      ·have d3:(!decide (a.2.2=b.2.2))=false:=by rw [decide_eq_true q3];rfl
       refine jS (sok xt) 10 (by kernel_rfl) fun K hn hp=> ?_;simp only [sy.1,rE,reduceIte,rL,g0,g1,g5,i1,i4,i7,j1,j4,j7,d3];apply hn;refine qH false (by simp only [sy.1,rE,reduceIte]) (fun hx=>by cases hx) (fun _=> ?_);refine qX (B1 _ ?_);refine reg fun K hn hp=> ?_;simp only [sy.1,rE,reduceIte,rL,g5,qO hk ltl];apply hn;have eab:a=b:=Prod.ext q1 (Prod.ext q2 q3);rw [if_pos eab] at hbf;refine ⟨⟨k+1,_,rfl,by omega,(by simp [xZZ,g0]),(by simp [xZZ,g1]),(by simp [xZZ]),by omega,hbf⟩,by simpa [xZZ,muA] using (by omega:l.length - (k+1)<l.length - k)⟩
      ·have d3:(!decide (a.2.2=b.2.2))=true:=by rw [decide_eq_false q3];rfl
       refine jS (sok xt) 10 (by kernel_rfl) fun K hn hp=> ?_;simp only [sy.1,rE,reduceIte,rL,g0,g1,g5,i1,i4,i7,j1,j4,j7,d3];apply hn;refine qH true (by simp only [sy.1,rE,reduceIte]) (fun _=> ?_) (fun hx=>by cases hx);refine jS (sok xt) 10 (by kernel_rfl) fun K hn hp=> ?_;simp only [sy.1,rE,reduceIte,rL,g0,g1,g5,i1,i4,i7,j1,j4,j7];refine hn _ _ (qD (B4 _ (A4 _ (qK res82 ⟨?_,xZW (xZY _)⟩))));rw [<-out (decide (a.2.2<b.2.2)) (fun e=>q3 (by rw [e])) (by simp [qA5,q1,q2])];simp [xZZ]
     ·have d2:(!decide (a.2.1=b.2.1))=true:=by rw [decide_eq_false q2];rfl
      refine jS (sok xt) 10 (by kernel_rfl) fun K hn hp=> ?_;simp only [sy.1,rE,reduceIte,rL,g0,g1,g5,i1,i3,i6,j1,j3,j6,d2];apply hn;refine qC true (by simp only [sy.1,rE,reduceIte]) (fun _=> ?_) (fun hx=>by cases hx);refine qE ?_;refine jS (sok xt) 10 (by kernel_rfl) fun K hn hp=> ?_;simp only [sy.1,rE,reduceIte,rL,g0,g1,g5,i1,i3,i6,j1,j3,j6];refine hn _ _ (qW (B4 _ (A4 _ (qK res82 ⟨?_,xZW (xZY _)⟩))));rw [<-out (decide (a.2.1<b.2.1)) (fun e=>q2 (by rw [e])) (by simp [qA5,q1,q2])];simp [xZZ]
    ·have d1:(!decide (a.1=b.1))=true:=by rw [decide_eq_false q1];rfl
     refine jS (sok xt) 10 (by kernel_rfl) fun K hn hp=> ?_;simp only [sy.1,rE,reduceIte,rL,g0,g1,g5,i1,i2,i5,j1,j2,j5,d1];apply hn;refine qC true (by simp only [sy.1,rE,reduceIte]) (fun _=> ?_) (fun hx=>by cases hx);refine qE ?_;refine jS (sok xt) 10 (by kernel_rfl) fun K hn hp=> ?_;simp only [sy.1,rE,reduceIte,rL,g0,g1,g5,i1,i2,i5,j1,j2,j5];refine hn _ _ (qW (B4 _ (A4 _ (qK res82 ⟨?_,xZW (xZY _)⟩))));rw [<-out (decide (a.1<b.1)) (fun e=>q1 (by rw [e])) (by simp [qA5,q1])];simp [xZZ]
   ·refine qA fun K hn hp=> ?_;simp only [sy.1,rE,reduceIte,rL,syw.1,lla,llb,jE,g0,g1,g5,hk,hk2];apply hn;refine qC false (by simp only [sy.1,rE,reduceIte]) (fun hx=>by cases hx) (fun _=> ?_);refine qR (A2 _ ?_);refine qA fun K hn hp=> ?_;simp only [sy.1,rL];apply hn;refine qD (qK res82 ⟨?_,xZW (xZY _)⟩);rw [<-hbf,xZQ (show m.length<=k by omega),befB_nilr];simp [xZZ]
  ·refine qA fun K hn hp=> ?_;simp only [sy.1,rE,reduceIte,rL,syw.1,lla,jE,g0,g5,hk];apply hn;refine qC false (by simp only [sy.1,rE,reduceIte]) (fun hx=>by cases hx) (fun _=> ?_);refine qR (A2 _ ?_);refine qA fun K hn hp=> ?_;simp only [sy.1,rL];apply hn;refine qD (qK res82 ⟨?_,xZW (xZY _)⟩);have e1:vQ [] (m.drop k)=false:=rfl;rw [<-hbf,xZQ (show l.length<=k by omega),e1];simp [xZZ]
 ·exact ⟨0,_,rfl,(by omega),(by simp [xZZ]),(by simp [xZZ]),(by simp [xZZ]),Nat.zero_le _,rfl⟩
end Go.Proofs.Kn
namespace Go.Proofs.Kn
open Go Go.Ev
set_option maxRecDepth 100000
set_option maxHeartbeats 4000000
theorem qDi (a b:Cg):bet a b=if a.2=b.2 then (if a.1.length=b.1.length then vQ a.1 b.1 else decide (a.1.length<b.1.length)) else decide (b.2<a.2):=by
 obtain ⟨l,x⟩:=a;obtain ⟨m,y⟩:=b;have z:orL []=0:=rfl;simp only [bet,qBq,z,pB];by_cases e1:x=y
 ·have e1':y=x:=e1.symm;simp only [e1,if_true];by_cases e2:l.length=m.length
  ·simp only [e2,if_true];rw [qEi e2];by_cases e3:pL l m=0
   ·simp [e3]
   ·simp [e3]
  ·have e2': ¬(l.length:Int)=(m.length:Int):=by omega
   simp only [e2,e2',if_false,bQ];exact decide_eq_decide.2 (by omega)
 ·have e1': ¬y=x:=fun e=>e1 e.symm;simp only [e1,e1',if_false,bQ]
theorem ft24 (xt:Addr->Option Value):(SE xt).ft.get 24=some Tryz.f24:=by kernel_rfl
theorem res24:Tryz.f24.results.toList=[.tmp 8]:=by kernel_rfl
theorem rbetter_c (xt:Addr->Option Value) (h:Hp) (za zb:AV) (a b:Cg) (ha:Cuts xt h za a.1) (hb:Cuts xt h zb b.1) {K:CR->Hp->Prop} (hk: ∀k,h.n<k->K (.ret (.val (.bool (bet a b)))) (h.up k)):FnA (SE xt) 24 [za,iv a.2,zb,iv b.2] h K:=by
 refine FnA.calm ?_ hk;clear hk K;refine FnA.walk (sok xt) (ft24 xt) rfl 28 rfl ?_;have onea:=ha.one;have oneb:=hb.one;have lla:=ha.len;have llb:=hb.len;refine qA fun K hn hp=> ?_;simp only [sw.1,rL,rA];apply hn;refine qE ?_;by_cases q1:a.2=b.2
 ·have d1:(!decide (a.2=b.2))=false:=by rw [decide_eq_true q1];rfl
  refine qA fun K hn hp=> ?_;simp only [sy.1,rE,reduceIte,rL,d1];apply hn;refine qC false (by simp only [sy.1,rE,reduceIte]) (fun hx=>by cases hx) (fun _=> ?_);refine qI ?_;refine qE ?_;by_cases q2:a.1.length=b.1.length
  ·have d2:(!decide ((a.1.length:Int)=(b.1.length:Int)))=false:=by rw [decide_eq_true (by omega)];rfl
   refine qA fun K hn hp=> ?_;simp only [sy.1,rE,reduceIte,rL,syw.1,lla,llb,d2];apply hn;refine qC false (by simp only [sy.1,rE,reduceIte]) (fun hx=>by cases hx) (fun _=> ?_);refine qI ?_;refine qA fun K hn hp=> ?_;simp only [sy.1,rE,reduceIte,rL];refine qB (sok xt) (rbefore_c xt h za zb a.1 b.1 ha hb fun k1 hk1=> ?_);simp only [sy.1,rE,reduceIte,rL];refine hn _ _ (qD (qK res24 ⟨?_,(xZW (xZY _)).up (Nat.le_of_lt hk1)⟩));rw [qDi,if_pos q1,if_pos q2];simp [xZZ]
  ·have d2:(!decide ((a.1.length:Int)=(b.1.length:Int)))=true:=by rw [decide_eq_false (by omega)];rfl
   refine qA fun K hn hp=> ?_;simp only [sy.1,rE,reduceIte,rL,syw.1,lla,llb,d2];apply hn;refine qC true (by simp only [sy.1,rE,reduceIte]) (fun _=> ?_) (fun hx=>by cases hx);refine qE ?_;refine qA fun K hn hp=> ?_;simp only [sy.1,rE,reduceIte,rL,syw.1,lla,llb];apply hn;refine qW (qK res24 ⟨?_,xZW (xZY _)⟩);rw [qDi,if_pos q1,if_neg q2];simp [xZZ]
 ·have d1:(!decide (a.2=b.2))=true:=by rw [decide_eq_false q1];rfl
  refine qA fun K hn hp=> ?_;simp only [sy.1,rE,reduceIte,rL,d1];apply hn;refine qC true (by simp only [sy.1,rE,reduceIte]) (fun _=> ?_) (fun hx=>by cases hx);refine qE ?_;refine qA fun K hn hp=> ?_;simp only [sy.1,rE,reduceIte,rL];apply hn;refine qW (qK res24 ⟨?_,xZW (xZY _)⟩);rw [qDi,if_neg q1];simp [xZZ]
end Go.Proofs.Kn
namespace Go.Proofs.Kn
open Go Go.Ev
set_option maxRecDepth 100000
set_option maxHeartbeats 4000000
def DpAt (xt:Addr->Option Value) (Own:Nat->Prop) (h:Hp) (B V n:Nat) (f:Nat->Cg) (D:Nat->Prop):Prop:=
 ∃bz vz,h.t.get B=some (.cells bz 33)/\h.t.get V=some (.cells vz 3)/\bz.length=n/\vz.length=n/\ ∀i,D i->i<n/\ ∃z,bz[i]? =some z/\vz[i]? =some (iv (f i).2)/\CgAt xt Own h z (f i).1
theorem DpAt.keep {xt:Addr->Option Value} {Own:Nat->Prop} {h h':Hp} {B V n:Nat} {f:Nat->Cg} {D:Nat->Prop} (a:DpAt xt Own h B V n f D) (hn:h.n<=h'.n) (hB:h'.t.get B=h.t.get B) (hV:h'.t.get V=h.t.get V) (hk: ∀b,b<h.n-> ¬Own b->h'.t.get b=h.t.get b):DpAt xt Own h' B V n f D:=by
 obtain ⟨bz,vz,h1,h2,h3,h4,h5⟩:=a;refine ⟨bz,vz,hB.trans h1,hV.trans h2,h3,h4,fun i hi=> ?_⟩;obtain ⟨q,z,e1,e2,c⟩:=h5 i hi;exact ⟨q,z,e1,e2,c.keep hn hk⟩
theorem DpAt.fr {xt:Addr->Option Value} {Own:Nat->Prop} {h h':Hp} {B V n:Nat} {f:Nat->Cg} {D:Nat->Prop} (a:DpAt xt Own h B V n f D) (fr:Fr h.n h h') (hB:B<h.n) (hV:V<h.n):DpAt xt Own h' B V n f D:=
 a.keep fr.le (fr.at_ B (.inl hB)) (fr.at_ V (.inl hV)) fun b hb _=>fr.at_ b (.inl hb)
theorem DpAt.congr {xt:Addr->Option Value} {Own:Nat->Prop} {h:Hp} {B V n:Nat} {f f':Nat->Cg} {D D':Nat->Prop} (a:DpAt xt Own h B V n f D) (hd: ∀i,D' i->D i) (hf: ∀i,D' i->f' i=f i):DpAt xt Own h B V n f' D':=by
 obtain ⟨bz,vz,h1,h2,h3,h4,h5⟩:=a;refine ⟨bz,vz,h1,h2,h3,h4,fun i hi=> ?_⟩;rw [hf i hi];exact h5 i (hd i hi)
theorem DpAt.put {xt:Addr->Option Value} {Own:Nat->Prop} {h:Hp} {B V n:Nat} {f:Nat->Cg} {D:Nat->Prop} (a:DpAt xt Own h B V n f D) (hB:Own B) (hV:Own V) (hBV:B≠V) {i:Nat} (hi:i<n) {z:AV} {l:List (Int×Int×Int)} (x:Int) (c:CgAt xt Own h z l):
  ∃o1 o2,qZ 1 h B i z (h.t.get B)=some (h.set B o1)/\qZ 1 (h.set B o1) V i (iv x) (h.t.get V)=some ((h.set B o1).set V o2)/\(∀b,b≠B->b≠V->((h.set B o1).set V o2).t.get b=h.t.get b)/\(∀N,N<=B->B<h.n->N<=V->V<h.n->Fr N h ((h.set B o1).set V o2))/\
  ∀(f':Nat->Cg) (D':Nat->Prop),f' i=(l,x)->(∀j,D' j->j=i\/(D j/\(j≠i->f' j=f j)))->DpAt xt Own ((h.set B o1).set V o2) B V n f' D':=by
 obtain ⟨bz,vz,h1,h2,h3,h4,h5⟩:=a;have p1:=zN (h:=h) (b:=B) (off:=i) (v:=z) (cs:=bz) (e:=33) c.cuts.cells c.cuts.one (by omega);have p2:=zN (h:=h.set B (.cells (bz.set i z) 33)) (b:=V) (off:=i) (v:=iv x) (cs:=vz) (e:=3) rfl rfl (by omega);refine ⟨.cells (bz.set i z) 33,.cells (vz.set i (iv x)) 3,by rw [h1];exact p1,by rw [h2];exact p2,fun b q1 q2=> ?_,fun N q1 q2 q3 q4=> ?_,fun f' D' e hD=> ?_⟩
 ·rw [xZV,xZZ,if_neg q2,xZV,xZZ,if_neg q1]
 ·exact ((xZW (by omega)).set q1 q2 _).set q3 (by rw [Hp.set_n];exact q4) _
 ·have keep: ∀{z':AV} {l':List (Int×Int×Int)},CgAt xt Own h z' l'->CgAt xt Own ((h.set B (.cells (bz.set i z) 33)).set V (.cells (vz.set i (iv x)) 3)) z' l':=fun {z' l'} c=>c.keep (xZY _) fun b _ hb=>by
   rw [xZV,xZZ,if_neg (by rintro rfl;exact hb hV),xZV,xZZ,if_neg (by rintro rfl;exact hb hB)]
  refine ⟨bz.set i z,vz.set i (iv x),?_,?_,by rw [List.length_set,h3],by rw [List.length_set,h4],fun j hj=> ?_⟩
  ·rw [xZV,xZZ,if_neg hBV,xZV,xZZ,if_pos rfl]
  ·rw [xZV,xZZ,if_pos rfl]
  ·by_cases q:j=i
   ·subst q;refine ⟨hi,z,?_,?_,?_⟩
    ·rw [xZR (by omega)]
    ·rw [xZR (by omega),e]
    ·rw [e];exact keep c
   ·obtain ⟨qd,qf⟩:=(hD j hj).resolve_left q;obtain ⟨r1,z',r2,r3,r4⟩:=h5 j qd;rw [qf q];refine ⟨r1,z',?_,?_,keep r4⟩
    ·rw [xZO (fun e=>q e.symm)];exact r2
    ·rw [xZO (fun e=>q e.symm)];exact r3
theorem DpAt.start {xt:Addr->Option Value} {Own:Nat->Prop} {h:Hp} {B V n i0:Nat} {f:Nat->Cg} (h1:h.t.get B=some (.cells (List.replicate n nilS) 33)) (h2:h.t.get V=some (.cells (List.replicate n (iv 0)) 3)) (hi:i0<n) (hf:f i0=([],0)):DpAt xt Own h B V n f (fun i=>i=i0):=by
 refine ⟨_,_,h1,h2,xZP,xZP,fun i e=> ?_⟩;subst e;refine ⟨hi,nilS,?_,?_,?_⟩
 ·rw [xZS,if_pos hi]
 ·rw [xZS,if_pos hi,hf]
 ·rw [hf];exact CgAt.nil
end Go.Proofs.Kn
