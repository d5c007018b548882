/- MvS1, MvS2, MvS3, MvS4: texts in a row, joined by a program. -/
import Derived.Test.YtnmfblokfponlaaGreatDoorQY6
set_option linter.all false
open Go.Ev.T renaming get_put → xZZ
open Go.Ev.Hp renaming set_t → xZY
open List renaming getElem?_replicate → xZX, getElem?_set_self → xZW, length_replicate → xZV, getElem?_set_ne → xZU
namespace Go.Proofs.Kn
open Go Go.Ev
set_option maxRecDepth 100000
set_option maxHeartbeats 4000000
end Go.Proofs.Kn
namespace Go.Proofs.Kn
open Go Go.Ev
set_option maxRecDepth 100000
set_option maxHeartbeats 4000000
theorem bE (a b:Int):cmpI a b<0↔a<b:=by
 unfold cmpI;split
 ·simp_all
 ·split
  ·simp;omega
  ·simp;omega
theorem wQ (a b:Int):cmpI a b=0↔a=b:=by
 unfold cmpI;split
 ·simp;omega
 ·split
  ·simp;omega
  ·simp;omega
theorem qBn (x:Int) (l:List Int):orL (x::l)=if x=0 then orL l else x:=rfl
theorem bef_zero {a b:Int×Int×Int}:bef a b=0↔a=b:=by
 obtain ⟨a1,a2,a3⟩:=a;obtain ⟨b1,b2,b3⟩:=b;have z:orL []=0:=rfl;simp only [bef,qBn,Prod.mk.injEq,z,wQ];by_cases e1:a1=b1
 ·by_cases e2:a2=b2
  ·by_cases e3:a3=b3
   ·simp [e1,e2,e3]
   ·simp [e1,e2,e3,wQ]
  ·simp [e1,e2,wQ]
 ·simp [e1,wQ]
theorem bef_neg {a b:Int×Int×Int}:bef a b<0↔if a.1=b.1 then (if a.2.1=b.2.1 then a.2.2<b.2.2 else a.2.1<b.2.1) else a.1<b.1:=by
 obtain ⟨a1,a2,a3⟩:=a;obtain ⟨b1,b2,b3⟩:=b;have z:orL []=0:=rfl;simp only [bef,qBn,z,wQ];by_cases e1:a1=b1
 ·by_cases e2:a2=b2
  ·by_cases e3:a3=b3
   ·simp [e1,e2,e3]
   ·simp [e1,e2,e3,bE]
  ·simp [e1,e2,bE]
 ·simp [e1,bE]
def xK:List (Int×Int×Int)->List (Int×Int×Int)->Bool
 |a::l,b::m=>if a=b then xK l m else decide (bef a b<0)
 |_,_=>false
theorem qD7: ∀{l m:List (Int×Int×Int)},l.length=m.length->xK l m=decide (cmpF l m<0)
 |[],[],_=>rfl
 |[],_::_,h=>by simp at h
 |_::_,[],h=>by simp at h
 |a::l,b::m,h=>by
  simp only [xK,cmpF,bef_zero];by_cases e:a=b
  ·rw [if_pos e,if_pos e];exact qD7 (by simpa using h)
  ·rw [if_neg e,if_neg e]
end Go.Proofs.Kn
namespace Go.Proofs.Kn
open Go Go.Ev
set_option maxRecDepth 100000
set_option maxHeartbeats 4000000
theorem bet_eq (a b:Cg):bet a b=if a.2=b.2 then (if a.1.length=b.1.length then xK a.1 b.1 else decide (a.1.length<b.1.length)) else decide (b.2<a.2):=by
 obtain ⟨l,x⟩:=a;obtain ⟨m,y⟩:=b;have z:orL []=0:=rfl;simp only [bet,qBn,z,wQ];by_cases e1:x=y
 ·have e1':y=x:=e1.symm;simp only [e1,if_true];by_cases e2:l.length=m.length
  ·simp only [e2,if_true];rw [qD7 e2];by_cases e3:cmpF l m=0
   ·simp [e3]
   ·simp [e3]
  ·have e2': ¬(l.length:Int)=(m.length:Int):=by omega
   simp only [e2,e2',if_false,bE];exact decide_eq_decide.2 (by omega)
 ·have e1': ¬y=x:=fun e=>e1 e.symm;simp only [e1,e1',if_false,bE]
end Go.Proofs.Kn
namespace Go.Proofs.Kn
open Go Go.Ev
set_option maxRecDepth 100000
set_option maxHeartbeats 4000000
def DpAt (xt:Addr->Option Value) (Own:Nat->Prop) (h:Hp) (B V n:Nat) (f:Nat->Cg) (D:Nat->Prop):Prop:=
 ∃bz vz,h.t.get B=some (.cells bz 33)/\h.t.get V=some (.cells vz 3)/\bz.length=n/\vz.length=n/\ ∀i,D i->i<n/\ ∃z,bz[i]? =some z/\vz[i]? =some (iv (f i).2)/\CgAt xt Own h z (f i).1
theorem DpAt.keep {xt:Addr->Option Value} {Own:Nat->Prop} {h h':Hp} {B V n:Nat} {f:Nat->Cg} {D:Nat->Prop} (a:DpAt xt Own h B V n f D) (hn:h.n<=h'.n) (hB:h'.t.get B=h.t.get B) (hV:h'.t.get V=h.t.get V) (hk: ∀b,b<h.n-> ¬Own b->h'.t.get b=h.t.get b):DpAt xt Own h' B V n f D:=by
 obtain ⟨bz,vz,h1,h2,h3,h4,h5⟩:=a;refine ⟨bz,vz,hB.trans h1,hV.trans h2,h3,h4,fun i hi=> ?_⟩;obtain ⟨q,z,e1,e2,c⟩:=h5 i hi;exact ⟨q,z,e1,e2,c.keep hn hk⟩
theorem DpAt.fr {xt:Addr->Option Value} {Own:Nat->Prop} {h h':Hp} {B V n:Nat} {f:Nat->Cg} {D:Nat->Prop} (a:DpAt xt Own h B V n f D) (fr:Fr h.n h h') (hB:B<h.n) (hV:V<h.n):DpAt xt Own h' B V n f D:=
 a.keep fr.le (fr.at_ B (.inl hB)) (fr.at_ V (.inl hV)) fun b hb _=>fr.at_ b (.inl hb)
theorem DpAt.congr {xt:Addr->Option Value} {Own:Nat->Prop} {h:Hp} {B V n:Nat} {f f':Nat->Cg} {D D':Nat->Prop} (a:DpAt xt Own h B V n f D) (hd: ∀i,D' i->D i) (hf: ∀i,D' i->f' i=f i):DpAt xt Own h B V n f' D':=by
 obtain ⟨bz,vz,h1,h2,h3,h4,h5⟩:=a;refine ⟨bz,vz,h1,h2,h3,h4,fun i hi=> ?_⟩;rw [hf i hi];exact h5 i (hd i hi)
theorem DpAt.put {xt:Addr->Option Value} {Own:Nat->Prop} {h:Hp} {B V n:Nat} {f:Nat->Cg} {D:Nat->Prop} (a:DpAt xt Own h B V n f D) (hB:Own B) (hV:Own V) (hBV:B≠V) {i:Nat} (hi:i<n) {z:AV} {l:List (Int×Int×Int)} (x:Int) (c:CgAt xt Own h z l):
  ∃o1 o2,jF 1 h B i z (h.t.get B)=some (h.set B o1)/\jF 1 (h.set B o1) V i (iv x) (h.t.get V)=some ((h.set B o1).set V o2)/\(∀b,b≠B->b≠V->((h.set B o1).set V o2).t.get b=h.t.get b)/\(∀N,N<=B->B<h.n->N<=V->V<h.n->Fr N h ((h.set B o1).set V o2))/\
  ∀(f':Nat->Cg) (D':Nat->Prop),f' i=(l,x)->(∀j,D' j->j=i\/(D j/\(j≠i->f' j=f j)))->DpAt xt Own ((h.set B o1).set V o2) B V n f' D':=by
 obtain ⟨bz,vz,h1,h2,h3,h4,h5⟩:=a;have p1:=vV (h:=h) (b:=B) (off:=i) (v:=z) (cs:=bz) (e:=33) c.cuts.cells c.cuts.one (by omega);have p2:=vV (h:=h.set B (.cells (bz.set i z) 33)) (b:=V) (off:=i) (v:=iv x) (cs:=vz) (e:=3) rfl rfl (by omega);refine ⟨.cells (bz.set i z) 33,.cells (vz.set i (iv x)) 3,by rw [h1];exact p1,by rw [h2];exact p2,fun b q1 q2=> ?_,fun N q1 q2 q3 q4=> ?_,fun f' D' e hD=> ?_⟩
 ·rw [xZY,xZZ,if_neg q2,xZY,xZZ,if_neg q1]
 ·exact ((Fr.refl (by omega)).set q1 q2 _).set q3 (by rw [Hp.set_n];exact q4) _
 ·have keep: ∀{z':AV} {l':List (Int×Int×Int)},CgAt xt Own h z' l'->CgAt xt Own ((h.set B (.cells (bz.set i z) 33)).set V (.cells (vz.set i (iv x)) 3)) z' l':=fun {z' l'} c=>c.keep (Nat.le_refl _) fun b _ hb=>by
   rw [xZY,xZZ,if_neg (by rintro rfl;exact hb hV),xZY,xZZ,if_neg (by rintro rfl;exact hb hB)]
  refine ⟨bz.set i z,vz.set i (iv x),?_,?_,by rw [List.length_set,h3],by rw [List.length_set,h4],fun j hj=> ?_⟩
  ·rw [xZY,xZZ,if_neg hBV,xZY,xZZ,if_pos rfl]
  ·rw [xZY,xZZ,if_pos rfl]
  ·by_cases q:j=i
   ·subst q;refine ⟨hi,z,?_,?_,?_⟩
    ·rw [xZW (by omega)]
    ·rw [xZW (by omega),e]
    ·rw [e];exact keep c
   ·obtain ⟨qd,qf⟩:=(hD j hj).resolve_left q;obtain ⟨r1,z',r2,r3,r4⟩:=h5 j qd;rw [qf q];refine ⟨r1,z',?_,?_,keep r4⟩
    ·rw [xZU (fun e=>q e.symm)];exact r2
    ·rw [xZU (fun e=>q e.symm)];exact r3
theorem DpAt.start {xt:Addr->Option Value} {Own:Nat->Prop} {h:Hp} {B V n i0:Nat} {f:Nat->Cg} (h1:h.t.get B=some (.cells (List.replicate n qAP) 33)) (h2:h.t.get V=some (.cells (List.replicate n (iv 0)) 3)) (hi:i0<n) (hf:f i0=([],0)):DpAt xt Own h B V n f (fun i=>i=i0):=by
 refine ⟨_,_,h1,h2,xZV,xZV,fun i e=> ?_⟩;subst e;refine ⟨hi,qAP,?_,?_,?_⟩
 ·rw [xZX,if_pos hi]
 ·rw [xZX,if_pos hi,hf]
 ·rw [hf];exact CgAt.nil
end Go.Proofs.Kn
