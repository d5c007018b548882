/- MvO1: texts in a row, joined by a program. -/
import Derived.Test.YtnmfblokfponlaaGreatDoorQN3
set_option linter.all false
open List renaming getD_eq_getElem?_getD → xZZ, getElem?_eq_none → xZX
open Int renaming tdiv_eq_ediv_of_nonneg → xZY, le_refl → xZW
namespace Go.Proofs.Kn
open Go Go.Ev
theorem qAu {t t':Nat->Int} {c:Nat}: ∀(n:Nat) (a a':Int),a<=a'->(∀j,j<n->t (c+j)<=t' (c+j))->yE t c n a<=yE t' c n a'
 |0,_,_,h,_=>h
 |n+1,a,a',h,hj=>by
  have h1:=qAu n a a' h fun j hn=>hj j (by omega);have h2:=hj n (by omega);simp only [yE];omega
theorem qAF {t t':Nat->Nat->Int} {r c n:Nat}: ∀k:Nat,(∀i,i<k-> ∀j,j<n->t (r+i) (c+j)<=t' (r+i) (c+j))->zK t r c n k<=zK t' r c n k
 |0,_=>xZW _
 |k+1,h=>by
  simp only [zK];exact qAu n _ _ (qAF k fun i hi j hj=>h i (by omega) j hj) fun j hj=>h k (by omega) j hj
theorem give_mono {w:Wk} (his:w.Is) {t t':Nat->Nat->Int} (hpos: ∀r c,r<w.m.cells.length->c<w.m.W->0<=t r c) (h: ∀r c,r<w.m.cells.length->c<w.m.W->t r c<=t' r c) {s:Int×Int×Int} (hb:w.Blk s):w.give t s<=w.give t' s:=by
 obtain ⟨r0,c0,q,n,th,wo,rfl,ht,h1,h2⟩:=hb;rw [Wk.give_q ht,Wk.give_q ht];have k0:=his.k0;have t1:=ht.h1;have b2:0<=zK t r0 c0 n n:=pC (by omega) n fun i hi j hj=>hpos _ _ (by omega) (by omega);have b3:zK t r0 c0 n n<=zK t' r0 c0 n n:=qAF n fun i hi j hj=>h _ _ (by omega) (by omega);rw [xZY (by omega),xZY (by omega)];exact Int.ediv_le_ediv (by omega) (by omega)
theorem qBc {l l':List Int} (h: ∀i,l.getD i 0<=l'.getD i 0): ∀k,pM l k<=pM l' k
 |0=>xZW _
 |k+1=>by
  have h1:=qBc h k;have h2:=h k;simp only [pM];omega
theorem qEB {w:Wk} {gv gv':Int×Int×Int->Int} {ls:List (Int×Int×Int)} (hb: ∀s∈ls,w.Blk s) (h: ∀s∈ls,gv s<=gv' s):w.worth gv ls<=w.worth gv' ls:=by
 refine qBc (fun i=> ?_) _;cases e:ls[i]? with
 |none=>
  have:ls.length<=i:=List.getElem?_eq_none_iff.1 e;rw [xZZ,xZZ,xZX (by rw [qDB];exact this),xZX (by rw [qDB];exact this)];exact xZW _
 |some s=>
  rw [vals_at w gv e,vals_at w gv' e];have hs:=List.mem_of_getElem? e;obtain ⟨r0,c0,q,n,th,wo,rfl,ht,_,_⟩:=hb s hs;rw [Int.toNat_natCast,ht.tb];have w1:=ht.w1;exact Int.mul_le_mul_of_nonneg_left (h _ hs) (by simp only;omega)
end Go.Proofs.Kn
