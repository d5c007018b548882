/- MvH7: texts in a row, joined by a program. -/
import Derived.Test.YtnmfblokfponlaaGreatDoorQP
set_option linter.all false
namespace Go.Proofs.Kn
open Go Go.Ev
set_option maxRecDepth 100000
set_option maxHeartbeats 4000000
def Bw (F:Nat→Nat→Int×Int):Prop:= ∀r c,(0≤(F r c).1∧(F r c).1≤60)∧0≤(F r c).2∧(F r c).2≤60
theorem Bw.F0 (m:Mp):Bw m.F0:=fun r c=>by simp only [Mp.F0];split<;>simp
theorem Bw.put {F:Nat→Nat→Int×Int} (h:Bw F) {r c:Nat} {s:Int×Int} (h1:s.1≤60) (h2:0≤s.2):Bw (Th.putRow F r (Th.put (F r) c (Th.nar (F r c) s))):=fun x y=>by
 have h0:=h r c;by_cases e:x=r
 ·subst e;rw [Th.putRow_at];by_cases e:y=c
  ·subst e;rw [Th.put_at];simp only [Th.nar];omega
  ·rw [Th.put_ne _ _ e];exact h x y
 ·rw [Th.putRow_ne _ _ e];exact h x y
structure TInv (h:Hp) (m:Mp) (C:Nat) (hc:Hp) (v:AV) (M R:Nat) (F:Nat→Nat→Int×Int):Prop where
 fr:Fr h.n h hc
 b0:hc.t.get h.n=some (.cells m.cs 27)
 sg:SG hc (h.n+1) M v R C F
 le:h.n+1≤M
 hi:M≤hc.n
theorem TInv.keep {h hc hd:Hp} {m:Mp} {C:Nat} {v:AV} {M R:Nat} {F:Nat→Nat→Int×Int} (b:TInv h m C hc v M R F) {n:Nat} (f:Fr n hc hd) (hn:M≤n):TInv h m C hd v M R F:=by
 have h1:=b.le;have h2:=b.hi;have h3:=f.le;exact ⟨b.fr.trans f (by omega),by rw [f.at_ _ (by omega)];exact b.b0,b.sg.fr f hn,b.le,by omega⟩
theorem TInv.frR {h hc hd:Hp} {m:Mp} {C:Nat} {v:AV} {M R:Nat} {F G:Nat→Nat→Int×Int} (b:TInv h m C hc v M R F) (f:FrR (h.n+1) M hc hd) (hs:SG hd (h.n+1) M v R C G):TInv h m C hd v M R G:=by
 have h1:=b.le;have h2:=b.hi;have h3:=f.le;exact ⟨b.fr.trans (f.fr (by omega)) (by omega),by rw [f.at_ _ (by omega)];exact b.b0,hs,b.le,by omega⟩
theorem newAll_cons {t:T AO} {n:Nat} {o:AO} {os:List AO}:newAll t n (o::os)=(newAll t (n+1) os).put (some o) n:=rfl
end Go.Proofs.Kn
