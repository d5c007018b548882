/- Parts of the proof, joined by a program. -/
import Derived.Test.YtafhmammmgbdgaaGreatDoorQD
import Derived.Test.YtafhmammmgbdgaaGreatDoorQC
set_option linter.all false
namespace Go.Proofs.Kn
open Go Go.Ev
set_option maxRecDepth 100000
set_option maxHeartbeats 4000000
noncomputable def zcs:List AV:=te53.zero.map AV.val
def NoDesk (h:Hp) (p:AV):Prop:=p= .val (.pointer none)∨ ∃b,p= .ptr b 0∧b<h.n∧h.t.get b=some (.cells zcs 53)
theorem NoDesk.up {h:Hp} {p:AV} (d:NoDesk h p) {n:Nat} (hn:h.n≤n):NoDesk (h.up n) p:=by
 rcases d with rfl|⟨b,rfl,hb,q⟩
 ·exact .inl rfl
 ·exact .inr ⟨b,rfl,by rw [Hp.up_n];omega,q⟩
theorem NoDesk.new {h:Hp} {p:AV} (d:NoDesk h p) (o:AO):NoDesk (h.new o) p:=by
 rcases d with rfl|⟨b,rfl,hb,q⟩
 ·exact .inl rfl
 ·exact .inr ⟨b,rfl,by rw [Hp.new_n];omega,by rw [Hp.new_t,T.get_put,if_neg (by omega)];exact q⟩
end Go.Proofs.Kn
namespace Go.Proofs.Kn
open Go Go.Ev
set_option maxRecDepth 100000
set_option maxHeartbeats 4000000
theorem NoDesk.at_ {h h':Hp} {p:AV} (d:NoDesk h p) (f:Fr h.n h h'):NoDesk h' p:=by
 rcases d with rfl|⟨b,rfl,hb,q⟩
 ·exact .inl rfl
 ·exact .inr ⟨b,rfl,Nat.lt_of_lt_of_le hb f.le,by rw [f.at_ _ (.inl hb)];exact q⟩
theorem NoDesk.one {h:Hp} {p:AV} (d:NoDesk h p):cellsOf p=[p]:=by
 rcases d with rfl|⟨b,rfl,hb,q⟩<;>rfl
end Go.Proofs.Kn
namespace Go.Proofs.Kn
open Go Go.Ev
set_option maxRecDepth 100000
set_option maxHeartbeats 4000000
def isTrue (r:CR) (_:Hp):Prop:=r= .ret (.val (.bool true))
end Go.Proofs.Kn
