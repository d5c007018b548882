/- MvR1, MvR2, MvR3, MvR4: texts in a row, joined by a program. -/
import Derived.Test.YtnmfblokfponlaaGreatDoorQY5
set_option linter.all false
namespace Go.Proofs.Kn
open Go Go.Ev
set_option maxRecDepth 100000
set_option maxHeartbeats 4000000
theorem FrM.join {M M':Nat->Prop} {n m:Nat} {h h1 h2:Hp} (f:FrM M n h h1) (g:FrM M' m h1 h2) (hn:n<=m) (hM: ∀k,M' k->M k\/(n<=k/\k<h1.n)):FrM M n h h2:=by
 refine ⟨Nat.le_trans hn g.lo,Nat.le_trans f.le g.le,fun k hk hk2=> ?_⟩;have:=f.lo;have:=g.le;have:=g.lo;rw [g.at_ k (by omega) (fun q=>by rcases hM k q with q|q;exact hk2 q;omega),f.at_ k (by omega) hk2]
theorem MI.fr {xt:Addr->Option Value} {Own:Nat->Prop} {h h':Hp} {P:Int->Cg} {l:Mem} (a:MI xt Own h P l) {n:Nat} (f:Fr n h h') (hn:h.n<=n):MI xt Own h' P l:=a.keep f.le fun b hb _=>f.at_ b (.inl (by omega))
theorem CgAt.fr {xt:Addr->Option Value} {Own:Nat->Prop} {h h':Hp} {z:AV} {l:List (Int×Int×Int)} (a:CgAt xt Own h z l) {n:Nat} (f:Fr n h h') (hn:h.n<=n):CgAt xt Own h' z l:=a.keep f.le fun b hb _=>f.at_ b (.inl (by omega))
end Go.Proofs.Kn
namespace Go.Proofs.Kn
open Go Go.Ev
set_option maxRecDepth 100000
set_option maxHeartbeats 4000000
end Go.Proofs.Kn
namespace Go.Proofs.Kn
open Go Go.Ev
set_option maxRecDepth 100000
set_option maxHeartbeats 4000000
end Go.Proofs.Kn
namespace Go.Proofs.Kn
open Go Go.Ev
set_option maxRecDepth 100000
set_option maxHeartbeats 4000000
end Go.Proofs.Kn
