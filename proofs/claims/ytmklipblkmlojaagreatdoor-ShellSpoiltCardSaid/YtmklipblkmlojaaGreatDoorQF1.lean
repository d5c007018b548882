/- Parts of the proof, joined by a program. -/
import Derived.Test.YtmklipblkmlojaaGreatDoorQE9
import Derived.Test.YtmklipblkmlojaaGreatDoorQE4
set_option linter.all false
open List renaming cons_append → xZZ
namespace Go.Proofs.Kn
open Go Go.Ev
set_option maxRecDepth 100000
set_option maxHeartbeats 4000000
end Go.Proofs.Kn
namespace Go.Proofs.Kn
open Go Go.Ev
set_option maxRecDepth 100000
set_option maxHeartbeats 4000000
end Go.Proofs.Kn
namespace Go.Proofs.Kn
open Go Go.Ev
set_option maxRecDepth 100000
set_option maxHeartbeats 4000000
def nlB (ls:List (List UInt8)):List UInt8:=ls.flatMap fun l=>l++[10]
theorem qAy (e:List UInt8): ∀ls:List (List UInt8),Lib.join (ls++[e]) [10]=nlB ls++e
 |[]=>by simp [nlB,Lib.join_cons,Lib.joinTail]
 |l::ls=>by
  have h:=qAy e ls;have e1:nlB (l::ls)=(l++[10])++nlB ls:=by simp [nlB]
  rw [e1,xZZ,Lib.join_cons,List.append_assoc];cases ls with
  |nil=>simp [nlB,Lib.joinTail]
  |cons x xs=>
   rw [xZZ,Lib.join_cons] at h;simp only [xZZ,Lib.joinTail,List.map_cons,List.flatten_cons] at h ⊢;rw [<-h];simp
end Go.Proofs.Kn
namespace Go.Proofs.Kn
open Go Go.Ev
set_option maxRecDepth 100000
set_option maxHeartbeats 4000000
end Go.Proofs.Kn
