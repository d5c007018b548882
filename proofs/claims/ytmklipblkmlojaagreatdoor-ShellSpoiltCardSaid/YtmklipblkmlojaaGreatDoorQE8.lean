/- Parts of the proof, joined by a program. -/
import Derived.Test.YtmklipblkmlojaaGreatDoorQE7
set_option linter.all false
open List renaming mem_cons_of_mem → xZZ, mem_cons_self → xZY
namespace Go.Proofs.Kn
open Go Go.Ev
set_option maxRecDepth 100000
set_option maxHeartbeats 4000000
theorem tg40:tb.get 40=some te40:=by kernel_rfl
theorem cv35 (h:Hp) (n:Int):wU tb h 3 5 (iv n)=some (.val (.int .u8 (IntKind.u8.wrap n))):=bK tg3 tg5 rfl n
theorem wrap_u8 (x:Int) (h1:0<=x) (h2:x<256):IntKind.u8.wrap x=x:=by
 simp only [IntKind.wrap,IntKind.bits,IntKind.signed];simp;omega
end Go.Proofs.Kn
namespace Go.Proofs.Kn
open Go Go.Ev
set_option maxRecDepth 100000
set_option maxHeartbeats 4000000
theorem spl_end (c:UInt8): ∀(l:List UInt8),c ∉ l->spl c l=[l]
 |[],_=>rfl
 |x::l,h=>by
  have h1: ¬x=c:=fun e=>h (by rw [e];exact xZY);have ih:=spl_end c l fun hc=>h (xZZ _ hc);simp only [spl,if_neg h1,ih,w9]
theorem spl_cut (c:UInt8): ∀(a l:List UInt8),c ∉ a->spl c (a++c::l)=a::spl c l
 |[],l,_=>by simp [spl]
 |x::a,l,h=>by
  have h1: ¬x=c:=fun e=>h (by rw [e];exact xZY);have ih:=spl_cut c a l fun hc=>h (xZZ _ hc);simp only [List.cons_append,spl,if_neg h1,ih,w9]
end Go.Proofs.Kn
namespace Go.Proofs.Kn
open Go Go.Ev
set_option maxRecDepth 100000
set_option maxHeartbeats 4000000
def numsP:List (List UInt8)->Option (List Int)
 |[]=>some []
 |x::xs=>match wK x with
  |none=>none
  |some n=>(numsP xs).map ((n:Int):: ·)
end Go.Proofs.Kn
