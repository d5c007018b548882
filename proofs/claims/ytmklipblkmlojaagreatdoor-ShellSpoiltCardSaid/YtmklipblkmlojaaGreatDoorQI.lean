/- Parts of the proof, joined by a program. -/
import Derived.Test.YtmklipblkmlojaaGreatDoorQXKnKnown
import Derived.Test.YtmklipblkmlojaaGreatDoorQC
set_option linter.all false
noncomputable section
namespace Go.Proofs.Kn
open Go Go.Ev
set_option maxRecDepth 100000
def xtI:Addr->Option Value:=fun a=>match a.block,a.off,a.spot with
 |1,i,none=>bif Nat.blt i 20 then some (.int .u64 ((10 ^ i:Nat):Int)) else none
 |_,_,_=>none
structure Lx (xt:Addr->Option Value):Prop where
 m: ∃m,xt ⟨0,0,none⟩=some (.int .i64 m)
 p: ∀a v,xtI a=some v->xt a=some v
def dg (n:Nat):UInt8:=UInt8.ofNat (48+n % 10)
def dec (n:Nat):List UInt8:=if n<10 then [dg n] else if n<100 then [dg (n / 10),dg n] else [dg (n / 100),dg (n / 10),dg n]
def bodyI:Code:=qAT Tryz.f88.body
theorem bodyI_is:Tryz.f88.body=some bodyI:=by kernel_rfl
def stI (n:Nat):St:={tm:=argsTo [.val (.int .i64 (n:Int))] 0 .e,nt:=5,h:={t:= .e,n:=0},mks:=[]}
def iFine (n:Nat) (o:Option (Ex×St)):Bool:=
 match o with
 |some (.ret,st)=>(match st.mks with
  |[]=>(match vE (E xtI) st.tm st.h Tryz.f88.results.toList with
   |some [.val (.string s)]=>s.data.toList==dec n
   |_=>false)
  |_=>false)
 |_=>false
theorem iFine_ok {n:Nat} {o:Option (Ex×St)} (h:iFine n o=true): ∃st,o=some (.ret,st)/\st.mks=[]/\vE (E xtI) st.tm st.h Tryz.f88.results.toList=some [sv (dec n)]:=by
 unfold iFine at h;split at h
 ·rename_i st;split at h
  ·rename_i hm;split at h
   ·rename_i s hr;refine ⟨st,rfl,hm,?_⟩;rw [hr,sv,<-beq_iff_eq.1 h,bs_self]
   ·cases h
  ·cases h
 ·cases h
def iOk (n:Nat):Bool:=iFine n ((ev (E xtI) 100000 100).code none bodyI (stI n))
end Go.Proofs.Kn
end
namespace Go.Proofs.Kn
open Go Go.Ev
set_option maxRecDepth 100000
theorem i1:(List.range 100).all (fun i=>iOk (i+100))=true:=by kernel_rfl
theorem i2:(List.range 100).all (fun i=>iOk (i+200))=true:=by kernel_rfl
theorem i3:(List.range 100).all (fun i=>iOk (i+300))=true:=by kernel_rfl
end Go.Proofs.Kn
namespace Go.Proofs.Kn
open Go Go.Ev
set_option maxRecDepth 100000
theorem i4:(List.range 100).all (fun i=>iOk (i+400))=true:=by kernel_rfl
theorem i5:(List.range 100).all (fun i=>iOk (i+500))=true:=by kernel_rfl
theorem i6:(List.range 100).all (fun i=>iOk (i+600))=true:=by kernel_rfl
end Go.Proofs.Kn
namespace Go.Proofs.Kn
open Go Go.Ev
set_option maxRecDepth 100000
theorem i7:(List.range 100).all (fun i=>iOk (i+700))=true:=by kernel_rfl
theorem i8:(List.range 100).all (fun i=>iOk (i+800))=true:=by kernel_rfl
theorem i9:(List.range 100).all (fun i=>iOk (i+900))=true:=by kernel_rfl
end Go.Proofs.Kn
