/- Parts of the proof, joined by a program. -/
import Derived.Lib.Strings
import Derived.Test.YtmklipblkmlojaaGreatDoorQC
import Derived.Test.YtmklipblkmlojaaGreatDoorQXKnKnown
set_option linter.all false
open Nat renaming ble_eq → xZZ
noncomputable section
namespace Go.Ev
def bs (l:List UInt8):ByteArray:=⟨l.toArray⟩
def sv (l:List UInt8):AV:= .val (.string (bs l))
theorem zK (l:List UInt8):(bs l).data.toList=l:=by simp [bs]
theorem qCX (s:ByteArray):bs s.data.toList=s:=by cases s;simp [bs]
theorem uD (l:List UInt8):(bs l).size=l.length:=by simp [bs,ByteArray.size]
theorem bs_append (a b:List UInt8):bs a++bs b=bs (a++b):=by
 apply ByteArray.ext
 simp [bs]
theorem qBC (l:List UInt8) (i j:Nat):(bs l).extract i j=bs ((l.take j).drop i):=by
 apply ByteArray.ext
 simp [bs,List.drop_take]
theorem sv_cells (l:List UInt8):cellsOf (sv l)=[sv l]:=rfl
theorem sv_one (l:List UInt8):Go.Ev.one (sv l)=true:=rfl
section
variable {P:Program} {tb:T TE} {t:TypeId} {ox oy:Operand} {h:Hp} {te:TE}
theorem qCi (a b:List UInt8):((bs a).toList==(bs b).toList)=decide (a=b):=by
 rw [Lib.toList_data,Lib.toList_data,zK,zK];by_cases hab:a=b
 ·simp [hab]
 ·simp [hab]
theorem abin_eqs (a b:List UInt8):vG P tb .eql t ox oy (sv a) (sv b)=some (.val (.bool (decide (a=b)))):=by
 have e:vG P tb .eql t ox oy (sv a) (sv b)=some (.val (.bool ((bs a).toList==(bs b).toList))):=rfl;rw [e,qCi]
theorem abin_nes (a b:List UInt8):vG P tb .neq t ox oy (sv a) (sv b)=some (.val (.bool (!decide (a=b)))):=by
 have e:vG P tb .neq t ox oy (sv a) (sv b)=some (.val (.bool (!((bs a).toList==(bs b).toList)))):=rfl;rw [e,qCi]
theorem kY (a b:List UInt8) (hl:a.length+b.length<=9223372036854775807):vG P tb .add t ox oy (sv a) (sv b)=some (sv (a++b)):=by
 have hr:(do eqGuard .add t ox oy (.string (bs a)) (.string (bs b));binOp .add t (.string (bs a)) (.string (bs b)):Sem Value)=pure (.string (bs (a++b))):=by
  show Op.stringOp .add (bs a) (bs b)=_;unfold Op.stringOp;simp only [uD,bs_append];rw [if_neg (by simp [IntKind.max,IntKind.bits,IntKind.signed];omega)]
 simp only [vG,sv,toVal,hr];rfl
theorem alen_s (ht:tb.get t=some te) (hd:te.d= .str) (a:List UInt8):vX tb h t (sv a)=some a.length:=by
 simp only [vX,ht,hd,sv,zK]
theorem aindex_s (ht:tb.get t=some te) (hd:te.d= .str) (a:List UInt8) {k:IntKind} {i:Nat} (hi:i<a.length):uJ tb t (sv a) (.val (.int k (i:Int)))=some (.val (.int .u8 ((a[i]).toNat:Int))):=by
 have e1:qAi (.val (.int k (i:Int)))=some (Int.ofNat i):=rfl;simp only [uJ,ht,hd,e1,sv,zK,List.getElem?_eq_getElem hi]
theorem aslice_s (ht:tb.get t=some te) (hd:te.d= .str) (a:List UInt8) {i j:Nat} (hi:i<=j) (hj:j<=a.length) {k k':IntKind}:vF tb h t (sv a) (some (.val (.int k (i:Int)))) (some (.val (.int k' (j:Int))))=some (sv ((a.take j).drop i)):=by
 have e1:zU 0 (some (.val (.int k (i:Int))))=some i:=rfl;have e2:zU a.length (some (.val (.int k' (j:Int))))=some j:=rfl;have b1:Nat.ble i j=true:=by rw [xZZ];exact hi
 have b2:Nat.ble j a.length=true:=by rw [xZZ];exact hj
 simp only [vF,ht,hd,sv,uD,e1,e2,b1,b2,Bool.and_self,cond_true,qBC]
theorem aslice_s0 (ht:tb.get t=some te) (hd:te.d= .str) (a:List UInt8) {i:Nat} (hi:i<=a.length) {k:IntKind}:vF tb h t (sv a) (some (.val (.int k (i:Int)))) none=some (sv (a.drop i)):=by
 have e1:zU 0 (some (.val (.int k (i:Int))))=some i:=rfl;have e2:zU a.length none=some a.length:=rfl;have b1:Nat.ble i a.length=true:=by rw [xZZ];exact hi
 have b2:Nat.ble a.length a.length=true:=by rw [xZZ];exact Nat.le_refl _
 simp only [vF,ht,hd,sv,uD,e1,e2,b1,b2,Bool.and_self,cond_true,qBC,List.take_length]
theorem qDV {s d e:TypeId} {se de ee:TE} (hs:tb.get s=some se) (hds:se.d= .slice e) (hd:tb.get d=some de) (hdd:de.d= .str) (he:tb.get e=some ee) (hde:ee.d= .int .u8) {b:Nat} {l:List UInt8} {e':TypeId} (hb:h.t.get b=some (.cells (l.map fun x=> .val (.int .u8 (x.toNat:Int))) e')):
  yQ tb h s d (.sl b 0 l.length 1)=some (sv l):=by
 have ha: ∀l:List UInt8,gG (l.map fun x=> .val (.int .u8 (x.toNat:Int)))=some (l.map fun x=>(x.toNat:Int)):=by
  intro l;induction l with
  |nil=>rfl
  |cons x l ih=>simp only [List.map_cons,gG,ih]
 have b1:(Nat.beq 1 1 && Nat.ble (0+l.length) (l.map fun x=>AV.val (.int .u8 (x.toNat:Int))).length)=true:=by simp
 have e1:((l.map fun x=>AV.val (.int .u8 (x.toNat:Int))).drop 0).take l.length=l.map fun x=>AV.val (.int .u8 (x.toNat:Int)):=by
  rw [List.drop_zero];exact List.take_of_length_le (by simp)
 simp only [yQ,hs,hds,hd,hdd,he,hde,hb,b1,e1,ha,cond_true,sv,bs,List.map_map];have:(fun n:Int=>UInt8.ofNat n.toNat)∘(fun x:UInt8=>(x.toNat:Int))=id:=by funext x;simp
 rw [this,List.map_id]
theorem aconv_nil {s d e:TypeId} {se de ee:TE} (hs:tb.get s=some se) (hds:se.d= .slice e) (hd:tb.get d=some de) (hdd:de.d= .str) (he:tb.get e=some ee) (hde:ee.d= .int .u8) (n c:Nat):yQ tb h s d (.val (.slice none n c))=some (sv []):=by
 simp only [yQ,hs,hds,hd,hdd,he,hde];rfl
theorem qAk {s d:TypeId} {se de:TE} {k k':IntKind} (hs:tb.get s=some se) (hd:tb.get d=some de) (hdd:de.d= .int k) (n:Int):yQ tb h s d (.val (.int k' n))=some (.val (.int k (k.wrap n))):=by
 simp only [yQ,hs,hd,hdd]
theorem aoRange_s (ht:tb.get t=some te) (hd:te.d= .str) (a:List UInt8):bK tb h t (sv a)=some (.ptr h.n 0,h.new (.siter (bs a) 0)):=by
 simp only [bK,ht,hd,sv]
theorem qBF {b pos:Nat} {a:List UInt8} (hb:h.t.get b=some (.siter (bs a) pos)) (hp:pos<a.length):qAg h (.ptr b 0) true=some (.val (.tuple #[.bool true,.int .i64 (pos:Int),.int .i32 ((Utf8.decode (bs a) pos).1:Int)]),h.set b (.siter (bs a) (pos+(Utf8.decode (bs a) pos).2))):=by
 have b1:Nat.blt pos a.length=true:=by rw [Nat.blt_eq];exact hp
 simp only [qAg,qAy,hb,zK,b1,cond_true];rfl
theorem qBG {b pos:Nat} {a:List UInt8} (hb:h.t.get b=some (.siter (bs a) pos)) (hp:a.length<=pos):qAg h (.ptr b 0) true=some (.val (.tuple #[.bool false]),h):=by
 have b1:Nat.blt pos a.length=false:=by
  cases hq:Nat.blt pos a.length with
  |false=>rfl
  |true=>rw [Nat.blt_eq] at hq;omega
 simp only [qAg,qAy,hb,zK,b1,cond_true,cond_false]
end
theorem dec_ascii (a:List UInt8) (i:Nat) (hi:i<a.length) (hc:(a[i]).toNat<128):Utf8.decode (bs a) i=((a[i]).toNat,1):=by
 have e:((bs a).get! (i+0))=a[i]:=by simp [bs,ByteArray.get!,hi]
 unfold Utf8.decode;simp only [e];rw [if_pos hc]
theorem dec_else (a:List UInt8) (i:Nat) (hi:i<a.length) (hc:128<=(a[i]).toNat):128<=(Utf8.decode (bs a) i).1:=by
 have e:((bs a).get! (i+0))=a[i]:=by simp [bs,ByteArray.get!,hi]
 unfold Utf8.decode;simp only [e];rw [if_neg (by omega)];split
 ·split
  ·assumption
  ·simp [Utf8.runeError]
 ·split
  ·split
   ·rename_i hq;simp at hq;simp;omega
   ·simp [Utf8.runeError]
  ·split
   ·split
    ·rename_i hq;simp at hq;simp;omega
    ·simp [Utf8.runeError]
   ·simp [Utf8.runeError]
end Go.Ev
end
noncomputable section
namespace Go.Proofs.Kn
open Go Go.Ev
set_option maxRecDepth 100000
def xtI:Addr->Option Value:=fun a=>match a.block,a.off,a.spot with
 |1,i,none=>bif Nat.blt i 20 then some (.int .u64 ((10 ^ i:Nat):Int)) else none
 |_,_,_=>none
structure Lx (xt:Addr->Option Value):Prop where
 m: ∃m,xt ⟨0,0,none⟩=some (.int .i64 m)
 p: ∀a v,xtI a=some v->xt a=some v
def dg (n:Nat):UInt8:=UInt8.ofNat (48+n % 10)
def dec (n:Nat):List UInt8:=if n<10 then [dg n] else if n<100 then [dg (n / 10),dg n] else [dg (n / 100),dg (n / 10),dg n]
def bodyI:Code:=qAf Tryz.f88.body
theorem bodyI_is:Tryz.f88.body=some bodyI:=by kernel_rfl
def stI (n:Nat):St:={tm:=argsTo [.val (.int .i64 (n:Int))] 0 .e,nt:=5,h:={t:= .e,n:=0},mks:=[]}
def iFine (n:Nat) (o:Option (Ex×St)):Bool:=
 match o with
 |some (.ret,st)=>(match st.mks with
  |[]=>(match vU (E xtI) st.tm st.h Tryz.f88.results.toList with
   |some [.val (.string s)]=>s.data.toList==dec n
   |_=>false)
  |_=>false)
 |_=>false
theorem iFine_ok {n:Nat} {o:Option (Ex×St)} (h:iFine n o=true): ∃st,o=some (.ret,st)/\st.mks=[]/\vU (E xtI) st.tm st.h Tryz.f88.results.toList=some [sv (dec n)]:=by
 unfold iFine at h;split at h
 ·rename_i st;split at h
  ·rename_i hm;split at h
   ·rename_i s hr;refine ⟨st,rfl,hm,?_⟩;rw [hr,sv,<-beq_iff_eq.1 h,qCX]
   ·cases h
  ·cases h
 ·cases h
def iOk (n:Nat):Bool:=iFine n ((ev (E xtI) 100000 100).code none bodyI (stI n))
end Go.Proofs.Kn
end
namespace Go.Proofs.Kn
open Go Go.Ev
set_option maxRecDepth 100000
theorem i1:(List.range 100).all (fun i=>iOk (i+100))=true:=by kernel_rfl
theorem i2:(List.range 100).all (fun i=>iOk (i+200))=true:=by kernel_rfl
theorem i3:(List.range 100).all (fun i=>iOk (i+300))=true:=by kernel_rfl
end Go.Proofs.Kn
namespace Go.Proofs.Kn
open Go Go.Ev
set_option maxRecDepth 100000
theorem i4:(List.range 100).all (fun i=>iOk (i+400))=true:=by kernel_rfl
theorem i5:(List.range 100).all (fun i=>iOk (i+500))=true:=by kernel_rfl
theorem i6:(List.range 100).all (fun i=>iOk (i+600))=true:=by kernel_rfl
end Go.Proofs.Kn
namespace Go.Proofs.Kn
open Go Go.Ev
set_option maxRecDepth 100000
theorem i7:(List.range 100).all (fun i=>iOk (i+700))=true:=by kernel_rfl
theorem i8:(List.range 100).all (fun i=>iOk (i+800))=true:=by kernel_rfl
theorem i9:(List.range 100).all (fun i=>iOk (i+900))=true:=by kernel_rfl
end Go.Proofs.Kn
