/- MvL5, MvM1: texts in a row, joined by a program. -/
import Derived.Test.YtnmfblokfponlaaGreatDoorQW
import Derived.Test.YtnmfblokfponlaaGreatDoorQR
set_option linter.all false
open Bool renaming and_eq_true → xZZ
namespace Go.Proofs.Kn
open Go Go.Ev
set_option maxRecDepth 100000
set_option maxHeartbeats 4000000
theorem Mp.ok_rect {m:Mp} (h:m.ok=true):m.Rect:=fun l hl=>by
 simp only [Mp.ok,xZZ] at h;have:=List.all_eq_true.1 h.2.1 l hl;simp only [Mp.rowOk,xZZ] at this;have q1:(l.length:Int)=(m.cells.headD []).length:=by simpa [Mp.C] using this.1
 omega
theorem kZ {x a b:Int}:inB x a b=true↔a<=x/\x<=b:=by simp [inB]
def Wk.tb (w:Wk) (q:Nat):Int×Int×Int:=w.ts.getD q (0,0,0)
def Wk.isT (w:Wk) (s:Int×Int×Int):Bool:=inB s.2.2 0 ((w.ts.length:Int) - 1)
structure Wk.Is (w:Wk):Prop where
 m:w.m.Is w.m.cells.length w.m.W
 rc:w.m.Rect
 t0:1<=w.ts.length
 t4:w.ts.length<=4
 k0:0<=w.kerf
 k5:w.kerf<=5
 ts: ∀t∈w.ts,(1<=t.1/\t.1<=3)/\(1<=t.2.1/\t.2.1<=60)/\1<=t.2.2/\t.2.2<=100
theorem Wk.ok_is {w:Wk} (h:w.ok=true):w.Is:=by
 simp only [Wk.ok,xZZ,Bool.not_eq_true',List.any_eq_false] at h;obtain ⟨h1,h2,h3,h4⟩:=h;rw [kZ] at h2 h3;refine ⟨Mp.ok_is h1,Mp.ok_rect h1,by omega,by omega,h3.1,h3.2,fun t ht=> ?_⟩;have:=h4 t ht;simp only [xC,Bool.not_eq_true,Bool.or_eq_false_iff,Bool.not_eq_false',kZ] at this;exact this
structure Tub (w:Wk) (q n:Nat) (th wo:Int):Prop where
 at_:w.ts[q]? =some ((n:Int),th,wo)
 tb:w.tb q=((n:Int),th,wo)
 n1:1<=n
 n3:n<=3
 h1:1<=th
 h60:th<=60
 w1:1<=wo
 w100:wo<=100
theorem Wk.Is.tub {w:Wk} (h:w.Is) {q:Nat} (hq:q<w.ts.length): ∃n th wo,Tub w q n th wo:=by
 have e:=List.getElem?_eq_getElem hq;obtain ⟨⟨a1,a2⟩,⟨a3,a4⟩,a5,a6⟩:=h.ts _ (List.getElem_mem hq);obtain ⟨⟨n,th,wo⟩,hx⟩: ∃t,w.ts[q]=t:=⟨_,rfl⟩;rw [hx] at e a1 a2 a3 a4 a5 a6;simp only at a1 a2 a3 a4 a5 a6;obtain ⟨k,rfl⟩: ∃k:Nat,n=k:=⟨n.toNat,by omega⟩;refine ⟨k,th,wo,e,?_,by omega,by omega,a3,a4,a5,a6⟩;simp only [Wk.tb,List.getD_eq_getElem?_getD,e,Option.getD_some]
theorem Wk.Is.tub' {w:Wk} (h:w.Is) {s:Int×Int×Int} (hs:w.isT s=true): ∃q n th wo,s.2.2=(q:Nat)/\Tub w q n th wo:=by
 rw [Wk.isT,kZ] at hs;obtain ⟨n,th,wo,ht⟩:=h.tub (q:=s.2.2.toNat) (by omega);exact ⟨_,n,th,wo,by omega,ht⟩
def Wk.pcan (w:Wk) (s:Int×Int×Int):Bool:=w.m.pcan w.m.cells.length w.m.W (w.tb s.2.2.toNat).1.toNat s.1 s.2.1
def Wk.give (w:Wk) (t:Nat->Nat->Int) (s:Int×Int×Int):Int:=(zX t s.1.toNat s.2.1.toNat (w.tb s.2.2.toNat).1.toNat (w.tb s.2.2.toNat).1.toNat+w.kerf).tdiv ((w.tb s.2.2.toNat).2.1+w.kerf)
theorem Wk.pcan_in {w:Wk} {q n:Nat} {th wo:Int} (ht:Tub w q n th wo) {a b:Int} (h:w.pcan (a,b,(q:Int))=true): ∃r0 c0:Nat,a=r0/\b=c0/\r0+n<=w.m.cells.length/\c0+n<=w.m.W:=by
 simp only [Wk.pcan,Int.toNat_natCast,ht.tb,Mp.pcan,xZZ] at h;obtain ⟨h1,h2,_⟩:=h;rw [kZ] at h1 h2;exact ⟨a.toNat,b.toNat,by omega,by omega,by omega,by omega⟩
theorem Wk.pcan_q {w:Wk} {q n:Nat} {th wo:Int} (ht:Tub w q n th wo) (a b:Int):w.pcan (a,b,(q:Int))=w.m.pcan w.m.cells.length w.m.W n a b:=by simp [Wk.pcan,ht.tb]
theorem Wk.give_q {w:Wk} {q n:Nat} {th wo:Int} (ht:Tub w q n th wo) (t:Nat->Nat->Int) (r0 c0:Nat):w.give t ((r0:Int),(c0:Int),(q:Int))=(zX t r0 c0 n n+w.kerf).tdiv (th+w.kerf):=by simp [Wk.give,ht.tb]
end Go.Proofs.Kn
namespace Go.Proofs.Kn
open Go Go.Ev
theorem is_rc {m:Mp} (hr:m.Rect) (r c:Int):m.is r c 2=decide (m.rc r c=2):=by
 rw [Mp.rc_in hr,Mp.is];cases m.inside r c<;>simp
end Go.Proofs.Kn
