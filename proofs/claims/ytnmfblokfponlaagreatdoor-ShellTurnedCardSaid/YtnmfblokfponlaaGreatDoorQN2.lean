/- MvN5, MvN6, MvN7, MvN8: texts in a row, joined by a program. -/
import Derived.Test.YtnmfblokfponlaaGreatDoorQN1
set_option linter.all false
namespace Go.Proofs.Kn
open Go Go.Ev
set_option maxRecDepth 100000
set_option maxHeartbeats 4000000
def Wk.Blk (w:Wk) (s:Int×Int×Int):Prop:= ∃(r0 c0 q n:Nat) (th wo:Int),s=((r0:Int),(c0:Int),(q:Int))/\Tub w q n th wo/\r0+n<=w.m.cells.length/\c0+n<=w.m.W
theorem Wk.Blk.isT {w:Wk} {s:Int×Int×Int} (h:w.Blk s):w.isT s=true:=by
 obtain ⟨r0,c0,q,n,th,wo,rfl,ht,_,_⟩:=h;have:=(List.getElem?_eq_some_iff.1 ht.at_).1;rw [Wk.isT,kZ];simp only;omega
theorem give_bd {w:Wk} (his:w.Is) {t:Nat->Nat->Int} (hpos: ∀r c,r<w.m.cells.length->c<w.m.W->0<=t r c) {s:Int×Int×Int} (h:w.Blk s):0<=w.give t s/\w.give t s<=65:=by
 obtain ⟨r0,c0,q,n,th,wo,rfl,ht,h1,h2⟩:=h;rw [Wk.give_q ht];have k0:=his.k0;have k5:=his.k5;have t1:=ht.h1;have b1:=xY t r0 c0 n n;have b2:0<=zX t r0 c0 n n:=xZ (by omega) n fun i hi j hj=>hpos _ _ (by omega) (by omega);have e5:(zX t r0 c0 n n+w.kerf).tdiv (th+w.kerf)=(zX t r0 c0 n n+w.kerf) / (th+w.kerf):=Int.tdiv_eq_ediv_of_nonneg (by omega);have e6:=Int.ediv_nonneg (a:=zX t r0 c0 n n+w.kerf) (b:=th+w.kerf) (by omega) (by omega);have e7:=Int.ediv_le_self (th+w.kerf) (show 0<=zX t r0 c0 n n+w.kerf by omega);omega
end Go.Proofs.Kn
namespace Go.Proofs.Kn
open Go Go.Ev
set_option maxRecDepth 100000
set_option maxHeartbeats 4000000
end Go.Proofs.Kn
namespace Go.Proofs.Kn
open Go Go.Ev
set_option maxRecDepth 100000
set_option maxHeartbeats 4000000
theorem bnd_pos {m:Mp} (hm:m.Is m.cells.length m.W) {G:Th.Grid} (hb:m.bnd=some G) (r c:Nat):0<=(G r c).1/\0<=(G r c).2:=by
 obtain ⟨_,hok,hsub,_⟩:=qBR hm hb;have q1:=hsub r c;have q2:=hok r c;have:0<=(m.F0 r c).1:=by simp only [Mp.F0];split<;>simp
 omega
end Go.Proofs.Kn
namespace Go.Proofs.Kn
open Go Go.Ev
set_option maxRecDepth 100000
set_option maxHeartbeats 4000000
def Wk.fit (w:Wk) (ls:List (Int×Int×Int)) (g:Gr):Bool:=w.ok && (w.cut ls && (g.shape w.m && fitsB w.m g))
def Wk.run (w:Wk) (ls:List (Int×Int×Int)) (g:Gr):Int×Int:=if w.fit ls g=true then (w.worth (w.give g.t) ls,0) else (0,2)
end Go.Proofs.Kn
