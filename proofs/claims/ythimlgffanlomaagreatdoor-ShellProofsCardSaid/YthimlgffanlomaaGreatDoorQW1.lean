/- Parts. -/
import Derived.Test.YthimlgffanlomaaGreatDoorQN2
import Derived.Test.YthimlgffanlomaaGreatDoorQY3
import Derived.Test.YthimlgffanlomaaGreatDoorQY9
set_option linter.all false
namespace Go.Proofs.Kn
open Go Go.Ev
set_option maxRecDepth 100000
set_option maxHeartbeats 4000000
def hasP (l:List (Int×Int)) (r c:Int):Bool:=l.any fun p=>decide (r=p.1) && decide (c=p.2)
structure Plc (xt:Xt) (h:Hp) (v:AV) (l:List (Int×Int)):Prop where
 row:RowAt xt h 2 v (l.map p2)
 lt:l.length<=9223372036854775807
theorem Plc.fr {xt:Xt} {h h':Hp} {v:AV} {l:List (Int×Int)} (a:Plc xt h v l) {n:Nat} (f:Fr n h h') (hn:h.n<=n):Plc xt h' v l:=⟨a.row.fr f hn,a.lt⟩
theorem Plc.up {xt:Xt} {h:Hp} {v:AV} {l:List (Int×Int)} (a:Plc xt h v l) {n:Nat} (hn:h.n<=n):Plc xt (h.up n) v l:=⟨a.row.up hn,a.lt⟩
theorem Plc.len {xt:Xt} {h:Hp} {v:AV} {l:List (Int×Int)} (a:Plc xt h v l) (h':Hp):zI tb h' 25 v=some l.length:=by
 have:=a.row.len (h':=h') tg25 rfl;simpa using this
def Mp.bare (m:Mp) (r c:Int):Bool:=m.is r c 2 && !hasP m.ps r c
set_option maxHeartbeats 4000000
set_option maxHeartbeats 4000000
def Wk.hit1 (w:Wk) (s:Int×Int×Int) (p:Int×Int):Bool:=hasB s.1.toNat s.2.1.toNat (w.tb s.2.2.toNat).1.toNat p.1 p.2
def Wk.hit (w:Wk) (hs:List (Int×Int)) (s:Int×Int×Int):Bool:=hs.any (w.hit1 s)
def Wk.left (w:Wk) (hs:List (Int×Int)) (ls:List (Int×Int×Int)):List (Int×Int×Int):=ls.filter fun s=> !w.hit hs s
end Go.Proofs.Kn
