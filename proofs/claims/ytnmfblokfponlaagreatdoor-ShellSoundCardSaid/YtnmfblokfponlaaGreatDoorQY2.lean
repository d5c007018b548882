/- MvP1, MvQ1, MvQ2, MvQ3: texts in a row, joined by a program. -/
import Derived.Test.YtnmfblokfponlaaGreatDoorQN1
import Derived.Test.YtnmfblokfponlaaGreatDoorQW
set_option linter.all false
open List renaming getElem?_eq_some_iff → xZZ, getElem?_map → xZY
namespace Go.Proofs.Kn
open Go Go.Ev
set_option maxRecDepth 100000
set_option maxHeartbeats 4000000
def cmpI (a b:Int):Int:=if a<b then -1 else if b<a then 1 else 0
def orL:List Int->Int
 |[]=>0
 |x::l=>if x=0 then orL l else x
def bef (a b:Int×Int×Int):Int:=orL [cmpI a.1 b.1,cmpI a.2.1 b.2.1,cmpI a.2.2 b.2.2]
end Go.Proofs.Kn
namespace Go.Proofs.Kn
open Go Go.Ev
set_option maxRecDepth 100000
set_option maxHeartbeats 4000000
theorem gM (l:List Int):(ivs l).length=l.length:=by simp [ivs]
end Go.Proofs.Kn
namespace Go.Proofs.Kn
open Go Go.Ev
set_option maxRecDepth 100000
set_option maxHeartbeats 4000000
def bl (n:Nat):Int:=if n=1 then 1 else if n=4 then 3 else 2
end Go.Proofs.Kn
namespace Go.Proofs.Kn
open Go Go.Ev
set_option maxRecDepth 100000
set_option maxHeartbeats 4000000
theorem hi75 (h:Hp) (b n k:Nat) (hk:k<=n):zU tb h 75 (.sl b 0 n 1) none (some (iv (k:Int)))=some (.sl b 0 k 1):=by
 have:zU tb h 75 (.sl b 0 n 1) none (some (iv (k:Int)))=bif Nat.ble 0 k && (Nat.ble k n && Nat.beq 1 1) then some (.sl b (0+0*1) (k - 0) 1) else none:=by kernel_rfl
 rw [this,show Nat.ble k n=true by rw [Nat.ble_eq];exact hk,show Nat.ble 0 k=true by rw [Nat.ble_eq];omega];simp
theorem row_take {xt:Addr->Option Value} {h:Hp} {b k:Nat} {cs:List AV} {l:List Int} (hb:h.t.get b=some (.cells cs 3)) (hbn:b<h.n) (hl:l.length=k) (hk:k<=cs.length) (ht:cs.take k=ivs l):RowAt xt h 1 (.sl b 0 k 1) (l.map Kn.c1):=by
 refine ⟨fun c hc=>by obtain ⟨x,_,rfl⟩:=List.mem_map.1 hc;rfl,by omega,.inr (.inr ⟨b,0,cs,3,by simp [hl],⟨hbn,by simp [hl];exact hk,hb⟩,fun i c hi j u hu=> ?_⟩)⟩;rw [xZY,Option.map_eq_some_iff] at hi;obtain ⟨x,hx,rfl⟩:=hi;have hil:=(xZZ.1 hx).1;have hj:j=0:=by have:=(xZZ.1 hu).1;simp [Kn.c1] at this;omega
 subst hj;simp only [Kn.c1,List.getElem?_cons_zero,Option.some.injEq] at hu;subst hu;have e1:(ivs l)[i]? =some (iv x):=by rw [ivs,xZY,hx];rfl
 rw [<-ht,List.getElem?_take,if_pos (by omega)] at e1;simpa using e1
end Go.Proofs.Kn
