/- MvL5, MvM1: texts in a row, joined by a program. -/
import Derived.Test.YtnmfblokfponlaaGreatDoorQW
import Derived.Test.YtnmfblokfponlaaGreatDoorQR
set_option linter.all false
open Bool renaming and_eq_true → xZZ, or_eq_false_iff → xZY, not_eq_false' → xZX, false_eq_true → xZW, not_eq_true' → xZU, not_eq_true → xZT
open List renaming any_eq_false → xZV
namespace Go.Proofs.Kn
open Go Go.Ev
set_option maxRecDepth 100000
set_option maxHeartbeats 4000000
theorem Mp.ok_rect {m:Mp} (h:m.ok=true):m.Rect:=fun l hl=>by
 simp only [Mp.ok,xZZ] at h;have:=List.all_eq_true.1 h.2.1 l hl;simp only [Mp.rowOk,xZZ] at this;have q1:(l.length:Int)=(m.cells.headD []).length:=by simpa [Mp.C] using this.1
 omega
theorem kH {x a b:Int}:inB x a b=true↔a<=x/\x<=b:=by simp [inB]
def Wk.tb (w:Wk) (q:Nat):Int×Int×Int:=w.ts.getD q (0,0,0)
def Wk.isT (w:Wk) (s:Int×Int×Int):Bool:=inB s.2.2 0 ((w.ts.length:Int) - 1)
structure Wk.Is (w:Wk):Prop where
 m:w.m.Is w.m.cells.length w.m.W
 rc:w.m.Rect
 t0:1<=w.ts.length
 t4:w.ts.length<=4
 k0:0<=w.kerf
 k5:w.kerf<=5
 ts: ∀t∈w.ts,(1<=t.1/\t.1<=3)/\(1<=t.2.1/\t.2.1<=60)/\1<=t.2.2/\t.2.2<=100
theorem Wk.ok_is {w:Wk} (h:w.ok=true):w.Is:=by
 simp only [Wk.ok,xZZ,xZU,xZV] at h;obtain ⟨h1,h2,h3,h4⟩:=h;rw [kH] at h2 h3;refine ⟨Mp.ok_is h1,Mp.ok_rect h1,by omega,by omega,h3.1,h3.2,fun t ht=> ?_⟩;have:=h4 t ht;simp only [xE,xZT,xZY,xZX,kH] at this;exact this
structure Tub (w:Wk) (q n:Nat) (th wo:Int):Prop where
 at_:w.ts[q]? =some ((n:Int),th,wo)
 tb:w.tb q=((n:Int),th,wo)
 n1:1<=n
 n3:n<=3
 h1:1<=th
 h60:th<=60
 w1:1<=wo
 w100:wo<=100
theorem Wk.Is.tub {w:Wk} (h:w.Is) {q:Nat} (hq:q<w.ts.length): ∃n th wo,Tub w q n th wo:=by
 have e:=List.getElem?_eq_getElem hq;obtain ⟨⟨a1,a2⟩,⟨a3,a4⟩,a5,a6⟩:=h.ts _ (List.getElem_mem hq);obtain ⟨⟨n,th,wo⟩,hx⟩: ∃t,w.ts[q]=t:=⟨_,rfl⟩;rw [hx] at e a1 a2 a3 a4 a5 a6;simp only at a1 a2 a3 a4 a5 a6;obtain ⟨k,rfl⟩: ∃k:Nat,n=k:=⟨n.toNat,by omega⟩;refine ⟨k,th,wo,e,?_,by omega,by omega,a3,a4,a5,a6⟩;simp only [Wk.tb,List.getD_eq_getElem?_getD,e,Option.getD_some]
theorem Wk.Is.tub' {w:Wk} (h:w.Is) {s:Int×Int×Int} (hs:w.isT s=true): ∃q n th wo,s.2.2=(q:Nat)/\Tub w q n th wo:=by
 rw [Wk.isT,kH] at hs;obtain ⟨n,th,wo,ht⟩:=h.tub (q:=s.2.2.toNat) (by omega);exact ⟨_,n,th,wo,by omega,ht⟩
def Wk.pcan (w:Wk) (s:Int×Int×Int):Bool:=w.m.pcan w.m.cells.length w.m.W (w.tb s.2.2.toNat).1.toNat s.1 s.2.1
def Wk.give (w:Wk) (t:Nat->Nat->Int) (s:Int×Int×Int):Int:=(zP t s.1.toNat s.2.1.toNat (w.tb s.2.2.toNat).1.toNat (w.tb s.2.2.toNat).1.toNat+w.kerf).tdiv ((w.tb s.2.2.toNat).2.1+w.kerf)
theorem Wk.pcan_in {w:Wk} {q n:Nat} {th wo:Int} (ht:Tub w q n th wo) {a b:Int} (h:w.pcan (a,b,(q:Int))=true): ∃r0 c0:Nat,a=r0/\b=c0/\r0+n<=w.m.cells.length/\c0+n<=w.m.W:=by
 simp only [Wk.pcan,Int.toNat_natCast,ht.tb,Mp.pcan,xZZ] at h;obtain ⟨h1,h2,_⟩:=h;rw [kH] at h1 h2;exact ⟨a.toNat,b.toNat,by omega,by omega,by omega,by omega⟩
theorem Wk.pcan_q {w:Wk} {q n:Nat} {th wo:Int} (ht:Tub w q n th wo) (a b:Int):w.pcan (a,b,(q:Int))=w.m.pcan w.m.cells.length w.m.W n a b:=by simp [Wk.pcan,ht.tb]
theorem Wk.give_q {w:Wk} {q n:Nat} {th wo:Int} (ht:Tub w q n th wo) (t:Nat->Nat->Int) (r0 c0:Nat):w.give t ((r0:Int),(c0:Int),(q:Int))=(zP t r0 c0 n n+w.kerf).tdiv (th+w.kerf):=by simp [Wk.give,ht.tb]
theorem bd43z:zU Kn.tb 43 []=some (.agg [iv 0,iv 0]):=by kernel_rfl
end Go.Proofs.Kn
namespace Go.Proofs.Kn
open Go Go.Ev
theorem is_rc {m:Mp} (hr:m.Rect) (r c:Int):m.is r c 2=decide (m.rc r c=2):=by
 rw [Mp.rc_in hr,Mp.is];cases m.inside r c<;>simp
theorem crkIn_iff {r0 c0 n:Nat} {k:Int×Int×Bool}:pW r0 c0 n k=true↔(((r0:Int)<=k.1/\k.1<=r0+(n - 1))/\(c0:Int)<=k.2.1/\k.2.1<=c0+(n - 1))/\((r0:Int)<=pM k/\pM k<=r0+(n - 1))/\(c0:Int)<=pN k/\pN k<=c0+(n - 1):=by
 simp only [pW,hasB,xZZ,kH]
theorem crk_iff {m:Mp} {r c:Int} {b:Bool}:m.crk r c b=true↔(r,c,b)∈m.ks:=by
 simp only [Mp.crk,List.any_eq_true,xZZ,decide_eq_true_eq];constructor
 ·rintro ⟨⟨x,y,z⟩,h1,rfl,rfl,rfl⟩;exact h1
 ·intro h;exact ⟨_,h,rfl,rfl,rfl⟩
theorem rcan_same {m:Mp} (hr:m.Rect) (R C n:Nat) (a b:Int) (hR:R<=100) (hC:C<=100):m.rcan R C n a b=m.pcan R C n a b:=by
 rw [Bool.eq_iff_iff];simp only [Mp.rcan,Mp.pcan,xZZ,x9,Mp.rcBad,xZU,xZY,Bool.and_eq_false_iff,decide_eq_false_iff_not,is_rc hr,xZV,crkIn_iff,xZX,decide_eq_true_eq];rw [kH,kH];have hc: ∀r c b,m.crk r c b=false↔(r,c,b) ∉ m.ks:=fun r c b=>by
  rw [<-crk_iff,xZT]
 simp only [hc];constructor
 ·rintro ⟨h1,h2,h3⟩;refine ⟨h1,h2,fun i hi j hj=>(h3 i hi j hj).1,?_⟩;rintro ⟨x,y,z⟩ hk ⟨⟨⟨p1,p2⟩,p3,p4⟩,⟨p5,p6⟩,p7,p8⟩;simp only at p1 p2 p3 p4;obtain ⟨i,rfl⟩: ∃i:Nat,x=((a.toNat+i:Nat):Int):=⟨(x - a.toNat).toNat,by omega⟩;obtain ⟨j,rfl⟩: ∃j:Nat,y=((b.toNat+j:Nat):Int):=⟨(y - b.toNat).toNat,by omega⟩;obtain ⟨_,q2,q3⟩:=h3 i (by omega) j (by omega);cases z with
  |true=>
   simp only [pM,pN,if_true] at p5 p6 p7 p8;rw [qN _ (by omega) (by omega)] at p5 p6;rcases q3 with q3|q3
   ·omega
   ·exact q3 hk
  |false=>
   simp only [pM,pN,xZW,if_false] at p5 p6 p7 p8;rw [qN _ (by omega) (by omega)] at p7 p8;rcases q2 with q2|q2
   ·omega
   ·exact q2 hk
 ·rintro ⟨h1,h2,h3,h4⟩;refine ⟨h1,h2,fun i hi j hj=>⟨h3 i hi j hj,?_,?_⟩⟩
  ·by_cases q:(((b.toNat+j:Nat):Int))+1<((b.toNat+n:Nat):Int)
   ·refine .inr fun hk=>h4 _ hk ?_;simp only [pM,pN,xZW,if_false];rw [qN _ (by omega) (by omega)];omega
   ·exact .inl q
  ·by_cases q:(((a.toNat+i:Nat):Int))+1<((a.toNat+n:Nat):Int)
   ·refine .inr fun hk=>h4 _ hk ?_;simp only [pM,pN,if_true];rw [qN _ (by omega) (by omega)];omega
   ·exact .inl q
end Go.Proofs.Kn
