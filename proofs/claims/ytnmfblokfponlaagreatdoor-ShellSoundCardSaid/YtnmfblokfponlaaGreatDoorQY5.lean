/- MvP8, MvP9: texts in a row, joined by a program. -/
import Derived.Test.YtnmfblokfponlaaGreatDoorQY3
import Derived.Test.YtnmfblokfponlaaGreatDoorQN2
import Derived.Test.YtnmfblokfponlaaGreatDoorQY4
set_option linter.all false
namespace Go.Proofs.Kn
open Go Go.Ev
set_option maxRecDepth 100000
set_option maxHeartbeats 4000000
structure Wk.Bd (w:Wk) (xt:Addr->Option Value) (h:Hp) (N M:Nat) (v:AV) (G:Th.Grid):Prop where
 at_:w.At xt h
 sg:SG h N M v w.m.cells.length w.m.W G
 hM:M<=h.n
theorem Wk.Bd.fr {w:Wk} {xt:Addr->Option Value} {h h':Hp} {N M:Nat} {v:AV} {G:Th.Grid} (a:w.Bd xt h N M v G) {n:Nat} (f:Fr n h h') (hn:h.n<=n):w.Bd xt h' N M v G:=⟨a.at_.fr f hn,a.sg.fr f (Nat.le_trans a.hM hn),Nat.le_trans a.hM f.le⟩
def Wk.lv (w:Wk) (G:Th.Grid) (s:Int×Int×Int):Int:=(w.tb s.2.2.toNat).2.2*w.give (gLo G) s
def Wk.sel (w:Wk) (wd:Nat) (s:Int×Int×Int):Bool:=decide ((w.tb s.2.2.toNat).1=(wd:Int)) && w.pcan s
theorem Wk.Is.lv_bd {w:Wk} (his:w.Is) {G:Th.Grid} (hb:w.m.bnd=some G) {s:Int×Int×Int} (hs:w.Blk s):0<=w.lv G s/\w.lv G s<=6500:=by
 have hpos:=bI his.m hb;have g1:=wN his (fun r c _ _=>(hpos r c).1) hs;obtain ⟨r0,c0,q,n,th,wo,rfl,ht,hrn,hcn⟩:=hs;have w1:=ht.w1;have w2:=ht.w100;simp only [Wk.lv,Int.toNat_natCast,ht.tb];have p1:0<=wo*w.give (gLo G) ((r0:Int),(c0:Int),(q:Int)):=Int.mul_nonneg (by omega) g1.1;have p2:wo*w.give (gLo G) ((r0:Int),(c0:Int),(q:Int))<=100*65:=Int.mul_le_mul w2 g1.2 g1.1 (by omega);exact ⟨p1,p2⟩
end Go.Proofs.Kn
namespace Go.Proofs.Kn
open Go Go.Ev
set_option maxRecDepth 100000
set_option maxHeartbeats 4000000
structure CgAt (xt:Addr->Option Value) (Own:Nat->Prop) (h:Hp) (z:AV) (l:List (Int×Int×Int)):Prop where
 cuts:Cuts xt h z l
 inn:Inn z
 av: ∀b off n s,z= .sl b off n s-> ¬Own b
theorem CgAt.keep {xt:Addr->Option Value} {Own:Nat->Prop} {h h':Hp} {z:AV} {l:List (Int×Int×Int)} (a:CgAt xt Own h z l) (hn:h.n<=h'.n) (hk: ∀b,b<h.n-> ¬Own b->h'.t.get b=h.t.get b):CgAt xt Own h' z l:=
 ⟨⟨a.cuts.row.keepB hn fun b off n s e hb=>hk b hb (a.av b off n s e),a.cuts.lt,a.cuts.cap⟩,a.inn,a.av⟩
theorem CgAt.more {xt:Addr->Option Value} {Own:Nat->Prop} {h:Hp} {z:AV} {l:List (Int×Int×Int)} (a:CgAt xt Own h z l) (X:Nat->Prop) (hX: ∀b,X b->h.n<=b):CgAt xt (fun b=>Own b\/X b) h z l:=
 ⟨a.cuts,a.inn,fun b off n s e=>by
  rintro (h1|h1)
  ·exact a.av b off n s e h1
  ·have:=a.cuts.row.lt e;have:=hX b h1;omega⟩
theorem CgAt.less {xt:Addr->Option Value} {Own Own':Nat->Prop} {h:Hp} {z:AV} {l:List (Int×Int×Int)} (a:CgAt xt Own h z l) (hO: ∀b,Own' b->Own b):CgAt xt Own' h z l:=⟨a.cuts,a.inn,fun b off n s e hb=>a.av b off n s e (hO b hb)⟩
theorem CgAt.nil {xt:Addr->Option Value} {Own:Nat->Prop} {h:Hp}:CgAt xt Own h (.val (.slice none 0 0)) []:=⟨Cuts.nil,fun _ _ _ e=>(by cases e),fun _ _ _ _ e _=>(by cases e)⟩
def MI (xt:Addr->Option Value) (Own:Nat->Prop) (h:Hp) (P:Int->Cg) (l:Mem):Prop:= ∀e∈l,CgAt xt Own h e.2.1 e.2.2.1/\e.2.2=P e.1
theorem MI.keep {xt:Addr->Option Value} {Own:Nat->Prop} {h h':Hp} {P:Int->Cg} {l:Mem} (a:MI xt Own h P l) (hn:h.n<=h'.n) (hk: ∀b,b<h.n-> ¬Own b->h'.t.get b=h.t.get b):MI xt Own h' P l:=fun e he=>⟨(a e he).1.keep hn hk,(a e he).2⟩
theorem MI.more {xt:Addr->Option Value} {Own:Nat->Prop} {h:Hp} {P:Int->Cg} {l:Mem} (a:MI xt Own h P l) (X:Nat->Prop) (hX: ∀b,X b->h.n<=b):MI xt (fun b=>Own b\/X b) h P l:=fun e he=>⟨(a e he).1.more X hX,(a e he).2⟩
theorem MI.less {xt:Addr->Option Value} {Own Own':Nat->Prop} {h:Hp} {P:Int->Cg} {l:Mem} (a:MI xt Own h P l) (hO: ∀b,Own' b->Own b):MI xt Own' h P l:=fun e he=>⟨(a e he).1.less hO,(a e he).2⟩
abbrev slv (b:Nat):AV:= .fn (.func 190) [] [.ptr b 0,.ptr (b+5) 0,.ptr (b+6) 0,.ptr (b+1) 0,.ptr (b+2) 0]
structure BEnv (w:Wk) (hb:Hp) (v:AV) (row wd:Nat) (h:Hp):Prop where
 fr:Fr hb.n hb h
 q1:h.t.get hb.n=some (.cells (w.bc v) 121)
 q4:h.t.get (hb.n+1)=some (.cells [iv (row:Int)] 3)
 q5:h.t.get (hb.n+2)=some (.cells [iv (wd:Int)] 3)
 q2:h.t.get (hb.n+5)=some (.cells [.mp (hb.n+4)] 240)
 q3:h.t.get (hb.n+6)=some (.cells [slv hb.n] 126)
 lt:hb.n+7<=h.n
end Go.Proofs.Kn
