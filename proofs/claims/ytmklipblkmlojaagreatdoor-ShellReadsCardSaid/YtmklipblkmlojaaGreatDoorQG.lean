/- Parts of the proof, joined by a program. -/
import Derived.Test.YtmklipblkmlojaaGreatDoorQF
set_option linter.all false
open Nat renaming reduceEqDiff → rE, reduceLeDiff → rD, reduceAdd → rA, reduceMul → rM, reduceLT → rL
open Bool renaming false_and → xZZ, true_and → xZW, not_false → xZS, and_false → xZR, not_true → xZP
open Go.Ev.T renaming get_put → xZY
open Go.Ev.Hp renaming up_up → xZX, up_n → xZT
open List renaming mem_map → xZV, any_map → xZU, getElem?_eq_getElem → xZQ, mem_of_getElem? → xZO
namespace Go.Proofs.Kn
open Go Go.Ev
set_option maxRecDepth 100000
theorem ft83 (xt:Addr->Option Value):(SE xt).ft.get 30=some Tryz.f30:=by kernel_rfl
theorem res83:Tryz.f30.results.toList=[.tmp 2]:=by kernel_rfl
def Mp.rowOk (m:Mp) (l:List Int):Bool:=decide ((l.length:Int)=m.C) && (inB l.length 1 8 && !l.any zZ)
def Mp.restOk (m:Mp):Bool:=inB m.T 0 9 && (inB m.H 0 3 && (decide ((m.gs.length:Int)<=8) && (decide ((m.ks.length:Int)<=8) && (decide ((m.ps.length:Int)<=12) && (!m.gs.any m.badG && (!m.ks.any m.badK && !m.ps.any (fun p=> !m.is p.1 p.2 2)))))))
def Mp.ok (m:Mp):Bool:=inB m.R 1 6 && (m.cells.all m.rowOk && m.restOk)
theorem kind_asks (xt:Addr->Option Value) (h:Hp) (l:List Int):xJ (SE xt) h (.val (.func (.func 75) #[] #[])) (fun c=> .val (c.headD default)) (l.map c1) (fun c=>match c with|[.int _ x]=>zZ x|_=>false):=by
 intro n c K hn hc hk;obtain ⟨x,_,rfl⟩:=xZV.1 hc;exact qE (sok xt) (bkind_c xt _ x fun n' hn'=>by have:=hk n' hn';rw [xZX];exact this)
theorem qC4 (l:List Int):((l.map c1).any fun c=>match c with|[.int _ x]=>zZ x|_=>false)=l.any zZ:=by
 rw [xZU];rfl
theorem gs_asks (xt:Addr->Option Value) (h:Hp) (m:Mp) (ha:m.At xt h) (hr:m.Rect) (b:Nat) (hb:b<h.n) (q0:h.t.get b=some (.cells m.cs 27)):xJ (SE xt) h (.fn (.func 77) [] [.ptr b 0]) (fun c=> .agg (c.map .val)) (m.gs.map g4) (fun c=>match c with|[.int _ x,.int _ y,.int _ z,.int _ w]=>m.badG (x,y,z,w)|_=>false):=by
 intro n c K hn hc hk;obtain ⟨g,_,rfl⟩:=xZV.1 hc;exact bG (sok xt) (badG_c xt _ m (ha.up hn) hr b (by simp;omega) q0 g fun n' hn'=>by have:=hk n' hn';rw [xZX];exact this)
theorem ks_asks (xt:Addr->Option Value) (h:Hp) (m:Mp) (ha:m.At xt h) (b:Nat) (hb:b<h.n) (q0:h.t.get b=some (.cells m.cs 27)):xJ (SE xt) h (.fn (.func 81) [] [.ptr b 0]) (fun c=> .agg (c.map .val)) (m.ks.map k3) (fun c=>match c with|[.int _ x,.int _ y,.bool z]=>m.badK (x,y,z)|_=>false):=by
 intro n c K hn hc hk;obtain ⟨g,_,rfl⟩:=xZV.1 hc;exact bG (sok xt) (badK_c xt _ m (ha.up hn) b (by simp;omega) q0 g fun n' hn'=>by have:=hk n' hn';rw [xZX];exact this)
theorem ps_asks (xt:Addr->Option Value) (h:Hp) (m:Mp) (ha:m.At xt h) (hr:m.Rect) (b:Nat) (hb:b<h.n) (q0:h.t.get b=some (.cells m.cs 27)):xJ (SE xt) h (.fn (.func 84) [] [.ptr b 0]) (fun c=> .agg (c.map .val)) (m.ps.map p2) (fun c=>match c with|[.int _ x,.int _ y]=> !m.is x y 2|_=>false):=by
 intro n c K hn hc hk;obtain ⟨g,_,rfl⟩:=xZV.1 hc;exact bG (sok xt) (badP_c xt _ m (ha.up hn) hr b (by simp;omega) q0 g fun n' hn'=>by have:=hk n' hn';rw [xZX];exact this)
theorem any_gs (m:Mp):((m.gs.map g4).any fun c=>match c with|[.int _ x,.int _ y,.int _ z,.int _ w]=>m.badG (x,y,z,w)|_=>false)=m.gs.any m.badG:=by
 rw [xZU];rfl
theorem any_ks (m:Mp):((m.ks.map k3).any fun c=>match c with|[.int _ x,.int _ y,.bool z]=>m.badK (x,y,z)|_=>false)=m.ks.any m.badK:=by
 rw [xZU];rfl
theorem any_ps (m:Mp):((m.ps.map p2).any fun c=>match c with|[.int _ x,.int _ y]=> !m.is x y 2|_=>false)=m.ps.any (fun p=> !m.is p.1 p.2 2):=by
 rw [xZU];rfl
theorem isMap_c (xt:Addr->Option Value) (h:Hp) (m:Mp) (ha:m.At xt h) {K:CR->Hp->Prop} (hk: ∀n,h.n<n->K (.ret (.val (.bool m.ok))) (h.up n)):FnA (SE xt) 30 [m.av] h K:=by
 refine FnA.calm ?_ hk;clear hk K;refine FnA.walk (sok xt) (ft83 xt) rfl 83 rfl ?_;have one1:=ha.cells.one;have one2:=ha.gs.one;have one3:=ha.ks.one;have one4:=ha.ps.one;have hlen:=ha.len;have hlc:=ha.lc;refine qA fun K hn hp=> ?_;simp only [sw.1,rE,reduceIte,rL,rA,rM,rD];apply hn;clear hn hp K;obtain ⟨h1,hh1⟩: ∃h1:Hp,h1=h.new (.cells m.cs 27):=⟨_,rfl⟩;rw [<-hh1];have ha1:m.At xt h1:=by rw [hh1];exact ha.new _
 have n1:h1.n=h.n+1:=by rw [hh1];rfl
 have f1:Fr h.n h h1:=by rw [hh1];exact (Fr.refl (Nat.le_refl _)).new _
 have q2:h1.t.get h.n=some (.cells m.cs 27):=by rw [hh1,Hp.new_t,xZY,if_pos rfl]
 have retF: ∀(n:Nat) (tm:T AV),h1.n<=n->tm.get 2=some (.val (.bool false))->m.ok=false->wU (SE xt) Tryz.f30 (fun r h'=>r= .ret (.val (.bool m.ok))/\Fr h.n h h') .ret ⟨tm,83,h1.up n,[]⟩:=fun n tm hn g hm=>jF res83 ⟨by simp [g,hm],f1.up hn⟩;refine qG ?_;refine qA fun K1 hn hp=> ?_;simp only [sw.1,rE,reduceIte,rL,rA,rM,rD,q2,hlen];refine qE (sok xt) (in_c xt _ _ _ _ fun m1 hm1=> ?_);have hm1:=Nat.le_of_lt hm1;cases e1:(decide ((1:Int)<=m.cells.length) && decide ((m.cells.length:Int)<=6))
 ·simp only [sw.1,rE,reduceIte,rL,rA,rM,rD,e1];apply hn;clear hn hp K1;refine qF true (by simp only [sw.1,rE,reduceIte,rL,rA,rM,rD]) (fun _=> ?_) (fun hx=>by cases hx);refine qG ?_;refine qA fun K hn hp=> ?_;simp only [sw.1,rE,reduceIte,rL,rA,rM,rD];apply hn;clear hn hp K;refine jI (retF _ _ hm1 (by simp [xZY]) (by have e2:inB m.R 1 6=false:=e1;simp only [Mp.ok,e2,xZZ]))
 simp only [sw.1,rE,reduceIte,rL,rA,rM,rD,e1];apply hn;clear hn hp K1;refine qF false (by simp only [sw.1,rE,reduceIte,rL,rA,rM,rD]) (fun hx=>by cases hx) (fun _=> ?_);refine qN ?_;refine qG ?_;refine qA fun K hn hp=> ?_;simp only [sw.1,rE,reduceIte,rL,rA,rM,rD,q2,hlen];apply hn;clear hn hp K;refine qI fun K k1 k2 k3 k4 k5=> ?_;have hR:m.R=m.cells.length:=rfl;have hpos:0<m.cells.length:=by
  obtain ⟨z1,_⟩:=Bool.and_eq_true_iff.1 e1;have z1:=of_decide_eq_true z1;omega
 obtain ⟨l0,hl0⟩: ∃l,m.cells[0]? =some l:=⟨_,xZQ hpos⟩;have hC:m.C=l0.length:=by
  simp only [Mp.C];cases hm:m.cells with
  |nil=>rw [hm] at hl0;simp at hl0
  |cons x y=>rw [hm] at hl0;simp at hl0;subst hl0;rfl
 refine qY (sok xt) (fun st=> ∃(k n:Nat) (tm:T AV),st=⟨tm,83,h1.up n,[]⟩/\h1.n<=n/\k<=m.cells.length/\(∀l∈m.cells.take k,m.rowOk l=true)/\tm.get 1=some (.ptr h.n 0)/\tm.get 11=some m.vc/\tm.get 12=some (iv m.cells.length)/\tm.get 13=some (iv k))
  (fun st=>m.cells.length - (match st.tm.get 13 with|some (.val (.int _ n))=>n.toNat|_=>0)) ?_ ?_
 ·rintro st ⟨k,n,tm,rfl,hn1,hk,hall,g1,g11,g12,g13⟩;have ht:(decide ((k:Int)<(m.cells.length:Int)))=decide (k<m.cells.length):=by simp
  refine qA fun K hn hp=> ?_;simp only [sw.1,rE,reduceIte,rL,rA,rM,rD,g12,g13];apply hn;clear hn hp K;by_cases hlt:k<m.cells.length
  ·obtain ⟨l,hl⟩: ∃l,m.cells[k]? =some l:=⟨_,xZQ hlt⟩;obtain ⟨v,i1,i2,i3,i4⟩:=(ha1.up hn1).row hl;obtain ⟨v0,j1,j2,j3,j4⟩:=(ha1.up hn1).row hl0;have i1:=i1 .i64;have j1:=j1 .i64;simp only [Int.natCast_zero,Int.ofNat_eq_natCast] at j1;have q3:(h1.up n).t.get h.n=some (.cells m.cs 27):=q2;have ov:=i3.one;refine qF true (by simp only [sw.1,rE,reduceIte,rL,rA,rM,rD,ht,hlt]) (fun _=> ?_) (fun hx=>by cases hx);refine qN ?_;refine qI fun K' k1' k2' k3' k4' k5'=> ?_;refine qA fun K hn hp=> ?_;simp only [sw.1,rE,reduceIte,rL,rA,rM,rD,g11,g13,i1,i2];apply hn;clear hn hp K;have bad: ∀(tm':T AV) (n':Nat),h1.n<=n'->tm'.get 2=some (.val (.bool false))->m.rowOk l=false->K' .ret ⟨tm',83,h1.up n',[]⟩:=fun tm' n' hn' g hb=>k4' _ (k4 _ (retF n' tm' hn' g (by
    have:m.cells.all m.rowOk=false:=by
     rw [List.all_eq_false];exact ⟨l,xZO hl,by simp [hb]⟩
    simp only [Mp.ok,this,xZZ,xZR])))
   by_cases w1:(l.length:Int)=m.C
   rotate_left
   ·refine qA fun K hn hp=> ?_;simp only [sw.1,rE,reduceIte,rL,rA,rM,rD,g1,q2,i4,j1,j2,j4,hC.symm,decide_eq_false w1];apply hn;clear hn hp K;refine qQ true (by simp only [sw.1,rE,reduceIte,rL,rA,rM,rD]) (fun _=> ?_) (fun hx=>by cases hx);refine qA fun K hn hp=> ?_;simp only [sw.1,rE,reduceIte,rL,rA,rM,rD];apply hn;clear hn hp K;refine qR (bad _ n hn1 (by simp [xZY]) (by simp only [Mp.rowOk,decide_eq_false w1,xZZ]))
   refine qA fun K1 hn hp=> ?_;simp only [sw.1,rE,reduceIte,rL,rA,rM,rD,g1,q2,i4,j1,j2,j4,hC.symm,decide_eq_true w1];refine qE (sok xt) (in_c xt _ _ _ _ fun n2 hn2=> ?_);simp only [xZT] at hn2;cases w2:(decide ((1:Int)<=l.length) && decide ((l.length:Int)<=8))
   ·simp only [sw.1,rE,reduceIte,rL,rA,rM,rD,w2,xZX];apply hn;clear hn hp K1;refine qQ true (by simp only [sw.1,rE,reduceIte,rL,rA,rM,rD]) (fun _=> ?_) (fun hx=>by cases hx);refine qA fun K hn hp=> ?_;simp only [sw.1,rE,reduceIte,rL,rA,rM,rD];apply hn;clear hn hp K;refine qR (bad _ n2 (by omega) (by simp [xZY]) (by have e2:inB l.length 1 8=false:=w2;simp only [Mp.rowOk,e2,xZZ,xZR]))
   simp only [sw.1,rE,reduceIte,rL,rA,rM,rD,w2,xZX];refine qE (sok xt) (any149_c xt _ v _ _ _ (i3.up (by simp;omega)) (by have:=ha.lr l (xZO hl);simpa using this) (kind_asks xt _ l) fun n3 hn3=> ?_);simp only [xZT] at hn3;rw [qC4];cases w3:l.any zZ
   rotate_left
   ·simp only [sw.1,rE,reduceIte,rL,rA,rM,rD,w3,xZX];apply hn;clear hn hp K1;refine qQ true (by simp only [sw.1,rE,reduceIte,rL,rA,rM,rD]) (fun _=> ?_) (fun hx=>by cases hx);refine qA fun K hn hp=> ?_;simp only [sw.1,rE,reduceIte,rL,rA,rM,rD];apply hn;clear hn hp K;refine qR (bad _ n3 (by omega) (by simp [xZY]) (by simp only [Mp.rowOk,w3,xZP,xZR]))
   simp only [sw.1,rE,reduceIte,rL,rA,rM,rD,w3,xZX];apply hn;clear hn hp K1;refine qQ false (by simp only [sw.1,rE,reduceIte,rL,rA,rM,rD]) (fun hx=>by cases hx) (fun _=> ?_);refine jO (k1' _ ?_);refine reg fun K1 hn hp=> ?_;have hw:IntKind.i64.wrap ((k:Int)+1)=((k+1:Nat):Int):=by rw [jA _ (by omega) (by omega)];simp
   simp only [sw.1,rE,reduceIte,rL,rA,rM,rD,g13,hw];apply hn;refine ⟨⟨k+1,n3,_,rfl,by omega,hlt,fun x hx=> ?_,?_,?_,?_,?_⟩,?_⟩
   ·rw [List.take_succ,hl] at hx;simp only [Option.toList_some,List.mem_append,List.mem_singleton] at hx;rcases hx with hx|rfl
    ·exact hall x hx
    ·have e2:inB x.length 1 8=true:=w2;simp only [Mp.rowOk,decide_eq_true w1,e2,w3,xZS,Bool.and_true]
   ·simp [xZY,g1]
   ·simp [xZY,g11]
   ·simp [xZY,g12]
   ·simp [xZY]
   ·have hm:m.cells.length - (k+1)<m.cells.length - k:=by omega
    simpa [xZY,g13] using hm
  ·refine qF false (by simp only [sw.1,rE,reduceIte,rL,rA,rM,rD,ht,hlt]) (fun hx=>by cases hx) (fun _=> ?_);refine qX (k2 _ ?_);have hkk:k=m.cells.length:=by omega
   subst hkk;rw [List.take_length] at hall;have hcell:m.cells.all m.rowOk=true:=List.all_eq_true.2 hall;have hrect:m.Rect:=fun l hl=>by
    have:=hall l hl;simp only [Mp.rowOk,Bool.and_eq_true,decide_eq_true_eq] at this;have h2:=this.1;rw [Mp.C] at h2;omega
   have e1':inB m.R 1 6=true:=e1;have hok:m.ok=m.restOk:=by simp only [Mp.ok,e1',hcell,xZW]
   have hlg:=fun h'=>(ha.gs).len (h':=h') wK rfl;have hlk:=fun h'=>(ha.ks).len (h':=h') wJ rfl;have hlp:=fun h'=>(ha.ps).len (h':=h') wI rfl;simp only [List.length_map] at hlg hlk hlp;have fin: ∀(n':Nat) (tm':T AV) (v:Bool),h1.n<=n'->tm'.get 2=some (.val (.bool v))->m.restOk=v->wU (SE xt) Tryz.f30 (fun r h'=>r= .ret (.val (.bool m.ok))/\Fr h.n h h') .ret ⟨tm',83,h1.up n',[]⟩:=fun n' tm' v hn' g hv=>jF res83 ⟨by simp [g,hok,hv],f1.up hn'⟩;refine qA fun K1 hn hp=> ?_;simp only [sw.1,rE,reduceIte,rL,rA,rM,rD,g1,q2];refine qE (sok xt) (in_c xt _ _ _ _ fun n2 hn2=> ?_);simp only [xZT] at hn2;cases w1:(decide (0<=m.T) && decide (m.T<=9))
   ·simp only [sw.1,rE,reduceIte,rL,rA,rM,rD,w1,xZX];refine hn _ _ (qR (fin _ _ false (by omega) (by simp [xZY]) (by have e2:inB m.T 0 9=false:=w1;simp only [Mp.restOk,e2,xZZ])))
   have e2:inB m.T 0 9=true:=w1;simp only [sw.1,rE,reduceIte,rL,rA,rM,rD,w1,g1,q2,xZX];refine qE (sok xt) (in_c xt _ _ _ _ fun n3 hn3=> ?_);simp only [xZT] at hn3;cases w2:(decide (0<=m.H) && decide (m.H<=3))
   ·simp only [sw.1,rE,reduceIte,rL,rA,rM,rD,w2,xZX];refine hn _ _ (qR (fin _ _ false (by omega) (by simp [xZY]) (by have e3:inB m.H 0 3=false:=w2;simp only [Mp.restOk,e2,e3,xZZ,xZW])))
   have e3:inB m.H 0 3=true:=w2;cases w3:decide ((m.gs.length:Int)<=8)
   ·simp only [sw.1,rE,reduceIte,rL,rA,rM,rD,w2,w3,g1,q2,hlg,xZX];refine hn _ _ (qR (fin _ _ false (by omega) (by simp [xZY]) (by simp only [Mp.restOk,e2,e3,w3,xZZ,xZW])))
   cases w4:decide ((m.ks.length:Int)<=8)
   ·simp only [sw.1,rE,reduceIte,rL,rA,rM,rD,w2,w3,w4,g1,q2,hlg,hlk,xZX];refine hn _ _ (qR (fin _ _ false (by omega) (by simp [xZY]) (by simp only [Mp.restOk,e2,e3,w3,w4,xZZ,xZW])))
   cases w5:decide ((m.ps.length:Int)<=12)
   ·simp only [sw.1,rE,reduceIte,rL,rA,rM,rD,w2,w3,w4,w5,g1,q2,hlg,hlk,hlp,xZX];refine hn _ _ (qR (fin _ _ false (by omega) (by simp [xZY]) (by simp only [Mp.restOk,e2,e3,w3,w4,w5,xZZ,xZW])))
   simp only [sw.1,rE,reduceIte,rL,rA,rM,rD,w2,w3,w4,w5,g1,q2,hlg,hlk,hlp,xZX];refine qE (sok xt) (any151_c xt _ _ _ _ _ (ha1.up (n:=n3) (by omega)).gs (by simpa using ha.lg) (gs_asks xt _ m (ha1.up (by omega)) hrect h.n (by simp;omega) q2) fun n4 hn4=> ?_);simp only [xZT] at hn4;rw [any_gs];cases w6:m.gs.any m.badG
   rotate_left
   ·simp only [sw.1,rE,reduceIte,rL,rA,rM,rD,w6,xZX];refine hn _ _ (qR (fin _ _ false (by omega) (by simp [xZY]) (by simp only [Mp.restOk,e2,e3,w3,w4,w5,w6,xZP,xZZ,xZW])))
   simp only [sw.1,rE,reduceIte,rL,rA,rM,rD,w6,g1,q2,xZX];refine qE (sok xt) (any155_c xt _ _ _ _ _ (ha1.up (n:=n4) (by omega)).ks (by simpa using ha.lk) (ks_asks xt _ m (ha1.up (by omega)) h.n (by simp;omega) q2) fun n5 hn5=> ?_);simp only [xZT] at hn5;rw [any_ks];cases w7:m.ks.any m.badK
   rotate_left
   ·simp only [sw.1,rE,reduceIte,rL,rA,rM,rD,w7,xZX];refine hn _ _ (qR (fin _ _ false (by omega) (by simp [xZY]) (by simp only [Mp.restOk,e2,e3,w3,w4,w5,w6,w7,xZP,xZS,xZZ,xZW])))
   simp only [sw.1,rE,reduceIte,rL,rA,rM,rD,w7,g1,q2,xZX];refine qE (sok xt) (any92_c xt _ _ _ _ _ (ha1.up (n:=n5) (by omega)).ps (by simpa using ha.lp) (ps_asks xt _ m (ha1.up (by omega)) hrect h.n (by simp;omega) q2) fun n6 hn6=> ?_);simp only [xZT] at hn6;rw [any_ps];simp only [sw.1,rE,reduceIte,rL,rA,rM,rD,xZX];refine hn _ _ (qR (fin _ _ (!m.ps.any fun p=> !m.is p.1 p.2 2) (by omega) (by simp [xZY]) (by simp only [Mp.restOk,e2,e3,w3,w4,w5,w6,w7,xZS,xZW])))
 ·refine ⟨0,m1,_,rfl,hm1,Nat.zero_le _,by simp,?_,?_,?_,?_⟩;all_goals simp [xZY]
end Go.Proofs.Kn
namespace Go.Proofs.Kn
open Go Go.Ev
set_option maxRecDepth 100000
theorem wnt_d {b:Bool}:wnt b (some default)=false:=rfl
end Go.Proofs.Kn
