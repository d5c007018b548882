/- Parts of the proof, joined by a program. -/
import Derived.Test.YtmklipblkmlojaaGreatDoorQE7
set_option linter.all false
open Nat renaming reduceEqDiff → rE, reduceLeDiff → rD, reduceAdd → rA, reduceMul → rM, reduceLT → rL
open Go.Ev.T renaming get_put → xZZ
open List renaming getElem?_eq_getElem → xZY, mem_cons_of_mem → xZX, mem_cons_self → xZV
open Nat renaming le_refl → xZW
namespace Go.Proofs.Kn
open Go Go.Ev
set_option maxRecDepth 100000
set_option maxHeartbeats 4000000
theorem tg40:tb.get 40=some te40:=by kernel_rfl
theorem cv35 (h:Hp) (n:Int):yD tb h 3 5 (iv n)=some (.val (.int .u8 (IntKind.u8.wrap n))):=hP tg3 tg5 rfl n
def ub (x:UInt8):AV:= .val (.int .u8 (x.toNat:Int))
theorem b40_1 (h:Hp) (x:Int):jA tb h 40 1 [(0,.val (.int .u8 x))]=some (.sl h.n 0 1 1,h.new (.cells [.val (.int .u8 x)] 5)):=by kernel_rfl
theorem cv409 (h:Hp) {b:Nat} {l:List UInt8} (hb:h.t.get b=some (.cells (l.map ub) 5)):yD tb h 40 9 (.sl b 0 l.length 1)=some (sv l):=qDz tg40 rfl tg9 rfl tg5 rfl hb
theorem wrap_u8 (x:Int) (h1:0<=x) (h2:x<256):IntKind.u8.wrap x=x:=by
 simp only [IntKind.wrap,IntKind.bits,IntKind.signed];simp;omega
theorem dg_nat (n:Nat):((dg n).toNat:Int)=48+((n % 10:Nat):Int):=by
 have:(dg n).toNat=48+n % 10:=by
  rw [dg,UInt8.toNat_ofNat'];have:n % 10<10:=Nat.mod_lt _ (by omega);omega
 rw [this];omega
theorem qBX {n:Nat} (h:n<10):dec n=[dg n]:=by simp [dec,h]
theorem qDl {n:Nat} (h:10<=n) (h2:n<1000):dec n=dec (n / 10)++[dg n]:=by
 unfold dec;rw [if_neg (by omega)];by_cases h3:n<100
 ·rw [if_pos h3,if_pos (by omega)];rfl
 ·rw [if_neg h3,if_neg (by omega),if_pos (by omega)];have e:n / 10 / 10=n / 100:=by rw [Nat.div_div_eq_div_mul]
  rw [e];rfl
theorem ft41s (xt:Addr->Option Value):(SE xt).ft.get 41=some Tryz.f41:=by kernel_rfl
theorem res41s:Tryz.f41.results.toList=[.tmp 2]:=by kernel_rfl
theorem qCz {n:Nat}:IntKind.i64.wrap (48+((n % 10:Nat):Int))=48+((n % 10:Nat):Int)/\IntKind.u8.wrap (48+((n % 10:Nat):Int))=((dg n).toNat:Int):=by
 have:n % 10<10:=Nat.mod_lt _ (by omega);rw [dg_nat];exact ⟨jF _ (by omega) (by omega),wrap_u8 _ (by omega) (by omega)⟩
theorem wY (xt:Addr->Option Value) (h:Hp) (n:Nat) (hn3:n<1000) {K:CR->Hp->Prop} (hk: ∀k,h.n<k->K (.ret (sv (dec n))) (h.up k)):FnA (SE xt) 41 [iv n] h K:=by
 refine FnA.calm ?_ hk;clear hk K;refine FnA.walk (sok xt) (ft41s xt) rfl 23 rfl ?_;have rm:=fun (ox oy:Operand) (n:Nat)=>(xM (P:=Tryz.prog) (t:=3) (ox:=ox) (oy:=oy) (n:Int) 10 (by omega)).trans (by rw [show ((n:Nat):Int).tmod 10=((n % 10:Nat):Int) from rfl]);have cv1: ∀(h:Hp) (n:Nat),yD tb (h.new (.cells [.val (.int .u8 ((dg n).toNat:Int))] 5)) 40 9 (.sl h.n 0 1 1)=some (sv [dg n]):=fun h n=>cv409 _ (l:=[dg n]) (jI _ _);refine qA fun K hn hp=> ?_;simp only [sw.1,rE,reduceIte,rL,rA,rM,rD,svn.down,syw.1];apply hn;refine qA fun K hn hp=> ?_;simp only [sw.1,rE,reduceIte,rL,rA,rM,rD,svn.down,syw.1,rm,(qCz (n:=n)).1,(qCz (n:=n)).2,qG,cv35,b40_1,cv1];apply hn;obtain ⟨h1,hh1⟩: ∃h1:Hp,h1=h.new (.cells [.val (.int .u8 ((dg n).toNat:Int))] 5):=⟨_,rfl⟩;rw [<-hh1];have nh1:h1.n=h.n+1:=by rw [hh1];rfl
 have sh1:h1.t.get h.n=some (.cells [.val (.int .u8 ((dg n).toNat:Int))] 5):=by rw [hh1];exact jI _ _
 have kh1: ∀k,k<h.n->h1.t.get k=h.t.get k:=fun k hk=>by rw [hh1];exact zY _ _ hk
 have fbh1:Fr h.n h h1:=by rw [hh1];exact (Fr.refl (xZW _)).new _
 have fh1:=fbh1;refine qJ fun KA A1 A2 A3 A4 A5=> ?_;refine qX (sok xt) (fun st=> ∃(m:Nat) (hg:Hp) (w:List UInt8) (tm:T AV),st=⟨tm,23,hg,[]⟩/\m<1000/\w.length<=100000 - m/\tm.get 0=some (iv m)/\tm.get 3=some (sv w)/\Fr h.n h hg/\dec n=(if m<10 then [] else dec (m / 10))++w) (fun st=>match st.tm.get 0 with|some (.val (.int _ x))=>x.toNat|_=>0) ?_ ?_
 ·rintro st ⟨m,hg,w,tm,rfl,hm,hw,g0,g3,fg,hd⟩;have q:decide ((10:Int)<=(m:Int))=decide (10<=m):=decide_eq_decide.2 ⟨fun h=>by omega,fun h=>by omega⟩;refine qI ?_;refine qA fun K hn hp=> ?_;simp only [sw.1,rE,reduceIte,rL,rA,rM,rD,svn.down,syw.1,sh1,nh1,g0,q];apply hn;by_cases h10:10<=m
  ·refine qF true (by simp only [sw.1,rE,reduceIte,rL,rA,rM,rD,svn.down,syw.1,sh1,nh1,h10]) (fun _=> ?_) (fun hx=>by cases hx);refine qT ?_;refine zS fun K2 e1 e2 e3 e4 e5=> ?_;have dv:=fun (ox oy:Operand)=>(wM (P:=Tryz.prog) (t:=3) (ox:=ox) (oy:=oy) (m:Int) 10 (by omega)).trans (by rw [show ((m:Nat):Int).tdiv 10=((m / 10:Nat):Int) from rfl,jF ((m / 10:Nat):Int) (by omega) (by omega)]);refine qA fun K hn hp=> ?_;simp only [sw.1,rE,reduceIte,rL,rA,rM,rD,svn.down,syw.1,sh1,nh1,g0,dv];apply hn;have cat:=fun (ox oy:Operand)=>kH (P:=Tryz.prog) (tb:=tb) (t:=9) (ox:=ox) (oy:=oy) [dg (m / 10)] w (by simp;omega);refine reg fun K hn hp=> ?_;simp only [sw.1,rE,reduceIte,rL,rA,rM,rD,svn.down,syw.1,sh1,nh1,g3,rm,(qCz (n:=m / 10)).1,(qCz (n:=m / 10)).2,qG,cv35,b40_1,cv1,cat];apply hn;refine e1 _ ⟨⟨m / 10,_,dg (m / 10)::w,_,rfl,by omega,?_,by simp [xZZ],by simp [xZZ],fg.new _,?_⟩,?_⟩
   ·simp;omega
   ·rw [hd,if_neg (by omega)];by_cases h3:m / 10<10
    ·rw [if_pos h3,qBX h3];simp
    ·rw [if_neg h3,qDl (by omega) (by omega)];simp
   ·simp [xZZ,g0];omega
  ·refine qF false (by simp only [sw.1,rE,reduceIte,rL,rA,rM,rD,svn.down,syw.1,sh1,nh1,h10]) (fun hx=>by cases hx) (fun _=> ?_);refine qW (A2 _ ?_);refine qA fun K hn hp=> ?_;simp only [sw.1,rE,reduceIte,rL,rA,rM,rD,svn.down,syw.1,sh1,nh1,g3];apply hn;refine qO (jE res41s ⟨?_,fg⟩);rw [hd,if_pos (by omega)];simp [xZZ]
 ·refine ⟨n,h1,[dg n],_,rfl,hn3,by simp;omega,by simp [xZZ,argsTo],by simp [xZZ],fh1,?_⟩;by_cases h3:n<10
  ·rw [if_pos h3,qBX h3];simp
  ·rw [if_neg h3,qDl (by omega) hn3]
end Go.Proofs.Kn
namespace Go.Proofs.Kn
open Go Go.Ev
set_option maxRecDepth 100000
set_option maxHeartbeats 4000000
theorem ft40s (xt:Addr->Option Value):(SE xt).ft.get 40=some Tryz.f40:=by kernel_rfl
theorem res40s:Tryz.f40.results.toList=[.tmp 2]:=by kernel_rfl
def zJ (l:List Int):List UInt8:=l.flatMap fun x=>32::dec x.toNat
theorem qCQ (l:List Int) (x:Int):zJ (l++[x])=zJ l++[32]++dec x.toNat:=by simp [zJ]
theorem vR: ∀l:List Int,(zJ l).length<=l.length*4
 |[]=>by simp [zJ]
 |x::l=>by
  have:=vR l;have h2:=vY x.toNat;simp only [zJ,List.flatMap_cons,List.length_append,List.length_cons] at this ⊢;omega
theorem uI (xt:Addr->Option Value) (h:Hp) (v:AV) (N:Nat) (l:List Int) (o:OwnSl h N 1 3 v l.length (l.map iv)) (h1:l.length<=1000) (hl: ∀x∈l,jT x) {K:CR->Hp->Prop} (hk: ∀n,h.n<n->K (.ret (sv (zJ l))) (h.up n)):FnA (SE xt) 40 [v] h K:=by
 refine FnA.calm ?_ hk;clear hk K;refine FnA.walk (sok xt) (ft40s xt) rfl 20 rfl ?_;have hlen:=fun h'=>o.len (tb:=tb) xV rfl (h':=h');have ov:=o.one;refine qA fun K hn hp=> ?_;simp only [sw.1,rE,reduceIte,rL,rA,rM,rD,svn.down,syw.1,hlen];apply hn;clear hn hp K;refine qA fun K hn hp=> ?_;simp only [sw.1,rE,reduceIte,rL,rA,rM,rD,svn.down,syw.1,hlen];apply hn;clear hn hp K;refine qI ?_;refine qA fun K hn hp=> ?_;simp only [sw.1,rE,reduceIte,rL,rA,rM,rD,svn.down,syw.1,hlen];apply hn;clear hn hp K;refine qJ fun KA A1 A2 A3 A4 A5=> ?_;refine qX (sok xt) (fun st=> ∃(k:Nat) (hg:Hp) (tm:T AV),st=⟨tm,20,hg,[]⟩/\k<=l.length/\tm.get 0=some (v)/\tm.get 3=some (sv (zJ (l.take k)))/\tm.get 4=some (iv k)/\Fr h.n h hg) (fun st=>l.length - (match st.tm.get 4 with|some (.val (.int _ n))=>n.toNat|_=>0)) ?_ ?_
 ·rintro st ⟨k,hg,tm,rfl,hkA,g0,g3,g4,fg⟩;have muA:=g4;have q:decide ((k:Int)<(l.length:Int))=decide (k<l.length):=qH _ _;refine qI ?_;refine qA fun K hn hp=> ?_;simp only [sw.1,rE,reduceIte,rL,rA,rM,rD,svn.down,syw.1,hlen,g0,g3,g4,q];apply hn;clear hn hp K;by_cases hlt:k<l.length
  ·refine qF true (by simp only [sw.1,rE,reduceIte,rL,rA,rM,rD,svn.down,syw.1,hlen,g0,g3,g4,hlt]) (fun _=> ?_) (fun hx=>by cases hx);refine qT ?_;refine qJ fun K2 e1 e2 e3 e4 e5=> ?_;obtain ⟨b,i1,i2,i3,i4,i5⟩:=(o.fr fg (xZW _)).idx xV rfl tg3 rfl hlt (k:= .i64);obtain ⟨hx0,hx1⟩:=hl _ (List.getElem_mem hlt);obtain ⟨n,hn⟩: ∃n:Nat,l[k]=(n:Int):=⟨(l[k]).toNat,by omega⟩;have hld:jU (hg.t.get b) (k*1)=some (iv n):=by
    rw [i4,zL,Nat.mul_one,List.getElem?_map,xZY hlt,hn];rfl
   have hwl:=vR (l.take k);rw [List.length_take] at hwl;have hdl:=vY n;obtain ⟨W,hW⟩: ∃W,W=zJ (l.take k):=⟨_,rfl⟩;obtain ⟨W1,hW1⟩: ∃W1,W1=W++[32]:=⟨_,rfl⟩;have c1: ∀(ox oy:Operand),vC Tryz.prog tb .add 9 ox oy (sv W) (sv [32])=some (sv W1):=fun ox oy=>by rw [hW1];exact kH _ _ (by rw [hW];simp;omega)
   have hs:zJ (l.take (k+1))=W1++dec n:=by rw [List.take_succ,xZY hlt,hn];simp only [Option.toList_some];rw [qCQ,hW1,hW];rfl
   have c2: ∀(ox oy:Operand),vC Tryz.prog tb .add 9 ox oy (sv W1) (sv (dec n))=some (sv (zJ (l.take (k+1)))):=fun ox oy=>by rw [hs];exact kH _ _ (by rw [hW1,hW];simp;omega)
   rw [<-hW] at g3;refine reg fun K hn' hp=> ?_;simp only [sw.1,rE,reduceIte,rL,rA,rM,rD,svn.down,syw.1,hlen,g0,g3,g4,c1,i1,hld];refine qB (sok xt) (wY xt hg n (by omega) fun n1 hn1=> ?_);simp only [sw.1,rE,reduceIte,rL,rA,rM,rD,svn.down,syw.1,hlen,g0,g3,g4,c2];refine hn' _ _ (e1 _ ?_);clear hn' hp K;have w1:=qY hlt (by omega);refine reg fun K hn hp=> ?_;simp only [sw.1,rE,reduceIte,rL,rA,rM,rD,svn.down,syw.1,hlen,g0,g3,g4,w1];apply hn;clear hn hp K;refine ⟨⟨k+1,hg.up n1,_,rfl,by omega,(by simp [xZZ,g0,g3,g4]),(by simp [xZZ,g0,g3,g4]),(by simp [xZZ,g0,g3,g4]),fg.up (Nat.le_of_lt hn1)⟩,by simpa [xZZ,muA] using (by omega:l.length - (k+1)<l.length - k)⟩
  ·have hkl:k=l.length:=by omega
   subst hkl;rw [List.take_length] at g3;refine qF false (by simp only [sw.1,rE,reduceIte,rL,rA,rM,rD,svn.down,syw.1,hlen,g0,g3,g4,hlt]) (fun hx=>by cases hx) (fun _=> ?_);refine qW (A2 _ ?_);refine qA fun K hn hp=> ?_;simp only [sw.1,rE,reduceIte,rL,rA,rM,rD,svn.down,syw.1,hlen,g0,g3,g4];apply hn;clear hn hp K;refine qO (jE res40s ⟨?_,fg⟩);simp [xZZ]
 ·exact ⟨0,h,_,rfl,by omega,by simp [xZZ,argsTo],by simp [xZZ,zJ],by simp [xZZ],Fr.refl (xZW _)⟩
theorem spl_end (c:UInt8): ∀(l:List UInt8),c ∉ l->spl c l=[l]
 |[],_=>rfl
 |x::l,h=>by
  have h1: ¬x=c:=fun e=>h (by rw [e];exact xZV);have ih:=spl_end c l fun hc=>h (xZX _ hc);simp only [spl,if_neg h1,ih,pre1]
theorem spl_cut (c:UInt8): ∀(a l:List UInt8),c ∉ a->spl c (a++c::l)=a::spl c l
 |[],l,_=>by simp [spl]
 |x::a,l,h=>by
  have h1: ¬x=c:=fun e=>h (by rw [e];exact xZV);have ih:=spl_cut c a l fun hc=>h (xZX _ hc);simp only [List.cons_append,spl,if_neg h1,ih,pre1]
end Go.Proofs.Kn
namespace Go.Proofs.Kn
open Go Go.Ev
set_option maxRecDepth 100000
set_option maxHeartbeats 4000000
def xE:List (List UInt8)->Option (List Int)
 |[]=>some []
 |x::xs=>match uQ x with
  |none=>none
  |some n=>(xE xs).map ((n:Int):: ·)
end Go.Proofs.Kn
