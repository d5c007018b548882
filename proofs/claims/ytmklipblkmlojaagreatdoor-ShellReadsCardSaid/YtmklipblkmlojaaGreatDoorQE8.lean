/- Parts of the proof, joined by a program. -/
import Derived.Test.YtmklipblkmlojaaGreatDoorQE7
set_option linter.all false
open Nat renaming reduceEqDiff → rE, reduceLeDiff → rD, reduceAdd → rA, reduceMul → rM, reduceLT → rL
open Go.Ev.T renaming get_put → xZZ
open Nat renaming le_refl → xZY, le_of_lt → xZV
open List renaming getElem?_eq_getElem → xZX, length_take → xZW, take_length → xZT, getElem_mem → xZS, drop_append_of_le_length → xZR, take_succ → xZP, drop_eq_getElem_cons → xZO, mem_cons_of_mem → xZM, mem_cons_self → xZL, getElem?_map → xZK
open Go.Ev.Fr renaming refl → xZU
open Bool renaming and_eq_true → xZQ
open Go.Ev.FnA renaming walk → xZN
namespace Go.Proofs.Kn
open Go Go.Ev
set_option maxRecDepth 100000
set_option maxHeartbeats 4000000
theorem tg40:tb.get 40=some te40:=by kernel_rfl
theorem cv35 (h:Hp) (n:Int):yQ tb h 3 5 (iv n)=some (.val (.int .u8 (IntKind.u8.wrap n))):=qAk tg3 tg5 rfl n
def ub (x:UInt8):AV:= .val (.int .u8 (x.toNat:Int))
theorem b40_1 (h:Hp) (x:Int):jB tb h 40 1 [(0,.val (.int .u8 x))]=some (.sl h.n 0 1 1,h.new (.cells [.val (.int .u8 x)] 5)):=by kernel_rfl
theorem cv409 (h:Hp) {b:Nat} {l:List UInt8} (hb:h.t.get b=some (.cells (l.map ub) 5)):yQ tb h 40 9 (.sl b 0 l.length 1)=some (sv l):=qDV tg40 rfl tg9 rfl tg5 rfl hb
theorem wrap_u8 (x:Int) (h1:0<=x) (h2:x<256):IntKind.u8.wrap x=x:=by
 simp only [IntKind.wrap,IntKind.bits,IntKind.signed];simp;omega
theorem dg_nat (n:Nat):((dg n).toNat:Int)=48+((n % 10:Nat):Int):=by
 have:(dg n).toNat=48+n % 10:=by
  rw [dg,UInt8.toNat_ofNat'];have:n % 10<10:=Nat.mod_lt _ (by omega);omega
 rw [this];omega
theorem qCh {n:Nat} (h:n<10):dec n=[dg n]:=by simp [dec,h]
theorem qDH {n:Nat} (h:10<=n) (h2:n<1000):dec n=dec (n / 10)++[dg n]:=by
 unfold dec;rw [if_neg (by omega)];by_cases h3:n<100
 ·rw [if_pos h3,if_pos (by omega)];rfl
 ·rw [if_neg h3,if_neg (by omega),if_pos (by omega)];have e:n / 10 / 10=n / 100:=by rw [Nat.div_div_eq_div_mul]
  rw [e];rfl
theorem ft41s (xt:Addr->Option Value):(SE xt).ft.get 41=some Tryz.f41:=by kernel_rfl
theorem res41s:Tryz.f41.results.toList=[.tmp 2]:=by kernel_rfl
theorem qCW {n:Nat}:IntKind.i64.wrap (48+((n % 10:Nat):Int))=48+((n % 10:Nat):Int)/\IntKind.u8.wrap (48+((n % 10:Nat):Int))=((dg n).toNat:Int):=by
 have:n % 10<10:=Nat.mod_lt _ (by omega);rw [dg_nat];exact ⟨jA _ (by omega) (by omega),wrap_u8 _ (by omega) (by omega)⟩
theorem uT (xt:Addr->Option Value) (h:Hp) (n:Nat) (hn3:n<1000) {K:CR->Hp->Prop} (hk: ∀k,h.n<k->K (.ret (sv (dec n))) (h.up k)):FnA (SE xt) 41 [iv n] h K:=by
 refine FnA.calm ?_ hk;clear hk K;refine xZN (sok xt) (ft41s xt) rfl 23 rfl ?_;have rm:=fun (ox oy:Operand) (n:Nat)=>(x5 (P:=Tryz.prog) (t:=3) (ox:=ox) (oy:=oy) (n:Int) 10 (by omega)).trans (by rw [show ((n:Nat):Int).tmod 10=((n % 10:Nat):Int) from rfl]);have cv1: ∀(h:Hp) (n:Nat),yQ tb (h.new (.cells [.val (.int .u8 ((dg n).toNat:Int))] 5)) 40 9 (.sl h.n 0 1 1)=some (sv [dg n]):=fun h n=>cv409 _ (l:=[dg n]) (jG _ _);refine qA fun K hn hp=> ?_;simp only [sw.1,rE,reduceIte,rL,rA,rM,rD,svn.down,syw.1];apply hn;refine qA fun K hn hp=> ?_;simp only [sw.1,rE,reduceIte,rL,rA,rM,rD,svn.down,syw.1,rm,(qCW (n:=n)).1,(qCW (n:=n)).2,qH,cv35,b40_1,cv1];apply hn;obtain ⟨h1,hh1⟩: ∃h1:Hp,h1=h.new (.cells [.val (.int .u8 ((dg n).toNat:Int))] 5):=⟨_,rfl⟩;rw [<-hh1];have nh1:h1.n=h.n+1:=by rw [hh1];rfl
 have sh1:h1.t.get h.n=some (.cells [.val (.int .u8 ((dg n).toNat:Int))] 5):=by rw [hh1];exact jG _ _
 have kh1: ∀k,k<h.n->h1.t.get k=h.t.get k:=fun k hk=>by rw [hh1];exact zW _ _ hk
 have fbh1:Fr h.n h h1:=by rw [hh1];exact (xZU (xZY _)).new _
 have fh1:=fbh1;refine qI fun KA A1 A2 A3 A4 A5=> ?_;refine qY (sok xt) (fun st=> ∃(m:Nat) (hg:Hp) (w:List UInt8) (tm:T AV),st=⟨tm,23,hg,[]⟩/\m<1000/\w.length<=100000 - m/\tm.get 0=some (iv m)/\tm.get 3=some (sv w)/\Fr h.n h hg/\dec n=(if m<10 then [] else dec (m / 10))++w) (fun st=>match st.tm.get 0 with|some (.val (.int _ x))=>x.toNat|_=>0) ?_ ?_
 ·rintro st ⟨m,hg,w,tm,rfl,hm,hw,g0,g3,fg,hd⟩;have q:decide ((10:Int)<=(m:Int))=decide (10<=m):=decide_eq_decide.2 ⟨fun h=>by omega,fun h=>by omega⟩;refine qG ?_;refine qA fun K hn hp=> ?_;simp only [sw.1,rE,reduceIte,rL,rA,rM,rD,svn.down,syw.1,sh1,nh1,g0,q];apply hn;by_cases h10:10<=m
  ·refine qF true (by simp only [sw.1,rE,reduceIte,rL,rA,rM,rD,svn.down,syw.1,sh1,nh1,h10]) (fun _=> ?_) (fun hx=>by cases hx);refine qN ?_;refine zQ fun K2 e1 e2 e3 e4 e5=> ?_;have dv:=fun (ox oy:Operand)=>(wZ (P:=Tryz.prog) (t:=3) (ox:=ox) (oy:=oy) (m:Int) 10 (by omega)).trans (by rw [show ((m:Nat):Int).tdiv 10=((m / 10:Nat):Int) from rfl,jA ((m / 10:Nat):Int) (by omega) (by omega)]);refine qA fun K hn hp=> ?_;simp only [sw.1,rE,reduceIte,rL,rA,rM,rD,svn.down,syw.1,sh1,nh1,g0,dv];apply hn;have cat:=fun (ox oy:Operand)=>kY (P:=Tryz.prog) (tb:=tb) (t:=9) (ox:=ox) (oy:=oy) [dg (m / 10)] w (by simp;omega);refine reg fun K hn hp=> ?_;simp only [sw.1,rE,reduceIte,rL,rA,rM,rD,svn.down,syw.1,sh1,nh1,g3,rm,(qCW (n:=m / 10)).1,(qCW (n:=m / 10)).2,qH,cv35,b40_1,cv1,cat];apply hn;refine e1 _ ⟨⟨m / 10,_,dg (m / 10)::w,_,rfl,by omega,?_,by simp [xZZ],by simp [xZZ],fg.new _,?_⟩,?_⟩
   ·simp;omega
   ·rw [hd,if_neg (by omega)];by_cases h3:m / 10<10
    ·rw [if_pos h3,qCh h3];simp
    ·rw [if_neg h3,qDH (by omega) (by omega)];simp
   ·simp [xZZ,g0];omega
  ·refine qF false (by simp only [sw.1,rE,reduceIte,rL,rA,rM,rD,svn.down,syw.1,sh1,nh1,h10]) (fun hx=>by cases hx) (fun _=> ?_);refine qX (A2 _ ?_);refine qA fun K hn hp=> ?_;simp only [sw.1,rE,reduceIte,rL,rA,rM,rD,svn.down,syw.1,sh1,nh1,g3];apply hn;refine qR (jF res41s ⟨?_,fg⟩);rw [hd,if_pos (by omega)];simp [xZZ]
 ·refine ⟨n,h1,[dg n],_,rfl,hn3,by simp;omega,by simp [xZZ,argsTo],by simp [xZZ],fh1,?_⟩;by_cases h3:n<10
  ·rw [if_pos h3,qCh h3];simp
  ·rw [if_neg h3,qDH (by omega) hn3]
end Go.Proofs.Kn
namespace Go.Proofs.Kn
open Go Go.Ev
set_option maxRecDepth 100000
set_option maxHeartbeats 4000000
theorem ft40s (xt:Addr->Option Value):(SE xt).ft.get 40=some Tryz.f40:=by kernel_rfl
theorem res40s:Tryz.f40.results.toList=[.tmp 2]:=by kernel_rfl
def zN (l:List Int):List UInt8:=l.flatMap fun x=>32::dec x.toNat
theorem qDd (l:List Int) (x:Int):zN (l++[x])=zN l++[32]++dec x.toNat:=by simp [zN]
theorem vY: ∀l:List Int,(zN l).length<=l.length*4
 |[]=>by simp [zN]
 |x::l=>by
  have:=vY l;have h2:=yB x.toNat;simp only [zN,List.flatMap_cons,List.length_append,List.length_cons] at this ⊢;omega
theorem uW (xt:Addr->Option Value) (h:Hp) (v:AV) (N:Nat) (l:List Int) (o:OwnSl h N 1 3 v l.length (l.map iv)) (h1:l.length<=1000) (hl: ∀x∈l,jK x) {K:CR->Hp->Prop} (hk: ∀n,h.n<n->K (.ret (sv (zN l))) (h.up n)):FnA (SE xt) 40 [v] h K:=by
 refine FnA.calm ?_ hk;clear hk K;refine xZN (sok xt) (ft40s xt) rfl 20 rfl ?_;have hlen:=fun h'=>o.len (tb:=tb) vJ rfl (h':=h');have ov:=o.one;refine qA fun K hn hp=> ?_;simp only [sw.1,rE,reduceIte,rL,rA,rM,rD,svn.down,syw.1,hlen];apply hn;clear hn hp K;refine qA fun K hn hp=> ?_;simp only [sw.1,rE,reduceIte,rL,rA,rM,rD,svn.down,syw.1,hlen];apply hn;clear hn hp K;refine qG ?_;refine qA fun K hn hp=> ?_;simp only [sw.1,rE,reduceIte,rL,rA,rM,rD,svn.down,syw.1,hlen];apply hn;clear hn hp K;refine qI fun KA A1 A2 A3 A4 A5=> ?_;refine qY (sok xt) (fun st=> ∃(k:Nat) (hg:Hp) (tm:T AV),st=⟨tm,20,hg,[]⟩/\k<=l.length/\tm.get 0=some (v)/\tm.get 3=some (sv (zN (l.take k)))/\tm.get 4=some (iv k)/\Fr h.n h hg) (fun st=>l.length - (match st.tm.get 4 with|some (.val (.int _ n))=>n.toNat|_=>0)) ?_ ?_
 ·rintro st ⟨k,hg,tm,rfl,hkA,g0,g3,g4,fg⟩;have muA:=g4;have q:decide ((k:Int)<(l.length:Int))=decide (k<l.length):=qJ _ _;refine qG ?_;refine qA fun K hn hp=> ?_;simp only [sw.1,rE,reduceIte,rL,rA,rM,rD,svn.down,syw.1,hlen,g0,g3,g4,q];apply hn;clear hn hp K;by_cases hlt:k<l.length
  ·refine qF true (by simp only [sw.1,rE,reduceIte,rL,rA,rM,rD,svn.down,syw.1,hlen,g0,g3,g4,hlt]) (fun _=> ?_) (fun hx=>by cases hx);refine qN ?_;refine qI fun K2 e1 e2 e3 e4 e5=> ?_;obtain ⟨b,i1,i2,i3,i4,i5⟩:=(o.fr fg (xZY _)).idx vJ rfl tg3 rfl hlt (k:= .i64);obtain ⟨hx0,hx1⟩:=hl _ (xZS hlt);obtain ⟨n,hn⟩: ∃n:Nat,l[k]=(n:Int):=⟨(l[k]).toNat,by omega⟩;have hld:jV (hg.t.get b) (k*1)=some (iv n):=by
    rw [i4,zC,Nat.mul_one,xZK,xZX hlt,hn];rfl
   have hwl:=vY (l.take k);rw [xZW] at hwl;have hdl:=yB n;obtain ⟨W,hW⟩: ∃W,W=zN (l.take k):=⟨_,rfl⟩;obtain ⟨W1,hW1⟩: ∃W1,W1=W++[32]:=⟨_,rfl⟩;have c1: ∀(ox oy:Operand),vG Tryz.prog tb .add 9 ox oy (sv W) (sv [32])=some (sv W1):=fun ox oy=>by rw [hW1];exact kY _ _ (by rw [hW];simp;omega)
   have hs:zN (l.take (k+1))=W1++dec n:=by rw [xZP,xZX hlt,hn];simp only [Option.toList_some];rw [qDd,hW1,hW];rfl
   have c2: ∀(ox oy:Operand),vG Tryz.prog tb .add 9 ox oy (sv W1) (sv (dec n))=some (sv (zN (l.take (k+1)))):=fun ox oy=>by rw [hs];exact kY _ _ (by rw [hW1,hW];simp;omega)
   rw [<-hW] at g3;refine reg fun K hn' hp=> ?_;simp only [sw.1,rE,reduceIte,rL,rA,rM,rD,svn.down,syw.1,hlen,g0,g3,g4,c1,i1,hld];refine qE (sok xt) (uT xt hg n (by omega) fun n1 hn1=> ?_);simp only [sw.1,rE,reduceIte,rL,rA,rM,rD,svn.down,syw.1,hlen,g0,g3,g4,c2];refine hn' _ _ (e1 _ ?_);clear hn' hp K;have w1:=qW hlt (by omega);refine reg fun K hn hp=> ?_;simp only [sw.1,rE,reduceIte,rL,rA,rM,rD,svn.down,syw.1,hlen,g0,g3,g4,w1];apply hn;clear hn hp K;refine ⟨⟨k+1,hg.up n1,_,rfl,by omega,(by simp [xZZ,g0,g3,g4]),(by simp [xZZ,g0,g3,g4]),(by simp [xZZ,g0,g3,g4]),fg.up (xZV hn1)⟩,by simpa [xZZ,muA] using (by omega:l.length - (k+1)<l.length - k)⟩
  ·have hkl:k=l.length:=by omega
   subst hkl;rw [xZT] at g3;refine qF false (by simp only [sw.1,rE,reduceIte,rL,rA,rM,rD,svn.down,syw.1,hlen,g0,g3,g4,hlt]) (fun hx=>by cases hx) (fun _=> ?_);refine qX (A2 _ ?_);refine qA fun K hn hp=> ?_;simp only [sw.1,rE,reduceIte,rL,rA,rM,rD,svn.down,syw.1,hlen,g0,g3,g4];apply hn;clear hn hp K;refine qR (jF res40s ⟨?_,fg⟩);simp [xZZ]
 ·exact ⟨0,h,_,rfl,by omega,by simp [xZZ,argsTo],by simp [xZZ,zN],by simp [xZZ],xZU (xZY _)⟩
abbrev LL:=List (List UInt8)
theorem ft42s (xt:Addr->Option Value):(SE xt).ft.get 42=some Tryz.f42:=by kernel_rfl
theorem res42s:Tryz.f42.results.toList=[.tmp 4]:=by kernel_rfl
theorem abin_eq8 {P:Program} {t:TypeId} {ox oy:Operand} (a b:UInt8):vG P tb .eql t ox oy (ub a) (ub b)=some (.val (.bool (decide (a=b)))):=by
 rw [ub,ub,qDX]
 congr 3
 exact decide_eq_decide.2 ⟨fun h=>UInt8.toNat_inj.1 (by omega),fun h=>by rw [h]⟩
theorem qCr (c:UInt8): ∀(l:List UInt8),c ∉ l->spl c l=[l]
 |[],_=>rfl
 |x::l,h=>by
  have h1: ¬x=c:=fun e=>h (by rw [e];exact xZL);have ih:=qCr c l fun hc=>h (xZM _ hc);simp only [spl,if_neg h1,ih,pre1]
theorem qCs (c:UInt8): ∀(a l:List UInt8),c ∉ a->spl c (a++c::l)=a::spl c l
 |[],l,_=>by simp [spl]
 |x::a,l,h=>by
  have h1: ¬x=c:=fun e=>h (by rw [e];exact xZL);have ih:=qCs c a l fun hc=>h (xZM _ hc);simp only [List.cons_append,spl,if_neg h1,ih,pre1]
theorem qCq (xt:Addr->Option Value) (h:Hp) (s:List UInt8) (hs:s.length<=1000000) (c:UInt8):FnA (SE xt) 42 [sv s,ub c] h (fun res h'=>Fr h.n h h'/\ ∃u,res= .ret u/\OwnSl h' h.n 1 9 u (spl c s).length ((spl c s).map sv)):=by
 refine xZN (sok xt) (ft42s xt) rfl 34 rfl ?_;refine qA fun K hn hp=> ?_;simp only [sw.1,rE,reduceIte,rL,rA,rM,rD,svn.down,syw.1];apply hn;refine qA fun K hn hp=> ?_;simp only [sw.1,rE,reduceIte,rL,rA,rM,rD,svn.down,syw.1];apply hn;refine qA fun K hn hp=> ?_;simp only [sw.1,rE,reduceIte,rL,rA,rM,rD,svn.down,syw.1];apply hn;refine qG ?_;refine qA fun K hn hp=> ?_;simp only [sw.1,rE,reduceIte,rL,rA,rM,rD,svn.down,syw.1];apply hn;refine qI fun KA A1 A2 A3 A4 A5=> ?_;refine qY (sok xt) (fun st=> ∃(k:Nat) (hg:Hp) (u:AV) (ps:LL) (f:Nat) (tm:T AV),st=⟨tm,34,hg,[]⟩/\k<=s.length/\tm.get 0=some (sv s)/\tm.get 1=some (ub c)/\tm.get 5=some (u)/\tm.get 6=some (iv f)/\tm.get 7=some (iv k)/\Fr h.n h hg/\OwnSl hg h.n 1 9 u ps.length (ps.map sv)/\ps.length<=k/\f<=k/\c ∉ ((s.take k).drop f)/\spl c s=ps++spl c (s.drop f)) (fun st=>s.length - (match st.tm.get 7 with|some (.val (.int _ n))=>n.toNat|_=>0)) ?_ ?_
 ·rintro st ⟨k,hg,u,ps,f,tm,rfl,hkA,g0,g1,g5,g6,g7,fg,ou,hpk,hfk,hno,hsp⟩;have muA:=g7;have q:decide ((k:Int)<(s.length:Int))=decide (k<s.length):=qJ _ _;refine qG ?_;refine qA fun K hn hp=> ?_;simp only [sw.1,rE,reduceIte,rL,rA,rM,rD,svn.down,syw.1,g0,g1,g5,g6,g7,q];apply hn;by_cases hlt:k<s.length
  ·refine qF true (by simp only [sw.1,rE,reduceIte,rL,rA,rM,rD,svn.down,syw.1,g0,g1,g5,g6,g7,hlt]) (fun _=> ?_) (fun hx=>by cases hx);refine qN ?_;refine qI fun K2 e1 e2 e3 e4 e5=> ?_;have ix:uJ tb 9 (sv s) (iv k)=some (ub s[k]):=ix9 s hlt;have w1:=qW hlt (by omega);have htk:s.take (k+1)=s.take k++[s[k]]:=by rw [xZP,xZX hlt];rfl
   have hdr:(s.take (k+1)).drop f=(s.take k).drop f++[s[k]]:=by rw [htk,xZR (by rw [xZW];omega)]
   have hsd:s.drop f=(s.take k).drop f++s.drop k:=by
    have:s=s.take k++s.drop k:=(List.take_append_drop k s).symm
    conv=>lhs;rw [this]
    rw [xZR (by rw [xZW];omega)]
   refine qA fun K hn hp=> ?_;simp only [sw.1,rE,reduceIte,rL,rA,rM,rD,svn.down,syw.1,g0,g1,g5,g6,g7,ix,abin_eq8];apply hn;by_cases hc:s[k]=c
   ·have hsp2:spl c s=(ps++[(s.take k).drop f])++spl c (s.drop (k+1)):=by
     rw [hsp,hsd,xZO hlt,hc,qCs c _ _ hno];simp
    have sl:vF tb hg 9 (sv s) (some (iv f)) (some (iv k))=some (sv ((s.take k).drop f)):=aslice_s tg9 rfl s hfk (by omega);obtain ⟨h',p1,p2,p3,p4⟩:=app96 (xt:=xt) (a:=(s.take k).drop f) ou fg.le (fbn hg _ 9) rfl (jG _ _) (by omega);have ouo:=ou.one;refine qQ true (by simp only [sw.1,rE,reduceIte,rL,rA,rM,rD,svn.down,syw.1,g0,g1,g5,g6,g7,decide_eq_true hc]) (fun _=> ?_) (fun hx=>by cases hx);refine qA fun K hn hp=> ?_;simp only [sw.1,rE,reduceIte,rL,rA,rM,rD,svn.down,syw.1,g0,g1,g5,g6,g7,sl,yK,qH,gE,p1];apply hn;refine reg fun K hn hp=> ?_;simp only [sw.1,rE,reduceIte,rL,rA,rM,rD,svn.down,syw.1,g0,g1,g5,g6,g7,w1];apply hn;refine e1 _ ?_;refine reg fun K hn hp=> ?_;simp only [sw.1,rE,reduceIte,rL,rA,rM,rD,svn.down,syw.1,g0,g1,g5,g6,g7,w1];apply hn;refine ⟨⟨k+1,h',.sl (hg.n+1) 0 (ps.length+1) 1,ps++[(s.take k).drop f],k+1,_,rfl,by omega,(by simp [xZZ,g0,g1,g5,g6,g7]),(by simp [xZZ,g0,g1,g5,g6,g7]),(by simp [xZZ,g0,g1,g5,g6,g7]),(by simp [xZZ,g0,g1,g5,g6,g7]),(by simp [xZZ,g0,g1,g5,g6,g7]),fg.trans p3 (xZY _),by simpa using p2,by simp;omega,xZY _,by rw [List.drop_of_length_le (by rw [xZW];omega)];simp,hsp2⟩,by simpa [xZZ,muA] using (by omega:s.length - (k+1)<s.length - k)⟩
   ·have hno2:c ∉ (s.take (k+1)).drop f:=by
     rw [hdr,List.mem_append,List.mem_singleton];intro q;rcases q with q|q
     ·exact hno q
     ·exact hc q.symm
    refine qQ false (by simp only [sw.1,rE,reduceIte,rL,rA,rM,rD,svn.down,syw.1,g0,g1,g5,g6,g7,decide_eq_false hc]) (fun hx=>by cases hx) (fun _=> ?_);refine jO (e1 _ ?_);refine reg fun K hn hp=> ?_;simp only [sw.1,rE,reduceIte,rL,rA,rM,rD,svn.down,syw.1,g0,g1,g5,g6,g7,w1];apply hn;refine ⟨⟨k+1,hg,u,ps,f,_,rfl,by omega,(by simp [xZZ,g0,g1,g5,g6,g7]),(by simp [xZZ,g0,g1,g5,g6,g7]),(by simp [xZZ,g0,g1,g5,g6,g7]),(by simp [xZZ,g0,g1,g5,g6,g7]),(by simp [xZZ,g0,g1,g5,g6,g7]),fg,ou,by omega,by omega,hno2,hsp⟩,by simpa [xZZ,muA] using (by omega:s.length - (k+1)<s.length - k)⟩
  ·have hkl:k=s.length:=by omega
   subst hkl;rw [xZT] at hno;refine qF false (by simp only [sw.1,rE,reduceIte,rL,rA,rM,rD,svn.down,syw.1,g0,g1,g5,g6,g7,hlt]) (fun hx=>by cases hx) (fun _=> ?_);refine qX (A2 _ ?_);have hfin:spl c s=ps++[s.drop f]:=by rw [hsp,qCr c _ hno]
   have sl:vF tb hg 9 (sv s) (some (iv f)) none=some (sv (s.drop f)):=aslice_s0 tg9 rfl s hfk;obtain ⟨h',p1,p2,p3,p4⟩:=app96 (xt:=xt) (a:=s.drop f) ou fg.le (fbn hg _ 9) rfl (jG _ _) (by omega);have ouo:=ou.one;refine qA fun K hn hp=> ?_;simp only [sw.1,rE,reduceIte,rL,rA,rM,rD,svn.down,syw.1,g0,g1,g5,g6,g7,sl,yK,Option.map_none,qH,gE,p1];apply hn;refine qR (jF res42s ⟨fg.trans p3 (xZY _),.sl (hg.n+1) 0 (ps.length+1) 1,by simp [xZZ],?_⟩);rw [hfin];simpa using p2
 ·exact ⟨0,h,jE,[],0,_,rfl,by omega,by simp [xZZ,argsTo],by simp [xZZ,argsTo],by simp [xZZ],by simp [xZZ],by simp [xZZ],xZU (xZY _),OwnSl.nil,by simp,by omega,by simp,by simp⟩
end Go.Proofs.Kn
namespace Go.Proofs.Kn
open Go Go.Ev
set_option maxRecDepth 100000
set_option maxHeartbeats 4000000
theorem ft97s (xt:Addr->Option Value):(SE xt).ft.get 97=some Tryz.f97:=by kernel_rfl
theorem bT:Tryz.f97.results.toList=[.tmp 2]:=by kernel_rfl
def numI (w:List UInt8):Int:=match xS w with|some n=>(n:Int)|none=> -1
theorem number_r (xt:Addr->Option Value) (h:Hp) (w:List UInt8) (hl:w.length<=1000000) {K:CR->Hp->Prop} (hk: ∀k,h.n<k->K (.ret (iv (numI w))) (h.up k)):FnA (SE xt) 97 [sv w] h K:=by
 refine FnA.calm ?_ hk;clear hk K;refine xZN (sok xt) (ft97s xt) rfl 42 rfl ?_;have none_of:(¬(w≠[]/\w.length<=3/\w.all kE=true/\dec (kQ w)=w))->numI w= -1:=fun q=>by rw [numI,pF q]
 refine qA fun K hn hp=> ?_;simp only [sw.1,rE,reduceIte,rL,rA,rM,rD,svn.down,syw.1];apply hn;refine qG ?_;have d0:decide ((w.length:Int)=0)=decide (w.length=0):=decide_eq_decide.2 ⟨fun h=>by omega,fun h=>by omega⟩;have d3:decide ((3:Int)<(w.length:Int))=decide (3<w.length):=decide_eq_decide.2 ⟨fun h=>by omega,fun h=>by omega⟩;by_cases h0:w.length=0
 ·have hw:w=[]:=List.length_eq_zero_iff.1 h0;refine qA fun K hn hp=> ?_;simp only [sw.1,rE,reduceIte,rL,rA,rM,rD,svn.down,syw.1,d0,decide_eq_true h0];apply hn;refine qF true (by simp only [sw.1,rE,reduceIte,rL,rA,rM,rD,svn.down,syw.1]) (fun _=> ?_) (fun hx=>by cases hx);refine qG ?_;refine qA fun K hn hp=> ?_;simp only [sw.1,rE,reduceIte,rL,rA,rM,rD,svn.down,syw.1];apply hn;refine jI (jF bT ⟨?_,xZU (xZY _)⟩);rw [none_of (fun q=>q.1 hw)];simp [xZZ]
 by_cases h3:3<w.length
 ·refine qA fun K hn hp=> ?_;simp only [sw.1,rE,reduceIte,rL,rA,rM,rD,svn.down,syw.1,d0,decide_eq_false h0,d3,decide_eq_true h3];apply hn;refine qF true (by simp only [sw.1,rE,reduceIte,rL,rA,rM,rD,svn.down,syw.1]) (fun _=> ?_) (fun hx=>by cases hx);refine qG ?_;refine qA fun K hn hp=> ?_;simp only [sw.1,rE,reduceIte,rL,rA,rM,rD,svn.down,syw.1];apply hn;refine jI (jF bT ⟨?_,xZU (xZY _)⟩);rw [none_of (fun q=>by have:=q.2.1;omega)];simp [xZZ]
 refine qA fun K hn hp=> ?_;simp only [sw.1,rE,reduceIte,rL,rA,rM,rD,svn.down,syw.1,d0,decide_eq_false h0,d3,decide_eq_false h3];apply hn;refine qF false (by simp only [sw.1,rE,reduceIte,rL,rA,rM,rD,svn.down,syw.1]) (fun hx=>by cases hx) (fun _=> ?_);refine qN ?_;refine qA fun K hn hp=> ?_;simp only [sw.1,rE,reduceIte,rL,rA,rM,rD,svn.down,syw.1];apply hn;refine qG ?_;refine qA fun K hn hp=> ?_;simp only [sw.1,rE,reduceIte,rL,rA,rM,rD,svn.down,syw.1];apply hn;refine qI fun KA A1 A2 A3 A4 A5=> ?_;refine qY (sok xt) (fun st=> ∃(k:Nat) (tm:T AV),st=⟨tm,42,h,[]⟩/\k<=w.length/\tm.get 0=some (sv w)/\tm.get 3=some (iv (kQ (w.take k)))/\tm.get 4=some (iv k)/\(w.take k).all kE=true) (fun st=>w.length - (match st.tm.get 4 with|some (.val (.int _ n))=>n.toNat|_=>0)) ?_ ?_
 ·rintro st ⟨k,tm,rfl,hkA,g0,g3,g4,hdig⟩;have muA:=g4;have q:decide ((k:Int)<(w.length:Int))=decide (k<w.length):=qJ _ _;refine qG ?_;refine qA fun K hn hp=> ?_;simp only [sw.1,rE,reduceIte,rL,rA,rM,rD,svn.down,syw.1,g0,g3,g4,q];apply hn;by_cases hlt:k<w.length
  ·refine qF true (by simp only [sw.1,rE,reduceIte,rL,rA,rM,rD,svn.down,syw.1,g0,g3,g4,hlt]) (fun _=> ?_) (fun hx=>by cases hx);refine qN ?_;refine qI fun K2 e1 e2 e3 e4 e5=> ?_;have ix:=ix9 w hlt;have w1:=qW hlt (by omega);have hb256:(w[k]).toNat<256:=UInt8.toNat_lt _;have bad: ¬kE w[k]=true->numI w= -1:=fun hb=>none_of fun q=>hb (List.all_eq_true.1 q.2.2.1 _ (xZS hlt));refine qG ?_;by_cases b1:((w[k]).toNat:Int)<48
   ·refine qA fun K hn hp=> ?_;simp only [sw.1,rE,reduceIte,rL,rA,rM,rD,svn.down,syw.1,g0,g3,g4,ix,decide_eq_true b1];apply hn;refine qF true (by simp only [sw.1,rE,reduceIte,rL,rA,rM,rD,svn.down,syw.1,g0,g3,g4]) (fun _=> ?_) (fun hx=>by cases hx);refine qG ?_;refine qA fun K hn hp=> ?_;simp only [sw.1,rE,reduceIte,rL,rA,rM,rD,svn.down,syw.1,g0,g3,g4];apply hn;refine jI (e4 _ (A4 _ (jF bT ⟨?_,xZU (xZY _)⟩)));rw [bad (by simp only [kE,xZQ,decide_eq_true_eq];omega)];simp [xZZ]
   by_cases b2:(57:Int)<((w[k]).toNat:Int)
   ·refine qA fun K hn hp=> ?_;simp only [sw.1,rE,reduceIte,rL,rA,rM,rD,svn.down,syw.1,g0,g3,g4,ix,decide_eq_false b1,decide_eq_true b2];apply hn;refine qF true (by simp only [sw.1,rE,reduceIte,rL,rA,rM,rD,svn.down,syw.1,g0,g3,g4]) (fun _=> ?_) (fun hx=>by cases hx);refine qG ?_;refine qA fun K hn hp=> ?_;simp only [sw.1,rE,reduceIte,rL,rA,rM,rD,svn.down,syw.1,g0,g3,g4];apply hn;refine jI (e4 _ (A4 _ (jF bT ⟨?_,xZU (xZY _)⟩)));rw [bad (by simp only [kE,xZQ,decide_eq_true_eq];omega)];simp [xZZ]
   refine qA fun K hn hp=> ?_;simp only [sw.1,rE,reduceIte,rL,rA,rM,rD,svn.down,syw.1,g0,g3,g4,ix,decide_eq_false b1,decide_eq_false b2];apply hn;refine qF false (by simp only [sw.1,rE,reduceIte,rL,rA,rM,rD,svn.down,syw.1,g0,g3,g4]) (fun hx=>by cases hx) (fun _=> ?_);refine qN ?_;have hv:kQ (w.take k)<1000:=qAW hdig (by rw [xZW];omega);have hs:w.take (k+1)=w.take k++[w[k]]:=by rw [xZP,xZX hlt];rfl
   have c1:IntKind.u8.wrap (((w[k]).toNat:Int) - 48)=((w[k]).toNat:Int) - 48:=wrap_u8 _ (by omega) (by omega);have c2:IntKind.i64.wrap (((w[k]).toNat:Int) - 48)=((w[k]).toNat:Int) - 48:=jA _ (by omega) (by omega);have c3:IntKind.i64.wrap (10*(kQ (w.take k):Int))=10*(kQ (w.take k):Int):=jA _ (by omega) (by omega);have c4:IntKind.i64.wrap (10*(kQ (w.take k):Int)+(((w[k]).toNat:Int) - 48))=((kQ (w.take (k+1)):Nat):Int):=by
    rw [jA _ (by omega) (by omega),hs,qB3];omega
   have hd2:(w.take (k+1)).all kE=true:=by
    rw [hs,List.all_append,hdig];simp only [List.all_cons,List.all_nil,Bool.and_true,Bool.true_and,kE,xZQ,decide_eq_true_eq];omega
   refine reg fun K hn hp=> ?_;simp only [sw.1,rE,reduceIte,rL,rA,rM,rD,svn.down,syw.1,g0,g3,g4,ix,cv53,c1,c2,c3,c4];apply hn;refine e1 _ ?_;refine reg fun K hn hp=> ?_;simp only [sw.1,rE,reduceIte,rL,rA,rM,rD,svn.down,syw.1,g0,g3,g4,w1];apply hn;refine ⟨⟨k+1,_,rfl,by omega,(by simp [xZZ,g0,g3,g4]),(by simp [xZZ,g0,g3,g4]),(by simp [xZZ,g0,g3,g4]),hd2⟩,by simpa [xZZ,muA] using (by omega:w.length - (k+1)<w.length - k)⟩
  ·have hkl:k=w.length:=by omega
   subst hkl;rw [xZT] at g3 hdig;refine qF false (by simp only [sw.1,rE,reduceIte,rL,rA,rM,rD,svn.down,syw.1,g0,g3,g4,hlt]) (fun hx=>by cases hx) (fun _=> ?_);refine qX (A2 _ ?_);have hv:kQ w<1000:=qAW hdig (by omega);refine qG ?_;refine qA fun K hn hp=> ?_;simp only [sw.1,rE,reduceIte,rL,rA,rM,rD,svn.down,syw.1,g0,g3,g4];refine qE (sok xt) (uT xt h (kQ w) hv fun n1 hn1=> ?_);by_cases he:dec (kQ w)=w
   ·simp only [sw.1,rE,reduceIte,rL,rA,rM,rD,svn.down,syw.1,g0,g3,g4,decide_eq_true he];apply hn;refine qF false (by simp only [sw.1,rE,reduceIte,rL,rA,rM,rD,svn.down,syw.1,g0,g3,g4,Bool.not_true]) (fun hx=>by cases hx) (fun _=> ?_);refine qN ?_;refine qA fun K hn hp=> ?_;simp only [sw.1,rE,reduceIte,rL,rA,rM,rD,svn.down,syw.1,g0,g3,g4];apply hn;refine qR (jF bT ⟨?_,(xZU (xZY _)).up (xZV hn1)⟩);have:xS w=some (kQ w):=if_pos ⟨fun q=>h0 (by rw [q];rfl),by omega,hdig,he⟩;simp [xZZ,numI,this]
   ·simp only [sw.1,rE,reduceIte,rL,rA,rM,rD,svn.down,syw.1,g0,g3,g4,decide_eq_false he];apply hn;refine qF true (by simp only [sw.1,rE,reduceIte,rL,rA,rM,rD,svn.down,syw.1,g0,g3,g4,Bool.not_false]) (fun _=> ?_) (fun hx=>by cases hx);refine qG ?_;refine qA fun K hn hp=> ?_;simp only [sw.1,rE,reduceIte,rL,rA,rM,rD,svn.down,syw.1,g0,g3,g4];apply hn;refine jI (jF bT ⟨?_,(xZU (xZY _)).up (xZV hn1)⟩);rw [none_of (fun q=>he q.2.2.2)];simp [xZZ]
 ·exact ⟨0,_,rfl,by omega,by simp [xZZ,argsTo],by simp [xZZ,kQ],by simp [xZZ],by simp⟩
theorem ft43s (xt:Addr->Option Value):(SE xt).ft.get 43=some Tryz.f43:=by kernel_rfl
theorem res43s:Tryz.f43.results.toList=[.tmp 2,.tmp 3]:=by kernel_rfl
def zE:List (List UInt8)->Option (List Int)
 |[]=>some []
 |x::xs=>match xS x with
  |none=>none
  |some n=>(zE xs).map ((n:Int):: ·)
theorem pE (xt:Addr->Option Value) (h:Hp) (v:AV) (N:Nat) (ws:List (List UInt8)) (o:RowAt xt h 1 v (ws.map fun x=>[.string (bs x)])) (h1:ws.length<=1000000) (hl: ∀x∈ws,x.length<=1000000):FnA (SE xt) 43 [v] h (fun res h'=>Fr h.n h h'/\match zE ws with
  |none=>res= .ret (.tup [jE,.val (.bool false)])
  |some ns=> ∃u,res= .ret (.tup [u,.val (.bool true)])/\OwnSl h' h.n 1 3 u ns.length (ns.map iv)):=by
 refine xZN (sok xt) (ft43s xt) rfl 25 rfl ?_;have hlen:=fun h'=>o.len (h':=h') vN t96;simp only [List.length_map] at hlen;have ov:=o.one;refine qA fun K hn hp=> ?_;simp only [sw.1,rE,reduceIte,rL,rA,rM,rD,svn.down,syw.1,hlen];apply hn;refine qA fun K hn hp=> ?_;simp only [sw.1,rE,reduceIte,rL,rA,rM,rD,svn.down,syw.1,hlen];apply hn;refine qG ?_;refine qA fun K hn hp=> ?_;simp only [sw.1,rE,reduceIte,rL,rA,rM,rD,svn.down,syw.1,hlen];apply hn;refine qI fun KA A1 A2 A3 A4 A5=> ?_;refine qY (sok xt) (fun st=> ∃(k:Nat) (hg:Hp) (u:AV) (ns:List Int) (tm:T AV),st=⟨tm,25,hg,[]⟩/\k<=ws.length/\tm.get 0=some (v)/\tm.get 4=some (u)/\tm.get 5=some (iv k)/\Fr h.n h hg/\OwnSl hg h.n 1 3 u ns.length (ns.map iv)/\ns.length<=k/\zE ws=(zE (ws.drop k)).map (ns++ ·)) (fun st=>ws.length - (match st.tm.get 5 with|some (.val (.int _ n))=>n.toNat|_=>0)) ?_ ?_
 ·rintro st ⟨k,hg,u,ns,tm,rfl,hkA,g0,g4,g5,fg,ou,hnk,hnp⟩;have muA:=g5;have q:decide ((k:Int)<(ws.length:Int))=decide (k<ws.length):=qJ _ _;refine qG ?_;refine qA fun K hn hp=> ?_;simp only [sw.1,rE,reduceIte,rL,rA,rM,rD,svn.down,syw.1,hlen,g0,g4,g5,q];apply hn;by_cases hlt:k<ws.length
  ·refine qF true (by simp only [sw.1,rE,reduceIte,rL,rA,rM,rD,svn.down,syw.1,hlen,g0,g4,g5,hlt]) (fun _=> ?_) (fun hx=>by cases hx);refine qN ?_;refine qI fun K2 e1 e2 e3 e4 e5=> ?_;have w1:=qW hlt (by omega);have og:=o.fr fg (xZY _);have i1:=og.idx vN t96 tg9 rfl (i:=k) (by simpa using hlt) (k:= .i64);have i2:qZ tb xt hg 9 (elp v (k*1))=some (sv ws[k]):=og.load0 tg9 rfl (i:=k) (c:=[.string (bs ws[k])]) (u:= .string (bs ws[k])) (by rw [xZK,xZX hlt];rfl) rfl;rw [xZO hlt] at hnp;refine qA fun K hn hp=> ?_;simp only [sw.1,rE,reduceIte,rL,rA,rM,rD,svn.down,syw.1,hlen,g0,g4,g5,i1,i2];refine qE (sok xt) (number_r xt hg ws[k] (hl _ (xZS hlt)) fun n1 hn1=> ?_);simp only [sw.1,rE,reduceIte,rL,rA,rM,rD,svn.down,syw.1,hlen,g0,g4,g5];apply hn;refine qG ?_;cases hnum:xS ws[k] with
   |none=>
    have hI:numI ws[k]= -1:=by rw [numI,hnum]
    have hnone:zE ws=none:=by rw [hnp,zE,hnum];rfl
    rw [hI];refine qA fun K hn hp=> ?_;simp only [sw.1,rE,reduceIte,rL,rA,rM,rD,svn.down,syw.1,hlen,g0,g4,g5,show decide ((-1:Int)<0)=true from rfl];apply hn;refine qF true (by simp only [sw.1,rE,reduceIte,rL,rA,rM,rD,svn.down,syw.1,hlen,g0,g4,g5]) (fun _=> ?_) (fun hx=>by cases hx);refine qG ?_;refine qA fun K hn hp=> ?_;simp only [sw.1,rE,reduceIte,rL,rA,rM,rD,svn.down,syw.1,hlen,g0,g4,g5];apply hn;refine jI (e4 _ (A4 _ (qAv res43s ⟨fg.up (xZV hn1),?_⟩)));rw [hnone];simp [xZZ]
   |some n=>
    have hI:numI ws[k]=(n:Int):=by rw [numI,hnum]
    have hd:decide ((n:Int)<0)=false:=decide_eq_false (by omega);rw [hI];refine qA fun K hn hp=> ?_;simp only [sw.1,rE,reduceIte,rL,rA,rM,rD,svn.down,syw.1,hlen,g0,g4,g5,hd];apply hn;refine qF false (by simp only [sw.1,rE,reduceIte,rL,rA,rM,rD,svn.down,syw.1,hlen,g0,g4,g5]) (fun hx=>by cases hx) (fun _=> ?_);refine qN ?_;obtain ⟨h3,hh3⟩: ∃h3:Hp,h3=hg.up n1:=⟨_,rfl⟩;have f3:Fr h.n h h3:=by rw [hh3];exact fg.up (xZV hn1)
    have o3:OwnSl h3 h.n 1 3 u ns.length (ns.map iv):=by rw [hh3];exact ou.up (xZV hn1)
    rw [<-hh3];clear hh3;obtain ⟨h',p1,p2,p3,p4⟩:=app65 (xt:=xt) (a:=(n:Int)) o3 f3.le (by omega);have ouo:=ou.one;refine reg fun K hn hp=> ?_;simp only [sw.1,rE,reduceIte,rL,rA,rM,rD,svn.down,syw.1,hlen,g0,g4,g5,qH,bs65,p1];apply hn;refine e1 _ ?_;refine reg fun K hn hp=> ?_;simp only [sw.1,rE,reduceIte,rL,rA,rM,rD,svn.down,syw.1,hlen,g0,g4,g5,w1];apply hn;have hnp2:zE ws=(zE (ws.drop (k+1))).map ((ns++[(n:Int)])++ ·):=by
     rw [hnp,zE,hnum];cases zE (ws.drop (k+1))<;>simp
    refine ⟨⟨k+1,h',.sl (h3.n+1) 0 (ns.length+1) 1,ns++[(n:Int)],_,rfl,by omega,(by simp [xZZ,g0,g4,g5]),(by simp [xZZ,g0,g4,g5]),(by simp [xZZ,g0,g4,g5]),f3.trans p3 (xZY _),by simpa using p2,by simp;omega,hnp2⟩,by simpa [xZZ,muA] using (by omega:ws.length - (k+1)<ws.length - k)⟩
  ·have hkl:k=ws.length:=by omega
   subst hkl;have hfin:zE ws=some ns:=by rw [hnp,List.drop_length];simp [zE]
   refine qF false (by simp only [sw.1,rE,reduceIte,rL,rA,rM,rD,svn.down,syw.1,hlen,g0,g4,g5,hlt]) (fun hx=>by cases hx) (fun _=> ?_);refine qX (A2 _ ?_);have ouo:=ou.one;refine qA fun K hn hp=> ?_;simp only [sw.1,rE,reduceIte,rL,rA,rM,rD,svn.down,syw.1,hlen,g0,g4,g5];apply hn;refine qR (qAv res43s ⟨fg,?_⟩);rw [hfin];exact ⟨u,by simp [xZZ],ou⟩
 ·exact ⟨0,h,jE,[],_,rfl,by omega,by simp [xZZ,argsTo],by simp [xZZ],by simp [xZZ],xZU (xZY _),OwnSl.nil,by simp,by simp⟩
end Go.Proofs.Kn
