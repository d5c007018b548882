/- Parts of the proof, joined by a program. -/
import Derived.Test.YtmklipblkmlojaaGreatDoorQE4
set_option linter.all false
open Nat renaming reduceEqDiff → rE, reduceLeDiff → rD, reduceAdd → rA, reduceMul → rM, reduceLT → rL
open Go.Ev.T renaming get_put → xZZ
open Nat renaming le_refl → xZY, le_of_lt → xZX
open List renaming getElem?_map → xZW, getElem?_eq_getElem → xZV, length_map → xZU, drop_eq_getElem_cons → xZT, mem_cons → xZR, length_pos_iff → xZQ, length_cons → xZP, filter_cons → xZO, drop_length → xZN
open Option renaming map_eq_some_iff → xZS
namespace Go.Ev
theorem OwnSl.lower {h:Hp} {N N' sz n:Nat} {e:TypeId} {v:AV} {cs:List AV} (o:OwnSl h N sz e v n cs) (hN:N'<=N):OwnSl h N' sz e v n cs:=by
 rcases o with o|⟨b,q1,q2,q3⟩
 ·exact .inl o
 ·exact .inr ⟨b,q1,by omega,q3⟩
end Go.Ev
namespace Go.Proofs.Kn
open Go Go.Ev
set_option maxRecDepth 100000
set_option maxHeartbeats 4000000
theorem ft92s (xt:Addr->Option Value):(SE xt).ft.get 92=some Tryz.f92:=by kernel_rfl
theorem res92s:Tryz.f92.results.toList=[.tmp 4]:=by kernel_rfl
def kP:List (List UInt8)->List (List UInt8)->Option (List Int)
 |[],[]=>some []
 |x::xs,e::es=>if e≠[] then (if x=e then kP xs es else none) else match wK x with
  |none=>none
  |some n=>(kP xs es).map ((n:Int):: ·)
 |_,_=>none
def zD (l:List UInt8) (ws:List (List UInt8)):Option (List Int):=kP (spl 32 l) ws
theorem qBm: ∀{xs es:List (List UInt8)},¬xs.length=es.length->kP xs es=none
 |[],[],h=>absurd rfl h
 |[],_::_,_=>rfl
 |_::_,[],_=>rfl
 |x::xs,e::es,h=>by
  have ih:=qBm (xs:=xs) (es:=es) (fun q=>h (by simp [q]));simp only [kP,ih];split
  ·split<;>rfl
  ·split<;>rfl
def ToR (h:Hp) (o:Option (List Int)) (res:CR) (h':Hp):Prop:=Fr h.n h h'/\match o with
 |some ns=> ∃u,res= .ret u/\OwnSl h' h.n 1 3 u ns.length (ns.map iv)
 |none=> ∃y,res= .pan (kQ y)
theorem bs65 (h:Hp) (a:Int):qY tb h 65 1 [(0,iv a)]=some (.sl h.n 0 1 1,h.new (.cells [iv a] 3)):=b65_1 h a
theorem app65 {xt:Addr->Option Value} {h:Hp} {N n:Nat} {v:AV} {cs:List AV} {a:Int} (o:OwnSl h N 1 3 v n cs) (hN:N<=h.n) (hl:n<=1000000):
  ∃h',qZ Tryz.prog tb xt .append [65,65] [v,.sl h.n 0 1 1] (h.new (.cells [iv a] 3))=some (.sl (h.n+1) 0 (n+1) 1,h')/\OwnSl h' N 1 3 (.sl (h.n+1) 0 (n+1) 1) (n+1) (cs++[iv a])/\Fr N h h'/\h.n<h'.n:=
 qAW (by_:=8) (ee:=te3) xR rfl tg3 rfl rfl o hN (fbn h [iv a] 3) rfl (jO _ _) rfl rfl (by omega) (by omega)
theorem pO (c:UInt8): ∀l,(spl c l).length<=l.length+1
 |[]=>by simp [spl]
 |x::l=>by
  have ih:=pO c l;simp only [spl];split
  ·simp;omega
  ·cases q:spl c l with
   |nil=>simp [w9]
   |cons p r=>rw [q] at ih;simp [w9] at ih ⊢;omega
theorem uK (c:UInt8): ∀l,∀p∈spl c l,p.length<=l.length
 |[],p,hp=>by simp [spl] at hp;simp [hp]
 |x::l,p,hp=>by
  have ih:=uK c l;simp only [spl] at hp;split at hp
  ·rcases xZR.1 hp with rfl|hp
   ·simp
   ·have:=ih p hp;simp;omega
  ·cases q:spl c l with
   |nil=>exact absurd q (gO c l)
   |cons a r=>
    rw [q] at hp ih;simp only [w9,xZR] at hp;rcases hp with rfl|hp
    ·have:=ih a List.mem_cons_self;simp;omega
    ·have:=ih p (List.mem_cons_of_mem _ hp);simp;omega
theorem qBI (xt:Addr->Option Value) (hx:Lx xt) (h:Hp) (l:List UInt8) (hl:l.length<=1000000) (v:AV) (N:Nat) (ws:List (List UInt8)) (o:OwnSl h N 1 9 v ws.length (ws.map sv)):FnA (SE xt) 92 [sv l,v] h (ToR h (zD l ws)):=by
 refine FnA.walk (sok xt) (ft92s xt) rfl 47 rfl ?_;obtain ⟨w,hw⟩: ∃w,w=spl 32 l:=⟨_,rfl⟩;have hwl:w.length<=1000001:=by rw [hw];have:=pO 32 l;omega
 have ov:=o.one;have hlv:=fun h'=>o.len (tb:=tb) uI t96 (h':=h');refine qA fun K hn hp=> ?_;simp only [sw.1,rE,reduceIte,rL,rA,rM,rD,svn.down,syw.1];apply hn;clear hn hp K;refine qA fun K hn hp=> ?_;simp only [sw.1,rE,reduceIte,rL,rA,rM,rD,svn.down,syw.1];refine qB (sok xt) (split_c xt hx h l (by omega) 32 ?_);rw [<-hw];simp only [sw.1,rE,reduceIte,rL,rA,rM,rD,svn.down,syw.1];apply hn;clear hn hp K;obtain ⟨h1,hh1⟩: ∃h1:Hp,h1=h.new (.cells (w.map sv) 9):=⟨_,rfl⟩;rw [<-hh1];have nh1:h1.n=h.n+1:=by rw [hh1];rfl
 have sh1:h1.t.get h.n=some (.cells (w.map sv) 9):=by rw [hh1];exact jO _ _
 have kh1: ∀k,k<h.n->h1.t.get k=h.t.get k:=fun k hk=>by rw [hh1];exact zW _ _ hk
 have fbh1:Fr h.n h h1:=by rw [hh1];exact (Fr.refl (xZY _)).new _
 have fh1:=fbh1;have hlw: ∀h',vN tb h' 96 (.sl h.n 0 w.length 1)=some w.length:=fun h'=>by simp [vN,uI,t96]
 have hdl:decide ((w.length:Int)=(ws.length:Int))=decide (w.length=ws.length):=decide_eq_decide.2 ⟨fun q=>by omega,fun q=>by omega⟩;refine qA fun K hn hp=> ?_;by_cases hlen:w.length=ws.length
 rotate_left
 ·have hnone:zD l ws=none:=by rw [zD,<-hw];exact qBm hlen
  simp only [sw.1,rE,reduceIte,rL,rA,rM,rD,svn.down,syw.1,sh1,nh1,hlv,hlw,hdl,decide_eq_false hlen];refine qB (sok xt) (zU xt _ _ _ (fun hb=>by cases hb) (fun _ n hn2=> ?_));simp only [sw.1,rE,reduceIte,rL,rA,rM,rD,svn.down,syw.1,sh1,nh1];refine hp _ _ _ ⟨_,rfl,fh1.up (xZX hn2),?_⟩;rw [hnone];exact ⟨_,rfl⟩
 simp only [sw.1,rE,reduceIte,rL,rA,rM,rD,svn.down,syw.1,sh1,nh1,hlv,hlw,hdl,decide_eq_true hlen];refine qB (sok xt) (zU xt _ _ _ (fun _ n hn2=> ?_) (fun hb=>by cases hb));simp only [sw.1,rE,reduceIte,rL,rA,rM,rD,svn.down,syw.1,sh1,nh1];apply hn;clear hn hp K;obtain ⟨h2,hh2⟩: ∃h2:Hp,h2=h1.up n:=⟨_,rfl⟩;have f2:Fr h.n h h2:=by rw [hh2];exact fh1.up (xZX hn2)
 have s2:h2.t.get h.n=some (.cells (w.map sv) 9):=by rw [hh2];exact sh1
 have lt2:h.n<h2.n:=by rw [hh2,Hp.up_n];omega
 rw [<-hh2];clear hh2;refine qA fun K hn hp=> ?_;simp only [sw.1,rE,reduceIte,rL,rA,rM,rD,svn.down,syw.1,sh1,nh1];apply hn;clear hn hp K;refine qL ?_;refine qA fun K hn hp=> ?_;simp only [sw.1,rE,reduceIte,rL,rA,rM,rD,svn.down,syw.1,sh1,nh1,hlw];apply hn;clear hn hp K;have hw0:0<w.length:=by rw [hw];exact xZQ.2 (gO 32 l)
 have ow:OwnSl h2 h.n 1 9 (.sl h.n 0 w.length 1) w.length (w.map sv):= .inr ⟨h.n,rfl,xZY _,lt2,s2,by simp⟩;have hpart: ∀p∈w,p.length<=1000000:=fun p hp=>Nat.le_trans (uK 32 l p (by rw [<-hw];exact hp)) hl;refine qO fun KA A1 A2 A3 A4 A5=> ?_;refine jD (sok xt) (fun st=> ∃(k:Nat) (hg:Hp) (u:AV) (ns:List Int) (tm:T AV),st=⟨tm,47,hg,[]⟩/\k<=w.length/\tm.get 0=some (sv l)/\tm.get 1=some (v)/\tm.get 6=some (u)/\tm.get 19=some (.sl h.n 0 w.length 1)/\tm.get 20=some (iv w.length)/\tm.get 21=some (iv k)/\Fr h2.n h2 hg/\OwnSl hg h2.n 1 3 u ns.length (ns.map iv)/\ns.length<=k/\zD l ws=(kP (w.drop k) (ws.drop k)).map (ns++ ·)) (fun st=>w.length - (match st.tm.get 21 with|some (.val (.int _ n))=>n.toNat|_=>0)) ?_ ?_
 ·rintro st ⟨k,hg,u,ns,tm,rfl,hkA,g0,g1,g6,g19,g20,g21,fg,ou,hns,hto⟩;have muA:=g21;have q:decide ((k:Int)<(w.length:Int))=decide (k<w.length):=qG _ _;refine qA fun K hn hp=> ?_;simp only [sw.1,rE,reduceIte,rL,rA,rM,rD,svn.down,syw.1,sh1,nh1,g0,g1,g6,g19,g20,g21,q];apply hn;clear hn hp K;by_cases hlt:k<w.length
  ·refine qF true (by simp only [sw.1,rE,reduceIte,rL,rA,rM,rD,svn.down,syw.1,sh1,nh1,g0,g1,g6,g19,g20,g21,hlt]) (fun _=> ?_) (fun hx=>by cases hx);refine qV ?_;refine qO fun K2 e1 e2 e3 e4 e5=> ?_;have hlt2:k<ws.length:=by omega
   obtain ⟨b,i1,i2,i3,i4,i5⟩:=(ow.fr fg (xZY _)).idx uI t96 tg9 rfl hlt (k:= .i64);obtain ⟨b',j1,j2,j3,j4,j5⟩:=(o.fr (f2.trans fg (by omega)) (xZY _)).idx uI t96 tg9 rfl hlt2 (k:= .i64);obtain ⟨x,hx1⟩: ∃x,x=w[k]:=⟨_,rfl⟩;obtain ⟨e,he1⟩: ∃e,e=ws[k]:=⟨_,rfl⟩;have hld:jV (hg.t.get b) (k*1)=some (sv x):=by
    rw [i4,zY,Nat.mul_one,xZW,xZV hlt,hx1];rfl
   have hld2:jV (hg.t.get b') (k*1)=some (sv e):=by
    rw [j4,zY,Nat.mul_one,xZW,xZV hlt2,he1];rfl
   rw [xZT hlt,xZT hlt2,<-hx1,<-he1] at hto;have hxl:x.length<=1000000:=by rw [hx1];exact hpart _ (List.getElem_mem hlt)
   have w3:=jE hlt (by omega);have fgh:=f2.trans fg (by omega);refine qA fun K hn hp=> ?_;simp only [sw.1,rE,reduceIte,rL,rA,rM,rD,svn.down,syw.1,sh1,nh1,g0,g1,g6,g19,g20,g21,i1,hld];apply hn;clear hn hp K;refine qL ?_;refine qA fun K hn hp=> ?_;simp only [sw.1,rE,reduceIte,rL,rA,rM,rD,svn.down,syw.1,sh1,nh1,g0,g1,g6,g19,g20,g21,j1,hld2];apply hn;clear hn hp K;by_cases he:e=[]
   ·have he':decide (e=[])=true:=decide_eq_true he;refine qF false (by simp only [sw.1,rE,reduceIte,rL,rA,rM,rD,svn.down,syw.1,sh1,nh1,g0,g1,g6,g19,g20,g21,he',Bool.not_true]) (fun hx=>by cases hx) (fun _=> ?_);refine qV ?_;have hto:zD l ws=(match wK x with|none=>none|some n=>(kP (w.drop (k+1)) (ws.drop (k+1))).map ((n:Int):: ·)).map (ns++ ·):=by
     rw [hto,kP,if_neg (fun q=>q he)]
    refine qA fun K hn hp=> ?_;simp only [sw.1,rE,reduceIte,rL,rA,rM,rD,svn.down,syw.1,sh1,nh1,g0,g1,g6,g19,g20,g21];refine qB (sok xt) (number_c xt hx hg x (by omega) (fun n hnum m hm=> ?_) (fun hnum m hm=> ?_))
    rotate_left
    ·simp only [sw.1,rE,reduceIte,rL,rA,rM,rD,svn.down,syw.1,sh1,nh1,g0,g1,g6,g19,g20,g21,kQ];refine hp _ _ _ (e5 _ _ (A5 _ _ ⟨_,rfl,fgh.up (xZX hm),?_⟩));rw [hto,hnum];exact ⟨x,rfl⟩
    simp only [sw.1,rE,reduceIte,rL,rA,rM,rD,svn.down,syw.1,sh1,nh1,g0,g1,g6,g19,g20,g21];apply hn;clear hn hp K;obtain ⟨h3,hh3⟩: ∃h3:Hp,h3=hg.up m:=⟨_,rfl⟩;have f3:Fr h2.n h2 h3:=by rw [hh3];exact fg.up (xZX hm)
    have o3:OwnSl h3 h2.n 1 3 u ns.length (ns.map iv):=by rw [hh3];exact ou.up (xZX hm)
    rw [<-hh3];clear hh3;obtain ⟨h',p1,p2,p3,p4⟩:=app65 (xt:=xt) (a:=(n:Int)) o3 f3.le (by omega);have ouo:=ou.one;refine reg fun K hn hp=> ?_;simp only [sw.1,rE,reduceIte,rL,rA,rM,rD,svn.down,syw.1,sh1,nh1,g0,g1,g6,g19,g20,g21,qQ,bs65,p1];apply hn;clear hn hp K;refine e1 _ ?_;refine reg fun K hn hp=> ?_;simp only [sw.1,rE,reduceIte,rL,rA,rM,rD,svn.down,syw.1,sh1,nh1,g0,g1,g6,g19,g20,g21,w3];apply hn;clear hn hp K;have hto2:zD l ws=(kP (w.drop (k+1)) (ws.drop (k+1))).map ((ns++[(n:Int)])++ ·):=by
     rw [hto,hnum];cases kP (w.drop (k+1)) (ws.drop (k+1))<;>simp
    refine ⟨⟨k+1,h',.sl (h3.n+1) 0 (ns.length+1) 1,ns++[(n:Int)],_,rfl,by omega,(by simp [xZZ,g0,g1,g6,g19,g20,g21]),(by simp [xZZ,g0,g1,g6,g19,g20,g21]),(by simp [xZZ,g0,g1,g6,g19,g20,g21]),(by simp [xZZ,g0,g1,g6,g19,g20,g21]),(by simp [xZZ,g0,g1,g6,g19,g20,g21]),(by simp [xZZ,g0,g1,g6,g19,g20,g21]),f3.trans p3 (xZY _),by simpa using p2,by simp;omega,hto2⟩,by simpa [xZZ,muA] using (by omega:w.length - (k+1)<w.length - k)⟩
   ·have he':decide (e=[])=false:=decide_eq_false he;refine qF true (by simp only [sw.1,rE,reduceIte,rL,rA,rM,rD,svn.down,syw.1,sh1,nh1,g0,g1,g6,g19,g20,g21,he',Bool.not_false]) (fun _=> ?_) (fun hx=>by cases hx);refine qL ?_;have hto:zD l ws=(if x=e then kP (w.drop (k+1)) (ws.drop (k+1)) else none).map (ns++ ·):=by
     rw [hto,kP,if_pos he]
    refine qA fun K hn hp=> ?_;by_cases hxe:x=e
    ·rw [if_pos hxe] at hto;simp only [sw.1,rE,reduceIte,rL,rA,rM,rD,svn.down,syw.1,sh1,nh1,g0,g1,g6,g19,g20,g21,j1,hld2,decide_eq_true hxe];refine qB (sok xt) (zU xt _ _ _ (fun _ m hm=> ?_) (fun hb=>by cases hb));simp only [sw.1,rE,reduceIte,rL,rA,rM,rD,svn.down,syw.1,sh1,nh1,g0,g1,g6,g19,g20,g21];apply hn;clear hn hp K;refine jA (e2 _ ?_);refine reg fun K hn hp=> ?_;simp only [sw.1,rE,reduceIte,rL,rA,rM,rD,svn.down,syw.1,sh1,nh1,g0,g1,g6,g19,g20,g21,w3];apply hn;clear hn hp K;refine ⟨⟨k+1,hg.up m,u,ns,_,rfl,by omega,(by simp [xZZ,g0,g1,g6,g19,g20,g21]),(by simp [xZZ,g0,g1,g6,g19,g20,g21]),(by simp [xZZ,g0,g1,g6,g19,g20,g21]),(by simp [xZZ,g0,g1,g6,g19,g20,g21]),(by simp [xZZ,g0,g1,g6,g19,g20,g21]),(by simp [xZZ,g0,g1,g6,g19,g20,g21]),fg.up (xZX hm),ou.up (xZX hm),by omega,hto⟩,by simpa [xZZ,muA] using (by omega:w.length - (k+1)<w.length - k)⟩
    ·rw [if_neg hxe] at hto;simp only [sw.1,rE,reduceIte,rL,rA,rM,rD,svn.down,syw.1,sh1,nh1,g0,g1,g6,g19,g20,g21,j1,hld2,decide_eq_false hxe];refine qB (sok xt) (zU xt _ _ _ (fun hb=>by cases hb) (fun _ m hm=> ?_));simp only [sw.1,rE,reduceIte,rL,rA,rM,rD,svn.down,syw.1,sh1,nh1,g0,g1,g6,g19,g20,g21,kQ];refine hp _ _ _ (e5 _ _ (A5 _ _ ⟨_,rfl,fgh.up (xZX hm),?_⟩));rw [hto];exact ⟨l,rfl⟩
  ·have hkl:k=w.length:=by omega
   subst hkl;have hto:zD l ws=some ns:=by
    rw [hto,xZN,hlen,xZN];simp [kP]
   refine qF false (by simp only [sw.1,rE,reduceIte,rL,rA,rM,rD,svn.down,syw.1,sh1,nh1,g0,g1,g6,g19,g20,g21,hlt]) (fun hx=>by cases hx) (fun _=> ?_);refine jA (A2 _ ?_);refine qA fun K hn hp=> ?_;simp only [sw.1,rE,reduceIte,rL,rA,rM,rD,svn.down,syw.1,sh1,nh1,g0,g1,g6,g19,g20,g21];apply hn;clear hn hp K;refine qJ (jB res92s ⟨f2.trans fg (by omega),?_⟩);rw [hto];exact ⟨u,by simp [xZZ],ou.lower (by omega)⟩
 ·exact ⟨0,h2,_,[],_,rfl,by omega,by simp [xZZ],by simp [xZZ],by simp [xZZ],by simp [xZZ],by simp [xZZ],by simp [xZZ],Fr.refl (xZY _),OwnSl.nil,by simp,by simp [zD,<-hw]⟩
end Go.Proofs.Kn
namespace Go.Ev
theorem wH {P:Program} {tb:T TE} {xt:Addr->Option Value} {h hB:Hp} {N sz by_ n:Nat} {t e:TypeId} {te ee:TE} {v:AV} {cs c:List AV} (ht:tb.get t=some te) (hd:te.d= .slice e) (he:tb.get e=some ee) (hs:ee.size=sz) (hby:ee.bytes=by_)
  (o:OwnSl h N sz e v n cs) (hN:N<=h.n) (fB:Fr h.n h hB) (nB:hB.n=h.n+1) (sB:hB.t.get h.n=some (.cells c e)) (hc:c.length=sz) (hco:c.all Go.Ev.one=true) (hl:(n+1)*by_<=140737488355328) (hl2:n+1<=9223372036854775807):
  ∃h',qZ P tb xt .append [t,t] [v,.sl h.n 0 1 sz] hB=some (.sl (h.n+1) 0 (n+1) sz,h')/\OwnSl h' N sz e (.sl (h.n+1) 0 (n+1) sz) (n+1) (cs++c)/\Fr N h h'/\h.n<h'.n/\ ∀k cs' e',e'≠e->k<h.n->h.t.get k=some (.cells cs' e')->h'.t.get k=some (.cells cs' e'):=by
 have o2:=o.fr fB (xZY _);have hsrc:=src_own (xt:=xt) (m:=1) (sz:=sz) sB (by simp [hc]) hco;obtain ⟨h',b1,b2,b3,b4,b5⟩:=o2.append2 (P:=P) (by omega) ht hd he hs hby ht hd hsrc (by omega) (by simp [hc]) hl hl2;rw [nB] at b1 b2;refine ⟨h',b1,b2,(fB.lower hN).trans b3 (by omega),by omega,fun k cs' e' hne hk hq=> ?_⟩;rw [b5 k (by omega) (fun off n' s hv=> ?_),fB.at_ k (.inl hk)]
 ·exact hq
 ·rcases o with ⟨_,_,o⟩|⟨b,o,_,_,o4,_⟩
  ·rw [hv] at o;cases o
  ·rw [hv] at o;cases o;rw [hq] at o4;cases o4;exact hne rfl
theorem OwnSl.keepT {h h':Hp} {N sz n:Nat} {e:TypeId} {v:AV} {cs:List AV} (o:OwnSl h N sz e v n cs) (hn:h.n<=h'.n) (hk: ∀k cs',k<h.n->N<=k->h.t.get k=some (.cells cs' e)->h'.t.get k=some (.cells cs' e)):OwnSl h' N sz e v n cs:=by
 rcases o with o|⟨b,h1,h2,h3,h4,h5⟩
 ·exact .inl o
 ·exact .inr ⟨b,h1,h2,Nat.lt_of_lt_of_le h3 hn,hk b cs h3 h2 h4,h5⟩
end Go.Ev
namespace Go.Proofs.Kn
open Go Go.Ev
set_option maxRecDepth 100000
set_option maxHeartbeats 4000000
structure Md where
 cells:List (List Int)
 T:Int
 H:Int
 gs:List (Int×Int×Int×Int)
 ks:List (Int×Int×Bool)
 ps:List (Int×Int)
def Md.mp (d:Md) (vc vg vk vp:AV):Mp:=⟨vc,vg,vk,vp,d.cells,d.T,d.H,d.gs,d.ks,d.ps⟩
abbrev jU:AV:= .val (.slice none 0 0)
def Md.textB (d:Md):List UInt8:=(d.mp jU jU jU jU).textB
abbrev xY:List (List UInt8):=[gP,[],[],gN,[],wD,[]]
def xK:List UInt8->Option (List Int)
 |[]=>some []
 |b::l=>match yU b.toNat with
  |none=>none
  |some x=>(xK l).map (x:: ·)
def z6 (b:Int):List (List UInt8)->Option (List (List Int))
 |[]=>some []
 |l::ls=>match xK l with
  |none=>none
  |some r=>if (r.length:Int)=b then (z6 b ls).map (r:: ·) else none
structure Rs where
 gs:List (Int×Int×Int×Int)
 ks:List (Int×Int×Bool)
 ps:List (Int×Int)
abbrev downW:List UInt8:=[32,100,111,119,110]
def kR (l:List UInt8) (r:Rs):Option Rs:=
 if (spl 32 l).headD []=vC then
  match zD l [vC,[],[],[],[]] with
  |some [a,b,c,d]=>some {r with gs:=r.gs++[(a,b,c,d)]}
  |_=>none
 else if (spl 32 l).headD []=zX then
  match zD l [zX,[],[],uD (downW.isSuffixOf l)] with
  |some [a,b]=>some {r with ks:=r.ks++[(a,b,downW.isSuffixOf l)]}
  |_=>none
 else
  match zD l [xD,[],[]] with
  |some [a,b]=>some {r with ps:=r.ps++[(a,b)]}
  |_=>none
def vG:List (List UInt8)->Rs->Option Rs
 |[],r=>some r
 |l::ls,r=>match kR l r with
  |none=>none
  |some r=>vG ls r
def kL (s:List UInt8):Option Md:=
 match zD ((spl 10 s).headD []) xY with
 |some [a,b,c,d]=>
  if a+3<=((spl 10 s).length:Int) then
   match z6 b (((spl 10 s).drop 1).take a.toNat) with
   |none=>none
   |some cells=>
    match vG (((spl 10 s).drop (a.toNat+1)).take ((spl 10 s).length - 2 - (a.toNat+1))) ⟨[],[],[]⟩ with
    |none=>none
    |some r=>some ⟨cells,c,d,r.gs,r.ks,r.ps⟩
  else none
 |_=>none
def j9 (s:List UInt8):Option Md:=(kL s).bind fun d=>if d.textB=s then some d else none
theorem numP_lt {w:List UInt8} {n:Nat} (h:wK w=some n):n<1000:=by
 unfold wK at h;split at h
 ·rename_i q;cases h;exact valP_3 q.2.2.1 q.2.1
 ·cases h
theorem u7: ∀{xs es:List (List UInt8)} {ns:List Int},kP xs es=some ns->(∀n∈ns,zJ n)/\ns.length=(es.filter fun e=>decide (e=[])).length
 |[],[],ns,h=>by simp only [kP] at h;cases h;simp
 |[],_::_,ns,h=>by simp [kP] at h
 |_::_,[],ns,h=>by simp [kP] at h
 |x::xs,e::es,ns,h=>by
  simp only [kP] at h;by_cases he:e=[]
  ·rw [if_neg (fun q=>q he)] at h;cases hn:wK x with
   |none=>rw [hn] at h;cases h
   |some n=>
    rw [hn] at h;simp only [xZS] at h;obtain ⟨ms,h1,rfl⟩:=h;obtain ⟨i1,i2⟩:=u7 h1;have hl:=numP_lt hn;refine ⟨fun m hm=> ?_,?_⟩
    ·rcases xZR.1 hm with rfl|hm
     ·exact ⟨by omega,by omega⟩
     ·exact i1 m hm
    ·rw [xZO,if_pos (by simp [he]),xZP,xZP,i2]
  ·rw [if_pos he] at h;split at h
   ·obtain ⟨i1,i2⟩:=u7 h;exact ⟨i1,by rw [xZO,if_neg (by simp [he]),i2]⟩
   ·cases h
theorem hP {l:List UInt8} {ns:List Int} {ws:List (List UInt8)} (h:zD l ws=some ns) (hw:(ws.filter fun e=>decide (e=[])).length=4): ∃a b c d,ns=[a,b,c,d]/\zJ a/\zJ b/\zJ c/\zJ d:=by
 obtain ⟨h1,h2⟩:=u7 h;rw [hw] at h2
 match ns,h1,h2 with
 |[a,b,c,d],h1,_=>exact ⟨a,b,c,d,rfl,h1 a (by simp),h1 b (by simp),h1 c (by simp),h1 d (by simp)⟩
theorem hU {l:List UInt8} {ns:List Int} {ws:List (List UInt8)} (h:zD l ws=some ns) (hw:(ws.filter fun e=>decide (e=[])).length=2): ∃a b,ns=[a,b]/\zJ a/\zJ b:=by
 obtain ⟨h1,h2⟩:=u7 h;rw [hw] at h2
 match ns,h1,h2 with
 |[a,b],h1,_=>exact ⟨a,b,rfl,h1 a (by simp),h1 b (by simp)⟩
def GR (h:Hp) (N:Nat) (v:AV) (ll:List (List Int)):Prop:=
 ∃avs:List AV,OwnSl h N 1 42 v ll.length avs/\ ∀(i:Nat) (l:List Int),ll[i]? =some l-> ∃a,avs[i]? =some a/\OwnSl h N 1 85 a l.length (l.map iv)
theorem GR.nil (h:Hp) (N:Nat):GR h N jU []:=⟨[],OwnSl.nil,fun i l hl=>by simp at hl⟩
theorem GR.keepT {h h':Hp} {N:Nat} {v:AV} {ll:List (List Int)} (g:GR h N v ll) (hn:h.n<=h'.n) (h1: ∀k cs',k<h.n->N<=k->h.t.get k=some (.cells cs' 42)->h'.t.get k=some (.cells cs' 42)) (h2: ∀k cs',k<h.n->N<=k->h.t.get k=some (.cells cs' 85)->h'.t.get k=some (.cells cs' 85)):GR h' N v ll:=by
 obtain ⟨avs,o,r⟩:=g;exact ⟨avs,o.keepT hn h1,fun i l hl=>by obtain ⟨a,q1,q2⟩:=r i l hl;exact ⟨a,q1,q2.keepT hn h2⟩⟩
theorem hZ {xt:Addr->Option Value} {h:Hp} {N sz:Nat} {e:TypeId} {v:AV} {α:Type} (f:α->List Value) (hf: ∀x,(f x).length=sz) (h0:0<sz) {l:List α} (o:OwnSl h N sz e v l.length ((l.map f).flatten.map .val)):RowAt xt h sz v (l.map f):=
 OwnSl.row (cl:=l.map f) (fun c hc=>by obtain ⟨x,_,rfl⟩:=List.mem_map.1 hc;exact hf x) h0 (by rw [xZU];exact o)
theorem flat_c1 (l:List Int):(l.map c1).flatten.map AV.val=l.map iv:=by
 induction l with
 |nil=>rfl
 |cons x l ih=>simp only [List.map_cons,List.flatten_cons,List.map_append,ih];rfl
theorem GR.grid {xt:Addr->Option Value} {h:Hp} {N:Nat} {v:AV} {ll:List (List Int)} (g:GR h N v ll):GridAt xt h 1 v (ll.map fun l=>l.map c1):=by
 obtain ⟨avs,o,r⟩:=g;rcases o with ⟨h1,h2,rfl⟩|⟨b,rfl,h2,h3,h4,h5⟩
 ·have:ll=[]:=List.length_eq_zero_iff.1 h1;subst this;exact .inl ⟨[],⟨by simp,Nat.one_pos,.inl ⟨rfl,rfl⟩⟩,rfl,fun i l hl=>by simp at hl⟩
 ·refine .inr ⟨b,0,avs,42,by rw [xZU],⟨h3,by rw [xZU];omega,h4⟩,fun i l hl=> ?_⟩;rw [xZW,xZS] at hl;obtain ⟨l',hl',rfl⟩:=hl;obtain ⟨a,q1,q2⟩:=r i l' hl';exact ⟨a,by rw [Nat.zero_add];exact q1,hZ c1 (fun _=>rfl) Nat.one_pos (by rw [flat_c1];exact q2)⟩
end Go.Proofs.Kn
namespace Go.Proofs.Kn
open Go Go.Ev
set_option maxRecDepth 100000
set_option maxHeartbeats 4000000
theorem ft39s (xt:Addr->Option Value):(SE xt).ft.get 39=some Tryz.f39:=by kernel_rfl
theorem res39s:Tryz.f39.results.toList=[.cell 2 27]:=by kernel_rfl
def AtF (xt:Addr->Option Value) (h':Hp) (n:Nat) (m:Mp):Prop:= ∀h'':Hp,h'.n<=h''.n->(∀k,n<=k->k<h'.n->h''.t.get k=h'.t.get k)->m.At xt h''
theorem AtF.at_ {xt:Addr->Option Value} {h':Hp} {n:Nat} {m:Mp} (a:AtF xt h' n m):m.At xt h':=a h' (xZY _) fun _ _ _=>rfl
def ReR (xt:Addr->Option Value) (h:Hp) (o:Option Md) (res:CR) (h':Hp):Prop:=Fr h.n h h'/\match o with
 |some d=> ∃a b c e,res= .ret (d.mp a b c e).av/\AtF xt h' (h.n+1) (d.mp a b c e)
 |none=> ∃y,res= .pan (kQ y)
def Q39 (xt:Addr->Option Value) (h:Hp) (s:List UInt8):Ex->St->Prop:=uU (SE xt) Tryz.f39 (ReR xt h (j9 s))
theorem Q39.pan {xt:Addr->Option Value} {h hg:Hp} {s y:List UInt8} {tm:T AV} {nt:Nat} (hn:j9 s=none) (f:Fr h.n h hg):Q39 xt h s (.panic (kQ y)) ⟨tm,nt,hg,[]⟩:=by
 refine ⟨hg,rfl,f,?_⟩;rw [hn];exact ⟨y,rfl⟩
theorem b96_7 (h:Hp) (a b c d e f g:List UInt8):qY tb h 96 7 [(0,sv a),(1,sv b),(2,sv c),(3,sv d),(4,sv e),(5,sv f),(6,sv g)]=some (.sl h.n 0 7 1,h.new (.cells [sv a,sv b,sv c,sv d,sv e,sv f,sv g] 9)):=by kernel_rfl
theorem bd27 (a b:Int):vZ tb 27 [(1,iv a),(2,iv b)]=some (.agg [jU,iv a,iv b,jU,jU,jU]):=by kernel_rfl
noncomputable def b39:Code:=qAT Tryz.f39.body
noncomputable def c39a:Code:=vT (vT (vT (vT (vT b39))))
abbrev z27:List AV:=[jU,iv 0,iv 0,jU,jU,jU]
structure RA (h hg:Hp) (ls:List (List UInt8)) (a b c d:Int) (u4:AV) (Mb:Nat) (vs:List AV):Prop where
 fr:Fr h.n h hg
 r:hg.t.get h.n=some (.cells z27 27)
 l:hg.t.get (h.n+1)=some (.cells (ls.map sv) 9)
 u:OwnSl hg h.n 1 3 u4 4 [iv a,iv b,iv c,iv d]
 m:hg.t.get Mb=some (.cells vs 27)
 lt:Mb<hg.n
 gt:h.n+1<Mb
theorem read_head (xt:Addr->Option Value) (hx:Lx xt) (h:Hp) (s:List UInt8) (hs:s.length<=1000000)
  (next: ∀tm hg u4 Mb a b c d,zD ((spl 10 s).headD []) xY=some [a,b,c,d]->zJ a->zJ b->zJ c->zJ d->a+3<=((spl 10 s).length:Int)->tm.get 0=some (sv s)->tm.get 2=some (.ptr h.n 0)->tm.get 3=some (.sl (h.n+1) 0 (spl 10 s).length 1)->tm.get 4=some u4->tm.get 5=some (.ptr Mb 0)->RA h hg (spl 10 s) a b c d u4 Mb [jU,iv c,iv d,jU,jU,jU]->wpc (SE xt) none c39a ⟨tm,177,hg,[]⟩ (Q39 xt h s)):
  FnA (SE xt) 39 [sv s] h (ReR xt h (j9 s)):=by
 refine FnA.walk (sok xt) (ft39s xt) rfl 177 rfl ?_;show wpc _ _ _ _ (Q39 xt h s);obtain ⟨ls,hls⟩: ∃ls,ls=spl 10 s:=⟨_,rfl⟩;have hll:ls.length<=1000001:=by rw [hls];have:=pO 10 s;omega
 have hl0:0<ls.length:=by rw [hls];exact xZQ.2 (gO 10 s)
 obtain ⟨l0,hl00⟩: ∃l0,ls[0]? =some l0:=⟨_,xZV hl0⟩;have hhd:(spl 10 s).headD []=l0:=by
  rw [<-hls];cases q:ls with
  |nil=>rw [q] at hl0;simp at hl0
  |cons x r=>rw [q] at hl00;simpa using hl00
 have hl0l:l0.length<=1000000:=Nat.le_trans (uK 10 s l0 (by rw [<-hls];exact List.mem_of_getElem? hl00)) hs;rw [hhd,<-hls] at next;refine qA fun K hn hp=> ?_;simp only [sw.1,rE,reduceIte,rL,rA,rM,rD,svn.down,syw.1,qE];apply hn;clear hn hp K;obtain ⟨h1,hh1⟩: ∃h1:Hp,h1=h.new (.cells z27 27):=⟨_,rfl⟩;rw [<-hh1];have nh1:h1.n=h.n+1:=by rw [hh1];rfl
 have sh1:h1.t.get h.n=some (.cells z27 27):=by rw [hh1];exact jO _ _
 have kh1: ∀k,k<h.n->h1.t.get k=h.t.get k:=fun k hk=>by rw [hh1];exact zW _ _ hk
 have fbh1:Fr h.n h h1:=by rw [hh1];exact (Fr.refl (xZY _)).new _
 have fh1:=fbh1;refine qA fun K hn hp=> ?_;simp only [sw.1,rE,reduceIte,rL,rA,rM,rD,svn.down,syw.1,qE,sh1,nh1];refine qB (sok xt) (split_c xt hx h1 s (by omega) 10 ?_);rw [<-hls];simp only [sw.1,rE,reduceIte,rL,rA,rM,rD,svn.down,syw.1,qE,sh1,nh1];apply hn;clear hn hp K;obtain ⟨h2,hh2⟩: ∃h2:Hp,h2=h1.new (.cells (ls.map sv) 9):=⟨_,rfl⟩;rw [<-hh2];have nh2:h2.n=h1.n+1:=by rw [hh2];rfl
 have sh2:h2.t.get h1.n=some (.cells (ls.map sv) 9):=by rw [hh2];exact jO _ _
 have kh2: ∀k,k<h1.n->h2.t.get k=h1.t.get k:=fun k hk=>by rw [hh2];exact zW _ _ hk
 have fbh2:Fr h1.n h1 h2:=by rw [hh2];exact (Fr.refl (xZY _)).new _
 have fh2:Fr h.n h h2:=fh1.trans fbh2 (by omega);simp only [nh1,Nat.add_assoc,rA] at nh2 sh2 kh2;have s1:=(kh2 h.n (by omega)).trans sh1;have ix0:qK tb 96 (.sl (h.n+1) 0 ls.length 1) (.val (.int .i64 0))=some (.ptr (h.n+1) 0):=by
  have ow:OwnSl h2 h1.n 1 9 (.sl h1.n 0 ls.length 1) ls.length (ls.map sv):= .inr ⟨h1.n,rfl,xZY _,by omega,by rw [nh1];exact sh2,by simp⟩;obtain ⟨b,i1,i2,i3,i4,i5⟩:=ow.idx uI t96 tg9 rfl hl0 (k:= .i64);have e1:gI (.val (.int .i64 0))=some (Int.ofNat 0):=rfl;have e2:Nat.blt 0 ls.length=true:=by rw [Nat.blt_eq];exact hl0
  simp [qK,uI,t96,tg9,e1,e2,show te9.size=1 from rfl]
 have ld0:(ls.map sv)[0]? =some (sv l0):=by rw [xZW,hl00];rfl
 refine qA fun K hn hp=> ?_;simp only [sw.1,rE,reduceIte,rL,rA,rM,rD,svn.down,syw.1,qE,sh1,nh1,sh2,nh2,ix0,ld0,qQ,b96_7];obtain ⟨h3,hh3⟩: ∃h3:Hp,h3=h2.new (.cells [sv gP,sv [],sv [],sv gN,sv [],sv wD,sv []] 9):=⟨_,rfl⟩;have s3:h3.t.get (h.n+2)=some (.cells [sv gP,sv [],sv [],sv gN,sv [],sv wD,sv []] 9):=by rw [hh3,<-nh2];exact jO _ _
 have n3:h3.n=h.n+3:=by rw [hh3,Hp.new_n,nh2]
 have f3:Fr h.n h h3:=by rw [hh3];exact fh2.new _
 have k3: ∀k,k<h.n+2->h3.t.get k=h2.t.get k:=fun k hk=>by rw [hh3];exact zW _ _ (by omega)
 rw [<-hh3];clear hh3;refine qB (sok xt) (FnA.mono (qBI xt hx h3 l0 hl0l (.sl (h.n+2) 0 7 1) (h.n+2) xY (zV s3 (by omega))) fun res h4 hres=> ?_);obtain ⟨f4,hr⟩:=hres;have f4h:=f3.trans f4 (by omega);cases ht:zD l0 xY with
 |none=>
  rw [ht] at hr;obtain ⟨y,rfl⟩:=hr;have hn0:j9 s=none:=by simp only [j9,kL,hhd,ht];rfl
  simp only [uL,gK];exact hp _ _ _ (Q39.pan hn0 f4h)
 |some ns=>
  obtain ⟨a,b,c,d,rfl,na,nb,nc,nd⟩:=hP ht (by decide);rw [ht] at hr;obtain ⟨u,rfl,ou⟩:=hr;have n4:=f4.le;have r1:h4.t.get h.n=some (.cells z27 27):=(f4.at_ h.n (.inl (by omega))).trans ((k3 h.n (by omega)).trans s1);have r2:h4.t.get (h.n+1)=some (.cells (ls.map sv) 9):=(f4.at_ (h.n+1) (.inl (by omega))).trans ((k3 (h.n+1) (by omega)).trans sh2);simp only [sw.1,rE,reduceIte,rL,rA,rM,rD,svn.down,syw.1,qE,sh1,nh1,nh2];apply hn;clear hn hp K;have ou1:=ou.one;obtain ⟨b0,i1,i2,i3,i4,i5⟩:=ou.idx xR rfl tg3 rfl (i:=0) (by simp) (k:= .i64);have i1:qK tb 65 u (iv 0)=some (.ptr b0 0):=i1;have hlw: ∀h',vN tb h' 96 (.sl (h.n+1) 0 ls.length 1)=some ls.length:=fun h'=>by simp [vN,uI,t96]
  have w1:IntKind.i64.wrap (a+3)=a+3:=jF _ (by have:=na.1;omega) (by have:=na.2;omega);refine qA fun K hn hp=> ?_;by_cases hge:a+3<=(ls.length:Int)
  rotate_left
  ·have hn0:j9 s=none:=by
    have:kL s=none:=by
     rw [kL,hhd,ht];show (if a+3<=((spl 10 s).length:Int) then _ else none)=none;rw [<-hls];exact if_neg hge
    rw [j9,this];rfl
   simp only [sw.1,rE,reduceIte,rL,rA,rM,rD,svn.down,syw.1,qE,sh1,nh1,nh2,i1,i4,hlw,w1,decide_eq_false hge];refine qB (sok xt) (zU xt _ _ _ (fun hb=>by cases hb) (fun _ n hn2=> ?_));simp only [sw.1,rE,reduceIte,rL,rA,rM,rD,svn.down,syw.1,qE,sh1,nh1,nh2];exact hp _ _ _ (Q39.pan hn0 (f4h.up (xZX hn2)))
  simp only [sw.1,rE,reduceIte,rL,rA,rM,rD,svn.down,syw.1,qE,sh1,nh1,nh2,i1,i4,hlw,w1,decide_eq_true hge];refine qB (sok xt) (zU xt _ _ _ (fun _ n hn2=> ?_) (fun hb=>by cases hb));simp only [sw.1,rE,reduceIte,rL,rA,rM,rD,svn.down,syw.1,qE,sh1,nh1,nh2];apply hn;clear hn hp K;obtain ⟨h5,hh5⟩: ∃h5:Hp,h5=h4.up n:=⟨_,rfl⟩;have n5:h4.n<h5.n:=by rw [hh5,Hp.up_n];exact hn2
  have t5:h5.t=h4.t:=by rw [hh5];rfl
  rw [<-hh5];clear hh5;obtain ⟨b2,j1,j2,j3,j4,j5⟩:=ou.idx xR rfl tg3 rfl (i:=2) (by simp) (k:= .i64);obtain ⟨b3,l1,l2,l3,l4,l5⟩:=ou.idx xR rfl tg3 rfl (i:=3) (by simp) (k:= .i64);have j1:qK tb 65 u (iv 2)=some (.ptr b2 2):=j1;have l1:qK tb 65 u (iv 3)=some (.ptr b3 3):=l1;rw [<-t5] at j4 l4 r1 r2;refine qCA (sok xt) 8 [7] [] [] (by kernel_rfl) fun K hn hp=> ?_;simp only [sw.1,rE,reduceIte,rL,rA,rM,rD,svn.down,syw.1,qE,sh1,nh1,nh2,syg.1,Bool.false_eq_true,j1,j4,l1,l4,bd27];obtain ⟨h6,hh6,n6,s6,k6,f6⟩:=nsE h5 (.cells z27 27) (.cells [jU,iv c,iv d,jU,jU,jU] 27);have e6:({t:=h5.t.put (some (.cells z27 27)) h5.n,n:=h5.n+1}:Hp).set h5.n (.cells [jU,iv c,iv d,jU,jU,jU] 27)=h6:=by rw [hh6];rfl
  have f4hl:=f4h.le;have f5h:Fr h.n h h5:=⟨by omega,by omega,fun k hk=>by rw [t5];exact f4h.at_ k (by omega)⟩;have ou6:OwnSl h6 h.n 1 3 u 4 [iv a,iv b,iv c,iv d]:=((show OwnSl h5 h3.n 1 3 u 4 [iv a,iv b,iv c,iv d] from OwnSl.keep ou (by omega) (fun k _ _=>by rw [t5])).fr f6 (xZY _)).lower (by omega);rw [e6];refine hn _ _ (next _ h6 u h5.n a b c d ht na nb nc nd hge (by simp [xZZ]) (by simp [xZZ]) (by simp [xZZ]) (by simp [xZZ]) (by simp [xZZ]) ⟨f5h.trans f6 (by omega),(k6 _ (by omega)).trans r1,(k6 _ (by omega)).trans r2,ou6,s6,by omega,by omega⟩)
end Go.Proofs.Kn
