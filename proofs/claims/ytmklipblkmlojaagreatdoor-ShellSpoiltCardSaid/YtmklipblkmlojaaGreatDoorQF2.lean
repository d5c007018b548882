/- Parts of the proof, joined by a program. -/
import Derived.Test.YtmklipblkmlojaaGreatDoorQF1
import Derived.Test.YtmklipblkmlojaaGreatDoorQE8
import Derived.Test.YtmklipblkmlojaaGreatDoorQE6
set_option linter.all false
open Nat renaming reduceEqDiff → rE, reduceLeDiff → rD, reduceAdd → rA, reduceMul → rM, reduceLT → rL
namespace Go.Ev
theorem OwnSl.part {xt:Addr->Option Value} {h:Hp} {N sz n:Nat} {e:TypeId} {v:AV} {cs:List AV} (o:OwnSl h N sz e v n cs) (hn:0<n) {i j:Nat} (hi:i<=j) (hj:j<=n) {cl:List (List Value)} (h0:0<sz) (hsz: ∀c∈cl,c.length=sz) (hl:cl.length=j - i) (hc: ∀(k:Nat) (c:List Value),cl[k]? =some c-> ∀(q:Nat) (u:Value),c[q]? =some u->cs[i*sz+(k*sz+q)]? =some (.val u)) {tb:T TE} {t:TypeId} {te ee:TE} (ht:tb.get t=some te) (hd:te.d= .slice e) (he:tb.get e=some ee) (hs:ee.size=sz):
  ∃b,v= .sl b 0 n sz/\b<h.n/\N<=b/\RowAt xt h sz (.sl b (i*sz) (j - i) sz) cl:=by
 rcases o with ⟨rfl,_,_⟩|⟨b,rfl,h1,h2,h3,h4⟩
 ·exact absurd hn (by omega)
 ·refine ⟨b,rfl,h2,h1,hsz,h0,.inr (.inr ⟨b,i*sz,cs,e,by rw [hl],⟨h2,?_,h3⟩,fun k c q j' u hu=>hc k c q j' u hu⟩)⟩;rw [hl,h4,<-Nat.add_mul];exact Nat.mul_le_mul_right _ (by omega)
end Go.Ev
namespace Go.Proofs.Kn
open Go Go.Ev
set_option maxRecDepth 100000
set_option maxHeartbeats 4000000
theorem res13s:Tryz.f13.results.toList=[.cell 2 27,.tmp 3]:=by kernel_rfl
def cellR (b:UInt8):Int:=if b=111 then 3 else if b=35 then 2 else 1
def rowR (l:List UInt8):List Int:=l.map cellR
def rowsR (b:Int):List (List UInt8)->Option (List (List Int))
 |[]=>some []
 |l::ls=>if (l.length:Int)=b then (rowsR b ls).map (rowR l:: ·) else none
def lineR (l:List UInt8) (r:Rs):Option Rs:=
 if (spl 32 l).headD []=vC then
  match numsP ((spl 32 l).drop 1) with
  |some [a,b,c,d]=>some {r with gs:=r.gs++[(a,b,c,d)]}
  |_=>none
 else if (spl 32 l).headD []=zX then
  if (spl 32 l).length=4 then
   match numsP (((spl 32 l).take 3).drop 1) with
   |some [a,b]=>some {r with ks:=r.ks++[(a,b,decide ((spl 32 l).getD 3 []=[100,111,119,110]))]}
   |_=>none
  else none
 else if (spl 32 l).headD []=xD then
  match numsP ((spl 32 l).drop 1) with
  |some [a,b]=>some {r with ps:=r.ps++[(a,b)]}
  |_=>none
 else none
def restR:List (List UInt8)->Rs->Option Rs
 |[],r=>some r
 |l::ls,r=>match lineR l r with
  |none=>none
  |some r=>restR ls r
def headR (hw:List (List UInt8)):Option (List Int):=if hw.length=7 then numsP [hw.getD 1 [],hw.getD 2 [],hw.getD 4 [],hw.getD 6 []] else none
def parseR (s:List UInt8):Option Md:=
 match headR (spl 32 ((spl 10 s).headD [])) with
 |some [a,b,c,d]=>
  if a+3<=((spl 10 s).length:Int) then
   match rowsR b (((spl 10 s).drop 1).take a.toNat) with
   |none=>none
   |some cells=>
    match restR (((spl 10 s).drop (a.toNat+1)).take ((spl 10 s).length - 2 - (a.toNat+1))) ⟨[],[],[]⟩ with
    |none=>none
    |some r=>some ⟨cells,c,d,r.gs,r.ks,r.ps⟩
  else none
 |_=>none
def refP (s:List UInt8):Option Md:=(parseR s).bind fun d=>if d.textB=s then some d else none
def RfR (xt:Addr->Option Value) (h:Hp) (o:Option Md) (res:CR) (h':Hp):Prop:=Fr h.n h h'/\match o with
 |some d=> ∃a b c e,res= .ret (.tup [(d.mp a b c e).av,.val (.bool true)])/\(d.mp a b c e).At xt h'
 |none=>res= .ret (.tup [.agg z27,.val (.bool false)])
def Q13 (xt:Addr->Option Value) (h:Hp) (s:List UInt8):Ex->St->Prop:=uU (SE xt) Tryz.f13 (RfR xt h (refP s))
theorem Q13.no {xt:Addr->Option Value} {h hg:Hp} {s:List UInt8} {tm:T AV} {nt:Nat} (hn:refP s=none) (f:Fr h.n h hg) (hr:hg.t.get h.n=some (.cells z27 27)) (g2:tm.get 2=some (.ptr h.n 0)) (g3:tm.get 3=some (.val (.bool false))):Q13 xt h s .ret ⟨tm,nt,hg,[]⟩:=by
 refine qAO (v:= .agg z27) res13s ?_ ⟨f,?_⟩
 ·simp only [sw.1,rE,reduceIte,rL,rA,rM,rD,svn.down,syw.1,qE,qD,qC,g2,hr]
 ·rw [hn,g3];rfl
structure SB (h hg:Hp) (ls:List (List UInt8)) (ns:List Int) (v5 v7:AV) (vs:List AV):Prop where
 fr:Fr h.n h hg
 r:hg.t.get h.n=some (.cells z27 27)
 m:hg.t.get (h.n+1)=some (.cells vs 27)
 l:OwnSl hg (h.n+2) 1 9 v5 ls.length (ls.map sv)
 u:OwnSl hg (h.n+2) 1 3 v7 ns.length (ns.map iv)
 lt:h.n+2<=hg.n
end Go.Proofs.Kn
namespace Go.Proofs.Kn
open Go Go.Ev
set_option maxRecDepth 100000
set_option maxHeartbeats 4000000
theorem SB.keep {h hg h':Hp} {ls:List (List UInt8)} {ns:List Int} {v5 v7:AV} {vs:List AV} (r:SB h hg ls ns v5 v7 vs) (f:Fr hg.n hg h'):SB h h' ls ns v5 v7 vs:=by
 have h1:=r.fr.le;have h2:=r.lt;have h4:=f.le;exact ⟨r.fr.trans f h1,(f.at_ _ (.inl (by omega))).trans r.r,(f.at_ _ (.inl (by omega))).trans r.m,r.l.fr f (Nat.le_refl _),r.u.fr f (Nat.le_refl _),by omega⟩
theorem SB.step {h hg h':Hp} {ls:List (List UInt8)} {ns:List Int} {v5 v7:AV} {e:Nat} {vs vs':List AV} (r:SB h hg ls ns v5 v7 vs) (f:Fr (h.n+2) hg h') (hp: ∀k cs' e',e'≠e->k<hg.n->hg.t.get k=some (.cells cs' e')->h'.t.get k=some (.cells cs' e')) (he:e≠27/\e≠9/\e≠3):SB h (h'.set (h.n+1) (.cells vs' 27)) ls ns v5 v7 vs':=by
 have h1:=r.fr.le;have h2:=r.lt;have h4:=f.le;have gs: ∀k,k≠h.n+1->(h'.set (h.n+1) (.cells vs' 27)).t.get k=h'.t.get k:=fun k hk=>by rw [Hp.set_t,T.get_put,if_neg hk]
 refine ⟨(r.fr.trans f (by omega)).set (by omega) (by omega) _,?_,?_,?_,?_,by rw [Hp.set_n];omega⟩
 ·rw [gs _ (by omega)];exact hp _ _ _ (Ne.symm he.1) (by omega) r.r
 ·rw [Hp.set_t,T.get_put,if_pos rfl]
 ·refine r.l.keepT (by rw [Hp.set_n];omega) fun k cs q1 q2 q3=> ?_;rw [gs _ (by omega)];exact hp _ _ _ (Ne.symm he.2.1) q1 q3
 ·refine r.u.keepT (by rw [Hp.set_n];omega) fun k cs q1 q2 q3=> ?_;rw [gs _ (by omega)];exact hp _ _ _ (Ne.symm he.2.2) q1 q3
end Go.Proofs.Kn
