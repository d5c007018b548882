/- Parts of the proof, joined by a program. -/
import Derived.Test.YtmklipblkmlojaaGreatDoorQE2
set_option linter.all false
open Nat renaming reduceEqDiff → rE, reduceLeDiff → rD, reduceAdd → rA, reduceMul → rM, reduceLT → rL
open Go.Ev.T renaming get_put → xZZ
open List renaming mem_of_getElem? → xZY, take_length → xZW, mem_nil_iff → xZV, take_succ → xZT, mem_cons → xZR, getElem?_eq_getElem → xZQ, getElem?_map → xZP, append_assoc → xZO, length_cons → xZN
open Bool renaming false_eq_true → xZX
open Nat renaming le_of_lt → xZU, le_refl → xZS
namespace Go.Proofs.Kn
open Go Go.Ev
set_option maxRecDepth 100000
set_option maxHeartbeats 4000000
noncomputable def c31c:Code:=vT c31b
theorem mk_slice (x:Int) (hx:1<=x/\x<=3) (h:Hp):xF tb h 9 (sv marksL) (some (iv (x - 1))) (some (iv x))=some (sv [mkB x]):=by
 rcases (by omega:x=1\/x=2\/x=3) with rfl|rfl|rfl<;>kernel_rfl
theorem Txt.at {m:Mp} (ht:Txt m) {k c:Nat} (hk:k<m.cells.length) (hc:c<(m.cells.getD k []).length):1<=(m.cells.getD k []).getD c 0/\(m.cells.getD k []).getD c 0<=3:=
 ht.kc _ (xZY (getD_some [] hk)) _ (xZY (getD_some 0 hc))
theorem TI.up {h1 hg:Hp} {u:AV} {ls:List (List UInt8)} (t:TI h1 hg u ls) {n:Nat} (hn:hg.n<=n):TI h1 (hg.up n) u ls:=⟨t.1.up hn,t.2.up hn⟩
theorem TI.snoc {xt:Addr->Option Value} {h1 hg:Hp} {u:AV} {ls:List (List UInt8)} (t:TI h1 hg u ls) (a:List UInt8) (hl:ls.length<=1000000): ∃h',qZ Tryz.prog tb xt .append [96,96] [u,.sl hg.n 0 1 1] (hg.new (.cells [sv a] 9))=some (.sl (hg.n+1) 0 (ls.length+1) 1,h')/\TI h1 h' (.sl (hg.n+1) 0 (ls.length+1) 1) (ls++[a])/\hg.n<h'.n:=by
 obtain ⟨h',p1,p2,p3,p4⟩:=app96 (xt:=xt) (a:=a) t.2 t.1.le (fbn hg [sv a] 9) (by rw [Hp.new_n]) (jO _ _) hl;refine ⟨h',p1,⟨t.1.trans p3 (xZS _),?_⟩,p4⟩;simpa using p2
theorem qBa {α:Type} (f:α->List UInt8) (l:List α) (k:Nat) (d:α) (hk:k<l.length):(l.take (k+1)).map f=(l.take k).map f++[f (l.getD k d)]:=by
 rw [xZT,getD_some d hk];simp
theorem rows_w (xt:Addr->Option Value) (h1:Hp) (m:Mp) (ha:m.At xt h1) (B:Nat) (hB:B<h1.n) (q1:h1.t.get B=some (.cells m.cs 27)) (ht:Txt m) (tm:T AV) (hg:Hp) (u:AV) (g1:tm.get 1=some (.ptr B 0)) (g4:tm.get 4=some u) (ti:TI h1 hg u [m.headB]) {Q:Ex->St->Prop}
  (next: ∀tm hg u,tm.get 1=some (.ptr B 0)->tm.get 4=some u->TI h1 hg u (m.headB::m.cells.map pP)->wpc (SE xt) none c31c ⟨tm,180,hg,[]⟩ Q):wpc (SE xt) none c31b ⟨tm,180,hg,[]⟩ Q:=by
 refine xB rfl ?_;have hlen:=ha.len;have hlc:=ht.lc;have qg:=(ti.1.at_ B (.inl hB)).trans q1;refine qL ?_;refine qA fun K hn hp=> ?_;simp only [sw.1,rE,reduceIte,rL,rA,rM,rD,svn.down,syw.1,hlen,g1,g4,qg];apply hn;refine qO fun KA A1 A2 A3 A4 A5=> ?_;refine jD (sok xt) (fun st=> ∃(k:Nat) (hk:Hp) (u:AV) (tm:T AV),st=⟨tm,180,hk,[]⟩/\k<=m.cells.length/\tm.get 1=some (.ptr B 0)/\tm.get 4=some (u)/\tm.get 47=some (m.vc)/\tm.get 48=some (iv m.cells.length)/\tm.get 49=some (iv k)/\TI h1 hk u (m.headB::(m.cells.take k).map pP)) (fun st=>m.cells.length - (match st.tm.get 49 with|some (.val (.int _ n))=>n.toNat|_=>0)) ?_ ?_
 ·rintro st ⟨k,hk,u,tm,rfl,hkA,g1,g4,g47,g48,g49,tk⟩;have muA:=g49;have q:decide ((k:Int)<(m.cells.length:Int))=decide (k<m.cells.length):=qG _ _;refine qA fun K hn hp=> ?_;simp only [sw.1,rE,reduceIte,rL,rA,rM,rD,svn.down,syw.1,hlen,g1,g4,g47,g48,g49,q];apply hn;by_cases hlt:k<m.cells.length
  ·refine qF true (by simp only [sw.1,rE,reduceIte,rL,rA,rM,rD,svn.down,syw.1,hlen,g1,g4,g47,g48,g49,hlt]) (fun _=> ?_) (fun hx=>by cases hx);refine qV ?_;refine qO fun K2 e1 e2 e3 e4 e5=> ?_;obtain ⟨v,i1,i2,i3,i4⟩:=(ha.fr tk.1 (xZS _)).rowD hlt;obtain ⟨l,hl⟩: ∃l,l=m.cells.getD k []:=⟨_,rfl⟩;have hll:l.length<=999:=by rw [hl];exact ht.lr _ (xZY (getD_some [] hlt))
   rw [<-hl] at i3 i4;refine qA fun K hn hp=> ?_;simp only [sw.1,rE,reduceIte,rL,rA,rM,rD,svn.down,syw.1,hlen,g1,g4,g47,g48,g49,i1,i2];apply hn;refine qA fun K hn hp=> ?_;simp only [sw.1,rE,reduceIte,rL,rA,rM,rD,svn.down,syw.1,hlen,g1,g4,g47,g48,g49];apply hn;refine qL ?_;refine qA fun K hn hp=> ?_;simp only [sw.1,rE,reduceIte,rL,rA,rM,rD,svn.down,syw.1,hlen,g1,g4,g47,g48,g49,i4];apply hn;refine qO fun KD D1 D2 D3 D4 D5=> ?_;refine jD (sok xt) (fun st=> ∃(c:Nat) (tm:T AV),st=⟨tm,180,hk,[]⟩/\c<=l.length/\tm.get 1=some (.ptr B 0)/\tm.get 4=some (u)/\tm.get 7=some (sv ((l.take c).map mkB))/\tm.get 47=some (m.vc)/\tm.get 48=some (iv m.cells.length)/\tm.get 49=some (iv k)/\tm.get 53=some (v)/\tm.get 54=some (iv l.length)/\tm.get 55=some (iv c)) (fun st=>l.length - (match st.tm.get 55 with|some (.val (.int _ n))=>n.toNat|_=>0)) ?_ ?_
   ·rintro st ⟨c,tm,rfl,hkD,g1,g4,g7,g47,g48,g49,g53,g54,g55⟩;have muD:=g55;have q2:decide ((c:Int)<(l.length:Int))=decide (c<l.length):=qG _ _;refine qA fun K hn hp=> ?_;simp only [sw.1,rE,reduceIte,rL,rA,rM,rD,svn.down,syw.1,hlen,g1,g4,g47,g48,g49,g7,g53,g54,g55,q2];apply hn;by_cases hc:c<l.length
    ·refine qF true (by simp only [sw.1,rE,reduceIte,rL,rA,rM,rD,svn.down,syw.1,hlen,g1,g4,g47,g48,g49,g7,g53,g54,g55,hc]) (fun _=> ?_) (fun hx=>by cases hx);refine qV ?_;refine qO fun K3 f1 f2 f3 f4 f5=> ?_;obtain ⟨x,hx⟩: ∃x,x=l.getD c 0:=⟨_,rfl⟩;have hx3:1<=x/\x<=3:=by rw [hx,hl];exact ht.at hlt (by rw [<-hl];exact hc)
     obtain ⟨j1,j2⟩:=i3.m58 hc;rw [<-hx] at j2;refine qA fun K hn hp=> ?_;simp only [sw.1,rE,reduceIte,rL,rA,rM,rD,svn.down,syw.1,hlen,g1,g4,g47,g48,g49,g7,g53,g54,g55,j1,j2];apply hn;have w1:IntKind.i64.wrap (x - 1)=x - 1:=jF _ (by omega) (by omega);have w2:IntKind.i64.wrap (x - 1+1)=x:=by rw [jF _ (by omega) (by omega)];omega
     have cat:=fun (ox oy:Operand)=>u0 (P:=Tryz.prog) (tb:=tb) (t:=9) (ox:=ox) (oy:=oy) ((l.take c).map mkB) [mkB x] (by simp;omega);refine reg fun K hn hp=> ?_;simp only [sw.1,rE,reduceIte,rL,rA,rM,rD,svn.down,syw.1,hlen,g1,g4,g47,g48,g49,g7,g53,g54,g55,w1,w2,cat,mk_slice x hx3,bM];apply hn;refine f1 _ ?_;have w3:=jE hc (by omega);have hs:(l.take (c+1)).map mkB=(l.take c).map mkB++[mkB x]:=by rw [xZT,getD_some 0 hc,<-hx];simp
     rw [<-hs];refine reg fun K hn hp=> ?_;simp only [sw.1,rE,reduceIte,rL,rA,rM,rD,svn.down,syw.1,hlen,g1,g4,g47,g48,g49,g7,g53,g54,g55,w3];apply hn;refine ⟨⟨c+1,_,rfl,by omega,(by simp [xZZ,g1,g4,g7,g47,g48,g49,g53,g54,g55]),(by simp [xZZ,g1,g4,g7,g47,g48,g49,g53,g54,g55]),(by simp [xZZ,g1,g4,g7,g47,g48,g49,g53,g54,g55]),(by simp [xZZ,g1,g4,g7,g47,g48,g49,g53,g54,g55]),(by simp [xZZ,g1,g4,g7,g47,g48,g49,g53,g54,g55]),(by simp [xZZ,g1,g4,g7,g47,g48,g49,g53,g54,g55]),(by simp [xZZ,g1,g4,g7,g47,g48,g49,g53,g54,g55]),(by simp [xZZ,g1,g4,g7,g47,g48,g49,g53,g54,g55]),(by simp [xZZ,g1,g4,g7,g47,g48,g49,g53,g54,g55])⟩,by simpa [xZZ,muD] using (by omega:l.length - (c+1)<l.length - c)⟩
    ·have hcl:c=l.length:=by omega
     subst hcl;rw [xZW] at g7;refine qF false (by simp only [sw.1,rE,reduceIte,rL,rA,rM,rD,svn.down,syw.1,hlen,g1,g4,g47,g48,g49,g7,g53,g54,g55,hc]) (fun hx=>by cases hx) (fun _=> ?_);refine jA (D2 _ ?_);obtain ⟨h',p1,p2,p3⟩:=tk.snoc (xt:=xt) (pP l) (by simp;omega);have ou:=tk.2.one;have el:pP l=l.map mkB:=rfl;rw [el] at p1;refine reg fun K hn hp=> ?_;simp only [sw.1,rE,reduceIte,rL,rA,rM,rD,svn.down,syw.1,hlen,g1,g4,g47,g48,g49,g7,g53,g54,g55,qQ,bs96,p1];apply hn;refine e1 _ ?_;have w3:=jE hlt (by omega);refine reg fun K hn hp=> ?_;simp only [sw.1,rE,reduceIte,rL,rA,rM,rD,svn.down,syw.1,hlen,g1,g4,g47,g48,g49,g7,g53,g54,g55,w3];apply hn;have hs:=qBa pP m.cells k [] hlt;rw [<-hl] at hs;rw [List.cons_append,<-hs] at p2;have hu:(m.headB::(m.cells.take k).map pP).length+1=k+2:=by simp;omega
     refine ⟨⟨k+1,h',.sl (hk.n+1) 0 ((m.headB::(m.cells.take k).map pP).length+1) 1,_,rfl,by omega,(by simp [xZZ,g1,g4,g47,g48,g49]),(by simp [xZZ,g1,g4,g47,g48,g49]),(by simp [xZZ,g1,g4,g47,g48,g49]),(by simp [xZZ,g1,g4,g47,g48,g49]),(by simp [xZZ,g1,g4,g47,g48,g49]),p2⟩,by simpa [xZZ,muA] using (by omega:m.cells.length - (k+1)<m.cells.length - k)⟩
   exact ⟨0,_,rfl,(by omega),(by simp [xZZ,g1,g4,g47,g48,g49]),(by simp [xZZ,g1,g4,g47,g48,g49]),(by simp [xZZ,g1,g4,g47,g48,g49]),(by simp [xZZ,g1,g4,g47,g48,g49]),(by simp [xZZ,g1,g4,g47,g48,g49]),(by simp [xZZ,g1,g4,g47,g48,g49]),(by simp [xZZ,g1,g4,g47,g48,g49]),(by simp [xZZ,g1,g4,g47,g48,g49]),(by simp [xZZ,g1,g4,g47,g48,g49])⟩
  ·have hkl:k=m.cells.length:=by omega
   subst hkl;rw [xZW] at tk;refine qF false (by simp only [sw.1,rE,reduceIte,rL,rA,rM,rD,svn.down,syw.1,hlen,g1,g4,g47,g48,g49,hlt]) (fun hx=>by cases hx) (fun _=> ?_);exact jA (A2 _ (next _ _ _ (by simp [xZZ,g1]) (by simp [xZZ,g4]) tk))
 ·exact ⟨0,_,_,_,rfl,by omega,by simp [xZZ,g1],by simp [xZZ,g4],by simp [xZZ],by simp [xZZ],by simp [xZZ],ti⟩
end Go.Proofs.Kn
namespace Go.Proofs.Kn
open Go Go.Ev
set_option maxRecDepth 100000
set_option maxHeartbeats 4000000
noncomputable def c31d:Code:=vT c31c
theorem TI.fr {h1 hg h':Hp} {u:AV} {ls:List (List UInt8)} (t:TI h1 hg u ls) (f:Fr hg.n hg h'):TI h1 h' u ls:=⟨t.1.trans f t.1.le,t.2.fr f (xZS _)⟩
theorem gauges_w (xt:Addr->Option Value) (hx:Lx xt) (h1:Hp) (m:Mp) (ha:m.At xt h1) (B:Nat) (hB:B<h1.n) (q1:h1.t.get B=some (.cells m.cs 27)) (ht:Txt m) (L:List (List UInt8)) (hL:L.length<=10000) (tm:T AV) (hg:Hp) (u:AV) (g1:tm.get 1=some (.ptr B 0)) (g4:tm.get 4=some u) (ti:TI h1 hg u L) {Q:Ex->St->Prop}
  (next: ∀tm hg u,tm.get 1=some (.ptr B 0)->tm.get 4=some u->TI h1 hg u (L++m.gs.map kM)->wpc (SE xt) none c31d ⟨tm,180,hg,[]⟩ Q):wpc (SE xt) none c31c ⟨tm,180,hg,[]⟩ Q:=by
 refine xB rfl ?_;have hlg:=fun h'=>(ha.gs).len (h':=h') wY rfl;simp only [List.length_map] at hlg;have hlc:=ht.lg;have qg:=(ti.1.at_ B (.inl hB)).trans q1;refine qL ?_;refine qA fun K hn hp=> ?_;simp only [sw.1,rE,reduceIte,rL,rA,rM,rD,svn.down,syw.1,qE,qP,qU,hlg,g1,g4,qg];apply hn;refine qO fun KA A1 A2 A3 A4 A5=> ?_;refine jD (sok xt) (fun st=> ∃(k:Nat) (hk:Hp) (u:AV) (tm:T AV),st=⟨tm,180,hk,[]⟩/\k<=m.gs.length/\tm.get 1=some (.ptr B 0)/\tm.get 4=some (u)/\tm.get 74=some (m.vg)/\tm.get 75=some (iv m.gs.length)/\tm.get 76=some (iv k)/\TI h1 hk u (L++(m.gs.take k).map kM)) (fun st=>m.gs.length - (match st.tm.get 76 with|some (.val (.int _ n))=>n.toNat|_=>0)) ?_ ?_
 ·rintro st ⟨k,hk,u,tm,rfl,hkA,g1,g4,g74,g75,g76,tk⟩;have muA:=g76;have q:decide ((k:Int)<(m.gs.length:Int))=decide (k<m.gs.length):=qG _ _;refine qA fun K hn hp=> ?_;simp only [sw.1,rE,reduceIte,rL,rA,rM,rD,svn.down,syw.1,qE,qP,qU,hlg,g1,g4,g74,g75,g76,q];apply hn;by_cases hlt:k<m.gs.length
  ·refine qF true (by simp only [sw.1,rE,reduceIte,rL,rA,rM,rD,svn.down,syw.1,qE,qP,qU,hlg,g1,g4,g74,g75,g76,hlt]) (fun _=> ?_) (fun hx=>by cases hx);refine qV ?_;refine qO fun K2 e1 e2 e3 e4 e5=> ?_;obtain ⟨x,hxg⟩: ∃x,m.gs[k]? =some x:=⟨_,xZQ hlt⟩;have hag:=ha.fr tk.1 (xZS _);have i1:=hag.gs.idx wY rfl uE rfl (i:=k) (by simpa using hlt) (k:= .i64);have i2:=hag.gs.loadA uE rfl rfl (i:=k) (c:=Kn.g4 x) (by rw [xZP,hxg];rfl);obtain ⟨n1,n2,n3,n4⟩:=ht.gs x (xZY hxg);have hs:(m.gs.take (k+1)).map kM=(m.gs.take k).map kM++[kM x]:=by rw [xZT,hxg];simp
   obtain ⟨xr,xc,xs,xo⟩:=x;simp only [Kn.g4,List.map_cons,List.map_nil] at i2 n1 n2 n3 n4;refine qA fun K hn hp=> ?_;simp only [sw.1,rE,reduceIte,rL,rA,rM,rD,svn.down,syw.1,qE,qP,qU,hlg,g1,g4,g74,g75,g76,i1,i2];apply hn;obtain ⟨h9,hh9⟩: ∃h9:Hp,h9=(hk.new (.cells [iv 0,iv 0,iv 0,iv 0] 87)).set hk.n (.cells [iv xr,iv xc,iv xs,iv xo] 87):=⟨_,rfl⟩;have nh9:h9.n=hk.n+1:=by rw [hh9];rfl
   have sh9:h9.t.get hk.n=some (.cells [iv xr,iv xc,iv xs,iv xo] 87):=by rw [hh9,Hp.set_t,xZZ,if_pos rfl]
   have kh9: ∀k,k<hk.n->h9.t.get k=hk.t.get k:=fun k hk=>by rw [hh9];exact yM _ _ _ hk
   have fbh9:Fr hk.n hk h9:=by rw [hh9];exact yN _ _ _
   have fh9:=fbh9;rw [<-hh9];refine reg fun K hn hp=> ?_;simp only [sw.1,rE,reduceIte,rL,rA,rM,rD,svn.down,syw.1,qE,qP,qU,hlg,g1,g4,g74,g75,g76,sh9,qQ,b65_4];refine qB (sok xt) (xP xt hx _ _ h9.n [xr,xc,xs,xo] (zV (jO _ _) (by rw [Hp.new_n];omega)) (by simp) (by simp) (by intro x hx;simp only [xZR,xZV,or_false] at hx;rcases hx with rfl|rfl|rfl|rfl<;>assumption) fun m1 hm1=> ?_)
   obtain ⟨h10,hh10⟩: ∃h10:Hp,h10=(h9.new (.cells [iv xr,iv xc,iv xs,iv xo] 3)).up m1:=⟨_,rfl⟩;have f10:Fr hk.n hk h10:=by rw [hh10];exact (fh9.new _).up (xZU hm1)
   rw [<-hh10];clear hh10;simp only [sw.1,rE,reduceIte,rL,rA,rM,rD,svn.down,syw.1,qE,qP,qU,hlg,g1,g4,g74,g75,g76,qQ,b96_2];refine qB (sok xt) (qAB xt _ _ h10.n [vC,vQ [xr,xc,xs,xo]] (zV (jO _ _) (by rw [Hp.new_n];omega)) (by simp) (by simp) (Nat.le_trans (k7 (by
    have d1:=vP [xr,xc,xs,xo];simp only [xZN,List.length_nil] at d1;intro x hx;simp only [xZR,xZV,or_false] at hx;rcases hx with rfl|rfl
    ·simp
    ·omega) (by simp)) (by omega)) fun m2 hm2=> ?_)
   obtain ⟨h11,hh11⟩: ∃h11:Hp,h11=(h10.new (.cells [sv vC,sv (vQ [xr,xc,xs,xo])] 9)).up m2:=⟨_,rfl⟩;have f11:Fr hk.n hk h11:=by rw [hh11];exact (f10.new _).up (xZU hm2)
   rw [<-hh11];clear hh11;obtain ⟨h',p1,p2,p3⟩:=(tk.fr f11).snoc (xt:=xt) (kM (xr,xc,xs,xo)) (by simp;omega);have ou:=tk.2.one;have el:kM (xr,xc,xs,xo)=zT [vC,vQ [xr,xc,xs,xo]]:=rfl;rw [el] at p1;simp only [sw.1,rE,reduceIte,rL,rA,rM,rD,svn.down,syw.1,qE,qP,qU,hlg,g1,g4,g74,g75,g76,qQ,bs96,p1];refine hn _ _ (e1 _ ?_);have w3:=jE hlt (by omega);refine reg fun K hn hp=> ?_;simp only [sw.1,rE,reduceIte,rL,rA,rM,rD,svn.down,syw.1,qE,qP,qU,hlg,g1,g4,g74,g75,g76,w3];apply hn;rw [xZO,<-hs] at p2;refine ⟨⟨k+1,h',.sl (h11.n+1) 0 ((L++(m.gs.take k).map kM).length+1) 1,_,rfl,by omega,(by simp [xZZ,g1,g4,g74,g75,g76]),(by simp [xZZ,g1,g4,g74,g75,g76]),(by simp [xZZ,g1,g4,g74,g75,g76]),(by simp [xZZ,g1,g4,g74,g75,g76]),(by simp [xZZ,g1,g4,g74,g75,g76]),p2⟩,by simpa [xZZ,muA] using (by omega:m.gs.length - (k+1)<m.gs.length - k)⟩
  ·have hkl:k=m.gs.length:=by omega
   subst hkl;rw [xZW] at tk;refine qF false (by simp only [sw.1,rE,reduceIte,rL,rA,rM,rD,svn.down,syw.1,qE,qP,qU,hlg,g1,g4,g74,g75,g76,hlt]) (fun hx=>by cases hx) (fun _=> ?_);exact jA (A2 _ (next _ _ _ (by simp [xZZ,g1]) (by simp [xZZ,g4]) tk))
 ·exact ⟨0,_,u,_,rfl,by omega,by simp [xZZ,g1],by simp [xZZ,g4],by simp [xZZ],by simp [xZZ],by simp [xZZ],by simpa using ti⟩
end Go.Proofs.Kn
namespace Go.Proofs.Kn
open Go Go.Ev
set_option maxRecDepth 100000
set_option maxHeartbeats 4000000
noncomputable def c31e:Code:=vT c31d
theorem cracks_w (xt:Addr->Option Value) (hx:Lx xt) (h1:Hp) (m:Mp) (ha:m.At xt h1) (B:Nat) (hB:B<h1.n) (q1:h1.t.get B=some (.cells m.cs 27)) (ht:Txt m) (L:List (List UInt8)) (hL:L.length<=10000) (tm:T AV) (hg:Hp) (u:AV) (g1:tm.get 1=some (.ptr B 0)) (g4:tm.get 4=some u) (ti:TI h1 hg u L) {Q:Ex->St->Prop}
  (next: ∀tm hg u,tm.get 1=some (.ptr B 0)->tm.get 4=some u->TI h1 hg u (L++m.ks.map kO)->wpc (SE xt) none c31e ⟨tm,180,hg,[]⟩ Q):wpc (SE xt) none c31d ⟨tm,180,hg,[]⟩ Q:=by
 refine xB rfl ?_;have hlg:=fun h'=>(ha.ks).len (h':=h') wX rfl;simp only [List.length_map] at hlg;have hlc:=ht.lk;have qg:=(ti.1.at_ B (.inl hB)).trans q1;refine qL ?_;refine qA fun K hn hp=> ?_;simp only [sw.1,rE,reduceIte,rL,rA,rM,rD,svn.down,syw.1,qE,qP,qU,hlg,g1,g4,qg];apply hn;refine qO fun KA A1 A2 A3 A4 A5=> ?_;refine jD (sok xt) (fun st=> ∃(k:Nat) (hk:Hp) (u:AV) (tm:T AV),st=⟨tm,180,hk,[]⟩/\k<=m.ks.length/\tm.get 1=some (.ptr B 0)/\tm.get 4=some (u)/\tm.get 97=some (m.vk)/\tm.get 98=some (iv m.ks.length)/\tm.get 99=some (iv k)/\TI h1 hk u (L++(m.ks.take k).map kO)) (fun st=>m.ks.length - (match st.tm.get 99 with|some (.val (.int _ n))=>n.toNat|_=>0)) ?_ ?_
 ·rintro st ⟨k,hk,u,tm,rfl,hkA,g1,g4,g97,g98,g99,tk⟩;have muA:=g99;have q:decide ((k:Int)<(m.ks.length:Int))=decide (k<m.ks.length):=qG _ _;refine qA fun K hn hp=> ?_;simp only [sw.1,rE,reduceIte,rL,rA,rM,rD,svn.down,syw.1,qE,qP,qU,hlg,g1,g4,g97,g98,g99,q];apply hn;by_cases hlt:k<m.ks.length
  ·refine qF true (by simp only [sw.1,rE,reduceIte,rL,rA,rM,rD,svn.down,syw.1,qE,qP,qU,hlg,g1,g4,g97,g98,g99,hlt]) (fun _=> ?_) (fun hx=>by cases hx);refine qV ?_;refine qO fun K2 e1 e2 e3 e4 e5=> ?_;obtain ⟨x,hxg⟩: ∃x,m.ks[k]? =some x:=⟨_,xZQ hlt⟩;have hag:=ha.fr tk.1 (xZS _);have i1:=hag.ks.idx wX rfl uJ rfl (i:=k) (by simpa using hlt) (k:= .i64);have i2:=hag.ks.loadA uJ rfl rfl (i:=k) (c:=Kn.k3 x) (by rw [xZP,hxg];rfl);obtain ⟨n1,n2⟩:=ht.ks x (xZY hxg);have hs:(m.ks.take (k+1)).map kO=(m.ks.take k).map kO++[kO x]:=by rw [xZT,hxg];simp
   obtain ⟨xr,xc,xd⟩:=x;simp only [Kn.k3,List.map_cons,List.map_nil] at i2 n1 n2;refine qA fun K hn hp=> ?_;simp only [sw.1,rE,reduceIte,rL,rA,rM,rD,svn.down,syw.1,qE,qP,qU,hlg,g1,g4,g97,g98,g99,i1,i2];apply hn;obtain ⟨h9,hh9⟩: ∃h9:Hp,h9=(hk.new (.cells [iv 0,iv 0,.val (.bool false)] 90)).set hk.n (.cells [iv xr,iv xc,.val (.bool xd)] 90):=⟨_,rfl⟩;have nh9:h9.n=hk.n+1:=by rw [hh9];rfl
   have sh9:h9.t.get hk.n=some (.cells [iv xr,iv xc,.val (.bool xd)] 90):=by rw [hh9,Hp.set_t,xZZ,if_pos rfl]
   have kh9: ∀k,k<hk.n->h9.t.get k=hk.t.get k:=fun k hk=>by rw [hh9];exact yM _ _ _ hk
   have fbh9:Fr hk.n hk h9:=by rw [hh9];exact yN _ _ _
   have fh9:=fbh9;rw [<-hh9];refine regG (sok xt) 13 [5,10,12] [(6,[5]),(9,[5]),(11,[5,10])] [(8,0)] (by kernel_rfl) fun K hn hp=> ?_;simp only [sw.1,rE,reduceIte,rL,rA,rM,rD,svn.down,syw.1,qE,qP,qU,hlg,g1,g4,g97,g98,g99,sh9,syg.1,xZX,qQ,b65_2];obtain ⟨hA,hhA,nA,sA,kA,fA⟩:=newE h9 (.cells [iv xr,iv xc] 3);have eA:({t:=h9.t.put (some (.cells [iv xr,iv xc] 3)) h9.n,n:=h9.n+1}:Hp)=hA:=by rw [hhA];rfl
   rw [eA];refine qB (sok xt) (xP xt hx hA _ h9.n [xr,xc] (zV sA (by omega)) (by simp) (by simp) (by intro x hx;simp only [xZR,xZV,or_false] at hx;rcases hx with rfl|rfl<;>assumption) fun m1 hm1=> ?_)
   obtain ⟨h10,hh10⟩: ∃h10:Hp,h10=hA.up m1:=⟨_,rfl⟩;have f10:Fr hk.n hk h10:=by rw [hh10];exact (fh9.trans fA (by omega)).up (xZU hm1)
   have q10:h10.t.get hk.n=some (.cells [iv xr,iv xc,.val (.bool xd)] 90):=by rw [hh10];exact (kA hk.n (by omega)).trans sh9
   have lt10:h9.n+1<h10.n:=by rw [hh10,Hp.up_n];omega
   rw [<-hh10];clear hhA hh10;simp only [sw.1,rE,reduceIte,rL,rA,rM,rD,svn.down,syw.1,qE,qP,qU,hlg,g1,g4,g97,g98,g99,sh9,q10,syg.1,xZX,uV lt10];refine qB (sok xt) (way_c xt h10 xd fun m2 hm2=> ?_);obtain ⟨hB',hhB⟩: ∃hB':Hp,hB'=h10.up m2:=⟨_,rfl⟩;have fB:Fr hk.n hk hB':=by rw [hhB];exact f10.up (xZU hm2)
   have ltB:h10.n<hB'.n:=by rw [hhB,Hp.up_n];omega
   rw [<-hhB];clear hhB;simp only [sw.1,rE,reduceIte,rL,rA,rM,rD,svn.down,syw.1,qE,qP,qU,hlg,g1,g4,g97,g98,g99,sh9,syg.1,xZX,uV ltB,qQ,b96_3];obtain ⟨hC,hhC,nC,sC,kC,fC⟩:=newE hB' (.cells [sv zX,sv (vQ [xr,xc]),sv (uD xd)] 9);have eC:({t:=hB'.t.put (some (.cells [sv zX,sv (vQ [xr,xc]),sv (uD xd)] 9)) hB'.n,n:=hB'.n+1}:Hp)=hC:=by rw [hhC];rfl
   rw [eC];refine qB (sok xt) (qAB xt hC _ hB'.n [zX,vQ [xr,xc],uD xd] (zV sC (by omega)) (by simp) (by simp) (Nat.le_trans (k7 (by
    have d1:=vP [xr,xc];simp only [xZN,List.length_nil] at d1;intro x hx;simp only [xZR,xZV,or_false] at hx;rcases hx with rfl|rfl|rfl
    ·simp
    ·omega
    ·cases xd<;>simp [uD]) (by simp)) (by omega)) fun m3 hm3=> ?_)
   obtain ⟨h11,hh11⟩: ∃h11:Hp,h11=hC.up m3:=⟨_,rfl⟩;have f11:Fr hk.n hk h11:=by rw [hh11];exact (fB.trans fC (by have:=fB.le;omega)).up (xZU hm3)
   have lt11:hB'.n+1<h11.n:=by rw [hh11,Hp.up_n];omega
   rw [<-hh11];clear hhC hh11;obtain ⟨h',p1,p2,p3⟩:=(tk.fr f11).snoc (xt:=xt) (kO (xr,xc,xd)) (by simp;omega);have ou:=tk.2.one;have el:kO (xr,xc,xd)=zT [zX,vQ [xr,xc],uD xd]:=rfl;rw [el] at p1;have e11:({t:=h11.t.put (some (.cells [sv (zT [zX,vQ [xr,xc],uD xd])] 9)) h11.n,n:=h11.n+1}:Hp)=h11.new (.cells [sv (zT [zX,vQ [xr,xc],uD xd])] 9):=rfl;simp only [sw.1,rE,reduceIte,rL,rA,rM,rD,svn.down,syw.1,qE,qP,qU,hlg,g1,g4,g97,g98,g99,sh9,syg.1,xZX,uV lt11,qQ,bs96,e11,p1];refine hn _ _ (e1 _ ?_);have w3:=jE hlt (by omega);refine reg fun K hn hp=> ?_;simp only [sw.1,rE,reduceIte,rL,rA,rM,rD,svn.down,syw.1,qE,qP,qU,hlg,g1,g4,g97,g98,g99,sh9,w3];apply hn;rw [xZO,<-hs] at p2;refine ⟨⟨k+1,h',.sl (h11.n+1) 0 ((L++(m.ks.take k).map kO).length+1) 1,_,rfl,by omega,(by simp [xZZ,g1,g4,g97,g98,g99]),(by simp [xZZ,g1,g4,g97,g98,g99]),(by simp [xZZ,g1,g4,g97,g98,g99]),(by simp [xZZ,g1,g4,g97,g98,g99]),(by simp [xZZ,g1,g4,g97,g98,g99]),p2⟩,by simpa [xZZ,muA] using (by omega:m.ks.length - (k+1)<m.ks.length - k)⟩
  ·have hkl:k=m.ks.length:=by omega
   subst hkl;rw [xZW] at tk;refine qF false (by simp only [sw.1,rE,reduceIte,rL,rA,rM,rD,svn.down,syw.1,qE,qP,qU,hlg,g1,g4,g97,g98,g99,hlt]) (fun hx=>by cases hx) (fun _=> ?_);exact jA (A2 _ (next _ _ _ (by simp [xZZ,g1]) (by simp [xZZ,g4]) tk))
 ·exact ⟨0,_,u,_,rfl,by omega,by simp [xZZ,g1],by simp [xZZ,g4],by simp [xZZ],by simp [xZZ],by simp [xZZ],by simpa using ti⟩
end Go.Proofs.Kn
