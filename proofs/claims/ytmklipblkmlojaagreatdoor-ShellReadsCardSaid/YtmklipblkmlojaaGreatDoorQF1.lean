/- Parts of the proof, joined by a program. -/
import Derived.Test.YtmklipblkmlojaaGreatDoorQE9
import Derived.Test.YtmklipblkmlojaaGreatDoorQE4
set_option linter.all false
open Nat renaming reduceEqDiff → rE, reduceLeDiff → rD, reduceAdd → rA, reduceMul → rM, reduceLT → rL
open Go.Ev.T renaming get_put → xZZ
open List renaming length_append → xZY, getElem?_eq_getElem → xZW, length_cons → xZV, append_assoc → xZU, take_length → xZT, length_nil → xZS, length_singleton → xZR, take_succ → xZQ, getElem?_map → xZP, mem_nil_iff → xZO, length_take → xZN, cons_append → xZM, mem_cons → xZK, mem_of_getElem? → xZI
open Bool renaming false_eq_true → xZX
open Nat renaming le_refl → xZL, le_of_lt → xZJ
namespace Go.Proofs.Kn
open Go Go.Ev
set_option maxRecDepth 100000
set_option maxHeartbeats 4000000
noncomputable def c11e:Code:=zR c11d
noncomputable def c11f:Code:=zR c11e
theorem cracks_r (xt:Addr->Option Value) (h1:Hp) (m:Mp) (ha:m.At xt h1) (B:Nat) (hB:B<h1.n) (q1:h1.t.get B=some (.cells m.cs 27)) (ht:Txt m) (L:List (List UInt8)) (hL:L.length<=10000) (tm:T AV) (hg:Hp) (u:AV) (g1:tm.get 1=some (.ptr B 0)) (g3:tm.get 3=some u) (ti:TI h1 hg u L) {Q:Ex->St->Prop}
  (next: ∀tm hg u,tm.get 1=some (.ptr B 0)->tm.get 3=some u->TI h1 hg u (L++m.ks.map jH)->wpc (SE xt) none c11e ⟨tm,216,hg,[]⟩ Q):wpc (SE xt) none c11d ⟨tm,216,hg,[]⟩ Q:=by
 refine vC rfl ?_;have hlg:=fun h'=>(ha.ks).len (h':=h') wJ rfl;simp only [List.length_map] at hlg;have hlc:=ht.lk;refine qG ?_;refine qA fun K hn hp=> ?_;simp only [sw.1,rE,reduceIte,rL,rA,rM,rD,svn.down,syw.1,qB,qO,qS,hlg,g1,g3];apply hn;refine qI fun KA A1 A2 A3 A4 A5=> ?_;refine qY (sok xt) (fun st=> ∃(k:Nat) (hk:Hp) (u:AV) (tm:T AV),st=⟨tm,216,hk,[]⟩/\k<=m.ks.length/\tm.get 1=some (.ptr B 0)/\tm.get 3=some (u)/\tm.get 10=some (iv k)/\TI h1 hk u (L++(m.ks.take k).map jH)) (fun st=>m.ks.length - (match st.tm.get 10 with|some (.val (.int _ n))=>n.toNat|_=>0)) ?_ ?_
 ·rintro st ⟨k,hk,u,tm,rfl,hkA,g1,g3,g10,tk⟩;have muA:=g10;have q:decide ((k:Int)<(m.ks.length:Int))=decide (k<m.ks.length):=qJ _ _;have qk:=(tk.1.at_ B (.inl hB)).trans q1;refine qG ?_;refine qA fun K hn hp=> ?_;simp only [sw.1,rE,reduceIte,rL,rA,rM,rD,svn.down,syw.1,qB,qO,qS,hlg,g1,g3,g10,qk,q];apply hn;by_cases hlt:k<m.ks.length
  ·refine qF true (by simp only [sw.1,rE,reduceIte,rL,rA,rM,rD,svn.down,syw.1,qB,qO,qS,hlg,g1,g3,g10,hlt]) (fun _=> ?_) (fun hx=>by cases hx);refine qN ?_;refine qI fun K2 e1 e2 e3 e4 e5=> ?_;obtain ⟨x,hxg⟩: ∃x,m.ks[k]? =some x:=⟨_,xZW hlt⟩;have hag:=ha.fr tk.1 (xZL _);have i1:=hag.ks.idx wJ rfl x6 rfl (i:=k) (by simpa using hlt) (k:= .i64);obtain ⟨n1,n2⟩:=ht.ks x (xZI hxg);have hs:(m.ks.take (k+1)).map jH=(m.ks.take k).map jH++[jH x]:=by rw [xZQ,hxg];simp
   have hc:(m.ks.map Kn.k3)[k]? =some (Kn.k3 x):=by rw [xZP,hxg];rfl
   have hne:m.ks.map Kn.k3≠[]:=by intro e;rw [e] at hc;cases hc
   obtain ⟨xr,xc,xd⟩:=x;have a0:qU tb 90 (elp m.vk (k*3)) 0=some (elp m.vk (k*3+0)):=hag.ks.fa hne x6 rfl rfl _;have a1:qU tb 90 (elp m.vk (k*3)) 1=some (elp m.vk (k*3+1)):=hag.ks.fa hne x6 rfl rfl _;have a2:qU tb 90 (elp m.vk (k*3)) 2=some (elp m.vk (k*3+2)):=hag.ks.fa hne x6 rfl rfl _;have l0:qZ tb xt hk 3 (elp m.vk (k*3+0))=some (iv xr):=hag.ks.load tg3 rfl hc rfl;have l1:qZ tb xt hk 3 (elp m.vk (k*3+1))=some (iv xc):=hag.ks.load tg3 rfl hc rfl;have l2:qZ tb xt hk 4 (elp m.vk (k*3+2))=some (.val (.bool xd)):=hag.ks.load tg4 rfl hc rfl;rw [Nat.add_zero] at a0 l0;simp only at n1 n2;have wl:=vY [xr,xc];simp only [xZV,xZS] at wl;obtain ⟨Y,hY⟩: ∃Y,Y=zB++zN [xr,xc]:=⟨_,rfl⟩;have hyl:Y.length<=100:=by rw [hY];simp only [xZY,xZV,xZS];omega
   have c1:=fun ox oy=>pN hY (by omega) ox oy;have hZ:jH (xr,xc,xd)=Y++32::yN xd:=by rw [hY];exact (crackB_r _).symm
   have hzl:(jH (xr,xc,xd)).length<=200:=by rw [hZ];cases xd<;>simp only [xZY,xZV,xZS,yN,xZX,reduceIte]<;>omega
   cases xd
   ·have c2: ∀ox oy,vG Tryz.prog tb .add 9 ox oy (sv Y) (sv [32,114,105,103,104,116])=some (sv (jH (xr,xc,false))):=fun ox oy=>pN hZ (by omega) ox oy;refine qA fun K hn hp=> ?_;simp only [sw.1,rE,reduceIte,rL,rA,rM,rD,svn.down,syw.1,qB,qO,qS,hlg,g1,g3,g10];apply hn;refine qG ?_;refine qA fun K hn hp=> ?_;simp only [sw.1,rE,reduceIte,rL,rA,rM,rD,svn.down,syw.1,qB,qO,qS,hlg,g1,g3,g10,qk,i1,a2,l2];apply hn;refine qF false (by simp only [sw.1,rE,reduceIte,rL,rA,rM,rD,svn.down,syw.1,qB,qO,qS,hlg,g1,g3,g10]) (fun hx=>by cases hx) (fun _=> ?_);refine qN ?_;refine regG (sok xt) 19 [13,18] [(14,[13])] [] (by kernel_rfl) fun K hn hp=> ?_;simp only [sw.1,rE,reduceIte,rL,rA,rM,rD,svn.down,syw.1,qB,qO,qS,hlg,g1,g3,g10,qk,i1,a0,a1,l0,l1,syg.1,xZX,qH,uU];obtain ⟨hA,hhA,nA,sA,kA,fA⟩:=gA hk (.cells [iv xr,iv xc] 3);have eA:({t:=hk.t.put (some (.cells [iv xr,iv xc] 3)) hk.n,n:=hk.n+1}:Hp)=hA:=by rw [hhA];rfl
    rw [eA];refine qE (sok xt) (uW xt hA _ hk.n [xr,xc] (j6 sA (by omega)) (by simp) (by intro x hx;simp only [xZK,xZO,or_false] at hx;rcases hx with rfl|rfl<;>assumption) fun m1 hm1=> ?_)
    obtain ⟨h10,hh10⟩: ∃h10:Hp,h10=hA.up m1:=⟨_,rfl⟩;have f10:Fr hk.n hk h10:=by rw [hh10];exact fA.up (xZJ hm1)
    have lt10:hk.n+1<h10.n:=by rw [hh10,Hp.up_n];omega
    rw [<-hh10];clear hhA hh10;obtain ⟨h',p1,p2,p3⟩:=(tk.fr f10).snoc (xt:=xt) (jH (xr,xc,false)) (by simp;omega);have ou:=tk.2.one;have e11:({t:=h10.t.put (some (.cells [sv (jH (xr,xc,false))] 9)) h10.n,n:=h10.n+1}:Hp)=h10.new (.cells [sv (jH (xr,xc,false))] 9):=rfl;simp only [sw.1,rE,reduceIte,rL,rA,rM,rD,svn.down,syw.1,qB,qO,qS,hlg,g1,g3,g10,syg.1,xZX,zS lt10,c1,c2,qH,gE,e11,p1];refine hn _ _ (e1 _ ?_);have w3:=qW hlt (by omega);refine reg fun K hn hp=> ?_;simp only [sw.1,rE,reduceIte,rL,rA,rM,rD,svn.down,syw.1,qB,qO,qS,hlg,g1,g3,g10,w3];apply hn;rw [xZU,<-hs] at p2;refine ⟨⟨k+1,h',.sl (h10.n+1) 0 ((L++(m.ks.take k).map jH).length+1) 1,_,rfl,by omega,(by simp [xZZ,g1,g3,g10]),(by simp [xZZ,g1,g3,g10]),(by simp [xZZ,g1,g3,g10]),p2⟩,by simpa [xZZ,muA] using (by omega:m.ks.length - (k+1)<m.ks.length - k)⟩
   ·have c2: ∀ox oy,vG Tryz.prog tb .add 9 ox oy (sv Y) (sv [32,100,111,119,110])=some (sv (jH (xr,xc,true))):=fun ox oy=>pN hZ (by omega) ox oy;refine qA fun K hn hp=> ?_;simp only [sw.1,rE,reduceIte,rL,rA,rM,rD,svn.down,syw.1,qB,qO,qS,hlg,g1,g3,g10];apply hn;refine qG ?_;refine qA fun K hn hp=> ?_;simp only [sw.1,rE,reduceIte,rL,rA,rM,rD,svn.down,syw.1,qB,qO,qS,hlg,g1,g3,g10,qk,i1,a2,l2];apply hn;refine qF true (by simp only [sw.1,rE,reduceIte,rL,rA,rM,rD,svn.down,syw.1,qB,qO,qS,hlg,g1,g3,g10]) (fun _=> ?_) (fun hx=>by cases hx);refine qA fun K hn hp=> ?_;simp only [sw.1,rE,reduceIte,rL,rA,rM,rD,svn.down,syw.1,qB,qO,qS,hlg,g1,g3,g10];apply hn;refine regG (sok xt) 19 [13,18] [(14,[13])] [] (by kernel_rfl) fun K hn hp=> ?_;simp only [sw.1,rE,reduceIte,rL,rA,rM,rD,svn.down,syw.1,qB,qO,qS,hlg,g1,g3,g10,qk,i1,a0,a1,l0,l1,syg.1,xZX,qH,uU];obtain ⟨hA,hhA,nA,sA,kA,fA⟩:=gA hk (.cells [iv xr,iv xc] 3);have eA:({t:=hk.t.put (some (.cells [iv xr,iv xc] 3)) hk.n,n:=hk.n+1}:Hp)=hA:=by rw [hhA];rfl
    rw [eA];refine qE (sok xt) (uW xt hA _ hk.n [xr,xc] (j6 sA (by omega)) (by simp) (by intro x hx;simp only [xZK,xZO,or_false] at hx;rcases hx with rfl|rfl<;>assumption) fun m1 hm1=> ?_)
    obtain ⟨h10,hh10⟩: ∃h10:Hp,h10=hA.up m1:=⟨_,rfl⟩;have f10:Fr hk.n hk h10:=by rw [hh10];exact fA.up (xZJ hm1)
    have lt10:hk.n+1<h10.n:=by rw [hh10,Hp.up_n];omega
    rw [<-hh10];clear hhA hh10;obtain ⟨h',p1,p2,p3⟩:=(tk.fr f10).snoc (xt:=xt) (jH (xr,xc,true)) (by simp;omega);have ou:=tk.2.one;have e11:({t:=h10.t.put (some (.cells [sv (jH (xr,xc,true))] 9)) h10.n,n:=h10.n+1}:Hp)=h10.new (.cells [sv (jH (xr,xc,true))] 9):=rfl;simp only [sw.1,rE,reduceIte,rL,rA,rM,rD,svn.down,syw.1,qB,qO,qS,hlg,g1,g3,g10,syg.1,xZX,zS lt10,c1,c2,qH,gE,e11,p1];refine hn _ _ (e1 _ ?_);have w3:=qW hlt (by omega);refine reg fun K hn hp=> ?_;simp only [sw.1,rE,reduceIte,rL,rA,rM,rD,svn.down,syw.1,qB,qO,qS,hlg,g1,g3,g10,w3];apply hn;rw [xZU,<-hs] at p2;refine ⟨⟨k+1,h',.sl (h10.n+1) 0 ((L++(m.ks.take k).map jH).length+1) 1,_,rfl,by omega,(by simp [xZZ,g1,g3,g10]),(by simp [xZZ,g1,g3,g10]),(by simp [xZZ,g1,g3,g10]),p2⟩,by simpa [xZZ,muA] using (by omega:m.ks.length - (k+1)<m.ks.length - k)⟩
  ·have hkl:k=m.ks.length:=by omega
   subst hkl;rw [xZT] at tk;refine qF false (by simp only [sw.1,rE,reduceIte,rL,rA,rM,rD,svn.down,syw.1,qB,qO,qS,hlg,g1,g3,g10,hlt]) (fun hx=>by cases hx) (fun _=> ?_);exact qX (A2 _ (next _ _ _ (by simp [xZZ,g1]) (by simp [xZZ,g3]) tk))
 ·exact ⟨0,_,u,_,rfl,by omega,by simp [xZZ,g1],by simp [xZZ,g3],by simp [xZZ],by simpa using ti⟩
end Go.Proofs.Kn
namespace Go.Proofs.Kn
open Go Go.Ev
set_option maxRecDepth 100000
set_option maxHeartbeats 4000000
theorem probes_r (xt:Addr->Option Value) (h1:Hp) (m:Mp) (ha:m.At xt h1) (B:Nat) (hB:B<h1.n) (q1:h1.t.get B=some (.cells m.cs 27)) (ht:Txt m) (L:List (List UInt8)) (hL:L.length<=10000) (tm:T AV) (hg:Hp) (u:AV) (g1:tm.get 1=some (.ptr B 0)) (g3:tm.get 3=some u) (ti:TI h1 hg u L) {Q:Ex->St->Prop}
  (next: ∀tm hg u,tm.get 1=some (.ptr B 0)->tm.get 3=some u->TI h1 hg u (L++m.ps.map jN)->wpc (SE xt) none c11f ⟨tm,216,hg,[]⟩ Q):wpc (SE xt) none c11e ⟨tm,216,hg,[]⟩ Q:=by
 refine vC rfl ?_;have hlg:=fun h'=>(ha.ps).len (h':=h') wI rfl;simp only [List.length_map] at hlg;have hlc:=ht.lp;refine qG ?_;refine qA fun K hn hp=> ?_;simp only [sw.1,rE,reduceIte,rL,rA,rM,rD,svn.down,syw.1,qB,qO,qS,hlg,g1,g3];apply hn;refine qI fun KA A1 A2 A3 A4 A5=> ?_;refine qY (sok xt) (fun st=> ∃(k:Nat) (hk:Hp) (u:AV) (tm:T AV),st=⟨tm,216,hk,[]⟩/\k<=m.ps.length/\tm.get 1=some (.ptr B 0)/\tm.get 3=some (u)/\tm.get 12=some (iv k)/\TI h1 hk u (L++(m.ps.take k).map jN)) (fun st=>m.ps.length - (match st.tm.get 12 with|some (.val (.int _ n))=>n.toNat|_=>0)) ?_ ?_
 ·rintro st ⟨k,hk,u,tm,rfl,hkA,g1,g3,g12,tk⟩;have muA:=g12;have q:decide ((k:Int)<(m.ps.length:Int))=decide (k<m.ps.length):=qJ _ _;have qk:=(tk.1.at_ B (.inl hB)).trans q1;refine qG ?_;refine qA fun K hn hp=> ?_;simp only [sw.1,rE,reduceIte,rL,rA,rM,rD,svn.down,syw.1,qB,qO,qS,hlg,g1,g3,g12,qk,q];apply hn;by_cases hlt:k<m.ps.length
  ·refine qF true (by simp only [sw.1,rE,reduceIte,rL,rA,rM,rD,svn.down,syw.1,qB,qO,qS,hlg,g1,g3,g12,hlt]) (fun _=> ?_) (fun hx=>by cases hx);refine qN ?_;refine qI fun K2 e1 e2 e3 e4 e5=> ?_;obtain ⟨x,hxg⟩: ∃x,m.ps[k]? =some x:=⟨_,xZW hlt⟩;have hag:=ha.fr tk.1 (xZL _);have i1:=hag.ps.idx wI rfl kT rfl (i:=k) (by simpa using hlt) (k:= .i64);obtain ⟨n1,n2⟩:=ht.ps x (xZI hxg);have hs:(m.ps.take (k+1)).map jN=(m.ps.take k).map jN++[jN x]:=by rw [xZQ,hxg];simp
   have hc:(m.ps.map Kn.p2)[k]? =some (Kn.p2 x):=by rw [xZP,hxg];rfl
   have hne:m.ps.map Kn.p2≠[]:=by intro e;rw [e] at hc;cases hc
   obtain ⟨xr,xc⟩:=x;have a0:qU tb 92 (elp m.vp (k*2)) 0=some (elp m.vp (k*2+0)):=hag.ps.fa hne kT rfl rfl _;have a1:qU tb 92 (elp m.vp (k*2)) 1=some (elp m.vp (k*2+1)):=hag.ps.fa hne kT rfl rfl _;have l0:qZ tb xt hk 3 (elp m.vp (k*2+0))=some (iv xr):=hag.ps.load tg3 rfl hc rfl;have l1:qZ tb xt hk 3 (elp m.vp (k*2+1))=some (iv xc):=hag.ps.load tg3 rfl hc rfl;rw [Nat.add_zero] at a0 l0;simp only at n1 n2;have wl:=vY [xr,xc];simp only [xZV,xZS] at wl;have hzl:(jN (xr,xc)).length<=100:=by rw [<-qDm];simp only [xZY,xZV,xZS];omega
   have c1:=fun ox oy=>pN (qDm (xr,xc)).symm (by omega) ox oy;refine regG (sok xt) 17 [13,16] [(14,[13])] [] (by kernel_rfl) fun K hn hp=> ?_;simp only [sw.1,rE,reduceIte,rL,rA,rM,rD,svn.down,syw.1,qB,qO,qS,hlg,g1,g3,g12,qk,i1,a0,a1,l0,l1,syg.1,xZX,qH,uU];obtain ⟨hA,hhA,nA,sA,kA,fA⟩:=gA hk (.cells [iv xr,iv xc] 3);have eA:({t:=hk.t.put (some (.cells [iv xr,iv xc] 3)) hk.n,n:=hk.n+1}:Hp)=hA:=by rw [hhA];rfl
   rw [eA];refine qE (sok xt) (uW xt hA _ hk.n [xr,xc] (j6 sA (by omega)) (by simp) (by intro x hx;simp only [xZK,xZO,or_false] at hx;rcases hx with rfl|rfl<;>assumption) fun m1 hm1=> ?_)
   obtain ⟨h10,hh10⟩: ∃h10:Hp,h10=hA.up m1:=⟨_,rfl⟩;have f10:Fr hk.n hk h10:=by rw [hh10];exact fA.up (xZJ hm1)
   have lt10:hk.n+1<h10.n:=by rw [hh10,Hp.up_n];omega
   rw [<-hh10];clear hhA hh10;obtain ⟨h',p1,p2,p3⟩:=(tk.fr f10).snoc (xt:=xt) (jN (xr,xc)) (by simp;omega);have ou:=tk.2.one;have e11:({t:=h10.t.put (some (.cells [sv (jN (xr,xc))] 9)) h10.n,n:=h10.n+1}:Hp)=h10.new (.cells [sv (jN (xr,xc))] 9):=rfl;simp only [sw.1,rE,reduceIte,rL,rA,rM,rD,svn.down,syw.1,qB,qO,qS,hlg,g1,g3,g12,syg.1,xZX,zS lt10,c1,qH,gE,e11,p1];refine hn _ _ (e1 _ ?_);have w3:=qW hlt (by omega);refine reg fun K hn hp=> ?_;simp only [sw.1,rE,reduceIte,rL,rA,rM,rD,svn.down,syw.1,qB,qO,qS,hlg,g1,g3,g12,w3];apply hn;rw [xZU,<-hs] at p2;refine ⟨⟨k+1,h',.sl (h10.n+1) 0 ((L++(m.ps.take k).map jN).length+1) 1,_,rfl,by omega,(by simp [xZZ,g1,g3,g12]),(by simp [xZZ,g1,g3,g12]),(by simp [xZZ,g1,g3,g12]),p2⟩,by simpa [xZZ,muA] using (by omega:m.ps.length - (k+1)<m.ps.length - k)⟩
  ·have hkl:k=m.ps.length:=by omega
   subst hkl;rw [xZT] at tk;refine qF false (by simp only [sw.1,rE,reduceIte,rL,rA,rM,rD,svn.down,syw.1,qB,qO,qS,hlg,g1,g3,g12,hlt]) (fun hx=>by cases hx) (fun _=> ?_);exact qX (A2 _ (next _ _ _ (by simp [xZZ,g1]) (by simp [xZZ,g3]) tk))
 ·exact ⟨0,_,u,_,rfl,by omega,by simp [xZZ,g1],by simp [xZZ,g3],by simp [xZZ],by simpa using ti⟩
end Go.Proofs.Kn
namespace Go.Proofs.Kn
open Go Go.Ev
set_option maxRecDepth 100000
set_option maxHeartbeats 4000000
noncomputable def c11g:Code:=zR (zR c11f)
def nlB (ls:List (List UInt8)):List UInt8:=ls.flatMap fun l=>l++[10]
theorem nlB_take {ls:List (List UInt8)} {k:Nat} (hk:k<ls.length):nlB (ls.take (k+1))=nlB (ls.take k)++(ls[k]++[10]):=by
 rw [xZQ,xZW hk,nlB,nlB,List.flatMap_append];simp
theorem nlB_len: ∀{ls:List (List UInt8)},(∀l∈ls,l.length<=20000)->(nlB ls).length<=ls.length*20001
 |[],_=>Nat.zero_le _
 |l::ls,h=>by
  have h1:=h l List.mem_cons_self;have h2:=nlB_len fun x hx=>h x (List.mem_cons_of_mem _ hx);have e:nlB (l::ls)=(l++[10])++nlB ls:=by simp [nlB]
  rw [e,xZY,xZY,xZR,xZV,Nat.succ_mul];omega
theorem nlB_lt {ls:List (List UInt8)} (h: ∀l∈ls,l.length<=20000) (hl:ls.length<=20000) (k:Nat):(nlB (ls.take k)).length<=400020000:=by
 have h1:=nlB_len (ls:=ls.take k) fun l hl=>h l (List.mem_of_mem_take hl);have h2:(ls.take k).length<=20000:=by rw [xZN];omega
 have:=Nat.mul_le_mul_right 20001 h2;omega
theorem qBf (e:List UInt8): ∀ls:List (List UInt8),Lib.join (ls++[e]) [10]=nlB ls++e
 |[]=>by simp [nlB,Lib.join_cons,Lib.joinTail]
 |l::ls=>by
  have h:=qBf e ls;have e1:nlB (l::ls)=(l++[10])++nlB ls:=by simp [nlB]
  rw [e1,xZM,Lib.join_cons,xZU];cases ls with
  |nil=>simp [nlB,Lib.joinTail]
  |cons x xs=>
   rw [xZM,Lib.join_cons] at h;simp only [xZM,Lib.joinTail,List.map_cons,List.flatten_cons] at h ⊢;rw [<-h];simp
theorem sums_r (xt:Addr->Option Value) (h1:Hp) (ls:List (List UInt8)) (hll: ∀l∈ls,l.length<=20000) (hln:ls.length<=20000) (tm:T AV) (hg:Hp) (u:AV) (g3:tm.get 3=some u) (ti:TI h1 hg u ls) {Q:Ex->St->Prop}
  (next: ∀tm,tm.get 13=some (sv (nlB ls))->tm.get 14=some (iv (vZ ls:Nat))->wpc (SE xt) none c11g ⟨tm,216,hg,[]⟩ Q):wpc (SE xt) none c11f ⟨tm,216,hg,[]⟩ Q:=by
 refine vC rfl ?_;have hlu:=fun h'=>ti.2.len (tb:=tb) vN t96 (h':=h');refine qA fun K hn hp=> ?_;simp only [sw.1,rE,reduceIte,rL,rA,rM,rD,svn.down,syw.1,qB,qO,qS,hlu];apply hn;refine qG ?_;refine qA fun K hn hp=> ?_;simp only [sw.1,rE,reduceIte,rL,rA,rM,rD,svn.down,syw.1,qB,qO,qS,hlu,g3];apply hn;refine qI fun KA A1 A2 A3 A4 A5=> ?_;refine qY (sok xt) (fun st=> ∃(k:Nat) (tm:T AV),st=⟨tm,216,hg,[]⟩/\k<=ls.length/\tm.get 3=some (u)/\tm.get 13=some (sv (nlB (ls.take k)))/\tm.get 14=some (iv (vZ (ls.take k):Nat))/\tm.get 15=some (iv k)) (fun st=>ls.length - (match st.tm.get 15 with|some (.val (.int _ n))=>n.toNat|_=>0)) ?_ ?_
 ·rintro st ⟨k,tm,rfl,hkA,g3,g13,g14,g15⟩;have muA:=g15;have q:decide ((k:Int)<(ls.length:Int))=decide (k<ls.length):=qJ _ _;refine qG ?_;refine qA fun K hn hp=> ?_;simp only [sw.1,rE,reduceIte,rL,rA,rM,rD,svn.down,syw.1,qB,qO,qS,hlu,g3,g13,g14,g15,q];apply hn;by_cases hlt:k<ls.length
  ·refine qF true (by simp only [sw.1,rE,reduceIte,rL,rA,rM,rD,svn.down,syw.1,qB,qO,qS,hlu,g3,g13,g14,g15,hlt]) (fun _=> ?_) (fun hx=>by cases hx);refine qN ?_;refine qI fun K2 e1 e2 e3 e4 e5=> ?_;obtain ⟨b,i1,i2,i3,i4,i5⟩:=ti.2.idx vN t96 tg9 rfl hlt (k:= .i64);obtain ⟨l,hl⟩: ∃l,l=ls[k]:=⟨_,rfl⟩;have hl2:l.length<=20000:=by rw [hl];exact hll _ (List.getElem_mem hlt)
   have hld:jV (hg.t.get b) (k*1)=some (sv l):=by
    rw [i4,zC,Nat.mul_one,xZP,xZW hlt,hl];rfl
   refine qG ?_;refine qA fun K hn hp=> ?_;simp only [sw.1,rE,reduceIte,rL,rA,rM,rD,svn.down,syw.1,qB,qO,qS,hlu,g3,g13,g14,g15];apply hn;refine qI fun KD D1 D2 D3 D4 D5=> ?_;refine qY (sok xt) (fun st=> ∃(c:Nat) (tm:T AV),st=⟨tm,216,hg,[]⟩/\c<=l.length/\tm.get 3=some (u)/\tm.get 13=some (sv (nlB (ls.take k)))/\tm.get 14=some (iv (vZ (ls.take k)+xA 0 (l.take c):Nat))/\tm.get 15=some (iv k)/\tm.get 16=some (iv c)) (fun st=>l.length - (match st.tm.get 16 with|some (.val (.int _ n))=>n.toNat|_=>0)) ?_ ?_
   ·rintro st ⟨c,tm,rfl,hkD,g3,g13,g14,g15,g16⟩;have muD:=g16;have q2:decide ((c:Int)<(l.length:Int))=decide (c<l.length):=qJ _ _;refine qG ?_;refine qA fun K hn hp=> ?_;simp only [sw.1,rE,reduceIte,rL,rA,rM,rD,svn.down,syw.1,qB,qO,qS,hlu,g3,g13,g14,g15,g16,i1,hld,q2];apply hn;by_cases hc:c<l.length
    ·refine qF true (by simp only [sw.1,rE,reduceIte,rL,rA,rM,rD,svn.down,syw.1,qB,qO,qS,hlu,g3,g13,g14,g15,g16,hc]) (fun _=> ?_) (fun hx=>by cases hx);refine qN ?_;refine qI fun K3 f1 f2 f3 f4 f5=> ?_;have ix:=ix9 l hc;have hb1:=x7 hll hln k;have hb2:xA 0 (l.take (c+1))<=102400000000:=chkL_b (by rw [xZN];omega);have ht:l.take (c+1)=l.take c++[l[c]]:=by rw [xZQ,xZW hc];rfl
     have hcs:xA 0 (l.take (c+1))=xA 0 (l.take c)+(l[c]).toNat*(c+1):=by
      rw [ht,qAd,xZN,Nat.min_eq_left (by omega)];simp
     have h256:(l[c]).toNat<256:=UInt8.toNat_lt _;have hm:(l[c]).toNat*(c+1)<=102400000000:=by omega
     have w1:IntKind.i64.wrap ((l[c]).toNat:Int)=((l[c]).toNat:Int):=jA _ (by omega) (by omega);have w2:IntKind.i64.wrap ((c:Int)+1)=((c+1:Nat):Int):=qW hc (by omega);have w3:IntKind.i64.wrap (((l[c]).toNat:Int)*((c+1:Nat):Int))=(((l[c]).toNat*(c+1):Nat):Int):=by
      rw [<-Int.natCast_mul,jA _ (by omega) (by omega)]
     have w4:IntKind.i64.wrap (((vZ (ls.take k)+xA 0 (l.take c):Nat):Int)+(((l[c]).toNat*(c+1):Nat):Int))=((vZ (ls.take k)+xA 0 (l.take (c+1)):Nat):Int):=by
      rw [jA _ (by omega) (by omega),hcs];omega
     refine reg fun K hn hp=> ?_;simp only [sw.1,rE,reduceIte,rL,rA,rM,rD,svn.down,syw.1,qB,qO,qS,hlu,g3,g13,g14,g15,g16,i1,hld,ix,cv53,w1,w2,w3,w4];apply hn;refine f1 _ ?_;refine reg fun K hn hp=> ?_;simp only [sw.1,rE,reduceIte,rL,rA,rM,rD,svn.down,syw.1,qB,qO,qS,hlu,g3,g13,g14,g15,g16,w2];apply hn;refine ⟨⟨c+1,_,rfl,by omega,(by simp [xZZ,g3,g13,g14,g15,g16]),(by simp [xZZ,g3,g13,g14,g15,g16]),(by simp [xZZ,g3,g13,g14,g15,g16]),(by simp [xZZ,g3,g13,g14,g15,g16]),(by simp [xZZ,g3,g13,g14,g15,g16])⟩,by simpa [xZZ,muD] using (by omega:l.length - (c+1)<l.length - c)⟩
    ·have hcl:c=l.length:=by omega
     subst hcl;rw [xZT] at g14;refine qF false (by simp only [sw.1,rE,reduceIte,rL,rA,rM,rD,svn.down,syw.1,qB,qO,qS,hlu,g3,g13,g14,g15,g16,hc]) (fun hx=>by cases hx) (fun _=> ?_);refine qX (D2 _ ?_);have hs:=qB5 hlt;rw [<-hl] at hs;rw [<-hs] at g14;have w3:=qW hlt (by omega);have hnl:=nlB_take hlt;rw [<-hl] at hnl;have nb:=nlB_lt hll hln (k+1);have nb':=nb;rw [hnl,xZY,xZY,xZR] at nb';have a1:=fun (ox oy:Operand)=>kY (P:=Tryz.prog) (tb:=tb) (t:=9) (ox:=ox) (oy:=oy) (nlB (ls.take k)) l (by omega);have a2:=fun (ox oy:Operand)=>pN (c:=nlB (ls.take (k+1))) (a:=nlB (ls.take k)++l) (b:=[10]) (by rw [hnl,xZU]) (by omega) ox oy;refine reg fun K hn hp=> ?_;simp only [sw.1,rE,reduceIte,rL,rA,rM,rD,svn.down,syw.1,qB,qO,qS,hlu,g3,g13,g14,g15,g16,i1,hld,a1,a2];apply hn;refine e1 _ ?_;refine reg fun K hn hp=> ?_;simp only [sw.1,rE,reduceIte,rL,rA,rM,rD,svn.down,syw.1,qB,qO,qS,hlu,g3,g13,g14,g15,g16,w3];apply hn;refine ⟨⟨k+1,_,rfl,by omega,(by simp [xZZ,g3,g13,g14,g15]),(by simp [xZZ,g3,g13,g14,g15]),(by simp [xZZ,g3,g13,g14,g15]),(by simp [xZZ,g3,g13,g14,g15])⟩,by simpa [xZZ,muA] using (by omega:ls.length - (k+1)<ls.length - k)⟩
   ·exact ⟨0,_,rfl,(by omega),(by simp [xZZ,g3]),(by simp [xZZ,g13]),(by simp [xZZ,g14,xA]),(by simp [xZZ,g15]),(by simp [xZZ])⟩
  ·have hkl:k=ls.length:=by omega
   subst hkl;rw [xZT] at g13 g14;refine qF false (by simp only [sw.1,rE,reduceIte,rL,rA,rM,rD,svn.down,syw.1,qB,qO,qS,hlu,g3,g13,g14,g15,hlt]) (fun hx=>by cases hx) (fun _=> ?_);exact qX (A2 _ (next _ (by simp [xZZ,g13]) (by simp [xZZ,g14])))
 ·exact ⟨0,_,rfl,by omega,by simp [xZZ,g3],by simp [xZZ,nlB],by simp [xZZ,vZ],by simp [xZZ]⟩
end Go.Proofs.Kn
namespace Go.Proofs.Kn
open Go Go.Ev
set_option maxRecDepth 100000
set_option maxHeartbeats 4000000
theorem end_r (xt:Addr->Option Value) (h:Hp) (tm:T AV) (hg:Hp) (hf:Fr h.n h hg) (ls:List (List UInt8)) (hll: ∀l∈ls,l.length<=20000) (hln:ls.length<=20000) (g13:tm.get 13=some (sv (nlB ls))) (g14:tm.get 14=some (iv (vZ ls:Nat))):
  wpc (SE xt) none c11g ⟨tm,216,hg,[]⟩ (wU (SE xt) Tryz.f11 (fun r h'=>r= .ret (sv (Lib.join (ls++[uI (vZ ls % 101)]) [10]++[10]))/\Fr h.n h h')):=by
 refine vC rfl ?_;have hs:=x7 hll hln ls.length;rw [xZT] at hs;have hnl:=nlB_lt hll hln ls.length;rw [xZT] at hnl;obtain ⟨c,hc⟩: ∃c,c=vZ ls % 101:=⟨_,rfl⟩;have hc1:c<101:=by rw [hc];exact Nat.mod_lt _ (by omega)
 have r1:=fun (ox oy:Operand)=>x5 (P:=Tryz.prog) (t:=3) (ox:=ox) (oy:=oy) (vZ ls:Nat) 101 (by omega);have r1':((vZ ls:Nat):Int).tmod 101=(c:Int):=by rw [hc];rfl
 rw [r1'] at r1;refine qA fun K hn hp=> ?_;simp only [sw.1,rE,reduceIte,rL,rA,rM,rD,svn.down,syw.1,qB,qO,qS,g13,g14,r1];apply hn;have d1:=fun (ox oy:Operand)=>wZ (P:=Tryz.prog) (t:=3) (ox:=ox) (oy:=oy) (c:Int) 100 (by omega);have d2:=fun (ox oy:Operand)=>wZ (P:=Tryz.prog) (t:=3) (ox:=ox) (oy:=oy) (c:Int) 10 (by omega);have d3:=fun (ox oy:Operand)=>x5 (P:=Tryz.prog) (t:=3) (ox:=ox) (oy:=oy) ((c / 10:Nat):Int) 10 (by omega);have d4:=fun (ox oy:Operand)=>x5 (P:=Tryz.prog) (t:=3) (ox:=ox) (oy:=oy) (c:Int) 10 (by omega);have v1:IntKind.i64.wrap ((c:Int).tdiv 100)=((c / 100:Nat):Int):=by
  have:(c:Int).tdiv 100=((c / 100:Nat):Int):=by simp
  rw [this,jA _ (by omega) (by omega)]
 have v2:IntKind.i64.wrap ((c:Int).tdiv 10)=((c / 10:Nat):Int):=by
  have:(c:Int).tdiv 10=((c / 10:Nat):Int):=by simp
  rw [this,jA _ (by omega) (by omega)]
 have v3:(((c / 10:Nat):Int)).tmod 10=((c / 10 % 10:Nat):Int):=rfl;have v4:((c:Int)).tmod 10=((c % 10:Nat):Int):=rfl;rw [v1] at d1;rw [v2] at d2;rw [v3] at d3;rw [v4] at d4;have l1:=yB (c / 100);have l2:=yB (c / 10 % 10);have l3:=yB (c % 10);obtain ⟨E1,hE1⟩: ∃E1,E1=nlB ls++endW:=⟨_,rfl⟩;have m1:E1.length<=500000000:=by rw [hE1];simp only [xZY,xZV,xZS];omega
 obtain ⟨E2,hE2⟩: ∃E2,E2=E1++dec (c / 100):=⟨_,rfl⟩;have m2:E2.length<=500000010:=by rw [hE2];simp only [xZY];omega
 obtain ⟨E3,hE3⟩: ∃E3,E3=E2++dec (c / 10 % 10):=⟨_,rfl⟩;have m3:E3.length<=500000020:=by rw [hE3];simp only [xZY];omega
 obtain ⟨E4,hE4⟩: ∃E4,E4=E3++dec (c % 10):=⟨_,rfl⟩;have m4:E4.length<=500000030:=by rw [hE4];simp only [xZY];omega
 obtain ⟨E5,hE5⟩: ∃E5,E5=E4++[10]:=⟨_,rfl⟩;have m5:E5.length<=500000040:=by rw [hE5];simp only [xZY,xZR];omega
 have k1:=fun ox oy=>pN hE1 (by omega) ox oy;have k2:=fun ox oy=>pN hE2 (by omega) ox oy;have k3:=fun ox oy=>pN hE3 (by omega) ox oy;have k4:=fun ox oy=>pN hE4 (by omega) ox oy;have k5:=fun ox oy=>pN hE5 (by omega) ox oy;have hfin:Lib.join (ls++[uI c]) [10]++[10]=E5:=by
  rw [qBf,hE5,hE4,hE3,hE2,hE1,uI];simp only [xZU]
 rw [<-hc,hfin];refine qA fun K hn hp=> ?_;simp only [sw.1,rE,reduceIte,rL,rA,rM,rD,svn.down,syw.1,qB,qO,qS,g13,d1,d2,d3,d4,k1];refine qE (sok xt) (uT xt _ (c / 100) (by omega) fun n1 hn1=> ?_);simp only [sw.1,rE,reduceIte,rL,rA,rM,rD,svn.down,syw.1,qB,qO,qS,k2,d1,d2,d3,d4];refine qE (sok xt) (uT xt _ (c / 10 % 10) (by omega) fun n2 hn2=> ?_);simp only [sw.1,rE,reduceIte,rL,rA,rM,rD,svn.down,syw.1,qB,qO,qS,k3,d1,d2,d3,d4];refine qE (sok xt) (uT xt _ (c % 10) (by omega) fun n3 hn3=> ?_);simp only [Hp.up_n,Hp.up_up] at hn2 hn3;simp only [sw.1,rE,reduceIte,rL,rA,rM,rD,svn.down,syw.1,qB,qO,qS,k4,k5,Hp.up_up];apply hn;exact qR (jF res11s ⟨by simp [xZZ],hf.up (by omega)⟩)
theorem rprint_c (xt:Addr->Option Value) (h:Hp) (m:Mp) (ha:m.At xt h) (ht:Txt m) {K:CR->Hp->Prop} (hk: ∀n,h.n<n->K (.ret (sv m.textB)) (h.up n)):FnA (SE xt) 11 [m.av] h K:=by
 refine FnA.calm ?_ hk;clear hk K;refine FnA.walk (sok xt) (ft11s xt) rfl 216 rfl ?_;obtain ⟨o1,o2,o3,o4⟩:=ha.ones;have hlc:=ht.lc;obtain ⟨hl1,hl2⟩:=ht.lines;refine qA fun K hn hp=> ?_;simp only [sw.1,rE,reduceIte,rL,rA,rM,rD,svn.down,syw.1,qB,qO,qS,o1,o2,o3,o4];apply hn;obtain ⟨h1,hh1⟩: ∃h1:Hp,h1=h.new (.cells m.cs 27):=⟨_,rfl⟩;rw [<-hh1];have nh1:h1.n=h.n+1:=by rw [hh1];rfl
 have sh1:h1.t.get h.n=some (.cells m.cs 27):=by rw [hh1];exact jG _ _
 have kh1: ∀k,k<h.n->h1.t.get k=h.t.get k:=fun k hk=>by rw [hh1];exact zW _ _ hk
 have fbh1:Fr h.n h h1:=by rw [hh1];exact (Fr.refl (xZL _)).new _
 have fh1:=fbh1;have ha1:=ha.fr fh1 (xZL _);refine head_r xt h1 m ha1 h.n (by omega) sh1 ht _ (by simp [xZZ]) fun tm hg u g1 g3 t1=> ?_;refine rows_r xt h1 m ha1 h.n (by omega) sh1 ht tm hg u g1 g3 t1 fun tm hg u g1 g3 t2=> ?_;refine gauges_r xt h1 m ha1 h.n (by omega) sh1 ht _ (by simp;omega) tm hg u g1 g3 t2 fun tm hg u g1 g3 t3=> ?_;have l2:=ht.lg;refine cracks_r xt h1 m ha1 h.n (by omega) sh1 ht _ (by simp;omega) tm hg u g1 g3 t3 fun tm hg u g1 g3 t4=> ?_;have l3:=ht.lk;refine probes_r xt h1 m ha1 h.n (by omega) sh1 ht _ (by simp;omega) tm hg u g1 g3 t4 fun tm hg u g1 g3 t5=> ?_;have e:m.headB::m.cells.map yL++m.gs.map jX++m.ks.map jH++m.ps.map jN=m.linesB:=by simp [Mp.linesB]
 rw [e] at t5;refine sums_r xt h1 m.linesB hl1 hl2 tm hg u g3 t5 fun tm g13 g14=> ?_;exact end_r xt h tm hg (fh1.trans t5.1 (by omega)) m.linesB hl1 hl2 g13 g14
end Go.Proofs.Kn
