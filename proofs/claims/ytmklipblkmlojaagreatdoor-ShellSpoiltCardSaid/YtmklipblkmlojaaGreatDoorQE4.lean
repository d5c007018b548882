/- Parts of the proof, joined by a program. -/
import Derived.Test.YtmklipblkmlojaaGreatDoorQE3
set_option linter.all false
open Nat renaming reduceEqDiff → rE, reduceLeDiff → rD, reduceAdd → rA, reduceMul → rM, reduceLT → rL
open Go.Ev.T renaming get_put → xZZ
open List renaming length_cons → xZY, length_nil → xZX, length_append → xZW, mem_nil_iff → xZV, getElem?_eq_getElem → xZU, mem_cons → xZT, take_length → xZR, length_singleton → xZQ, length_take → xZP, length_map → xZO, take_succ → xZN, mem_cons_self → xZK, getElem?_map → xZJ
open Nat renaming le_trans → xZS, mul_le_mul_right → xZM, le_refl → xZL
namespace Go.Proofs.Kn
open Go Go.Ev
set_option maxRecDepth 100000
set_option maxHeartbeats 4000000
theorem al92 (h:Hp):j7 tb h 92=some (.ptr h.n 0,h.new (.cells [iv 0,iv 0] 92)):=yH (zs:=[.int .i64 0,.int .i64 0]) kW rfl
noncomputable def c31f:Code:=vT c31e
theorem probes_w (xt:Addr->Option Value) (hx:Lx xt) (h1:Hp) (m:Mp) (ha:m.At xt h1) (B:Nat) (hB:B<h1.n) (q1:h1.t.get B=some (.cells m.cs 27)) (ht:Txt m) (L:List (List UInt8)) (hL:L.length<=10000) (tm:T AV) (hg:Hp) (u:AV) (g1:tm.get 1=some (.ptr B 0)) (g4:tm.get 4=some u) (ti:TI h1 hg u L) {Q:Ex->St->Prop}
  (next: ∀tm hg u,tm.get 1=some (.ptr B 0)->tm.get 4=some u->TI h1 hg u (L++m.ps.map kK)->wpc (SE xt) none c31f ⟨tm,180,hg,[]⟩ Q):wpc (SE xt) none c31e ⟨tm,180,hg,[]⟩ Q:=by
 refine xB rfl ?_;have hlg:=fun h'=>(ha.ps).len (h':=h') wW rfl;simp only [xZO] at hlg;have hlc:=ht.lp;have qg:=(ti.1.at_ B (.inl hB)).trans q1;refine qL ?_;refine qA fun K hn hp=> ?_;simp only [sw.1,rE,reduceIte,rL,rA,rM,rD,svn.down,syw.1,qE,qP,qU,al92,hlg,g1,g4,qg];apply hn;refine qO fun KA A1 A2 A3 A4 A5=> ?_;refine jD (sok xt) (fun st=> ∃(k:Nat) (hk:Hp) (u:AV) (tm:T AV),st=⟨tm,180,hk,[]⟩/\k<=m.ps.length/\tm.get 1=some (.ptr B 0)/\tm.get 4=some (u)/\tm.get 119=some (m.vp)/\tm.get 120=some (iv m.ps.length)/\tm.get 121=some (iv k)/\TI h1 hk u (L++(m.ps.take k).map kK)) (fun st=>m.ps.length - (match st.tm.get 121 with|some (.val (.int _ n))=>n.toNat|_=>0)) ?_ ?_
 ·rintro st ⟨k,hk,u,tm,rfl,hkA,g1,g4,g119,g120,g121,tk⟩;have muA:=g121;have q:decide ((k:Int)<(m.ps.length:Int))=decide (k<m.ps.length):=qG _ _;refine qA fun K hn hp=> ?_;simp only [sw.1,rE,reduceIte,rL,rA,rM,rD,svn.down,syw.1,qE,qP,qU,al92,hlg,g1,g4,g119,g120,g121,q];apply hn;by_cases hlt:k<m.ps.length
  ·refine qF true (by simp only [sw.1,rE,reduceIte,rL,rA,rM,rD,svn.down,syw.1,qE,qP,qU,al92,hlg,g1,g4,g119,g120,g121,hlt]) (fun _=> ?_) (fun hx=>by cases hx);refine qV ?_;refine qO fun K2 e1 e2 e3 e4 e5=> ?_;obtain ⟨x,hxg⟩: ∃x,m.ps[k]? =some x:=⟨_,xZU hlt⟩;have hag:=ha.fr tk.1 (xZL _);have i1:=hag.ps.idx wW rfl kW rfl (i:=k) (by simpa using hlt) (k:= .i64);have i2:=hag.ps.loadA kW rfl rfl (i:=k) (c:=Kn.p2 x) (by rw [xZJ,hxg];rfl);obtain ⟨n1,n2⟩:=ht.ps x (List.mem_of_getElem? hxg);have hs:(m.ps.take (k+1)).map kK=(m.ps.take k).map kK++[kK x]:=by rw [xZN,hxg];simp
   obtain ⟨xr,xc⟩:=x;simp only [Kn.p2,List.map_cons,List.map_nil] at i2 n1 n2;refine qA fun K hn hp=> ?_;simp only [sw.1,rE,reduceIte,rL,rA,rM,rD,svn.down,syw.1,qE,qP,qU,al92,hlg,g1,g4,g119,g120,g121,i1,i2];apply hn;obtain ⟨h9,hh9⟩: ∃h9:Hp,h9=(hk.new (.cells [iv 0,iv 0] 92)).set hk.n (.cells [iv xr,iv xc] 92):=⟨_,rfl⟩;have nh9:h9.n=hk.n+1:=by rw [hh9];rfl
   have sh9:h9.t.get hk.n=some (.cells [iv xr,iv xc] 92):=by rw [hh9,Hp.set_t,xZZ,if_pos rfl]
   have kh9: ∀k,k<hk.n->h9.t.get k=hk.t.get k:=fun k hk=>by rw [hh9];exact yM _ _ _ hk
   have fbh9:Fr hk.n hk h9:=by rw [hh9];exact yN _ _ _
   have fh9:=fbh9;rw [<-hh9];refine reg fun K hn hp=> ?_;simp only [sw.1,rE,reduceIte,rL,rA,rM,rD,svn.down,syw.1,qE,qP,qU,al92,hlg,g1,g4,g119,g120,g121,sh9,qQ,b65_2];refine qB (sok xt) (xP xt hx _ _ h9.n [xr,xc] (zV (jO _ _) (by rw [Hp.new_n];omega)) (by simp) (by simp) (by intro x hx;simp only [xZT,xZV,or_false] at hx;rcases hx with rfl|rfl<;>assumption) fun m1 hm1=> ?_)
   obtain ⟨h10,hh10⟩: ∃h10:Hp,h10=(h9.new (.cells [iv xr,iv xc] 3)).up m1:=⟨_,rfl⟩;have f10:Fr hk.n hk h10:=by rw [hh10];exact (fh9.new _).up (Nat.le_of_lt hm1)
   rw [<-hh10];clear hh10;simp only [sw.1,rE,reduceIte,rL,rA,rM,rD,svn.down,syw.1,qE,qP,qU,al92,hlg,g1,g4,g119,g120,g121,qQ,b96_2];refine qB (sok xt) (qAB xt _ _ h10.n [xD,vQ [xr,xc]] (zV (jO _ _) (by rw [Hp.new_n];omega)) (by simp) (by simp) (xZS (k7 (by
    have d1:=vP [xr,xc];simp only [xZY,xZX] at d1;intro x hx;simp only [xZT,xZV,or_false] at hx;rcases hx with rfl|rfl
    ·simp
    ·omega) (by simp)) (by omega)) fun m2 hm2=> ?_)
   obtain ⟨h11,hh11⟩: ∃h11:Hp,h11=(h10.new (.cells [sv xD,sv (vQ [xr,xc])] 9)).up m2:=⟨_,rfl⟩;have f11:Fr hk.n hk h11:=by rw [hh11];exact (f10.new _).up (Nat.le_of_lt hm2)
   rw [<-hh11];clear hh11;obtain ⟨h',p1,p2,p3⟩:=(tk.fr f11).snoc (xt:=xt) (kK (xr,xc)) (by simp;omega);have ou:=tk.2.one;have el:kK (xr,xc)=zT [xD,vQ [xr,xc]]:=rfl;rw [el] at p1;simp only [sw.1,rE,reduceIte,rL,rA,rM,rD,svn.down,syw.1,qE,qP,qU,al92,hlg,g1,g4,g119,g120,g121,qQ,bs96,p1];refine hn _ _ (e1 _ ?_);have w3:=jE hlt (by omega);refine reg fun K hn hp=> ?_;simp only [sw.1,rE,reduceIte,rL,rA,rM,rD,svn.down,syw.1,qE,qP,qU,al92,hlg,g1,g4,g119,g120,g121,w3];apply hn;rw [List.append_assoc,<-hs] at p2;refine ⟨⟨k+1,h',.sl (h11.n+1) 0 ((L++(m.ps.take k).map kK).length+1) 1,_,rfl,by omega,(by simp [xZZ,g1,g4,g119,g120,g121]),(by simp [xZZ,g1,g4,g119,g120,g121]),(by simp [xZZ,g1,g4,g119,g120,g121]),(by simp [xZZ,g1,g4,g119,g120,g121]),(by simp [xZZ,g1,g4,g119,g120,g121]),p2⟩,by simpa [xZZ,muA] using (by omega:m.ps.length - (k+1)<m.ps.length - k)⟩
  ·have hkl:k=m.ps.length:=by omega
   subst hkl;rw [xZR] at tk;refine qF false (by simp only [sw.1,rE,reduceIte,rL,rA,rM,rD,svn.down,syw.1,qE,qP,qU,al92,hlg,g1,g4,g119,g120,g121,hlt]) (fun hx=>by cases hx) (fun _=> ?_);exact jA (A2 _ (next _ _ _ (by simp [xZZ,g1]) (by simp [xZZ,g4]) tk))
 ·exact ⟨0,_,u,_,rfl,by omega,by simp [xZZ,g1],by simp [xZZ,g4],by simp [xZZ],by simp [xZZ],by simp [xZZ],by simpa using ti⟩
end Go.Proofs.Kn
namespace Go.Proofs.Kn
open Go Go.Ev
set_option maxRecDepth 100000
set_option maxHeartbeats 4000000
theorem qDc {P:Program} {t:TypeId} {ox oy:Operand} (a b:Int) (hb:b≠0):vO P tb .quo t ox oy (iv a) (iv b)=some (iv (IntKind.i64.wrap (a.tdiv b))):=by
 have e:(Op.intDiv .quo .i64 a b)=pure (.int .i64 (IntKind.i64.wrap (a.tdiv b))):=by simp [Op.intDiv,hb]
 have:qN P (do eqGuard .quo t ox oy (.int .i64 a) (.int .i64 b);binOp .quo t (.int .i64 a) (.int .i64 b):Sem Value)=some (.int .i64 (IntKind.i64.wrap (a.tdiv b))):=by
  show qN P (Op.intDiv .quo .i64 a b)=_;rw [e];rfl
 simp only [vO,toVal,this]
theorem qA4 {P:Program} {t:TypeId} {ox oy:Operand} (a b:Int) (hb:b≠0):vO P tb .rem t ox oy (iv a) (iv b)=some (iv (a.tmod b)):=by
 have e:(Op.intDiv .rem .i64 a b)=pure (.int .i64 (a.tmod b)):=by simp [Op.intDiv,hb]
 have:qN P (do eqGuard .rem t ox oy (.int .i64 a) (.int .i64 b);binOp .rem t (.int .i64 a) (.int .i64 b):Sem Value)=some (.int .i64 (a.tmod b)):=by
  show qN P (Op.intDiv .rem .i64 a b)=_;rw [e];rfl
 simp only [vO,toVal,this]
theorem tg5:tb.get 5=some te5:=by kernel_rfl
theorem cv53 (h:Hp) (n:Int):wU tb h 5 3 (.val (.int .u8 n))=some (iv (IntKind.i64.wrap n)):=bK tg5 tg3 rfl n
theorem ix9 (a:List UInt8) {i:Nat} (hi:i<a.length):uA tb 9 (sv a) (iv i)=some (.val (.int .u8 ((a[i]).toNat:Int))):=aindex_s tg9 rfl a hi
theorem qBB (b:UInt8): ∀(l:List UInt8) (i:Nat),yE i (l++[b])=yE i l+b.toNat*(i+l.length+1)
 |[],i=>by simp [yE]
 |x::l,i=>by
  have:=qBB b l (i+1);simp only [List.cons_append,yE,this,xZY];have e:i+1+l.length+1=i+(l.length+1)+1:=by omega
  rw [e];omega
theorem chkL_le: ∀(l:List UInt8) (i:Nat),yE i l<=l.length*(256*(i+l.length))
 |[],i=>by simp [yE]
 |x::l,i=>by
  have h1:=chkL_le l (i+1);have h2:x.toNat<256:=UInt8.toNat_lt x;simp only [yE,xZY];have h3:x.toNat*(i+1)<=256*(i+(l.length+1)):=Nat.mul_le_mul (by omega) (by omega);have h4:l.length*(256*(i+1+l.length))=l.length*(256*(i+(l.length+1))):=by congr 2;omega
  rw [Nat.add_mul,Nat.one_mul];omega
theorem chkL_b {l:List UInt8} (h:l.length<=20000):yE 0 l<=102400000000:=by
 refine xZS (chkL_le l 0) ?_;rw [Nat.zero_add];exact xZS (Nat.mul_le_mul h (Nat.mul_le_mul_left 256 h)) (by omega)
theorem sumL_b: ∀{ls:List (List UInt8)},(∀l∈ls,l.length<=20000)->v6 ls<=ls.length*102400000000
 |[],_=>Nat.zero_le _
 |l::ls,h=>by
  have h1:=chkL_b (h l xZK);have h2:=sumL_b fun x hx=>h x (List.mem_cons_of_mem _ hx);have e:v6 (l::ls)=yE 0 l+v6 ls:=by simp [v6]
  rw [e,xZY,Nat.succ_mul];omega
theorem sumL_take {ls:List (List UInt8)} {k:Nat} (hk:k<ls.length):v6 (ls.take (k+1))=v6 (ls.take k)+yE 0 (ls[k]):=by
 rw [xZN,xZU hk];simp only [v6,Option.toList_some,List.map_append,List.map_cons,List.map_nil,List.sum_append,List.sum_cons,List.sum_nil,Nat.add_zero]
theorem bP {ls:List (List UInt8)} (h: ∀l∈ls,l.length<=20000) (hl:ls.length<=20000) (k:Nat):v6 (ls.take k)<=2048000000000000:=by
 have h1:=sumL_b (ls:=ls.take k) fun l hl=>h l (List.mem_of_mem_take hl);have h2:(ls.take k).length<=20000:=by rw [xZP];omega
 have:=xZM 102400000000 h2;omega
noncomputable def c31g:Code:=vT (vT c31f)
theorem check_w (xt:Addr->Option Value) (h1:Hp) (ls:List (List UInt8)) (hll: ∀l∈ls,l.length<=20000) (hln:ls.length<=20000) (tm:T AV) (hg:Hp) (u:AV) (g4:tm.get 4=some u) (ti:TI h1 hg u ls) {Q:Ex->St->Prop}
  (next: ∀tm,tm.get 4=some u->tm.get 16=some (iv (v6 ls:Nat))->wpc (SE xt) none c31g ⟨tm,180,hg,[]⟩ Q):wpc (SE xt) none c31f ⟨tm,180,hg,[]⟩ Q:=by
 refine xB rfl ?_;have hlu:=fun h'=>ti.2.len (tb:=tb) uI t96 (h':=h');refine qA fun K hn hp=> ?_;simp only [sw.1,rE,reduceIte,rL,rA,rM,rD,svn.down,syw.1,hlu];apply hn;refine qL ?_;refine qA fun K hn hp=> ?_;simp only [sw.1,rE,reduceIte,rL,rA,rM,rD,svn.down,syw.1,hlu,g4];apply hn;refine qO fun KA A1 A2 A3 A4 A5=> ?_;refine jD (sok xt) (fun st=> ∃(k:Nat) (tm:T AV),st=⟨tm,180,hg,[]⟩/\k<=ls.length/\tm.get 4=some (u)/\tm.get 16=some (iv (v6 (ls.take k):Nat))/\tm.get 137=some (u)/\tm.get 138=some (iv ls.length)/\tm.get 139=some (iv k)) (fun st=>ls.length - (match st.tm.get 139 with|some (.val (.int _ n))=>n.toNat|_=>0)) ?_ ?_
 ·rintro st ⟨k,tm,rfl,hkA,g4,g16,g137,g138,g139⟩;have muA:=g139;have q:decide ((k:Int)<(ls.length:Int))=decide (k<ls.length):=qG _ _;refine qA fun K hn hp=> ?_;simp only [sw.1,rE,reduceIte,rL,rA,rM,rD,svn.down,syw.1,hlu,g4,g16,g137,g138,g139,q];apply hn;by_cases hlt:k<ls.length
  ·refine qF true (by simp only [sw.1,rE,reduceIte,rL,rA,rM,rD,svn.down,syw.1,hlu,g4,g16,g137,g138,g139,hlt]) (fun _=> ?_) (fun hx=>by cases hx);refine qV ?_;refine qO fun K2 e1 e2 e3 e4 e5=> ?_;obtain ⟨b,i1,i2,i3,i4,i5⟩:=ti.2.idx uI t96 tg9 rfl hlt (k:= .i64);obtain ⟨l,hl⟩: ∃l,l=ls[k]:=⟨_,rfl⟩;have hl2:l.length<=20000:=by rw [hl];exact hll _ (List.getElem_mem hlt)
   have hld:jV (hg.t.get b) (k*1)=some (sv l):=by
    rw [i4,zY,Nat.mul_one,xZJ,xZU hlt,hl];rfl
   refine qA fun K hn hp=> ?_;simp only [sw.1,rE,reduceIte,rL,rA,rM,rD,svn.down,syw.1,hlu,g4,g16,g137,g138,g139,i1,hld];apply hn;refine qA fun K hn hp=> ?_;simp only [sw.1,rE,reduceIte,rL,rA,rM,rD,svn.down,syw.1,hlu,g4,g16,g137,g138,g139];apply hn;refine zQ fun KD D1 D2 D3 D4 D5=> ?_;refine jD (sok xt) (fun st=> ∃(c:Nat) (tm:T AV),st=⟨tm,180,hg,[]⟩/\c<=l.length/\tm.get 4=some (u)/\tm.get 16=some (iv (v6 (ls.take k)+yE 0 (l.take c):Nat))/\tm.get 18=some (sv l)/\tm.get 137=some (u)/\tm.get 138=some (iv ls.length)/\tm.get 139=some (iv k)/\tm.get 144=some (iv l.length)/\tm.get 145=some (iv c)) (fun st=>l.length - (match st.tm.get 145 with|some (.val (.int _ n))=>n.toNat|_=>0)) ?_ ?_
   ·rintro st ⟨c,tm,rfl,hkD,g4,g16,g18,g137,g138,g139,g144,g145⟩;have muD:=g145;have q2:decide ((c:Int)<(l.length:Int))=decide (c<l.length):=qG _ _;refine qA fun K hn hp=> ?_;simp only [sw.1,rE,reduceIte,rL,rA,rM,rD,svn.down,syw.1,hlu,g4,g16,g137,g138,g139,g18,g144,g145,q2];apply hn;by_cases hc:c<l.length
    ·refine qF true (by simp only [sw.1,rE,reduceIte,rL,rA,rM,rD,svn.down,syw.1,hlu,g4,g16,g137,g138,g139,g18,g144,g145,hc]) (fun _=> ?_) (fun hx=>by cases hx);refine qV ?_;refine qO fun K3 f1 f2 f3 f4 f5=> ?_;refine qA fun K hn hp=> ?_;simp only [sw.1,rE,reduceIte,rL,rA,rM,rD,svn.down,syw.1,hlu,g4,g16,g137,g138,g139,g18,g144,g145];apply hn;have ix:=ix9 l hc;have hb1:=bP hll hln k;have hb2:yE 0 (l.take (c+1))<=102400000000:=chkL_b (by rw [xZP];omega);have ht:l.take (c+1)=l.take c++[l[c]]:=by rw [xZN,xZU hc];rfl
     have hcs:yE 0 (l.take (c+1))=yE 0 (l.take c)+(l[c]).toNat*(c+1):=by
      rw [ht,qBB,xZP,Nat.min_eq_left (by omega)];simp
     have h256:(l[c]).toNat<256:=UInt8.toNat_lt _;have hm:(l[c]).toNat*(c+1)<=102400000000:=by omega
     have w1:IntKind.i64.wrap ((l[c]).toNat:Int)=((l[c]).toNat:Int):=jF _ (by omega) (by omega);have w2:IntKind.i64.wrap ((c:Int)+1)=((c+1:Nat):Int):=jE hc (by omega);have w3:IntKind.i64.wrap (((l[c]).toNat:Int)*((c+1:Nat):Int))=(((l[c]).toNat*(c+1):Nat):Int):=by
      rw [<-Int.natCast_mul,jF _ (by omega) (by omega)]
     have w4:IntKind.i64.wrap (((v6 (ls.take k)+yE 0 (l.take c):Nat):Int)+(((l[c]).toNat*(c+1):Nat):Int))=((v6 (ls.take k)+yE 0 (l.take (c+1)):Nat):Int):=by
      rw [jF _ (by omega) (by omega),hcs];omega
     refine reg fun K hn hp=> ?_;simp only [sw.1,rE,reduceIte,rL,rA,rM,rD,svn.down,syw.1,hlu,g4,g16,g137,g138,g139,g18,g144,g145,ix,cv53,w1,w2,w3,w4];apply hn;refine f1 _ ?_;refine reg fun K hn hp=> ?_;simp only [sw.1,rE,reduceIte,rL,rA,rM,rD,svn.down,syw.1,hlu,g4,g16,g137,g138,g139,g18,g144,g145,w2];apply hn;refine ⟨⟨c+1,_,rfl,by omega,(by simp [xZZ,g4,g16,g18,g137,g138,g139,g144,g145]),(by simp [xZZ,g4,g16,g18,g137,g138,g139,g144,g145]),(by simp [xZZ,g4,g16,g18,g137,g138,g139,g144,g145]),(by simp [xZZ,g4,g16,g18,g137,g138,g139,g144,g145]),(by simp [xZZ,g4,g16,g18,g137,g138,g139,g144,g145]),(by simp [xZZ,g4,g16,g18,g137,g138,g139,g144,g145]),(by simp [xZZ,g4,g16,g18,g137,g138,g139,g144,g145]),(by simp [xZZ,g4,g16,g18,g137,g138,g139,g144,g145])⟩,by simpa [xZZ,muD] using (by omega:l.length - (c+1)<l.length - c)⟩
    ·have hcl:c=l.length:=by omega
     subst hcl;rw [xZR] at g16;refine qF false (by simp only [sw.1,rE,reduceIte,rL,rA,rM,rD,svn.down,syw.1,hlu,g4,g16,g137,g138,g139,g18,g144,g145,hc]) (fun hx=>by cases hx) (fun _=> ?_);refine jA (D2 _ (e1 _ ?_));have hs:=sumL_take hlt;rw [<-hl] at hs;rw [<-hs] at g16;have w3:=jE hlt (by omega);refine reg fun K hn hp=> ?_;simp only [sw.1,rE,reduceIte,rL,rA,rM,rD,svn.down,syw.1,hlu,g4,g16,g137,g138,g139,g18,g144,g145,w3];apply hn;refine ⟨⟨k+1,_,rfl,by omega,(by simp [xZZ,g4,g16,g137,g138,g139]),(by simp [xZZ,g4,g16,g137,g138,g139]),(by simp [xZZ,g4,g16,g137,g138,g139]),(by simp [xZZ,g4,g16,g137,g138,g139]),(by simp [xZZ,g4,g16,g137,g138,g139])⟩,by simpa [xZZ,muA] using (by omega:ls.length - (k+1)<ls.length - k)⟩
   exact ⟨0,_,rfl,(by omega),(by simp [xZZ,g4]),(by simp [xZZ,g16,yE]),(by simp [xZZ]),(by simp [xZZ,g137]),(by simp [xZZ,g138]),(by simp [xZZ,g139]),(by simp [xZZ]),(by simp [xZZ])⟩
  ·have hkl:k=ls.length:=by omega
   subst hkl;rw [xZR] at g16;refine qF false (by simp only [sw.1,rE,reduceIte,rL,rA,rM,rD,svn.down,syw.1,hlu,g4,g16,g137,g138,g139,hlt]) (fun hx=>by cases hx) (fun _=> ?_);exact jA (A2 _ (next _ (by simp [xZZ,g4]) (by simp [xZZ,g16])))
 ·exact ⟨0,_,rfl,by omega,by simp [xZZ,g4],by simp [xZZ,v6],by simp [xZZ],by simp [xZZ],by simp [xZZ]⟩
end Go.Proofs.Kn
namespace Go.Proofs.Kn
open Go Go.Ev
set_option maxRecDepth 100000
set_option maxHeartbeats 4000000
theorem qCS (c:Nat):(yX c).length<=13:=by
 have h1:=y8 (c / 100);have h2:=y8 (c / 10 % 10);have h3:=y8 (c % 10);simp only [yX,xZW,xZY,xZX];omega
theorem end_w (xt:Addr->Option Value) (hx:Lx xt) (h h1:Hp) (hf:Fr h.n h h1) (ls:List (List UInt8)) (hll: ∀l∈ls,l.length<=20000) (hln:ls.length<=20000) (tm:T AV) (hg:Hp) (u:AV) (g4:tm.get 4=some u) (g16:tm.get 16=some (iv (v6 ls:Nat))) (ti:TI h1 hg u ls):
  wpc (SE xt) none c31g ⟨tm,180,hg,[]⟩ (uU (SE xt) Tryz.f31 (fun r h'=>r= .ret (sv (Lib.join (ls++[yX (v6 ls % 101)]) [10]++[10]))/\Fr h.n h h')):=by
 refine xB rfl ?_;have hf1:=hf.le;have ht1:=ti.1.le;have hs:=bP hll hln ls.length;rw [xZR] at hs;have ou:=ti.2.one;obtain ⟨c,hc⟩: ∃c,c=v6 ls % 101:=⟨_,rfl⟩;have hc1:c<101:=by rw [hc];exact Nat.mod_lt _ (by omega)
 have r1:=qA4 (P:=Tryz.prog) (t:=3) (ox:= .tmp 159) (oy:= .const (.int .i64 101)) (v6 ls:Nat) 101 (by omega);have r1':((v6 ls:Nat):Int).tmod 101=(c:Int):=by rw [hc];rfl
 rw [r1'] at r1;refine qA fun K hn hp=> ?_;simp only [sw.1,rE,reduceIte,rL,rA,rM,rD,svn.down,syw.1,g16,g4,r1];apply hn;have d1:=fun (ox oy:Operand)=>qDc (P:=Tryz.prog) (t:=3) (ox:=ox) (oy:=oy) (c:Int) 100 (by omega);have d2:=fun (ox oy:Operand)=>qDc (P:=Tryz.prog) (t:=3) (ox:=ox) (oy:=oy) (c:Int) 10 (by omega);have d3:=fun (ox oy:Operand)=>qA4 (P:=Tryz.prog) (t:=3) (ox:=ox) (oy:=oy) ((c / 10:Nat):Int) 10 (by omega);have d4:=fun (ox oy:Operand)=>qA4 (P:=Tryz.prog) (t:=3) (ox:=ox) (oy:=oy) (c:Int) 10 (by omega);have v1:IntKind.i64.wrap ((c:Int).tdiv 100)=((c / 100:Nat):Int):=by
  have:(c:Int).tdiv 100=((c / 100:Nat):Int):=by simp
  rw [this,jF _ (by omega) (by omega)]
 have v2:IntKind.i64.wrap ((c:Int).tdiv 10)=((c / 10:Nat):Int):=by
  have:(c:Int).tdiv 10=((c / 10:Nat):Int):=by simp
  rw [this,jF _ (by omega) (by omega)]
 have v3:(((c / 10:Nat):Int)).tmod 10=((c / 10 % 10:Nat):Int):=rfl;have v4:((c:Int)).tmod 10=((c % 10:Nat):Int):=rfl;rw [v1] at d1;rw [v2] at d2;rw [v3] at d3;rw [v4] at d4;have l1:=y8 (c / 100);have l2:=y8 (c / 10 % 10);have l3:=y8 (c % 10);obtain ⟨E1,hE1⟩: ∃E1,E1=endW++dec (c / 100):=⟨_,rfl⟩;have m1:E1.length<=7:=by rw [hE1];simp only [xZW,xZY,xZX];omega
 obtain ⟨E2,hE2⟩: ∃E2,E2=E1++dec (c / 10 % 10):=⟨_,rfl⟩;have m2:E2.length<=10:=by rw [hE2];simp only [xZW];omega
 have hE3:yX c=E2++dec (c % 10):=by rw [hE2,hE1];rfl
 have k1: ∀(ox oy:Operand),vO Tryz.prog tb .add 9 ox oy (sv endW) (sv (dec (c / 100)))=some (sv E1):=fun ox oy=>by rw [hE1];exact u0 _ _ (by simp only [xZY,xZX];omega)
 have k2: ∀(ox oy:Operand),vO Tryz.prog tb .add 9 ox oy (sv E1) (sv (dec (c / 10 % 10)))=some (sv E2):=fun ox oy=>by rw [hE2];exact u0 _ _ (by omega)
 have k3: ∀(ox oy:Operand),vO Tryz.prog tb .add 9 ox oy (sv E2) (sv (dec (c % 10)))=some (sv (yX c)):=fun ox oy=>by rw [hE3];exact u0 _ _ (by omega)
 refine qA fun K hn hp=> ?_;simp only [sw.1,rE,reduceIte,rL,rA,rM,rD,svn.down,syw.1,g4,d1,d2,d3,d4];refine qB (sok xt) (qAD xt hx _ (c / 100) (by omega) fun n1 hn1=> ?_);simp only [sw.1,rE,reduceIte,rL,rA,rM,rD,svn.down,syw.1,k1,d1,d2,d3,d4];refine qB (sok xt) (qAD xt hx _ (c / 10 % 10) (by omega) fun n2 hn2=> ?_);simp only [sw.1,rE,reduceIte,rL,rA,rM,rD,svn.down,syw.1,k2,d1,d2,d3,d4];refine qB (sok xt) (qAD xt hx _ (c % 10) (by omega) fun n3 hn3=> ?_);simp only [Hp.up_n,Hp.up_up] at hn2 hn3;obtain ⟨h2,hh2⟩: ∃h2:Hp,h2=hg.up n3:=⟨_,rfl⟩;have t2:TI h1 h2 u ls:=by rw [hh2];exact ti.up (by omega)
 simp only [Hp.up_up];rw [<-hh2];clear hh2;obtain ⟨h',p1,p2,p3⟩:=t2.snoc (xt:=xt) (yX c) (by omega);simp only [sw.1,rE,reduceIte,rL,rA,rM,rD,svn.down,syw.1,k3,d4,qQ,bs96,p1];apply hn;have hle:=qCS c;have hlen2: ∀l∈ls++[yX c],l.length<=20000:=by
  intro l hl;rcases List.mem_append.1 hl with hl|hl
  ·exact hll l hl
  ·rw [List.mem_singleton.1 hl];omega
 have hj:(Lib.join (ls++[yX c]) [10]).length<=400040001:=by
  have:=qAC [10] 20000 _ hlen2;have h3:(ls++[yX c]).length*(20000+[(10:UInt8)].length)<=20001*(20000+1):=by
   rw [xZW,xZQ,xZQ];exact xZM _ (by omega)
  omega
 have k4:=fun (ox oy:Operand)=>u0 (P:=Tryz.prog) (tb:=tb) (t:=9) (ox:=ox) (oy:=oy) (Lib.join (ls++[yX c]) [10]) [10] (by simp only [xZY,xZX];omega);refine qA fun K hn hp=> ?_;simp only [sw.1,rE,reduceIte,rL,rA,rM,rD,svn.down,syw.1];refine join_a xt _ _ h1.n (ls++[yX c]) [10] p2.2 (by simp) (by rw [xZW,xZQ];omega) (by omega) ?_;simp only [sw.1,rE,reduceIte,rL,rA,rM,rD,svn.down,syw.1,k4];refine hn _ _ (qJ (jB res31s ⟨?_,hf.trans p2.1 (by omega)⟩));simp [xZZ,hc]
theorem Txt.lines {m:Mp} (ht:Txt m):(∀l∈m.linesB,l.length<=20000)/\m.linesB.length<=20000:=by
 have h1:=ht.lc;have h2:=ht.lg;have h3:=ht.lk;have h4:=ht.lp;refine ⟨fun l hl=> ?_,by simp only [Mp.linesB,xZY,xZW,xZO];omega⟩;simp only [Mp.linesB,xZT,List.mem_append,List.mem_map] at hl;rcases hl with rfl|⟨x,hx,rfl⟩|⟨x,hx,rfl⟩|⟨x,hx,rfl⟩|⟨x,hx,rfl⟩
 ·have d1:=vP [(m.cells.length:Int),(m.W:Int)];have d2:=vP [m.T];have d3:=vP [m.H];simp only [xZY,xZX] at d1 d2 d3;refine xZS (k7 (fun x hx=> ?_) (by simp)) (by omega);simp only [xZT,xZV,or_false] at hx;rcases hx with rfl|rfl|rfl|rfl|rfl|rfl
  ·simp
  ·omega
  ·simp
  ·omega
  ·simp
  ·omega
 ·have:=ht.lr x hx;simp only [pP,xZO];omega
 ·have d1:=vP [x.1,x.2.1,x.2.2.1,x.2.2.2];simp only [xZY,xZX] at d1;refine xZS (k7 (fun y hy=> ?_) (by simp)) (by omega);simp only [xZT,xZV,or_false] at hy;rcases hy with rfl|rfl
  ·simp
  ·omega
 ·have d1:=vP [x.1,x.2.1];simp only [xZY,xZX] at d1;refine xZS (k7 (fun y hy=> ?_) (by simp)) (by omega);simp only [xZT,xZV,or_false] at hy;rcases hy with rfl|rfl|rfl
  ·simp
  ·omega
  ·cases x.2.2<;>simp [uD]
 ·have d1:=vP [x.1,x.2];simp only [xZY,xZX] at d1;refine xZS (k7 (fun y hy=> ?_) (by simp)) (by omega);simp only [xZT,xZV,or_false] at hy;rcases hy with rfl|rfl
  ·simp
  ·omega
theorem Txt.W {m:Mp} (ht:Txt m):m.W<=999:=by
 unfold Mp.W;cases q:m.cells with
 |nil=>simp
 |cons l ls=>exact ht.lr l (by rw [q];exact xZK)
theorem text_c (xt:Addr->Option Value) (hx:Lx xt) (h:Hp) (m:Mp) (ha:m.At xt h) (ht:Txt m) {K:CR->Hp->Prop} (hk: ∀n,h.n<n->K (.ret (sv m.textB)) (h.up n)):FnA (SE xt) 31 [m.av] h K:=by
 refine FnA.calm ?_ hk;clear hk K;refine FnA.walk (sok xt) (ft31s xt) rfl 180 rfl ?_;obtain ⟨o1,o2,o3,o4⟩:=ha.ones;have hlen:=ha.len;have hW:=ht.W;have hlc:=ht.lc;obtain ⟨hl1,hl2⟩:=ht.lines;refine qA fun K hn hp=> ?_;simp only [sw.1,rE,reduceIte,rL,rA,rM,rD,svn.down,syw.1,o1,o2,o3,o4,hlen];apply hn;obtain ⟨h1,hh1⟩: ∃h1:Hp,h1=h.new (.cells m.cs 27):=⟨_,rfl⟩;rw [<-hh1];have nh1:h1.n=h.n+1:=by rw [hh1];rfl
 have sh1:h1.t.get h.n=some (.cells m.cs 27):=by rw [hh1];exact jO _ _
 have kh1: ∀k,k<h.n->h1.t.get k=h.t.get k:=fun k hk=>by rw [hh1];exact zW _ _ hk
 have fbh1:Fr h.n h h1:=by rw [hh1];exact (Fr.refl (xZL _)).new _
 have fh1:=fbh1;have ha1:=ha.fr fh1 (xZL _);have rest: ∀tm:T AV,tm.get 1=some (.ptr h.n 0)->tm.get 3=some (iv (m.W:Int))->wpc (SE xt) none c31a ⟨tm,180,h1,[]⟩ (uU (SE xt) Tryz.f31 (fun r h'=>r= .ret (sv m.textB)/\Fr h.n h h')):=by
  intro tm g1 g3;refine head_w xt hx h1 m h.n (by omega) sh1 hlen ht hW tm g1 g3 fun tm hg u g1 g4 t1=> ?_;refine rows_w xt h1 m ha1 h.n (by omega) sh1 ht tm hg u g1 g4 t1 fun tm hg u g1 g4 t2=> ?_;refine gauges_w xt hx h1 m ha1 h.n (by omega) sh1 ht _ (by simp;omega) tm hg u g1 g4 t2 fun tm hg u g1 g4 t3=> ?_;have l2:=ht.lg;refine cracks_w xt hx h1 m ha1 h.n (by omega) sh1 ht _ (by simp;omega) tm hg u g1 g4 t3 fun tm hg u g1 g4 t4=> ?_;have l3:=ht.lk;refine probes_w xt hx h1 m ha1 h.n (by omega) sh1 ht _ (by simp;omega) tm hg u g1 g4 t4 fun tm hg u g1 g4 t5=> ?_;have e:m.headB::m.cells.map pP++m.gs.map kM++m.ks.map kO++m.ps.map kK=m.linesB:=by simp [Mp.linesB]
  rw [e] at t5;refine check_w xt h1 m.linesB hl1 hl2 tm hg u g4 t5 fun tm g4 g16=> ?_;exact end_w xt hx h h1 fh1 m.linesB hl1 hl2 tm hg u g4 g16 t5
 refine qA fun K hn hp=> ?_;simp only [sw.1,rE,reduceIte,rL,rA,rM,rD,svn.down,syw.1,o1,o2,o3,o4,hlen,sh1,nh1];apply hn;refine qL ?_;cases q:m.cells with
 |nil=>
  have ql:m.cells.length=0:=by rw [q];rfl
  rw [ql] at hlen;have hw:m.W=0:=by simp [Mp.W,q]
  refine qA fun K hn hp=> ?_;simp only [sw.1,rE,reduceIte,rL,rA,rM,rD,svn.down,syw.1,o1,o2,o3,o4,hlen,sh1,nh1];apply hn;refine qF false (by simp only [sw.1,rE,reduceIte,rL,rA,rM,rD,svn.down,syw.1,o1,o2,o3,o4,hlen,sh1,nh1,Int.natCast_zero,Int.lt_irrefl,decide_false]) (fun hx=>by cases hx) (fun _=> ?_);refine qV ?_;exact rest _ (by simp [xZZ]) (by simp [xZZ,hw])
 |cons l ls=>
  have hl0:0<m.cells.length:=by rw [q];simp
  have hd:decide ((0:Int)<(m.cells.length:Int))=true:=decide_eq_true (by omega);have hw:m.W=(m.cells.getD 0 []).length:=by simp [Mp.W,q]
  obtain ⟨v,i1,i2,i3,i4⟩:=ha1.rowD hl0;have i1:qK tb 22 m.vc (iv 0)=some (elp m.vc 0):=i1;refine qA fun K hn hp=> ?_;simp only [sw.1,rE,reduceIte,rL,rA,rM,rD,svn.down,syw.1,o1,o2,o3,o4,hlen,sh1,nh1,hd];apply hn;refine qF true (by simp only [sw.1,rE,reduceIte,rL,rA,rM,rD,svn.down,syw.1,o1,o2,o3,o4,hlen,sh1,nh1]) (fun _=> ?_) (fun hx=>by cases hx);refine qA fun K hn hp=> ?_;simp only [sw.1,rE,reduceIte,rL,rA,rM,rD,svn.down,syw.1,o1,o2,o3,o4,hlen,sh1,nh1,i1,i2,i4];apply hn;exact rest _ (by simp [xZZ]) (by simp [xZZ,hw])
end Go.Proofs.Kn
