/- Parts of the proof, joined by a program. -/
import Derived.Test.YtmklipblkmlojaaGreatDoorQE5
set_option linter.all false
open Nat renaming reduceEqDiff → rE, reduceLeDiff → rD, reduceAdd → rA, reduceMul → rM, reduceLT → rL
open Go.Ev.T renaming get_put → xZZ
open Nat renaming le_refl → xZY, le_of_lt → xZN, ble_eq → xZD
open List renaming drop_eq_getElem_cons → xZX, length_append → xZW, getElem?_eq_some_iff → xZV, getElem?_cons_zero → xZU, length_take → xZT, length_singleton → xZR, mem_singleton → xZP, length_drop → xZM, drop_length → xZL, mem_append → xZJ, getElem?_append_right → xZI, getElem?_append_left → xZG, getElem?_eq_getElem → xZE, mem_of_mem_take → xZB, mem_of_mem_drop → xZA, mem_of_getElem? → xYZ, getElem?_take → xYY, getElem?_drop → xYX, getElem?_map → xYW, length_cons → xYV
open Bool renaming and_eq_true → xZS, false_eq_true → xZO
open Go.Ev.Hp renaming set_t → xZQ, up_n → xZK, set_n → xZH, up_up → xZC
open Option renaming map_eq_some_iff → xZF
namespace Go.Proofs.Kn
open Go Go.Ev
set_option maxRecDepth 100000
set_option maxHeartbeats 4000000
noncomputable def c39b:Code:=vT c39a
theorem RA.keep {h hg h':Hp} {ls:List (List UInt8)} {a b c d:Int} {u4:AV} {Mb:Nat} {vs:List AV} (r:RA h hg ls a b c d u4 Mb vs) (f:Fr hg.n hg h'):RA h h' ls a b c d u4 Mb vs:=by
 have h1:=r.fr.le;have h2:=r.lt;have h3:=r.gt;have h4:=f.le;exact ⟨r.fr.trans f h1,(f.at_ _ (.inl (by omega))).trans r.r,(f.at_ _ (.inl (by omega))).trans r.l,r.u.fr f (xZY _),(f.at_ _ (.inl h2)).trans r.m,by omega,h3⟩
theorem cell_dec (l:List UInt8) (c:Nat) (hc:c<l.length):yU ((Utf8.decode (bs l) c).1:Int)=yU ((l[c]).toNat:Int)/\((yU ((l[c]).toNat:Int)).isSome=true->(Utf8.decode (bs l) c).2=1):=by
 have big: ∀x:Int,128<=x->yU x=none:=fun x hx=>by
  have n1: ¬x=46:=by omega
  have n2: ¬x=35:=by omega
  have n3: ¬x=111:=by omega
  simp [yU,n1,n2,n3]
 rcases dec_or l c hc with ⟨a1,a2⟩|⟨a1,a2⟩
 ·rw [a2];exact ⟨rfl,fun _=>rfl⟩
 ·rw [big _ (by omega),big _ (by omega)];exact ⟨rfl,fun q=>by cases q⟩
theorem b42_1 (h:Hp) (x:Int):qY tb h 42 1 [(0,iv x)]=some (.sl h.n 0 1 1,h.new (.cells [iv x] 85)):=by kernel_rfl
theorem b22_1 (h:Hp) (w:AV) (hc:cellsOf w=[w]):qY tb h 22 1 [(0,w)]=some (.sl h.n 0 1 1,h.new (.cells [w] 42)):=bs_of (sz:=1) (zs:=[.slice none 0 0]) (ee:=te42) tg22 rfl wV rfl rfl (by omega) (by omega) (by simp [uR,hc,j8];rfl)
theorem GR.set {h:Hp} {N Mb:Nat} {v:AV} {ll:List (List Int)} (g:GR h N v ll) (hM:Mb<N) (o:AO):GR (h.set Mb o) N v ll:=
 g.keepT (xZY _) (fun k cs _ h2 h3=>by rw [xZQ,xZZ,if_neg (by omega)];exact h3) (fun k cs _ h2 h3=>by rw [xZQ,xZZ,if_neg (by omega)];exact h3)
theorem GR.snoc {xt:Addr->Option Value} {h:Hp} {N:Nat} {v w:AV} {ll:List (List Int)} {xs:List Int} (g:GR h N v ll) (ow:OwnSl h N 1 85 w xs.length (xs.map iv)) (hN:N<=h.n) (hl:ll.length<=1000000):
  ∃h',qZ Tryz.prog tb xt .append [22,22] [v,.sl h.n 0 1 1] (h.new (.cells [w] 42))=some (.sl (h.n+1) 0 (ll.length+1) 1,h')/\GR h' N (.sl (h.n+1) 0 (ll.length+1) 1) (ll++[xs])/\Fr N h h'/\h.n<h'.n/\ ∀k cs' e',e'≠42->k<h.n->h.t.get k=some (.cells cs' e')->h'.t.get k=some (.cells cs' e'):=by
 obtain ⟨avs,o,r⟩:=g;have hal:avs.length=ll.length:=by
  rcases o with ⟨q1,q2,_⟩|⟨b,_,_,_,_,q5⟩
  ·rw [q2,q1];rfl
  ·simpa using q5
 obtain ⟨h',p1,p2,p3,p4,p5⟩:=wH (P:=Tryz.prog) (xt:=xt) (sz:=1) (by_:=24) (c:=[w]) (ee:=te42) (te:=te22) tg22 rfl wV rfl rfl o hN (fbn h [w] 42) rfl (jO _ _) rfl (by simp [ow.one]) (by omega) (by omega);refine ⟨h',p1,⟨avs++[w],by simpa using p2,fun i l hl2=> ?_⟩,p3,p4,p5⟩;have kp: ∀{a:AV} {l:List Int},OwnSl h N 1 85 a l.length (l.map iv)->OwnSl h' N 1 85 a l.length (l.map iv):=fun q=>q.keepT (by omega) fun k cs h1 _ h3=>p5 k cs 85 (by decide) h1 h3;rcases Nat.lt_or_ge i ll.length with hi|hi
 ·rw [xZG hi] at hl2;obtain ⟨a,q1,q2⟩:=r i l hl2;exact ⟨a,by rw [xZG (by omega)];exact q1,kp q2⟩
 ·have hi2:i=ll.length:=by
   have:=(xZV.1 hl2).1;simp only [xZW,xYV,List.length_nil] at this;omega
  subst hi2;rw [xZI (xZY _),Nat.sub_self] at hl2;simp only [xZU,Option.some.injEq] at hl2;subst hl2;exact ⟨w,by rw [<-hal,xZI (xZY _),Nat.sub_self];rfl,kp ow⟩
theorem RA.step {h hg h':Hp} {ls:List (List UInt8)} {a b c d:Int} {u4:AV} {Mb e:Nat} {vs vs':List AV} (r:RA h hg ls a b c d u4 Mb vs) (f:Fr (Mb+1) hg h') (hp: ∀k cs' e',e'≠e->k<hg.n->hg.t.get k=some (.cells cs' e')->h'.t.get k=some (.cells cs' e')) (he:e≠27/\e≠9/\e≠3):RA h (h'.set Mb (.cells vs' 27)) ls a b c d u4 Mb vs':=by
 have h1:=r.fr.le;have h2:=r.lt;have h3:=r.gt;have h4:=f.le;have gs: ∀k,k≠Mb->(h'.set Mb (.cells vs' 27)).t.get k=h'.t.get k:=fun k hk=>by rw [xZQ,xZZ,if_neg hk]
 refine ⟨(r.fr.trans f (by omega)).set (by omega) (by omega) _,?_,?_,?_,?_,by rw [xZH];omega,h3⟩
 ·rw [gs _ (by omega)];exact hp _ _ _ (Ne.symm he.1) (by omega) r.r
 ·rw [gs _ (by omega)];exact hp _ _ _ (Ne.symm he.2.1) (by omega) r.l
 ·refine r.u.keepT (by rw [xZH];omega) fun k cs q1 _ q3=> ?_;have hkM:k≠Mb:=fun e=>by rw [e,r.m] at q3;cases q3
  rw [gs _ hkM];exact hp _ _ _ (Ne.symm he.2.2) q1 q3
 ·rw [xZQ,xZZ,if_pos rfl]
theorem qBp (b:Int): ∀{ls:List (List UInt8)} {k:Nat} {l:List UInt8},ls[k]? =some l->xK l=none->z6 b ls=none
 |[],k,l,h,_=>by simp at h
 |x::ls,0,l,h,hn=>by
  simp only [xZU,Option.some.injEq] at h;subst h;simp only [z6,hn]
 |x::ls,k+1,l,h,hn=>by
  have ih:=qBp b (ls:=ls) (k:=k) (l:=l) (by simpa using h) hn;simp only [z6,ih];cases xK x with
  |none=>rfl
  |some r=>simp
theorem qAs (b:Int): ∀{ls:List (List UInt8)} {k:Nat} {l:List UInt8} {xs:List Int},ls[k]? =some l->xK l=some xs-> ¬(xs.length:Int)=b->z6 b ls=none
 |[],k,l,xs,h,_,_=>by simp at h
 |x::ls,0,l,xs,h,hn,hb=>by
  simp only [xZU,Option.some.injEq] at h;subst h;simp only [z6,hn,if_neg hb]
 |x::ls,k+1,l,xs,h,hn,hb=>by
  have ih:=qAs b (ls:=ls) (k:=k) (l:=l) (by simpa using h) hn hb;simp only [z6,ih];cases xK x with
  |none=>rfl
  |some r=>simp
theorem qAv {s:List UInt8} {a b c d:Int} (ht:zD ((spl 10 s).headD []) xY=some [a,b,c,d]) (hge:a+3<=((spl 10 s).length:Int)) (hr:z6 b (((spl 10 s).drop 1).take a.toNat)=none):j9 s=none:=by
 have:kL s=none:=by
  rw [kL,ht];show (if a+3<=((spl 10 s).length:Int) then _ else none)=none;rw [if_pos hge,hr]
 rw [j9,this];rfl
theorem read_rows (xt:Addr->Option Value) (h:Hp) (s:List UInt8) (hs:s.length<=1000000) (tm:T AV) (hg:Hp) (u4:AV) (Mb:Nat) (a b c d:Int) (ht:zD ((spl 10 s).headD []) xY=some [a,b,c,d]) (na:zJ a) (nb:zJ b) (hge:a+3<=((spl 10 s).length:Int))
  (g0:tm.get 0=some (sv s)) (g2:tm.get 2=some (.ptr h.n 0)) (g3:tm.get 3=some (.sl (h.n+1) 0 (spl 10 s).length 1)) (g4:tm.get 4=some u4) (g5:tm.get 5=some (.ptr Mb 0)) (ra:RA h hg (spl 10 s) a b c d u4 Mb [jU,iv c,iv d,jU,jU,jU])
  (next: ∀tm hg vc rows,z6 b (((spl 10 s).drop 1).take a.toNat)=some rows->tm.get 0=some (sv s)->tm.get 2=some (.ptr h.n 0)->tm.get 3=some (.sl (h.n+1) 0 (spl 10 s).length 1)->tm.get 4=some u4->tm.get 5=some (.ptr Mb 0)->RA h hg (spl 10 s) a b c d u4 Mb [vc,iv c,iv d,jU,jU,jU]->GR hg (Mb+1) vc rows->wpc (SE xt) none c39b ⟨tm,177,hg,[]⟩ (Q39 xt h s)):
  wpc (SE xt) none c39a ⟨tm,177,hg,[]⟩ (Q39 xt h s):=by
 refine xB rfl ?_;obtain ⟨ls,hls⟩: ∃ls,ls=spl 10 s:=⟨_,rfl⟩;obtain ⟨A,hA⟩: ∃A,A=a.toNat:=⟨_,rfl⟩;have haA:a=(A:Int):=by rw [hA];have:=na.1;omega
 have hbad:=qAv ht hge;rw [<-hls,<-hA] at hbad next;rw [<-hls] at g3 ra hge;obtain ⟨rl,hrl⟩: ∃rl,rl=(ls.drop 1).take A:=⟨_,rfl⟩;rw [<-hrl] at hbad next;have hrlen:rl.length=A:=by rw [hrl,xZT,xZM];omega
 have hlpart: ∀l∈rl,l.length<=1000000:=fun l hl=>Nat.le_trans (uK 10 s l (by rw [<-hls];rw [hrl] at hl;exact xZA (xZB hl))) hs;have hA3:A<1000:=by have:=na.2;omega
 obtain ⟨b0,i1,i2,i3,i4,i5⟩:=ra.u.idx (i:=0) xR rfl tg3 rfl (by omega) (k:= .i64);have i1:qK tb 65 u4 (iv 0)=some (.ptr b0 0):=i1;have ou1:=ra.u.one;have w1:IntKind.i64.wrap ((A:Int)+1)=((A+1:Nat):Int):=jE (n:=1000) hA3 (by omega);have sl1: ∀h',xF tb h' 96 (.sl (h.n+1) 0 ls.length 1) (some (.val (.int .i64 1))) (some (iv ((A+1:Nat):Int)))=some (.sl (h.n+1) 1 A 1):=fun h'=>by
  have e1:kB 0 (some (.val (.int .i64 1)))=some 1:=rfl;have e2:kB ls.length (some (iv ((A+1:Nat):Int)))=some (A+1):=rfl;have e3:(Nat.ble 1 (A+1) && (Nat.ble (A+1) ls.length && Nat.beq 1 te9.size))=true:=by
   rw [xZS,xZS];exact ⟨by rw [xZD];omega,by rw [xZD];omega,rfl⟩
  simp only [xF,uI,t96,tg9,e1,e2];simp only [e3,cond_true];simp [show te9.size=1 from rfl]
 have hlr: ∀h',vN tb h' 96 (.sl (h.n+1) 1 A 1)=some A:=fun h'=>by simp [vN,uI,t96]
 subst haA;refine qL ?_;refine qA fun K hn hp=> ?_;simp only [sw.1,rE,reduceIte,rL,rA,rM,rD,svn.down,syw.1,qE,g3,g4,i1,i4,w1,sl1,hlr,bM];apply hn;clear hn hp K;refine qO fun KA A1 A2 A3 A4 A5=> ?_;refine jD (sok xt) (fun st=> ∃(k:Nat) (hk:Hp) (vc:AV) (rows:List (List Int)) (tm:T AV),st=⟨tm,177,hk,[]⟩/\k<=A/\tm.get 0=some (sv s)/\tm.get 2=some (.ptr h.n 0)/\tm.get 3=some (.sl (h.n+1) 0 ls.length 1)/\tm.get 4=some (u4)/\tm.get 5=some (.ptr Mb 0)/\tm.get 50=some (.sl (h.n+1) 1 A 1)/\tm.get 51=some (iv A)/\tm.get 52=some (iv k)/\RA h hk ls (A:Int) b c d u4 Mb [vc,iv c,iv d,jU,jU,jU]/\GR hk (Mb+1) vc rows/\rows.length=k/\z6 b rl=(z6 b (rl.drop k)).map (rows++ ·)) (fun st=>A - (match st.tm.get 52 with|some (.val (.int _ n))=>n.toNat|_=>0)) ?_ ?_
 ·rintro st ⟨k,hk,vc,rows,tm,rfl,hkA,g0,g2,g3,g4,g5,g50,g51,g52,ra,gr,hrk,hrp⟩;have muA:=g52;have q:decide ((k:Int)<(A:Int))=decide (k<A):=qG _ _;refine qA fun K hn hp=> ?_;simp only [sw.1,rE,reduceIte,rL,rA,rM,rD,svn.down,syw.1,qE,g0,g2,g3,g4,g5,g50,g51,g52,q];apply hn;clear hn hp K;by_cases hlt:k<A
  ·refine qF true (by simp only [sw.1,rE,reduceIte,rL,rA,rM,rD,svn.down,syw.1,qE,g0,g2,g3,g4,g5,g50,g51,g52,hlt]) (fun _=> ?_) (fun hx=>by cases hx);refine qV ?_;refine qO fun K2 e1 e2 e3 e4 e5=> ?_;obtain ⟨l,hl⟩: ∃l,l=rl[k]'(by omega):=⟨_,rfl⟩;have hlk:rl[k]? =some l:=by rw [hl];exact xZE (by omega)
   have hll:l.length<=1000000:=hlpart l (xYZ hlk);have hlls:ls[1+k]? =some l:=by
    rw [hrl,xYY,if_pos hlt,xYX] at hlk;exact hlk
   have ix:qK tb 96 (.sl (h.n+1) 1 A 1) (iv k)=some (.ptr (h.n+1) (1+k*1)):=by
    have e1:gI (iv k)=some (Int.ofNat k):=rfl;have e2:Nat.blt k A=true:=by rw [Nat.blt_eq];exact hlt
    simp [qK,uI,t96,tg9,e1,e2,show te9.size=1 from rfl]
   have hld:jV (hk.t.get (h.n+1)) (1+k*1)=some (sv l):=by
    rw [ra.l,zY,Nat.mul_one,xYW,hlls];rfl
   have hpan: ∀y (tm:T AV) hq,Fr h.n h hq->j9 s=none->K2 (.panic (kQ y)) ⟨tm,177,hq,[]⟩:=fun y tm hq f hn=>e5 _ _ (A5 _ _ (Q39.pan hn f));have hgrow:=ra.fr.le;refine qA fun K hn hp=> ?_;simp only [sw.1,rE,reduceIte,rL,rA,rM,rD,svn.down,syw.1,qE,g0,g2,g3,g4,g5,g50,g51,g52,ix,hld];apply hn;clear hn hp K;refine qA fun K hn hp=> ?_;simp only [sw.1,rE,reduceIte,rL,rA,rM,rD,svn.down,syw.1,qE,g0,g2,g3,g4,g5,g50,g51,g52];apply hn;clear hn hp K;refine qL ?_;refine qA fun K hn hp=> ?_;simp only [sw.1,rE,reduceIte,rL,rA,rM,rD,svn.down,syw.1,qE,g0,g2,g3,g4,g5,g50,g51,g52];apply hn;clear hn hp K;obtain ⟨hB,hhB⟩: ∃hB:Hp,hB=hk.new (.siter (bs l) 0):=⟨_,rfl⟩;rw [<-hhB];have nhB:hB.n=hk.n+1:=by rw [hhB];rfl
   have shB:hB.t.get hk.n=some (.siter (bs l) 0):=by rw [hhB];exact jO _ _
   have khB: ∀k,k<hk.n->hB.t.get k=hk.t.get k:=fun k hk=>by rw [hhB];exact zW _ _ hk
   have fbhB:Fr hk.n hk hB:=by rw [hhB];exact (Fr.refl (xZY _)).new _
   have fhB:=fbhB;refine qO fun KD D1 D2 D3 D4 D5=> ?_;refine jD (sok xt) (fun st=> ∃(j:Nat) (hr:Hp) (w:AV) (xs:List Int) (tm:T AV),st=⟨tm,177,hr,[]⟩/\j<=l.length/\tm.get 0=some (sv s)/\tm.get 2=some (.ptr h.n 0)/\tm.get 3=some (.sl (h.n+1) 0 ls.length 1)/\tm.get 4=some (u4)/\tm.get 5=some (.ptr Mb 0)/\tm.get 50=some (.sl (h.n+1) 1 A 1)/\tm.get 51=some (iv A)/\tm.get 52=some (iv k)/\tm.get 7=some (sv l)/\tm.get 8=some (w)/\tm.get 57=some (.ptr hk.n 0)/\Fr hk.n hk hr/\hk.n<hr.n/\hr.t.get hk.n=some (.siter (bs l) j)/\OwnSl hr hB.n 1 85 w xs.length (xs.map iv)/\xs.length<=j/\xK l=(xK (l.drop j)).map (xs++ ·)) (fun st=>l.length - (match st.h.t.get hk.n with|some (.siter _ p)=>p|_=>0)) ?_ ?_
   ·rintro st ⟨j,hr,w,xs,tm,rfl,hkD,g0,g2,g3,g4,g5,g50,g51,g52,g7,g8,g57,fr,nr,sr,ow,hxj,hxp⟩;have muD:=g57;by_cases hj:j<l.length
    ·have nx:=qAX sr hj;obtain ⟨hc1,hc2⟩:=cell_dec l j hj;obtain ⟨x,hx⟩: ∃x:Int,x=((Utf8.decode (bs l) j).1:Int):=⟨_,rfl⟩;obtain ⟨p,hp⟩: ∃p:Nat,p=j+(Utf8.decode (bs l) j).2:=⟨_,rfl⟩;rw [<-hx,<-hp] at nx;rw [<-hx] at hc1;refine qA fun K hn hp=> ?_;simp only [sw.1,rE,reduceIte,rL,rA,rM,rD,svn.down,syw.1,qE,g0,g2,g3,g4,g5,g50,g51,g52,shB,nhB,g7,g8,g57,nx];apply hn;clear hn hp K;refine qF true (by simp only [sw.1,rE,reduceIte,rL,rA,rM,rD,svn.down,syw.1,qE,g0,g2,g3,g4,g5,g50,g51,g52,shB,nhB,g7,g8,g57]) (fun _=> ?_) (fun hx=>by cases hx);refine qV ?_;refine zQ fun K3 f1 f2 f3 f4 f5=> ?_;refine qA fun K hn hp=> ?_;simp only [sw.1,rE,reduceIte,rL,rA,rM,rD,svn.down,syw.1,qE,g0,g2,g3,g4,g5,g50,g51,g52,shB,nhB,g7,g8,g57];apply hn;clear hn hp K;have fr2:=fr.set (xZY _) nr (.siter (bs l) p);refine qA fun K hn hp'=> ?_;simp only [sw.1,rE,reduceIte,rL,rA,rM,rD,svn.down,syw.1,qE,g0,g2,g3,g4,g5,g50,g51,g52,shB,nhB,g7,g8,g57];refine qB (sok xt) (cellOf_c xt _ x fun n1 hn1=> ?_);rw [xZH] at hn1;simp only [sw.1,rE,reduceIte,rL,rA,rM,rD,svn.down,syw.1,qE,g0,g2,g3,g4,g5,g50,g51,g52,shB,nhB,g7,g8,g57,qD,qC];apply hn;clear hn hp' K;refine qA fun K hn hp'=> ?_;cases hcp:yU x with
     |none=>
      have hrn:xK l=none:=by
       rw [hxp,xZX hj,xK,<-hc1,hcp];rfl
      simp only [sw.1,rE,reduceIte,rL,rA,rM,rD,svn.down,syw.1,qE,g0,g2,g3,g4,g5,g50,g51,g52,shB,nhB,g7,g8,g57,Option.isSome_none];refine qB (sok xt) (zU xt _ _ _ (fun hb=>by cases hb) (fun _ n2 hn2=> ?_));simp only [xZK] at hn2;simp only [sw.1,rE,reduceIte,rL,rA,rM,rD,svn.down,syw.1,qE,g0,g2,g3,g4,g5,g50,g51,g52,shB,nhB,g7,g8,g57,xZC];exact hp' _ _ _ (f5 _ _ (D5 _ _ (hpan _ _ _ (ra.fr.trans (fr2.up (by rw [xZH];omega)) hgrow) (hbad (qBp b hlk hrn)))))
     |some v=>
      have hp1:p=j+1:=by
       rw [hp,hc2 (by rw [<-hc1,hcp];rfl)]
      subst hp1;simp only [sw.1,rE,reduceIte,rL,rA,rM,rD,svn.down,syw.1,qE,g0,g2,g3,g4,g5,g50,g51,g52,shB,nhB,g7,g8,g57,Option.isSome_some,Option.getD_some];refine qB (sok xt) (zU xt _ _ _ (fun _ n2 hn2=> ?_) (fun hb=>by cases hb));simp only [xZK] at hn2;simp only [sw.1,rE,reduceIte,rL,rA,rM,rD,svn.down,syw.1,qE,g0,g2,g3,g4,g5,g50,g51,g52,shB,nhB,g7,g8,g57,xZC];apply hn;clear hn hp' K;obtain ⟨hC,hhC⟩: ∃hC:Hp,hC=(hr.set hk.n (.siter (bs l) (j+1))).up n2:=⟨_,rfl⟩;have fC:Fr hk.n hk hC:=by rw [hhC];exact fr2.up (by rw [xZH];omega)
      have sC:hC.t.get hk.n=some (.siter (bs l) (j+1)):=by rw [hhC,Hp.up_t,xZQ,xZZ,if_pos rfl]
      have nC:hr.n<hC.n:=by rw [hhC,xZK];omega
      have oC:OwnSl hC hB.n 1 85 w xs.length (xs.map iv):=ow.keep (by omega) fun k hk1 hk2=>by rw [hhC,Hp.up_t,xZQ,xZZ,if_neg (by omega)]
      rw [<-hhC];clear hhC;obtain ⟨h',p1,p2,p3,p4⟩:=qAW (P:=Tryz.prog) (xt:=xt) (sz:=1) (by_:=8) (c:=[iv v]) (ee:=te85) (te:=te42) wV rfl bO rfl rfl oC (by omega) (fbn hC [iv v] 85) rfl (jO _ _) rfl rfl (by omega) (by omega);have oww:=ow.one;refine reg fun K hn hp=> ?_;simp only [sw.1,rE,reduceIte,rL,rA,rM,rD,svn.down,syw.1,qE,g0,g2,g3,g4,g5,g50,g51,g52,shB,nhB,g7,g8,g57,qQ,b42_1,p1];apply hn;clear hn hp K;refine f1 _ ?_;have hxp2:xK l=(xK (l.drop (j+1))).map ((xs++[v])++ ·):=by
       rw [hxp,xZX hj,xK,<-hc1,hcp];cases xK (l.drop (j+1))<;>simp
      refine ⟨⟨j+1,h',.sl (hC.n+1) 0 (xs.length+1) 1,xs++[v],_,rfl,by omega,by simp [xZZ,g0],by simp [xZZ,g2],by simp [xZZ,g3],by simp [xZZ,g4],by simp [xZZ,g5],by simp [xZZ,g50],by simp [xZZ,g51],by simp [xZZ,g52],by simp [xZZ,g7],by simp [xZZ],by simp [xZZ,g57],fC.trans p3 (by omega),by omega,(p3.at_ hk.n (.inl (by omega))).trans sC,by simpa using p2,by simp;omega,hxp2⟩,?_⟩;simp only [sr,p3.at_ hk.n (.inl (by omega)),sC];exact (by omega:l.length - (j+1)<l.length - j)
    ·have hjl:j=l.length:=by omega
     subst hjl;have hrow:xK l=some xs:=by rw [hxp,xZL];simp [xK]
     have nx:=qAY sr (xZY _);refine qA fun K hn hp=> ?_;simp only [sw.1,rE,reduceIte,rL,rA,rM,rD,svn.down,syw.1,qE,g0,g2,g3,g4,g5,g50,g51,g52,shB,nhB,g7,g8,g57,nx];apply hn;clear hn hp K;refine qF false (by simp only [sw.1,rE,reduceIte,rL,rA,rM,rD,svn.down,syw.1,qE,g0,g2,g3,g4,g5,g50,g51,g52,shB,nhB,g7,g8,g57]) (fun hx=>by cases hx) (fun _=> ?_);refine jA (D2 _ ?_);obtain ⟨b1,j1,j2,j3,j4,j5⟩:=(ra.keep fr).u.idx (i:=1) xR rfl tg3 rfl (by omega) (k:= .i64);have j1:qK tb 65 u4 (iv 1)=some (.ptr b1 1):=j1;have hlw: ∀h',vN tb h' 42 w=some xs.length:=fun h'=>ow.len (tb:=tb) wV rfl;have cw:=ow.cells;have oww:=ow.one;refine qA fun K hn hp'=> ?_;by_cases hb:(xs.length:Int)=b
     rotate_left
     ·simp only [sw.1,rE,reduceIte,rL,rA,rM,rD,svn.down,syw.1,qE,g0,g2,g3,g4,g5,g50,g51,g52,shB,nhB,g7,g8,g57,hlw,j1,j4,decide_eq_false hb];refine qB (sok xt) (zU xt _ _ _ (fun hb=>by cases hb) (fun _ n2 hn2=> ?_));simp only [sw.1,rE,reduceIte,rL,rA,rM,rD,svn.down,syw.1,qE,g0,g2,g3,g4,g5,g50,g51,g52,shB,nhB,g7,g8,g57];exact hp' _ _ _ (hpan _ _ _ (ra.fr.trans (fr.up (xZN hn2)) hgrow) (hbad (qAs b hlk hrow hb)))
     simp only [sw.1,rE,reduceIte,rL,rA,rM,rD,svn.down,syw.1,qE,g0,g2,g3,g4,g5,g50,g51,g52,shB,nhB,g7,g8,g57,hlw,j1,j4,decide_eq_true hb];refine qB (sok xt) (zU xt _ _ _ (fun _ n2 hn2=> ?_) (fun hb=>by cases hb));simp only [sw.1,rE,reduceIte,rL,rA,rM,rD,svn.down,syw.1,qE,g0,g2,g3,g4,g5,g50,g51,g52,shB,nhB,g7,g8,g57];apply hn;clear hn hp' K;obtain ⟨hC,hhC⟩: ∃hC:Hp,hC=hr.up n2:=⟨_,rfl⟩;have fC:Fr hk.n hk hC:=by rw [hhC];exact fr.up (xZN hn2)
     have oC:OwnSl hC hB.n 1 85 w xs.length (xs.map iv):=by rw [hhC];exact ow.up (xZN hn2)
     rw [<-hhC];clear hhC;have raC:=ra.keep fC;have hMb:=ra.lt;have grC:GR hC (Mb+1) vc rows:=gr.keepT fC.le (fun k cs h1 _ h3=>by rw [fC.at_ k (.inl h1)];exact h3) (fun k cs h1 _ h3=>by rw [fC.at_ k (.inl h1)];exact h3);obtain ⟨h',p1,p2,p3,p4,p5⟩:=grC.snoc (xt:=xt) (oC.lower (by omega)) (by have:=raC.lt;omega) (by omega);have qM:=raC.m;have qM':=p5 _ _ _ (by decide) raC.lt raC.m;have ovc:Go.Ev.one vc=true:=by obtain ⟨_,o,_⟩:=gr;exact o.one
     refine reg fun K hn hp=> ?_;simp only [sw.1,rE,reduceIte,rL,rA,rM,rD,svn.down,syw.1,qE,g0,g2,g3,g4,g5,g50,g51,g52,shB,nhB,g7,g8,g57,qM,qQ,b22_1,cw,p1,qM'];apply hn;clear hn hp K;refine e1 _ ?_;have w3:=jE hlt (by omega);refine reg fun K hn hp=> ?_;simp only [sw.1,rE,reduceIte,rL,rA,rM,rD,svn.down,syw.1,qE,g0,g2,g3,g4,g5,g50,g51,g52,shB,nhB,g7,g8,g57,w3];apply hn;clear hn hp K;have hrp2:z6 b rl=(z6 b (rl.drop (k+1))).map ((rows++[xs])++ ·):=by
      rw [hrp,xZX (by omega),<-hl,z6,hrow];simp only [if_pos hb];cases z6 b (rl.drop (k+1))<;>simp
     refine ⟨⟨k+1,h'.set Mb (.cells [.sl (hC.n+1) 0 (rows.length+1) 1,iv c,iv d,jU,jU,jU] 27),.sl (hC.n+1) 0 (rows.length+1) 1,rows++[xs],_,rfl,by omega,(by simp [xZZ,g0,g2,g3,g4,g5,g50,g51,g52]),(by simp [xZZ,g0,g2,g3,g4,g5,g50,g51,g52]),(by simp [xZZ,g0,g2,g3,g4,g5,g50,g51,g52]),(by simp [xZZ,g0,g2,g3,g4,g5,g50,g51,g52]),(by simp [xZZ,g0,g2,g3,g4,g5,g50,g51,g52]),(by simp [xZZ,g0,g2,g3,g4,g5,g50,g51,g52]),(by simp [xZZ,g0,g2,g3,g4,g5,g50,g51,g52]),(by simp [xZZ,g0,g2,g3,g4,g5,g50,g51,g52]),raC.step p3 p5 (by decide),p2.set (by omega) _,by simp;omega,hrp2⟩,by simpa [xZZ,muA] using (by omega:A - (k+1)<A - k)⟩
   exact ⟨0,hB,jU,[],_,rfl,by omega,by simp [xZZ,g0],by simp [xZZ,g2],by simp [xZZ,g3],by simp [xZZ,g4],by simp [xZZ,g5],by simp [xZZ,g50],by simp [xZZ,g51],by simp [xZZ,g52],by simp [xZZ],by simp [xZZ],by simp [xZZ],fhB,by omega,shB,OwnSl.nil,by simp,by simp⟩
  ·have hkA:k=A:=by omega
   subst hkA;have hrows:z6 b rl=some rows:=by rw [hrp,<-hrlen,xZL];simp [z6]
   refine qF false (by simp only [sw.1,rE,reduceIte,rL,rA,rM,rD,svn.down,syw.1,qE,g0,g2,g3,g4,g5,g50,g51,g52,hlt]) (fun hx=>by cases hx) (fun _=> ?_);refine jA (A2 _ (next _ hk vc rows hrows (by simp [xZZ,g0]) (by simp [xZZ,g2]) (by simp [xZZ,g3]) (by simp [xZZ,g4]) (by simp [xZZ,g5]) ra gr))
 ·exact ⟨0,hg,jU,[],_,rfl,by omega,by simp [xZZ,g0],by simp [xZZ,g2],by simp [xZZ,g3],by simp [xZZ,g4],by simp [xZZ,g5],by simp [xZZ],by simp [xZZ],by simp [xZZ],ra,GR.nil _ _,rfl,by simp⟩
end Go.Proofs.Kn
namespace Go.Proofs.Kn
open Go Go.Ev
set_option maxRecDepth 100000
set_option maxHeartbeats 4000000
noncomputable def c39c:Code:=vT c39b
abbrev G4 (l:List (Int×Int×Int×Int)):List AV:=(l.map Kn.g4).flatten.map .val
abbrev K3 (l:List (Int×Int×Bool)):List AV:=(l.map Kn.k3).flatten.map .val
abbrev P2 (l:List (Int×Int)):List AV:=(l.map Kn.p2).flatten.map .val
theorem G4_snoc (l:List (Int×Int×Int×Int)) (a b c d:Int):G4 (l++[(a,b,c,d)])=G4 l++[iv a,iv b,iv c,iv d]:=by simp [Kn.g4]
theorem K3_snoc (l:List (Int×Int×Bool)) (a b:Int) (t:Bool):K3 (l++[(a,b,t)])=K3 l++[iv a,iv b,.val (.bool t)]:=by simp [Kn.k3]
theorem P2_snoc (l:List (Int×Int)) (a b:Int):P2 (l++[(a,b)])=P2 l++[iv a,iv b]:=by simp [Kn.p2]
structure RL (h hk:Hp) (ls:List (List UInt8)) (a b c d:Int) (u4:AV) (Mb:Nat) (vc:AV) (cells:List (List Int)) (vg vk vp:AV) (r:Rs) (k:Nat):Prop where
 ra:RA h hk ls a b c d u4 Mb [vc,iv c,iv d,vg,vk,vp]
 gr:GR hk (Mb+1) vc cells
 g:OwnSl hk (Mb+1) 4 87 vg r.gs.length (G4 r.gs)
 kk:OwnSl hk (Mb+1) 3 90 vk r.ks.length (K3 r.ks)
 p:OwnSl hk (Mb+1) 2 92 vp r.ps.length (P2 r.ps)
 n:r.gs.length<=k/\r.ks.length<=k/\r.ps.length<=k
theorem RL.fr {h hk h':Hp} {ls:List (List UInt8)} {a b c d:Int} {u4:AV} {Mb:Nat} {vc:AV} {cells:List (List Int)} {vg vk vp:AV} {r:Rs} {k:Nat} (q:RL h hk ls a b c d u4 Mb vc cells vg vk vp r k) (f:Fr hk.n hk h'):RL h h' ls a b c d u4 Mb vc cells vg vk vp r k:=
 ⟨q.ra.keep f,q.gr.keepT f.le (fun k cs h1 _ h3=>by rw [f.at_ k (.inl h1)];exact h3) (fun k cs h1 _ h3=>by rw [f.at_ k (.inl h1)];exact h3),q.g.fr f (xZY _),q.kk.fr f (xZY _),q.p.fr f (xZY _),q.n⟩
theorem u9 {h:Hp} {N sz n Mb:Nat} {e:TypeId} {v:AV} {cs:List AV} (o:OwnSl h N sz e v n cs) (hM:Mb<N) (x:AO):OwnSl (h.set Mb x) N sz e v n cs:=
 o.keepT (xZY _) fun k cs _ h2 h3=>by rw [xZQ,xZZ,if_neg (by omega)];exact h3
theorem b23_1 (h:Hp) (a b c d:Int):qY tb h 23 1 [(0,.agg [iv a,iv b,iv c,iv d])]=some (.sl h.n 0 1 4,h.new (.cells [iv a,iv b,iv c,iv d] 87)):=by kernel_rfl
theorem b24_1 (h:Hp) (a b:Int) (t:Bool):qY tb h 24 1 [(0,.agg [iv a,iv b,.val (.bool t)])]=some (.sl h.n 0 1 3,h.new (.cells [iv a,iv b,.val (.bool t)] 90)):=by kernel_rfl
theorem b25_1 (h:Hp) (a b:Int):qY tb h 25 1 [(0,.agg [iv a,iv b])]=some (.sl h.n 0 1 2,h.new (.cells [iv a,iv b] 92)):=by kernel_rfl
theorem bd87 (a b c d:Int):vZ tb 87 [(0,iv a),(1,iv b),(2,iv c),(3,iv d)]=some (.agg [iv a,iv b,iv c,iv d]):=by kernel_rfl
theorem bd90 (a b:Int) (t:Bool):vZ tb 90 [(0,iv a),(1,iv b),(2,.val (.bool t))]=some (.agg [iv a,iv b,.val (.bool t)]):=by kernel_rfl
theorem bd92 (a b:Int):vZ tb 92 [(0,iv a),(1,iv b)]=some (.agg [iv a,iv b]):=by kernel_rfl
theorem b96_5 (h:Hp) (a b c d e:List UInt8):qY tb h 96 5 [(0,sv a),(1,sv b),(2,sv c),(3,sv d),(4,sv e)]=some (.sl h.n 0 5 1,h.new (.cells [sv a,sv b,sv c,sv d,sv e] 9)):=by kernel_rfl
theorem b96_4 (h:Hp) (a b c d:List UInt8):qY tb h 96 4 [(0,sv a),(1,sv b),(2,sv c),(3,sv d)]=some (.sl h.n 0 4 1,h.new (.cells [sv a,sv b,sv c,sv d] 9)):=by kernel_rfl
theorem RL.step {h hk h':Hp} {ls:List (List UInt8)} {a b c d:Int} {u4:AV} {Mb:Nat} {vc:AV} {cells:List (List Int)} {vg vk vp:AV} {r:Rs} {k:Nat} (q:RL h hk ls a b c d u4 Mb vc cells vg vk vp r k) {e:Nat} (f:Fr (Mb+1) hk h') (hp: ∀k cs' e',e'≠e->k<hk.n->hk.t.get k=some (.cells cs' e')->h'.t.get k=some (.cells cs' e')) (he:e=87\/e=90\/e=92)
  {vg' vk' vp':AV} {r':Rs} (hg:OwnSl h' (Mb+1) 4 87 vg' r'.gs.length (G4 r'.gs)) (hkk:OwnSl h' (Mb+1) 3 90 vk' r'.ks.length (K3 r'.ks)) (hpp:OwnSl h' (Mb+1) 2 92 vp' r'.ps.length (P2 r'.ps)) (hn:r'.gs.length<=k+1/\r'.ks.length<=k+1/\r'.ps.length<=k+1):
  RL h (h'.set Mb (.cells [vc,iv c,iv d,vg',vk',vp'] 27)) ls a b c d u4 Mb vc cells vg' vk' vp' r' (k+1):=by
 have hne:e≠27/\e≠9/\e≠3/\e≠42/\e≠85:=by rcases he with rfl|rfl|rfl<;>decide
 exact ⟨q.ra.step f hp ⟨hne.1,hne.2.1,hne.2.2.1⟩,(q.gr.keepT f.le (fun k cs h1 _ h3=>hp _ _ _ (Ne.symm hne.2.2.2.1) h1 h3) (fun k cs h1 _ h3=>hp _ _ _ (Ne.symm hne.2.2.2.2) h1 h3)).set (by omega) _,u9 hg (by omega) _,u9 hkk (by omega) _,u9 hpp (by omega) _,hn⟩
theorem gQ {ls:List (List UInt8)} {r r2:Rs} {k:Nat} {l:List UInt8} (h:vG ls r=vG (ls.drop k) r2) (hl:ls[k]? =some l) (hn:kR l r2=none):vG ls r=none:=by
 obtain ⟨hk,rfl⟩:=xZV.1 hl;rw [h,xZX hk,vG,hn]
theorem qAu {ls:List (List UInt8)} {r r2 r3:Rs} {k:Nat} {l:List UInt8} (h:vG ls r=vG (ls.drop k) r2) (hl:ls[k]? =some l) (hn:kR l r2=some r3):vG ls r=vG (ls.drop (k+1)) r3:=by
 obtain ⟨hk,rfl⟩:=xZV.1 hl;rw [h,xZX hk,vG,hn]
theorem lineP_g0 {l:List UInt8} {r:Rs} (hw:(spl 32 l).headD []=vC) (h:zD l [vC,[],[],[],[]]=none):kR l r=none:=by
 simp only [kR,if_pos hw,h]
theorem lineP_g1 {l:List UInt8} {r:Rs} {a b c d:Int} (hw:(spl 32 l).headD []=vC) (h:zD l [vC,[],[],[],[]]=some [a,b,c,d]):kR l r=some {r with gs:=r.gs++[(a,b,c,d)]}:=by
 simp only [kR,if_pos hw,h]
theorem lineP_k0 {l:List UInt8} {r:Rs} (hw1: ¬(spl 32 l).headD []=vC) (hw:(spl 32 l).headD []=zX) (h:zD l [zX,[],[],uD (downW.isSuffixOf l)]=none):kR l r=none:=by
 simp only [kR,if_neg hw1,if_pos hw,h]
theorem lineP_k1 {l:List UInt8} {r:Rs} {a b:Int} (hw1: ¬(spl 32 l).headD []=vC) (hw:(spl 32 l).headD []=zX) (h:zD l [zX,[],[],uD (downW.isSuffixOf l)]=some [a,b]):kR l r=some {r with ks:=r.ks++[(a,b,downW.isSuffixOf l)]}:=by
 simp only [kR,if_neg hw1,if_pos hw,h]
theorem lineP_p0 {l:List UInt8} {r:Rs} (hw1: ¬(spl 32 l).headD []=vC) (hw: ¬(spl 32 l).headD []=zX) (h:zD l [xD,[],[]]=none):kR l r=none:=by
 simp only [kR,if_neg hw1,if_neg hw,h]
theorem lineP_p1 {l:List UInt8} {r:Rs} {a b:Int} (hw1: ¬(spl 32 l).headD []=vC) (hw: ¬(spl 32 l).headD []=zX) (h:zD l [xD,[],[]]=some [a,b]):kR l r=some {r with ps:=r.ps++[(a,b)]}:=by
 simp only [kR,if_neg hw1,if_neg hw,h]
theorem qAw {s:List UInt8} {a b c d:Int} {cells:List (List Int)} (ht:zD ((spl 10 s).headD []) xY=some [a,b,c,d]) (hge:a+3<=((spl 10 s).length:Int)) (hr:z6 b (((spl 10 s).drop 1).take a.toNat)=some cells) (hq:vG (((spl 10 s).drop (a.toNat+1)).take ((spl 10 s).length - 2 - (a.toNat+1))) ⟨[],[],[]⟩=none):j9 s=none:=by
 have:kL s=none:=by
  rw [kL,ht];show (if a+3<=((spl 10 s).length:Int) then _ else none)=none;rw [if_pos hge,hr];show (match vG _ _ with|none=>none|some r=>_)=none;rw [hq]
 rw [j9,this];rfl
end Go.Proofs.Kn
namespace Go.Proofs.Kn
open Go Go.Ev
set_option maxRecDepth 100000
set_option maxHeartbeats 4000000
theorem read_rest (xt:Addr->Option Value) (hx:Lx xt) (h:Hp) (s:List UInt8) (hs:s.length<=1000000) (tm:T AV) (hg:Hp) (u4:AV) (Mb:Nat) (a b c d:Int) (vc:AV) (cells:List (List Int)) (ht:zD ((spl 10 s).headD []) xY=some [a,b,c,d]) (na:zJ a) (hge:a+3<=((spl 10 s).length:Int)) (hrs:z6 b (((spl 10 s).drop 1).take a.toNat)=some cells)
  (g0:tm.get 0=some (sv s)) (g2:tm.get 2=some (.ptr h.n 0)) (g3:tm.get 3=some (.sl (h.n+1) 0 (spl 10 s).length 1)) (g4:tm.get 4=some u4) (g5:tm.get 5=some (.ptr Mb 0)) (ra:RA h hg (spl 10 s) a b c d u4 Mb [vc,iv c,iv d,jU,jU,jU]) (gr:GR hg (Mb+1) vc cells)
  (next: ∀tm hg vg vk vp r k,vG (((spl 10 s).drop (a.toNat+1)).take ((spl 10 s).length - 2 - (a.toNat+1))) ⟨[],[],[]⟩=some r->k<=(spl 10 s).length->tm.get 0=some (sv s)->tm.get 2=some (.ptr h.n 0)->tm.get 5=some (.ptr Mb 0)->RL h hg (spl 10 s) a b c d u4 Mb vc cells vg vk vp r k->wpc (SE xt) none c39c ⟨tm,177,hg,[]⟩ (Q39 xt h s)):
  wpc (SE xt) none c39b ⟨tm,177,hg,[]⟩ (Q39 xt h s):=by
 refine xB rfl ?_;obtain ⟨ls,hls⟩: ∃ls,ls=spl 10 s:=⟨_,rfl⟩;obtain ⟨A,hA⟩: ∃A,A=a.toNat:=⟨_,rfl⟩;have haA:a=(A:Int):=by rw [hA];have:=na.1;omega
 have hbad:=qAw ht hge hrs;have hlsl:ls.length<=1000001:=by rw [hls];have:=pO 10 s;omega
 rw [<-hls,<-hA] at hbad next;rw [<-hls] at g3 ra hge;obtain ⟨rl,hrl⟩: ∃rl,rl=(ls.drop (A+1)).take (ls.length - 2 - (A+1)):=⟨_,rfl⟩;obtain ⟨M,hM⟩: ∃M,M=ls.length - 2 - (A+1):=⟨_,rfl⟩;rw [<-hrl] at hbad next;have hge2:A+3<=ls.length:=by omega
 have hrlen:rl.length=M:=by rw [hrl,hM,xZT,xZM];omega
 have hlpart: ∀l∈rl,l.length<=1000000:=fun l hl=>Nat.le_trans (uK 10 s l (by rw [<-hls];rw [hrl] at hl;exact xZA (xZB hl))) hs;have hA3:A<1000:=by have:=na.2;omega
 obtain ⟨b0,i1,i2,i3,i4,i5⟩:=ra.u.idx (i:=0) xR rfl tg3 rfl (by omega) (k:= .i64);have i1:qK tb 65 u4 (iv 0)=some (.ptr b0 0):=i1;have ou1:=ra.u.one;have w1:IntKind.i64.wrap ((A:Int)+1)=((A+1:Nat):Int):=jE (n:=1000) hA3 (by omega);have w2:IntKind.i64.wrap ((ls.length:Int) - 2)=((ls.length - 2:Nat):Int):=by rw [jF _ (by omega) (by omega)];omega
 have sl1: ∀h',xF tb h' 96 (.sl (h.n+1) 0 ls.length 1) (some (iv ((A+1:Nat):Int))) (some (iv ((ls.length - 2:Nat):Int)))=some (.sl (h.n+1) (A+1) M 1):=fun h'=>by
  have e1:kB 0 (some (iv ((A+1:Nat):Int)))=some (A+1):=rfl;have e2:kB ls.length (some (iv ((ls.length - 2:Nat):Int)))=some (ls.length - 2):=rfl;have e3:(Nat.ble (A+1) (ls.length - 2) && (Nat.ble (ls.length - 2) ls.length && Nat.beq 1 te9.size))=true:=by
   rw [xZS,xZS];exact ⟨by rw [xZD];omega,by rw [xZD];omega,rfl⟩
  simp only [xF,uI,t96,tg9,e1,e2];simp only [e3,cond_true];simp [show te9.size=1 from rfl,hM]
 have hlr: ∀h',vN tb h' 96 (.sl (h.n+1) (A+1) M 1)=some M:=fun h'=>by simp [vN,uI,t96]
 have hlr0: ∀h',vN tb h' 96 (.sl (h.n+1) 0 ls.length 1)=some ls.length:=fun h'=>by simp [vN,uI,t96]
 subst haA;refine qL ?_;refine qA fun K hn hp=> ?_;simp only [sw.1,rE,reduceIte,rL,rA,rM,rD,svn.down,syw.1,qE,qD,qC,g3,g4,i1,i4,w1,w2,sl1,hlr,hlr0,bM];apply hn;clear hn hp K;refine qO fun KA A1 A2 A3 A4 A5=> ?_;refine jD (sok xt) (fun st=> ∃(k:Nat) (hk:Hp) (vg:AV) (vk:AV) (vp:AV) (r:Rs) (tm:T AV),st=⟨tm,177,hk,[]⟩/\k<=M/\tm.get 0=some (sv s)/\tm.get 2=some (.ptr h.n 0)/\tm.get 5=some (.ptr Mb 0)/\tm.get 96=some (.sl (h.n+1) (A+1) M 1)/\tm.get 97=some (iv M)/\tm.get 98=some (iv k)/\RL h hk ls (A:Int) b c d u4 Mb vc cells vg vk vp r k/\vG rl ⟨[],[],[]⟩=vG (rl.drop k) r) (fun st=>M - (match st.tm.get 98 with|some (.val (.int _ n))=>n.toNat|_=>0)) ?_ ?_
 ·rintro st ⟨k,hk,vg,vk,vp,r,tm,rfl,hkA,g0,g2,g5,g96,g97,g98,rr,hrp⟩;have muA:=g98;have q:decide ((k:Int)<(M:Int))=decide (k<M):=qG _ _;refine qA fun K hn hp=> ?_;simp only [sw.1,rE,reduceIte,rL,rA,rM,rD,svn.down,syw.1,qE,qD,qC,g0,g2,g5,g96,g97,g98,q];apply hn;clear hn hp K;by_cases hlt:k<M
  ·refine qF true (by simp only [sw.1,rE,reduceIte,rL,rA,rM,rD,svn.down,syw.1,qE,qD,qC,g0,g2,g5,g96,g97,g98,hlt]) (fun _=> ?_) (fun hx=>by cases hx);refine qV ?_;refine qO fun K2 e1 e2 e3 e4 e5=> ?_;obtain ⟨l,hl⟩: ∃l,l=rl[k]'(by omega):=⟨_,rfl⟩;have hlk:rl[k]? =some l:=by rw [hl];exact xZE (by omega)
   have hll:l.length<=1000000:=hlpart l (xYZ hlk);have hlls:ls[A+1+k]? =some l:=by
    rw [hrl,xYY,if_pos (by omega),xYX] at hlk;exact hlk
   have ix:qK tb 96 (.sl (h.n+1) (A+1) M 1) (iv k)=some (.ptr (h.n+1) (A+1+k*1)):=by
    have e1:gI (iv k)=some (Int.ofNat k):=rfl;have e2:Nat.blt k M=true:=by rw [Nat.blt_eq];exact hlt
    simp [qK,uI,t96,tg9,e1,e2,show te9.size=1 from rfl]
   have hld:jV (hk.t.get (h.n+1)) (A+1+k*1)=some (sv l):=by
    rw [rr.ra.l,zY,Nat.mul_one,xYW,hlls];rfl
   have hpan: ∀y (tm:T AV) hq,Fr h.n h hq->j9 s=none->K2 (.panic (kQ y)) ⟨tm,177,hq,[]⟩:=fun y tm hq f hn=>e5 _ _ (A5 _ _ (Q39.pan hn f));have hgrow:=rr.ra.fr.le;have w3:=jE hlt (by omega);obtain ⟨n1,n2,n3⟩:=rr.n;refine qA fun K hn hp=> ?_;simp only [sw.1,rE,reduceIte,rL,rA,rM,rD,svn.down,syw.1,qE,qD,qC,g0,g2,g5,g96,g97,g98,ix,hld];apply hn;clear hn hp K;refine qA fun K hn hp=> ?_;simp only [sw.1,rE,reduceIte,rL,rA,rM,rD,svn.down,syw.1,qE,qD,qC,g0,g2,g5,g96,g97,g98];refine qB (sok xt) (cut_c xt hx hk l (by omega) 32 fun m1 y z hm1=> ?_);obtain ⟨wd,hwd⟩: ∃wd,wd=(spl 32 l).headD []:=⟨_,rfl⟩;rw [<-hwd];simp only [sy.1,argsTo,gC,rE,reduceIte,rL,rA,rM,rD,svn.down,syw.1,qE,qD,qC,g0,g2,g5,g96,g97,g98,qD,qC,show∀x y z:AV,zL (.tup [x,y,z]) 0=some x from fun _ _ _=>rfl,show∀x y z:AV,zL (.tup [x,y,z]) 1=some y from fun _ _ _=>rfl,show∀x y z:AV,zL (.tup [x,y,z]) 2=some z from fun _ _ _=>rfl];apply hn;clear hn hp K;obtain ⟨hB,hhB⟩: ∃hB:Hp,hB=hk.up m1:=⟨_,rfl⟩;have fB:Fr hk.n hk hB:=by rw [hhB];exact (Fr.refl (xZY _)).up (xZN hm1)
   rw [<-hhB];clear hhB;have rB:=rr.fr fB;have fBh:=rr.ra.fr.trans fB hgrow;refine qA fun K hn hp=> ?_;simp only [sw.1,rE,reduceIte,rL,rA,rM,rD,svn.down,syw.1,qE,qD,qC,g0,g2,g5,g96,g97,g98];apply hn;clear hn hp K;refine zQ fun K4 f1 f2 f3 f4 f5=> ?_;have hpan4: ∀y (tm:T AV) hq,Fr h.n h hq->j9 s=none->K4 (.panic (kQ y)) ⟨tm,177,hq,[]⟩:=fun y tm hq f hn=>f5 _ _ (hpan y tm hq f hn);clear hpan;by_cases hgw:wd=vC
   ·have hdg:decide (wd=[103,97,117,103,101])=true:=decide_eq_true hgw;refine qA fun K hn hp=> ?_;simp only [sw.1,rE,reduceIte,rL,rA,rM,rD,svn.down,syw.1,qE,qD,qC,g0,g2,g5,g96,g97,g98,hdg];apply hn;clear hn hp K;refine qT true (by simp only [sw.1,rE,reduceIte,rL,rA,rM,rD,svn.down,syw.1,qE,qD,qC,g0,g2,g5,g96,g97,g98]) (fun _=> ?_) (fun hx=>by cases hx);refine qA fun K hn hp=> ?_;simp only [sw.1,rE,reduceIte,rL,rA,rM,rD,svn.down,syw.1,qE,qD,qC,g0,g2,g5,g96,g97,g98,qQ,b96_5];refine qB (sok xt) (FnA.mono (qBI xt hx _ l hll (.sl hB.n 0 5 1) hB.n [vC,[],[],[],[]] (zV (jO _ _) (by rw [Hp.new_n];omega))) fun res hC hres=> ?_);obtain ⟨fC0,hr⟩:=hres;have fC:Fr hB.n hB hC:=(fbn hB _ 9).trans fC0 (by rw [Hp.new_n];omega);cases htd:zD l [vC,[],[],[],[]] with
    |none=>
     rw [htd] at hr;obtain ⟨y,rfl⟩:=hr;simp only [uL,gK];exact hp _ _ _ (hpan4 _ _ _ (fBh.trans fC (by have:=rB.ra.fr.le;omega)) (hbad (gQ hrp hlk (lineP_g0 (by rw [<-hwd];exact hgw) htd))))
    |some ns=>
     obtain ⟨a1,b1,c1,d1,rfl,_,_,_,_⟩:=hP htd (by decide);rw [htd] at hr;obtain ⟨u,rfl,ou⟩:=hr;simp only [sw.1,rE,reduceIte,rL,rA,rM,rD,svn.down,syw.1,qE,qD,qC,g0,g2,g5,g96,g97,g98];apply hn;clear hn hp K;have rC:=rB.fr fC;obtain ⟨q1,x1,_,_,x4,_⟩:=ou.idx (i:=0) xR rfl tg3 rfl (by simp) (k:= .i64);obtain ⟨q2,y1,_,_,y4,_⟩:=ou.idx (i:=1) xR rfl tg3 rfl (by simp) (k:= .i64);obtain ⟨q3,z1,_,_,z4,_⟩:=ou.idx (i:=2) xR rfl tg3 rfl (by simp) (k:= .i64);obtain ⟨q4,t1,_,_,t4,_⟩:=ou.idx (i:=3) xR rfl tg3 rfl (by simp) (k:= .i64);have x1:qK tb 65 u (iv 0)=some (.ptr q1 0):=x1;have y1:qK tb 65 u (iv 1)=some (.ptr q2 1):=y1;have z1:qK tb 65 u (iv 2)=some (.ptr q3 2):=z1;have t1:qK tb 65 u (iv 3)=some (.ptr q4 3):=t1;have ouo:=ou.one;have hMb:=rC.ra.lt;have qM:=rC.ra.m;obtain ⟨h',p1,p2,p3,p4,p5⟩:=wH (P:=Tryz.prog) (xt:=xt) (sz:=4) (by_:=32) (c:=[iv a1,iv b1,iv c1,iv d1]) (ee:=te87) (te:=te23) wY rfl uE rfl rfl rC.g (by omega) (fbn hC [iv a1,iv b1,iv c1,iv d1] 87) rfl (jO _ _) rfl rfl (by omega) (by omega);have qM':=p5 _ _ _ (by decide) hMb qM;refine regG (sok xt) 16 [15] [] [] (by kernel_rfl) fun K hn hp=> ?_;have eC:({t:=hC.t.put (some (.cells [iv a1,iv b1,iv c1,iv d1] 87)) hC.n,n:=hC.n+1}:Hp)=hC.new (.cells [iv a1,iv b1,iv c1,iv d1] 87):=rfl;have ovg:=rC.g.one;simp only [sw.1,rE,reduceIte,rL,rA,rM,rD,svn.down,syw.1,qE,qD,qC,g0,g2,g5,g96,g97,g98,syg.1,xZO,x1,x4,y1,y4,z1,z4,t1,t4,qM,bd87,qQ,b23_1,eC,p1,qM'];refine hn _ _ (f1 _ (e1 _ ?_));clear hn hp K;refine reg fun K hn hp=> ?_;simp only [sw.1,rE,reduceIte,rL,rA,rM,rD,svn.down,syw.1,qE,qD,qC,g0,g2,g5,g96,g97,g98,w3];apply hn;clear hn hp K;have kp: ∀{sz n:Nat} {e:TypeId} {v:AV} {cs:List AV},e≠87->OwnSl hC (Mb+1) sz e v n cs->OwnSl h' (Mb+1) sz e v n cs:=fun hne o=>o.keepT (by omega) fun k cs h1 _ h3=>p5 _ _ _ hne h1 h3;have pg:OwnSl h' (Mb+1) 4 87 (.sl (hC.n+1) 0 (r.gs.length+1) 4) (r.gs++[(a1,b1,c1,d1)]).length (G4 (r.gs++[(a1,b1,c1,d1)])):=by
      rw [G4_snoc,xZW,xZR];exact p2
     refine ⟨⟨k+1,h'.set Mb (.cells [vc,iv c,iv d,.sl (hC.n+1) 0 (r.gs.length+1) 4,vk,vp] 27),.sl (hC.n+1) 0 (r.gs.length+1) 4,vk,vp,⟨r.gs++[(a1,b1,c1,d1)],r.ks,r.ps⟩,_,rfl,by omega,(by simp [xZZ,g0,g2,g5,g96,g97,g98]),(by simp [xZZ,g0,g2,g5,g96,g97,g98]),(by simp [xZZ,g0,g2,g5,g96,g97,g98]),(by simp [xZZ,g0,g2,g5,g96,g97,g98]),(by simp [xZZ,g0,g2,g5,g96,g97,g98]),(by simp [xZZ,g0,g2,g5,g96,g97,g98]),rC.step p3 p5 (.inl rfl) pg (kp (by decide) rC.kk) (kp (by decide) rC.p) ⟨by simp;omega,by show r.ks.length<=k+1;omega,by show r.ps.length<=k+1;omega⟩,qAu hrp hlk (lineP_g1 (by rw [<-hwd];exact hgw) htd)⟩,by simpa [xZZ,muA] using (by omega:M - (k+1)<M - k)⟩
   ·have hdg:decide (wd=[103,97,117,103,101])=false:=decide_eq_false hgw;refine qA fun K hn hp=> ?_;simp only [sw.1,rE,reduceIte,rL,rA,rM,rD,svn.down,syw.1,qE,qD,qC,g0,g2,g5,g96,g97,g98,hdg];apply hn;clear hn hp K;refine qT false (by simp only [sw.1,rE,reduceIte,rL,rA,rM,rD,svn.down,syw.1,qE,qD,qC,g0,g2,g5,g96,g97,g98]) (fun hx=>by cases hx) (fun _=> ?_);by_cases hkw:wd=zX
    ·have hdk:decide (wd=[99,114,97,99,107])=true:=decide_eq_true hkw;refine qA fun K hn hp=> ?_;simp only [sw.1,rE,reduceIte,rL,rA,rM,rD,svn.down,syw.1,qE,qD,qC,g0,g2,g5,g96,g97,g98,hdk];apply hn;clear hn hp K;refine qT true (by simp only [sw.1,rE,reduceIte,rL,rA,rM,rD,svn.down,syw.1,qE,qD,qC,g0,g2,g5,g96,g97,g98]) (fun _=> ?_) (fun hx=>by cases hx);refine qA fun K hn hp=> ?_;simp only [sw.1,rE,reduceIte,rL,rA,rM,rD,svn.down,syw.1,qE,qD,qC,g0,g2,g5,g96,g97,g98];refine qB (sok xt) (suffix_c xt hB l downW (by omega) fun m2 hm2=> ?_);simp only [sw.1,rE,reduceIte,rL,rA,rM,rD,svn.down,syw.1,qE,qD,qC,g0,g2,g5,g96,g97,g98];apply hn;clear hn hp K;obtain ⟨dw,hdw⟩: ∃dw,dw=downW.isSuffixOf l:=⟨_,rfl⟩;rw [<-hdw];refine qA fun K hn hp=> ?_;simp only [sw.1,rE,reduceIte,rL,rA,rM,rD,svn.down,syw.1,qE,qD,qC,g0,g2,g5,g96,g97,g98];refine qB (sok xt) (way_c xt _ dw fun m3 hm3=> ?_);rw [xZK] at hm3;obtain ⟨hD,hhD⟩: ∃hD:Hp,hD=hB.up m3:=⟨_,rfl⟩;have fD:Fr hB.n hB hD:=by rw [hhD];exact (Fr.refl (xZY _)).up (by omega)
     simp only [xZC];rw [<-hhD];clear hhD;have fDl:=fD.le;simp only [sw.1,rE,reduceIte,rL,rA,rM,rD,svn.down,syw.1,qE,qD,qC,g0,g2,g5,g96,g97,g98,qQ,b96_4];refine qB (sok xt) (FnA.mono (qBI xt hx _ l hll (.sl hD.n 0 4 1) hD.n [zX,[],[],uD dw] (zV (jO _ _) (by rw [Hp.new_n];omega))) fun res hC hres=> ?_);obtain ⟨fC0,hr⟩:=hres;have fC:Fr hB.n hB hC:=fD.trans ((fbn hD _ 9).trans fC0 (by rw [Hp.new_n];omega)) (by omega);cases htd:zD l [zX,[],[],uD dw] with
     |none=>
      rw [htd] at hr;obtain ⟨y,rfl⟩:=hr;simp only [uL,gK];exact hp _ _ _ (hpan4 _ _ _ (fBh.trans fC (by have:=rB.ra.fr.le;omega)) (hbad (gQ hrp hlk (lineP_k0 (by rw [<-hwd];exact hgw) (by rw [<-hwd];exact hkw) (by rw [<-hdw];exact htd)))))
     |some ns=>
      obtain ⟨a1,b1,rfl,_,_⟩:=hU htd (by cases dw<;>decide)
      rw [htd] at hr;obtain ⟨u,rfl,ou⟩:=hr;simp only [sw.1,rE,reduceIte,rL,rA,rM,rD,svn.down,syw.1,qE,qD,qC,g0,g2,g5,g96,g97,g98];apply hn;clear hn hp K;have rC:=rB.fr fC;obtain ⟨q1,x1,_,_,x4,_⟩:=ou.idx (i:=0) xR rfl tg3 rfl (by simp) (k:= .i64);obtain ⟨q2,y1,_,_,y4,_⟩:=ou.idx (i:=1) xR rfl tg3 rfl (by simp) (k:= .i64);have x1:qK tb 65 u (iv 0)=some (.ptr q1 0):=x1;have y1:qK tb 65 u (iv 1)=some (.ptr q2 1):=y1;have ouo:=ou.one;have hMb:=rC.ra.lt;have qM:=rC.ra.m;obtain ⟨h',p1,p2,p3,p4,p5⟩:=wH (P:=Tryz.prog) (xt:=xt) (sz:=3) (by_:=24) (c:=[iv a1,iv b1,.val (.bool dw)]) (ee:=te90) (te:=te24) wX rfl uJ rfl rfl rC.kk (by omega) (fbn hC [iv a1,iv b1,.val (.bool dw)] 90) rfl (jO _ _) rfl rfl (by omega) (by omega);have qM':=p5 _ _ _ (by decide) hMb qM;refine regG (sok xt) 11 [10] [] [] (by kernel_rfl) fun K hn hp=> ?_;have eC:({t:=hC.t.put (some (.cells [iv a1,iv b1,.val (.bool dw)] 90)) hC.n,n:=hC.n+1}:Hp)=hC.new (.cells [iv a1,iv b1,.val (.bool dw)] 90):=rfl;have ovk:=rC.kk.one;simp only [sw.1,rE,reduceIte,rL,rA,rM,rD,svn.down,syw.1,qE,qD,qC,g0,g2,g5,g96,g97,g98,syg.1,xZO,x1,x4,y1,y4,qM,bd90,qQ,b24_1,eC,p1,qM'];refine hn _ _ (f1 _ (e1 _ ?_));clear hn hp K;refine reg fun K hn hp=> ?_;simp only [sw.1,rE,reduceIte,rL,rA,rM,rD,svn.down,syw.1,qE,qD,qC,g0,g2,g5,g96,g97,g98,w3];apply hn;clear hn hp K;have kp: ∀{sz n:Nat} {e:TypeId} {v:AV} {cs:List AV},e≠90->OwnSl hC (Mb+1) sz e v n cs->OwnSl h' (Mb+1) sz e v n cs:=fun hne o=>o.keepT (by omega) fun k cs h1 _ h3=>p5 _ _ _ hne h1 h3;have pg:OwnSl h' (Mb+1) 3 90 (.sl (hC.n+1) 0 (r.ks.length+1) 3) (r.ks++[(a1,b1,dw)]).length (K3 (r.ks++[(a1,b1,dw)])):=by
       rw [K3_snoc,xZW,xZR];exact p2
      have hgo:=qAu hrp hlk (lineP_k1 (by rw [<-hwd];exact hgw) (by rw [<-hwd];exact hkw) (by rw [<-hdw];exact htd));rw [<-hdw] at hgo;refine ⟨⟨k+1,h'.set Mb (.cells [vc,iv c,iv d,vg,.sl (hC.n+1) 0 (r.ks.length+1) 3,vp] 27),vg,.sl (hC.n+1) 0 (r.ks.length+1) 3,vp,⟨r.gs,r.ks++[(a1,b1,dw)],r.ps⟩,_,rfl,by omega,(by simp [xZZ,g0,g2,g5,g96,g97,g98]),(by simp [xZZ,g0,g2,g5,g96,g97,g98]),(by simp [xZZ,g0,g2,g5,g96,g97,g98]),(by simp [xZZ,g0,g2,g5,g96,g97,g98]),(by simp [xZZ,g0,g2,g5,g96,g97,g98]),(by simp [xZZ,g0,g2,g5,g96,g97,g98]),rC.step p3 p5 (.inr (.inl rfl)) (kp (by decide) rC.g) pg (kp (by decide) rC.p) ⟨by show r.gs.length<=k+1;omega,by simp;omega,by show r.ps.length<=k+1;omega⟩,hgo⟩,by simpa [xZZ,muA] using (by omega:M - (k+1)<M - k)⟩
    ·have hdk:decide (wd=[99,114,97,99,107])=false:=decide_eq_false hkw;refine qA fun K hn hp=> ?_;simp only [sw.1,rE,reduceIte,rL,rA,rM,rD,svn.down,syw.1,qE,qD,qC,g0,g2,g5,g96,g97,g98,hdk];apply hn;clear hn hp K;refine qT false (by simp only [sw.1,rE,reduceIte,rL,rA,rM,rD,svn.down,syw.1,qE,qD,qC,g0,g2,g5,g96,g97,g98]) (fun hx=>by cases hx) (fun _=> ?_);refine qA fun K hn hp=> ?_;simp only [sw.1,rE,reduceIte,rL,rA,rM,rD,svn.down,syw.1,qE,qD,qC,g0,g2,g5,g96,g97,g98,qQ,b96_3];refine qB (sok xt) (FnA.mono (qBI xt hx _ l hll (.sl hB.n 0 3 1) hB.n [xD,[],[]] (zV (jO _ _) (by rw [Hp.new_n];omega))) fun res hC hres=> ?_);obtain ⟨fC0,hr⟩:=hres;have fC:Fr hB.n hB hC:=(fbn hB _ 9).trans fC0 (by rw [Hp.new_n];omega);cases htd:zD l [xD,[],[]] with
     |none=>
      rw [htd] at hr;obtain ⟨y,rfl⟩:=hr;simp only [uL,gK];exact hp _ _ _ (hpan4 _ _ _ (fBh.trans fC (by have:=rB.ra.fr.le;omega)) (hbad (gQ hrp hlk (lineP_p0 (by rw [<-hwd];exact hgw) (by rw [<-hwd];exact hkw) htd))))
     |some ns=>
      obtain ⟨a1,b1,rfl,_,_⟩:=hU htd (by decide);rw [htd] at hr;obtain ⟨u,rfl,ou⟩:=hr;simp only [sw.1,rE,reduceIte,rL,rA,rM,rD,svn.down,syw.1,qE,qD,qC,g0,g2,g5,g96,g97,g98];apply hn;clear hn hp K;have rC:=rB.fr fC;obtain ⟨q1,x1,_,_,x4,_⟩:=ou.idx (i:=0) xR rfl tg3 rfl (by simp) (k:= .i64);obtain ⟨q2,y1,_,_,y4,_⟩:=ou.idx (i:=1) xR rfl tg3 rfl (by simp) (k:= .i64);have x1:qK tb 65 u (iv 0)=some (.ptr q1 0):=x1;have y1:qK tb 65 u (iv 1)=some (.ptr q2 1):=y1;have ouo:=ou.one;have hMb:=rC.ra.lt;have qM:=rC.ra.m;obtain ⟨h',p1,p2,p3,p4,p5⟩:=wH (P:=Tryz.prog) (xt:=xt) (sz:=2) (by_:=16) (c:=[iv a1,iv b1]) (ee:=te92) (te:=te25) wW rfl kW rfl rfl rC.p (by omega) (fbn hC [iv a1,iv b1] 92) rfl (jO _ _) rfl rfl (by omega) (by omega);have qM':=p5 _ _ _ (by decide) hMb qM;refine regG (sok xt) 10 [9] [] [] (by kernel_rfl) fun K hn hp=> ?_;have eC:({t:=hC.t.put (some (.cells [iv a1,iv b1] 92)) hC.n,n:=hC.n+1}:Hp)=hC.new (.cells [iv a1,iv b1] 92):=rfl;have ovp:=rC.p.one;simp only [sw.1,rE,reduceIte,rL,rA,rM,rD,svn.down,syw.1,qE,qD,qC,g0,g2,g5,g96,g97,g98,syg.1,xZO,x1,x4,y1,y4,qM,bd92,qQ,b25_1,eC,p1,qM'];refine hn _ _ (f1 _ (e1 _ ?_));clear hn hp K;refine reg fun K hn hp=> ?_;simp only [sw.1,rE,reduceIte,rL,rA,rM,rD,svn.down,syw.1,qE,qD,qC,g0,g2,g5,g96,g97,g98,w3];apply hn;clear hn hp K;have kp: ∀{sz n:Nat} {e:TypeId} {v:AV} {cs:List AV},e≠92->OwnSl hC (Mb+1) sz e v n cs->OwnSl h' (Mb+1) sz e v n cs:=fun hne o=>o.keepT (by omega) fun k cs h1 _ h3=>p5 _ _ _ hne h1 h3;have pg:OwnSl h' (Mb+1) 2 92 (.sl (hC.n+1) 0 (r.ps.length+1) 2) (r.ps++[(a1,b1)]).length (P2 (r.ps++[(a1,b1)])):=by
       rw [P2_snoc,xZW,xZR];exact p2
      refine ⟨⟨k+1,h'.set Mb (.cells [vc,iv c,iv d,vg,vk,.sl (hC.n+1) 0 (r.ps.length+1) 2] 27),vg,vk,.sl (hC.n+1) 0 (r.ps.length+1) 2,⟨r.gs,r.ks,r.ps++[(a1,b1)]⟩,_,rfl,by omega,(by simp [xZZ,g0,g2,g5,g96,g97,g98]),(by simp [xZZ,g0,g2,g5,g96,g97,g98]),(by simp [xZZ,g0,g2,g5,g96,g97,g98]),(by simp [xZZ,g0,g2,g5,g96,g97,g98]),(by simp [xZZ,g0,g2,g5,g96,g97,g98]),(by simp [xZZ,g0,g2,g5,g96,g97,g98]),rC.step p3 p5 (.inr (.inr rfl)) (kp (by decide) rC.g) (kp (by decide) rC.kk) pg ⟨by show r.gs.length<=k+1;omega,by show r.ks.length<=k+1;omega,by simp;omega⟩,qAu hrp hlk (lineP_p1 (by rw [<-hwd];exact hgw) (by rw [<-hwd];exact hkw) htd)⟩,by simpa [xZZ,muA] using (by omega:M - (k+1)<M - k)⟩
  ·have hkA:k=M:=by omega
   subst hkA;have hres:vG rl ⟨[],[],[]⟩=some r:=by rw [hrp,<-hrlen,xZL];rfl
   refine qF false (by simp only [sw.1,rE,reduceIte,rL,rA,rM,rD,svn.down,syw.1,qE,qD,qC,g0,g2,g5,g96,g97,g98,hlt]) (fun hx=>by cases hx) (fun _=> ?_);refine jA (A2 _ (next _ hk vg vk vp r k hres (by omega) (by simp [xZZ,g0]) (by simp [xZZ,g2]) (by simp [xZZ,g5]) rr))
 ·exact ⟨0,hg,jU,jU,jU,⟨[],[],[]⟩,_,rfl,by omega,by simp [xZZ,g0],by simp [xZZ,g2],by simp [xZZ,g5],by simp [xZZ],by simp [xZZ],by simp [xZZ],⟨ra,gr,OwnSl.nil,OwnSl.nil,OwnSl.nil,by simp⟩,by simp⟩
end Go.Proofs.Kn
namespace Go.Proofs.Kn
open Go Go.Ev
set_option maxRecDepth 100000
set_option maxHeartbeats 4000000
theorem cellP_num {x v:Int} (h:yU x=some v):1<=v/\v<=3:=by
 unfold yU at h;split at h
 ·cases h;decide
 split at h
 ·cases h;decide
 split at h
 ·cases h;decide
 ·cases h
theorem rowP_ok: ∀{l:List UInt8} {xs:List Int},xK l=some xs->xs.length=l.length/\ ∀x∈xs,1<=x/\x<=3
 |[],xs,h=>by simp only [xK] at h;cases h;simp
 |b::l,xs,h=>by
  simp only [xK] at h;cases hc:yU b.toNat with
  |none=>rw [hc] at h;cases h
  |some x=>
   rw [hc] at h;simp only [xZF] at h;obtain ⟨ys,h1,rfl⟩:=h;obtain ⟨i1,i2⟩:=rowP_ok h1;refine ⟨by simp [i1],fun y hy=> ?_⟩;rcases List.mem_cons.1 hy with rfl|hy
   ·exact cellP_num hc
   ·exact i2 y hy
theorem qAr {b:Int}: ∀{ls:List (List UInt8)} {rs:List (List Int)},z6 b ls=some rs->rs.length=ls.length/\ ∀r∈rs,(r.length:Int)=b/\ ∀x∈r,1<=x/\x<=3
 |[],rs,h=>by simp only [z6] at h;cases h;simp
 |l::ls,rs,h=>by
  simp only [z6] at h;cases hc:xK l with
  |none=>rw [hc] at h;cases h
  |some r=>
   rw [hc] at h;simp only at h;split at h
   ·rename_i hb;simp only [xZF] at h;obtain ⟨ys,h1,rfl⟩:=h;obtain ⟨i1,i2⟩:=qAr h1;refine ⟨by simp [i1],fun y hy=> ?_⟩;rcases List.mem_cons.1 hy with rfl|hy
    ·exact ⟨hb,(rowP_ok hc).2⟩
    ·exact i2 y hy
   ·cases h
structure Rs.Ok (r:Rs) (n:Nat):Prop where
 gs: ∀g∈r.gs,zJ g.1/\zJ g.2.1/\zJ g.2.2.1/\zJ g.2.2.2
 ks: ∀k∈r.ks,zJ k.1/\zJ k.2.1
 ps: ∀p∈r.ps,zJ p.1/\zJ p.2
 n:r.gs.length<=n/\r.ks.length<=n/\r.ps.length<=n
theorem lineP_ok {l:List UInt8} {r r2:Rs} {n:Nat} (ho:r.Ok n) (h:kR l r=some r2):r2.Ok (n+1):=by
 obtain ⟨o1,o2,o3,n1,n2,n3⟩:=ho;unfold kR at h;split at h
 ·split at h
  ·rename_i a b c d ht;cases h;obtain ⟨_,_,_,_,he,q1,q2,q3,q4⟩:=hP ht (by decide);cases he;refine ⟨fun g hg=> ?_,o2,o3,by simp;omega,by show r.ks.length<=n+1;omega,by show r.ps.length<=n+1;omega⟩;rcases xZJ.1 hg with hg|hg
   ·exact o1 g hg
   ·rw [xZP.1 hg];exact ⟨q1,q2,q3,q4⟩
  ·cases h
 split at h
 ·split at h
  ·rename_i a b ht;cases h;obtain ⟨_,_,he,q1,q2⟩:=hU ht (by cases downW.isSuffixOf l<;>decide)
   cases he;refine ⟨o1,fun g hg=> ?_,o3,by show r.gs.length<=n+1;omega,by simp;omega,by show r.ps.length<=n+1;omega⟩;rcases xZJ.1 hg with hg|hg
   ·exact o2 g hg
   ·rw [xZP.1 hg];exact ⟨q1,q2⟩
  ·cases h
 ·split at h
  ·rename_i a b ht;cases h;obtain ⟨_,_,he,q1,q2⟩:=hU ht (by decide);cases he;refine ⟨o1,o2,fun g hg=> ?_,by show r.gs.length<=n+1;omega,by show r.ks.length<=n+1;omega,by simp;omega⟩;rcases xZJ.1 hg with hg|hg
   ·exact o3 g hg
   ·rw [xZP.1 hg];exact ⟨q1,q2⟩
  ·cases h
theorem qCB: ∀{ls:List (List UInt8)} {r r2:Rs} {n:Nat},r.Ok n->vG ls r=some r2->r2.Ok (n+ls.length)
 |[],r,r2,n,ho,h=>by simp only [vG] at h;cases h;exact ho
 |l::ls,r,r2,n,ho,h=>by
  simp only [vG] at h;cases hl:kR l r with
  |none=>rw [hl] at h;cases h
  |some r3=>
   rw [hl] at h;have:=qCB (lineP_ok ho hl) h;rw [xYV,show n+(ls.length+1)=n+1+ls.length by omega];exact this
theorem qCC {s:List UInt8} (hs:s.length<=900) {a b c d:Int} {cells:List (List Int)} {r:Rs} (na:zJ a) (nb:zJ b) (nc:zJ c) (nd:zJ d) (hrs:z6 b (((spl 10 s).drop 1).take a.toNat)=some cells) (hq:vG (((spl 10 s).drop (a.toNat+1)).take ((spl 10 s).length - 2 - (a.toNat+1))) ⟨[],[],[]⟩=some r) (v1 v2 v3 v4:AV):Txt ((⟨cells,c,d,r.gs,r.ks,r.ps⟩:Md).mp v1 v2 v3 v4):=by
 obtain ⟨c1,c2⟩:=qAr hrs;have ho:=qCB (n:=0) ⟨by simp,by simp,by simp,by simp⟩ hq;have hl:=pO 10 s;have hlen:((((spl 10 s).drop (a.toNat+1)).take ((spl 10 s).length - 2 - (a.toNat+1)))).length<=901:=by rw [xZT,xZM];omega
 obtain ⟨o1,o2,o3,n1,n2,n3⟩:=ho;rw [Nat.zero_add] at n1 n2 n3;refine ⟨fun l hl x hx=>(c2 l hl).2 x hx,?_,fun l hl=> ?_,nc,nd,o1,o2,o3,by show r.gs.length<=999;omega,by show r.ks.length<=999;omega,by show r.ps.length<=999;omega⟩
 ·show cells.length<=999;rw [c1,xZT];have:=na.2;have:=na.1;omega
 ·have:=(c2 l hl).1;have:=nb.2;omega
theorem own_map {xt:Addr->Option Value} {h:Hp} {N:Nat} {m:Mp} (ht:Txt m) (g0:GR h N m.vc m.cells) (g1:OwnSl h N 4 87 m.vg m.gs.length (G4 m.gs)) (g2:OwnSl h N 3 90 m.vk m.ks.length (K3 m.ks)) (g3:OwnSl h N 2 92 m.vp m.ps.length (P2 m.ps)):m.At xt h:=
 ⟨g0.grid,hZ Kn.g4 (fun _=>rfl) (by omega) g1,hZ Kn.k3 (fun _=>rfl) (by omega) g2,hZ Kn.p2 (fun _=>rfl) (by omega) g3,by have:=ht.lc;omega,fun l hl=>by have:=ht.lr l hl;omega,by have:=ht.lg;omega,by have:=ht.lk;omega,by have:=ht.lp;omega⟩
theorem read_end (xt:Addr->Option Value) (hx:Lx xt) (h:Hp) (s:List UInt8) (hs:s.length<=900) (tm:T AV) (hg:Hp) (u4:AV) (Mb:Nat) (a b c d:Int) (vc vg vk vp:AV) (cells:List (List Int)) (r:Rs) (k:Nat) (ht:zD ((spl 10 s).headD []) xY=some [a,b,c,d]) (na:zJ a) (nb:zJ b) (nc:zJ c) (nd:zJ d) (hge:a+3<=((spl 10 s).length:Int)) (hrs:z6 b (((spl 10 s).drop 1).take a.toNat)=some cells) (hq:vG (((spl 10 s).drop (a.toNat+1)).take ((spl 10 s).length - 2 - (a.toNat+1))) ⟨[],[],[]⟩=some r) (hk:k<=(spl 10 s).length)
  (g0:tm.get 0=some (sv s)) (g2:tm.get 2=some (.ptr h.n 0)) (g5:tm.get 5=some (.ptr Mb 0)) (rl:RL h hg (spl 10 s) a b c d u4 Mb vc cells vg vk vp r k):wpc (SE xt) none c39c ⟨tm,177,hg,[]⟩ (Q39 xt h s):=by
 refine xB rfl ?_;obtain ⟨D,hD⟩: ∃D:Md,D=⟨cells,c,d,r.gs,r.ks,r.ps⟩:=⟨_,rfl⟩;obtain ⟨m,hm⟩: ∃m:Mp,m=D.mp vc vg vk vp:=⟨_,rfl⟩;have hparse:kL s=some D:=by
  rw [kL,ht];show (if a+3<=((spl 10 s).length:Int) then _ else none)=_;rw [if_pos hge,hrs];show (match vG _ _ with|none=>none|some r=>_)=_;rw [hq,hD]
 have htx:Txt m:=by rw [hm,hD];exact qCC hs na nb nc nd hrs hq vc vg vk vp
 have e0:GR hg (Mb+1) m.vc m.cells:=by rw [hm,hD];exact rl.gr
 have e1:OwnSl hg (Mb+1) 4 87 m.vg m.gs.length (G4 m.gs):=by rw [hm,hD];exact rl.g
 have e2:OwnSl hg (Mb+1) 3 90 m.vk m.ks.length (K3 m.ks):=by rw [hm,hD];exact rl.kk
 have e3:OwnSl hg (Mb+1) 2 92 m.vp m.ps.length (P2 m.ps):=by rw [hm,hD];exact rl.p
 have hma:m.At xt hg:=own_map htx e0 e1 e2 e3;have qm:hg.t.get Mb=some (.cells m.cs 27):=by rw [hm,hD];exact rl.ra.m
 have hbx:m.textB=D.textB:=by rw [hm];rfl
 have hrf:=rl.ra.fr.le;obtain ⟨o1,o2,o3,o4⟩:=hma.ones;refine qA fun K hn hp=> ?_;simp only [sw.1,rE,reduceIte,rL,rA,rM,rD,svn.down,syw.1,qE,qD,qC,g5,g0,qm];refine qB (sok xt) (text_c xt hx hg m hma htx fun n1 hn1=> ?_);by_cases he:m.textB=s
 rotate_left
 ·have hn0:j9 s=none:=by rw [j9,hparse];exact if_neg (by rw [<-hbx];exact he)
  simp only [sw.1,rE,reduceIte,rL,rA,rM,rD,svn.down,syw.1,qE,qD,qC,g0,decide_eq_false he];refine qB (sok xt) (zU xt _ _ _ (fun hb=>by cases hb) (fun _ n2 hn2=> ?_));simp only [xZK] at hn2;simp only [sw.1,rE,reduceIte,rL,rA,rM,rD,svn.down,syw.1,qE,qD,qC,xZC];exact hp _ _ _ (Q39.pan hn0 (rl.ra.fr.up (by omega)))
 have hn1':j9 s=some D:=by rw [j9,hparse];exact if_pos (by rw [<-hbx];exact he)
 simp only [sw.1,rE,reduceIte,rL,rA,rM,rD,svn.down,syw.1,qE,qD,qC,g0,decide_eq_true he];refine qB (sok xt) (zU xt _ _ _ (fun _ n2 hn2=> ?_) (fun hb=>by cases hb));simp only [xZK] at hn2;simp only [sw.1,rE,reduceIte,rL,rA,rM,rD,svn.down,syw.1,qE,qD,qC,xZC];apply hn;clear hn hp K;have qr:=rl.ra.r;refine qA fun K hn hp=> ?_;simp only [sw.1,rE,reduceIte,rL,rA,rM,rD,svn.down,syw.1,qE,qD,qC,g5,g2,qm,qr,o1,o2,o3,o4];refine hn _ _ (qJ (end_c (v:=m.av) res39s ?_ ⟨?_,?_⟩))
 ·simp only [sw.1,rE,reduceIte,rL,rA,rM,rD,svn.down,syw.1,qE,qD,qC,g2]
 ·exact (rl.ra.fr.up (by omega)).set (xZY _) (by rw [xZK];have:=rl.ra.gt;have:=rl.ra.lt;omega) _
 ·rw [hn1'];have hgt:=rl.ra.gt;refine ⟨vc,vg,vk,vp,by rw [hm],?_⟩;rw [<-hm];intro h'' hle hk;rw [xZH,xZK] at hle hk;have hs: ∀k,Mb+1<=k->k<hg.n->h''.t.get k=hg.t.get k:=fun k h1 h2=>by
   rw [hk k (by omega) (by omega),xZQ,xZZ,if_neg (by omega)];rfl
  exact own_map htx (e0.keepT (by omega) (fun k cs h1 h2 h3=>by rw [hs k h2 h1];exact h3) (fun k cs h1 h2 h3=>by rw [hs k h2 h1];exact h3)) (e1.keep (by omega) hs) (e2.keep (by omega) hs) (e3.keep (by omega) hs)
theorem read_c (xt:Addr->Option Value) (hx:Lx xt) (h:Hp) (s:List UInt8) (hs:s.length<=900):FnA (SE xt) 39 [sv s] h (ReR xt h (j9 s)):=by
 refine read_head xt hx h s (by omega) fun tm hg u4 Mb a b c d ht na nb nc nd hge g0 g2 g3 g4 g5 ra=> ?_;refine read_rows xt h s (by omega) tm hg u4 Mb a b c d ht na nb hge g0 g2 g3 g4 g5 ra fun tm hg vc cells hrs g0 g2 g3 g4 g5 ra gr=> ?_;refine read_rest xt hx h s (by omega) tm hg u4 Mb a b c d vc cells ht na hge hrs g0 g2 g3 g4 g5 ra gr fun tm hg vg vk vp r k hq hk g0 g2 g5 rl=> ?_;exact read_end xt hx h s hs tm hg u4 Mb a b c d vc vg vk vp cells r k ht na nb nc nd hge hrs hq hk g0 g2 g5 rl
end Go.Proofs.Kn
