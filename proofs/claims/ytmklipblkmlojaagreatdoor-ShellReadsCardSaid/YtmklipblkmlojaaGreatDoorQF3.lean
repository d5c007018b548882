/- Parts of the proof, joined by a program. -/
import Derived.Test.YtmklipblkmlojaaGreatDoorQF2
set_option linter.all false
open Nat renaming reduceEqDiff → rE, reduceLeDiff → rD, reduceAdd → rA, reduceMul → rM, reduceLT → rL
open Go.Ev.T renaming get_put → xZZ
open List renaming length_drop → xZY, length_take → xZX, getElem?_map → xZW, mem_of_mem_drop → xZU, length_singleton → xZS, mem_singleton → xZQ, length_append → xZP, getElem?_take → xZO, mem_append → xZL, getElem?_eq_some_iff → xZK, drop_eq_getElem_cons → xZJ, mem_of_mem_take → xZH, getElem?_drop → xZF, take_length → xZB
open Nat renaming le_refl → xZV, mul_one → xZG, ble_eq → xZC
open Bool renaming and_eq_true → xZT, not_false → xZR, not_true → xZN, false_eq_true → xZM
open Go.Ev.Hp renaming up_n → xZI, set_n → xZA
open Option renaming map_none → xZE
open Go.Ev.FnA renaming mono → xZD
namespace Go.Proofs.Kn
open Go Go.Ev
set_option maxRecDepth 100000
set_option maxHeartbeats 4000000
structure SL (h hk:Hp) (ls:List (List UInt8)) (ns:List Int) (v5 v7:AV) (c d:Int) (vc:AV) (cells:List (List Int)) (vg vk vp:AV) (r:Rs) (k:Nat):Prop where
 sb:SB h hk ls ns v5 v7 [vc,iv c,iv d,vg,vk,vp]
 gr:GR hk (h.n+2) vc cells
 g:OwnSl hk (h.n+2) 4 87 vg r.gs.length (G4 r.gs)
 kk:OwnSl hk (h.n+2) 3 90 vk r.ks.length (K3 r.ks)
 p:OwnSl hk (h.n+2) 2 92 vp r.ps.length (P2 r.ps)
 n:r.gs.length<=k/\r.ks.length<=k/\r.ps.length<=k
theorem SL.fr {h hk h':Hp} {ls:List (List UInt8)} {ns:List Int} {v5 v7:AV} {c d:Int} {vc:AV} {cells:List (List Int)} {vg vk vp:AV} {r:Rs} {k:Nat} (q:SL h hk ls ns v5 v7 c d vc cells vg vk vp r k) (f:Fr hk.n hk h'):SL h h' ls ns v5 v7 c d vc cells vg vk vp r k:=
 ⟨q.sb.keep f,q.gr.keepT f.le (fun k cs h1 _ h3=>by rw [f.at_ k (.inl h1)];exact h3) (fun k cs h1 _ h3=>by rw [f.at_ k (.inl h1)];exact h3),q.g.fr f (xZV _),q.kk.fr f (xZV _),q.p.fr f (xZV _),q.n⟩
theorem SL.step {h hk h':Hp} {ls:List (List UInt8)} {ns:List Int} {v5 v7:AV} {c d:Int} {vc:AV} {cells:List (List Int)} {vg vk vp:AV} {r:Rs} {k:Nat} (q:SL h hk ls ns v5 v7 c d vc cells vg vk vp r k) {e:Nat} (f:Fr (h.n+2) hk h') (hp: ∀k cs' e',e'≠e->k<hk.n->hk.t.get k=some (.cells cs' e')->h'.t.get k=some (.cells cs' e')) (he:e=87\/e=90\/e=92)
  {vg' vk' vp':AV} {r':Rs} (hg:OwnSl h' (h.n+2) 4 87 vg' r'.gs.length (G4 r'.gs)) (hkk:OwnSl h' (h.n+2) 3 90 vk' r'.ks.length (K3 r'.ks)) (hpp:OwnSl h' (h.n+2) 2 92 vp' r'.ps.length (P2 r'.ps)) (hn:r'.gs.length<=k+1/\r'.ks.length<=k+1/\r'.ps.length<=k+1):
  SL h (h'.set (h.n+1) (.cells [vc,iv c,iv d,vg',vk',vp'] 27)) ls ns v5 v7 c d vc cells vg' vk' vp' r' (k+1):=by
 have hne:e≠27/\e≠9/\e≠3/\e≠42/\e≠85:=by rcases he with rfl|rfl|rfl<;>decide
 exact ⟨q.sb.step f hp ⟨hne.1,hne.2.1,hne.2.2.1⟩,(q.gr.keepT f.le (fun k cs h1 _ h3=>hp _ _ _ (Ne.symm hne.2.2.2.1) h1 h3) (fun k cs h1 _ h3=>hp _ _ _ (Ne.symm hne.2.2.2.2) h1 h3)).set (by omega) _,pD hg (by omega) _,pD hkk (by omega) _,pD hpp (by omega) _,hn⟩
theorem restR_bad {ls:List (List UInt8)} {r r2:Rs} {k:Nat} {l:List UInt8} (h:zF ls r=zF (ls.drop k) r2) (hl:ls[k]? =some l) (hn:kD l r2=none):zF ls r=none:=by
 obtain ⟨hk,rfl⟩:=xZK.1 hl;rw [h,xZJ hk,zF,hn]
theorem qA9 {ls:List (List UInt8)} {r r2 r3:Rs} {k:Nat} {l:List UInt8} (h:zF ls r=zF (ls.drop k) r2) (hl:ls[k]? =some l) (hn:kD l r2=some r3):zF ls r=zF (ls.drop (k+1)) r3:=by
 obtain ⟨hk,rfl⟩:=xZK.1 hl;rw [h,xZJ hk,zF,hn]
theorem qBR {s:List UInt8} {a b c d:Int} {cells:List (List Int)} (ht:uQ (spl 32 ((spl 10 s).headD []))=some [a,b,c,d]) (hge:a+3<=((spl 10 s).length:Int)) (hr:vK b (((spl 10 s).drop 1).take a.toNat)=some cells) (hq:zF (((spl 10 s).drop (a.toNat+1)).take ((spl 10 s).length - 2 - (a.toNat+1))) ⟨[],[],[]⟩=none):yT s=none:=by
 have:vO s=none:=by
  rw [vO,ht];show (if a+3<=((spl 10 s).length:Int) then _ else none)=none;rw [if_pos hge,hr];show (match zF _ _ with|none=>none|some r=>_)=none;rw [hq]
 rw [yT,this];rfl
theorem qA7 {xt:Addr->Option Value} {h:Hp} {N:Nat} {v:AV} {ws:List (List UInt8)} (o:OwnSl h N 1 9 v ws.length (ws.map sv)) (h0:0<ws.length) {i j:Nat} (hi:i<=j) (hj:j<=ws.length): ∃b,v= .sl b 0 ws.length 1/\RowAt xt h 1 (.sl b i (j - i) 1) (((ws.take j).drop i).map fun x=>[.string (bs x)]):=by
 obtain ⟨b,h1,_,_,h2⟩:=o.part (xt:=xt) (te:=te96) (ee:=te9) (t:=96) (tb:=tb) h0 hi hj (cl:=((ws.take j).drop i).map fun x=>[.string (bs x)]) (by omega) (fun c hc=>by obtain ⟨x,_,rfl⟩:=List.mem_map.1 hc;rfl) (by rw [List.length_map,xZY,xZX];omega) (fun k c hk q u hq=>by
  rw [xZW,xZF] at hk;by_cases hij:i+k<j
  ·rw [xZO,if_pos hij] at hk;cases hw:ws[i+k]? with
   |none=>rw [hw] at hk;cases hk
   |some x=>
    rw [hw] at hk;simp only [Option.map_some,Option.some.injEq] at hk;subst hk;cases q with
    |zero=>
     simp only [List.getElem?_cons_zero,Option.some.injEq] at hq;subst hq;rw [xZG,xZG,Nat.add_zero,xZW,hw];rfl
    |succ q=>simp at hq
  ·rw [xZO,if_neg hij] at hk;cases hk) vN t96 tg9 rfl
 exact ⟨b,h1,by simpa using h2⟩
theorem sl_1n (h':Hp) (b n:Nat) (hn:1<=n):vF tb h' 96 (.sl b 0 n 1) (some (.val (.int .i64 1))) none=some (.sl b 1 (n - 1) 1):=by
 have e1:zU 0 (some (.val (.int .i64 1)))=some 1:=rfl;have e2:zU n none=some n:=rfl;have e3:(Nat.ble 1 n && (Nat.ble n n && Nat.beq 1 te9.size))=true:=by
  rw [xZT,xZT];exact ⟨by rw [xZC];omega,by rw [xZC];omega,rfl⟩
 simp only [vF,vN,t96,tg9,e1,e2];simp only [e3,cond_true]
 try simp [show te9.size=1 from rfl]
theorem sl_13 (h':Hp) (b n:Nat) (hn:3<=n):vF tb h' 96 (.sl b 0 n 1) (some (.val (.int .i64 1))) (some (.val (.int .i64 3)))=some (.sl b 1 2 1):=by
 have e1:zU 0 (some (.val (.int .i64 1)))=some 1:=rfl;have e2:zU n (some (.val (.int .i64 3)))=some 3:=rfl;have e3:(Nat.ble 1 3 && (Nat.ble 3 n && Nat.beq 1 te9.size))=true:=by
  rw [xZT,xZT];exact ⟨rfl,by rw [xZC];omega,rfl⟩
 simp only [vF,vN,t96,tg9,e1,e2];simp only [e3,cond_true]
 try simp [show te9.size=1 from rfl]
theorem qCC {l:List UInt8} {r:Rs} (hw:(spl 32 l).headD []=zL):kD l r=match zE ((spl 32 l).drop 1) with
  |some [a,b,c,d]=>some {r with gs:=r.gs++[(a,b,c,d)]}
  |_=>none:=by rw [kD,if_pos hw];rfl
theorem lineR_k {l:List UInt8} {r:Rs} (hw:(spl 32 l).headD []=zB) (h4:(spl 32 l).length=4):kD l r=match zE (((spl 32 l).take 3).drop 1) with
   |some [a,b]=>some {r with ks:=r.ks++[(a,b,decide ((spl 32 l).getD 3 []=[100,111,119,110]))]}
   |_=>none:=by rw [kD,if_neg (by rw [hw];decide),if_pos hw,if_pos h4];rfl
theorem lineR_k4 {l:List UInt8} {r:Rs} (hw:(spl 32 l).headD []=zB) (h4: ¬(spl 32 l).length=4):kD l r=none:=by rw [kD,if_neg (by rw [hw];decide),if_pos hw,if_neg h4]
theorem qCB {l:List UInt8} {r:Rs} (hw:(spl 32 l).headD []=kB):kD l r=match zE ((spl 32 l).drop 1) with
  |some [a,b]=>some {r with ps:=r.ps++[(a,b)]}
  |_=>none:=by rw [kD,if_neg (by rw [hw];decide),if_neg (by rw [hw];decide),if_pos hw];rfl
theorem lineR_o {l:List UInt8} {r:Rs} (h1: ¬(spl 32 l).headD []=zL) (h2: ¬(spl 32 l).headD []=zB) (h3: ¬(spl 32 l).headD []=kB):kD l r=none:=by rw [kD,if_neg h1,if_neg h2,if_neg h3]
theorem len4 {ns:List Int} (h:ns.length=4): ∃a b c d,ns=[a,b,c,d]:=by
 match ns,h with
 |[a,b,c,d],_=>exact ⟨a,b,c,d,rfl⟩
theorem len2 {ns:List Int} (h:ns.length=2): ∃a b,ns=[a,b]:=by
 match ns,h with
 |[a,b],_=>exact ⟨a,b,rfl⟩
theorem not4 {α:Type} {ns:List Int} {f:Int->Int->Int->Int->Option α} (h: ¬ns.length=4):(match some ns with|some [a,b,c,d]=>f a b c d|_=>none)=none:=by
 split
 ·rename_i e;cases e;exact absurd rfl h
 ·rfl
theorem not2 {α:Type} {ns:List Int} {f:Int->Int->Option α} (h: ¬ns.length=2):(match some ns with|some [a,b]=>f a b|_=>none)=none:=by
 split
 ·rename_i e;cases e;exact absurd rfl h
 ·rfl
end Go.Proofs.Kn
namespace Go.Proofs.Kn
open Go Go.Ev
set_option maxRecDepth 100000
set_option maxHeartbeats 4000000
noncomputable def c13c:Code:=zR c13b
theorem rest_R (xt:Addr->Option Value) (h:Hp) (s:List UInt8) (hs:s.length<=1000000) (tm:T AV) (hg:Hp) (v5 v7:AV) (a b c d:Int) (vc:AV) (cells:List (List Int)) (ht:uQ (spl 32 ((spl 10 s).headD []))=some [a,b,c,d]) (na:jK a) (hge:a+3<=((spl 10 s).length:Int)) (hrs:vK b (((spl 10 s).drop 1).take a.toNat)=some cells)
  (g0:tm.get 0=some (sv s)) (g2:tm.get 2=some (.ptr h.n 0)) (g4:tm.get 4=some (.ptr (h.n+1) 0)) (g5:tm.get 5=some v5) (g7:tm.get 7=some v7) (sb:SB h hg (spl 10 s) [a,b,c,d] v5 v7 [vc,iv c,iv d,jE,jE,jE]) (gr:GR hg (h.n+2) vc cells)
  (next: ∀tm hg vg vk vp r k,zF (((spl 10 s).drop (a.toNat+1)).take ((spl 10 s).length - 2 - (a.toNat+1))) ⟨[],[],[]⟩=some r->k<=(spl 10 s).length->tm.get 0=some (sv s)->tm.get 2=some (.ptr h.n 0)->tm.get 4=some (.ptr (h.n+1) 0)->SL h hg (spl 10 s) [a,b,c,d] v5 v7 c d vc cells vg vk vp r k->wpc (SE xt) none c13c ⟨tm,234,hg,[]⟩ (Q13 xt h s)):
  wpc (SE xt) none c13b ⟨tm,234,hg,[]⟩ (Q13 xt h s):=by
 refine vC rfl ?_;obtain ⟨ls,hls⟩: ∃ls,ls=spl 10 s:=⟨_,rfl⟩;obtain ⟨A,hA⟩: ∃A,A=a.toNat:=⟨_,rfl⟩;have haA:a=(A:Int):=by rw [hA];have:=na.1;omega
 have hbad:=qBR ht hge hrs;have hlsl:ls.length<=1000001:=by rw [hls];have:=yY 10 s;omega
 rw [<-hls,<-hA] at hbad next;rw [<-hls] at sb hge;obtain ⟨rl,hrl⟩: ∃rl,rl=(ls.drop (A+1)).take (ls.length - 2 - (A+1)):=⟨_,rfl⟩;obtain ⟨M,hM⟩: ∃M,M=ls.length - 2 - (A+1):=⟨_,rfl⟩;rw [<-hrl] at hbad next;have hge2:A+3<=ls.length:=by omega
 have hrlen:rl.length=M:=by rw [hrl,hM,xZX,xZY];omega
 have hlpart: ∀l∈rl,l.length<=1000000:=fun l hl=>Nat.le_trans (kU 10 s l (by rw [<-hls];rw [hrl] at hl;exact xZU (xZH hl))) hs;have hA3:A<1000:=by have:=na.2;omega
 have one5:=sb.l.one;have one7:=sb.u.one;obtain ⟨q0,x1,_,_,x4,_⟩:=sb.u.idx (i:=0) vJ rfl tg3 rfl (by simp) (k:= .i64);have x1:qK tb 65 v7 (iv 0)=some (.ptr q0 0):=x1;have w1:IntKind.i64.wrap ((A:Int)+1)=((A+1:Nat):Int):=qW (n:=1000) hA3 (by omega);have w2:IntKind.i64.wrap ((ls.length:Int) - 2)=((ls.length - 2:Nat):Int):=by rw [jA _ (by omega) (by omega)];omega
 subst haA;refine qG ?_;refine qA fun K hn hp=> ?_;simp only [sw.1,rE,reduceIte,rL,rA,rM,rD,svn.down,syw.1,qB,qD,qC,g7,x1,x4,w1];apply hn;refine qI fun KA A1 A2 A3 A4 A5=> ?_;refine qY (sok xt) (fun st=> ∃(i:Nat) (hk:Hp) (vg:AV) (vk:AV) (vp:AV) (r:Rs) (tm:T AV),st=⟨tm,234,hk,[]⟩/\i<=ls.length - 2/\tm.get 0=some (sv s)/\tm.get 2=some (.ptr h.n 0)/\tm.get 4=some (.ptr (h.n+1) 0)/\tm.get 5=some (v5)/\tm.get 7=some (v7)/\tm.get 13=some (iv i)/\A+1<=i/\SL h hk ls [(A:Int),b,c,d] v5 v7 c d vc cells vg vk vp r (i - (A+1))/\zF rl ⟨[],[],[]⟩=zF (rl.drop (i - (A+1))) r) (fun st=>ls.length - 2 - (match st.tm.get 13 with|some (.val (.int _ n))=>n.toNat|_=>0)) ?_ ?_
 ·rintro st ⟨i,hk,vg,vk,vp,r,tm,rfl,hkA,g0,g2,g4,g5,g7,g13,hAi,rr,hrp⟩;have muA:=g13;have len5:=fun h'=>rr.sb.l.len (h':=h') (tb:=tb) vN t96;obtain ⟨k,hk0⟩: ∃k,k=i - (A+1):=⟨_,rfl⟩;have q:decide ((i:Int)<((ls.length - 2:Nat):Int))=decide (i<ls.length - 2):=qJ _ _;refine qG ?_;refine qA fun K hn hp=> ?_;simp only [sw.1,rE,reduceIte,rL,rA,rM,rD,svn.down,syw.1,qB,qD,qC,g0,g2,g4,g5,g7,g13,len5,w2,q];apply hn;by_cases hlt:i<ls.length - 2
  ·refine qF true (by simp only [sw.1,rE,reduceIte,rL,rA,rM,rD,svn.down,syw.1,qB,qD,qC,g0,g2,g4,g5,g7,g13,hlt]) (fun _=> ?_) (fun hx=>by cases hx);refine qN ?_;refine qI fun K2 e1 e2 e3 e4 e5=> ?_;rw [<-hk0] at rr hrp;have hkM:k<M:=by omega
   obtain ⟨l,hl⟩: ∃l,l=rl[k]'(by omega):=⟨_,rfl⟩;have hlk:rl[k]? =some l:=by rw [hl];exact List.getElem?_eq_getElem (by omega)
   have hll:l.length<=1000000:=hlpart l (List.mem_of_getElem? hlk);have hlls:ls[i]? =some l:=by
    rw [hrl,xZO,if_pos (by omega),xZF,show A+1+k=i by omega] at hlk;exact hlk
   obtain ⟨b5,i1,_,_,i4,_⟩:=rr.sb.l.idx (i:=i) vN t96 tg9 rfl (by omega) (k:= .i64);have hld:jV (hk.t.get b5) (i*1)=some (sv l):=by
    rw [i4,zC,xZG,xZW,hlls];rfl
   have hgrow:=rr.sb.fr.le;have w3:=qW hlt (by omega);have w3i:=w3;obtain ⟨n1,n2,n3⟩:=rr.n;have hi1:i+1 - (A+1)=k+1:=by omega
   refine qA fun K hn hp=> ?_;simp only [sw.1,rE,reduceIte,rL,rA,rM,rD,svn.down,syw.1,qB,qD,qC,g0,g2,g4,g5,g7,g13,i1,hld];refine qE (sok xt) (xZD (qCq xt hk l hll 32) fun res hB hres=> ?_);obtain ⟨fB,v14,rfl,o14⟩:=hres;obtain ⟨ws,hws⟩: ∃ws,ws=spl 32 l:=⟨_,rfl⟩;rw [<-hws] at o14;have hwl:ws.length<=1000001:=by rw [hws];have:=yY 32 l;omega
   have hw0:0<ws.length:=by rw [hws];exact List.length_pos_iff.2 (bQ 32 l)
   obtain ⟨wd,hwd⟩: ∃wd,wd=(spl 32 l).headD []:=⟨_,rfl⟩;have hw00:(ws.map sv)[0]? =some (sv wd):=by
    rw [xZW,hwd,<-hws];cases hq:ws with
    |nil=>rw [hq] at hw0;simp at hw0
    |cons x y=>rfl
   have hwle: ∀w∈ws,w.length<=1000000:=fun w hw=>Nat.le_trans (kU 32 l w (by rw [<-hws];exact hw)) hll;simp only [sw.1,rE,reduceIte,rL,rA,rM,rD,svn.down,syw.1,qB,qD,qC,g0,g2,g4,g5,g7,g13];apply hn;have rB:=rr.fr fB;have hBl:=fB.le;have hBn:=rB.sb.lt;have qz:=rB.sb.r;have one14:=o14.one;have len14:=fun h'=>o14.len (h':=h') (tb:=tb) vN t96;obtain ⟨b14,y1,_,_,y4,_⟩:=o14.idx (i:=0) vN t96 tg9 rfl hw0 (k:= .i64);have y1:qK tb 96 v14 (iv 0)=some (.ptr b14 0):=y1;refine qA fun K hn hp=> ?_;simp only [sw.1,rE,reduceIte,rL,rA,rM,rD,svn.down,syw.1,qB,qD,qC,g0,g2,g4,g5,g7,g13,y1,y4,hw00];apply hn;refine zQ fun K4 f1 f2 f3 f4 f5=> ?_;have fail: ∀(hq:Hp) (tm:T AV),Fr h.n h hq->h.n<hq.n->kD l r=none->tm.get 2=some (.ptr h.n 0)->tm.get 3=some (.val (.bool false))->K4 .ret ⟨tm,234,hq.set h.n (.cells z27 27),[]⟩:=fun hq tm f hlt hno t2 t3=>f4 _ (e4 _ (A4 _ (Q13.nos (hbad (restR_bad hrp hlk hno)) f hlt t2 t3)));by_cases hgw:wd=zL
   ·have hdg:decide (wd=[103,97,117,103,101])=true:=decide_eq_true hgw;refine qA fun K hn hp=> ?_;simp only [sw.1,rE,reduceIte,rL,rA,rM,rD,svn.down,syw.1,qB,qD,qC,g0,g2,g4,g5,g7,g13,hdg];apply hn;refine qQ true (by simp only [sw.1,rE,reduceIte,rL,rA,rM,rD,svn.down,syw.1,qB,qD,qC,g0,g2,g4,g5,g7,g13]) (fun _=> ?_) (fun hx=>by cases hx);obtain ⟨bb,hv14,hrow⟩:=qA7 (xt:=xt) o14 hw0 (i:=1) (j:=ws.length) hw0 (xZV _);rw [xZB] at hrow;have sl1:=fun h'=>sl_1n h' bb ws.length hw0;rw [<-hv14] at sl1;refine qA fun K hn hp=> ?_;simp only [sw.1,rE,reduceIte,rL,rA,rM,rD,svn.down,syw.1,qB,qD,qC,g0,g2,g4,g5,g7,g13,sl1,yK,xZE];refine qE (sok xt) (xZD (pE xt hB _ hB.n (ws.drop 1) hrow (by rw [xZY];omega) (fun w hw=>hwle w (xZU hw))) fun res hC hres=> ?_);obtain ⟨fC,hres⟩:=hres;have rC:=rB.fr fC;have fCl:=fC.le;have fCh:=(rr.sb.fr.trans fB hgrow).trans fC (by have:=rB.sb.fr.le;omega);have qzC:=rC.sb.r;cases hnum:zE (ws.drop 1) with
    |none=>
     rw [hnum] at hres;subst hres;simp only [sw.1,rE,reduceIte,rL,rA,rM,rD,svn.down,syw.1,qB,qD,qC,g0,g2,g4,g5,g7,g13,qD,qC];apply hn;refine qG ?_;refine qA fun K hn hp=> ?_;simp only [sw.1,rE,reduceIte,rL,rA,rM,rD,svn.down,syw.1,qB,qD,qC,g0,g2,g4,g5,g7,g13];apply hn;refine qF true (by simp only [sw.1,rE,reduceIte,rL,rA,rM,rD,svn.down,syw.1,qB,qD,qC,g0,g2,g4,g5,g7,g13]) (fun _=> ?_) (fun hx=>by cases hx);refine qG ?_;refine qA fun K hn hp=> ?_;simp only [sw.1,rE,reduceIte,rL,rA,rM,rD,svn.down,syw.1,qB,qD,qC,g0,g2,g4,g5,g7,g13,qzC,wE];apply hn;exact jI (fail hC _ fCh (by omega) (by rw [qCC (by rw [<-hwd];exact hgw),<-hws,hnum]) (by simp [xZZ,g2]) (by simp [xZZ]))
    |some ns=>
     rw [hnum] at hres;obtain ⟨u,rfl,ou⟩:=hres;have ouo:=ou.one;have lenu:=fun h'=>ou.len (h':=h') (tb:=tb) vJ rfl;simp only [sw.1,rE,reduceIte,rL,rA,rM,rD,svn.down,syw.1,qB,qD,qC,g0,g2,g4,g5,g7,g13,qD,qC];apply hn;refine qG ?_;have dn:decide ((ns.length:Int)=4)=decide (ns.length=4):=decide_eq_decide.2 ⟨fun h=>by omega,fun h=>by omega⟩;by_cases hn4:ns.length=4
     rotate_left
     ·refine qA fun K hn hp=> ?_;simp only [sw.1,rE,reduceIte,rL,rA,rM,rD,svn.down,syw.1,qB,qD,qC,g0,g2,g4,g5,g7,g13,lenu,dn,decide_eq_false hn4,xZR];apply hn;refine qF true (by simp only [sw.1,rE,reduceIte,rL,rA,rM,rD,svn.down,syw.1,qB,qD,qC,g0,g2,g4,g5,g7,g13]) (fun _=> ?_) (fun hx=>by cases hx);refine qG ?_;refine qA fun K hn hp=> ?_;simp only [sw.1,rE,reduceIte,rL,rA,rM,rD,svn.down,syw.1,qB,qD,qC,g0,g2,g4,g5,g7,g13,qzC,wE];apply hn;exact jI (fail hC _ fCh (by omega) (by rw [qCC (by rw [<-hwd];exact hgw),<-hws,hnum];exact not4 hn4) (by simp [xZZ,g2]) (by simp [xZZ]))
     refine qA fun K hn hp=> ?_;simp only [sw.1,rE,reduceIte,rL,rA,rM,rD,svn.down,syw.1,qB,qD,qC,g0,g2,g4,g5,g7,g13,lenu,dn,decide_eq_true hn4,xZN];apply hn;refine qF false (by simp only [sw.1,rE,reduceIte,rL,rA,rM,rD,svn.down,syw.1,qB,qD,qC,g0,g2,g4,g5,g7,g13]) (fun hx=>by cases hx) (fun _=> ?_);refine qN ?_;obtain ⟨a1,b1,c1,d1,rfl⟩:=len4 hn4;obtain ⟨p0,u0,_,_,z0,_⟩:=ou.idx (i:=0) vJ rfl tg3 rfl (by simp) (k:= .i64);have u0:qK tb 65 u (iv 0)=some (.ptr p0 0):=u0;obtain ⟨p1,u1,_,_,z1,_⟩:=ou.idx (i:=1) vJ rfl tg3 rfl (by simp) (k:= .i64);have u1:qK tb 65 u (iv 1)=some (.ptr p1 1):=u1;obtain ⟨p2,u2,_,_,z2,_⟩:=ou.idx (i:=2) vJ rfl tg3 rfl (by simp) (k:= .i64);have u2:qK tb 65 u (iv 2)=some (.ptr p2 2):=u2;obtain ⟨p3,u3,_,_,z3,_⟩:=ou.idx (i:=3) vJ rfl tg3 rfl (by simp) (k:= .i64);have u3:qK tb 65 u (iv 3)=some (.ptr p3 3):=u3;have hMb:h.n+1<hC.n:=by have:=rC.sb.lt;omega
     have qM:=rC.sb.m;obtain ⟨h',p1,p2,p3,p4,p5⟩:=yX (P:=Tryz.prog) (xt:=xt) (sz:=4) (by_:=32) (c:=[iv a1,iv b1,iv c1,iv d1]) (ee:=te87) (te:=te23) wK rfl uF rfl rfl rC.g (by omega) (fbn hC [iv a1,iv b1,iv c1,iv d1] 87) rfl (jG _ _) rfl rfl (by omega) (by omega);have qM':=p5 _ _ _ (by decide) hMb qM;refine regG (sok xt) 16 [15] [] [] (by kernel_rfl) fun K hn hp=> ?_;have eC:({t:=hC.t.put (some (.cells [iv a1,iv b1,iv c1,iv d1] 87)) hC.n,n:=hC.n+1}:Hp)=hC.new (.cells [iv a1,iv b1,iv c1,iv d1] 87):=rfl;have ovg:=rC.g.one;simp only [sw.1,rE,reduceIte,rL,rA,rM,rD,svn.down,syw.1,qB,qD,qC,g0,g2,g4,g5,g7,g13,syg.1,xZM,u0,z0,u1,z1,u2,z2,u3,z3,qM,bd87,qH,b23_1,eC,p1,qM'];refine hn _ _ (f1 _ (e1 _ ?_));refine reg fun K hn hp=> ?_;simp only [sw.1,rE,reduceIte,rL,rA,rM,rD,svn.down,syw.1,qB,qD,qC,g0,g2,g4,g5,g7,g13,w3];apply hn;have kp: ∀{sz n:Nat} {e:TypeId} {v:AV} {cs:List AV},e≠87->OwnSl hC (h.n+2) sz e v n cs->OwnSl h' (h.n+2) sz e v n cs:=fun hne o=>o.keepT (by omega) fun k cs h1 _ h3=>p5 _ _ _ hne h1 h3;have pg:OwnSl h' (h.n+2) 4 87 (.sl (hC.n+1) 0 (r.gs.length+1) 4) (r.gs++[(a1,b1,c1,d1)]).length (G4 (r.gs++[(a1,b1,c1,d1)])):=by
      rw [G4_snoc,xZP,xZS];exact p2
     have hst:SL h (h'.set (h.n+1) (.cells [vc,iv c,iv d,.sl (hC.n+1) 0 (r.gs.length+1) 4,vk,vp] 27)) ls [(A:Int),b,c,d] v5 v7 c d vc cells (.sl (hC.n+1) 0 (r.gs.length+1) 4) (vk) (vp) ⟨r.gs++[(a1,b1,c1,d1)],r.ks,r.ps⟩ (k+1):=rC.step p3 p5 (.inl rfl) (r':=⟨r.gs++[(a1,b1,c1,d1)],r.ks,r.ps⟩) (pg) (kp (by decide) rC.kk) (kp (by decide) rC.p) ⟨by simp;omega,by show r.ks.length<=k+1;omega,by show r.ps.length<=k+1;omega⟩;rw [<-hi1] at hst;have hrg:=qA9 (r3:=⟨r.gs++[(a1,b1,c1,d1)],r.ks,r.ps⟩) hrp hlk (by rw [qCC (by rw [<-hwd];exact hgw),<-hws,hnum]);rw [<-hi1] at hrg;refine ⟨⟨i+1,h'.set (h.n+1) (.cells [vc,iv c,iv d,.sl (hC.n+1) 0 (r.gs.length+1) 4,vk,vp] 27),.sl (hC.n+1) 0 (r.gs.length+1) 4,vk,vp,⟨r.gs++[(a1,b1,c1,d1)],r.ks,r.ps⟩,_,rfl,by omega,(by simp [xZZ,g0,g2,g4,g5,g7,g13]),(by simp [xZZ,g0,g2,g4,g5,g7,g13]),(by simp [xZZ,g0,g2,g4,g5,g7,g13]),(by simp [xZZ,g0,g2,g4,g5,g7,g13]),(by simp [xZZ,g0,g2,g4,g5,g7,g13]),(by simp [xZZ,g0,g2,g4,g5,g7,g13]),by omega,hst,hrg⟩,by simpa [xZZ,muA] using (by omega:ls.length - 2 - (i+1)<ls.length - 2 - i)⟩
   ·have hdg:decide (wd=[103,97,117,103,101])=false:=decide_eq_false hgw;refine qA fun K hn hp=> ?_;simp only [sw.1,rE,reduceIte,rL,rA,rM,rD,svn.down,syw.1,qB,qD,qC,g0,g2,g4,g5,g7,g13,hdg];apply hn;refine qQ false (by simp only [sw.1,rE,reduceIte,rL,rA,rM,rD,svn.down,syw.1,qB,qD,qC,g0,g2,g4,g5,g7,g13]) (fun hx=>by cases hx) (fun _=> ?_);by_cases hkw:wd=zB
    ·have hdk:decide (wd=[99,114,97,99,107])=true:=decide_eq_true hkw;refine qA fun K hn hp=> ?_;simp only [sw.1,rE,reduceIte,rL,rA,rM,rD,svn.down,syw.1,qB,qD,qC,g0,g2,g4,g5,g7,g13,hdk];apply hn;refine qQ true (by simp only [sw.1,rE,reduceIte,rL,rA,rM,rD,svn.down,syw.1,qB,qD,qC,g0,g2,g4,g5,g7,g13]) (fun _=> ?_) (fun hx=>by cases hx);refine qG ?_;have dw4:decide ((ws.length:Int)=4)=decide (ws.length=4):=decide_eq_decide.2 ⟨fun h=>by omega,fun h=>by omega⟩;by_cases hw4:ws.length=4
     rotate_left
     ·refine qA fun K hn hp=> ?_;simp only [sw.1,rE,reduceIte,rL,rA,rM,rD,svn.down,syw.1,qB,qD,qC,g0,g2,g4,g5,g7,g13,len14,dw4,decide_eq_false hw4,xZR];apply hn;refine qF true (by simp only [sw.1,rE,reduceIte,rL,rA,rM,rD,svn.down,syw.1,qB,qD,qC,g0,g2,g4,g5,g7,g13]) (fun _=> ?_) (fun hx=>by cases hx);refine qG ?_;refine qA fun K hn hp=> ?_;simp only [sw.1,rE,reduceIte,rL,rA,rM,rD,svn.down,syw.1,qB,qD,qC,g0,g2,g4,g5,g7,g13,qz,wE];apply hn;exact jI (fail hB _ (rr.sb.fr.trans fB hgrow) (by omega) (lineR_k4 (by rw [<-hwd];exact hkw) (by rw [<-hws];exact hw4)) (by simp [xZZ,g2]) (by simp [xZZ]))
     refine qA fun K hn hp=> ?_;simp only [sw.1,rE,reduceIte,rL,rA,rM,rD,svn.down,syw.1,qB,qD,qC,g0,g2,g4,g5,g7,g13,len14,dw4,decide_eq_true hw4,xZN];apply hn;refine qF false (by simp only [sw.1,rE,reduceIte,rL,rA,rM,rD,svn.down,syw.1,qB,qD,qC,g0,g2,g4,g5,g7,g13]) (fun hx=>by cases hx) (fun _=> ?_);refine qN ?_;obtain ⟨bb,hv14,hrow⟩:=qA7 (xt:=xt) o14 hw0 (i:=1) (j:=3) (by omega) (by omega);have sl1:=fun h'=>sl_13 h' bb ws.length (by omega);rw [<-hv14] at sl1;refine qA fun K hn hp=> ?_;simp only [sw.1,rE,reduceIte,rL,rA,rM,rD,svn.down,syw.1,qB,qD,qC,g0,g2,g4,g5,g7,g13,sl1,yK];refine qE (sok xt) (xZD (pE xt hB _ hB.n ((ws.take 3).drop 1) hrow (by rw [xZY,xZX];omega) (fun w hw=>hwle w (xZH (xZU hw)))) fun res hC hres=> ?_);obtain ⟨fC,hres⟩:=hres;have rC:=rB.fr fC;have fCl:=fC.le;have fCh:=(rr.sb.fr.trans fB hgrow).trans fC (by have:=rB.sb.fr.le;omega);have qzC:=rC.sb.r;cases hnum:zE ((ws.take 3).drop 1) with
     |none=>
      rw [hnum] at hres;subst hres;simp only [sw.1,rE,reduceIte,rL,rA,rM,rD,svn.down,syw.1,qB,qD,qC,g0,g2,g4,g5,g7,g13,qD,qC];apply hn;refine qG ?_;refine qA fun K hn hp=> ?_;simp only [sw.1,rE,reduceIte,rL,rA,rM,rD,svn.down,syw.1,qB,qD,qC,g0,g2,g4,g5,g7,g13];apply hn;refine qF true (by simp only [sw.1,rE,reduceIte,rL,rA,rM,rD,svn.down,syw.1,qB,qD,qC,g0,g2,g4,g5,g7,g13]) (fun _=> ?_) (fun hx=>by cases hx);refine qG ?_;refine qA fun K hn hp=> ?_;simp only [sw.1,rE,reduceIte,rL,rA,rM,rD,svn.down,syw.1,qB,qD,qC,g0,g2,g4,g5,g7,g13,qzC,wE];apply hn;exact jI (fail hC _ fCh (by omega) (by rw [lineR_k (by rw [<-hwd];exact hkw) (by rw [<-hws];exact hw4),<-hws,hnum]) (by simp [xZZ,g2]) (by simp [xZZ]))
     |some ns=>
      rw [hnum] at hres;obtain ⟨u,rfl,ou⟩:=hres;have ouo:=ou.one;have lenu:=fun h'=>ou.len (h':=h') (tb:=tb) vJ rfl;simp only [sw.1,rE,reduceIte,rL,rA,rM,rD,svn.down,syw.1,qB,qD,qC,g0,g2,g4,g5,g7,g13,qD,qC];apply hn;refine qG ?_;have hn4:ns.length=2:=by rw [(yV hnum).1,xZY,xZX];omega
      refine qA fun K hn hp=> ?_;simp only [sw.1,rE,reduceIte,rL,rA,rM,rD,svn.down,syw.1,qB,qD,qC,g0,g2,g4,g5,g7,g13];apply hn;refine qF false (by simp only [sw.1,rE,reduceIte,rL,rA,rM,rD,svn.down,syw.1,qB,qD,qC,g0,g2,g4,g5,g7,g13]) (fun hx=>by cases hx) (fun _=> ?_);refine qN ?_;obtain ⟨a1,b1,rfl⟩:=len2 hn4;obtain ⟨p0,u0,_,_,z0,_⟩:=ou.idx (i:=0) vJ rfl tg3 rfl (by simp) (k:= .i64);have u0:qK tb 65 u (iv 0)=some (.ptr p0 0):=u0;obtain ⟨p1,u1,_,_,z1,_⟩:=ou.idx (i:=1) vJ rfl tg3 rfl (by simp) (k:= .i64);have u1:qK tb 65 u (iv 1)=some (.ptr p1 1):=u1;have o14C:=o14.fr fC (xZV _);obtain ⟨b3,t1,_,_,t4,_⟩:=o14C.idx (i:=3) vN t96 tg9 rfl (by omega) (k:= .i64);have t1:qK tb 96 v14 (iv 3)=some (.ptr b3 3):=t1;obtain ⟨w3,hw3⟩: ∃w3,w3=ws.getD 3 []:=⟨_,rfl⟩;have l3:(ws.map sv)[3]? =some (sv w3):=by rw [xZW,getD_some [] (by omega),hw3];rfl
      obtain ⟨dw,hdw⟩: ∃dw,dw=decide (w3=[100,111,119,110]):=⟨_,rfl⟩;have hMb:h.n+1<hC.n:=by have:=rC.sb.lt;omega
      have qM:=rC.sb.m;obtain ⟨h',p1,p2,p3,p4,p5⟩:=yX (P:=Tryz.prog) (xt:=xt) (sz:=3) (by_:=24) (c:=[iv a1,iv b1,.val (.bool dw)]) (ee:=te90) (te:=te24) wJ rfl x6 rfl rfl rC.kk (by omega) (fbn hC [iv a1,iv b1,.val (.bool dw)] 90) rfl (jG _ _) rfl rfl (by omega) (by omega);have qM':=p5 _ _ _ (by decide) hMb qM;refine regG (sok xt) 14 [13] [] [] (by kernel_rfl) fun K hn hp=> ?_;have eC:({t:=hC.t.put (some (.cells [iv a1,iv b1,.val (.bool dw)] 90)) hC.n,n:=hC.n+1}:Hp)=hC.new (.cells [iv a1,iv b1,.val (.bool dw)] 90):=rfl;have ovg:=rC.kk.one;simp only [sw.1,rE,reduceIte,rL,rA,rM,rD,svn.down,syw.1,qB,qD,qC,g0,g2,g4,g5,g7,g13,syg.1,xZM,u0,z0,u1,z1,t1,t4,l3,<-hdw,qM,bd90,qH,b24_1,eC,p1,qM'];refine hn _ _ (f1 _ (e1 _ ?_));refine reg fun K hn hp=> ?_;simp only [sw.1,rE,reduceIte,rL,rA,rM,rD,svn.down,syw.1,qB,qD,qC,g0,g2,g4,g5,g7,g13,w3i];apply hn;have kp: ∀{sz n:Nat} {e:TypeId} {v:AV} {cs:List AV},e≠90->OwnSl hC (h.n+2) sz e v n cs->OwnSl h' (h.n+2) sz e v n cs:=fun hne o=>o.keepT (by omega) fun k cs h1 _ h3=>p5 _ _ _ hne h1 h3;have pg:OwnSl h' (h.n+2) 3 90 (.sl (hC.n+1) 0 (r.ks.length+1) 3) (r.ks++[(a1,b1,dw)]).length (K3 (r.ks++[(a1,b1,dw)])):=by
       rw [K3_snoc,xZP,xZS];exact p2
      have hst:SL h (h'.set (h.n+1) (.cells [vc,iv c,iv d,vg,.sl (hC.n+1) 0 (r.ks.length+1) 3,vp] 27)) ls [(A:Int),b,c,d] v5 v7 c d vc cells (vg) (.sl (hC.n+1) 0 (r.ks.length+1) 3) (vp) ⟨r.gs,r.ks++[(a1,b1,dw)],r.ps⟩ (k+1):=rC.step p3 p5 (.inr (.inl rfl)) (r':=⟨r.gs,r.ks++[(a1,b1,dw)],r.ps⟩) (kp (by decide) rC.g) (pg) (kp (by decide) rC.p) ⟨by show r.gs.length<=k+1;omega,by simp;omega,by show r.ps.length<=k+1;omega⟩;rw [<-hi1] at hst;have hrg:=qA9 (r3:=⟨r.gs,r.ks++[(a1,b1,dw)],r.ps⟩) hrp hlk (by rw [lineR_k (by rw [<-hwd];exact hkw) (by rw [<-hws];exact hw4),<-hws,hnum];rw [<-hw3,<-hdw]);rw [<-hi1] at hrg;refine ⟨⟨i+1,h'.set (h.n+1) (.cells [vc,iv c,iv d,vg,.sl (hC.n+1) 0 (r.ks.length+1) 3,vp] 27),vg,.sl (hC.n+1) 0 (r.ks.length+1) 3,vp,⟨r.gs,r.ks++[(a1,b1,dw)],r.ps⟩,_,rfl,by omega,(by simp [xZZ,g0,g2,g4,g5,g7,g13]),(by simp [xZZ,g0,g2,g4,g5,g7,g13]),(by simp [xZZ,g0,g2,g4,g5,g7,g13]),(by simp [xZZ,g0,g2,g4,g5,g7,g13]),(by simp [xZZ,g0,g2,g4,g5,g7,g13]),(by simp [xZZ,g0,g2,g4,g5,g7,g13]),by omega,hst,hrg⟩,by simpa [xZZ,muA] using (by omega:ls.length - 2 - (i+1)<ls.length - 2 - i)⟩
    ·have hdk:decide (wd=[99,114,97,99,107])=false:=decide_eq_false hkw;refine qA fun K hn hp=> ?_;simp only [sw.1,rE,reduceIte,rL,rA,rM,rD,svn.down,syw.1,qB,qD,qC,g0,g2,g4,g5,g7,g13,hdk];apply hn;refine qQ false (by simp only [sw.1,rE,reduceIte,rL,rA,rM,rD,svn.down,syw.1,qB,qD,qC,g0,g2,g4,g5,g7,g13]) (fun hx=>by cases hx) (fun _=> ?_);by_cases hpw:wd=kB
     ·have hdp:decide (wd=[112,114,111,98,101])=true:=decide_eq_true hpw;refine qA fun K hn hp=> ?_;simp only [sw.1,rE,reduceIte,rL,rA,rM,rD,svn.down,syw.1,qB,qD,qC,g0,g2,g4,g5,g7,g13,hdp];apply hn;refine qQ true (by simp only [sw.1,rE,reduceIte,rL,rA,rM,rD,svn.down,syw.1,qB,qD,qC,g0,g2,g4,g5,g7,g13]) (fun _=> ?_) (fun hx=>by cases hx);obtain ⟨bb,hv14,hrow⟩:=qA7 (xt:=xt) o14 hw0 (i:=1) (j:=ws.length) hw0 (xZV _);rw [xZB] at hrow;have sl1:=fun h'=>sl_1n h' bb ws.length hw0;rw [<-hv14] at sl1;refine qA fun K hn hp=> ?_;simp only [sw.1,rE,reduceIte,rL,rA,rM,rD,svn.down,syw.1,qB,qD,qC,g0,g2,g4,g5,g7,g13,sl1,yK,xZE];refine qE (sok xt) (xZD (pE xt hB _ hB.n (ws.drop 1) hrow (by rw [xZY];omega) (fun w hw=>hwle w (xZU hw))) fun res hC hres=> ?_);obtain ⟨fC,hres⟩:=hres;have rC:=rB.fr fC;have fCl:=fC.le;have fCh:=(rr.sb.fr.trans fB hgrow).trans fC (by have:=rB.sb.fr.le;omega);have qzC:=rC.sb.r;cases hnum:zE (ws.drop 1) with
      |none=>
       rw [hnum] at hres;subst hres;simp only [sw.1,rE,reduceIte,rL,rA,rM,rD,svn.down,syw.1,qB,qD,qC,g0,g2,g4,g5,g7,g13,qD,qC];apply hn;refine qG ?_;refine qA fun K hn hp=> ?_;simp only [sw.1,rE,reduceIte,rL,rA,rM,rD,svn.down,syw.1,qB,qD,qC,g0,g2,g4,g5,g7,g13];apply hn;refine qF true (by simp only [sw.1,rE,reduceIte,rL,rA,rM,rD,svn.down,syw.1,qB,qD,qC,g0,g2,g4,g5,g7,g13]) (fun _=> ?_) (fun hx=>by cases hx);refine qG ?_;refine qA fun K hn hp=> ?_;simp only [sw.1,rE,reduceIte,rL,rA,rM,rD,svn.down,syw.1,qB,qD,qC,g0,g2,g4,g5,g7,g13,qzC,wE];apply hn;exact jI (fail hC _ fCh (by omega) (by rw [qCB (by rw [<-hwd];exact hpw),<-hws,hnum]) (by simp [xZZ,g2]) (by simp [xZZ]))
      |some ns=>
       rw [hnum] at hres;obtain ⟨u,rfl,ou⟩:=hres;have ouo:=ou.one;have lenu:=fun h'=>ou.len (h':=h') (tb:=tb) vJ rfl;simp only [sw.1,rE,reduceIte,rL,rA,rM,rD,svn.down,syw.1,qB,qD,qC,g0,g2,g4,g5,g7,g13,qD,qC];apply hn;refine qG ?_;have dn:decide ((ns.length:Int)=2)=decide (ns.length=2):=decide_eq_decide.2 ⟨fun h=>by omega,fun h=>by omega⟩;by_cases hn4:ns.length=2
       rotate_left
       ·refine qA fun K hn hp=> ?_;simp only [sw.1,rE,reduceIte,rL,rA,rM,rD,svn.down,syw.1,qB,qD,qC,g0,g2,g4,g5,g7,g13,lenu,dn,decide_eq_false hn4,xZR];apply hn;refine qF true (by simp only [sw.1,rE,reduceIte,rL,rA,rM,rD,svn.down,syw.1,qB,qD,qC,g0,g2,g4,g5,g7,g13]) (fun _=> ?_) (fun hx=>by cases hx);refine qG ?_;refine qA fun K hn hp=> ?_;simp only [sw.1,rE,reduceIte,rL,rA,rM,rD,svn.down,syw.1,qB,qD,qC,g0,g2,g4,g5,g7,g13,qzC,wE];apply hn;exact jI (fail hC _ fCh (by omega) (by rw [qCB (by rw [<-hwd];exact hpw),<-hws,hnum];exact not2 hn4) (by simp [xZZ,g2]) (by simp [xZZ]))
       refine qA fun K hn hp=> ?_;simp only [sw.1,rE,reduceIte,rL,rA,rM,rD,svn.down,syw.1,qB,qD,qC,g0,g2,g4,g5,g7,g13,lenu,dn,decide_eq_true hn4,xZN];apply hn;refine qF false (by simp only [sw.1,rE,reduceIte,rL,rA,rM,rD,svn.down,syw.1,qB,qD,qC,g0,g2,g4,g5,g7,g13]) (fun hx=>by cases hx) (fun _=> ?_);refine qN ?_;obtain ⟨a1,b1,rfl⟩:=len2 hn4;obtain ⟨p0,u0,_,_,z0,_⟩:=ou.idx (i:=0) vJ rfl tg3 rfl (by simp) (k:= .i64);have u0:qK tb 65 u (iv 0)=some (.ptr p0 0):=u0;obtain ⟨p1,u1,_,_,z1,_⟩:=ou.idx (i:=1) vJ rfl tg3 rfl (by simp) (k:= .i64);have u1:qK tb 65 u (iv 1)=some (.ptr p1 1):=u1;have hMb:h.n+1<hC.n:=by have:=rC.sb.lt;omega
       have qM:=rC.sb.m;obtain ⟨h',p1,p2,p3,p4,p5⟩:=yX (P:=Tryz.prog) (xt:=xt) (sz:=2) (by_:=16) (c:=[iv a1,iv b1]) (ee:=te92) (te:=te25) wI rfl kT rfl rfl rC.p (by omega) (fbn hC [iv a1,iv b1] 92) rfl (jG _ _) rfl rfl (by omega) (by omega);have qM':=p5 _ _ _ (by decide) hMb qM;refine regG (sok xt) 10 [9] [] [] (by kernel_rfl) fun K hn hp=> ?_;have eC:({t:=hC.t.put (some (.cells [iv a1,iv b1] 92)) hC.n,n:=hC.n+1}:Hp)=hC.new (.cells [iv a1,iv b1] 92):=rfl;have ovg:=rC.p.one;simp only [sw.1,rE,reduceIte,rL,rA,rM,rD,svn.down,syw.1,qB,qD,qC,g0,g2,g4,g5,g7,g13,syg.1,xZM,u0,z0,u1,z1,qM,bd92,qH,b25_1,eC,p1,qM'];refine hn _ _ (f1 _ (e1 _ ?_));refine reg fun K hn hp=> ?_;simp only [sw.1,rE,reduceIte,rL,rA,rM,rD,svn.down,syw.1,qB,qD,qC,g0,g2,g4,g5,g7,g13,w3];apply hn;have kp: ∀{sz n:Nat} {e:TypeId} {v:AV} {cs:List AV},e≠92->OwnSl hC (h.n+2) sz e v n cs->OwnSl h' (h.n+2) sz e v n cs:=fun hne o=>o.keepT (by omega) fun k cs h1 _ h3=>p5 _ _ _ hne h1 h3;have pg:OwnSl h' (h.n+2) 2 92 (.sl (hC.n+1) 0 (r.ps.length+1) 2) (r.ps++[(a1,b1)]).length (P2 (r.ps++[(a1,b1)])):=by
        rw [P2_snoc,xZP,xZS];exact p2
       have hst:SL h (h'.set (h.n+1) (.cells [vc,iv c,iv d,vg,vk,.sl (hC.n+1) 0 (r.ps.length+1) 2] 27)) ls [(A:Int),b,c,d] v5 v7 c d vc cells (vg) (vk) (.sl (hC.n+1) 0 (r.ps.length+1) 2) ⟨r.gs,r.ks,r.ps++[(a1,b1)]⟩ (k+1):=rC.step p3 p5 (.inr (.inr rfl)) (r':=⟨r.gs,r.ks,r.ps++[(a1,b1)]⟩) (kp (by decide) rC.g) (kp (by decide) rC.kk) (pg) ⟨by show r.gs.length<=k+1;omega,by show r.ks.length<=k+1;omega,by simp;omega⟩;rw [<-hi1] at hst;have hrg:=qA9 (r3:=⟨r.gs,r.ks,r.ps++[(a1,b1)]⟩) hrp hlk (by rw [qCB (by rw [<-hwd];exact hpw),<-hws,hnum]);rw [<-hi1] at hrg;refine ⟨⟨i+1,h'.set (h.n+1) (.cells [vc,iv c,iv d,vg,vk,.sl (hC.n+1) 0 (r.ps.length+1) 2] 27),vg,vk,.sl (hC.n+1) 0 (r.ps.length+1) 2,⟨r.gs,r.ks,r.ps++[(a1,b1)]⟩,_,rfl,by omega,(by simp [xZZ,g0,g2,g4,g5,g7,g13]),(by simp [xZZ,g0,g2,g4,g5,g7,g13]),(by simp [xZZ,g0,g2,g4,g5,g7,g13]),(by simp [xZZ,g0,g2,g4,g5,g7,g13]),(by simp [xZZ,g0,g2,g4,g5,g7,g13]),(by simp [xZZ,g0,g2,g4,g5,g7,g13]),by omega,hst,hrg⟩,by simpa [xZZ,muA] using (by omega:ls.length - 2 - (i+1)<ls.length - 2 - i)⟩
     ·have hdp:decide (wd=[112,114,111,98,101])=false:=decide_eq_false hpw;refine qA fun K hn hp=> ?_;simp only [sw.1,rE,reduceIte,rL,rA,rM,rD,svn.down,syw.1,qB,qD,qC,g0,g2,g4,g5,g7,g13,hdp];apply hn;refine qQ false (by simp only [sw.1,rE,reduceIte,rL,rA,rM,rD,svn.down,syw.1,qB,qD,qC,g0,g2,g4,g5,g7,g13]) (fun hx=>by cases hx) (fun _=> ?_);refine qA fun K hn hp=> ?_;simp only [sw.1,rE,reduceIte,rL,rA,rM,rD,svn.down,syw.1,qB,qD,qC,g0,g2,g4,g5,g7,g13,qz,wE];apply hn;exact qR (fail hB _ (rr.sb.fr.trans fB hgrow) (by omega) (lineR_o (by rw [<-hwd];exact hgw) (by rw [<-hwd];exact hkw) (by rw [<-hwd];exact hpw)) (by simp [xZZ,g2]) (by simp [xZZ]))
  ·have hiN:i=ls.length - 2:=by omega
   subst hiN;have hrows:zF rl ⟨[],[],[]⟩=some r:=by rw [hrp,show ls.length - 2 - (A+1)=rl.length by omega,List.drop_length];rfl
   refine qF false (by simp only [sw.1,rE,reduceIte,rL,rA,rM,rD,svn.down,syw.1,qB,qD,qC,g0,g2,g4,g5,g7,g13,hlt]) (fun hx=>by cases hx) (fun _=> ?_);exact qX (A2 _ (next _ hk vg vk vp r _ hrows (by omega) (by simp [xZZ,g0]) (by simp [xZZ,g2]) (by simp [xZZ,g4]) rr))
 ·exact ⟨A+1,hg,jE,jE,jE,⟨[],[],[]⟩,_,rfl,by omega,by simp [xZZ,g0],by simp [xZZ,g2],by simp [xZZ,g4],by simp [xZZ,g5],by simp [xZZ,g7],by simp [xZZ],xZV _,⟨sb,gr,OwnSl.nil,OwnSl.nil,OwnSl.nil,by simp⟩,by simp⟩
end Go.Proofs.Kn
namespace Go.Proofs.Kn
open Go Go.Ev
set_option maxRecDepth 100000
set_option maxHeartbeats 4000000
theorem cellR_num (b:UInt8):1<=xY b/\xY b<=3:=by
 unfold xY;split
 ·decide
 split
 ·decide
 ·decide
theorem qA3 {b:Int}: ∀{ls:List (List UInt8)} {rs:List (List Int)},vK b ls=some rs->rs.length=ls.length/\ ∀r∈rs,(r.length:Int)=b/\ ∀x∈r,1<=x/\x<=3
 |[],rs,h=>by simp only [vK] at h;cases h;simp
 |l::ls,rs,h=>by
  simp only [vK] at h;split at h
  ·rename_i hb;simp only [Option.map_eq_some_iff] at h;obtain ⟨ys,h1,rfl⟩:=h;obtain ⟨i1,i2⟩:=qA3 h1;refine ⟨by simp [i1],fun y hy=> ?_⟩;rcases List.mem_cons.1 hy with rfl|hy
   ·refine ⟨by rw [xP,List.length_map];exact hb,fun x hx=> ?_⟩;obtain ⟨z,_,rfl⟩:=List.mem_map.1 hx;exact cellR_num z
   ·exact i2 y hy
  ·cases h
theorem lineR_ok {l:List UInt8} {r r2:Rs} {n:Nat} (ho:r.Ok n) (h:kD l r=some r2):r2.Ok (n+1):=by
 obtain ⟨o1,o2,o3,n1,n2,n3⟩:=ho;unfold kD at h;split at h
 ·split at h
  ·rename_i a b c d ht;cases h;obtain ⟨_,q⟩:=yV ht;refine ⟨fun g hg=> ?_,o2,o3,by simp;omega,by show r.ks.length<=n+1;omega,by show r.ps.length<=n+1;omega⟩;rcases xZL.1 hg with hg|hg
   ·exact o1 g hg
   ·rw [xZQ.1 hg];exact ⟨q _ (by simp),q _ (by simp),q _ (by simp),q _ (by simp)⟩
  ·cases h
 split at h
 ·split at h
  ·split at h
   ·rename_i a b ht;cases h;obtain ⟨_,q⟩:=yV ht;refine ⟨o1,fun g hg=> ?_,o3,by show r.gs.length<=n+1;omega,by simp;omega,by show r.ps.length<=n+1;omega⟩;rcases xZL.1 hg with hg|hg
    ·exact o2 g hg
    ·rw [xZQ.1 hg];exact ⟨q _ (by simp),q _ (by simp)⟩
   ·cases h
  ·cases h
 split at h
 ·split at h
  ·rename_i a b ht;cases h;obtain ⟨_,q⟩:=yV ht;refine ⟨o1,o2,fun g hg=> ?_,by show r.gs.length<=n+1;omega,by show r.ks.length<=n+1;omega,by simp;omega⟩;rcases xZL.1 hg with hg|hg
   ·exact o3 g hg
   ·rw [xZQ.1 hg];exact ⟨q _ (by simp),q _ (by simp)⟩
  ·cases h
 ·cases h
theorem qDj: ∀{ls:List (List UInt8)} {r r2:Rs} {n:Nat},r.Ok n->zF ls r=some r2->r2.Ok (n+ls.length)
 |[],r,r2,n,ho,h=>by simp only [zF] at h;cases h;exact ho
 |l::ls,r,r2,n,ho,h=>by
  simp only [zF] at h;cases hl:kD l r with
  |none=>rw [hl] at h;cases h
  |some r3=>
   rw [hl] at h;have:=qDj (lineR_ok ho hl) h;rw [List.length_cons,show n+(ls.length+1)=n+1+ls.length by omega];exact this
theorem ref_txt {s:List UInt8} (hs:s.length<=900) {a b c d:Int} {cells:List (List Int)} {r:Rs} (na:jK a) (nb:jK b) (nc:jK c) (nd:jK d) (hrs:vK b (((spl 10 s).drop 1).take a.toNat)=some cells) (hq:zF (((spl 10 s).drop (a.toNat+1)).take ((spl 10 s).length - 2 - (a.toNat+1))) ⟨[],[],[]⟩=some r) (v1 v2 v3 v4:AV):Txt ((⟨cells,c,d,r.gs,r.ks,r.ps⟩:Md).mp v1 v2 v3 v4):=by
 obtain ⟨c1,c2⟩:=qA3 hrs;have ho:=qDj (n:=0) ⟨by simp,by simp,by simp,by simp⟩ hq;have hl:=yY 10 s;have hlen:((((spl 10 s).drop (a.toNat+1)).take ((spl 10 s).length - 2 - (a.toNat+1)))).length<=901:=by rw [xZX,xZY];omega
 obtain ⟨o1,o2,o3,n1,n2,n3⟩:=ho;rw [Nat.zero_add] at n1 n2 n3;refine ⟨fun l hl x hx=>(c2 l hl).2 x hx,?_,fun l hl=> ?_,nc,nd,o1,o2,o3,by show r.gs.length<=999;omega,by show r.ks.length<=999;omega,by show r.ps.length<=999;omega⟩
 ·show cells.length<=999;rw [c1,xZX];have:=na.2;have:=na.1;omega
 ·have:=(c2 l hl).1;have:=nb.2;omega
theorem end_R (xt:Addr->Option Value) (h:Hp) (s:List UInt8) (hs:s.length<=900) (tm:T AV) (hg:Hp) (v5 v7:AV) (a b c d:Int) (vc vg vk vp:AV) (cells:List (List Int)) (r:Rs) (k:Nat) (ht:uQ (spl 32 ((spl 10 s).headD []))=some [a,b,c,d]) (na:jK a) (nb:jK b) (nc:jK c) (nd:jK d) (hge:a+3<=((spl 10 s).length:Int)) (hrs:vK b (((spl 10 s).drop 1).take a.toNat)=some cells) (hq:zF (((spl 10 s).drop (a.toNat+1)).take ((spl 10 s).length - 2 - (a.toNat+1))) ⟨[],[],[]⟩=some r)
  (g0:tm.get 0=some (sv s)) (g2:tm.get 2=some (.ptr h.n 0)) (g4:tm.get 4=some (.ptr (h.n+1) 0)) (rl:SL h hg (spl 10 s) [a,b,c,d] v5 v7 c d vc cells vg vk vp r k):wpc (SE xt) none c13c ⟨tm,234,hg,[]⟩ (Q13 xt h s):=by
 refine vC rfl ?_;obtain ⟨D,hD⟩: ∃D:Md,D=⟨cells,c,d,r.gs,r.ks,r.ps⟩:=⟨_,rfl⟩;obtain ⟨m,hm⟩: ∃m:Mp,m=D.mp vc vg vk vp:=⟨_,rfl⟩;have hparse:vO s=some D:=by
  rw [vO,ht];show (if a+3<=((spl 10 s).length:Int) then _ else none)=_;rw [if_pos hge,hrs];show (match zF _ _ with|none=>none|some r=>_)=_;rw [hq,hD]
 have htx:Txt m:=by rw [hm,hD];exact ref_txt hs na nb nc nd hrs hq vc vg vk vp
 have e0:GR hg (h.n+2) m.vc m.cells:=by rw [hm,hD];exact rl.gr
 have e1:OwnSl hg (h.n+2) 4 87 m.vg m.gs.length (G4 m.gs):=by rw [hm,hD];exact rl.g
 have e2:OwnSl hg (h.n+2) 3 90 m.vk m.ks.length (K3 m.ks):=by rw [hm,hD];exact rl.kk
 have e3:OwnSl hg (h.n+2) 2 92 m.vp m.ps.length (P2 m.ps):=by rw [hm,hD];exact rl.p
 have hma:m.At xt hg:=qAL htx e0 e1 e2 e3;have qm:hg.t.get (h.n+1)=some (.cells m.cs 27):=by rw [hm,hD];exact rl.sb.m
 have hbx:m.textB=D.textB:=by rw [hm];rfl
 have hrf:=rl.sb.fr.le;have hlt:=rl.sb.lt;have qr:=rl.sb.r;obtain ⟨o1,o2,o3,o4⟩:=hma.ones;refine qG ?_;refine qA fun K hn hp=> ?_;simp only [sw.1,rE,reduceIte,rL,rA,rM,rD,svn.down,syw.1,qB,qD,qC,g4,g0,qm];refine qE (sok xt) (rprint_c xt hg m hma htx fun n1 hn1=> ?_);by_cases he:m.textB=s
 rotate_left
 ·have hn0:yT s=none:=by rw [yT,hparse];exact if_neg (by rw [<-hbx];exact he)
  simp only [sw.1,rE,reduceIte,rL,rA,rM,rD,svn.down,syw.1,qB,qD,qC,g0,decide_eq_false he,xZR];apply hn;refine qF true (by simp only [sw.1,rE,reduceIte,rL,rA,rM,rD,svn.down,syw.1,qB,qD,qC]) (fun _=> ?_) (fun hx=>by cases hx);refine qG ?_;refine qA fun K hn hp=> ?_;simp only [sw.1,rE,reduceIte,rL,rA,rM,rD,svn.down,syw.1,qB,qD,qC,g2,Hp.up_t,qr,wE];apply hn;exact jI (Q13.nos hn0 (rl.sb.fr.up (Nat.le_of_lt hn1)) (by rw [xZI];omega) (by simp [xZZ,g2]) (by simp [xZZ]))
 have hn1':yT s=some D:=by rw [yT,hparse];exact if_pos (by rw [<-hbx];exact he)
 simp only [sw.1,rE,reduceIte,rL,rA,rM,rD,svn.down,syw.1,qB,qD,qC,g0,decide_eq_true he,xZN];apply hn;refine qF false (by simp only [sw.1,rE,reduceIte,rL,rA,rM,rD,svn.down,syw.1,qB,qD,qC]) (fun hx=>by cases hx) (fun _=> ?_);refine qN ?_;refine qA fun K hn hp=> ?_;simp only [sw.1,rE,reduceIte,rL,rA,rM,rD,svn.down,syw.1,qB,qD,qC,g2,g4,qm,qr,o1,o2,o3,o4];refine hn _ _ (qR (qAa (v:=m.av) res13s ?_ ⟨?_,?_⟩))
 ·simp only [sw.1,rE,reduceIte,rL,rA,rM,rD,svn.down,syw.1,qB,qD,qC,g2]
 ·exact (rl.sb.fr.up (Nat.le_of_lt hn1)).set (xZV _) (by rw [xZI];omega) _
 ·rw [hn1'];refine ⟨vc,vg,vk,vp,by simp [xZZ,hm],?_⟩;rw [<-hm];have hs: ∀k,h.n+2<=k->k<hg.n->((hg.up n1).set h.n (.cells m.cs 27)).t.get k=hg.t.get k:=fun k h1 h2=>by
   rw [Hp.set_t,xZZ,if_neg (by omega)];rfl
  exact qAL htx (e0.keepT (by rw [xZA,xZI];omega) (fun k cs h1 h2 h3=>by rw [hs k h2 h1];exact h3) (fun k cs h1 h2 h3=>by rw [hs k h2 h1];exact h3)) (e1.keep (by rw [xZA,xZI];omega) hs) (e2.keep (by rw [xZA,xZI];omega) hs) (e3.keep (by rw [xZA,xZI];omega) hs)
theorem ref_c (xt:Addr->Option Value) (h:Hp) (s:List UInt8) (hs:s.length<=900):FnA (SE xt) 13 [sv s] h (RfR xt h (yT s)):=by
 refine head_R xt h s (by omega) fun tm hg v5 v7 a b c d ht na nb nc nd hge g0 g2 g4 g5 g7 sb=> ?_;refine rows_R xt h s (by omega) tm hg v5 v7 a b c d ht na nb hge g0 g2 g4 g5 g7 sb fun tm hg vc cells hrs g0 g2 g4 g5 g7 sb gr=> ?_;refine rest_R xt h s (by omega) tm hg v5 v7 a b c d vc cells ht na hge hrs g0 g2 g4 g5 g7 sb gr fun tm hg vg vk vp r k hq hk g0 g2 g4 rl=> ?_;exact end_R xt h s hs tm hg v5 v7 a b c d vc vg vk vp cells r k ht na nb nc nd hge hrs hq g0 g2 g4 rl
end Go.Proofs.Kn
