/- Parts. -/
import Derived.Test.YthimlgffanlomaaGreatDoorQH
import Derived.Test.YthimlgffanlomaaGreatDoorQT
set_option linter.all false
open Nat renaming reduceEqDiff → rE, reduceLeDiff → rD, reduceAdd → rA, reduceMul → rM, reduceLT → rL
open Go.Ev.T renaming get_put → xZZ
open Nat renaming le_refl → xZY, add_assoc → xZO, le_trans → xZJ, lt_of_lt_of_le → xZF, blt_eq → xZE
open Option renaming bind_some → xZX
open List renaming getElem?_append_left → xZW, getElem?_range → xZV, getElem?_append_right → xZU, getElem?_set → xZS, getElem?_map → xZR, getElem?_eq_none → xZQ, map_congr_left → xZP, ext_getElem? → xZN, length_set → xZL, mem_range → xZK, getElem?_take → xZI, getElem?_drop → xZH
open Go.Ev.Hp renaming set_t → xZT
open Int renaming toNat_natCast → xZM
open Bool renaming false_eq_true → xZG
noncomputable section
namespace Go.Proofs.Kn
open Go Go.Ev
set_option maxRecDepth 100000
def jW (f:Nat->Int×Int) (C:Nat):List AV:=(List.range (C*2)).map fun k=>if k % 2=0 then iv (f (k / 2)).1 else iv (f (k / 2)).2
theorem vH (f:Nat->Int×Int) (C:Nat):(jW f C).length=C*2:=by simp [jW]
theorem uM (f:Nat->Int×Int) {C c:Nat} (h:c<C):(jW f C)[c*2]? =some (iv (f c).1):=by
 simp only [jW,xZR];rw [xZV (by omega)];simp
theorem gJ (f:Nat->Int×Int) {C c:Nat} (h:c<C):(jW f C)[c*2+1]? =some (iv (f c).2):=by
 simp only [jW,xZR];rw [xZV (by omega)];have e1:(c*2+1) % 2=1:=by omega
 have e2:(c*2+1) / 2=c:=by omega
 simp [e1,e2]
theorem flatR_two (f:Nat->Int×Int) {C c:Nat} (h:c<C):((jW f C).drop (c*2)).take 2=[iv (f c).1,iv (f c).2]:=by
 apply xZN
 intro k;rw [xZI,xZH];by_cases h0:k=0
 ·subst h0;rw [if_pos (by omega),Nat.add_zero,uM f h];rfl
 by_cases h1:k=1
 ·subst h1;rw [if_pos (by omega),gJ f h];rfl
 rw [if_neg (by omega)];exact (xZQ (by simp;omega)).symm
theorem yX (f:Nat->Int×Int) {C c:Nat} (h:c<C) (x y:Int):((jW f C).set (c*2) (iv x)).set (c*2+1) (iv y)=jW (Th.put f c (x,y)) C:=by
 apply xZN
 intro k;rw [xZS,xZS];simp only [xZL,vH];by_cases h1:c*2+1=k
 ·subst h1;rw [if_pos rfl,if_pos (by omega),gJ _ h,Th.put_at]
 ·rw [if_neg h1];by_cases h0:c*2=k
  ·subst h0;rw [if_pos rfl,if_pos (by omega),uM _ h,Th.put_at]
  ·rw [if_neg h0];by_cases hk:k<C*2
   ·simp only [jW,xZR];rw [xZV hk];simp only [Option.map_some];rw [Th.put_ne _ _ (by omega)]
   ·rw [xZQ (by rw [vH];omega),xZQ (by rw [vH];omega)]
theorem zW {h:Hp} {b off:Nat} {v:AV} {cs:List AV} {e:TypeId} (hv:cellsOf v=[v]) (ho:Go.Ev.one v=true) (hl:off<cs.length):jG 1 h b off v (some (.cells cs e))=some (h.set b (.cells (cs.set off v) e)):=by
 rw [kF,hv,if_pos ⟨rfl,by omega,by simp [ho]⟩,List.set_eq_take_append_cons_drop,if_pos hl];simp
theorem xZ {h:Hp} {b off:Nat} {x y:AV} {cs:List AV} {e:TypeId} (hx:Go.Ev.one x=true) (hy:Go.Ev.one y=true) (hl:off+1<cs.length):jG 2 h b off (.agg [x,y]) (some (.cells cs e))=some (h.set b (.cells ((cs.set off x).set (off+1) y) e)):=by
 rw [kF,if_pos ⟨rfl,by omega,by simp [yC,hx,hy]⟩]
 congr 3
 rw [yC];apply xZN
 intro k;rw [xZS,xZS];simp only [xZL];have ht:(cs.take off).length=off:=by rw [List.length_take];omega
 by_cases h1:off+1=k
 ·subst h1;rw [if_pos rfl,if_pos hl,xZW (by simp [ht]),xZU (by omega),ht];simp
 ·rw [if_neg h1];by_cases h0:off=k
  ·subst h0;rw [if_pos rfl,if_pos (by omega),xZW (by simp [ht]),xZU (by omega),ht];simp
  ·rw [if_neg h0];by_cases hk:k<off
   ·rw [xZW (by simp [ht];omega),xZW (by omega),xZI,if_pos hk]
   ·rw [xZU (by simp [ht];omega),xZH]
    congr 1
    simp [ht];omega
structure FrR (N M:Nat) (h h':Hp):Prop where
 le:h.n<=h'.n
 at_: ∀k,(k<N\/(M<=k/\k<h.n)\/h'.n<=k)->h'.t.get k=h.t.get k
theorem FrR.refl {N M:Nat} (h:Hp):FrR N M h h:=⟨xZY _,fun _ _=>rfl⟩
theorem FrR.trans {N M:Nat} {h h1 h2:Hp} (a:FrR N M h h1) (b:FrR N M h1 h2):FrR N M h h2:=by
 refine ⟨xZJ a.le b.le,fun k hk=> ?_⟩;have:=a.le;have:=b.le;rw [b.at_ k (by omega),a.at_ k (by omega)]
theorem FrR.new {N M:Nat} {h h':Hp} (a:FrR N M h h') (hN:N<=h.n) (o:AO):FrR N M h (h'.new o):=by
 have:=a.le;refine ⟨by simp [Hp.new_n];omega,fun k hk=> ?_⟩;simp only [Hp.new_n] at hk;rw [Hp.new_t,xZZ,if_neg (by omega)];exact a.at_ k (by omega)
theorem FrR.set {N M:Nat} {h h':Hp} (a:FrR N M h h') {b:Nat} (h1:N<=b) (h2:b<M) (h3:M<=h'.n) (o:AO):FrR N M h (h'.set b o):=by
 refine ⟨a.le,fun k hk=> ?_⟩;simp only [Hp.set_n] at hk;rw [xZT,xZZ,if_neg (by omega)];exact a.at_ k hk
theorem FrR.up {N M:Nat} {h h':Hp} (a:FrR N M h h') {n:Nat} (hn:h'.n<=n):FrR N M h (h'.up n):=⟨xZJ a.le hn,fun k hk=>a.at_ k (by simp only [Hp.up_n] at hk;omega)⟩
theorem FrR.fr {N M:Nat} {h h':Hp} (a:FrR N M h h') (hN:N<=h.n):Fr N h h':=⟨xZJ hN a.le,a.le,fun k hk=>a.at_ k (by omega)⟩
theorem FrR.of {N M n:Nat} {h h':Hp} (a:Fr n h h') (hN:N<=h.n) (hn:h.n<=n):FrR N M h h':=⟨a.le,fun k hk=>a.at_ k (by omega)⟩
def SG (h:Hp) (N M:Nat) (v:AV) (R C:Nat) (F:Nat->Nat->Int×Int):Prop:=
 ∃bs:Nat->Nat,(∀r,r<R->N<=bs r/\bs r<M/\h.t.get (bs r)=some (.cells (jW (F r) C) 58))/\(∀r s,r<R->s<R->bs r=bs s->r=s)/\
  ((R=0/\v= .val (.slice none 0 0))\/ ∃B,v= .sl B 0 R 1/\N<=B/\B<M/\(∀r,r<R->bs r≠B)/\h.t.get B=some (.cells ((List.range R).map fun r=> .sl (bs r) 0 C 2) 80))
section
variable {h:Hp} {N M R C:Nat} {v:AV} {F:Nat->Nat->Int×Int}
theorem SG.keep {h':Hp} (s:SG h N M v R C F) (hk: ∀k,N<=k->k<M->h'.t.get k=h.t.get k):SG h' N M v R C F:=by
 obtain ⟨bs,h1,h2,h3⟩:=s;refine ⟨bs,fun r hr=>⟨(h1 r hr).1,(h1 r hr).2.1,by rw [hk _ (h1 r hr).1 (h1 r hr).2.1];exact (h1 r hr).2.2⟩,h2,?_⟩;rcases h3 with h3|⟨B,q1,q2,q3,q4,q5⟩
 ·exact .inl h3
 ·exact .inr ⟨B,q1,q2,q3,q4,by rw [hk _ q2 q3];exact q5⟩
theorem SG.new (s:SG h N M v R C F) (hM:M<=h.n) (o:AO):SG (h.new o) N M v R C F:=s.keep fun k _ hk=>gH _ _ (by omega)
theorem SG.up (s:SG h N M v R C F) (n:Nat):SG (h.up n) N M v R C F:=s.keep fun _ _ _=>rfl
theorem SG.fr {h':Hp} {n:Nat} (s:SG h N M v R C F) (f:Fr n h h') (hn:M<=n):SG h' N M v R C F:=s.keep fun k _ hk=>f.at_ k (.inl (by omega))
theorem SG.grow (s:SG h N M v R C F) {M':Nat} (hM:M<=M'):SG h N M' v R C F:=by
 obtain ⟨bs,h1,h2,h3⟩:=s;refine ⟨bs,fun r hr=>⟨(h1 r hr).1,xZF (h1 r hr).2.1 hM,(h1 r hr).2.2⟩,h2,?_⟩;rcases h3 with h3|⟨B,q1,q2,q3,q4,q5⟩
 ·exact .inl h3
 ·exact .inr ⟨B,q1,q2,xZF q3 hM,q4,q5⟩
theorem SG.nil (h:Hp) (N M C:Nat) (F:Nat->Nat->Int×Int):SG h N M (.val (.slice none 0 0)) 0 C F:=⟨fun _=>0,fun r hr=>absurd hr (Nat.not_lt_zero _),fun r s hr=>absurd hr (Nat.not_lt_zero _),.inl ⟨rfl,rfl⟩⟩
theorem SG.congr {F':Nat->Nat->Int×Int} (s:SG h N M v R C F) (hF: ∀r,r<R-> ∀c,c<C->F' r c=F r c):SG h N M v R C F':=by
 obtain ⟨bs,h1,h2,h3⟩:=s;refine ⟨bs,fun r hr=>⟨(h1 r hr).1,(h1 r hr).2.1,?_⟩,h2,h3⟩;rw [(h1 r hr).2.2];have:jW (F r) C=jW (F' r) C:=by
  apply xZP
  intro k hk;rw [hF r hr _ (by have:=xZK.1 hk;omega)]
 rw [this]
theorem SG.one (s:SG h N M v R C F):Go.Ev.one v=true:=by
 obtain ⟨bs,h1,h2,h3⟩:=s;rcases h3 with ⟨_,rfl⟩|⟨B,rfl,_⟩<;>rfl
theorem SG.cells (s:SG h N M v R C F):cellsOf v=[v]:=by
 obtain ⟨bs,h1,h2,h3⟩:=s;rcases h3 with ⟨_,rfl⟩|⟨B,rfl,_⟩<;>rfl
theorem SG.len (s:SG h N M v R C F) (h':Hp):zI tb h' 53 v=some R:=by
 obtain ⟨bs,h1,h2,h3⟩:=s;rcases h3 with ⟨rfl,rfl⟩|⟨B,rfl,_⟩<;>simp [zI,tg51,te53,s1,sA]
theorem SG.at_ (s:SG h N M v R C F) {r:Nat} (hr:r<R): ∃B b rws,qM tb 53 v (.val (.int .i64 (r:Int)))=some (.ptr B r)/\h.t.get B=some (.cells rws 80)/\rws[r]? =some (.sl b 0 C 2)/\h.t.get b=some (.cells (jW (F r) C) 58)/\N<=b/\b<M/\N<=B/\B<M/\b≠B/\
  ∀f,SG (h.set b (.cells (jW f C) 58)) N M v R C (Th.putRow F r f):=by
 obtain ⟨bs,h1,h2,h3⟩:=s;rcases h3 with ⟨rfl,_⟩|⟨B,rfl,q2,q3,q4,q5⟩
 ·omega
 have e1:qAm (.val (.int .i64 (r:Int)))=some (Int.ofNat r):=rfl;have e2:Nat.blt r R=true:=by rw [xZE];exact hr
 refine ⟨B,bs r,_,by simp [qM,tg51,te53,s1,sA,tg55,te80,e1,e2],q5,by simp [xZV hr],(h1 r hr).2.2,(h1 r hr).1,(h1 r hr).2.1,q2,q3,q4 r hr,fun f=> ?_⟩;refine ⟨bs,fun x hx=>⟨(h1 x hx).1,(h1 x hx).2.1,?_⟩,h2,.inr ⟨B,rfl,q2,q3,q4,?_⟩⟩
 ·rw [xZT,xZZ];by_cases hxr:x=r
  ·subst hxr;rw [if_pos rfl,Th.putRow_at]
  ·rw [if_neg (fun hq=>hxr (h2 x r hx hr hq)),Th.putRow_ne _ _ hxr];exact (h1 x hx).2.2
 ·rw [xZT,xZZ,if_neg (fun hq=>q4 r hr hq.symm)];exact q5
theorem qBe {b:Nat} {c:Nat} (hc:c<C):qM tb 80 (.sl b 0 C 2) (.val (.int .i64 (c:Int)))=some (.ptr b (c*2)):=by
 have e1:qAm (.val (.int .i64 (c:Int)))=some (Int.ofNat c):=rfl;have e2:Nat.blt c C=true:=by rw [xZE];exact hc
 simp [qM,tg55,te80,s1,sA,tg43,te58,e1,e2]
theorem sgl55 (b:Nat) (h':Hp):zI tb h' 80 (.sl b 0 C 2)=some C:=by simp [zI,tg55,te80,s1,sA]
end
def t3 (t:Int×Int×Int):List Value:=[.int .i64 t.1,.int .i64 t.2.1,.int .i64 t.2.2]
structure Wk where
 m:Mp
 vt:AV
 ts:List (Int×Int×Int)
 kerf:Int
abbrev Wk.cs (w:Wk):List AV:=[w.m.vc,iv w.m.T,iv w.m.H,w.m.vg,w.m.vk,w.m.vp,w.vt,iv w.kerf]
abbrev Wk.av (w:Wk):AV:= .agg w.cs
abbrev Wk.bc (w:Wk) (v:AV):List AV:=[w.m.vc,iv w.m.T,iv w.m.H,w.m.vg,w.m.vk,w.m.vp,w.vt,iv w.kerf,v]
structure Wk.At (w:Wk) (xt:Xt) (h:Hp):Prop where
 m:w.m.At xt h
 ts:RowAt xt h 3 w.vt (w.ts.map t3)
 lt:w.ts.length<=9223372036854775807
theorem Wk.At.new {w:Wk} {xt:Xt} {h:Hp} (a:w.At xt h) (o:AO):w.At xt (h.new o):=⟨a.m.new o,a.ts.new o,a.lt⟩
theorem Wk.At.up {w:Wk} {xt:Xt} {h:Hp} (a:w.At xt h) {n:Nat} (hn:h.n<=n):w.At xt (h.up n):=⟨a.m.up hn,a.ts.up hn,a.lt⟩
theorem Wk.At.fr {w:Wk} {xt:Xt} {h h':Hp} (a:w.At xt h) {M:Nat} (f:Fr M h h') (hM:h.n<=M):w.At xt h':=⟨a.m.fr f hM,a.ts.fr f hM,a.lt⟩
structure Wk.Ones (w:Wk):Prop where
 c:Go.Ev.one w.m.vc=true
 g:Go.Ev.one w.m.vg=true
 k:Go.Ev.one w.m.vk=true
 p:Go.Ev.one w.m.vp=true
 t:Go.Ev.one w.vt=true
theorem Wk.At.ones {w:Wk} {xt:Xt} {h:Hp} (a:w.At xt h):w.Ones:=⟨a.m.cells.one,a.m.gs.one,a.m.ks.one,a.m.ps.one,a.ts.one⟩
theorem bd43 (a b:Int):vN tb 58 [(0,iv a),(1,iv b)]=some (.agg [iv a,iv b]):=by kernel_rfl
theorem bd225 (a b:Int):vN tb 200 [(0,iv a),(1,iv b)]=some (.agg [iv a,iv b]):=by kernel_rfl
theorem if225 (h:Hp) (v:AV):qEW tb h 200 v=some (.ifc 200 v,h):=by kernel_rfl
theorem ft186 (xt:Xt):(SE xt).ft.get 143=some Tryz.f143:=by kernel_rfl
theorem res186:Tryz.f143.results.toList=[]:=by kernel_rfl
def NarR (h:Hp) (N M:Nat) (v:AV) (R C:Nat) (F:Nat->Nat->Int×Int) (r c:Nat) (s:Int×Int) (res:CR) (h':Hp):Prop:=
 FrR N M h h'/\((∃x,res= .ret x/\(Th.nar (F r c) s).1<=(Th.nar (F r c) s).2/\SG h' N M v R C (Th.putRow F r (Th.put (F r) c (Th.nar (F r c) s))))\/((Th.nar (F r c) s).2<(Th.nar (F r c) s).1/\res= .pan (.ifc 200 (.agg [iv r,iv c]))))
theorem qCI (xt:Xt) (h:Hp) (w:Wk) (ho:w.Ones) (N M:Nat) (v:AV) (R C:Nat) (F:Nat->Nat->Int×Int) (hs:SG h N M v R C F) (hN:N<=M) (hM:M<=h.n) (r c:Nat) (hr:r<R) (hc:c<C) (lo hi:Int):FnA (SE xt) 143 [.agg (w.bc v),iv r,iv c,.agg [iv lo,iv hi]] h (NarR h N M v R C F r c (lo,hi)):=by
 refine FnA.walk (sok xt) (ft186 xt) rfl 49 rfl ?_;obtain ⟨o1,o2,o3,o4,o5⟩:=ho;refine qA fun K hn hp=> ?_;simp only [sw.1,rE,reduceIte,rL,rA];apply hn;obtain ⟨h1,hh1,nh1,sh1,_,fbh1⟩:=nwE h (.cells (w.bc v) 85);rw [<-hh1];have fh1:=fbh1;obtain ⟨h2,hh2,nh2,sh2,kh2,fbh2⟩:=nwE h1 (.cells [iv lo,iv hi] 58);rw [<-hh2];have fh2:Fr h.n h h2:=fh1.trans fbh2 (by omega);simp only [nh1,xZO,rA] at nh2 sh2 kh2;have s1:=(kh2 h.n (by omega)).trans sh1;have hs2:=hs.fr fh2 hM;obtain ⟨B,b,rws,i1,i2,i3,i4,i5,i6,i7,i8,i9,hset⟩:=hs2.at_ hr;have i10:=qBe (C:=C) (b:=b) hc;refine qA fun K hn hp=> ?_;simp only [sy.1,rE,reduceIte,rL,s1,i1,i2,i3,i10];apply hn;have i11:=uM (F r) hc;have i12:=gJ (F r) hc;refine qW (sok xt) 0 0 22 [(14,1)] (by kernel_rfl) fun K hn hp=> ?_;obtain ⟨A1,hA1⟩: ∃A1,A1=max (F r c).1 lo:=⟨_,rfl⟩;obtain ⟨A2,hA2⟩: ∃A2,A2=min (F r c).2 hi:=⟨_,rfl⟩;have hlf:=vH (F r) C;have p1:=zW (h:=h2) (b:=b) (off:=c*2) (v:=iv A1) (cs:=jW (F r) C) (e:=58) rfl rfl (by omega);have p2:=zW (h:=h2.set b (.cells ((jW (F r) C).set (c*2) (iv A1)) 58)) (b:=b) (off:=c*2+1) (v:=iv A2) (cs:=(jW (F r) C).set (c*2) (iv A1)) (e:=58) rfl rfl (by rw [xZL];omega);have b2: ¬h.n+1=b:=by omega
 simp only [sy.1,rE,reduceIte,rL,rA,syw.1,sh2,i4,i11,i12,<-hA1,<-hA2,p1,p2,b2];apply hn;obtain ⟨h3,hh3⟩: ∃h3,h3=(h2.set b (.cells ((jW (F r) C).set (c*2) (iv A1)) 58)).set b (.cells (((jW (F r) C).set (c*2) (iv A1)).set (c*2+1) (iv A2)) 58):=⟨_,rfl⟩;rw [<-hh3];have hb3:h3.t.get b=some (.cells (jW (Th.put (F r) c (A1,A2)) C) 58):=by
  rw [hh3,xZT,xZZ,if_pos rfl,yX _ hc]
 have hn3:h3.n=h2.n:=by rw [hh3];rfl
 have hs3:SG h3 N M v R C (Th.putRow F r (Th.put (F r) c (A1,A2))):=(hset (Th.put (F r) c (A1,A2))).keep fun k _ _=>by
  rw [hh3];simp only [xZT,xZZ];split
  ·rw [yX _ hc]
  ·rfl
 have fr3:FrR N M h h3:=by
  rw [hh3];exact ((FrR.of fh2 (by omega) (xZY _)).set i5 i6 (by omega) _).set i5 i6 (by simp [Hp.set_n];omega) _
 have j1:=uM (Th.put (F r) c (A1,A2)) hc;have j2:=gJ (Th.put (F r) c (A1,A2)) hc;rw [Th.put_at] at j1 j2;refine jQ (sok xt) 9 (by kernel_rfl) fun K hn hp=> ?_;simp only [sy.1,rE,reduceIte,rL,syw.1,hb3,j1,j2];apply hn;have hnar:Th.nar (F r c) (lo,hi)=(A1,A2):=by rw [hA1,hA2];rfl
 cases q:decide (A2<A1)
 ·refine wcF (by simp only [sy.1,rE,reduceIte]) ?_;refine qN ?_;have q:=of_decide_eq_false q;refine ⟨h3,[],rfl,?_,fr3,.inl ⟨_,rfl,by rw [hnar];simp;omega,by rw [hnar];exact hs3⟩⟩;rw [res186];rfl
 ·refine wcT (by simp only [sy.1,rE,reduceIte]) ?_;have q:=of_decide_eq_true q;refine reg fun K hn hp=> ?_;simp only [sy.1,rE,reduceIte,rL,bd225,if225,WOp_iface,WOp_panic,panK_ifc];refine hp _ _ _ ⟨h3,rfl,fr3,.inr ⟨by rw [hnar];exact q,rfl⟩⟩
def Mp.cell (m:Mp) (r c:Nat):Int:=(m.cells.getD r []).getD c 0
def Mp.J (m:Mp) (r c:Nat):Bool:= !decide (m.cell r c=1) && !decide (m.cell r (c+1)=1)
theorem ft187 (xt:Xt):(SE xt).ft.get 144=some Tryz.f144:=by kernel_rfl
theorem res187:Tryz.f144.results.toList=[.tmp 3]:=by kernel_rfl
theorem qFx (xt:Xt) (h:Hp) (b:Nat) (v:AV) (l:List Int) (hr:RowAt xt h 1 v (l.map c1)) (q0:h.t.get b=some (.cells [v] 114)) (c:Nat) (hc:c+1<l.length) (hl:l.length<=9223372036854775807) {K:KP} (hk: ∀n,h.n<n->K (.ret (.val (.bool (!decide (l.getD c 0=1) && !decide (l.getD (c+1) 0=1))))) (h.up n)):
  FnA (SE xt) 144 [iv c,.ptr b 0] h K:=by
 refine FnA.calm ?_ hk;clear hk K;refine FnA.walk (sok xt) (ft187 xt) rfl 17 rfl ?_;obtain ⟨x1,x2⟩:=hr.m58 (k:=c) (by omega);obtain ⟨x3,x4⟩:=hr.m58 (k:=c+1) hc;have w:=qE (k:=c) (n:=l.length) (by omega) hl;refine qA fun K hn hp=> ?_;simp only [sw.1,rL];apply hn;cases e:decide (l.getD c 0=1)
 ·refine qA fun K hn hp=> ?_;simp only [sy.1,rE,reduceIte,rL,q0,x1,x2,x3,x4,w,e];apply hn;refine qD (qK res187 ⟨?_,Fr.refl (xZY _)⟩);simp [xZZ]
 ·refine qA fun K hn hp=> ?_;simp only [sy.1,rE,reduceIte,rL,q0,x1,x2,e];apply hn;refine qD (qK res187 ⟨?_,Fr.refl (xZY _)⟩);simp [xZZ]
theorem SG.append {P:Program} {xt:Xt} {h:Hp} {N M R C b:Nat} {v x:AV} {F:Nat->Nat->Int×Int} (s:SG h N M v R C F) (hN:N<=M) (hM:M<=h.n) (hb1:M<=b) (hb2:b<h.n) (q:h.t.get b=some (.cells (jW (F R) C) 58)) (hx:gS xt h 1 x=some (1,[.sl b 0 C 2])) (hR:R<=100):
  ∃h',qT P tb xt .append [53,53] [v,x] h=some (.sl h.n 0 (R+1) 1,h')/\SG h' N h'.n (.sl h.n 0 (R+1) 1) (R+1) C F/\h'.n=h.n+1/\(∀k,k<N->h'.t.get k=h.t.get k)/\ ∀k,h'.n<=k->h'.t.get k=h.t.get k:=by
 obtain ⟨bs,h1,h2,h3⟩:=s;obtain ⟨avs,havs⟩: ∃avs:List AV,avs=(List.range R).map fun r=> .sl (bs r) 0 C 2:=⟨_,rfl⟩;have ho:OwnSl h N 1 80 v R avs:=by
  rcases h3 with ⟨rfl,rfl⟩|⟨B,rfl,q2,q3,q4,q5⟩
  ·rw [havs];exact .inl ⟨rfl,rfl,rfl⟩
  ·exact .inr ⟨B,rfl,q2,by omega,by rw [q5,havs],by rw [havs];simp⟩
 obtain ⟨h',p1,p2,p3,p4,p5⟩:=ho.append2 (P:=P) (m:=1) (cz:=[.sl b 0 C 2]) (by omega) tg51 rfl tg55 rfl (show te80.bytes=24 from rfl) tg51 rfl hx (by omega) rfl (by omega) (by omega);refine ⟨h',p1,?_,p4,fun k hk=>p3.at_ k (.inl hk),fun k hk=>p3.at_ k (.inr hk)⟩;have hvk: ∀k,k<h.n->(∀r,r<R->True)->(k=b\/ ∃r,r<R/\k=bs r)->h'.t.get k=h.t.get k:=fun k hk _ hkk=>p5 k hk fun off n s hv=>by
  rcases h3 with ⟨_,h3⟩|⟨B,h3,q2,q3,q4,q5⟩
  ·rw [h3] at hv;cases hv
  ·rw [h3] at hv;cases hv;rcases hkk with rfl|⟨r,hr,rfl⟩
   ·omega
   ·exact q4 r hr rfl
 refine ⟨fun r=>if r=R then b else bs r,fun r hr=> ?_,fun r s hr hs hq=> ?_,.inr ⟨h.n,rfl,by omega,by omega,fun r hr=> ?_,?_⟩⟩
 ·by_cases e:r=R
  ·subst e;simp only [if_true];exact ⟨by omega,by omega,by rw [hvk b hb2 (fun _ _=>trivial) (.inl rfl)];exact q⟩
  ·simp only [if_neg e];have:=h1 r (by omega);exact ⟨this.1,by omega,by rw [hvk (bs r) (by omega) (fun _ _=>trivial) (.inr ⟨r,by omega,rfl⟩)];exact this.2.2⟩
 ·by_cases e1:r=R<;>by_cases e2:s=R
  ·omega
  ·simp only [if_pos e1,if_neg e2] at hq;have:=h1 s (by omega);omega
  ·simp only [if_neg e1,if_pos e2] at hq;have:=h1 r (by omega);omega
  ·simp only [if_neg e1,if_neg e2] at hq;exact h2 r s (by omega) (by omega) hq
 ·by_cases e:r=R
  ·simp only [if_pos e];omega
  ·simp only [if_neg e];have:=h1 r (by omega);omega
 ·rcases p2 with ⟨p0,_⟩|⟨B',e1,_,_,e4,_⟩
  ·omega
  ·cases e1;rw [e4,havs,List.range_succ,List.map_append]
   congr 2
   congr 1
   ·apply xZP
    intro r hr;have:=xZK.1 hr;simp only [if_neg (show¬r=R by omega)]
   ·simp
theorem al27 (h:Hp):jT tb h 27=some (.ptr h.n 0,h.new (.cells (([(.slice none 0 0),(.int .i64 0),(.int .i64 0),(.slice none 0 0),(.slice none 0 0),(.slice none 0 0)]:List Value).map .val) 27)):=yP tg27 rfl
theorem al48 (h:Hp):jT tb h 117=some (.ptr h.n 0,h.new (.cells (([(.int .i64 0),(.int .i64 0),(.int .i64 0),(.int .i64 0)]:List Value).map .val) 117)):=yP gD rfl
theorem al225 (h:Hp):jT tb h 200=some (.ptr h.n 0,h.new (.cells (([(.int .i64 0),(.int .i64 0)]:List Value).map .val) 200)):=yP tg225 rfl
theorem al50 (h:Hp):jT tb h 120=some (.ptr h.n 0,h.new (.cells (([(.int .i64 0),(.int .i64 0),(.bool false)]:List Value).map .val) 120)):=yP qBY rfl
theorem qFK (f:Nat->Int×Int) {C c:Nat} (h:c<C) (y:Int):(jW f C).set (c*2+1) (iv y)=jW (Th.put f c ((f c).1,y)) C:=by
 rw [<-yX f h]
 congr 1
 have:=uM f h;obtain ⟨hk,he⟩:=List.getElem?_eq_some_iff.1 this;rw [<-he,List.set_getElem_self]
theorem mk55 (h:Hp) {C:Nat} (hC:C<=100):zO tb h 80 (iv (C:Int)) (iv (C:Int))=some (.sl h.n 0 C 2,h.new (.cells (jW (fun _=>(0,0)) C) 58)):=by
 have e1:anat (iv (C:Int))=some C:=rfl;have e2:(Nat.beq C C && (Nat.blt 0 te58.size && (Nat.ble (te58.bytes*C) 281474976710656 && Nat.ble C 9223372036854775807)))=true:=by
  have a1:te58.size=2:=rfl;have a2:te58.bytes=16:=rfl;rw [a1,a2];simp [xZE,Nat.ble_eq];omega
 have e3:j8 (te58.zero.map .val) C=jW (fun _=>(0,0)) C:=by
  have h1:te58.zero.map AV.val=[iv 0,iv 0]:=rfl;have h2: ∀n,j8 [iv 0,iv 0] n=List.replicate (n*2) (iv 0):=fun n=>by
   induction n with
   |zero=>rfl
   |succ n ih=>simp only [j8,ih,Nat.add_mul];rfl
  rw [h1,h2];refine (List.eq_replicate_iff.2 ⟨vH _ _,fun b hb=> ?_⟩).symm;simp only [jW,List.mem_map] at hb;obtain ⟨k,_,rfl⟩:=hb;split<;>rfl
 simp only [zO,tg55,te80,s1,sA,tg43,e1,e2,e3];rfl
theorem bs51 (h:Hp) (b C:Nat):j0 tb h 53 1 [(0,.sl b 0 C 2)]=some (.sl h.n 0 1 1,h.new (.cells [.sl b 0 C 2] 80)):=bs_of (sz:=1) (zs:=[.slice none 0 0]) tg51 rfl tg55 rfl rfl (by omega) (by omega) rfl
def Mp.F0 (m:Mp):Nat->Nat->Int×Int:=fun r c=>if m.cell r c=1 then (0,0) else (0,60)
def gg (x:Int×Int×Int×Int):Th.Gg:=⟨x.1.toNat,x.2.1.toNat,x.2.2.1,x.2.2.2⟩
def rowTo (m:Mp) (r j:Nat):Nat->Int×Int:=fun x=>if x<j/\ ¬m.cell r x=1 then (0,60) else (0,0)
theorem qCz (m:Mp) (r:Nat):rowTo m r 0=fun _=>(0,0):=by funext x;simp [rowTo]
theorem qDK {m:Mp} {r j:Nat} (h: ¬m.cell r j=1):Th.put (rowTo m r j) j (0,60)=rowTo m r (j+1):=by
 funext x
 by_cases e:x=j
 ·subst e;rw [Th.put_at];simp [rowTo,h]
 ·rw [Th.put_ne _ _ e];have:(x<j+1)=(x<j):=by apply propext;omega
  simp only [rowTo,this]
theorem qFh {m:Mp} {r j:Nat} (h:m.cell r j=1):rowTo m r j=rowTo m r (j+1):=by
 funext x
 by_cases e:x=j
 ·subst e;simp [rowTo,h]
 ·have:(x<j+1)=(x<j):=by apply propext;omega
  simp only [rowTo,this]
theorem qDM {m:Mp} {r C x:Nat} (h:x<C):rowTo m r C x=m.F0 r x:=by
 simp only [rowTo,Mp.F0,h,true_and];by_cases e:m.cell r x=1<;>simp [e]
theorem qBR {f g:Nat->Int×Int} {C:Nat} (h: ∀c,c<C->f c=g c):jW f C=jW g C:=by
 apply xZP
 intro k hk;rw [h _ (by have:=xZK.1 hk;omega)]
structure BInv (h:Hp) (w:Wk) (C:Nat) (hc:Hp) (v:AV) (M R:Nat) (F:Nat->Nat->Int×Int):Prop where
 fr:Fr h.n h hc
 b1: ∃z,z.length=9/\hc.t.get (h.n+1)=some (.cells z 85)
 b2:hc.t.get (h.n+2)=some (.cells (w.bc v) 85)
 b3:hc.t.get (h.n+3)=some (.cells w.m.cs 27)
 sg:SG hc (h.n+4) M v R C F
 le:h.n+4<=M
 hi:M<=hc.n
theorem BInv.keep {h hc hd:Hp} {w:Wk} {C:Nat} {v:AV} {M R:Nat} {F:Nat->Nat->Int×Int} (b:BInv h w C hc v M R F) {n:Nat} (f:Fr n hc hd) (hn:M<=n):BInv h w C hd v M R F:=by
 have h1:=b.le;have h2:=b.hi;have h3:=f.le;refine ⟨b.fr.trans f (by omega),?_,?_,?_,b.sg.fr f hn,b.le,by omega⟩
 ·obtain ⟨z,q1,q2⟩:=b.b1;exact ⟨z,q1,by rw [f.at_ _ (by omega)];exact q2⟩
 ·rw [f.at_ _ (by omega)];exact b.b2
 ·rw [f.at_ _ (by omega)];exact b.b3
theorem BInv.frR {h hc hd:Hp} {w:Wk} {C:Nat} {v:AV} {M R:Nat} {F G:Nat->Nat->Int×Int} (b:BInv h w C hc v M R F) (f:FrR (h.n+4) M hc hd) (hs:SG hd (h.n+4) M v R C G):BInv h w C hd v M R G:=by
 have h1:=b.le;have h2:=b.hi;have h3:=f.le;refine ⟨b.fr.trans (f.fr (by omega)) (by omega),?_,?_,?_,hs,b.le,by omega⟩
 ·obtain ⟨z,q1,q2⟩:=b.b1;exact ⟨z,q1,by rw [f.at_ _ (by omega)];exact q2⟩
 ·rw [f.at_ _ (by omega)];exact b.b2
 ·rw [f.at_ _ (by omega)];exact b.b3
def Bd (F:Nat->Nat->Int×Int):Prop:= ∀r c,0<=(F r c).1/\(F r c).1<=(F r c).2/\(F r c).2<=60
theorem Bd.F0 (m:Mp):Bd m.F0:=fun r c=>by
 simp only [Mp.F0];split<;>simp
theorem Bd.nar {F:Nat->Nat->Int×Int} (h:Bd F) {r c:Nat} {s:Int×Int} (hn:(Th.nar (F r c) s).1<=(Th.nar (F r c) s).2):Bd (Th.putRow F r (Th.put (F r) c (Th.nar (F r c) s))):=fun x y=>by
 have h0:=h r c;by_cases e:x=r
 ·subst e;rw [Th.putRow_at];by_cases e:y=c
  ·subst e;rw [Th.put_at];simp only [Th.nar] at hn ⊢;omega
  ·rw [Th.put_ne _ _ e];exact h x y
 ·rw [Th.putRow_ne _ _ e];exact h x y
theorem uL (l':List Th.Gg): ∀(l:List Th.Gg) (G:Th.Grid),Th.gaugesP G (l++l')=(Th.gaugesP G l).bind fun G'=>Th.gaugesP G' l'
 |[],G=>rfl
 |g::l,G=>by
  simp only [List.cons_append,Th.gaugesP];cases Th.narrowG G g.r g.c g.span with
  |none=>rfl
  |some G1=>simp only [xZX];exact uL l' l G1
theorem qED {l:List Th.Gg} {G G':Th.Grid} {g:Th.Gg} (h:Th.gaugesP G l=some G'):Th.gaugesP G (l++[g])=Th.narrowG G' g.r g.c g.span:=by
 rw [uL,h];simp only [xZX,Th.gaugesP];cases Th.narrowG G' g.r g.c g.span<;>rfl
theorem qFu {G:Th.Grid} {r c:Nat} {s:Int×Int} (h:(Th.nar (G r c) s).1<=(Th.nar (G r c) s).2):Th.narrowG G r c s=some (Th.putRow G r (Th.put (G r) c (Th.nar (G r c) s))):=by
 simp only [Th.narrowG,Th.narrow];rw [if_neg (by omega)];rfl
theorem qFv {G:Th.Grid} {r c:Nat} {s:Int×Int} (h:(Th.nar (G r c) s).2<(Th.nar (G r c) s).1):Th.narrowG G r c s=none:=by
 simp only [Th.narrowG,Th.narrow];rw [if_pos h];rfl
theorem qDA {α β:Type} (f:α->β) {l:List α} {i:Nat} {x:α} (h:l[i]? =some x):(l.take (i+1)).map f=(l.take i).map f++[f x]:=by
 rw [List.take_succ,h];simp
theorem qEC {gs:List (Int×Int×Int×Int)} {i:Nat} {G:Th.Grid} (h:Th.gaugesP G ((gs.take i).map gg)=none):Th.gaugesP G (gs.map gg)=none:=by
 rw [<-List.take_append_drop i gs,List.map_append,uL,h];rfl
theorem vR (G:Th.Grid) (r:Nat) (f g:Nat->Int×Int):Th.putRow (Th.putRow G r f) r g=Th.putRow G r g:=by
 funext k
 by_cases e:k=r
 ·subst e;rw [Th.putRow_at,Th.putRow_at]
 ·rw [Th.putRow_ne _ _ e,Th.putRow_ne _ _ e,Th.putRow_ne _ _ e]
theorem gF (G:Th.Grid) (r:Nat):Th.putRow G r (G r)=G:=by
 funext k
 by_cases e:k=r
 ·subst e;rw [Th.putRow_at]
 ·rw [Th.putRow_ne _ _ e]
theorem qCH {f:Nat->Int×Int} {c:Nat} {s:Int×Int} (h:(Th.nar (f c) s).1<=(Th.nar (f c) s).2):Th.narrow f c s=some (Th.put f c (Th.nar (f c) s)):=by
 simp only [Th.narrow];rw [if_neg (by omega)]
theorem qAh {f:Nat->Int×Int} {c:Nat} {s:Int×Int} (h:(Th.nar (f c) s).2<(Th.nar (f c) s).1):Th.narrow f c s=none:=by
 simp only [Th.narrow];rw [if_pos h]
theorem qE9 {T:Int} {j:Nat->Bool} {f g:Nat->Int×Int} {k:Nat} (h:Th.sweepR T j f k=some g):Th.sweepR T j f (k+1)=Th.stepR T j g k:=by
 simp only [Th.sweepR,h,xZX]
theorem qBH {T:Int} {j:Nat->Bool} {f:Nat->Int×Int}: ∀{n k:Nat},k<=n->Th.sweepR T j f k=none->Th.sweepR T j f n=none
 |0,k,hk,h=>by
  have:k=0:=by omega
  subst this;exact h
 |n+1,k,hk,h=>by
  by_cases e:k=n+1
  ·subst e;exact h
  ·simp only [Th.sweepR,qBH (show k<=n by omega) h];rfl
theorem qCy {T:Int} {J:Nat->Nat->Bool} {n:Nat} {G:Th.Grid}: ∀{R k:Nat},k<=R->Th.rowsP T J n G k=none->Th.rowsP T J n G R=none
 |0,k,hk,h=>by
  have:k=0:=by omega
  subst this;exact h
 |R+1,k,hk,h=>by
  by_cases e:k=R+1
  ·subst e;exact h
  ·simp only [Th.rowsP,qCy (show k<=R by omega) h];rfl
theorem gP {f:Nat->Int×Int} {C c:Nat} (h:c<C):(if c*2+2<=(jW f C).length then some (AV.agg (((jW f C).drop (c*2)).take 2)) else none)=some (.agg [iv (f c).1,iv (f c).2]):=by
 rw [if_pos (by rw [vH];omega),flatR_two f h]
theorem qBI {T:Int} {j:Nat->Bool} {f:Nat->Int×Int} {k:Nat}:Th.sweepL T j f (k+1)=(Th.stepL T j f k).bind fun g=>Th.sweepL T j g k:=rfl
theorem ft143 (xt:Xt):(SE xt).ft.get 92=some Tryz.f92:=by kernel_rfl
theorem res143:Tryz.f92.results.toList=[.cell 2 85]:=by kernel_rfl
structure Mp.Is (m:Mp) (R C:Nat):Prop where
 hR:m.cells.length=R
 hC: ∀r,r<R->(m.cells.getD r []).length=C
 r0:0<R
 c0:0<C
 r6:R<=6
 c8:C<=8
 gs:m.gsIn
 T:0<=m.T/\m.T<=9
def BndR (h:Hp) (w:Wk) (R C:Nat) (res:CR) (h':Hp):Prop:=Fr h.n h h'/\match Th.boundP w.m.T w.m.J (C - 1) w.m.F0 (w.m.gs.map gg) R with
 |some G=> ∃v M,res= .ret (.agg (w.bc v))/\SG h' (h.n+4) M v R C G/\h.n+4<=M/\M<=h'.n
 |none=> ∃a b:Int,res= .pan (.ifc 200 (.agg [iv a,iv b]))
theorem bd121 (w:Wk):vN tb 85 [(0,w.av)]=some (.agg (w.bc (.val (.slice none 0 0)))):=by kernel_rfl
theorem bound_c (xt:Xt) (h:Hp) (w:Wk) (ha:w.At xt h) (R C:Nat) (hm:w.m.Is R C):FnA (SE xt) 92 [w.av] h (BndR h w R C):=by
 refine FnA.walk (sok xt) (ft143 xt) rfl 152 rfl ?_;obtain ⟨o1,o2,o3,o4,o5⟩:=ha.ones;have bd:=bd121 w;have hR:=hm.hR;have hR0:=hm.r0;have hC0:=hm.c0;have hR6:=hm.r6;have hC8:=hm.c8;have hlen: ∀h':Hp,zI tb h' 22 w.m.vc=some R:=fun h'=>by rw [ha.m.len h',hR]
 refine qA fun K hn hp=> ?_;simp only [sw.1,reduceIte,rL];apply hn;clear hn hp K;obtain ⟨h1,hh1,nh1,sh1,kh1,fbh1⟩:=nwE h (.cells w.cs 30);rw [<-hh1];have fh1:=fbh1;obtain ⟨h2,hh2,nh2,sh2,kh2,fbh2⟩:=nwE h1 (.cells [.val (.slice none 0 0),iv 0,iv 0,.val (.slice none 0 0),.val (.slice none 0 0),.val (.slice none 0 0),.val (.slice none 0 0),iv 0,.val (.slice none 0 0)] 85);rw [<-hh2];have fh2:Fr h.n h h2:=fh1.trans fbh2 (by omega);simp only [nh1,xZO,rA] at nh2 sh2 kh2;have s1:=(kh2 h.n (by omega)).trans sh1;refine qA fun K hn hp=> ?_;simp only [sw.1,rE,reduceIte,rL,rA,o1,o2,o3,o4,o5,bd,nh2,s1];apply hn;clear hn hp K;obtain ⟨h3,hh3,nh3,sh3,kh3,fbh3⟩:=nwS h2 (.cells [.val (.slice none 0 0),iv 0,iv 0,.val (.slice none 0 0),.val (.slice none 0 0),.val (.slice none 0 0),.val (.slice none 0 0),iv 0,.val (.slice none 0 0)] 85) (.cells (w.bc (.val (.slice none 0 0))) 85);have fh3:Fr h.n h h3:=fh2.trans fbh3 (by omega);simp only [nh2,xZO,rA] at nh3 sh3 kh3 hh3;rw [<-hh3];have t1:=(kh3 h.n (by omega)).trans s1;have t2:=(kh3 (h.n+1) (by omega)).trans sh2;refine qA fun K hn hp=> ?_;simp only [sw.1,rE,reduceIte,rL,rA,rD,al27,o1,o2,o3,o4,nh3,t1];apply hn;clear hn hp K;obtain ⟨h4,hh4,nh4,sh4,kh4,fbh4⟩:=nwS h3 (.cells [.val (.slice none 0 0),iv 0,iv 0,.val (.slice none 0 0),.val (.slice none 0 0),.val (.slice none 0 0)] 27) (.cells w.m.cs 27);have fh4:Fr h.n h h4:=fh3.trans fbh4 (by omega);simp only [nh3,xZO,rA] at nh4 sh4 kh4 hh4;rw [<-hh4];have r1:=(kh4 (h.n+1) (by omega)).trans t2;have r2:=(kh4 (h.n+2) (by omega)).trans sh3;refine qB fun K hn hp=> ?_;simp only [sy.1,rE,reduceIte,rL,syw.1,hlen,sh4];apply hn;clear hn hp K;have B0:BInv h w C h4 (.val (.slice none 0 0)) h4.n 0 w.m.F0:=⟨fh4,⟨_,rfl,r1⟩,r2,sh4,SG.nil _ _ _ _ _,by omega,xZY _⟩;clear r1 r2 t1 t2 s1 sh1 sh2 sh3 sh4 kh1 kh2 kh3 kh4;refine qC fun KA A1 A2 A3 A4 A5=> ?_;refine qI (sok xt) (fun st=> ∃(k:Nat) (v:AV) (hc:Hp) (tm:T AV),st=⟨tm,152,hc,[]⟩/\k<=R/\tm.get 2=some (.ptr (h.n+1) 0)/\tm.get 3=some (.ptr (h.n+2) 0)/\tm.get 4=some (.ptr (h.n+3) 0)/\tm.get 24=some (w.m.vc)/\tm.get 25=some (iv R)/\tm.get 26=some (iv k)/\BInv h w C hc v hc.n k w.m.F0) (fun st=>R - (match st.tm.get 26 with|some (.val (.int _ n))=>n.toNat|_=>0)) ?_ ?_
 ·rintro st ⟨k,v,hc,tm,rfl,hkA,g2,g3,g4,g24,g25,g26,bi⟩;have muA:=g26;refine qA fun K hn hp=> ?_;simp only [sy.1,rL,qR,g25,g26];apply hn;clear hn hp K;have hac:=ha.fr bi.fr (xZY _);by_cases hk:k<R
  ·refine qX (by simp only [sy.1,reduceIte,hk]) ?_;obtain ⟨rv,i1,i2,i3,i4⟩:=hac.m.rowD (i:=k) (by omega);have hCk:=hm.hC k hk;rw [hCk] at i4;have mk:=mk55 hc (C:=C) (by omega);refine zD ?_;refine qC fun KB B1 B2 B3 B4 B5=> ?_;refine qA fun K hn hp=> ?_;simp only [sy.1,rE,reduceIte,rL,g24,g26,i1,i2];apply hn;clear hn hp K;refine qA fun K hn hp=> ?_;simp only [sy.1,rE,reduceIte,rL,syw.1,i4,mk,zP];apply hn;clear hn hp K;obtain ⟨hd,hhd,nhd,shd,_,fbhd⟩:=nwE hc (.cells (jW (fun _=>(0,0)) C) 58);rw [<-hhd];refine qB fun K hn hp=> ?_;simp only [sy.1,rE,reduceIte,rL,syw.1,i4];apply hn;clear hn hp K;refine qC fun KD D1 D2 D3 D4 D5=> ?_;refine qI (sok xt) (fun st=> ∃(c:Nat) (he:Hp) (tm:T AV),st=⟨tm,152,he,[]⟩/\c<=C/\tm.get 2=some (.ptr (h.n+1) 0)/\tm.get 3=some (.ptr (h.n+2) 0)/\tm.get 4=some (.ptr (h.n+3) 0)/\tm.get 6=some (rv)/\tm.get 7=some (.sl hc.n 0 C 2)/\tm.get 24=some (w.m.vc)/\tm.get 25=some (iv R)/\tm.get 26=some (iv k)/\tm.get 33=some (rv)/\tm.get 34=some (iv C)/\tm.get 35=some (iv c)/\he.n=hc.n+1/\(∀x,x≠hc.n->he.t.get x=hc.t.get x)/\he.t.get hc.n=some (.cells (jW (rowTo w.m k c) C) 58)) (fun st=>C - (match st.tm.get 35 with|some (.val (.int _ n))=>n.toNat|_=>0)) ?_ ?_
   ·rintro st ⟨c,he,tm,rfl,hkD,g2,g3,g4,g6,g7,g24,g25,g26,g33,g34,g35,e1,e2,e3⟩;have muD:=g35;refine qA fun K hn hp=> ?_;simp only [sy.1,rL,qR,g34,g35];apply hn;clear hn hp K;by_cases hc':c<C
    ·refine qX (by simp only [sy.1,reduceIte,hc']) ?_;have i5:=i3.keep (h':=he) (by omega) (fun b hb=>e2 b (by omega));obtain ⟨x1,x2⟩:=i5.m58 (k:=c) (by omega);have hcell:(w.m.cells.getD k []).getD c 0=w.m.cell k c:=rfl;rw [hcell] at x2;refine zD ?_;refine qC fun KE E1 E2 E3 E4 E5=> ?_;refine qA fun K hn hp=> ?_;simp only [sy.1,rE,reduceIte,rL,g33,g35,x1,x2];apply hn;clear hn hp K;refine qA fun K hn hp=> ?_;simp only [sy.1,rE,reduceIte,rL];apply hn;clear hn hp K;cases q:decide (w.m.cell k c=1)
     ·refine wcT (by simp only [sy.1,rE,reduceIte]) ?_;have x3:=qBe (C:=C) (b:=hc.n) hc';have hlf:=vH (rowTo w.m k c) C;have p1:=zW (h:=he) (b:=hc.n) (off:=c*2+1) (v:=iv 60) (cs:=jW (rowTo w.m k c) C) (e:=58) rfl rfl (by omega);refine reg fun K hn hp=> ?_;simp only [sy.1,rE,reduceIte,rL,g7,x3,p1,e3];refine hn _ _ (E1 _ ?_);clear hn hp K;refine reg fun K hn hp=> ?_;simp only [sy.1,rE,reduceIte,rL,g35,qE hc' (show C<=9223372036854775807 by omega)];apply hn;clear hn hp K;refine ⟨⟨c+1,_,_,rfl,by omega,(by simp [xZZ,g2]),(by simp [xZZ,g3]),(by simp [xZZ,g4]),(by simp [xZZ,g6]),(by simp [xZZ,g7]),(by simp [xZZ,g24]),(by simp [xZZ,g25]),(by simp [xZZ,g26]),(by simp [xZZ,g33]),(by simp [xZZ,g34]),(by simp [xZZ]),e1,fun x hx=> ?_,?_⟩,by simpa [xZZ,muD] using (by omega:C - (c+1)<C - c)⟩
      ·rw [xZT,xZZ,if_neg hx];exact e2 x hx
      ·rw [xZT,xZZ,if_pos rfl,qFK _ hc'];have q:=of_decide_eq_false q;have e0:(rowTo w.m k c c).1=0:=by simp [rowTo]
       rw [e0,qDK q]
     ·refine wcF (by simp only [sy.1,rE,reduceIte]) ?_;refine qN (E1 _ ?_);refine reg fun K hn hp=> ?_;simp only [sy.1,rE,reduceIte,rL,g35,qE hc' (show C<=9223372036854775807 by omega)];apply hn;clear hn hp K;refine ⟨⟨c+1,he,_,rfl,by omega,(by simp [xZZ,g2]),(by simp [xZZ,g3]),(by simp [xZZ,g4]),(by simp [xZZ,g6]),(by simp [xZZ,g7]),(by simp [xZZ,g24]),(by simp [xZZ,g25]),(by simp [xZZ,g26]),(by simp [xZZ,g33]),(by simp [xZZ,g34]),(by simp [xZZ]),e1,e2,by rw [e3,qFh (of_decide_eq_true q)]⟩,by simpa [xZZ,muD] using (by omega:C - (c+1)<C - c)⟩
    ·refine qU (by simp only [sy.1,reduceIte,hc']) ?_;have hcC:c=C:=by omega
     refine qG (D2 _ ?_);rw [hcC] at e3;have e3:he.t.get hc.n=some (.cells (jW (w.m.F0 k) C) 58):=by rw [e3,qBR fun x hx=>qDM hx]
     have hle:=bi.le;have hsge:SG he (h.n+4) hc.n v k C w.m.F0:=bi.sg.keep fun x _ hx=>e2 x (by omega);have hb2:he.t.get (h.n+2)=some (.cells (w.bc v) 85):=by rw [e2 _ (by omega)];exact bi.b2
     have bs:=bs51 he hc.n C;refine reg fun K hn hp=> ?_;obtain ⟨h6,hh6⟩: ∃h6,h6=he.new (.cells [.sl hc.n 0 C 2] 80):=⟨_,rfl⟩;have n6:h6.n=he.n+1:=by rw [hh6];rfl
     have s6:h6.t.get he.n=some (.cells [.sl hc.n 0 C 2] 80):=by rw [hh6];exact uI _ _
     have k6: ∀x,x<he.n->h6.t.get x=he.t.get x:=fun x hx=>by rw [hh6];exact gH _ _ hx
     obtain ⟨h7,p1,p2,p3,p4,p5⟩:=SG.append (P:=Tryz.prog) (xt:=xt) (h:=h6) (x:= .sl he.n 0 1 1) (b:=hc.n) (hsge.keep fun x _ hx=>k6 x (by omega)) hle (by omega) (xZY _) (by omega) (by rw [k6 _ (by omega)];exact e3) (vU s6 rfl rfl) (by omega);have b7:h7.t.get (h.n+2)=some (.cells (w.bc v) 85):=by rw [p4 _ (by omega),k6 _ (by omega)];exact hb2
     simp only [sy.1,rE,reduceIte,rL,g3,g7,hb2,jJ,bs,<-hh6,p1,b7];have p6:jG 1 h7 (h.n+2) 8 (.sl h6.n 0 (k+1) 1) (some (.cells (w.bc v) 85))=some (h7.set (h.n+2) (.cells (w.bc (.sl h6.n 0 (k+1) 1)) 85)):=zW rfl rfl (show 8<9 by omega);simp only [sy.1,p6];refine hn _ _ (B1 _ ?_);clear hn hp K;obtain ⟨h8,hh8⟩: ∃h8,h8=h7.set (h.n+2) (.cells (w.bc (.sl h6.n 0 (k+1) 1)) 85):=⟨_,rfl⟩;rw [<-hh8];have n8:h8.n=h7.n:=by rw [hh8];rfl
     have k8: ∀x,x≠h.n+2->h8.t.get x=h7.t.get x:=fun x hx=>by rw [hh8,xZT,xZZ,if_neg hx]
     have B8:BInv h w C h8 (.sl h6.n 0 (k+1) 1) h8.n (k+1) w.m.F0:=by
      have hfr:=bi.fr;refine ⟨⟨by omega,by omega,fun x hx=> ?_⟩,?_,?_,?_,?_,by omega,xZY _⟩
      ·rw [k8 x (by omega)];rcases hx with hx|hx
       ·rw [p4 x (by omega),k6 x (by omega),e2 x (by omega)];exact hfr.at_ x (.inl hx)
       ·rw [p5 x (by omega),hh6,Hp.new_t,xZZ,if_neg (by omega),e2 x (by omega)];exact hfr.at_ x (.inr (by omega))
      ·obtain ⟨z,z1,z2⟩:=bi.b1;exact ⟨z,z1,by rw [k8 _ (by omega),p4 _ (by omega),k6 _ (by omega),e2 _ (by omega)];exact z2⟩
      ·rw [hh8,xZT,xZZ,if_pos rfl]
      ·rw [k8 _ (by omega),p4 _ (by omega),k6 _ (by omega),e2 _ (by omega)];exact bi.b3
      ·rw [n8];exact p2.keep fun x hx _=>k8 x (by omega)
     refine reg fun K hn hp=> ?_;simp only [sy.1,rE,reduceIte,rL,g26,qE hk (show R<=9223372036854775807 by omega)];apply hn;clear hn hp K;refine ⟨⟨k+1,_,h8,_,rfl,by omega,(by simp [xZZ,g2]),(by simp [xZZ,g3]),(by simp [xZZ,g4]),(by simp [xZZ,g24]),(by simp [xZZ,g25]),(by simp [xZZ]),B8⟩,by simpa [xZZ,muA] using (by omega:R - (k+1)<R - k)⟩
   ·exact ⟨0,hd,_,rfl,(by omega),(by simp [xZZ,g2]),(by simp [xZZ,g3]),(by simp [xZZ,g4]),(by simp [xZZ]),(by simp [xZZ]),(by simp [xZZ,g24]),(by simp [xZZ,g25]),(by simp [xZZ,g26]),(by simp [xZZ]),(by simp [xZZ]),(by simp [xZZ]),nhd,fun x hx=>by rw [hhd,Hp.new_t,xZZ,if_neg hx],by rw [qCz];exact shd⟩
  ·refine qU (by simp only [sy.1,reduceIte,hk]) ?_;have hkR:k=R:=by omega
   rw [hkR] at bi;clear hkR;obtain ⟨M,hM⟩: ∃M,M=hc.n:=⟨_,rfl⟩;rw [<-hM] at bi;refine qG (A2 _ ?_);refine jP ?_;have hgl:=fun h':Hp=>(ha.m.gs).len (h':=h') qAs rfl;simp only [List.length_map] at hgl;have b3:=bi.b3;refine qA fun K hn hp=> ?_;simp only [sy.1,rE,reduceIte,rL,syw.1,g4,hgl,b3];apply hn;clear hn hp K;refine qC fun KG G1 G2 G3 G4 G5=> ?_;refine qI (sok xt) (fun st=> ∃(i:Nat) (hg:Hp) (F:Nat->Nat->Int×Int) (tm:T AV),st=⟨tm,152,hg,[]⟩/\i<=w.m.gs.length/\tm.get 2=some (.ptr (h.n+1) 0)/\tm.get 3=some (.ptr (h.n+2) 0)/\tm.get 4=some (.ptr (h.n+3) 0)/\tm.get 55=some (w.m.vg)/\tm.get 56=some (iv w.m.gs.length)/\tm.get 57=some (iv i)/\BInv h w C hg v M R F/\Bd F/\Th.gaugesP w.m.F0 ((w.m.gs.take i).map gg)=some F) (fun st=>w.m.gs.length - (match st.tm.get 57 with|some (.val (.int _ n))=>n.toNat|_=>0)) ?_ ?_
   ·rintro st ⟨i,hg,F,tm,rfl,hkG,g2,g3,g4,g55,g56,g57,bg,bd60,hga⟩;have muG:=g57;refine qA fun K hn hp=> ?_;simp only [sy.1,rL,qR,g56,g57];apply hn;clear hn hp K;by_cases hi:i<w.m.gs.length
    ·refine qX (by simp only [sy.1,reduceIte,hi]) ?_;have hag:=ha.fr bg.fr (xZY _);obtain ⟨x,hx⟩: ∃x,w.m.gs[i]? =some x:=⟨_,List.getElem?_eq_getElem hi⟩;obtain ⟨y1,y2,y3,y4⟩:=hm.gs x (List.mem_of_getElem? hx);have i1:=hag.m.gs.idx qAs rfl gD rfl (i:=i) (by simpa using hi) (k:= .i64);have i2:=hag.m.gs.loadA gD rfl rfl (i:=i) (c:=Kn.g4 x) (by rw [xZR,hx];rfl);obtain ⟨xr,xc,xs,xo⟩:=x;simp only [Kn.g4,List.map_cons,List.map_nil] at i2 y1 y2 y3 y4;obtain ⟨r',rfl⟩: ∃r':Nat,xr=r':=⟨xr.toNat,by omega⟩;obtain ⟨c',rfl⟩: ∃c':Nat,xc=c':=⟨xc.toNat,by omega⟩;simp only [xZM] at y1 y2;have hr':r'<R:=by omega
     have hc':c'<C:=by have:=hm.hC r' hr';omega
     refine zD ?_;refine qC fun KH H1 H2 H3 H4 H5=> ?_;have hle:=bg.le;have hhi:=bg.hi;refine qA fun K hn hp=> ?_;simp only [sw.1,rE,reduceIte,rL,rA,al48,g55,g57,i1,i2];apply hn;clear hn hp K;obtain ⟨h9,hh9,nh9,sh9,_,fbh9⟩:=nwS hg (.cells [iv 0,iv 0,iv 0,iv 0] 117) (.cells [iv (r':Int),iv (c':Int),iv xs,iv xo] 117);rw [<-hh9];have bg9:=bg.keep fbh9 hhi;have b2:=bg9.b2;have w1:IntKind.i64.wrap (xs - xo)=xs - xo:=qF _ (by omega) (by omega);have w2:IntKind.i64.wrap (xs+xo)=xs+xo:=qF _ (by omega) (by omega);refine reg fun K hn hp=> ?_;simp only [sy.1,rE,reduceIte,rL,rA,g3,sh9,b2,w1,w2,bd43];refine cAS (FnA.mono (qCI xt h9 w ha.ones (h.n+4) M v R C F bg9.sg hle bg9.hi r' c' hr' hc' _ _) fun res h' hres=> ?_);obtain ⟨fr,hres⟩:=hres;have esnoc:=qED (g:=gg ((r':Int),(c':Int),xs,xo)) hga;rw [<-qDA gg hx] at esnoc;have e5:(gg ((r':Int),(c':Int),xs,xo)).span=(xs - xo,xs+xo):=rfl;have e6:(gg ((r':Int),(c':Int),xs,xo)).r=r':=xZM _;have e7:(gg ((r':Int),(c':Int),xs,xo)).c=c':=xZM _;rw [e5,e6,e7] at esnoc;rcases hres with ⟨x,rfl,hnar,sg9⟩|⟨hnar,rfl⟩
     ·simp only [sy.1,rL];refine hn _ _ (H1 _ ?_);clear hn hp K;rw [qFu hnar] at esnoc;refine reg fun K hn hp=> ?_;simp only [sy.1,rE,reduceIte,rL,g57,qE hi ha.m.lg];apply hn;clear hn hp K;refine ⟨⟨i+1,h',_,_,rfl,by omega,(by simp [xZZ,g2]),(by simp [xZZ,g3]),(by simp [xZZ,g4]),(by simp [xZZ,g55]),(by simp [xZZ,g56]),(by simp [xZZ]),bg9.frR fr sg9,bd60.nar hnar,esnoc⟩,by simpa [xZZ,muG] using (by omega:w.m.gs.length - (i+1)<w.m.gs.length - i)⟩
     ·simp only [sy.1];refine hp _ _ _ (H5 _ _ (G5 _ _ ⟨h',rfl,?_,?_⟩))
      ·exact bg9.fr.trans (fr.fr (by omega)) (by omega)
      ·rw [qFv hnar] at esnoc;have:Th.boundP w.m.T w.m.J (C - 1) w.m.F0 (w.m.gs.map gg) R=none:=by
        simp only [Th.boundP,qEC esnoc];rfl
       rw [this];exact ⟨_,_,rfl⟩
    ·refine qU (by simp only [sy.1,reduceIte,hi]) ?_;have hiN:i=w.m.gs.length:=by omega
     rw [hiN,List.take_length] at hga;clear hiN;refine qG (G2 _ ?_);refine jP ?_;have b3:=bg.b3;refine qA fun K hn hp=> ?_;simp only [sy.1,rE,reduceIte,rL,syw.1,hlen,g4,b3];apply hn;clear hn hp K;have hT:=hm.T;refine qC fun KI I1 I2 I3 I4 I5=> ?_;refine qI (sok xt) (fun st=> ∃(r:Nat) (hr:Hp) (F':Nat->Nat->Int×Int) (tm:T AV),st=⟨tm,152,hr,[]⟩/\r<=R/\tm.get 2=some (.ptr (h.n+1) 0)/\tm.get 3=some (.ptr (h.n+2) 0)/\tm.get 4=some (.ptr (h.n+3) 0)/\tm.get 80=some (w.m.vc)/\tm.get 81=some (iv R)/\tm.get 82=some (iv r)/\BInv h w C hr v M R F'/\Bd F'/\Th.rowsP w.m.T w.m.J (C - 1) F r=some F') (fun st=>R - (match st.tm.get 82 with|some (.val (.int _ n))=>n.toNat|_=>0)) ?_ ?_
     ·rintro st ⟨r,hr,F',tm,rfl,hkI,g2,g3,g4,g80,g81,g82,br,br60,hrp⟩;have muI:=g82;refine qA fun K hn hp=> ?_;simp only [sy.1,rL,qR,g81,g82];apply hn;clear hn hp K;by_cases hr':r<R
      ·refine qX (by simp only [sy.1,reduceIte,hr']) ?_;obtain ⟨rv,i1,i2,i3,i4⟩:=ha.m.rowF (i:=r) (by omega);have i2:=i2 hr br.fr;have hCr:=hm.hC r hr';rw [hCr] at i4;have hhi:=br.hi;have stop:Th.rowP w.m.T w.m.J (C - 1) F' r=none->Th.boundP w.m.T w.m.J (C - 1) w.m.F0 (w.m.gs.map gg) R=none:=fun hq=>by
        have:Th.rowsP w.m.T w.m.J (C - 1) F (r+1)=none:=by simp only [Th.rowsP,hrp,xZX,hq]
        simp only [Th.boundP,hga,xZX];exact qCy (show r+1<=R by omega) this
       have crv:=i3.cells;have orv:=i3.one;refine zD ?_;refine qC fun KJ J1 J2 J3 J4 J5=> ?_;refine qA fun K hn hp=> ?_;simp only [sw.1,rE,reduceIte,rL,g80,g82,i1,i2,crv,orv];apply hn;clear hn hp K;obtain ⟨ha1,hha1,nha1,sha1,_,fbha1⟩:=nwS hr (.cells [.val (.slice none 0 0)] 114) (.cells [rv] 114);rw [<-hha1];refine qA fun K hn hp=> ?_;simp only [sy.1,rE,reduceIte,rL];apply hn;clear hn hp K;have wC:IntKind.i64.wrap ((C:Int) - 1)=((C - 1:Nat):Int):=by rw [qF _ (by omega) (by omega)];omega
       refine qB fun K hn hp=> ?_;simp only [sy.1,rE,reduceIte,rL,syw.1,i4,sha1,wC];apply hn;clear hn hp K;have ba:=br.keep fbha1 hhi;refine qC fun KL L1 L2 L3 L4 L5=> ?_;refine qI (sok xt) (fun st=> ∃(c:Nat) (hl:Hp) (f:Nat->Int×Int) (tm:T AV),st=⟨tm,152,hl,[]⟩/\c<=(C - 1)/\tm.get 2=some (.ptr (h.n+1) 0)/\tm.get 3=some (.ptr (h.n+2) 0)/\tm.get 4=some (.ptr (h.n+3) 0)/\tm.get 12=some (iv r)/\tm.get 13=some (.ptr hr.n 0)/\tm.get 14=some (.fn (.func 144) [] [.ptr hr.n 0])/\tm.get 80=some (w.m.vc)/\tm.get 81=some (iv R)/\tm.get 82=some (iv r)/\tm.get 90=some (iv ((C - 1:Nat):Int))/\tm.get 91=some (iv c)/\BInv h w C hl v M R (Th.putRow F' r f)/\Bd (Th.putRow F' r f)/\hr.n<hl.n/\hl.t.get hr.n=some (.cells [rv] 114)/\Th.sweepR w.m.T (w.m.J r) (F' r) c=some f) (fun st=>(C - 1) - (match st.tm.get 91 with|some (.val (.int _ n))=>n.toNat|_=>0)) ?_ ?_
       ·rintro st ⟨c,hl,f,tm,rfl,hkL,g2,g3,g4,g12,g13,g14,g80,g81,g82,g90,g91,bl,bl60,e1,e2,hsw⟩;have muL:=g91;refine qA fun K hn hp=> ?_;simp only [sy.1,rL,qR,g90,g91];apply hn;clear hn hp K;by_cases hc':c<C - 1
        ·refine qV (by simp only [sy.1,reduceIte,hc']) ?_;refine qC fun KN N1 N2 N3 N4 N5=> ?_;refine qA fun K hn hp=> ?_;simp only [sy.1,rE,reduceIte,rL,g91];apply hn;clear hn hp K;refine qA fun K hn hp=> ?_;simp only [sy.1,rE,reduceIte,rL,g14];refine xI (sok xt) (qFx xt hl hr.n rv (w.m.cells.getD r []) (i3.fr bl.fr (xZY _)) e2 c (by omega) (by omega) fun n1 hn1=> ?_);have hJ:(!decide ((w.m.cells.getD r []).getD c 0=1) && !decide ((w.m.cells.getD r []).getD (c+1) 0=1))=w.m.J r c:=rfl;rw [hJ];simp only [sy.1,rL];apply hn;clear hn hp K;obtain ⟨h11,hh11⟩: ∃h11,h11=hl.up n1:=⟨_,rfl⟩;have n11:hl.n<h11.n:=by rw [hh11];exact hn1
         have f11:Fr hl.n hl h11:=by rw [hh11];exact (Fr.refl (xZY _)).up (Nat.le_of_lt hn1)
         rw [<-hh11];have bl11:=bl.keep f11 bl.hi;have e2':h11.t.get hr.n=some (.cells [rv] 114):=by rw [f11.at_ _ (.inl e1)];exact e2
         have hhi11:=bl11.hi;have sstep:=qE9 hsw;cases qJ:w.m.J r c
         ·refine wcF (by simp only [sy.1,rE,reduceIte]) ?_;refine qN (N1 _ ?_);simp only [Th.stepR,qJ,xZG,if_false] at sstep;refine reg fun K hn hp=> ?_;simp only [sy.1,rE,reduceIte,rL,g91,qE hc' (show C - 1<=9223372036854775807 by omega)];apply hn;clear hn hp K;refine ⟨⟨c+1,h11,f,_,rfl,by omega,(by simp [xZZ,g2]),(by simp [xZZ,g3]),(by simp [xZZ,g4]),(by simp [xZZ,g12]),(by simp [xZZ,g13]),(by simp [xZZ,g14]),(by simp [xZZ,g80]),(by simp [xZZ,g81]),(by simp [xZZ,g82]),(by simp [xZZ,g90]),(by simp [xZZ]),bl11,bl60,by omega,e2',sstep⟩,by simpa [xZZ,muL] using (by omega:(C - 1) - (c+1)<(C - 1) - c)⟩
         ·refine wcT (by simp only [sy.1,rE,reduceIte]) ?_;simp only [Th.stepR,qJ,if_true] at sstep;obtain ⟨B,b,rws,z1,z2,z3,z4,z5,z6,z7,z8,z9,_⟩:=bl11.sg.at_ hr';rw [Th.putRow_at] at z4;have z10:=qBe (C:=C) (b:=b) (show c<C by omega);have z11:=gP (f:=f) (show c<C by omega);have b2:=bl11.b2;refine qA fun K hn hp=> ?_;simp only [sw.1,rE,reduceIte,rL,rA,g3,g12,z1,z2,z3,z4,z10,z11,b2];apply hn;clear hn hp K;obtain ⟨h12,hh12,nh12,sh12,kh12,fbh12⟩:=nwS h11 (.cells [iv 0,iv 0] 58) (.cells [iv (f c).1,iv (f c).2] 58);rw [<-hh12];have b12:=bl11.keep fbh12 hhi11;have b2':=b12.b2;have b3':=b12.b3;have f60:=bl60 r c;rw [Th.putRow_at] at f60;have w3:=qE (k:=c) (n:=C) (by omega) (by omega);have w4:IntKind.i64.wrap ((f c).1 - w.m.T)=(f c).1 - w.m.T:=qF _ (by omega) (by omega);refine reg fun K hn hp=> ?_;simp only [sy.1,rE,reduceIte,rL,rA,g3,g4,g12,sh12,b2',b3',w3,w4,bd43];refine cAS (FnA.mono (qCI xt h12 w ha.ones (h.n+4) M v R C _ b12.sg b12.le b12.hi r (c+1) hr' (by omega) _ _) fun res h' hres=> ?_);obtain ⟨fr,hres⟩:=hres;rw [Th.putRow_at,vR] at hres;rcases hres with ⟨x,rfl,hnar,sg9⟩|⟨hnar,rfl⟩
          ·simp only [sy.1,rL];refine hn _ _ (N1 _ ?_);clear hn hp K;have e3:h'.t.get hr.n=some (.cells [rv] 114):=by rw [fr.at_ _ (by omega),kh12 _ (by omega)];exact e2'
           have hb60:=bl60.nar (r:=r) (c:=c+1) (s:=((f c).1 - w.m.T,(f c).2)) (by rw [Th.putRow_at];exact hnar);rw [Th.putRow_at,vR] at hb60;have hle':=fr.le;refine reg fun K hn hp=> ?_;simp only [sy.1,rE,reduceIte,rL,g91,qE hc' (show C - 1<=9223372036854775807 by omega)];apply hn;clear hn hp K;refine ⟨⟨c+1,h',_,_,rfl,by omega,(by simp [xZZ,g2]),(by simp [xZZ,g3]),(by simp [xZZ,g4]),(by simp [xZZ,g12]),(by simp [xZZ,g13]),(by simp [xZZ,g14]),(by simp [xZZ,g80]),(by simp [xZZ,g81]),(by simp [xZZ,g82]),(by simp [xZZ,g90]),(by simp [xZZ]),b12.frR fr sg9,hb60,by omega,e3,by rw [sstep];exact qCH hnar⟩,by simpa [xZZ,muL] using (by omega:(C - 1) - (c+1)<(C - 1) - c)⟩
          ·simp only [sy.1];refine hp _ _ _ (N5 _ _ (L5 _ _ (J5 _ _ (I5 _ _ ⟨h',rfl,?_,?_⟩))))
           ·exact b12.fr.trans (fr.fr (by have:=b12.le;omega)) (by omega)
           ·have hno:Th.stepR w.m.T (w.m.J r) f c=none:=by
             simp only [Th.stepR,qJ,if_true];exact qAh hnar
            have:Th.rowP w.m.T w.m.J (C - 1) F' r=none:=by
             simp only [Th.rowP,qBH (show c+1<=C - 1 by omega) (by rw [sstep];exact qAh hnar)];rfl
            rw [stop this];exact ⟨_,_,rfl⟩
        ·refine qU (by simp only [sy.1,reduceIte,hc']) ?_;have hcC:c=C - 1:=by omega
         rw [hcC] at hsw;clear hcC;refine qG (L2 _ ?_);have wC2:IntKind.i64.wrap ((C:Int) - 2)=(C:Int) - 2:=qF _ (by omega) (by omega);refine qA fun K hn hp=> ?_;simp only [sy.1,rE,reduceIte,rL,syw.1,i4,g13,e2,wC2];apply hn;clear hn hp K;refine qY fun KP P1 P2 P3 P4 P5=> ?_;refine qI (sok xt) (fun st=> ∃(k:Nat) (hn:Hp) (g:Nat->Int×Int) (tm:T AV),st=⟨tm,152,hn,[]⟩/\k<=C - 1/\tm.get 2=some (.ptr (h.n+1) 0)/\tm.get 3=some (.ptr (h.n+2) 0)/\tm.get 4=some (.ptr (h.n+3) 0)/\tm.get 12=some (iv r)/\tm.get 13=some (.ptr hr.n 0)/\tm.get 14=some (.fn (.func 144) [] [.ptr hr.n 0])/\tm.get 17=some (iv ((C:Int) - 2 - k))/\tm.get 80=some w.m.vc/\tm.get 81=some (iv R)/\tm.get 82=some (iv r)/\BInv h w C hn v M R (Th.putRow F' r g)/\Bd (Th.putRow F' r g)/\hr.n<hn.n/\hn.t.get hr.n=some (.cells [rv] 114)/\Th.sweepL w.m.T (w.m.J r) f (C - 1)=Th.sweepL w.m.T (w.m.J r) g (C - 1 - k)) (fun st=>match st.tm.get 17 with|some (.val (.int _ x))=>(x+1).toNat|_=>0) ?_ ?_
         ·rintro st ⟨k,hn,g,tm,rfl,hkC,g2,g3,g4,g12,g13,g14,g17,g80,g81,g82,bn,bn60,p1,p2,hsl⟩;have mu17:=g17;refine jP ?_;have hck:decide ((0:Int)<=(C:Int) - 2 - k)=decide (k<C - 1):=by
           by_cases q:k<C - 1
           ·rw [decide_eq_true q];exact decide_eq_true (by omega)
           ·rw [decide_eq_false q];exact decide_eq_false (by omega)
          refine qA fun K hn hp=> ?_;simp only [sy.1,reduceIte,rL,g17,hck];apply hn;clear hn hp K;by_cases hk:k<C - 1
          ·refine qX (by simp only [sy.1,rE,reduceIte,hk]) ?_;obtain ⟨c,hcd⟩: ∃c,c=C - 2 - k:=⟨_,rfl⟩;have hcc:(C:Int) - 2 - k=(c:Int):=by omega
           rw [hcc] at g17 mu17;have hjc:C - 1 - k=c+1:=by omega
           have hjc':C - 1 - (k+1)=c:=by omega
           refine zD ?_;refine qC fun KN N1 N2 N3 N4 N5=> ?_;refine qA fun K hn' hp=> ?_;simp only [sy.1,rE,reduceIte,rL,g14,g17];refine xI (sok xt) (qFx xt hn hr.n rv (w.m.cells.getD r []) (i3.fr bn.fr (xZY _)) p2 c (by omega) (by omega) fun n1 hn1=> ?_);have hJ:(!decide ((w.m.cells.getD r []).getD c 0=1) && !decide ((w.m.cells.getD r []).getD (c+1) 0=1))=w.m.J r c:=rfl;rw [hJ];simp only [sy.1,rL];refine hn' _ _ ?_;clear hn' hp K;obtain ⟨h11,hh11⟩: ∃h11,h11=hn.up n1:=⟨_,rfl⟩;have n11:hn.n<h11.n:=by rw [hh11];exact hn1
           have f11:Fr hn.n hn h11:=by rw [hh11];exact (Fr.refl (xZY _)).up (Nat.le_of_lt hn1)
           rw [<-hh11];have bl11:=bn.keep f11 bn.hi;have e2':h11.t.get hr.n=some (.cells [rv] 114):=by rw [f11.at_ _ (.inl p1)];exact p2
           have hhi11:=bl11.hi;have wk:IntKind.i64.wrap ((c:Int) - 1)=(c:Int) - 1:=qF _ (by omega) (by omega);have again: ∀(tm':T AV) (h':Hp) (g':Nat->Int×Int),tm'.get 2=some (.ptr (h.n+1) 0)->tm'.get 3=some (.ptr (h.n+2) 0)->tm'.get 4=some (.ptr (h.n+3) 0)->tm'.get 12=some (iv r)->tm'.get 13=some (.ptr hr.n 0)->tm'.get 14=some (.fn (.func 144) [] [.ptr hr.n 0])->tm'.get 17=some (iv c)->tm'.get 80=some w.m.vc->tm'.get 81=some (iv R)->tm'.get 82=some (iv r)->BInv h w C h' v M R (Th.putRow F' r g')->Bd (Th.putRow F' r g')->hr.n<h'.n->h'.t.get hr.n=some (.cells [rv] 114)->Th.stepL w.m.T (w.m.J r) g c=some g'->KN .normal ⟨tm',152,h',[]⟩:=by
            intro tm' h' g' g2 g3 g4 g12 g13 g14 g17 g80 g81 g82 b1 b2 b3 b4 b5;refine N1 _ ?_;refine reg fun K hn hp=> ?_;simp only [sy.1,rE,reduceIte,rL,g17,wk];apply hn;clear hn hp K;refine ⟨⟨k+1,h',g',_,rfl,by omega,(by simp [xZZ,g2]),(by simp [xZZ,g3]),(by simp [xZZ,g4]),(by simp [xZZ,g12]),(by simp [xZZ,g13]),(by simp [xZZ,g14]),?_,(by simp [xZZ,g80]),(by simp [xZZ,g81]),(by simp [xZZ,g82]),b1,b2,b3,b4,?_⟩,?_⟩
            ·have:(c:Int) - 1=(C:Int) - 2 - ((k+1:Nat):Int):=by omega
             rw [<-this];simp [xZZ]
            ·rw [hsl,hjc,hjc',qBI,b5];rfl
            ·simp only [xZZ,if_true,mu17];show ((c:Int) - 1+1).toNat<((c:Int)+1).toNat;omega
           have stopL:Th.stepL w.m.T (w.m.J r) g c=none->Th.rowP w.m.T w.m.J (C - 1) F' r=none:=fun hq=>by
            simp only [Th.rowP,hsw,xZX];rw [hsl,hjc,qBI,hq];rfl
           cases qJ:w.m.J r c
           ·refine wcF (by simp only [sy.1,rE,reduceIte]) ?_;refine qN (again _ h11 g ?_ ?_ ?_ ?_ ?_ ?_ ?_ ?_ ?_ ?_ bl11 bn60 (by omega) e2' (by simp only [Th.stepL,qJ,xZG,if_false]));all_goals simp [xZZ,g2,g3,g4,g12,g13,g14,g17,g80,g81,g82]
           ·refine wcT (by simp only [sy.1,rE,reduceIte]) ?_;have sstep:Th.stepL w.m.T (w.m.J r) g c=Th.narrow g c (Th.toL w.m.T (g (c+1))):=by simp only [Th.stepL,qJ,if_true]
            obtain ⟨B,b,rws,z1,z2,z3,z4,z5,z6,z7,z8,z9,_⟩:=bl11.sg.at_ hr';rw [Th.putRow_at] at z4;have w3:=qE (k:=c) (n:=C) (by omega) (by omega);have z10:=qBe (C:=C) (b:=b) (show c+1<C by omega);have z11:=gP (f:=g) (show c+1<C by omega);have b2:=bl11.b2;refine qA fun K hn hp=> ?_;simp only [sw.1,rE,reduceIte,rL,rA,g3,g12,g17,z1,z2,z3,z4,z10,z11,w3,b2];apply hn;clear hn hp K;obtain ⟨h12,hh12,nh12,sh12,kh12,fbh12⟩:=nwS h11 (.cells [iv 0,iv 0] 58) (.cells [iv (g (c+1)).1,iv (g (c+1)).2] 58);rw [<-hh12];have b12:=bl11.keep fbh12 hhi11;have b2':=b12.b2;have b3':=b12.b3;have f60:=bn60 r (c+1);rw [Th.putRow_at] at f60;have w4:IntKind.i64.wrap ((g (c+1)).2+w.m.T)=(g (c+1)).2+w.m.T:=qF _ (by omega) (by omega);refine reg fun K hn' hp=> ?_;simp only [sy.1,rE,reduceIte,rL,rA,g3,g4,g12,g17,sh12,b2',b3',w4,bd43];refine cAS (FnA.mono (qCI xt h12 w ha.ones (h.n+4) M v R C _ b12.sg b12.le b12.hi r c hr' (by omega) _ _) fun res h' hres=> ?_);obtain ⟨fr,hres⟩:=hres;rw [Th.putRow_at,vR] at hres;rcases hres with ⟨x,rfl,hnar,sg9⟩|⟨hnar,rfl⟩
            ·simp only [sy.1,rL];refine hn' _ _ ?_;clear hn' hp K;have e3:h'.t.get hr.n=some (.cells [rv] 114):=by rw [fr.at_ _ (by omega),kh12 _ (by omega)];exact e2'
             have hb60:=bn60.nar (r:=r) (c:=c) (s:=((g (c+1)).1,(g (c+1)).2+w.m.T)) (by rw [Th.putRow_at];exact hnar);rw [Th.putRow_at,vR] at hb60;have hle':=fr.le;refine again _ h' _ ?_ ?_ ?_ ?_ ?_ ?_ ?_ ?_ ?_ ?_ (b12.frR fr sg9) hb60 (by omega) e3 (by rw [sstep];exact qCH hnar);all_goals simp [xZZ,g2,g3,g4,g12,g13,g14,g17,g80,g81,g82]
            ·simp only [sy.1];refine hp _ _ _ (N5 _ _ (P5 _ _ (J5 _ _ (I5 _ _ ⟨h',rfl,?_,?_⟩))))
             ·exact b12.fr.trans (fr.fr (by have:=b12.le;omega)) (by omega)
             ·rw [stop (stopL (by rw [sstep];exact qAh hnar))];exact ⟨_,_,rfl⟩
          ·refine qU (by simp only [sy.1,rE,reduceIte,hk]) ?_;have hkC':C - 1 - k=0:=by omega
           rw [hkC'] at hsl;refine qG (P2 _ (J1 _ ?_));have hrow:Th.rowsP w.m.T w.m.J (C - 1) F (r+1)=some (Th.putRow F' r g):=by
            simp only [Th.rowsP,hrp,xZX,Th.rowP,hsw,hsl];rfl
           refine reg fun K hn hp=> ?_;simp only [sy.1,rE,reduceIte,rL,g82,qE hr' (show R<=9223372036854775807 by omega)];apply hn;clear hn hp K;refine ⟨⟨r+1,hn,_,_,rfl,by omega,(by simp [xZZ,g2]),(by simp [xZZ,g3]),(by simp [xZZ,g4]),(by simp [xZZ,g80]),(by simp [xZZ,g81]),(by simp [xZZ]),bn,bn60,hrow⟩,by simpa [xZZ,muI] using (by omega:R - (r+1)<R - r)⟩
         ·refine ⟨0,hl,f,_,rfl,Nat.zero_le _,?_,?_,?_,?_,?_,?_,?_,?_,?_,?_,bl,bl60,e1,e2,rfl⟩;all_goals simp [xZZ,g2,g3,g4,g12,g13,g14,g80,g81,g82]
       ·exact ⟨0,ha1,F' r,_,rfl,(by omega),(by simp [xZZ,g2]),(by simp [xZZ,g3]),(by simp [xZZ,g4]),(by simp [xZZ]),(by simp [xZZ]),(by simp [xZZ]),(by simp [xZZ,g80]),(by simp [xZZ,g81]),(by simp [xZZ,g82]),(by simp [xZZ]),(by simp [xZZ]),by rw [gF];exact ba,by rw [gF];exact br60,by omega,sha1,rfl⟩
      ·refine qU (by simp only [sy.1,reduceIte,hr']) ?_;have hrR:r=R:=by omega
       rw [hrR] at hrp;clear hrR;refine qG (I2 _ ?_);have hle:=br.le;have hhi:=br.hi;have b2:=br.b2;obtain ⟨z,zl,b1⟩:=br.b1;have onev:=br.sg.one;have px:jG 9 hr (h.n+1) 0 (.agg (w.bc v)) (some (.cells z 85))=some (hr.set (h.n+1) (.cells (w.bc v) 85)):=by
        rw [kF,if_pos ⟨rfl,by omega,by simp [yC,o1,o2,o3,o4,o5,onev,qAC]⟩];have:z.drop (0+9)=[]:=List.drop_eq_nil_of_le (by omega);rw [this];rfl
       refine qA fun K hn hp=> ?_;simp only [sy.1,rE,reduceIte,rL,rA,g2,g3,b2,b1,px];refine hn _ _ (qD (end_c (v:= .agg (w.bc v)) res143 ?_ ⟨?_,?_⟩))
       ·simp only [sy.1,rE,reduceIte,rA,g2]
       ·exact br.fr.set (by omega) (by omega) _
       ·have:Th.boundP w.m.T w.m.J (C - 1) w.m.F0 (w.m.gs.map gg) R=some F':=by
         simp only [Th.boundP,hga,xZX,hrp]
        rw [this];exact ⟨v,M,rfl,br.sg.keep fun k hk _=>by rw [xZT,xZZ,if_neg (by omega)],hle,hhi⟩
     ·exact ⟨0,hg,F,_,rfl,(by omega),(by simp [xZZ,g2]),(by simp [xZZ,g3]),(by simp [xZZ,g4]),(by simp [xZZ]),(by simp [xZZ]),(by simp [xZZ]),bg,bd60,rfl⟩
   ·exact ⟨0,hc,w.m.F0,_,rfl,(by omega),(by simp [xZZ,g2]),(by simp [xZZ,g3]),(by simp [xZZ,g4]),(by simp [xZZ]),(by simp [xZZ]),(by simp [xZZ]),bi,Bd.F0 _,rfl⟩
 ·exact ⟨0,_,h4,_,rfl,(by omega),(by simp [xZZ]),(by simp [xZZ]),(by simp [xZZ]),(by simp [xZZ]),(by simp [xZZ]),(by simp [xZZ]),B0⟩
end Go.Proofs.Kn
end
