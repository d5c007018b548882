/- MvG3, MvG4, MvG5, MvG6: texts in a row, joined by a program. -/
import Derived.Test.YtnmfblokfponlaaGreatDoorQH
import Derived.Test.YtnmfblokfponlaaGreatDoorQT
set_option linter.all false
open Nat renaming reduceEqDiff → rE, reduceLeDiff → rD, reduceAdd → rA, reduceMul → rM, reduceLT → rL
open List renaming getElem?_append_left → xZZ, getElem?_range → xZY, getElem?_append_right → xZX, getElem?_set → xZW, getElem?_eq_none → xZT, map_congr_left → xZS, getElem?_map → xZQ, ext_getElem? → xZP, length_set → xZO, mem_range → xZN, getElem?_take → xZK, getElem?_drop → xZJ
open Go.Ev.T renaming get_put → xZV
open Nat renaming le_refl → xZU, le_trans → xZL, lt_of_lt_of_le → xZI, blt_eq → xZH
open Option renaming bind_some → xZR
open Go.Ev.Hp renaming set_t → xZM
noncomputable section
namespace Go.Proofs.Kn
open Go Go.Ev
def jY (f:Nat->Int×Int) (C:Nat):List AV:=(List.range (C*2)).map fun k=>if k % 2=0 then iv (f (k / 2)).1 else iv (f (k / 2)).2
theorem zS (f:Nat->Int×Int) (C:Nat):(jY f C).length=C*2:=by simp [jY]
theorem xP (f:Nat->Int×Int) {C c:Nat} (h:c<C):(jY f C)[c*2]? =some (iv (f c).1):=by
 simp only [jY,xZQ];rw [xZY (by omega)];simp
theorem pD (f:Nat->Int×Int) {C c:Nat} (h:c<C):(jY f C)[c*2+1]? =some (iv (f c).2):=by
 simp only [jY,xZQ];rw [xZY (by omega)];have e1:(c*2+1) % 2=1:=by omega
 have e2:(c*2+1) / 2=c:=by omega
 simp [e1,e2]
theorem flatR_two (f:Nat->Int×Int) {C c:Nat} (h:c<C):((jY f C).drop (c*2)).take 2=[iv (f c).1,iv (f c).2]:=by
 have hl:=zS f C;apply xZP
 intro k;rw [xZK,xZJ];by_cases h0:k=0
 ·subst h0;rw [if_pos (by omega),Nat.add_zero,xP f h];rfl
 by_cases h1:k=1
 ·subst h1;rw [if_pos (by omega),pD f h];rfl
 rw [if_neg (by omega)];exact (xZT (by simp;omega)).symm
theorem yI (f:Nat->Int×Int) {C c:Nat} (h:c<C) (x y:Int):((jY f C).set (c*2) (iv x)).set (c*2+1) (iv y)=jY (Th.put f c (x,y)) C:=by
 apply xZP
 intro k;rw [xZW,xZW];simp only [xZO,zS];by_cases h1:c*2+1=k
 ·subst h1;rw [if_pos rfl,if_pos (by omega),pD _ h,Th.put_at]
 ·rw [if_neg h1];by_cases h0:c*2=k
  ·subst h0;rw [if_pos rfl,if_pos (by omega),xP _ h,Th.put_at]
  ·rw [if_neg h0];by_cases hk:k<C*2
   ·simp only [jY,xZQ];rw [xZY hk];simp only [Option.map_some];rw [Th.put_ne _ _ (by omega)]
   ·rw [xZT (by rw [zS];omega),xZT (by rw [zS];omega)]
theorem zX {h:Hp} {b off:Nat} {v:AV} {cs:List AV} {e:TypeId} (hv:cellsOf v=[v]) (ho:Go.Ev.one v=true) (hl:off<cs.length):jF 1 h b off v (some (.cells cs e))=some (h.set b (.cells (cs.set off v) e)):=by
 rw [vY,hv,if_pos ⟨rfl,by omega,by simp [ho]⟩,List.set_eq_take_append_cons_drop,if_pos hl];simp
theorem xD {h:Hp} {b off:Nat} {x y:AV} {cs:List AV} {e:TypeId} (hx:Go.Ev.one x=true) (hy:Go.Ev.one y=true) (hl:off+1<cs.length):jF 2 h b off (.agg [x,y]) (some (.cells cs e))=some (h.set b (.cells ((cs.set off x).set (off+1) y) e)):=by
 rw [vY,if_pos ⟨rfl,by omega,by simp [kO,hx,hy]⟩]
 congr 3
 rw [kO];apply xZP
 intro k;rw [xZW,xZW];simp only [xZO];have ht:(cs.take off).length=off:=by rw [List.length_take];omega
 by_cases h1:off+1=k
 ·subst h1;rw [if_pos rfl,if_pos hl,xZZ (by simp [ht]),xZX (by omega),ht];simp
 ·rw [if_neg h1];by_cases h0:off=k
  ·subst h0;rw [if_pos rfl,if_pos (by omega),xZZ (by simp [ht]),xZX (by omega),ht];simp
  ·rw [if_neg h0];by_cases hk:k<off
   ·rw [xZZ (by simp [ht];omega),xZZ (by omega),xZK,if_pos hk]
   ·rw [xZX (by simp [ht];omega),xZJ]
    congr 1
    simp [ht];omega
structure FrR (N M:Nat) (h h':Hp):Prop where
 le:h.n<=h'.n
 at_: ∀k,(k<N\/(M<=k/\k<h.n)\/h'.n<=k)->h'.t.get k=h.t.get k
theorem FrR.refl {N M:Nat} (h:Hp):FrR N M h h:=⟨xZU _,fun _ _=>rfl⟩
theorem FrR.trans {N M:Nat} {h h1 h2:Hp} (a:FrR N M h h1) (b:FrR N M h1 h2):FrR N M h h2:=by
 refine ⟨xZL a.le b.le,fun k hk=> ?_⟩;have:=a.le;have:=b.le;rw [b.at_ k (by omega),a.at_ k (by omega)]
theorem FrR.new {N M:Nat} {h h':Hp} (a:FrR N M h h') (hN:N<=h.n) (o:AO):FrR N M h (h'.new o):=by
 have:=a.le;refine ⟨by simp [Hp.new_n];omega,fun k hk=> ?_⟩;simp only [Hp.new_n] at hk;rw [Hp.new_t,xZV,if_neg (by omega)];exact a.at_ k (by omega)
theorem FrR.set {N M:Nat} {h h':Hp} (a:FrR N M h h') {b:Nat} (h1:N<=b) (h2:b<M) (h3:M<=h'.n) (o:AO):FrR N M h (h'.set b o):=by
 refine ⟨a.le,fun k hk=> ?_⟩;simp only [Hp.set_n] at hk;rw [xZM,xZV,if_neg (by omega)];exact a.at_ k hk
theorem FrR.up {N M:Nat} {h h':Hp} (a:FrR N M h h') {n:Nat} (hn:h'.n<=n):FrR N M h (h'.up n):=⟨xZL a.le hn,fun k hk=>a.at_ k (by simp only [Hp.up_n] at hk;omega)⟩
theorem FrR.fr {N M:Nat} {h h':Hp} (a:FrR N M h h') (hN:N<=h.n):Fr N h h':=⟨xZL hN a.le,a.le,fun k hk=>a.at_ k (by omega)⟩
theorem FrR.of {N M n:Nat} {h h':Hp} (a:Fr n h h') (hN:N<=h.n) (hn:h.n<=n):FrR N M h h':=⟨a.le,fun k hk=>a.at_ k (by omega)⟩
def SG (h:Hp) (N M:Nat) (v:AV) (R C:Nat) (F:Nat->Nat->Int×Int):Prop:=
 ∃bs:Nat->Nat,(∀r,r<R->N<=bs r/\bs r<M/\h.t.get (bs r)=some (.cells (jY (F r) C) 43))/\(∀r s,r<R->s<R->bs r=bs s->r=s)/\
  ((R=0/\v= .val (.slice none 0 0))\/ ∃B,v= .sl B 0 R 1/\N<=B/\B<M/\(∀r,r<R->bs r≠B)/\h.t.get B=some (.cells ((List.range R).map fun r=> .sl (bs r) 0 C 2) 55))
section
variable {h:Hp} {N M R C:Nat} {v:AV} {F:Nat->Nat->Int×Int}
theorem SG.keep {h':Hp} (s:SG h N M v R C F) (hk: ∀k,N<=k->k<M->h'.t.get k=h.t.get k):SG h' N M v R C F:=by
 obtain ⟨bs,h1,h2,h3⟩:=s;refine ⟨bs,fun r hr=>⟨(h1 r hr).1,(h1 r hr).2.1,by rw [hk _ (h1 r hr).1 (h1 r hr).2.1];exact (h1 r hr).2.2⟩,h2,?_⟩;rcases h3 with h3|⟨B,q1,q2,q3,q4,q5⟩
 ·exact .inl h3
 ·exact .inr ⟨B,q1,q2,q3,q4,by rw [hk _ q2 q3];exact q5⟩
theorem SG.new (s:SG h N M v R C F) (hM:M<=h.n) (o:AO):SG (h.new o) N M v R C F:=s.keep fun k _ hk=>jA _ _ (by omega)
theorem SG.up (s:SG h N M v R C F) (n:Nat):SG (h.up n) N M v R C F:=s.keep fun _ _ _=>rfl
theorem SG.fr {h':Hp} {n:Nat} (s:SG h N M v R C F) (f:Fr n h h') (hn:M<=n):SG h' N M v R C F:=s.keep fun k _ hk=>f.at_ k (.inl (by omega))
theorem SG.grow (s:SG h N M v R C F) {M':Nat} (hM:M<=M'):SG h N M' v R C F:=by
 obtain ⟨bs,h1,h2,h3⟩:=s;refine ⟨bs,fun r hr=>⟨(h1 r hr).1,xZI (h1 r hr).2.1 hM,(h1 r hr).2.2⟩,h2,?_⟩;rcases h3 with h3|⟨B,q1,q2,q3,q4,q5⟩
 ·exact .inl h3
 ·exact .inr ⟨B,q1,q2,xZI q3 hM,q4,q5⟩
theorem SG.nil (h:Hp) (N M C:Nat) (F:Nat->Nat->Int×Int):SG h N M (.val (.slice none 0 0)) 0 C F:=⟨fun _=>0,fun r hr=>absurd hr (Nat.not_lt_zero _),fun r s hr=>absurd hr (Nat.not_lt_zero _),.inl ⟨rfl,rfl⟩⟩
theorem SG.congr {F':Nat->Nat->Int×Int} (s:SG h N M v R C F) (hF: ∀r,r<R-> ∀c,c<C->F' r c=F r c):SG h N M v R C F':=by
 obtain ⟨bs,h1,h2,h3⟩:=s;refine ⟨bs,fun r hr=>⟨(h1 r hr).1,(h1 r hr).2.1,?_⟩,h2,h3⟩;rw [(h1 r hr).2.2];have:jY (F r) C=jY (F' r) C:=by
  apply xZS
  intro k hk;rw [hF r hr _ (by have:=xZN.1 hk;omega)]
 rw [this]
theorem SG.one (s:SG h N M v R C F):Go.Ev.one v=true:=by
 obtain ⟨bs,h1,h2,h3⟩:=s;rcases h3 with ⟨_,rfl⟩|⟨B,rfl,_⟩<;>rfl
theorem SG.cells (s:SG h N M v R C F):cellsOf v=[v]:=by
 obtain ⟨bs,h1,h2,h3⟩:=s;rcases h3 with ⟨_,rfl⟩|⟨B,rfl,_⟩<;>rfl
theorem SG.len (s:SG h N M v R C F) (h':Hp):vC tb h' 51 v=some R:=by
 obtain ⟨bs,h1,h2,h3⟩:=s;rcases h3 with ⟨rfl,rfl⟩|⟨B,rfl,_⟩<;>simp [vC,tg51,te51]
theorem SG.at_ (s:SG h N M v R C F) {r:Nat} (hr:r<R): ∃B b rws,qM tb 51 v (.val (.int .i64 (r:Int)))=some (.ptr B r)/\h.t.get B=some (.cells rws 55)/\rws[r]? =some (.sl b 0 C 2)/\h.t.get b=some (.cells (jY (F r) C) 43)/\N<=b/\b<M/\N<=B/\B<M/\b≠B/\
  ∀f,SG (h.set b (.cells (jY f C) 43)) N M v R C (Th.putRow F r f):=by
 obtain ⟨bs,h1,h2,h3⟩:=s;rcases h3 with ⟨rfl,_⟩|⟨B,rfl,q2,q3,q4,q5⟩
 ·omega
 have e1:qAp (.val (.int .i64 (r:Int)))=some (Int.ofNat r):=rfl;have e2:Nat.blt r R=true:=by rw [xZH];exact hr
 refine ⟨B,bs r,_,by simp [qM,tg51,te51,tg55,te55,e1,e2],q5,by simp [xZY hr],(h1 r hr).2.2,(h1 r hr).1,(h1 r hr).2.1,q2,q3,q4 r hr,fun f=> ?_⟩;refine ⟨bs,fun x hx=>⟨(h1 x hx).1,(h1 x hx).2.1,?_⟩,h2,.inr ⟨B,rfl,q2,q3,q4,?_⟩⟩
 ·rw [xZM,xZV];by_cases hxr:x=r
  ·subst hxr;rw [if_pos rfl,Th.putRow_at]
  ·rw [if_neg (fun hq=>hxr (h2 x r hx hr hq)),Th.putRow_ne _ _ hxr];exact (h1 x hx).2.2
 ·rw [xZM,xZV,if_neg (fun hq=>q4 r hr hq.symm)];exact q5
theorem qAw {b:Nat} {c:Nat} (hc:c<C):qM tb 55 (.sl b 0 C 2) (.val (.int .i64 (c:Int)))=some (.ptr b (c*2)):=by
 have e1:qAp (.val (.int .i64 (c:Int)))=some (Int.ofNat c):=rfl;have e2:Nat.blt c C=true:=by rw [xZH];exact hc
 simp [qM,tg55,te55,tg43,te43,e1,e2]
theorem sgl55 (b:Nat) (h':Hp):vC tb h' 55 (.sl b 0 C 2)=some C:=by simp [vC,tg55,te55]
end
end Go.Proofs.Kn
end
namespace Go.Proofs.Kn
open Go Go.Ev
set_option maxRecDepth 100000
def t3 (t:Int×Int×Int):List Value:=[.int .i64 t.1,.int .i64 t.2.1,.int .i64 t.2.2]
structure Wk where
 m:Mp
 vt:AV
 ts:List (Int×Int×Int)
 kerf:Int
abbrev Wk.cs (w:Wk):List AV:=[w.m.vc,iv w.m.T,iv w.m.H,w.m.vg,w.m.vk,w.m.vp,w.vt,iv w.kerf]
abbrev Wk.av (w:Wk):AV:= .agg w.cs
abbrev Wk.bc (w:Wk) (v:AV):List AV:=[w.m.vc,iv w.m.T,iv w.m.H,w.m.vg,w.m.vk,w.m.vp,w.vt,iv w.kerf,v]
structure Wk.At (w:Wk) (xt:Addr->Option Value) (h:Hp):Prop where
 m:w.m.At xt h
 ts:RowAt xt h 3 w.vt (w.ts.map t3)
 lt:w.ts.length<=9223372036854775807
theorem Wk.At.new {w:Wk} {xt:Addr->Option Value} {h:Hp} (a:w.At xt h) (o:AO):w.At xt (h.new o):=⟨a.m.new o,a.ts.new o,a.lt⟩
theorem Wk.At.up {w:Wk} {xt:Addr->Option Value} {h:Hp} (a:w.At xt h) {n:Nat} (hn:h.n<=n):w.At xt (h.up n):=⟨a.m.up hn,a.ts.up hn,a.lt⟩
theorem Wk.At.fr {w:Wk} {xt:Addr->Option Value} {h h':Hp} (a:w.At xt h) {M:Nat} (f:Fr M h h') (hM:h.n<=M):w.At xt h':=⟨a.m.fr f hM,a.ts.fr f hM,a.lt⟩
structure Wk.Ones (w:Wk):Prop where
 c:Go.Ev.one w.m.vc=true
 g:Go.Ev.one w.m.vg=true
 k:Go.Ev.one w.m.vk=true
 p:Go.Ev.one w.m.vp=true
 t:Go.Ev.one w.vt=true
theorem Wk.At.ones {w:Wk} {xt:Addr->Option Value} {h:Hp} (a:w.At xt h):w.Ones:=⟨a.m.cells.one,a.m.gs.one,a.m.ks.one,a.m.ps.one,a.ts.one⟩
theorem bd43 (a b:Int):vJ tb 43 [(0,iv a),(1,iv b)]=some (.agg [iv a,iv b]):=by kernel_rfl
theorem bd225 (a b:Int):vJ tb 225 [(0,iv a),(1,iv b)]=some (.agg [iv a,iv b]):=by kernel_rfl
theorem if225 (h:Hp) (v:AV):qDM tb h 225 v=some (.ifc 225 v,h):=by kernel_rfl
theorem ft186 (xt:Addr->Option Value):(SE xt).ft.get 186=some Tryz.f186:=by kernel_rfl
theorem res186:Tryz.f186.results.toList=[]:=by kernel_rfl
def NarR (h:Hp) (N M:Nat) (v:AV) (R C:Nat) (F:Nat->Nat->Int×Int) (r c:Nat) (s:Int×Int) (res:CR) (h':Hp):Prop:=
 FrR N M h h'/\((∃x,res= .ret x/\(Th.nar (F r c) s).1<=(Th.nar (F r c) s).2/\SG h' N M v R C (Th.putRow F r (Th.put (F r) c (Th.nar (F r c) s))))\/((Th.nar (F r c) s).2<(Th.nar (F r c) s).1/\res= .pan (.ifc 225 (.agg [iv r,iv c]))))
theorem qBK (xt:Addr->Option Value) (h:Hp) (w:Wk) (ho:w.Ones) (N M:Nat) (v:AV) (R C:Nat) (F:Nat->Nat->Int×Int) (hs:SG h N M v R C F) (hN:N<=M) (hM:M<=h.n) (r c:Nat) (hr:r<R) (hc:c<C) (lo hi:Int):FnA (SE xt) 186 [.agg (w.bc v),iv r,iv c,.agg [iv lo,iv hi]] h (NarR h N M v R C F r c (lo,hi)):=by
 refine FnA.walk (sok xt) (ft186 xt) rfl 49 rfl ?_;obtain ⟨o1,o2,o3,o4,o5⟩:=ho;have o6:=hs.one;refine qA fun K hn hp=> ?_;simp only [sw.1,rE,reduceIte,rL,rA];apply hn;obtain ⟨h1,hh1⟩: ∃h1:Hp,h1=h.new (.cells (w.bc v) 121):=⟨_,rfl⟩;rw [<-hh1];have nh1:h1.n=h.n+1:=by rw [hh1];rfl
 have sh1:h1.t.get h.n=some (.cells (w.bc v) 121):=by rw [hh1];exact qY _ _
 have kh1: ∀k,k<h.n->h1.t.get k=h.t.get k:=fun k hk=>by rw [hh1];exact jA _ _ hk
 have fbh1:Fr h.n h h1:=by rw [hh1];exact (Fr.refl (xZU _)).new _
 have fh1:=fbh1;obtain ⟨h2,hh2⟩: ∃h2:Hp,h2=h1.new (.cells [iv lo,iv hi] 43):=⟨_,rfl⟩;rw [<-hh2];have nh2:h2.n=h1.n+1:=by rw [hh2];rfl
 have sh2:h2.t.get h1.n=some (.cells [iv lo,iv hi] 43):=by rw [hh2];exact qY _ _
 have kh2: ∀k,k<h1.n->h2.t.get k=h1.t.get k:=fun k hk=>by rw [hh2];exact jA _ _ hk
 have fbh2:Fr h1.n h1 h2:=by rw [hh2];exact (Fr.refl (xZU _)).new _
 have fh2:Fr h.n h h2:=fh1.trans fbh2 (by omega);simp only [nh1,Nat.add_assoc,rA] at nh2 sh2 kh2;have s1:=(kh2 h.n (by omega)).trans sh1;have hs2:=hs.fr fh2 hM;obtain ⟨B,b,rws,i1,i2,i3,i4,i5,i6,i7,i8,i9,hset⟩:=hs2.at_ hr;have i10:=qAw (C:=C) (b:=b) hc;refine qA fun K hn hp=> ?_;simp only [sy.1,rE,reduceIte,rL,s1,i1,i2,i3,i10];apply hn;have i11:=xP (F r) hc;have i12:=pD (F r) hc;refine zG (sok xt) 0 0 22 [(14,1)] (by kernel_rfl) fun K hn hp=> ?_;obtain ⟨A1,hA1⟩: ∃A1,A1=max (F r c).1 lo:=⟨_,rfl⟩;obtain ⟨A2,hA2⟩: ∃A2,A2=min (F r c).2 hi:=⟨_,rfl⟩;have hlf:=zS (F r) C;have p1:=zX (h:=h2) (b:=b) (off:=c*2) (v:=iv A1) (cs:=jY (F r) C) (e:=43) rfl rfl (by omega);have p2:=zX (h:=h2.set b (.cells ((jY (F r) C).set (c*2) (iv A1)) 43)) (b:=b) (off:=c*2+1) (v:=iv A2) (cs:=(jY (F r) C).set (c*2) (iv A1)) (e:=43) rfl rfl (by rw [xZO];omega);have b1: ¬h.n=b:=by omega
 have b2: ¬h.n+1=b:=by omega
 have b3: ¬b=h.n:=by omega
 have b4: ¬b=h.n+1:=by omega
 simp only [sy.1,rE,reduceIte,rL,rA,syw.1,sh2,i4,i11,i12,<-hA1,<-hA2,p1,p2,b2];apply hn;obtain ⟨h3,hh3⟩: ∃h3,h3=(h2.set b (.cells ((jY (F r) C).set (c*2) (iv A1)) 43)).set b (.cells (((jY (F r) C).set (c*2) (iv A1)).set (c*2+1) (iv A2)) 43):=⟨_,rfl⟩;rw [<-hh3];have hb3:h3.t.get b=some (.cells (jY (Th.put (F r) c (A1,A2)) C) 43):=by
  rw [hh3,xZM,xZV,if_pos rfl,yI _ hc]
 have hn3:h3.n=h2.n:=by rw [hh3];rfl
 have hs3:SG h3 N M v R C (Th.putRow F r (Th.put (F r) c (A1,A2))):=(hset (Th.put (F r) c (A1,A2))).keep fun k _ _=>by
  rw [hh3];simp only [xZM,xZV];split
  ·rw [yI _ hc]
  ·rfl
 have fr3:FrR N M h h3:=by
  rw [hh3];exact ((FrR.of fh2 (by omega) (xZU _)).set i5 i6 (by omega) _).set i5 i6 (by simp [Hp.set_n];omega) _
 have j1:=xP (Th.put (F r) c (A1,A2)) hc;have j2:=pD (Th.put (F r) c (A1,A2)) hc;rw [Th.put_at] at j1 j2;refine jR (sok xt) 9 (by kernel_rfl) fun K hn hp=> ?_;simp only [sy.1,rE,reduceIte,rL,syw.1,hb3,j1,j2];apply hn;have hnar:Th.nar (F r c) (lo,hi)=(A1,A2):=by rw [hA1,hA2];rfl
 cases q:decide (A2<A1)
 ·refine qH false (by simp only [sy.1,rE,reduceIte]) (fun hx=>by cases hx) (fun _=> ?_);refine qU ?_;have q:=of_decide_eq_false q;refine ⟨h3,[],rfl,?_,fr3,.inl ⟨_,rfl,by rw [hnar];simp;omega,by rw [hnar];exact hs3⟩⟩;rw [res186];rfl
 ·refine qH true (by simp only [sy.1,rE,reduceIte]) (fun _=> ?_) (fun hx=>by cases hx);have q:=of_decide_eq_true q;refine reg fun K hn hp=> ?_;simp only [sy.1,rE,reduceIte,rL,bd225,if225,WOp_iface,WOp_panic,panK_ifc];refine hp _ _ _ ⟨h3,rfl,fr3,.inr ⟨by rw [hnar];exact q,rfl⟩⟩
end Go.Proofs.Kn
namespace Go.Proofs.Kn
open Go Go.Ev
set_option maxRecDepth 100000
def Mp.cell (m:Mp) (r c:Nat):Int:=(m.cells.getD r []).getD c 0
def Mp.J (m:Mp) (r c:Nat):Bool:= !decide (m.cell r c=1) && !decide (m.cell r (c+1)=1)
theorem ft187 (xt:Addr->Option Value):(SE xt).ft.get 187=some Tryz.f187:=by kernel_rfl
theorem res187:Tryz.f187.results.toList=[.tmp 3]:=by kernel_rfl
theorem qEe (xt:Addr->Option Value) (h:Hp) (b:Nat) (v:AV) (l:List Int) (hr:RowAt xt h 1 v (l.map c1)) (q0:h.t.get b=some (.cells [v] 58)) (c:Nat) (hc:c+1<l.length) (hl:l.length<=9223372036854775807) {K:CR->Hp->Prop} (hk: ∀n,h.n<n->K (.ret (.val (.bool (!decide (l.getD c 0=1) && !decide (l.getD (c+1) 0=1))))) (h.up n)):
  FnA (SE xt) 187 [iv c,.ptr b 0] h K:=by
 refine FnA.calm ?_ hk;clear hk K;refine FnA.walk (sok xt) (ft187 xt) rfl 17 rfl ?_;obtain ⟨x1,x2⟩:=hr.m58 (k:=c) (by omega);obtain ⟨x3,x4⟩:=hr.m58 (k:=c+1) hc;have w:=qL (k:=c) (n:=l.length) (by omega) hl;refine qA fun K hn hp=> ?_;simp only [sw.1,rL];apply hn;cases e:decide (l.getD c 0=1)
 ·refine qA fun K hn hp=> ?_;simp only [sy.1,rE,reduceIte,rL,q0,x1,x2,x3,x4,w,e];apply hn;refine qE (qN res187 ⟨?_,Fr.refl (xZU _)⟩);simp [xZV]
 ·refine qA fun K hn hp=> ?_;simp only [sy.1,rE,reduceIte,rL,q0,x1,x2,e];apply hn;refine qE (qN res187 ⟨?_,Fr.refl (xZU _)⟩);simp [xZV]
theorem SG.append {P:Program} {xt:Addr->Option Value} {h:Hp} {N M R C b:Nat} {v x:AV} {F:Nat->Nat->Int×Int} (s:SG h N M v R C F) (hN:N<=M) (hM:M<=h.n) (hb1:M<=b) (hb2:b<h.n) (q:h.t.get b=some (.cells (jY (F R) C) 43)) (hx:pM xt h 1 x=some (1,[.sl b 0 C 2])) (hR:R<=100):
  ∃h',qV P tb xt .append [51,51] [v,x] h=some (.sl h.n 0 (R+1) 1,h')/\SG h' N h'.n (.sl h.n 0 (R+1) 1) (R+1) C F/\h'.n=h.n+1/\(∀k,k<N->h'.t.get k=h.t.get k)/\ ∀k,h'.n<=k->h'.t.get k=h.t.get k:=by
 obtain ⟨bs,h1,h2,h3⟩:=s;obtain ⟨avs,havs⟩: ∃avs:List AV,avs=(List.range R).map fun r=> .sl (bs r) 0 C 2:=⟨_,rfl⟩;have ho:OwnSl h N 1 55 v R avs:=by
  rcases h3 with ⟨rfl,rfl⟩|⟨B,rfl,q2,q3,q4,q5⟩
  ·rw [havs];exact .inl ⟨rfl,rfl,rfl⟩
  ·exact .inr ⟨B,rfl,q2,by omega,by rw [q5,havs],by rw [havs];simp⟩
 obtain ⟨h',p1,p2,p3,p4,p5⟩:=ho.append2 (P:=P) (m:=1) (cz:=[.sl b 0 C 2]) (by omega) tg51 rfl tg55 rfl (show te55.bytes=24 from rfl) tg51 rfl hx (by omega) rfl (by omega) (by omega);refine ⟨h',p1,?_,p4,fun k hk=>p3.at_ k (.inl hk),fun k hk=>p3.at_ k (.inr hk)⟩;have hvk: ∀k,k<h.n->(∀r,r<R->True)->(k=b\/ ∃r,r<R/\k=bs r)->h'.t.get k=h.t.get k:=fun k hk _ hkk=>p5 k hk fun off n s hv=>by
  rcases h3 with ⟨_,h3⟩|⟨B,h3,q2,q3,q4,q5⟩
  ·rw [h3] at hv;cases hv
  ·rw [h3] at hv;cases hv;rcases hkk with rfl|⟨r,hr,rfl⟩
   ·omega
   ·exact q4 r hr rfl
 refine ⟨fun r=>if r=R then b else bs r,fun r hr=> ?_,fun r s hr hs hq=> ?_,.inr ⟨h.n,rfl,by omega,by omega,fun r hr=> ?_,?_⟩⟩
 ·by_cases e:r=R
  ·subst e;simp only [if_true];exact ⟨by omega,by omega,by rw [hvk b hb2 (fun _ _=>trivial) (.inl rfl)];exact q⟩
  ·simp only [if_neg e];have:=h1 r (by omega);exact ⟨this.1,by omega,by rw [hvk (bs r) (by omega) (fun _ _=>trivial) (.inr ⟨r,by omega,rfl⟩)];exact this.2.2⟩
 ·by_cases e1:r=R<;>by_cases e2:s=R
  ·omega
  ·simp only [if_pos e1,if_neg e2] at hq;have:=h1 s (by omega);omega
  ·simp only [if_neg e1,if_pos e2] at hq;have:=h1 r (by omega);omega
  ·simp only [if_neg e1,if_neg e2] at hq;exact h2 r s (by omega) (by omega) hq
 ·by_cases e:r=R
  ·simp only [if_pos e];omega
  ·simp only [if_neg e];have:=h1 r (by omega);omega
 ·rcases p2 with ⟨p0,_⟩|⟨B',e1,_,_,e4,_⟩
  ·omega
  ·cases e1;rw [e4,havs,List.range_succ,List.map_append]
   congr 2
   congr 1
   ·apply xZS
    intro r hr;have:=xZN.1 hr;simp only [if_neg (show¬r=R by omega)]
   ·simp
end Go.Proofs.Kn
namespace Go.Proofs.Kn
open Go Go.Ev
set_option maxRecDepth 100000
theorem al27 (h:Hp):jU tb h 27=some (.ptr h.n 0,h.new (.cells (([(.slice none 0 0),(.int .i64 0),(.int .i64 0),(.slice none 0 0),(.slice none 0 0),(.slice none 0 0)]:List Value).map .val) 27)):=yC tg27 rfl
theorem al48 (h:Hp):jU tb h 48=some (.ptr h.n 0,h.new (.cells (([(.int .i64 0),(.int .i64 0),(.int .i64 0),(.int .i64 0)]:List Value).map .val) 48)):=yC wU rfl
theorem al225 (h:Hp):jU tb h 225=some (.ptr h.n 0,h.new (.cells (([(.int .i64 0),(.int .i64 0)]:List Value).map .val) 225)):=yC tg225 rfl
theorem al50 (h:Hp):jU tb h 50=some (.ptr h.n 0,h.new (.cells (([(.int .i64 0),(.int .i64 0),(.bool false)]:List Value).map .val) 50)):=yC qA9 rfl
theorem qEp (f:Nat->Int×Int) {C c:Nat} (h:c<C) (y:Int):(jY f C).set (c*2+1) (iv y)=jY (Th.put f c ((f c).1,y)) C:=by
 rw [<-yI f h]
 congr 1
 have hl:=zS f C;have:=xP f h;obtain ⟨hk,he⟩:=List.getElem?_eq_some_iff.1 this;rw [<-he,List.set_getElem_self]
theorem mk55 (h:Hp) {C:Nat} (hC:C<=100):vI tb h 55 (iv (C:Int)) (iv (C:Int))=some (.sl h.n 0 C 2,h.new (.cells (jY (fun _=>(0,0)) C) 43)):=by
 have e1:anat (iv (C:Int))=some C:=rfl;have e2:(Nat.beq C C && (Nat.blt 0 te43.size && (Nat.ble (te43.bytes*C) 281474976710656 && Nat.ble C 9223372036854775807)))=true:=by
  have a1:te43.size=2:=rfl;have a2:te43.bytes=16:=rfl;rw [a1,a2];simp [xZH,Nat.ble_eq];omega
 have e3:zE (te43.zero.map .val) C=jY (fun _=>(0,0)) C:=by
  have h1:te43.zero.map AV.val=[iv 0,iv 0]:=rfl;have h2: ∀n,zE [iv 0,iv 0] n=List.replicate (n*2) (iv 0):=fun n=>by
   induction n with
   |zero=>rfl
   |succ n ih=>simp only [zE,ih,Nat.add_mul];rfl
  rw [h1,h2];refine (List.eq_replicate_iff.2 ⟨zS _ _,fun b hb=> ?_⟩).symm;simp only [jY,List.mem_map] at hb;obtain ⟨k,_,rfl⟩:=hb;split<;>rfl
 simp only [vI,tg55,te55,tg43,e1,e2,e3];rfl
theorem bs51 (h:Hp) (b C:Nat):jW tb h 51 1 [(0,.sl b 0 C 2)]=some (.sl h.n 0 1 1,h.new (.cells [.sl b 0 C 2] 55)):=bs_of (sz:=1) (zs:=[.slice none 0 0]) tg51 rfl tg55 rfl rfl (by omega) (by omega) rfl
def Mp.F0 (m:Mp):Nat->Nat->Int×Int:=fun r c=>if m.cell r c=1 then (0,0) else (0,60)
def gg (x:Int×Int×Int×Int):Th.Gg:=⟨x.1.toNat,x.2.1.toNat,x.2.2.1,x.2.2.2⟩
def kK (m:Mp) (r j:Nat):Nat->Int×Int:=fun x=>if x<j/\ ¬m.cell r x=1 then (0,60) else (0,0)
theorem qBC (m:Mp) (r:Nat):kK m r 0=fun _=>(0,0):=by funext x;simp [kK]
theorem qCJ {m:Mp} {r j:Nat} (h: ¬m.cell r j=1):Th.put (kK m r j) j (0,60)=kK m r (j+1):=by
 funext x
 by_cases e:x=j
 ·subst e;rw [Th.put_at];simp [kK,h]
 ·rw [Th.put_ne _ _ e];have:(x<j+1)=(x<j):=by apply propext;omega
  simp only [kK,this]
theorem qD4 {m:Mp} {r j:Nat} (h:m.cell r j=1):kK m r j=kK m r (j+1):=by
 funext x
 by_cases e:x=j
 ·subst e;simp [kK,h]
 ·have:(x<j+1)=(x<j):=by apply propext;omega
  simp only [kK,this]
theorem qCK {m:Mp} {r C x:Nat} (h:x<C):kK m r C x=m.F0 r x:=by
 simp only [kK,Mp.F0,h,true_and];by_cases e:m.cell r x=1<;>simp [e]
theorem qA1 {f g:Nat->Int×Int} {C:Nat} (h: ∀c,c<C->f c=g c):jY f C=jY g C:=by
 apply xZS
 intro k hk;rw [h _ (by have:=xZN.1 hk;omega)]
structure BInv (h:Hp) (w:Wk) (C:Nat) (hc:Hp) (v:AV) (M R:Nat) (F:Nat->Nat->Int×Int):Prop where
 fr:Fr h.n h hc
 b1: ∃z,z.length=9/\hc.t.get (h.n+1)=some (.cells z 121)
 b2:hc.t.get (h.n+2)=some (.cells (w.bc v) 121)
 b3:hc.t.get (h.n+3)=some (.cells w.m.cs 27)
 sg:SG hc (h.n+4) M v R C F
 le:h.n+4<=M
 hi:M<=hc.n
theorem BInv.keep {h hc hd:Hp} {w:Wk} {C:Nat} {v:AV} {M R:Nat} {F:Nat->Nat->Int×Int} (b:BInv h w C hc v M R F) {n:Nat} (f:Fr n hc hd) (hn:M<=n):BInv h w C hd v M R F:=by
 have h1:=b.le;have h2:=b.hi;have h3:=f.le;refine ⟨b.fr.trans f (by omega),?_,?_,?_,b.sg.fr f hn,b.le,by omega⟩
 ·obtain ⟨z,q1,q2⟩:=b.b1;exact ⟨z,q1,by rw [f.at_ _ (by omega)];exact q2⟩
 ·rw [f.at_ _ (by omega)];exact b.b2
 ·rw [f.at_ _ (by omega)];exact b.b3
theorem BInv.frR {h hc hd:Hp} {w:Wk} {C:Nat} {v:AV} {M R:Nat} {F G:Nat->Nat->Int×Int} (b:BInv h w C hc v M R F) (f:FrR (h.n+4) M hc hd) (hs:SG hd (h.n+4) M v R C G):BInv h w C hd v M R G:=by
 have h1:=b.le;have h2:=b.hi;have h3:=f.le;refine ⟨b.fr.trans (f.fr (by omega)) (by omega),?_,?_,?_,hs,b.le,by omega⟩
 ·obtain ⟨z,q1,q2⟩:=b.b1;exact ⟨z,q1,by rw [f.at_ _ (by omega)];exact q2⟩
 ·rw [f.at_ _ (by omega)];exact b.b2
 ·rw [f.at_ _ (by omega)];exact b.b3
def Bd (F:Nat->Nat->Int×Int):Prop:= ∀r c,0<=(F r c).1/\(F r c).1<=(F r c).2/\(F r c).2<=60
theorem Bd.F0 (m:Mp):Bd m.F0:=fun r c=>by
 simp only [Mp.F0];split<;>simp
theorem Bd.nar {F:Nat->Nat->Int×Int} (h:Bd F) {r c:Nat} {s:Int×Int} (hn:(Th.nar (F r c) s).1<=(Th.nar (F r c) s).2):Bd (Th.putRow F r (Th.put (F r) c (Th.nar (F r c) s))):=fun x y=>by
 have h0:=h r c;by_cases e:x=r
 ·subst e;rw [Th.putRow_at];by_cases e:y=c
  ·subst e;rw [Th.put_at];simp only [Th.nar] at hn ⊢;omega
  ·rw [Th.put_ne _ _ e];exact h x y
 ·rw [Th.putRow_ne _ _ e];exact h x y
theorem xO (l':List Th.Gg): ∀(l:List Th.Gg) (G:Th.Grid),Th.gaugesP G (l++l')=(Th.gaugesP G l).bind fun G'=>Th.gaugesP G' l'
 |[],G=>rfl
 |g::l,G=>by
  simp only [List.cons_append,Th.gaugesP];cases Th.narrowG G g.r g.c g.span with
  |none=>rfl
  |some G1=>simp only [xZR];exact xO l' l G1
theorem qDv {l:List Th.Gg} {G G':Th.Grid} {g:Th.Gg} (h:Th.gaugesP G l=some G'):Th.gaugesP G (l++[g])=Th.narrowG G' g.r g.c g.span:=by
 rw [xO,h];simp only [xZR,Th.gaugesP];cases Th.narrowG G' g.r g.c g.span<;>rfl
theorem qEb {G:Th.Grid} {r c:Nat} {s:Int×Int} (h:(Th.nar (G r c) s).1<=(Th.nar (G r c) s).2):Th.narrowG G r c s=some (Th.putRow G r (Th.put (G r) c (Th.nar (G r c) s))):=by
 simp only [Th.narrowG,Th.narrow];rw [if_neg (by omega)];rfl
theorem qEc {G:Th.Grid} {r c:Nat} {s:Int×Int} (h:(Th.nar (G r c) s).2<(Th.nar (G r c) s).1):Th.narrowG G r c s=none:=by
 simp only [Th.narrowG,Th.narrow];rw [if_pos h];rfl
theorem qCD {α β:Type} (f:α->β) {l:List α} {i:Nat} {x:α} (h:l[i]? =some x):(l.take (i+1)).map f=(l.take i).map f++[f x]:=by
 rw [List.take_succ,h];simp
theorem qDu {gs:List (Int×Int×Int×Int)} {i:Nat} {G:Th.Grid} (h:Th.gaugesP G ((gs.take i).map gg)=none):Th.gaugesP G (gs.map gg)=none:=by
 rw [<-List.take_append_drop i gs,List.map_append,xO,h];rfl
theorem vO (G:Th.Grid) (r:Nat) (f g:Nat->Int×Int):Th.putRow (Th.putRow G r f) r g=Th.putRow G r g:=by
 funext k
 by_cases e:k=r
 ·subst e;rw [Th.putRow_at,Th.putRow_at]
 ·rw [Th.putRow_ne _ _ e,Th.putRow_ne _ _ e,Th.putRow_ne _ _ e]
theorem wZ (G:Th.Grid) (r:Nat):Th.putRow G r (G r)=G:=by
 funext k
 by_cases e:k=r
 ·subst e;rw [Th.putRow_at]
 ·rw [Th.putRow_ne _ _ e]
theorem qBJ {f:Nat->Int×Int} {c:Nat} {s:Int×Int} (h:(Th.nar (f c) s).1<=(Th.nar (f c) s).2):Th.narrow f c s=some (Th.put f c (Th.nar (f c) s)):=by
 simp only [Th.narrow];rw [if_neg (by omega)]
theorem gY {f:Nat->Int×Int} {c:Nat} {s:Int×Int} (h:(Th.nar (f c) s).2<(Th.nar (f c) s).1):Th.narrow f c s=none:=by
 simp only [Th.narrow];rw [if_pos h]
theorem qDX {T:Int} {j:Nat->Bool} {f g:Nat->Int×Int} {k:Nat} (h:Th.sweepR T j f k=some g):Th.sweepR T j f (k+1)=Th.stepR T j g k:=by
 simp only [Th.sweepR,h,xZR]
theorem qAT {T:Int} {j:Nat->Bool} {f:Nat->Int×Int}: ∀{n k:Nat},k<=n->Th.sweepR T j f k=none->Th.sweepR T j f n=none
 |0,k,hk,h=>by
  have:k=0:=by omega
  subst this;exact h
 |n+1,k,hk,h=>by
  by_cases e:k=n+1
  ·subst e;exact h
  ·simp only [Th.sweepR,qAT (show k<=n by omega) h];rfl
theorem qBB {T:Int} {J:Nat->Nat->Bool} {n:Nat} {G:Th.Grid}: ∀{R k:Nat},k<=R->Th.rowsP T J n G k=none->Th.rowsP T J n G R=none
 |0,k,hk,h=>by
  have:k=0:=by omega
  subst this;exact h
 |R+1,k,hk,h=>by
  by_cases e:k=R+1
  ·subst e;exact h
  ·simp only [Th.rowsP,qBB (show k<=R by omega) h];rfl
theorem pK {f:Nat->Int×Int} {C c:Nat} (h:c<C):(if c*2+2<=(jY f C).length then some (AV.agg (((jY f C).drop (c*2)).take 2)) else none)=some (.agg [iv (f c).1,iv (f c).2]):=by
 rw [if_pos (by rw [zS];omega),flatR_two f h]
theorem qAU {T:Int} {j:Nat->Bool} {f:Nat->Int×Int} {k:Nat}:Th.sweepL T j f (k+1)=(Th.stepL T j f k).bind fun g=>Th.sweepL T j g k:=rfl
end Go.Proofs.Kn
