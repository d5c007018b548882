/- MvQ4, MvP0, MvP2, MvP3, MvP4: texts in a row, joined by a program. -/
import Derived.Test.YtnmfblokfponlaaGreatDoorQY2
import Derived.Test.YtnmfblokfponlaaGreatDoorQN2
import Derived.Test.YtnmfblokfponlaaGreatDoorQN1
import Derived.Test.YtnmfblokfponlaaGreatDoorQW
set_option linter.all false
open List renaming getElem?_eq_some_iff → xZZ, mem_map → xZY, length_nil → xZV, length_map → xZU, drop_eq_getElem_cons → xZT, getElem?_eq_getElem → xZS, take_of_length_le → xZR, mem_of_getElem? → xZQ, length_append → xZP, getElem?_take → xZO, getElem?_map → xZN
open Nat renaming ble_eq → xZX, le_refl → xZW
open Go.Ev.Fr renaming refl → xZM
namespace Go.Proofs.Kn
open Go Go.Ev
set_option maxRecDepth 100000
set_option maxHeartbeats 4000000
theorem bs75' (h:Hp) (n:Int):j8 tb h 75 1 [(0,iv n)]=some (.sl h.n 0 1 1,h.new (.cells [iv n] 3)):=by kernel_rfl
end Go.Proofs.Kn
namespace Go.Proofs.Kn
open Go Go.Ev
set_option maxRecDepth 100000
theorem tg125:tb.get 125=some te125:=by kernel_rfl
theorem tg192:tb.get 192=some te192:=by kernel_rfl
abbrev Cg:=List (Int×Int×Int)×Int
theorem Cuts.one {xt:Addr->Option Value} {h:Hp} {v:AV} {ls:List (Int×Int×Int)} (a:Cuts xt h v ls):Go.Ev.one v=true:=a.row.one
theorem Cuts.cells {xt:Addr->Option Value} {h:Hp} {v:AV} {ls:List (Int×Int×Int)} (a:Cuts xt h v ls):cellsOf v=[v]:=a.row.cells
theorem Cuts.nil {xt:Addr->Option Value} {h:Hp}:Cuts xt h (.val (.slice none 0 0)) []:=⟨⟨by simp,by omega,.inl ⟨rfl,rfl⟩⟩,by simp,fun _ _ _ e=>by cases e;exact xZW _⟩
def u5 (es:List (AV×Cg)):List AV:=es.flatMap fun e=>[e.1,iv e.2.2]
theorem flatE_len (es:List (AV×Cg)):(u5 es).length=es.length*2:=by
 induction es with
 |nil=>rfl
 |cons e es ih=>simp only [u5,List.flatMap_cons,xZP,List.length_cons,xZV] at ih ⊢;omega
theorem qDR: ∀{es:List (AV×Cg)} {i:Nat} {e:AV×Cg},es[i]? =some e->(u5 es)[i*2]? =some e.1/\(u5 es)[i*2+1]? =some (iv e.2.2)
 |[],i,e,h=>by simp at h
 |x::es,0,e,h=>by
  simp only [List.getElem?_cons_zero,Option.some.injEq] at h;subst h;exact ⟨rfl,rfl⟩
 |x::es,i+1,e,h=>by
  have:=qDR (es:=es) (i:=i) (e:=e) (by simpa using h);have e1:(i+1)*2=i*2+2:=by omega
  rw [e1];exact this
structure CRows (xt:Addr->Option Value) (h:Hp) (N:Nat) (v:AV) (es:List (AV×Cg)):Prop where
 own:OwnSl h N 2 125 v es.length (u5 es)
 at_: ∀e∈es,Cuts xt h e.1 e.2.1/\qAI v e.1
theorem CRows.fr {xt:Addr->Option Value} {h h':Hp} {N:Nat} {v:AV} {es:List (AV×Cg)} (r:CRows xt h N v es) {M:Nat} (f:Fr M h h') (hM:h.n<=M):CRows xt h' N v es:=⟨r.own.fr f hM,fun e he=>⟨(r.at_ e he).1.fr f hM,(r.at_ e he).2⟩⟩
theorem CRows.up {xt:Addr->Option Value} {h:Hp} {N:Nat} {v:AV} {es:List (AV×Cg)} (r:CRows xt h N v es) {k:Nat} (hk:h.n<=k):CRows xt (h.up k) N v es:=r.fr (Fr.up (xZM (xZW _)) hk) (xZW _)
theorem CRows.len {xt:Addr->Option Value} {h:Hp} {N:Nat} {v:AV} {es:List (AV×Cg)} (r:CRows xt h N v es) (h':Hp):vF tb h' 192 v=some es.length:=r.own.len tg192 rfl
theorem CRows.one {xt:Addr->Option Value} {h:Hp} {N:Nat} {v:AV} {es:List (AV×Cg)} (r:CRows xt h N v es):Go.Ev.one v=true:=r.own.one
theorem CRows.cells {xt:Addr->Option Value} {h:Hp} {N:Nat} {v:AV} {es:List (AV×Cg)} (r:CRows xt h N v es):cellsOf v=[v]:=r.own.cells
theorem CRows.idx {xt:Addr->Option Value} {h:Hp} {N:Nat} {v:AV} {es:List (AV×Cg)} (r:CRows xt h N v es) {i:Nat} {e:AV×Cg} (he:es[i]? =some e):
  ∃b,qN tb 192 v (iv (i:Int))=some (.ptr b (i*2))/\N<=b/\b<h.n/\ ∀h':Hp,h'.t.get b=h.t.get b->zM 2 (h'.t.get b) (i*2)=some (.agg [e.1,iv e.2.2]):=by
 have hi:=(xZZ.1 he).1;obtain ⟨b,h1,h2,h3,h4,h5⟩:=r.own.idx tg192 rfl tg125 rfl hi (k:= .i64);refine ⟨b,h1,h2,h3,fun h' hh=> ?_⟩;obtain ⟨q1,q2⟩:=qDR he;rw [hh,h4];have hl:=flatE_len es;have e1:(u5 es).drop (i*2)=e.1::iv e.2.2::(u5 es).drop (i*2+1+1):=by
  have a1:=(xZZ.1 q1);have a2:=(xZZ.1 q2);rw [xZT a1.1,a1.2,xZT a2.1,a2.2]
 have e2:i*2+2<=(u5 es).length:=by omega
 simp [zM,e1,e2]
theorem CRows.append {xt:Addr->Option Value} {h:Hp} {N:Nat} {v:AV} {es:List (AV×Cg)} (r:CRows xt h N v es) (hN:N<=h.n) {z:AV} {c:Cg} (hz:Cuts xt h z c.1) (hap:qAI v z) (hl:es.length<=1000000):
  ∃v' h',qT Tryz.prog tb xt .append [192,192] [v,.sl h.n 0 1 2] (h.new (.cells [z,iv c.2] 125))=some (v',h')/\CRows xt h' N v' (es++[(z,c)])/\Fr N h h'/\v'= .sl (h.n+1) 0 (es.length+1) 2/\(∀k,k<h.n->(∀off n s,v≠ .sl k off n s)->h'.t.get k=h.t.get k)/\h'.n=h.n+2:=by
 have oz:=hz.one;have own1:=r.own.new (.cells [z,iv c.2] 125);obtain ⟨h',p1,p2,p3,p4,p5⟩:=own1.append2 (P:=Tryz.prog) (xt:=xt) (x:= .sl h.n 0 1 2) (m:=1) (cz:=[z,iv c.2]) (by simp only [Hp.new_n];omega) tg192 rfl tg125 rfl (show te125.bytes=32 from rfl) tg192 rfl (gB (e:=125) (qX _ _) rfl (by simp [oz];rfl)) (by omega) rfl (by omega) (by omega);have hlow: ∀k,k<h.n->(∀off n s,v≠ .sl k off n s)->h'.t.get k=h.t.get k:=fun k hk hv=>by
  rw [p5 k (by simp only [Hp.new_n];omega) hv,qW _ _ hk]
 have hn':h'.n=h.n+2:=by rw [p4,Hp.new_n]
 have keep: ∀{z':AV} {l:List (Int×Int×Int)},Cuts xt h z' l->qAI v z'->Cuts xt h' z' l/\qAI (.sl (h.n+1) 0 (es.length+1) 2) z':=fun {z' l} hr hp=>by
  refine ⟨⟨hr.row.keepB (by omega) fun b off n s hv hb=>hlow b hb fun off' n' s' hq=>hp b off n s hv off' n' s' hq,hr.lt,hr.cap⟩,fun b off n s hv off' n' s' hq=> ?_⟩;have:=hr.row.lt hv;cases hq;omega
 refine ⟨_,h',p1,⟨?_,fun e he=> ?_⟩,((xZM hN).new _).trans p3 (xZW _),rfl,hlow,hn'⟩
 ·have e1:u5 (es++[(z,c)])=u5 es++[z,iv c.2]:=by simp [u5]
  rw [e1,xZP];exact p2
 ·rcases List.mem_append.1 he with he|he
  ·obtain ⟨q1,q2⟩:=r.at_ e he;exact keep q1 q2
  ·rw [List.mem_singleton] at he;subst he;exact keep hz hap
end Go.Proofs.Kn
namespace Go.Proofs.Kn
open Go Go.Ev
set_option maxRecDepth 100000
set_option maxHeartbeats 4000000
def cmpF:List (Int×Int×Int)->List (Int×Int×Int)->Int
 |[],[]=>0
 |[],_::_=> -1
 |_::_,[]=>1
 |a::l,b::m=>if bef a b=0 then cmpF l m else bef a b
def bet (a b:Cg):Bool:=decide (orL [cmpI b.2 a.2,cmpI a.1.length b.1.length,cmpF a.1 b.1]<0)
end Go.Proofs.Kn
namespace Go.Proofs.Kn
open Go Go.Ev
set_option maxRecDepth 100000
set_option maxHeartbeats 4000000
end Go.Proofs.Kn
namespace Go.Proofs.Kn
open Go Go.Ev
set_option maxRecDepth 100000
set_option maxHeartbeats 4000000
def Inn (v:AV):Prop:= ∀ad n c,v≠ .val (.slice (some ad) n c)
theorem row_src {xt:Addr->Option Value} {h:Hp} {sz:Nat} {v:AV} {cs:List (List Value)} (r:RowAt xt h sz v cs) (hi:Inn v) (ho: ∀c∈cs,∀u∈c,Go.Ev.one (.val u)=true):xL xt h sz v=some (cs.length,cs.flatten.map .val):=by
 obtain ⟨h1,h2,h3⟩:=r;rcases h3 with ⟨rfl,rfl⟩|⟨ad,cap,rfl,_⟩|⟨b,off,av,e',rfl,⟨q1,q2,q3⟩,hx⟩
 ·rfl
 ·exact absurd rfl (hi _ _ _)
 ·have hfl:=gT cs h1;have key:(av.drop off).take (cs.length*sz)=cs.flatten.map .val:=by
   refine List.ext_getElem? fun p=> ?_;rw [xZO,List.getElem?_drop,xZN];by_cases hp:p<cs.length*sz
   ·rw [if_pos hp];have hi:p / sz<cs.length:=(Nat.div_lt_iff_lt_mul h2).2 hp;have hj:p % sz<sz:=Nat.mod_lt _ h2;have ep:p / sz*sz+p % sz=p:=by rw [Nat.mul_comm];exact Nat.div_add_mod p sz
    obtain ⟨c,hc⟩: ∃c,cs[p / sz]? =some c:=⟨_,xZS hi⟩;have hcl:=h1 c (xZQ hc);obtain ⟨u,hu⟩: ∃u,c[p % sz]? =some u:=⟨_,xZS (by omega)⟩;have e1:=hx _ _ hc _ _ hu;have e2:=uZ cs _ _ _ _ h1 hc hu;rw [ep] at e1 e2;rw [e1,e2];rfl
   ·rw [if_neg hp,List.getElem?_eq_none (by rw [hfl];omega)];rfl
  have hall:(cs.flatten.map AV.val).all Go.Ev.one=true:=by
   rw [List.all_eq_true];intro x hx';obtain ⟨u,hu,rfl⟩:=xZY.1 hx';obtain ⟨c,hc,huc⟩:=List.mem_flatten.1 hu;exact ho c hc u huc
  have b1:Nat.ble (off+cs.length*sz) av.length=true:=by rw [xZX];exact q2
  simp only [xL,q3,key,Nat.beq_refl,b1,hall,Bool.and_self,cond_true]
def jD (ls:List (Int×Int×Int)):List AV:=(ls.map t3).flatten.map .val
theorem vR (ls:List (Int×Int×Int)):(jD ls).length=ls.length*3:=by
 rw [jD,xZU,gT (sz:=3) _ (fun c hc=>by obtain ⟨x,_,rfl⟩:=xZY.1 hc;rfl),xZU]
theorem kS (l m:List (Int×Int×Int)):jD (l++m)=jD l++jD m:=by simp [jD]
theorem Cuts.src {xt:Addr->Option Value} {h:Hp} {v:AV} {ls:List (Int×Int×Int)} (a:Cuts xt h v ls) (hi:Inn v):xL xt h 3 v=some (ls.length,jD ls):=by
 have:=row_src a.row hi (fun c hc u hu=>by
  obtain ⟨x,_,rfl⟩:=xZY.1 hc;simp only [Kn.t3,List.mem_cons,List.not_mem_nil,or_false] at hu;rcases hu with rfl|rfl|rfl<;>rfl)
 rw [xZU] at this;exact this
def GrowAt (h:Hp) (N:Nat) (v:AV) (ls:List (Int×Int×Int)):Prop:=
 (v= .val (.slice none 0 0)/\ls=[])\/ ∃b cs,v= .sl b 0 ls.length 3/\N<=b/\b<h.n/\h.t.get b=some (.cells cs 61)/\ls.length*3<=cs.length/\cs.take (ls.length*3)=jD ls
theorem GrowAt.cuts {xt:Addr->Option Value} {h:Hp} {N:Nat} {v:AV} {ls:List (Int×Int×Int)} (g:GrowAt h N v ls) (hl:ls.length<=1000000):Cuts xt h v ls/\Inn v:=by
 rcases g with ⟨rfl,rfl⟩|⟨b,cs,rfl,h1,h2,h3,h4,h5⟩
 ·exact ⟨Cuts.nil,fun _ _ _ e=>by cases e⟩
 ·refine ⟨⟨⟨fun c hc=>by obtain ⟨x,_,rfl⟩:=xZY.1 hc;rfl,by omega,.inr (.inr ⟨b,0,cs,61,by simp,⟨h2,by simpa using h4,h3⟩,fun i c hi j u hu=> ?_⟩)⟩,by omega,fun _ _ _ e=>by cases e⟩,fun _ _ _ e=>by cases e⟩;have hil:i<ls.length:=by have:=(xZZ.1 hi).1;simpa using this
  have hjl:j<3:=by
   have:=(xZZ.1 hu).1;obtain ⟨x,_,rfl⟩:=xZY.1 (xZQ hi);exact this
  have e1:=uZ (sz:=3) (ls.map Kn.t3) i j c u (fun c hc=>by obtain ⟨x,_,rfl⟩:=xZY.1 hc;rfl) hi hu;have e2:(jD ls)[i*3+j]? =some (.val u):=by rw [jD,xZN,e1];rfl
  rw [<-h5,xZO,if_pos (by omega)] at e2;rw [Nat.zero_add];exact e2
theorem GrowAt.append {xt:Addr->Option Value} {h:Hp} {N:Nat} {v x:AV} {l m:List (Int×Int×Int)} (g:GrowAt h N v l) (hN:N<=h.n) (hm:Cuts xt h x m) (hi:Inn x) (hl:l.length+m.length<=1000000):
  ∃v' h',qT Tryz.prog tb xt .append [33,33] [v,x] h=some (v',h')/\GrowAt h' N v' (l++m)/\Fr N h h'/\h.n<=h'.n/\ ∀k,k<N->h'.t.get k=h.t.get k:=by
 have hs:=hm.src hi;have hb:te61.bytes=24:=rfl;rcases g with ⟨rfl,rfl⟩|⟨b,cs,rfl,h1,h2,h3,h4,h5⟩
 ·cases m with
  |nil=>
   refine ⟨_,h,qEb (sz:=3) pL rfl xQ rfl pL rfl (by simpa [jD] using hs),.inl ⟨rfl,rfl⟩,xZM hN,xZW _,fun _ _=>rfl⟩
  |cons s m=>
   have b0:Nat.beq (s::m).length 0=false:=rfl;have b3:Nat.ble ((s::m).length*24) 140737488355328=true:=by rw [xZX];simp only [xZV] at hl;omega
   have b4:Nat.ble (s::m).length 9223372036854775807=true:=by rw [xZX];simp only [xZV] at hl;omega
   have:j5 tb xt h 33 33 (.val (.slice none 0 0)) x=some (.sl h.n 0 (s::m).length 3,h.new (.cells (jD (s::m)) 61)):=by
    unfold j5;have d33:te33.d= .slice 61:=rfl;have z61:te61.size=3:=rfl;simp only [pL,d33,xQ,z61,hs,b0,hb,b3,b4];simp
   refine ⟨.sl h.n 0 (s::m).length 3,h.new (.cells (jD (s::m)) 61),by simp only [qT,this],.inr ⟨h.n,_,by simp,hN,Nat.lt_succ_self _,qX _ _,?_,?_⟩,Fr.new (xZM hN) _,Nat.le_succ _,fun k hk=>qW _ _ (by omega)⟩
   ·rw [vR];simp
   ·rw [List.nil_append,xZR (by rw [vR];simp)]
 ·have b1:Nat.ble (l.length*3) cs.length=true:=by rw [xZX];exact h4
  have b3:Nat.ble ((l.length+m.length)*24) 140737488355328=true:=by rw [xZX];omega
  have b4:Nat.ble (l.length+m.length) 9223372036854775807=true:=by rw [xZX];omega
  have:j5 tb xt h 33 33 (.sl b 0 l.length 3) x=some (.sl h.n 0 (l.length+m.length) 3,(h.del b).new (.cells (jD (l++m)) 61)):=by
   unfold j5;have d33:te33.d= .slice 61:=rfl;have z61:te61.size=3:=rfl;have hnn:(h.del b).n=h.n:=rfl;simp only [pL,d33,xQ,z61,hs,h3,hb,b1,b3,b4,h5,<-kS];simp
  refine ⟨.sl h.n 0 (l.length+m.length) 3,(h.del b).new (.cells (jD (l++m)) 61),by simp only [qT,this],.inr ⟨h.n,jD (l++m),by simp,hN,Nat.lt_succ_self _,by simp [Hp.new_t,Hp.del_t,Hp.del_n,T.get_put],?_,?_⟩,Fr.new ((xZM hN).del h1 h2) _,Nat.le_succ _,fun k hk=> ?_⟩
  ·rw [vR];simp
  ·rw [xZR (by rw [vR];simp)]
  ·simp only [Hp.new_t,Hp.del_t,Hp.del_n,T.get_put];rw [if_neg (by omega),if_neg (by omega)]
end Go.Proofs.Kn
