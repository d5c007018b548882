/- Parts of the proof, joined by a program. -/
import Derived.Test.YtmklipblkmlojaaGreatDoorQF3
set_option linter.all false
open List renaming length_append → xZZ, getElem?_cons_zero → xZY, getElem?_cons_succ → xZX, mem_map → xZW, set_cons_zero → xZV, set_cons_succ → xZU, mem_append → xZT, length_cons → xZS, mem_cons → xZR, map_cons → xZQ, mem_cons_self → xZP, flatten_cons → xZO, mem_nil_iff → xZN, flatten_nil → xZM, length_singleton → xZK, length_nil → xZJ, mem_cons_of_mem → xZI, append_assoc → xZH, any_eq_false → xZG, map_nil → xZE, getElem?_eq_some_iff → xZD, mem_of_getElem? → xZB, all_eq_true → xYY
open Bool renaming and_eq_true → xZL, not_eq_true' → xZF, or_eq_false_iff → xZA, not_eq_false' → xYZ, not_eq_true → xYX
open Nat renaming mod_lt → xZC
noncomputable section
namespace Go.Proofs.Kn
open Go Go.Ev
set_option maxRecDepth 100000
set_option maxHeartbeats 4000000
abbrev Md.m0 (d:Md):Mp:=d.mp jU jU jU jU
theorem dg_dig (n:Nat):yG (dg n)=true:=by
 have h:n % 10<10:=xZC _ (by omega);have e:(dg n).toNat=48+n % 10:=by rw [dg,UInt8.toNat_ofNat'];omega
 simp only [yG,e,xZL,decide_eq_true_eq];omega
theorem dec_dig (n:Nat):(dec n).all yG=true:=by
 unfold dec;split
 ·simp [dg_dig]
 ·split<;>simp [dg_dig]
theorem qB8 {n:Nat} {x:UInt8} (h:yG x=false):x ∉ dec n:=fun hm=>by
 have:=xYY.1 (dec_dig n) x hm;rw [h] at this;cases this
theorem qBo (c:UInt8) (e:List UInt8) (he:c ∉ e): ∀ws:List (List UInt8),(∀w∈ws,c ∉ w)->spl c ((ws.flatMap fun w=>w++[c])++e)=ws++[e]
 |[],_=>by simpa using spl_end c e he
 |w::ws,h=>by
  have ih:=qBo c e he ws fun x hx=>h x (xZI _ hx);rw [List.flatMap_cons,xZH,xZH,List.singleton_append,spl_cut c w _ (h w xZP),ih];rfl
theorem no_w (c:UInt8): ∀ws:List (List UInt8),(∀w∈ws,c ∉ w)->c≠32->c ∉ zT ws
 |[],_,_=>by simp [zT,Lib.join_nil]
 |x::r,h,hc=>by
  rw [zT,Lib.join_cons,xZT];intro q;rcases q with q|q
  ·exact h x xZP q
  ·simp only [Lib.joinTail,List.mem_flatten,xZW] at q;obtain ⟨_,⟨y,hy,rfl⟩,q⟩:=q;rcases xZT.1 q with q|q
   ·exact hc (by simpa using q)
   ·exact h y (xZI _ hy) q
theorem gX (l:List Int):(10:UInt8) ∉ vQ l:=no_w 10 _ (by
 intro w hw;obtain ⟨x,_,rfl⟩:=xZW.1 hw;exact qB8 rfl) (by decide)
theorem no_lines (m:Mp) (hc: ∀l∈m.cells,∀x∈l,1<=x/\x<=3): ∀l∈m.linesB,(10:UInt8) ∉ l:=by
 intro l hl;simp only [Mp.linesB,xZR,xZT,xZW] at hl;rcases hl with rfl|⟨r,hr,rfl⟩|⟨g,_,rfl⟩|⟨k,_,rfl⟩|⟨p,_,rfl⟩
 ·refine no_w 10 _ (fun w hw=> ?_) (by decide);simp only [xZR,xZN,or_false] at hw;rcases hw with rfl|rfl|rfl|rfl|rfl|rfl
  ·decide
  ·exact gX _
  ·decide
  ·exact gX _
  ·decide
  ·exact gX _
 ·intro q;obtain ⟨x,hx,e⟩:=xZW.1 q;rcases (by have:=hc r hr x hx;omega:x=1\/x=2\/x=3) with rfl|rfl|rfl<;>cases e
 ·refine no_w 10 _ (fun w hw=> ?_) (by decide);simp only [xZR,xZN,or_false] at hw;rcases hw with rfl|rfl
  ·decide
  ·exact gX _
 ·refine no_w 10 _ (fun w hw=> ?_) (by decide);simp only [xZR,xZN,or_false] at hw;rcases hw with rfl|rfl|rfl
  ·decide
  ·exact gX _
  ·cases k.2.2<;>decide
 ·refine no_w 10 _ (fun w hw=> ?_) (by decide);simp only [xZR,xZN,or_false] at hw;rcases hw with rfl|rfl
  ·decide
  ·exact gX _
theorem no_end (c:Nat):(10:UInt8) ∉ yX c:=by
 simp only [yX,xZT];intro q;rcases q with ((q|q)|q)|q
 ·revert q;decide
 ·exact qB8 rfl q
 ·exact qB8 rfl q
 ·exact qB8 rfl q
theorem qCy (m:Mp) (hc: ∀l∈m.cells,∀x∈l,1<=x/\x<=3):spl 10 m.textB=m.linesB++[yX (v6 m.linesB % 101),[]]:=by
 have h:=qBo 10 [] (by simp) (m.linesB++[yX (v6 m.linesB % 101)]) (by
  intro w hw;rcases xZT.1 hw with hw|hw
  ·exact no_lines m hc w hw
  ·rw [List.mem_singleton.1 hw];exact no_end _)
 rw [xZH] at h;refine Eq.trans (congrArg (spl 10) ?_) h;rw [Mp.textB,qAy];simp [nlB]
structure Can (d:Md):Prop where
 txt:Txt d.m0
 rect: ∀l∈d.cells,l.length=d.m0.W
theorem rect_of {b:Int} {cells:List (List Int)} (h: ∀r∈cells,(r.length:Int)=b): ∀l∈cells,l.length=(cells.headD []).length:=fun l hl=>by
 have h1:=h l hl;cases cells with
 |nil=>cases hl
 |cons x r=>
  have h2:=h x xZP;show l.length=x.length;omega
theorem qDk {s:List UInt8} (hs:s.length<=900) {d:Md} (h:kL s=some d):Can d:=by
 unfold kL at h;split at h
 ·rename_i a b c e ht;obtain ⟨_,_,_,_,he,na,nb,nc,nd⟩:=hP ht (by decide);cases he;split at h
  ·split at h
   ·cases h
   ·rename_i cells hr;split at h
    ·cases h
    ·rename_i r hq;cases h;exact ⟨qCC hs na nb nc nd hr hq jU jU jU jU,rect_of fun l hl=>((qAr hr).2 l hl).1⟩
  ·cases h
 ·cases h
theorem qBr {s:List UInt8} {d:Md}:j9 s=some d↔kL s=some d/\d.textB=s:=by
 unfold j9;cases kL s with
 |none=>simp
 |some e=>
  show (if e.textB=s then some e else none)=some d↔_;by_cases h:e.textB=s
  ·rw [if_pos h];exact ⟨fun q=>by cases q;exact ⟨rfl,h⟩,fun q=>q.1⟩
  ·rw [if_neg h];exact ⟨fun q=>(by cases q),fun q=>absurd (by obtain ⟨q1,q2⟩:=q;cases q1;exact q2) h⟩
theorem readP_can {s:List UInt8} (hs:s.length<=900) {d:Md} (h:j9 s=some d):Can d/\d.textB=s:=⟨qDk hs (qBr.1 h).1,(qBr.1 h).2⟩
structure Sml (m:Mp):Prop where
 c:m.cells.length<=6
 r: ∀l∈m.cells,l.length<=8
 w:m.W<=8
 T:0<=m.T/\m.T<=9
 H:0<=m.H/\m.H<=9
 g:m.gs.length<=8
 k:m.ks.length<=8
 p:m.ps.length<=12
 gs: ∀g∈m.gs,(0<=g.1/\g.1<=9)/\(0<=g.2.1/\g.2.1<=9)/\(0<=g.2.2.1/\g.2.2.1<=99)/\(0<=g.2.2.2/\g.2.2.2<=9)
 ks: ∀k∈m.ks,(0<=k.1/\k.1<=9)/\(0<=k.2.1/\k.2.1<=9)
 ps: ∀p∈m.ps,(0<=p.1/\p.1<=9)/\(0<=p.2/\p.2<=9)
theorem dec_l1 {n:Nat} (h:n<=9):(dec n).length=1:=by rw [dec,if_pos (by omega)];rfl
theorem yL {x:Int} (h:0<=x/\x<=9):(dec x.toNat).length=1:=dec_l1 (by omega)
theorem head_l {m:Mp} (h:Sml m):m.headB.length<=27:=by
 have h1:=dec_l1 (n:=m.cells.length) (by have:=h.c;omega);have h2:=dec_l1 (n:=m.W) (by have:=h.w;omega);have h3:=yL h.T;have h4:=yL h.H;rw [Mp.headB,line_6];simp only [vQ,zT,xZQ,xZE,Lib.join_cons,Lib.joinTail,xZZ,xZS,xZJ,xZO,xZM,Int.toNat_natCast,h1,h2,h3,h4];omega
theorem gauge_l {g:Int×Int×Int×Int} (h:(0<=g.1/\g.1<=9)/\(0<=g.2.1/\g.2.1<=9)/\(0<=g.2.2.1/\g.2.2.1<=99)/\(0<=g.2.2.2/\g.2.2.2<=9)):(kM g).length<=15:=by
 have h1:=yL h.1;have h2:=yL h.2.1;have h3:=y8 g.2.2.1.toNat;have h4:=yL h.2.2.2;rw [kM,line_2];simp only [vQ,zT,xZQ,xZE,Lib.join_cons,Lib.joinTail,xZZ,xZS,xZJ,xZO,xZM,h1,h2,h4];omega
theorem crack_l {k:Int×Int×Bool} (h:(0<=k.1/\k.1<=9)/\(0<=k.2.1/\k.2.1<=9)):(kO k).length<=15:=by
 have h1:=yL h.1;have h2:=yL h.2;have h3:(uD k.2.2).length<=5:=by cases k.2.2<;>decide
 rw [kO,line_3];simp only [vQ,zT,xZQ,xZE,Lib.join_cons,Lib.joinTail,xZZ,xZS,xZJ,xZO,xZM,h1,h2];omega
theorem probe_l {p:Int×Int} (h:(0<=p.1/\p.1<=9)/\(0<=p.2/\p.2<=9)):(kK p).length<=9:=by
 have h1:=yL h.1;have h2:=yL h.2;rw [kK,line_2];simp only [vQ,zT,xZQ,xZE,Lib.join_cons,Lib.joinTail,xZZ,xZS,xZJ,xZO,xZM,h1,h2];omega
theorem qAx (b:Nat): ∀{ls:List (List UInt8)},(∀l∈ls,l.length<=b)->(nlB ls).length<=ls.length*(b+1)
 |[],_=>Nat.zero_le _
 |l::ls,h=>by
  have h1:=h l xZP;have h2:=qAx b fun x hx=>h x (xZI _ hx);have e:nlB (l::ls)=(l++[10])++nlB ls:=by simp [nlB]
  rw [e,xZZ,xZZ,xZK,xZS,Nat.succ_mul];omega
theorem nl_app (a b:List (List UInt8)):nlB (a++b)=nlB a++nlB b:=by simp [nlB]
theorem qCv {m:Mp} (h:Sml m):m.textB.length<=600:=by
 have a1:=head_l h;have a2:=qAx 8 (ls:=m.cells.map pP) fun l hl=>by
  obtain ⟨r,hr,rfl⟩:=xZW.1 hl;simpa [pP] using h.r r hr
 have a3:=qAx 15 (ls:=m.gs.map kM) fun l hl=>by
  obtain ⟨r,hr,rfl⟩:=xZW.1 hl;exact gauge_l (h.gs r hr)
 have a4:=qAx 15 (ls:=m.ks.map kO) fun l hl=>by
  obtain ⟨r,hr,rfl⟩:=xZW.1 hl;exact crack_l (h.ks r hr)
 have a5:=qAx 9 (ls:=m.ps.map kK) fun l hl=>by
  obtain ⟨r,hr,rfl⟩:=xZW.1 hl;exact probe_l (h.ps r hr)
 have a6:=qCS (v6 m.linesB % 101);rw [List.length_map] at a2 a3 a4 a5;have b1:=h.c;have b2:=h.g;have b3:=h.k;have b4:=h.p;rw [Mp.textB,qAy,xZZ,xZZ,xZK];have e:nlB m.linesB=(m.headB++[10])++(nlB (m.cells.map pP)++(nlB (m.gs.map kM)++(nlB (m.ks.map kO)++nlB (m.ps.map kK)))):=by
  rw [Mp.linesB,<-nl_app,<-nl_app,<-nl_app];simp [nlB]
 rw [e];simp only [xZZ,xZK];omega
theorem lines_l {m:Mp} (h:Sml m): ∀l∈m.linesB,l.length<=40:=by
 intro l hl;simp only [Mp.linesB,xZR,xZT,xZW] at hl;rcases hl with rfl|⟨r,hr,rfl⟩|⟨g,hg,rfl⟩|⟨k,hk,rfl⟩|⟨p,hp,rfl⟩
 ·have:=head_l h;omega
 ·have:=h.r r hr;rw [pP,List.length_map];omega
 ·have:=gauge_l (h.gs g hg);omega
 ·have:=crack_l (h.ks k hk);omega
 ·have:=probe_l (h.ps p hp);omega
theorem spl_set (c y:UInt8) (hy:y≠c): ∀(s:List UInt8) (i:Nat) (x:UInt8),s[i]? =some x->x≠c-> ∃k j l,(spl c s)[k]? =some l/\l[j]? =some x/\spl c (s.set i y)=(spl c s).set k (l.set j y)
 |[],i,x,h,_=>by simp at h
 |z::t,0,x,h,hx=>by
  simp only [xZY,Option.some.injEq] at h;subst h;obtain ⟨p,r,hp⟩: ∃p r,spl c t=p::r:=by
   cases q:spl c t with
   |nil=>exact absurd q (gO c t)
   |cons p r=>exact ⟨p,r,rfl⟩
  refine ⟨0,0,z::p,?_,rfl,?_⟩
  ·simp only [spl,if_neg hx,hp,w9];rfl
  ·simp only [xZV,spl,if_neg hx,if_neg hy,hp,w9]
 |z::t,i+1,x,h,hx=>by
  rw [xZX] at h;obtain ⟨k,j,l,h1,h2,h3⟩:=spl_set c y hy t i x h hx;obtain ⟨p,r,hp⟩: ∃p r,spl c t=p::r:=by
   cases q:spl c t with
   |nil=>exact absurd q (gO c t)
   |cons p r=>exact ⟨p,r,rfl⟩
  by_cases hz:z=c
  ·refine ⟨k+1,j,l,?_,h2,?_⟩
   ·simp only [spl,if_pos hz,xZX];exact h1
   ·simp only [xZU,spl,if_pos hz,h3]
  ·rw [hp] at h1 h3;cases k with
   |zero=>
    simp only [xZY,Option.some.injEq] at h1;subst h1;refine ⟨0,j+1,z::p,?_,by simpa using h2,?_⟩
    ·simp only [spl,if_neg hz,hp,w9];rfl
    ·simp only [xZU,xZV,spl,if_neg hz,h3,hp,w9]
   |succ k=>
    refine ⟨k+1,j,l,?_,h2,?_⟩
    ·simp only [spl,if_neg hz,hp,w9];simpa using h1
    ·simp only [xZU,spl,if_neg hz,h3,hp,w9]
theorem chk_set (y:UInt8): ∀(l:List UInt8) (j i:Nat) (x:UInt8),l[i]? =some x->yE j (l.set i y)+x.toNat*(j+i+1)=yE j l+y.toNat*(j+i+1)
 |[],j,i,x,h=>by simp at h
 |z::t,j,0,x,h=>by
  simp only [xZY,Option.some.injEq] at h;subst h;simp only [xZV,yE,Nat.add_zero];omega
 |z::t,j,i+1,x,h=>by
  rw [xZX] at h;have:=chk_set y t (j+1) i x h;rw [show j+1+i+1=j+(i+1)+1 by omega] at this;simp only [xZU,yE];omega
theorem sum_set (l':List UInt8): ∀(A:List (List UInt8)) (k:Nat) (l:List UInt8),A[k]? =some l->v6 (A.set k l')+yE 0 l=v6 A+yE 0 l'
 |[],k,l,h=>by simp at h
 |z::t,0,l,h=>by
  simp only [xZY,Option.some.injEq] at h;subst h;simp only [xZV,v6,xZQ,List.sum_cons];omega
 |z::t,k+1,l,h=>by
  rw [xZX] at h;have:=sum_set l' t k l h;simp only [xZU,v6,xZQ,List.sum_cons] at this ⊢;omega
theorem dg_n (n:Nat):(dg n).toNat=48+n % 10:=by
 rw [dg,UInt8.toNat_ofNat'];have:n % 10<10:=xZC _ (by omega);omega
theorem endB_inj {a b:Nat} (ha:a<101) (hb:b<101) (h:yX a=yX b):a=b:=by
 have e: ∀c,c<101->yX c=endW++[dg (c / 100),dg (c / 10 % 10),dg (c % 10)]:=fun c hc=>by
  rw [yX,dec,if_pos (by omega),dec,if_pos (by omega),dec,if_pos (by omega)];simp
 rw [e a ha,e b hb] at h;have h:=List.append_cancel_left h;simp only [List.cons.injEq,and_true] at h;obtain ⟨h1,h2,h3⟩:=h;have h1:=congrArg UInt8.toNat h1;have h2:=congrArg UInt8.toNat h2;have h3:=congrArg UInt8.toNat h3;rw [dg_n,dg_n] at h1 h2 h3;omega
theorem mod_no {p q S S' t x y:Nat} (hp:p=x*t) (hq:q=y*t) (h:S'+p=S+q) (hm:S' % 101=S % 101) (hx:48<=x/\x<=57) (hy:48<=y/\y<=57) (hne:x≠y) (ht:1<=t/\t<=100):False:=by
 rcases Nat.lt_or_gt_of_ne hne with hl|hl
 ·obtain ⟨e,he⟩: ∃e,y=x+e:=⟨y - x,by omega⟩;have:q=p+e*t:=by rw [hp,hq,he,Nat.add_mul]
  rcases (by omega:e=1\/e=2\/e=3\/e=4\/e=5\/e=6\/e=7\/e=8\/e=9) with rfl|rfl|rfl|rfl|rfl|rfl|rfl|rfl|rfl<;>omega
 ·obtain ⟨e,he⟩: ∃e,x=y+e:=⟨x - y,by omega⟩;have:p=q+e*t:=by rw [hp,hq,he,Nat.add_mul]
  rcases (by omega:e=1\/e=2\/e=3\/e=4\/e=5\/e=6\/e=7\/e=8\/e=9) with rfl|rfl|rfl|rfl|rfl|rfl|rfl|rfl|rfl<;>omega
theorem spoilt {d:Md} (hc:Can d) (hs:Sml d.m0) {at_:Nat} {x y:UInt8} (hx:d.textB[at_]? =some x) (x1:48<=x.toNat/\x.toNat<=57) (y1:48<=y.toNat/\y.toNat<=57) (hne:x≠y):j9 (d.textB.set at_ y)=none:=by
 cases hr:j9 (d.textB.set at_ y) with
 |none=>rfl
 |some d'=>
 exfalso;have hlen:d.textB.length<=600:=qCv hs;obtain ⟨hc',ht'⟩:=readP_can (by rw [List.length_set];omega) hr;have xn:x≠10:=fun e=>by rw [e] at x1;revert x1;decide
 have yn:y≠10:=fun e=>by rw [e] at y1;revert y1;decide
 obtain ⟨k,j,l,h1,h2,h3⟩:=spl_set 10 y yn _ _ _ hx xn;have e1:spl 10 d.textB=d.m0.linesB++[yX (v6 d.m0.linesB % 101),[]]:=qCy d.m0 hc.txt.kc;have e2:spl 10 d'.textB=d'.m0.linesB++[yX (v6 d'.m0.linesB % 101),[]]:=qCy d'.m0 hc'.txt.kc;rw [<-ht',e2,e1] at h3;rw [e1] at h1;have hll:d'.m0.linesB.length=d.m0.linesB.length:=by have:=congrArg List.length h3;simpa using this
 by_cases hk:k<d.m0.linesB.length
 ·rw [List.set_append,if_pos hk] at h3;obtain ⟨i1,i2⟩:=List.append_inj h3 (by rw [List.length_set];exact hll);rw [List.getElem?_append_left hk] at h1;have i3:=endB_inj (xZC _ (by omega)) (xZC _ (by omega)) (List.cons.inj i2).1;have s1:=sum_set (l.set j y) _ _ _ h1;have s2:=chk_set y l 0 j x h2;rw [<-i1] at s1;have hl:=lines_l hs l (xZB h1);have hj:j<l.length:=(xZD.1 h2).1;have hxy:x.toNat≠y.toNat:=fun e=>hne (UInt8.toNat_inj.1 e);exact mod_no (S:=v6 d.m0.linesB) (S':=v6 d'.m0.linesB) (t:=0+j+1) rfl rfl (by omega) i3 x1 y1 hxy ⟨by omega,by omega⟩
 ·rw [List.set_append,if_neg hk] at h3;obtain ⟨i1,i2⟩:=List.append_inj h3 hll;rw [List.getElem?_append_right (by omega)] at h1;obtain ⟨q,hq⟩: ∃q,q=k - d.m0.linesB.length:=⟨_,rfl⟩;rw [<-hq] at h1 i2
  match q,h1,i2 with
  |0,h1,i2=>
   simp only [xZY,Option.some.injEq] at h1;rw [i1,h1,xZV] at i2;have i3:=(List.cons.inj i2).1;have hj:j<l.length:=(xZD.1 h2).1;have:=congrArg (fun z=>z[j]?) i3;simp only [h2,List.getElem?_set_self hj,Option.some.injEq] at this;exact hne this
  |1,h1,i2=>
   simp only [xZX,xZY,Option.some.injEq] at h1;rw [<-h1] at h2;simp at h2
  |q+2,h1,i2=>simp at h1
theorem Mp.ok_sml {m:Mp} (h:m.ok=true):Sml m/\ ∀l∈m.cells,l.length=m.W:=by
 simp only [Mp.ok,Mp.restOk,xZL] at h;obtain ⟨hR,hrow,hT,hH,g8,k8,p12,hg,hk,hp⟩:=h;have hR:=vU hR;have hT:=vU hT;have hH:=vU hH;have g8:=of_decide_eq_true g8;have k8:=of_decide_eq_true k8;have p12:=of_decide_eq_true p12;have hRR:m.R=m.cells.length:=rfl;have hCW:m.C=(m.W:Int):=rfl;have hrow': ∀l∈m.cells,(l.length:Int)=m.C/\(1<=(l.length:Int)/\(l.length:Int)<=8):=fun l hl=>by
  have:=xYY.1 hrow l hl;simp only [Mp.rowOk,xZL] at this;obtain ⟨q1,q2,q3⟩:=this;exact ⟨of_decide_eq_true q1,vU q2⟩
 have hC:m.C<=8/\0<=m.C:=by
  have hne:0<m.cells.length:=by omega
  obtain ⟨l,hl⟩: ∃l,m.cells[0]? =some l:=⟨_,List.getElem?_eq_getElem hne⟩;obtain ⟨q1,q2,_⟩:=hrow' l (xZB hl);omega
 have hins: ∀r c:Int,m.inside r c=true->(0<=r/\r<=9)/\(0<=c/\c<=9):=fun r c hi=>by
  simp only [Mp.inside,xZL] at hi;have h1:=vU hi.1;have h2:=vU hi.2;exact ⟨⟨by omega,by omega⟩,⟨by omega,by omega⟩⟩
 refine ⟨⟨by omega,fun l hl=>by have:=(hrow' l hl).2;omega,by omega,hT,⟨hH.1,by omega⟩,by omega,by omega,by omega,fun g hgm=> ?_,fun k hkm=> ?_,fun p hpm=> ?_⟩,fun l hl=>by have:=(hrow' l hl).1;omega⟩
 ·simp only [xZF,xZG] at hg;have:=hg g hgm;simp only [Mp.badG,xYX,xZA,xYZ] at this;obtain ⟨q1,_,q3,q4⟩:=this;obtain ⟨i1,i2⟩:=hins _ _ q1;have q3:=vU q3;have q4:=vU q4;exact ⟨i1,i2,⟨by omega,by omega⟩,q4⟩
 ·simp only [xZF,xZG] at hk;have:=hk k hkm;simp only [Mp.badK,xYX,xZA,xYZ] at this;exact hins _ _ this.1
 ·simp only [xZF,xZG] at hp;have:=hp p hpm;have hi:m.inside p.1 p.2=true:=by
   cases hh:m.inside p.1 p.2 with
   |true=>rfl
   |false=>simp [Mp.is,hh] at this
  exact hins _ _ hi
def Mp.md (m:Mp):Md:=⟨m.cells,m.T,m.H,m.gs,m.ks,m.ps⟩
theorem Md.ok_can {d:Md} (h:d.ok=true):Can d:=⟨Mp.ok_txt (m:=d.m0) h,(Mp.ok_sml (m:=d.m0) h).2⟩
theorem Mp.text_600 {m:Mp} (h:m.ok=true):m.textB.length<=600:=qCv (Mp.ok_sml h).1
theorem Mp.spoilt {m:Mp} (h:m.ok=true) {a:Nat} {x y:UInt8} (hx:m.textB[a]? =some x) (x1:48<=x.toNat/\x.toNat<=57) (y1:48<=y.toNat/\y.toNat<=57) (hne:x≠y):j9 (m.textB.set a y)=none:=
 Go.Proofs.Kn.spoilt (d:=m.md) (Md.ok_can h) (Mp.ok_sml (m:=m.md.m0) h).1 hx x1 y1 hne
end Go.Proofs.Kn
end
