/- Parts. -/
set_option linter.all false
open Option renaming bind_some → xZZ, map_some → xZX
open Nat renaming le_refl → xZY
namespace Go.Proofs.Th
abbrev B:=Int×Int
def nar (x s:B):B:=(max x.1 s.1,min x.2 s.2)
def put (f:Nat->B) (c:Nat) (v:B):Nat->B:=fun k=>if k=c then v else f k
theorem put_at (f:Nat->B) (c:Nat) (v:B):put f c v c=v:=by simp [put]
theorem put_ne (f:Nat->B) {c k:Nat} (v:B) (h:k≠c):put f c v k=f k:=by simp [put,h]
def Sub (f g:Nat->B):Prop:= ∀c,(g c).1<=(f c).1/\(f c).2<=(g c).2
theorem Sub.refl (f:Nat->B):Sub f f:=fun _=>⟨Int.le_refl _,Int.le_refl _⟩
theorem Sub.trans {f g h:Nat->B} (a:Sub f g) (b:Sub g h):Sub f h:=fun c=>⟨Int.le_trans (b c).1 (a c).1,Int.le_trans (a c).2 (b c).2⟩
theorem Sub.antisymm {f g:Nat->B} (a:Sub f g) (b:Sub g f):f=g:=by
 funext c
 exact Prod.ext (Int.le_antisymm (b c).1 (a c).1) (Int.le_antisymm (a c).2 (b c).2)
def narrow (f:Nat->B) (c:Nat) (s:B):Option (Nat->B):=if (nar (f c) s).2<(nar (f c) s).1 then none else some (put f c (nar (f c) s))
section
variable (T:Int) (j:Nat->Bool)
def toR (x:B):B:=(x.1 - T,x.2)
def toL (x:B):B:=(x.1,x.2+T)
def stepR (f:Nat->B) (c:Nat):Option (Nat->B):=if j c then narrow f (c+1) (toR T (f c)) else some f
def stepL (f:Nat->B) (c:Nat):Option (Nat->B):=if j c then narrow f c (toL T (f (c+1))) else some f
def sweepR (f:Nat->B):Nat->Option (Nat->B)
 |0=>some f
 |k+1=>(sweepR f k).bind fun g=>stepR T j g k
def sweepL:(Nat->B)->Nat->Option (Nat->B)
 |f,0=>some f
 |f,k+1=>(stepL T j f k).bind fun g=>sweepL g k
def pair (f:Nat->B) (c:Nat):Nat->B:=if j c then put (put f c (nar (f c) (toL T (f (c+1))))) (c+1) (nar (f (c+1)) (toR T (f c))) else f
def round (f:Nat->B):Nat->Nat->B
 |0=>f
 |k+1=>pair T j (round f k) k
def rounds (f:Nat->B) (n:Nat):Nat->Nat->B
 |0=>f
 |k+1=>round T j (rounds f n k) n
def qBE (g:Nat->B) (n:Nat):Prop:= ∀c,c<n->j c=true->(g c).1 - T<=(g (c+1)).1/\(g (c+1)).2<=(g c).2/\(g (c+1)).1<=(g c).1/\(g c).2<=(g (c+1)).2+T
theorem kZ {f g:Nat->B} {c:Nat} {s:B} (h:narrow f c s=some g):g=put f c (nar (f c) s)/\(nar (f c) s).1<=(nar (f c) s).2:=by
 unfold narrow at h;split at h
 ·cases h
 ·exact ⟨(Option.some.inj h).symm,by omega⟩
theorem qFq (f:Nat->B) (c:Nat):Sub (pair T j f c) f:=by
 intro k;unfold pair;split
 ·by_cases h1:k=c+1
  ·subst h1;rw [put_at];simp only [nar,toR];omega
  ·rw [put_ne _ _ h1];by_cases h2:k=c
   ·subst h2;rw [put_at];simp only [nar,toL];omega
   ·rw [put_ne _ _ h2];omega
 ·omega
theorem gX (f:Nat->B): ∀k,Sub (round T j f k) f
 |0=>Sub.refl f
 |k+1=>(qFq T j _ k).trans (gX f k)
theorem pair_keep {g f:Nat->B} {c:Nat} (hg:j c=true->(g c).1 - T<=(g (c+1)).1/\(g (c+1)).2<=(g c).2/\(g (c+1)).1<=(g c).1/\(g c).2<=(g (c+1)).2+T) (h:Sub g f):Sub g (pair T j f c):=by
 intro k;unfold pair;split
 ·rename_i hj;have h0:=h c;have h1:=h (c+1);have hh:=hg hj;by_cases q1:k=c+1
  ·subst q1;rw [put_at];simp only [nar,toR];omega
  ·rw [put_ne _ _ q1];by_cases q2:k=c
   ·subst q2;rw [put_at];simp only [nar,toL];omega
   ·rw [put_ne _ _ q2];exact h k
 ·exact h k
theorem qCB {g f:Nat->B} {n:Nat} (hg:qBE T j g n) (h:Sub g f): ∀k,k<=n->Sub g (round T j f k)
 |0,_=>h
 |k+1,hk=>pair_keep T j (hg k (by omega)) (qCB hg h k (by omega))
theorem qBJ {g f:Nat->B} {n:Nat} (hg:qBE T j g n) (h:Sub g f): ∀k,Sub g (rounds T j f n k)
 |0=>h
 |k+1=>qCB T j hg (qBJ hg h k) n (xZY _)
theorem qBK {f f':Nat->B} (hs:Sub f' f): ∀(k:Nat) (g:Nat->B),sweepR T j f k=some g->Sub (round T j f' k) g
 |0,g,h=>by cases h;exact hs
 |k+1,g,h=>by
  simp only [sweepR] at h;cases h0:sweepR T j f k with
  |none=>rw [h0] at h;cases h
  |some g0=>
   rw [h0] at h;simp only [xZZ] at h;have ih:=qBK hs k g0 h0;intro c;simp only [round];unfold stepR at h;unfold pair;split at h
   ·rename_i hj;rw [if_pos hj,(kZ h).1];have i0:=ih k;have i1:=ih (k+1);by_cases q1:c=k+1
    ·subst q1;rw [put_at,put_at];simp only [nar,toR];omega
    ·rw [put_ne _ _ q1,put_ne _ _ q1];by_cases q2:c=k
     ·subst q2;rw [put_at];simp only [nar,toL];omega
     ·rw [put_ne _ _ q2];exact ih c
   ·rename_i hj;cases h;rw [if_neg hj];exact ih c
theorem qDB {f:Nat->B} (hle: ∀c,(f c).1<=(f c).2): ∀(k:Nat) (g:Nat->B),sweepR T j f k=some g->Sub g f/\(∀c,(g c).1<=(g c).2)/\ ∀c,c<k->j c=true->(g c).1 - T<=(g (c+1)).1/\(g (c+1)).2<=(g c).2
 |0,g,h=>by cases h;exact ⟨Sub.refl _,hle,fun c hc=>by omega⟩
 |k+1,g,h=>by
  simp only [sweepR] at h;cases h0:sweepR T j f k with
  |none=>rw [h0] at h;cases h
  |some g0=>
   rw [h0] at h;simp only [xZZ] at h;obtain ⟨i1,i2,i3⟩:=qDB hle k g0 h0;unfold stepR at h;split at h
   ·rename_i hj;obtain ⟨rfl,hv⟩:=kZ h;refine ⟨fun c=> ?_,fun c=> ?_,fun c hc hjc=> ?_⟩
    ·by_cases q:c=k+1
     ·subst q;rw [put_at];have:=i1 (k+1);simp only [nar];omega
     ·rw [put_ne _ _ q];exact i1 c
    ·by_cases q:c=k+1
     ·subst q;rw [put_at];exact hv
     ·rw [put_ne _ _ q];exact i2 c
    ·by_cases q:c=k
     ·subst q;rw [put_at,put_ne _ _ (by omega)];simp only [nar,toR];omega
     ·rw [put_ne _ _ (by omega),put_ne _ _ (by omega)];exact i3 c (by omega) hjc
   ·rename_i hj;cases h;refine ⟨i1,i2,fun c hc hjc=> ?_⟩;by_cases q:c=k
    ·subst q;exact absurd hjc hj
    ·exact i3 c (by omega) hjc
theorem qBd (hT:0<=T) {n:Nat}: ∀(k:Nat) (f g:Nat->B),sweepL T j f k=some g->(∀c,(f c).1<=(f c).2)->(∀c,c<n->j c=true->(f c).1 - T<=(f (c+1)).1/\(f (c+1)).2<=(f c).2)->(∀c,k<=c->c<n->j c=true->(f (c+1)).1<=(f c).1/\(f c).2<=(f (c+1)).2+T)->k<=n->Sub g f/\(∀c,(g c).1<=(g c).2)/\qBE T j g n
 |0,f,g,h,hle,hR,hL,_=>by
  cases h;exact ⟨Sub.refl _,hle,fun c hc hj=>⟨(hR c hc hj).1,(hR c hc hj).2,(hL c (Nat.zero_le _) hc hj).1,(hL c (Nat.zero_le _) hc hj).2⟩⟩
 |k+1,f,g,h,hle,hR,hL,hk=>by
  simp only [sweepL] at h;cases h0:stepL T j f k with
  |none=>rw [h0] at h;cases h
  |some f1=>
   rw [h0] at h;simp only [xZZ] at h;unfold stepL at h0;split at h0
   ·rename_i hj;obtain ⟨rfl,hv⟩:=kZ h0;have hk0:=hR k (by omega) hj;obtain ⟨s1,s2,s3⟩:=qBd hT k _ g h (fun c=>by
     by_cases q:c=k
     ·subst q;rw [put_at];exact hv
     ·rw [put_ne _ _ q];exact hle c) (fun c hc hjc=>by
     by_cases q:c=k
     ·subst q;rw [put_at,put_ne _ _ (by omega)];simp only [nar,toL];omega
     ·by_cases q1:c+1=k
      ·subst q1;rw [put_at,put_ne _ _ (by omega)];have:=hR c hc hjc;simp only [nar,toL];omega
      ·rw [put_ne _ _ q,put_ne _ _ q1];exact hR c hc hjc) (fun c hc hcn hjc=>by
     by_cases q:c=k
     ·subst q;rw [put_at,put_ne _ _ (by omega)];simp only [nar,toL];omega
     ·rw [put_ne _ _ q,put_ne _ _ (by omega)];exact hL c (by omega) hcn hjc) (by omega)
    refine ⟨s1.trans fun c=> ?_,s2,s3⟩;by_cases q:c=k
    ·subst q;rw [put_at];simp only [nar];omega
    ·rw [put_ne _ _ q];omega
   ·rename_i hj;cases h0;exact qBd hT k _ g h hle hR (fun c hc hcn hjc=>by
     by_cases q:c=k
     ·subst q;exact absurd hjc hj
     ·exact hL c (by omega) hcn hjc) (by omega)
theorem qDE: ∀(k:Nat) (f g:Nat->B),sweepL T j f k=some g->(∀c,k<=c->g c=f c)/\ ∀c,c<k->g c=if j c then nar (f c) (toL T (g (c+1))) else f c
 |0,f,g,h=>by
  cases h;exact ⟨fun _ _=>rfl,fun c hc=>by omega⟩
 |k+1,f,g,h=>by
  simp only [sweepL] at h;cases h0:stepL T j f k with
  |none=>rw [h0] at h;cases h
  |some f1=>
   rw [h0] at h;simp only [xZZ] at h;obtain ⟨i1,i2⟩:=qDE k f1 g h;have hf: ∀c,c≠k->f1 c=f c:=fun c hc=>by
    unfold stepL at h0;split at h0
    ·rw [(kZ h0).1,put_ne _ _ hc]
    ·cases h0;rfl
   refine ⟨fun c hc=>by rw [i1 c (by omega),hf c (by omega)],fun c hc=> ?_⟩;by_cases q:c=k
   ·subst q;rw [i1 c (xZY _),i1 (c+1) (by omega),hf (c+1) (by omega)];unfold stepL at h0;split at h0
    ·rename_i hj;rw [(kZ h0).1,put_at,if_pos hj]
    ·rename_i hj;cases h0;rw [if_neg hj]
   ·rw [i2 c (by omega),hf c q]
theorem qCA (f:Nat->B) {c:Nat} (hj:j c=true): ∀k,c<k->(round T j f k c).2<=(f (c+1)).2+T/\(f (c+1)).1<=(round T j f k c).1
 |0,h=>by omega
 |k+1,h=>by
  by_cases q:c=k
  ·subst q;have hs:=gX T j f c (c+1);simp only [round,pair,hj,if_true];rw [put_ne _ _ (by omega),put_at];simp only [nar,toL];omega
  ·have ih:=qCA f hj k (by omega);have hs:=qFq T j (round T j f k) k c;simp only [round];omega
theorem rounds_eq (hT:0<=T) {n:Nat} {f fR g:Nat->B} (hle: ∀c,(f c).1<=(f c).2) (hR:sweepR T j f n=some fR) (hL:sweepL T j fR n=some g):(∀m,n+1<=m->rounds T j f n m=g)/\Sub g f/\(∀c,(g c).1<=(g c).2)/\qBE T j g n:=by
 obtain ⟨r1,r2,r3⟩:=qDB T j hle n fR hR;obtain ⟨l1,l2,l3⟩:=qBd T j hT n fR g hL r2 r3 (fun c h1 h2=>by omega) (xZY _);obtain ⟨e1,e2⟩:=qDE T j n fR g hL;have hgf:Sub g f:=l1.trans r1;have hone: ∀i,Sub (rounds T j f n (i+1)) fR:=fun i=>by
  induction i with
  |zero=>exact qBK T j (Sub.refl f) n fR hR
  |succ i ih=>exact (gX T j _ n).trans ih
 have key: ∀i,∀c,n<=c+i->(g c).1<=(rounds T j f n (i+1) c).1/\(rounds T j f n (i+1) c).2<=(g c).2:=fun i=>by
  induction i with
  |zero=>
   intro c hc;rw [e1 c (by omega)];exact hone 0 c
  |succ i ih=>
   intro c hc;have hs:=gX T j (rounds T j f n (i+1)) n c;by_cases q:n<=c+i
   ·have:=ih c q;show (g c).1<=(round T j (rounds T j f n (i+1)) n c).1/\(round T j (rounds T j f n (i+1)) n c).2<=(g c).2;omega
   ·have h1:=hone (i+1) c;rw [e2 c (by omega)];split
    ·rename_i hj;have h2:=qCA T j (rounds T j f n (i+1)) hj n (by omega);have h3:=ih (c+1) (by omega);change (fR c).1<=(round T j (rounds T j f n (i+1)) n c).1/\(round T j (rounds T j f n (i+1)) n c).2<=(fR c).2 at h1;show _<=(round T j (rounds T j f n (i+1)) n c).1/\(round T j (rounds T j f n (i+1)) n c).2<=_;simp only [nar,toL];omega
    ·exact h1
 refine ⟨fun m hm=> ?_,hgf,l2,l3⟩;obtain ⟨i,rfl⟩: ∃i,m=i+1:=⟨m - 1,by omega⟩;exact Sub.antisymm (fun c=>key i c (by omega)) (qBJ T j l3 hgf (i+1))
def True1 (t:Nat->Int) (n:Nat):Prop:= ∀c,c<n->j c=true->t c - T<=t (c+1)/\t (c+1)<=t c
def In (t:Nat->Int) (f:Nat->B):Prop:= ∀c,(f c).1<=t c/\t c<=(f c).2
theorem qBl {t:Nat->Int} {f:Nat->B} {c:Nat} {s:B} (h:In t f) (hs:s.1<=t c/\t c<=s.2): ∃g,narrow f c s=some g/\In t g:=by
 have h0:=h c;refine ⟨put f c (nar (f c) s),?_,fun k=> ?_⟩
 ·unfold narrow;rw [if_neg (by simp only [nar];omega)]
 ·by_cases q:k=c
  ·subst q;rw [put_at];simp only [nar];omega
  ·rw [put_ne _ _ q];exact h k
theorem qDC {t:Nat->Int} {f:Nat->B} {n:Nat} (ht:True1 T j t n) (h:In t f): ∀k,k<=n-> ∃g,sweepR T j f k=some g/\In t g
 |0,_=>⟨f,rfl,h⟩
 |k+1,hk=>by
  obtain ⟨g,e,hg⟩:=qDC ht h k (by omega);simp only [sweepR,e,xZZ];unfold stepR;split
  ·rename_i hj;have:=ht k (by omega) hj;have:=hg k;exact qBl hg (by simp only [toR];omega)
  ·exact ⟨g,rfl,hg⟩
theorem qDD {t:Nat->Int} {n:Nat} (ht:True1 T j t n): ∀(k:Nat) (f:Nat->B),In t f->k<=n-> ∃g,sweepL T j f k=some g/\In t g
 |0,f,h,_=>⟨f,rfl,h⟩
 |k+1,f,h,hk=>by
  have: ∃g,stepL T j f k=some g/\In t g:=by
   unfold stepL;split
   ·rename_i hj;have:=ht k (by omega) hj;have:=h (k+1);exact qBl h (by simp only [toL];omega)
   ·exact ⟨f,rfl,h⟩
  obtain ⟨g,e,hg⟩:=this;simp only [sweepL,e,xZZ];exact qDD ht k g hg (by omega)
end
structure Gg where
 r:Nat
 c:Nat
 seen:Int
 off:Int
abbrev Grid:=Nat->Nat->B
def Gg.span (g:Gg):B:=(g.seen - g.off,g.seen+g.off)
def putRow (G:Grid) (r:Nat) (f:Nat->B):Grid:=fun k=>if k=r then f else G k
theorem putRow_at (G:Grid) (r:Nat) (f:Nat->B):putRow G r f r=f:=by simp [putRow]
theorem putRow_ne (G:Grid) {r k:Nat} (f:Nat->B) (h:k≠r):putRow G r f k=G k:=by simp [putRow,h]
def narrowG (G:Grid) (r c:Nat) (s:B):Option Grid:=(narrow (G r) c s).map (putRow G r)
def gaugesP:Grid->List Gg->Option Grid
 |G,[]=>some G
 |G,g::l=>(narrowG G g.r g.c g.span).bind fun G'=>gaugesP G' l
def gaugesR:Grid->List Gg->Grid
 |G,[]=>G
 |G,g::l=>gaugesR (putRow G g.r (put (G g.r) g.c (nar (G g.r g.c) g.span))) l
def Ok (G:Grid):Prop:= ∀r c,(G r c).1<=(G r c).2
def SubG (G H:Grid):Prop:= ∀r,Sub (G r) (H r)
def InG (t:Nat->Nat->Int) (G:Grid):Prop:= ∀r,In (t r) (G r)
theorem qEq {G G':Grid} {r c:Nat} {s:B} (h:narrowG G r c s=some G'):G'=putRow G r (put (G r) c (nar (G r c) s))/\(nar (G r c) s).1<=(nar (G r c) s).2:=by
 unfold narrowG at h;cases hn:narrow (G r) c s with
 |none=>rw [hn] at h;cases h
 |some f=>
  rw [hn] at h;obtain ⟨h1,h2⟩:=kZ hn;simp only [xZX,Option.some.injEq] at h;exact ⟨by rw [<-h,h1],h2⟩
theorem qCS: ∀(l:List Gg) (G G':Grid),gaugesP G l=some G'->Ok G->gaugesR G l=G'/\SubG G' G/\Ok G'/\ ∀g∈l,g.span.1<=(G' g.r g.c).1/\(G' g.r g.c).2<=g.span.2
 |[],G,G',h,ho=>by
  cases h;exact ⟨rfl,fun _=>Sub.refl _,ho,fun g hg=>by cases hg⟩
 |g::l,G,G',h,ho=>by
  simp only [gaugesP] at h;cases hn:narrowG G g.r g.c g.span with
  |none=>rw [hn] at h;cases h
  |some G1=>
   rw [hn] at h;simp only [xZZ] at h;obtain ⟨rfl,hv⟩:=qEq hn;have key: ∀r c,((putRow G g.r (put (G g.r) g.c (nar (G g.r g.c) g.span))) r c)=if r=g.r/\c=g.c then nar (G g.r g.c) g.span else G r c:=fun r c=>by
    by_cases q:r=g.r
    ·subst q;rw [putRow_at];by_cases q:c=g.c
     ·subst q;rw [put_at,if_pos ⟨rfl,rfl⟩]
     ·rw [put_ne _ _ q,if_neg (fun h=>q h.2)]
    ·rw [putRow_ne _ _ q,if_neg (fun h=>q h.1)]
   obtain ⟨i1,i2,i3,i4⟩:=qCS l _ G' h (fun r c=>by
    rw [key];split
    ·exact hv
    ·exact ho r c)
   refine ⟨i1,fun r=>(i2 r).trans fun c=> ?_,i3,fun x hx=> ?_⟩
   ·rw [key];split
    ·rename_i hq;rw [hq.1,hq.2];simp only [nar];omega
    ·omega
   ·rcases List.mem_cons.1 hx with rfl|hx
    ·have:=i2 x.r x.c;rw [key,if_pos ⟨rfl,rfl⟩] at this;simp only [nar] at this;omega
    ·exact i4 x hx
theorem qCT {t:Nat->Nat->Int}: ∀(l:List Gg) (G:Grid),InG t G->(∀g∈l,g.span.1<=t g.r g.c/\t g.r g.c<=g.span.2)-> ∃G',gaugesP G l=some G'/\InG t G'
 |[],G,h,_=>⟨G,rfl,h⟩
 |g::l,G,h,hg=>by
  obtain ⟨f,e,hf⟩:=qBl (h g.r) (hg g List.mem_cons_self);have hn:narrowG G g.r g.c g.span=some (putRow G g.r f):=by unfold narrowG;rw [e];rfl
  simp only [gaugesP,hn,xZZ];refine qCT l _ (fun r=> ?_) fun x hx=>hg x (List.mem_cons_of_mem _ hx);by_cases q:r=g.r
  ·subst q;rw [putRow_at];exact hf
  ·rw [putRow_ne _ _ q];exact h r
section
variable (T:Int) (J:Nat->Nat->Bool) (n:Nat)
def rowP (G:Grid) (r:Nat):Option Grid:=(sweepR T (J r) (G r) n).bind fun f=>(sweepL T (J r) f n).map (putRow G r)
def rowsP (G:Grid):Nat->Option Grid
 |0=>some G
 |k+1=>(rowsP G k).bind fun G'=>rowP T J n G' k
theorem rowP_some {G G':Grid} {r:Nat} (h:rowP T J n G r=some G'): ∃f g,sweepR T (J r) (G r) n=some f/\sweepL T (J r) f n=some g/\G'=putRow G r g:=by
 unfold rowP at h;cases h1:sweepR T (J r) (G r) n with
 |none=>rw [h1] at h;cases h
 |some f=>
  rw [h1] at h;simp only [xZZ] at h;cases h2:sweepL T (J r) f n with
  |none=>rw [h2] at h;cases h
  |some g=>
   rw [h2] at h;simp only [xZX,Option.some.injEq] at h;exact ⟨f,g,rfl,h2,h.symm⟩
theorem qFe: ∀(k:Nat) (G G':Grid),rowsP T J n G k=some G'->(∀r,k<=r->G' r=G r)/\ ∀r,r<k-> ∃f,sweepR T (J r) (G r) n=some f/\sweepL T (J r) f n=some (G' r)
 |0,G,G',h=>by cases h;exact ⟨fun _ _=>rfl,fun r hr=>by omega⟩
 |k+1,G,G',h=>by
  simp only [rowsP] at h;cases h1:rowsP T J n G k with
  |none=>rw [h1] at h;cases h
  |some G1=>
   rw [h1] at h;simp only [xZZ] at h;obtain ⟨i1,i2⟩:=qFe k G G1 h1;obtain ⟨f,g,e1,e2,rfl⟩:=rowP_some T J n h;refine ⟨fun r hr=>by rw [putRow_ne _ _ (by omega)];exact i1 r (by omega),fun r hr=> ?_⟩;by_cases q:r=k
   ·subst q;rw [i1 r (xZY _)] at e1;exact ⟨f,e1,by rw [putRow_at];exact e2⟩
   ·rw [putRow_ne _ _ q];exact i2 r (by omega)
theorem qFf {t:Nat->Nat->Int}: ∀(k:Nat) (G:Grid),InG t G->(∀r,r<k->True1 T (J r) (t r) n)-> ∃G',rowsP T J n G k=some G'/\InG t G'
 |0,G,h,_=>⟨G,rfl,h⟩
 |k+1,G,h,ht=>by
  obtain ⟨G1,e,h1⟩:=qFf k G h (fun r hr=>ht r (by omega));obtain ⟨f,e2,h2⟩:=qDC T (J k) (ht k (by omega)) (h1 k) n (xZY _);obtain ⟨g,e3,h3⟩:=qDD T (J k) (ht k (by omega)) n f h2 (xZY _);refine ⟨putRow G1 k g,?_,fun r=> ?_⟩
  ·simp only [rowsP,e,xZZ,rowP,e2,e3,xZX]
  ·by_cases q:r=k
   ·subst q;rw [putRow_at];exact h3
   ·rw [putRow_ne _ _ q];exact h1 r
def boundP (G:Grid) (gs:List Gg) (R:Nat):Option Grid:=(gaugesP G gs).bind fun G'=>rowsP T J n G' R
def thickR (G:Grid) (gs:List Gg) (R m:Nat):Grid:=fun r=>if r<R then rounds T (J r) (gaugesR G gs r) n m else gaugesR G gs r
structure TrueG (t:Nat->Nat->Int) (gs:List Gg) (R:Nat):Prop where
 row: ∀r,r<R->True1 T (J r) (t r) n
 gs: ∀g∈gs,g.span.1<=t g.r g.c/\t g.r g.c<=g.span.2
theorem bound_ok (hT:0<=T) {G G':Grid} {gs:List Gg} {R:Nat} (ho:Ok G) (h:boundP T J n G gs R=some G') {m:Nat} (hm:n+1<=m):thickR T J n G gs R m=G'/\SubG G' G/\Ok G'/\(∀r,r<R->qBE T (J r) (G' r) n)/\TrueG T J n (fun r c=>(G' r c).1) gs R/\TrueG T J n (fun r c=>(G' r c).2) gs R:=by
 unfold boundP at h;cases h1:gaugesP G gs with
 |none=>rw [h1] at h;cases h
 |some G1=>
  rw [h1] at h;simp only [xZZ] at h;obtain ⟨g1,g2,g3,g4⟩:=qCS gs G G1 h1 ho;obtain ⟨r1,r2⟩:=qFe T J n R G1 G' h;have hrow: ∀r,r<R->(∀m,n+1<=m->rounds T (J r) (G1 r) n m=G' r)/\Sub (G' r) (G1 r)/\(∀c,(G' r c).1<=(G' r c).2)/\qBE T (J r) (G' r) n:=fun r hr=>by
   obtain ⟨f,e1,e2⟩:=r2 r hr;exact rounds_eq T (J r) hT (g3 r) e1 e2
  have hsub:SubG G' G1:=fun r=>by
   by_cases q:r<R
   ·exact (hrow r q).2.1
   ·rw [r1 r (by omega)];exact Sub.refl _
  have hok:Ok G':=fun r c=>by
   by_cases q:r<R
   ·exact (hrow r q).2.2.1 c
   ·rw [r1 r (by omega)];exact g3 r c
  refine ⟨?_,fun r=>(hsub r).trans (g2 r),hok,fun r hr=>(hrow r hr).2.2.2,⟨fun r hr c hc hj=> ?_,fun g hg=> ?_⟩,⟨fun r hr c hc hj=> ?_,fun g hg=> ?_⟩⟩
  ·funext r
   unfold thickR;rw [g1];split
   ·rename_i q;exact (hrow r q).1 m hm
   ·rename_i q;rw [r1 r (by omega)]
  ·have:=(hrow r hr).2.2.2 c hc hj;exact ⟨this.1,this.2.2.1⟩
  ·have a1:=g4 g hg;have a2:=hsub g.r g.c;have a3:=hok g.r g.c;show _<=(G' g.r g.c).1/\(G' g.r g.c).1<=_;omega
  ·have:=(hrow r hr).2.2.2 c hc hj;show (G' r c).2 - T<=(G' r (c+1)).2/\(G' r (c+1)).2<=(G' r c).2;omega
  ·have a1:=g4 g hg;have a2:=hsub g.r g.c;have a3:=hok g.r g.c;show _<=(G' g.r g.c).2/\(G' g.r g.c).2<=_;omega
theorem bound_in {t:Nat->Nat->Int} {G:Grid} {gs:List Gg} {R:Nat} (ht:TrueG T J n t gs R) (h:InG t G): ∃G',boundP T J n G gs R=some G'/\InG t G':=by
 obtain ⟨G1,e1,h1⟩:=qCT gs G h ht.gs;obtain ⟨G2,e2,h2⟩:=qFf T J n R G1 h1 ht.row;exact ⟨G2,by simp only [boundP,e1,xZZ,e2],h2⟩
end
end Go.Proofs.Th
