/- Parts of the proof, joined by a program. -/
import Derived.Orders
import Derived.Below
import Derived.Laws.CopyRow
import Derived.Laws.Cells
import Derived.Laws.Entries
import Derived.Laws.Build
import Derived.Laws.MakeOwn
import Derived.Laws.Slices
import Derived.Laws.Tables
import Derived.Laws.AppendOwn
import Derived.Laws.BytesString
import Derived.RangeFuncRecord
import Derived.RangeFuncCalls
import Derived.LoopNIn
import Derived.Scope
import Derived.RangeFuncIn
import Derived.RangeFuncLeaves
import Derived.RecoverIn
set_option linter.all false
namespace Go.Ev
inductive T (α:Type) where
 |e:T α
 |n (l:T α) (v:Option α) (r:T α):T α
namespace T
variable {α:Type}
noncomputable def get (t:T α):Nat→Option α:=
 T.rec (motive:=fun _=>Nat→Option α) (fun _=>none)
  (fun _ v _ gl gr k=>Bool.rec (motive:=fun _=>Option α) (Bool.rec (motive:=fun _=>Option α) (gr (Nat.sub (Nat.div k 2) 1)) (gl (Nat.div k 2)) (Nat.beq (Nat.mod k 2) 1)) v (Nat.beq k 0)) t
noncomputable def putE (v:Option α):Nat→Nat→T α:=
 Nat.rec (motive:=fun _=>Nat→T α) (fun _=> .n .e v .e)
  (fun _ ih k=>Bool.rec (motive:=fun _=>T α) (Bool.rec (motive:=fun _=>T α) (.n .e none (ih (Nat.sub (Nat.div k 2) 1))) (.n (ih (Nat.div k 2)) none .e) (Nat.beq (Nat.mod k 2) 1)) (.n .e v .e) (Nat.beq k 0))
noncomputable def put (t:T α) (v:Option α):Nat→T α:=
 T.rec (motive:=fun _=>Nat→T α) (fun k=>putE v k k)
  (fun l u r sl sr k=>Bool.rec (motive:=fun _=>T α) (Bool.rec (motive:=fun _=>T α) (.n l u (sr (Nat.sub (Nat.div k 2) 1))) (.n (sl (Nat.div k 2)) u r) (Nat.beq (Nat.mod k 2) 1)) (.n l v r) (Nat.beq k 0)) t
theorem brec {β:Type} (b:Bool) (x y:β):Bool.rec (motive:=fun _=>β) x y b=(bif b then y else x):=by cases b<;>rfl
@[simp] theorem get_e (k:Nat):(T.e:T α).get k=none:=rfl
theorem get_n (l:T α) (v:Option α) (r:T α) (k:Nat):
  (T.n l v r).get k=if k=0 then v else if k % 2=1 then l.get (k / 2) else r.get (k / 2 - 1):=by
 have e:(T.n l v r).get k=Bool.rec (motive:=fun _=>Option α) (Bool.rec (motive:=fun _=>Option α) (r.get (k / 2 - 1)) (l.get (k / 2)) (Nat.beq (k % 2) 1)) v (Nat.beq k 0):=rfl;rw [e,brec,brec];by_cases h:k=0
 ·subst h;rfl
 ·have h1:Nat.beq k 0=false:=by cases hb:Nat.beq k 0;rfl;exact absurd (Nat.eq_of_beq_eq_true hb) h
  rw [h1,if_neg h];by_cases h2:k % 2=1
  ·rw [h2,if_pos rfl];rfl
  ·have h3:Nat.beq (k % 2) 1=false:=by cases hb:Nat.beq (k % 2) 1;rfl;exact absurd (Nat.eq_of_beq_eq_true hb) h2
   rw [h3,if_neg h2];rfl
theorem putE_succ (v:Option α) (f k:Nat):
  putE v (f+1) k=if k=0 then .n .e v .e else if k % 2=1 then .n (putE v f (k / 2)) none .e else .n .e none (putE v f (k / 2 - 1)):=by
 have e:putE v (f+1) k=Bool.rec (motive:=fun _=>T α) (Bool.rec (motive:=fun _=>T α) (.n .e none (putE v f (k / 2 - 1))) (.n (putE v f (k / 2)) none .e) (Nat.beq (k % 2) 1)) (.n .e v .e) (Nat.beq k 0):=rfl;rw [e,brec,brec];by_cases h:k=0
 ·subst h;rfl
 ·have h1:Nat.beq k 0=false:=by cases hb:Nat.beq k 0;rfl;exact absurd (Nat.eq_of_beq_eq_true hb) h
  rw [h1,if_neg h];by_cases h2:k % 2=1
  ·rw [h2,if_pos rfl];rfl
  ·have h3:Nat.beq (k % 2) 1=false:=by cases hb:Nat.beq (k % 2) 1;rfl;exact absurd (Nat.eq_of_beq_eq_true hb) h2
   rw [h3,if_neg h2];rfl
theorem put_n (l:T α) (u:Option α) (r:T α) (v:Option α) (k:Nat):
  (T.n l u r).put v k=if k=0 then .n l v r else if k % 2=1 then .n (l.put v (k / 2)) u r else .n l u (r.put v (k / 2 - 1)):=by
 have e:(T.n l u r).put v k=Bool.rec (motive:=fun _=>T α) (Bool.rec (motive:=fun _=>T α) (.n l u (r.put v (k / 2 - 1))) (.n (l.put v (k / 2)) u r) (Nat.beq (k % 2) 1)) (.n l v r) (Nat.beq k 0):=rfl;rw [e,brec,brec];by_cases h:k=0
 ·subst h;rfl
 ·have h1:Nat.beq k 0=false:=by cases hb:Nat.beq k 0;rfl;exact absurd (Nat.eq_of_beq_eq_true hb) h
  rw [h1,if_neg h];by_cases h2:k % 2=1
  ·rw [h2,if_pos rfl];rfl
  ·have h3:Nat.beq (k % 2) 1=false:=by cases hb:Nat.beq (k % 2) 1;rfl;exact absurd (Nat.eq_of_beq_eq_true hb) h2
   rw [h3,if_neg h2];rfl
theorem get_putE (v:Option α): ∀(f k j:Nat),k≤f→(putE v f k).get j=if j=k then v else none
 |0,k,j,h=>by
  have hk:k=0:=by omega
  subst hk;show (T.n .e v .e).get j=_;rw [get_n];by_cases hj:j=0<;>simp [hj]
 |f+1,k,j,h=>by
  rw [putE_succ];by_cases hk:k=0
  ·subst hk;rw [if_pos rfl,get_n];by_cases hj:j=0<;>simp [hj]
  ·rw [if_neg hk];by_cases h2:k % 2=1
   ·rw [if_pos h2,get_n];by_cases hj:j=0
    ·subst hj;rw [if_pos rfl,if_neg (Ne.symm hk)]
    ·rw [if_neg hj];by_cases hj2:j % 2=1
     ·rw [if_pos hj2,get_putE v f _ _ (by omega)];by_cases e:j / 2=k / 2
      ·rw [if_pos e,if_pos (by omega)]
      ·rw [if_neg e,if_neg (by omega)]
     ·rw [if_neg hj2,if_neg (by intro e;subst e;exact hj2 h2)];rfl
   ·rw [if_neg h2,get_n];by_cases hj:j=0
    ·subst hj;rw [if_pos rfl,if_neg (Ne.symm hk)]
    ·rw [if_neg hj];by_cases hj2:j % 2=1
     ·rw [if_pos hj2,if_neg (by intro e;subst e;exact h2 hj2)];rfl
     ·rw [if_neg hj2,get_putE v f _ _ (by omega)];by_cases e:j / 2 - 1=k / 2 - 1
      ·rw [if_pos e,if_pos (by omega)]
      ·rw [if_neg e,if_neg (by omega)]
theorem get_put (t:T α) (v:Option α): ∀(k j:Nat),(t.put v k).get j=if j=k then v else t.get j:=by
 induction t with
 |e=>intro k j;exact (get_putE v k k j (Nat.le_refl _)).trans (by simp)
 |n l u r ihl ihr=>
  intro k j;rw [put_n];by_cases hk:k=0
  ·subst hk;rw [if_pos rfl,get_n,get_n];by_cases hj:j=0<;>simp [hj]
  ·rw [if_neg hk];by_cases h2:k % 2=1
   ·rw [if_pos h2,get_n,get_n];by_cases hj:j=0
    ·subst hj;simp [Ne.symm hk]
    ·rw [if_neg hj,if_neg hj];by_cases hj2:j % 2=1
     ·rw [if_pos hj2,if_pos hj2,ihl];by_cases e:j / 2=k / 2
      ·rw [if_pos e,if_pos (by omega)]
      ·rw [if_neg e,if_neg (by omega)]
     ·rw [if_neg hj2,if_neg hj2,if_neg (by intro e;subst e;exact hj2 h2)]
   ·rw [if_neg h2,get_n,get_n];by_cases hj:j=0
    ·subst hj;simp [Ne.symm hk]
    ·rw [if_neg hj,if_neg hj];by_cases hj2:j % 2=1
     ·rw [if_pos hj2,if_pos hj2,if_neg (by intro e;subst e;exact h2 hj2)]
     ·rw [if_neg hj2,if_neg hj2,ihr];by_cases e:j / 2 - 1=k / 2 - 1
      ·rw [if_pos e,if_pos (by omega)]
      ·rw [if_neg e,if_neg (by omega)]
end T
end Go.Ev
noncomputable section
namespace Go.Ev
inductive AV where
 |val (v:Value)
 |ptr (b off:Nat)
 |sl (b off len esz:Nat)
 |mp (b:Nat)
 |fn (f:Fn) (first captured:List AV)
 |yld (l:Nat)
 |ifc (t:TypeId) (v:AV)
 |agg (cs:List AV)
 |tup (vs:List AV)
instance:Inhabited AV:=⟨.val (.tuple #[])⟩
structure Ctx where
 dom:Nat→Prop
 ρ:Nat→Nat
 sz:Nat→Nat
 ext:Addr→Option Value
mutual
def R (c:Ctx):AV→Value→Prop
 | .val v,x=>x=v
 | .ptr b off,x=>c.dom b∧x= .pointer (some ⟨c.ρ b,off,none⟩)
 | .sl b off len esz,x=>c.dom b∧ ∃ad cap,x= .slice (some ad) len cap∧len≤cap∧(0<cap→ad=⟨c.ρ b,off,none⟩)∧off+cap*esz≤c.sz b
 | .mp b,x=>c.dom b∧x= .map (some (c.ρ b))
 | .fn f fs cs,x=> ∃fs' cs':List Value,x= .func f fs'.toArray cs'.toArray∧RL c fs fs'∧RL c cs cs'
 | .yld l,x=>c.dom l∧x= .func (.yield (c.ρ l)) #[] #[]
 | .ifc t v,x=> ∃y,x= .iface t y∧R c v y
 | .agg cs,x=> ∃xs:List Value,x= .agg xs.toArray∧RL c cs xs
 | .tup vs,x=> ∃xs:List Value,x= .tuple xs.toArray∧RL c vs xs
def RL (c:Ctx):List AV→List Value→Prop
 |[],xs=>xs=[]
 |a::as,xs=> ∃y ys,xs=y::ys∧R c a y∧RL c as ys
end
structure Ext (c c':Ctx):Prop where
 dom: ∀k,c.dom k→c'.dom k
 ρ: ∀k,c.dom k→c'.ρ k=c.ρ k
 sz: ∀k,c.dom k→c'.sz k=c.sz k
 ext: ∀a v,c.ext a=some v→c'.ext a=some v
 same:c'.ext=c.ext
theorem Ext.refl (c:Ctx):Ext c c:=⟨fun _ h=>h,fun _ _=>rfl,fun _ _=>rfl,fun _ _ h=>h,rfl⟩
theorem Ext.trans {a b c:Ctx} (h:Ext a b) (k:Ext b c):Ext a c:=
 ⟨fun i hi=>k.dom i (h.dom i hi),fun i hi=>(k.ρ i (h.dom i hi)).trans (h.ρ i hi),fun i hi=>(k.sz i (h.dom i hi)).trans (h.sz i hi),fun x v e=>k.ext x v (h.ext x v e),k.same.trans h.same⟩
mutual
theorem R.mono {c c':Ctx} (e:Ext c c'): ∀(a:AV) (x:Value),R c a x→R c' a x
 | .val v,x,h=>h
 | .ptr b off,x,h=>by
  simp only [R] at h ⊢;exact ⟨e.dom _ h.1,by rw [e.ρ b h.1];exact h.2⟩
 | .sl b off len esz,x,h=>by
  simp only [R] at h ⊢;exact ⟨e.dom _ h.1,by rw [e.ρ b h.1,e.sz b h.1];exact h.2⟩
 | .mp b,x,h=>by
  simp only [R] at h ⊢;exact ⟨e.dom _ h.1,by rw [e.ρ b h.1];exact h.2⟩
 | .fn f fs cs,x,h=>by
  simp only [R] at h ⊢;obtain ⟨fs',cs',hx,h1,h2⟩:=h;exact ⟨fs',cs',hx,RL.mono e fs fs' h1,RL.mono e cs cs' h2⟩
 | .yld l,x,h=>by
  simp only [R] at h ⊢;exact ⟨e.dom _ h.1,by rw [e.ρ l h.1];exact h.2⟩
 | .ifc t v,x,h=>by
  simp only [R] at h ⊢;obtain ⟨y,hx,h1⟩:=h;exact ⟨y,hx,R.mono e v y h1⟩
 | .agg cs,x,h=>by
  simp only [R] at h ⊢;obtain ⟨xs,hx,h1⟩:=h;exact ⟨xs,hx,RL.mono e cs xs h1⟩
 | .tup vs,x,h=>by
  simp only [R] at h ⊢;obtain ⟨xs,hx,h1⟩:=h;exact ⟨xs,hx,RL.mono e vs xs h1⟩
theorem RL.mono {c c':Ctx} (e:Ext c c'): ∀(as:List AV) (xs:List Value),RL c as xs→RL c' as xs
 |[],xs,h=>h
 |a::as,xs,h=>by
  simp only [RL] at h ⊢;obtain ⟨y,ys,hx,h1,h2⟩:=h;exact ⟨y,ys,hx,R.mono e a y h1,RL.mono e as ys h2⟩
end
section
variable {c:Ctx}
theorem RL.length: ∀{as:List AV} {xs:List Value},RL c as xs→xs.length=as.length
 |[],xs,h=>by simp only [RL] at h;rw [h];rfl
 |a::as,xs,h=>by
  simp only [RL] at h;obtain ⟨y,ys,rfl,_,h2⟩:=h;simp [h2.length]
theorem RL.nil:RL c [] []:=by simp only [RL]
theorem RL.cons {a:AV} {x:Value} {as:List AV} {xs:List Value} (h:R c a x) (t:RL c as xs):RL c (a::as) (x::xs):=by
 simp only [RL];exact ⟨x,xs,rfl,h,t⟩
theorem RL.append: ∀{as:List AV} {xs:List Value} {bs:List AV} {ys:List Value},RL c as xs→RL c bs ys→RL c (as++bs) (xs++ys)
 |[],xs,bs,ys,h,k=>by simp only [RL] at h;subst h;exact k
 |a::as,xs,bs,ys,h,k=>by
  simp only [RL] at h;obtain ⟨y,xs',rfl,h1,h2⟩:=h;exact RL.cons h1 (RL.append h2 k)
theorem RL.get: ∀{as:List AV} {xs:List Value} {i:Nat} {a:AV},RL c as xs→as[i]? =some a→ ∃x,xs[i]? =some x∧R c a x
 |[],xs,i,a,h,e=>by simp at e
 |b::as,xs,0,a,h,e=>by
  simp only [RL] at h;obtain ⟨y,ys,rfl,h1,_⟩:=h;simp at e;subst e;exact ⟨y,rfl,h1⟩
 |b::as,xs,i+1,a,h,e=>by
  simp only [RL] at h;obtain ⟨y,ys,rfl,_,h2⟩:=h;simp at e;obtain ⟨x,hx,hr⟩:=RL.get h2 e;exact ⟨x,by simpa using hx,hr⟩
theorem RL.of_get: ∀{as:List AV} {xs:List Value},xs.length=as.length→(∀(i:Nat) (a:AV) (x:Value),as[i]? =some a→xs[i]? =some x→R c a x)→RL c as xs
 |[],xs,h,_=>by simp only [RL];exact List.eq_nil_of_length_eq_zero (by simpa using h)
 |a::as,[],h,_=>by simp at h
 |a::as,x::xs,h,k=>RL.cons (k 0 a x rfl rfl) (RL.of_get (by simpa using h) fun i b y hb hy=>k (i+1) b y (by simpa using hb) (by simpa using hy))
theorem RL.take {as:List AV} {xs:List Value} (h:RL c as xs) (n:Nat):RL c (as.take n) (xs.take n):=by
 refine RL.of_get (by simp [h.length]) fun i a x ha hx=> ?_;rw [List.getElem?_take] at ha hx;by_cases hi:i<n
 ·rw [if_pos hi] at ha hx;obtain ⟨y,hy,hr⟩:=h.get ha;rw [hx] at hy;cases hy;exact hr
 ·rw [if_neg hi] at ha;cases ha
theorem RL.drop {as:List AV} {xs:List Value} (h:RL c as xs) (n:Nat):RL c (as.drop n) (xs.drop n):=by
 refine RL.of_get (by simp [h.length]) fun i a x ha hx=> ?_;rw [List.getElem?_drop] at ha hx;obtain ⟨y,hy,hr⟩:=h.get ha;rw [hx] at hy;cases hy;exact hr
theorem RL.set {as:List AV} {xs:List Value} (h:RL c as xs) (n:Nat) {a:AV} {x:Value} (hr:R c a x):RL c (as.set n a) (xs.set n x):=by
 refine RL.of_get (by simp [h.length]) fun i b y hb hy=> ?_;rw [List.getElem?_set] at hb hy;by_cases hi:n=i
 ·rw [if_pos hi] at hb hy;subst hi;split at hb
  ·rename_i hl;rw [if_pos (by rw [h.length];exact hl)] at hy;cases hb;cases hy;exact hr
  ·cases hb
 ·rw [if_neg hi] at hb hy;obtain ⟨z,hz,hr'⟩:=h.get hb;rw [hy] at hz;cases hz;exact hr'
theorem RL.map_val (xs:List Value):RL c (xs.map .val) xs:=by
 induction xs with
 |nil=>exact RL.nil
 |cons x xs ih=>exact RL.cons (by simp only [R]) ih
end
structure ALoop where
 state:LoopState
 pending:Option Code
 tmps:T AV
 nt:Nat
 params:Array Tmp
 assign:Code
 body:Code
 defers:Nat
 nf:Nat
inductive AO where
 |cells (cs:List AV) (elem:TypeId)
 |map (es:List (AV×AV))
 |siter (s:ByteArray) (pos:Nat)
 |loop (l:ALoop)
 |deferred
 |fz (bs:List UInt8) (elem:TypeId)
structure Hp where
 t:T AO
 n:Nat
structure TR (c:Ctx) (nt:Nat) (tm:T AV) (arr:Array Value):Prop where
 size:arr.size=nt
 at_: ∀t,R c ((tm.get t).getD default) (arr.getD t undef)
theorem TR.mono {c c':Ctx} (e:Ext c c') {nt:Nat} {tm:T AV} {arr:Array Value} (h:TR c nt tm arr):TR c' nt tm arr:=
 ⟨h.size,fun t=>R.mono e _ _ (h.at_ t)⟩
theorem TR.put {c:Ctx} {nt:Nat} {tm:T AV} {arr:Array Value} (h:TR c nt tm arr) {d:Nat} (hd:d<nt) {a:AV} {x:Value} (hr:R c a x):
  TR c nt (tm.put (some a) d) (arr.setIfInBounds d x):=by
 refine ⟨by simp [h.size],fun t=> ?_⟩;rw [T.get_put];by_cases e:t=d
 ·subst e;simp [h.size,hd,hr]
 ·rw [if_neg e];have:=h.at_ t;simpa [Array.getElem?_setIfInBounds_ne (Ne.symm e)] using this
def ROMap (c:Ctx):List (AV×AV)→List MapEntry→Prop
 |[],xs=>xs=[]
 |(k,v)::es,xs=> ∃y ys,xs=y::ys∧R c k y.key∧R c v y.val∧ROMap c es ys
theorem ROMap.mono {c c':Ctx} (e:Ext c c'): ∀{es:List (AV×AV)} {xs:List MapEntry},ROMap c es xs→ROMap c' es xs
 |[],xs,h=>h
 |(k,v)::es,xs,h=>by
  simp only [ROMap] at h ⊢;obtain ⟨y,ys,hx,h1,h2,h3⟩:=h;exact ⟨y,ys,hx,R.mono e _ _ h1,R.mono e _ _ h2,ROMap.mono e h3⟩
def RO (c:Ctx) (k:Nat):AO→Obj→Prop
 | .cells cs elem,o=> ∃xs:Array Value,o= .cells xs elem (0,0)∧xs.size=c.sz k∧cs.length≤xs.size∧RL c cs (xs.toList.take cs.length)
 | .map es,o=> ∃(xs:Array MapEntry) (clock:Nat),o= .map xs clock∧ROMap c es xs.toList
 | .siter s pos,o=>o= .stringIter s pos
 | .loop l,o=> ∃(tmps:Array Value) (fn:FuncId),TR c l.nt l.tmps tmps∧c.dom l.defers∧fn<l.nf∧
   o= .loop {state:=l.state,pending:=l.pending,fn:=fn,tmps,params:=l.params,assign:=l.assign,body:=l.body,defers:=c.ρ l.defers}
 | .deferred,o=>o= .deferred (some [])
 | .fz bs elem,o=> ∃(xs:Array Value) (z:Nat×Nat),o= .cells xs elem z∧xs.size=c.sz k∧xs.size≤z.1∧bs.length≤xs.size∧xs.toList.take bs.length=bs.map fun b=> .int .u8 (b.toNat:Int)
theorem RO.mono {c c':Ctx} (e:Ext c c') {k:Nat} (hk:c.dom k): ∀{a:AO} {o:Obj},RO c k a o→RO c' k a o
 | .cells cs elem,o,h=>by
  simp only [RO] at h ⊢;obtain ⟨xs,h1,h2,h3,h4⟩:=h;exact ⟨xs,h1,by rw [e.sz k hk];exact h2,h3,RL.mono e _ _ h4⟩
 | .map es,o,h=>by
  simp only [RO] at h ⊢;obtain ⟨xs,cl,h1,h2⟩:=h;exact ⟨xs,cl,h1,ROMap.mono e h2⟩
 | .siter s pos,o,h=>h
 | .loop l,o,h=>by
  simp only [RO] at h ⊢;obtain ⟨tmps,fn,h1,h2,h4,h3⟩:=h;exact ⟨tmps,fn,h1.mono e,e.dom _ h2,h4,by rw [e.ρ _ h2];exact h3⟩
 | .deferred,o,h=>h
 | .fz bs elem,o,h=>by
  simp only [RO] at h ⊢;obtain ⟨xs,z,h1,h2,h3⟩:=h;exact ⟨xs,z,h1,by rw [e.sz k hk];exact h2,h3⟩
structure Good (lim:Nat) (c:Ctx) (h:Hp) (w:World):Prop where
 fresh: ∀k,h.n≤k→k<lim→ ¬c.dom k
 live: ∀k o,h.t.get k=some o→c.dom k∧ ∃o',w.heap[c.ρ k]? =some o'∧RO c k o o'
 inj: ∀k k' o o',h.t.get k=some o→h.t.get k'=some o'→c.ρ k=c.ρ k'→k=k'
 ext: ∀a v,c.ext a=some v→w.cell? a=some v∧ ∀k o,h.t.get k=some o→c.ρ k≠a.block
structure Stp (lim:Nat) (c:Ctx) (h:Hp) (w:World) (c':Ctx) (h':Hp) (w':World):Prop where
 e:Ext c c'
 good:Good lim c' h' w'
 n:h.n≤h'.n
 grow: ∀k,c'.dom k→c.dom k∨(h.n≤k∧k<h'.n)
 os:w'.os=w.os
 tape:w'.tape=w.tape
 output:w'.output=w.output
 size:w.heap.size≤w'.heap.size
 fr: ∀b,b<w.heap.size→(∀k o,h.t.get k=some o→c.ρ k≠b)→w'.heap[b]? =w.heap[b]?
 img: ∀k o,h'.t.get k=some o→w.heap.size≤c'.ρ k∨ ∃k0 o0,h.t.get k0=some o0∧c.ρ k0=c'.ρ k
 sub: ∀k o,h'.t.get k=some o→(∃o0,h.t.get k=some o0)∨(h.n≤k∧k<h'.n)
theorem Stp.refl {lim:Nat} {c:Ctx} {h:Hp} {w:World} (g:Good lim c h w):Stp lim c h w c h w:=
 ⟨Ext.refl c,g,Nat.le_refl _,fun _ hk=> .inl hk,rfl,rfl,rfl,Nat.le_refl _,fun _ _ _=>rfl,fun k o e=> .inr ⟨k,o,e,rfl⟩,fun _ o e=> .inl ⟨o,e⟩⟩
theorem Stp.trans {lim:Nat} {c c1 c2:Ctx} {h h1 h2:Hp} {w w1 w2:World} (a:Stp lim c h w c1 h1 w1) (b:Stp lim c1 h1 w1 c2 h2 w2):Stp lim c h w c2 h2 w2:=by
 refine ⟨a.e.trans b.e,b.good,Nat.le_trans a.n b.n,fun k hk=> ?_,b.os.trans a.os,b.tape.trans a.tape,b.output.trans a.output,Nat.le_trans a.size b.size,fun x hx hn=> ?_,fun k o hk=> ?_,fun k o hk=> ?_⟩
 ·have h1:=a.n;have h2:=b.n;rcases b.grow k hk with hh|hh
  ·rcases a.grow k hh with hh|hh
   ·exact .inl hh
   ·exact .inr ⟨hh.1,by omega⟩
  ·exact .inr ⟨by omega,hh.2⟩
 ·have h1': ∀k o,h1.t.get k=some o→c1.ρ k≠x:=fun k o hk he=>by
   rcases a.img k o hk with hh|⟨k0,o0,hk0,he0⟩
   ·omega
   ·exact hn k0 o0 hk0 (he0.trans he)
  exact (b.fr x (Nat.lt_of_lt_of_le hx a.size) h1').trans (a.fr x hx hn)
 ·rcases b.img k o hk with hh|⟨k0,o0,hk0,he0⟩
  ·exact .inl (Nat.le_trans a.size hh)
  ·rcases a.img k0 o0 hk0 with hh|⟨k1,o1,hk1,he1⟩
   ·exact .inl (by rw [←he0];exact hh)
   ·exact .inr ⟨k1,o1,hk1,he1.trans he0⟩
 ·have h1':=a.n;have h2':=b.n;rcases b.sub k o hk with ⟨o0,h0⟩|hh
  ·rcases a.sub k o0 h0 with hh|hh
   ·exact .inl hh
   ·exact .inr ⟨hh.1,by omega⟩
  ·exact .inr ⟨by omega,hh.2⟩
theorem Stp.drawn {lim:Nat} {c:Ctx} {h:Hp} {w:World} (g:Good lim c h w) (d:Nat):Stp lim c h w c h {w with drawn:=d}:=
 ⟨Ext.refl c,⟨g.fresh,g.live,g.inj,g.ext⟩,Nat.le_refl _,fun _ hk=> .inl hk,rfl,rfl,rfl,Nat.le_refl _,fun _ _ _=>rfl,fun k o e=> .inr ⟨k,o,e,rfl⟩,fun _ o e=> .inl ⟨o,e⟩⟩
def Hp.del (h:Hp) (k:Nat):Hp:={h with t:=h.t.put none k}
def Hp.set (h:Hp) (k:Nat) (o:AO):Hp:={h with t:=h.t.put (some o) k}
def Hp.new (h:Hp) (o:AO):Hp:={t:=h.t.put (some o) h.n,n:=h.n+1}
theorem Good.del {lim:Nat} {c:Ctx} {h:Hp} {w:World} (g:Good lim c h w) (k:Nat):Good lim c (h.del k) w:=by
 have hl: ∀j o,(h.del k).t.get j=some o→h.t.get j=some o:=fun j o e=>by
  simp only [Hp.del,T.get_put] at e;split at e
  ·cases e
  ·exact e
 exact ⟨g.fresh,fun j o e=>g.live j o (hl j o e),fun j j' o o' e e'=>g.inj j j' o o' (hl j o e) (hl j' o' e'),fun a v e=>⟨(g.ext a v e).1,fun j o e'=>(g.ext a v e).2 j o (hl j o e')⟩⟩
theorem Stp.del {lim:Nat} {c:Ctx} {h:Hp} {w:World} (g:Good lim c h w) (k:Nat):Stp lim c h w c (h.del k) w:=by
 refine ⟨Ext.refl c,g.del k,Nat.le_refl _,fun _ hk=> .inl hk,rfl,rfl,rfl,Nat.le_refl _,fun _ _ _=>rfl,fun j o e=> .inr ⟨j,o,?_,rfl⟩,fun j o e=> .inl ⟨o,?_⟩⟩;all_goals
  simp only [Hp.del,T.get_put] at e;split at e
  ·cases e
  ·exact e
def Ctx.new (c:Ctx) (k b sz:Nat):Ctx:={c with dom:=fun j=>c.dom j∨j=k,ρ:=fun j=>if j=k then b else c.ρ j,sz:=fun j=>if j=k then sz else c.sz j}
theorem Ctx.ext_new {c:Ctx} {k:Nat} (hk: ¬c.dom k) (b sz:Nat):Ext c (c.new k b sz):=
 ⟨fun _ h=> .inl h,fun j hj=>by simp only [Ctx.new];rw [if_neg (by rintro rfl;exact hk hj)],fun j hj=>by simp only [Ctx.new];rw [if_neg (by rintro rfl;exact hk hj)],fun _ _ e=>e,rfl⟩
@[simp] theorem Ctx.new_ρ (c:Ctx) (k b sz:Nat):(c.new k b sz).ρ k=b:=by simp [Ctx.new]
@[simp] theorem Ctx.new_sz (c:Ctx) (k b sz:Nat):(c.new k b sz).sz k=sz:=by simp [Ctx.new]
theorem Good.not_dom {lim:Nat} {c:Ctx} {h:Hp} {w:World} (g:Good lim c h w) (hl:h.n<lim): ¬c.dom h.n:=g.fresh _ (Nat.le_refl _) hl
theorem Stp.alloc {lim:Nat} {c:Ctx} {h:Hp} {w:World} (g:Good lim c h w) (hlim:h.n<lim) (o:AO) (o':Obj) (sz:Nat) (hr:RO (c.new h.n w.heap.size sz) h.n o o'):
  Stp lim c h w (c.new h.n w.heap.size sz) (h.new o) {w with heap:=w.heap.push o'}:=by
 have hnd:=g.not_dom hlim;have hx:=Ctx.ext_new hnd w.heap.size sz;have hlt: ∀k o,h.t.get k=some o→c.ρ k<w.heap.size:=fun k o e=>by
  obtain ⟨_,o',ho,_⟩:=g.live k o e;exact (Array.getElem?_eq_some_iff.1 ho).1
 have hgl: ∀k ob,(h.new o).t.get k=some ob→(k=h.n∧ob=o)∨(c.dom k∧h.t.get k=some ob):=fun k ob e=>by
  simp only [Hp.new,T.get_put] at e;split at e
  ·rename_i hk;cases e;exact .inl ⟨hk,rfl⟩
  ·exact .inr ⟨(g.live k ob e).1,e⟩
 refine ⟨hx,⟨fun k h1 h2=> ?_,fun k ob e=> ?_,fun k k' ob ob' e e' he=> ?_,fun a v e=> ?_⟩,by simp [Hp.new],fun k hk=> ?_,rfl,rfl,rfl,by simp,fun b hb _=> ?_,fun k ob e=> ?_,fun k ob e=> ?_⟩
 ·simp only [Hp.new] at h1;rintro (hd|hd)
  ·exact g.fresh k (by omega) h2 hd
  ·omega
 ·rcases hgl k ob e with ⟨rfl,rfl⟩|⟨hk,e⟩
  ·exact ⟨.inr rfl,o',by simp,hr⟩
  ·obtain ⟨_,o1,ho1,hr1⟩:=g.live k ob e;refine ⟨.inl hk,o1,?_,RO.mono hx hk hr1⟩;rw [hx.ρ k hk];simp only [Array.getElem?_push];rw [if_neg (Nat.ne_of_lt (hlt k ob e))];exact ho1
 ·rcases hgl k ob e with ⟨rfl,rfl⟩|⟨hk,e1⟩<;>rcases hgl k' ob' e' with ⟨rfl,rfl⟩|⟨hk',e2⟩
  ·rfl
  ·have h1:=hlt k' ob' e2;rw [Ctx.new_ρ,hx.ρ k' hk'] at he;omega
  ·have h1:=hlt k ob e1;rw [Ctx.new_ρ,hx.ρ k hk] at he;omega
  ·rw [hx.ρ k hk,hx.ρ k' hk'] at he;exact g.inj k k' ob ob' e1 e2 he
 ·have hc:=(g.ext a v e).1;have hab:a.block<w.heap.size:=by
   unfold World.cell? at hc;split at hc
   ·rename_i hb;exact (Array.getElem?_eq_some_iff.1 hb).1
   ·cases hc
  refine ⟨?_,fun k ob ek=> ?_⟩
  ·rw [←hc];exact World.cell?_of_block (by simp only [Array.getElem?_push];rw [if_neg (Nat.ne_of_lt hab)])
  ·rcases hgl k ob ek with ⟨rfl,rfl⟩|⟨hk,ek⟩
   ·rw [Ctx.new_ρ];omega
   ·rw [hx.ρ k hk];exact (g.ext a v e).2 k ob ek
 ·rcases hk with hk|rfl
  ·exact .inl hk
  ·exact .inr ⟨Nat.le_refl _,by simp [Hp.new]⟩
 ·simp only [Array.getElem?_push];rw [if_neg (Nat.ne_of_lt hb)]
 ·rcases hgl k ob e with ⟨rfl,rfl⟩|⟨hk,e⟩
  ·exact .inl (by simp)
  ·exact .inr ⟨k,ob,e,(hx.ρ k hk).symm⟩
 ·rcases hgl k ob e with ⟨rfl,rfl⟩|⟨hk,e⟩
  ·exact .inr ⟨Nat.le_refl _,by simp [Hp.new]⟩
  ·exact .inl ⟨ob,e⟩
theorem Stp.kill {lim:Nat} {c:Ctx} {h:Hp} {w w':World} (g:Good lim c h w) {k:Nat} {o:AO} (hk:h.t.get k=some o) (o':Obj)
  (hw:w'={w with heap:=w.heap.setIfInBounds (c.ρ k) o'}):Stp lim c h w c (h.del k) w':=by
 subst hw;have hgl: ∀j ob,(h.del k).t.get j=some ob→j≠k∧h.t.get j=some ob:=fun j ob e=>by
  simp only [Hp.del,T.get_put] at e;split at e
  ·cases e
  ·rename_i hj;exact ⟨hj,e⟩
 refine ⟨Ext.refl c,⟨g.fresh,fun j ob e=> ?_,fun j j' ob ob' e e' he=>g.inj j j' ob ob' (hgl j ob e).2 (hgl j' ob' e').2 he,fun a v e=> ?_⟩,Nat.le_refl _,fun _ hk=> .inl hk,rfl,rfl,rfl,by simp,fun b hb hn=> ?_,fun j ob e=> .inr ⟨j,ob,(hgl j ob e).2,rfl⟩,fun j ob e=> .inl ⟨ob,(hgl j ob e).2⟩⟩
 ·obtain ⟨hj,e⟩:=hgl j ob e;obtain ⟨h1,o2,ho2,hr2⟩:=g.live j ob e;refine ⟨h1,o2,?_,hr2⟩;rw [Array.getElem?_setIfInBounds_ne (fun he=>hj (g.inj j k ob o e hk he.symm))];exact ho2
 ·refine ⟨?_,fun j ob ej=>(g.ext a v e).2 j ob (hgl j ob ej).2⟩;rw [←(g.ext a v e).1];exact World.cell?_of_block (Array.getElem?_setIfInBounds_ne ((g.ext a v e).2 k o hk))
 ·exact Array.getElem?_setIfInBounds_ne (hn k o hk)
theorem Stp.write {lim:Nat} {c:Ctx} {h:Hp} {w w':World} (g:Good lim c h w) {k:Nat} {o:AO} (o1:AO) (hk:h.t.get k=some o) (o':Obj) (hr:RO c k o1 o')
  (hw:w'={w with heap:=w.heap.setIfInBounds (c.ρ k) o'}):Stp lim c h w c (h.set k o1) w':=by
 subst hw;have hkl:c.ρ k<w.heap.size:=by
  obtain ⟨_,o',ho,_⟩:=g.live k o hk;exact (Array.getElem?_eq_some_iff.1 ho).1
 have hgl: ∀j ob,(h.set k o1).t.get j=some ob→(j=k∧ob=o1)∨(j≠k∧h.t.get j=some ob):=fun j ob e=>by
  simp only [Hp.set,T.get_put] at e;split at e
  ·rename_i hj;cases e;exact .inl ⟨hj,rfl⟩
  ·rename_i hj;exact .inr ⟨hj,e⟩
 have hold: ∀j ob,(h.set k o1).t.get j=some ob→ ∃ob',h.t.get j=some ob':=fun j ob e=>by
  rcases hgl j ob e with ⟨rfl,_⟩|⟨_,e⟩
  ·exact ⟨o,hk⟩
  ·exact ⟨ob,e⟩
 refine ⟨Ext.refl c,⟨g.fresh,fun j ob e=> ?_,fun j j' ob ob' e e' he=> ?_,fun a v e=> ?_⟩,Nat.le_refl _,fun _ hk=> .inl hk,rfl,rfl,rfl,by simp,fun b hb hn=> ?_,fun j ob e=> ?_,fun j ob e=> .inl (hold j ob e)⟩
 ·rcases hgl j ob e with ⟨rfl,rfl⟩|⟨hj,e⟩
  ·exact ⟨(g.live j o hk).1,o',by simp [hkl],hr⟩
  ·obtain ⟨h1,o2,ho2,hr2⟩:=g.live j ob e;refine ⟨h1,o2,?_,hr2⟩;rw [Array.getElem?_setIfInBounds_ne (fun he=>hj (g.inj j k ob o e hk he.symm))];exact ho2
 ·obtain ⟨x,hx⟩:=hold j ob e;obtain ⟨y,hy⟩:=hold j' ob' e';exact g.inj j j' x y hx hy he
 ·refine ⟨?_,fun j ob ej=>by obtain ⟨x,hx⟩:=hold j ob ej;exact (g.ext a v e).2 j x hx⟩;rw [←(g.ext a v e).1];exact World.cell?_of_block (Array.getElem?_setIfInBounds_ne ((g.ext a v e).2 k o hk))
 ·exact Array.getElem?_setIfInBounds_ne (hn k o hk)
 ·obtain ⟨x,hx⟩:=hold j ob e;exact .inr ⟨j,x,hx,rfl⟩
end Go.Ev
end
noncomputable section
namespace Go.Ev
inductive TD where
 |slice (e:TypeId)
 |array (n:Nat) (e:TypeId)
 |struct (fs:List (Nat×Nat×TypeId))
 |map (k e:TypeId)
 |str
 |int (k:IntKind)
 |ptr (e:TypeId)
 |iface
 |other
structure TE where
 size:Nat
 agg:Bool
 zero:List Value
 zv:Value
 con:Bool
 bytes:Nat
 d:TD
def TDok (P:Program) (d:TD) (u:TypeDesc):Prop:=
 match d with
 | .slice e=>u= .slice e
 | .array n e=>u= .array n e
 | .struct fs=> ∃fields,u= .struct fields∧fields.toList.mapM (fun f=>(P.info? f.type).map fun i=>(f.offset,i.size))=some (fs.map fun x=>(x.1,x.2.1))∧
   fields.toList.map (·.type)=fs.map (·.2.2)
 | .map k e=>u= .map k e
 | .str=>u= .string
 | .int k=>u= .int k
 | .ptr e=>u= .pointer e
 | .iface=> ∃ms,u= .interface ms
 | .other=>True
def aggDesc:TypeDesc→Bool
 | .struct _| .array _ _=>true
 |_=>false
structure TEok (P:Program) (t:TypeId) (te:TE) (i:TypeInfo) (u:TypeDesc) (z:Value):Prop where
 info:P.info? t=some i
 under:P.underlying t=some u
 size:i.size=te.size
 agg:aggDesc u=te.agg
 zero:i.zero=some z
 cells:z.cells.toList=te.zero
 zsize:te.zero.length=te.size
 zv:z=te.zv
 con:te.con=true→P.concrete t=true
 bytes:i.bytes=te.bytes
 d:TDok P te.d u
def Tb (P:Program) (tb:T TE):Prop:= ∀t te,tb.get t=some te→ ∃i u z,TEok P t te i u z
section
variable {P:Program} {t:TypeId} {te:TE} {i:TypeInfo} {u:TypeDesc} {z:Value}
theorem TEok.run_size (h:TEok P t te i u z) (w:World):(sizeOf t).run P w= .ok te.size w:=by
 simp [sizeOf,typeInfo,h.info,h.size]
theorem TEok.run_under (h:TEok P t te i u z) (w:World):(underlying t).run P w= .ok u w:=run_underlying h.under w
theorem TEok.run_isAgg (h:TEok P t te i u z) (w:World):(isAgg t).run P w= .ok te.agg w:=by
 have:=h.agg;unfold isAgg;simp only [Sem.run_bind,h.run_under,Result.andThen_ok];cases u<;>simp_all [aggDesc]
theorem TEok.run_zero (h:TEok P t te i u z) (w:World):(zeroValue t).run P w= .ok z w:=by
 simp [zeroValue,typeInfo,h.info,h.zero]
end
def cellsOf:AV→List AV
 | .agg cs=>cs
 | .val (.agg cs)=>cs.toList.map .val
 |v=>[v]
def one:AV→Bool
 | .agg _| .tup _=>false
 | .val v=>v.oneCell'
 |_=>true
theorem R.cells {c:Ctx} {a:AV} {x:Value} (h:R c a x):RL c (cellsOf a) x.cells.toList:=by
 cases a with
 |val v=>
  simp only [R] at h;subst h;cases x<;>first|exact RL.map_val _|exact RL.cons (by simp only [R]) RL.nil
 |agg cs=>
  simp only [R] at h;obtain ⟨xs,rfl,h1⟩:=h;simpa [cellsOf,Value.cells] using h1
 |tup vs=>have h':=h;simp only [R] at h;obtain ⟨_,rfl,_⟩:=h;exact RL.cons h' RL.nil
 |ptr b o=>have h':=h;simp only [R] at h;obtain ⟨_,rfl⟩:=h;exact RL.cons h' RL.nil
 |sl b o l e=>have h':=h;simp only [R] at h;obtain ⟨_,_,_,rfl,_⟩:=h;exact RL.cons h' RL.nil
 |mp b=>have h':=h;simp only [R] at h;obtain ⟨_,rfl⟩:=h;exact RL.cons h' RL.nil
 |fn f fs cs=>have h':=h;simp only [R] at h;obtain ⟨_,_,rfl,_⟩:=h;exact RL.cons h' RL.nil
 |yld l=>have h':=h;simp only [R] at h;obtain ⟨_,rfl⟩:=h;exact RL.cons h' RL.nil
 |ifc t v=>have h':=h;simp only [R] at h;obtain ⟨_,rfl,_⟩:=h;exact RL.cons h' RL.nil
theorem R.one {c:Ctx} {a:AV} {x:Value} (h:R c a x) (ho:one a=true):x.oneCell'=true:=by
 cases a with
 |val v=>simp only [R] at h;subst h;exact ho
 |agg cs=>cases ho
 |tup vs=>cases ho
 |ptr b o=>simp only [R] at h;obtain ⟨_,rfl⟩:=h;rfl
 |sl b o l e=>simp only [R] at h;obtain ⟨_,_,_,rfl,_⟩:=h;rfl
 |mp b=>simp only [R] at h;obtain ⟨_,rfl⟩:=h;rfl
 |fn f fs cs=>simp only [R] at h;obtain ⟨_,_,rfl,_⟩:=h;rfl
 |yld l=>simp only [R] at h;obtain ⟨_,rfl⟩:=h;rfl
 |ifc t v=>simp only [R] at h;obtain ⟨_,rfl,_⟩:=h;rfl
theorem RL.one {c:Ctx}: ∀{as:List AV} {xs:List Value},RL c as xs→as.all one=true→ ∀x∈xs,x.oneCell'=true
 |[],xs,h,_=>by simp only [RL] at h;subst h;simp
 |a::as,xs,h,ho=>by
  simp only [RL] at h;obtain ⟨y,ys,rfl,h1,h2⟩:=h;simp only [List.all_cons,Bool.and_eq_true] at ho;intro x hx;rcases List.mem_cons.1 hx with rfl|hx
  ·exact h1.one ho.1
  ·exact RL.one h2 ho.2 x hx
def VOK (P:Program) (lim:Nat) (c:Ctx) (h:Hp) (w:World) (s:Sem Value) (a:AV) (h':Hp):Prop:=
 ∃v w' c',s.run P w= .ok v w'∧R c' a v∧Stp lim c h w c' h' w'
section
variable {P:Program} {lim:Nat} {c:Ctx} {h:Hp} {w:World}
theorem VOK.here (g:Good lim c h w) {s:Sem Value} {v:Value} {a:AV} (hs:s.run P w= .ok v w) (hr:R c a v):VOK P lim c h w s a h:=
 ⟨v,w,c,hs,hr,Stp.refl g⟩
theorem Good.block (g:Good lim c h w) {b:Nat} {cs:List AV} {e:TypeId} (hb:h.t.get b=some (.cells cs e)):
  ∃xs:Array Value,w.heap[c.ρ b]? =some (.cells xs e (0,0))∧xs.size=c.sz b∧cs.length≤xs.size∧RL c cs (xs.toList.take cs.length):=by
 obtain ⟨_,o',ho,hr⟩:=g.live b _ hb;simp only [RO] at hr;obtain ⟨xs,rfl,h1,h2,h3⟩:=hr;exact ⟨xs,ho,h1,h2,h3⟩
theorem add_at (b o i:Nat):(⟨b,o,none⟩:Addr).add i=⟨b,o+i,none⟩:=by unfold Addr.add;split<;>simp_all
theorem cell_in {b:Nat} {xs:Array Value} {e:TypeId} {fz:Nat×Nat} (hb:w.heap[b]? =some (.cells xs e fz)) (i:Nat):w.cell? ⟨b,i,none⟩=xs[i]? :=by
 simp [World.cell?,hb]
theorem Good.loadCells (g:Good lim c h w) {b off n:Nat} {cs:List AV} {e:TypeId} (hb:h.t.get b=some (.cells cs e)) (hl:off+n≤cs.length):
  ∃vs:List Value,(∀w2:World,w2.heap=w.heap→(loadCells ⟨c.ρ b,off,none⟩ n).run P w2= .ok vs.toArray w2)∧RL c ((cs.drop off).take n) vs∧vs.length=n:=by
 obtain ⟨xs,hx,_,h2,h3⟩:=g.block hb;have hr:=(h3.drop off).take n;have hlen:(((xs.toList.take cs.length).drop off).take n).length=n:=by rw [hr.length];simp;omega
 refine ⟨((xs.toList.take cs.length).drop off).take n,fun w2 hw2=> ?_,hr,hlen⟩;have:=run_loadCells_list (P:=P) w2 ⟨c.ρ b,off,none⟩ (((xs.toList.take cs.length).drop off).take n) (fun j v hj=>by
  rw [add_at,cell_in (by rw [hw2];exact hx)];rw [List.getElem?_take] at hj;split at hj
  ·rw [List.getElem?_drop,List.getElem?_take] at hj;split at hj
   ·simpa using hj
   ·cases hj
  ·cases hj)
 rwa [hlen] at this
theorem Good.cell (g:Good lim c h w) {b off:Nat} {cs:List AV} {e:TypeId} {a:AV} (hb:h.t.get b=some (.cells cs e)) (ha:cs[off]? =some a):
  ∃v,w.cell? ⟨c.ρ b,off,none⟩=some v∧R c a v:=by
 obtain ⟨xs,hx,_,h2,h3⟩:=g.block hb;obtain ⟨v,hv,hr⟩:=h3.get ha;refine ⟨v,?_,hr⟩;rw [cell_in hx];rw [List.getElem?_take] at hv;split at hv
 ·simpa using hv
 ·cases hv
theorem load_ok (g:Good lim c h w) {t:TypeId} {te:TE} {i:TypeInfo} {u:TypeDesc} {z:Value} (ht:TEok P t te i u z) {b off:Nat} {cs:List AV} {e:TypeId}
  (hb:h.t.get b=some (.cells cs e)) {x:Value} (hx:R c (.ptr b off) x) {a:AV}
  (ha:(te.agg=true∧off+te.size≤cs.length∧a= .agg ((cs.drop off).take te.size))∨(te.agg=false∧cs[off]? =some a)):
  VOK P lim c h w (Instr.loadAt t x) a h:=by
 simp only [R] at hx;obtain ⟨_,rfl⟩:=hx;rcases ha with ⟨h1,h2,rfl⟩|⟨h1,h2⟩
 ·obtain ⟨vs,hv,hr,_⟩:=g.loadCells (P:=P) hb h2;refine VOK.here g (v:= .agg vs.toArray) ?_ (by simp only [R];exact ⟨vs,rfl,hr⟩);simp [Instr.loadAt,Instr.sureAddr,loadVar,ht.run_isAgg,ht.run_size,h1,hv w rfl]
 ·obtain ⟨v,hv,hr⟩:=g.cell hb h2;refine VOK.here g (v:=v) ?_ hr;simp [Instr.loadAt,Instr.sureAddr,loadVar,ht.run_isAgg,h1,hv]
theorem load_q (g:Good lim c h w) {t:TypeId} {te:TE} {i:TypeInfo} {u:TypeDesc} {z:Value} (ht:TEok P t te i u z) {b off:Nat} {cs:List AV} {e:TypeId}
  (hb:h.t.get b=some (.cells cs e)) {x:Value} (hx:R c (.ptr b off) x) {a:AV}
  (ha:(te.agg=true∧off+te.size≤cs.length∧a= .agg ((cs.drop off).take te.size))∨(te.agg=false∧cs[off]? =some a)):
  ∃y,(Instr.loadAt t x).run P w= .ok y w∧R c a y:=by
 simp only [R] at hx;obtain ⟨_,rfl⟩:=hx;rcases ha with ⟨h1,h2,rfl⟩|⟨h1,h2⟩
 ·obtain ⟨vs,hv,hr,_⟩:=g.loadCells (P:=P) hb h2;refine ⟨.agg vs.toArray,?_,by simp only [R];exact ⟨vs,rfl,hr⟩⟩;simp [Instr.loadAt,Instr.sureAddr,loadVar,ht.run_isAgg,ht.run_size,h1,hv w rfl]
 ·obtain ⟨v,hv,hr⟩:=g.cell hb h2;refine ⟨v,?_,hr⟩;simp [Instr.loadAt,Instr.sureAddr,loadVar,ht.run_isAgg,h1,hv]
theorem setRow_eq {b:Nat} {xs ys:Array Value} {e:TypeId} {fz:Nat×Nat} (hb:w.heap[b]? =some (.cells xs e fz)):
  w.setRow b ys={w with heap:=w.heap.setIfInBounds b (.cells ys e fz)}:=by
 unfold World.setRow
 congr 1
 apply Array.ext_getElem?
 intro j;rw [Array.getElem?_modify,Array.getElem?_setIfInBounds];have hlt:=(Array.getElem?_eq_some_iff.1 hb).1;by_cases hj:b=j
 ·subst hj;rw [hb];simp [hlt]
 ·simp [hj]
theorem store_ok (g:Good lim c h w) {t:TypeId} {te:TE} {i:TypeInfo} {u:TypeDesc} {z:Value} (ht:TEok P t te i u z) {b off:Nat} {cs:List AV} {e:TypeId}
  (hb:h.t.get b=some (.cells cs e)) {x:Value} (hx:R c (.ptr b off) x) {a:AV} {v:Value} (hv:R c a v)
  (h1:(cellsOf a).length=te.size) (h2:off+te.size≤cs.length) (h3:(cellsOf a).all one=true):
  ∃w',(Instr.storeAt t x v).run P w= .ok () w'∧Stp lim c h w c (h.set b (.cells (cs.take off++cellsOf a++cs.drop (off+te.size)) e)) w':=by
 simp only [R] at hx;obtain ⟨_,rfl⟩:=hx;obtain ⟨xs,hxs,hsz,hle,hr⟩:=g.block hb;have hc:=hv.cells;have hlen:v.cells.toList.length=te.size:=by rw [hc.length,h1]
 have hsize:v.cells.size=te.size:=by simpa using hlen
 have hst:=run_storeCells_at (P:=P) (c.ρ b) off e v.cells.toList 0 xs w hxs (by rw [hlen];omega) (RL.one hc h3);refine ⟨_,?_,Stp.write g _ hb (.cells (xs.toList.take off++v.cells.toList++xs.toList.drop (off+te.size)).toArray e (0,0)) ?_ rfl⟩
 ·simp only [Instr.storeAt,Instr.sureAddr,storeVar,Sem.run_bind,Sem.run_pure,Result.andThen_ok,ht.run_size,hsize,ne_eq,not_true_eq_false,if_false,hst,hlen,Nat.add_zero];rw [setRow_eq hxs]
 ·have hxl:off+te.size≤xs.toList.length:=by simp;omega
  refine ⟨_,rfl,?_,?_,?_⟩
  ·simp only [List.size_toArray,List.length_append,List.length_take,List.length_drop,hlen];simp;omega
  ·simp only [List.size_toArray,List.length_append,List.length_take,List.length_drop,hlen,h1];simp;omega
  ·have e1:(xs.toList.take off++v.cells.toList++xs.toList.drop (off+te.size)).toArray.toList.take (cs.take off++cellsOf a++cs.drop (off+te.size)).length
     =(xs.toList.take cs.length).take off++v.cells.toList++(xs.toList.take cs.length).drop (off+te.size):=by
    simp only [List.length_append,List.length_take,List.length_drop,h1];rw [List.take_append,List.take_append]
    congr 1
    ·congr 1
     ·rw [List.take_take,List.take_take];congr 1;omega
     ·apply List.take_of_length_le;simp only [List.length_take,hlen];omega
    ·rw [List.drop_take]
     congr 1
     simp only [List.length_take,List.length_append,hlen];omega
   rw [e1];exact ((hr.take off).append hc).append (hr.drop _)
theorem new_ok (g:Good lim c h w) (hlim:h.n<lim) (cs:List AV) (e:TypeId) (xs:Array Value) (hr:RL c cs xs.toList):
  ∃c',R c' (.ptr h.n 0) (.pointer (some ⟨w.heap.size,0,none⟩))∧Stp lim c h w c' (h.new (.cells cs e)) {w with heap:=w.heap.push (.cells xs e)}∧
   c'.ρ h.n=w.heap.size∧c'.sz h.n=xs.size∧c'.dom h.n:=by
 refine ⟨c.new h.n w.heap.size xs.size,?_,Stp.alloc g hlim _ _ _ ?_,by simp,by simp,.inr rfl⟩
 ·simp only [R];exact ⟨.inr rfl,by simp⟩
 ·refine ⟨xs,rfl,by simp,?_,?_⟩
  ·have:=hr.length;simp at this;omega
  ·have:=hr.length;rw [List.take_of_length_le (by omega)];exact RL.mono (Ctx.ext_new (g.not_dom hlim) _ _) _ _ hr
theorem alloc_ok (g:Good lim c h w) (hlim:h.n<lim) {t:TypeId} {te:TE} {i:TypeInfo} {u:TypeDesc} {z:Value} (ht:TEok P t te i u z):
  VOK P lim c h w (Instr.alloc t true (.tuple #[])) (.ptr h.n 0) (h.new (.cells (te.zero.map .val) t)):=by
 obtain ⟨c',h1,h2,_⟩:=new_ok g hlim (te.zero.map .val) t z.cells (by rw [←ht.cells];exact RL.map_val _);refine ⟨_,_,c',?_,h1,h2⟩;simp [Instr.alloc,ht.run_zero,newVar,newRow]
theorem box_ok (g:Good lim c h w) (hlim:h.n<lim) (t:TypeId) {a:AV} {x:Value} (hx:R c a x):
  VOK P lim c h w (Instr.box t x) (.ptr h.n 0) (h.new (.cells (cellsOf a) t)):=by
 obtain ⟨c',h1,h2,_⟩:=new_ok g hlim (cellsOf a) t x.cells hx.cells;refine ⟨_,_,c',?_,h1,h2⟩;simp [Instr.box,newVar,newRow]
def fillA (place:Nat→Option (Nat×Nat)):List (Nat×AV)→List AV→Option (List AV)
 |[],cells=>some cells
 |(i,v)::rest,cells=>
  match place i with
  |none=>none
  |some (off,size)=>
   bif Nat.beq (cellsOf v).length size && Nat.ble (off+size) cells.length then fillA place rest (cells.take off++cellsOf v++cells.drop (off+size)) else none
theorem set_splice {α:Type} (off:Nat): ∀(vs:List α) (k:Nat) (l:List α),off+k+vs.length≤l.length→
  (vs.zipIdx k).foldl (fun cs x=>cs.set (off+x.2) x.1) l=l.take (off+k)++vs++l.drop (off+k+vs.length)
 |[],k,l,_=>by simp
 |v::vs,k,l,hl=>by
  simp only [List.zipIdx_cons,List.foldl_cons];rw [set_splice off vs (k+1) _ (by simp at hl ⊢;omega)];simp only [List.length_cons] at hl;apply List.ext_getElem?
  intro j;simp only [List.getElem?_append,List.length_append,List.length_take,List.length_set,List.getElem?_take,List.getElem?_set,List.getElem?_drop,List.getElem?_cons,List.length_cons];have e1:min (off+(k+1)) l.length=off+k+1:=by omega
  have e2:min (off+k) l.length=off+k:=by omega
  rw [e1,e2];by_cases h1:j<off+k
  ·simp [h1,show j<off+k+1+vs.length by omega,show j<off+k+1 by omega,show j<off+(k+1) by omega,show¬off+k=j by omega,show j<off+k+(vs.length+1) by omega]
  ·by_cases h2:j=off+k
   ·subst h2;simp [show off+k<off+k+1+vs.length by omega,show off+k<off+(k+1) by omega,show off+k<l.length by omega]
   ·by_cases h3:j<off+k+1+vs.length
    ·have h4: ¬j - (off+k)=0:=by omega
     simp [h1,h3,show¬j<off+k+1 by omega,show j<off+k+(vs.length+1) by omega,h4]
     congr 1
    ·simp [h3,show¬j<off+k+(vs.length+1) by omega,show¬off+k=off+(k+1)+vs.length+(j - (off+k+1+vs.length)) by omega]
     congr 1;omega
theorem foldl_splice (vs:Array Value) (off:Nat) (cells:Array Value) (hl:off+vs.size≤cells.size):
  (vs.zipIdx.foldl (fun cs (x:Value×Nat)=>cs.setIfInBounds (off+x.2) x.1) cells).toList=cells.toList.take off++vs.toList++cells.toList.drop (off+vs.size):=by
 have h1:=set_splice off vs.toList 0 cells.toList (by simpa using hl);rw [←Array.foldl_toList];have h2: ∀(l:List (Value×Nat)) (cs:Array Value),(l.foldl (fun cs (x:Value×Nat)=>cs.setIfInBounds (off+x.2) x.1) cs).toList=l.foldl (fun cs x=>cs.set (off+x.2) x.1) cs.toList:=by
  intro l;induction l with
  |nil=>intro cs;rfl
  |cons y l ih=>intro cs;simp only [List.foldl_cons,ih];simp
 rw [h2];simpa using h1
theorem fill_ok (place:Nat→Option (Nat×Nat)) (ev:Operand→AV) (ρ:Operand→Value) (hev: ∀x,R c (ev x) (ρ x)): ∀(ps:List (Nat×Operand)) (cs cs':List AV) (cells:Array Value),
  RL c cs cells.toList→fillA place (ps.map fun p=>(p.1,ev p.2)) cs=some cs'→
  ∃cells':Array Value,Instr.fill place cells (ps.map fun p=>(p.1,ρ p.2))=some cells'∧RL c cs' cells'.toList
 |[],cs,cs',cells,hr,hf=>by
  simp only [List.map_nil,fillA] at hf;cases hf;exact ⟨cells,rfl,hr⟩
 |(i,x)::ps,cs,cs',cells,hr,hf=>by
  simp only [List.map_cons,fillA] at hf;simp only [List.map_cons,Instr.fill];cases hp:place i with
  |none=>simp [hp] at hf
  |some os=>
   obtain ⟨off,size⟩:=os;simp only [hp] at hf;have hc:=(hev x).cells;cases hb:(Nat.beq (cellsOf (ev x)).length size && Nat.ble (off+size) cs.length) with
   |false=>simp [hb] at hf
   |true=>
    rw [hb] at hf;simp only [cond_true] at hf;simp only [Bool.and_eq_true] at hb;have h1:(cellsOf (ev x)).length=size:=Nat.eq_of_beq_eq_true hb.1;have h2:off+size≤cs.length:=Nat.le_of_ble_eq_true hb.2;have h3:(ρ x).cells.size=size:=by have:=hc.length;simp at this;omega
    have h4:cells.size=cs.length:=by have:=hr.length;simpa using this
    simp only [h3,ne_eq,not_true_eq_false,decide_false,Bool.false_or,gt_iff_lt];rw [if_neg (by simp;omega)];refine fill_ok place ev ρ hev ps _ cs' _ ?_ hf;rw [foldl_splice _ _ _ (by omega),h3];exact ((hr.take off).append hc).append (hr.drop _)
end
end Go.Ev
end
noncomputable section
namespace Go.Ev
section
variable {P:Program} {lim:Nat} {c:Ctx} {h:Hp} {w:World}
def repl {α:Type} (z:List α):Nat→List α
 |0=>[]
 |n+1=>z++repl z n
theorem repl_length {α:Type} (z:List α): ∀n,(repl z n).length=n*z.length
 |0=>by simp [repl]
 |n+1=>by simp [repl,repl_length z n,Nat.add_mul];omega
theorem madeCells_toList (z:Array Value) (n:Nat) (hz:0<z.size∨n=0):(madeCells z (n*z.size)).toList=repl z.toList n:=by
 apply List.ext_getElem?
 intro j;induction n generalizing j with
 |zero=>simp [madeCells,repl,Array.range_zero']
 |succ n ih=>
  have hp:0<z.size:=by rcases hz with h|h;exact h;cases h
  have ih':=fun j=>ih (.inl hp) j;simp only [repl,List.getElem?_append];by_cases hj:j<z.size
  ·have h1:j<(n+1)*z.size:=by rw [Nat.add_mul];omega
   have h2:j % z.size=j:=Nat.mod_eq_of_lt hj;simp [madeCells,h1,h2,hj]
  ·have h1:(j - z.size) % z.size=j % z.size:=(Nat.mod_eq_sub_mod (by omega)).symm;have:=ih' (j - z.size);simp only [Array.length_toList,if_neg hj];rw [←this];by_cases h2:j<(n+1)*z.size
   ·have h3:j - z.size<n*z.size:=by rw [Nat.add_mul] at h2;omega
    simp [madeCells,h2,h3,h1]
   ·have h3: ¬j - z.size<n*z.size:=by rw [Nat.add_mul] at h2;omega
    simp [madeCells,h2,h3]
theorem newSlice_ok (g:Good lim c h w) (hlim:h.n<lim) (cs:List AV) (e:TypeId) (xs:Array Value) (hr:RL c cs xs.toList) (len cap esz:Nat) (hl:len≤cap) (hc:cap*esz≤xs.size):
  ∃c',R c' (.sl h.n 0 len esz) (.slice (some ⟨w.heap.size,0,none⟩) len cap)∧Stp lim c h w c' (h.new (.cells cs e)) {w with heap:=w.heap.push (.cells xs e)}:=by
 obtain ⟨c',h1,h2,h3,h4,h5⟩:=new_ok g hlim cs e xs hr;refine ⟨c',?_,h2⟩;simp only [R];exact ⟨h5,_,_,rfl,hl,fun _=>by rw [h3],by omega⟩
theorem buildSlice_ok (g:Good lim c h w) (hlim:h.n<lim) {t e:TypeId} {te:TE} {ie:TypeInfo} {u:TypeDesc} {z:Value} (ht:P.underlying t=some (.slice e)) (he:TEok P e te ie u z)
  (len:Nat) (hs:0<te.size) (hsm:len*te.size≤16777216) (ev:Operand→AV) (ρ:Operand→Value) (hev: ∀x,R c (ev x) (ρ x)) (parts:Array (Nat×Operand)) {cs:List AV}
  (hf:fillA (fun i=>some (i*te.size,te.size)) (parts.toList.map fun p=>(p.1,ev p.2)) (repl (te.zero.map .val) len)=some cs):
  VOK P lim c h w (Instr.buildSlice t len (parts.map fun (i,x)=>(i,ρ x))) (.sl h.n 0 len te.size) (h.new (.cells cs e)):=by
 have hz:z.cells.size=te.size:=by have:=he.zsize;rw [←he.cells] at this;simpa using this
 have hrep: ∀(l:List Value) n,repl (l.map AV.val) n=(repl l n).map .val:=fun l n=>by
  induction n with
  |zero=>rfl
  |succ n ih=>simp [repl,ih]
 have hm:(madeCells z.cells (len*te.size)).toList=repl te.zero len:=by rw [←hz,madeCells_toList _ _ (.inl (by omega)),he.cells]
 have hr0:RL c (repl (te.zero.map .val) len) (madeCells z.cells (len*te.size)).toList:=by rw [hm,hrep];exact RL.map_val _
 obtain ⟨cells',hf',hr'⟩:=fill_ok (fun i=>some (i*te.size,te.size)) ev ρ hev parts.toList _ cs _ hr0 hf;have hsz:cells'.size=len*te.size:=by
  have key: ∀(ps:List (Nat×Value)) (x y:Array Value),Instr.fill (fun i=>some (i*te.size,te.size)) x ps=some y→y.size=x.size:=by
   intro ps;induction ps with
   |nil=>intro x y h;simp only [Instr.fill] at h;cases h;rfl
   |cons p ps ih=>
    intro x y h;obtain ⟨i,v⟩:=p;simp only [Instr.fill] at h;split at h
    ·cases h
    ·rename_i hc;rw [ih _ _ h];have:(v.cells.zipIdx.foldl (fun cs (x:Value×Nat)=>cs.setIfInBounds (i*te.size+x.2) x.1) x).toList.length=x.toList.length:=by
      simp only [Bool.or_eq_true,decide_eq_true_eq,not_or] at hc;rw [foldl_splice _ _ _ (by omega)];simp;omega
     simpa using this
  rw [key _ _ _ hf',size_madeCells]
 obtain ⟨c',h1,h2⟩:=newSlice_ok g hlim cs e cells' hr' len len te.size (Nat.le_refl _) (by omega);refine ⟨_,_,c',?_,h1,h2⟩;have hfl:Instr.fill (fun i=>some (i*te.size,te.size)) (madeCells z.cells (len*te.size)) (parts.map fun (i,x)=>(i,ρ x)).toList=some cells':=by
  rw [←hf'];simp
 unfold Instr.buildSlice;simp only [Sem.run_bind,run_underlying ht,Result.andThen_ok,he.run_size];rw [if_neg (by omega)];by_cases h0:len*te.size=0
 ·have h00:len=0:=by rcases Nat.mul_eq_zero.1 h0 with h|h<;>omega
  subst h00;rw [if_pos (by simp)];simp only [Nat.zero_mul,Array.range_zero',Array.map_empty];have:madeCells z.cells (0*te.size)= #[]:=by simp [madeCells,Array.range_zero']
  rw [this] at hf';simp [hf',newRow]
 ·rw [if_neg h0];simp only [Sem.run_bind,he.run_zero,Sem.run_pure,Result.andThen_ok];have:((Array.range (len*te.size)).map (z.cells[· % z.cells.size]!))=madeCells z.cells (len*te.size):=rfl;rw [this,hfl];simp [newRow]
theorem makeSlice_ok (g:Good lim c h w) (hlim:h.n<lim) {t e:TypeId} {te:TE} {ie:TypeInfo} {u:TypeDesc} {z:Value} (ht:P.underlying t=some (.slice e)) (he:TEok P e te ie u z)
  (kl kc:IntKind) (n:Nat) (hs:0<te.size) (hb:te.bytes*n≤281474976710656) (h63:n≤9223372036854775807):
  VOK P lim c h w (Instr.makeSlice t (.int kl n) (.int kc n)) (.sl h.n 0 n te.size) (h.new (.cells (repl (te.zero.map .val) n) e)):=by
 have hz:z.cells.size=te.size:=by have:=he.zsize;rw [←he.cells] at this;simpa using this
 have hrep: ∀(l:List Value) n,repl (l.map AV.val) n=(repl l n).map .val:=fun l n=>by
  induction n with
  |zero=>rfl
  |succ n ih=>simp [repl,ih]
 have hm:(madeCells z.cells (n*te.size)).toList=repl te.zero n:=by rw [←hz,madeCells_toList _ _ (.inl (by omega)),he.cells]
 have hr0:RL c (repl (te.zero.map .val) n) (madeCells z.cells (n*te.size)).toList:=by rw [hm,hrep];exact RL.map_val _
 obtain ⟨c',h1,h2⟩:=newSlice_ok g hlim _ e _ hr0 n n te.size (Nat.le_refl _) (by simp [size_madeCells]);have hb':(ie.bytes:Int)*(n:Int)≤281474976710656:=by
  have h:((ie.bytes*n:Nat):Int)≤281474976710656:=by rw [he.bytes];omega
  rwa [Int.natCast_mul] at h
 have hr:=run_make (P:=P) w t e ie z ht he.info he.zero kl kc n n (by omega) (by omega) hb' (by omega);simp only [Int.toNat_natCast,he.size] at hr;exact ⟨_,_,c',hr,h1,h2⟩
end
end Go.Ev
end
noncomputable section
namespace Go.Ev
section
variable {P:Program} {lim:Nat} {c:Ctx} {h:Hp} {w:World}
theorem Stp.congr {lim:Nat} {c c':Ctx} {h h1 h2:Hp} {w w':World} (s:Stp lim c h w c' h1 w') (hg: ∀k,h1.t.get k=h2.t.get k) (hn:h1.n=h2.n):Stp lim c h w c' h2 w':=by
 refine ⟨s.e,⟨fun k h1 h2=>s.good.fresh k (hn▸h1) h2,fun k o e=>s.good.live k o (by rw [hg];exact e),fun k k' o o' e e'=>s.good.inj k k' o o' (by rw [hg];exact e) (by rw [hg];exact e'),fun a v e=>⟨(s.good.ext a v e).1,fun k o e'=>(s.good.ext a v e).2 k o (by rw [hg];exact e')⟩⟩,
  hn▸s.n,fun k hk=>hn▸s.grow k hk,s.os,s.tape,s.output,s.size,s.fr,fun k o e=>s.img k o (by rw [hg];exact e),fun k o e=>hn▸s.sub k o (by rw [hg];exact e)⟩
theorem Stp.move {lim:Nat} {c:Ctx} {h:Hp} {w:World} (g:Good lim c h w) (hlim:h.n<lim) {b:Nat} {o:AO} (hb:h.t.get b=some o) (hro: ∀o',RO c b o o'→RO (c.new h.n (c.ρ b) (c.sz b)) h.n o o'):
  Stp lim c h w (c.new h.n (c.ρ b) (c.sz b)) ((h.del b).new o) w:=by
 have hnd:=g.not_dom hlim;have hx:=Ctx.ext_new hnd (c.ρ b) (c.sz b);have hgl: ∀k ob,((h.del b).new o).t.get k=some ob→(k=h.n∧ob=o)∨(c.dom k∧k≠b∧h.t.get k=some ob):=fun k ob e=>by
  simp only [Hp.new,Hp.del,T.get_put] at e;split at e
  ·rename_i hk;cases e;exact .inl ⟨hk,rfl⟩
  ·split at e
   ·cases e
   ·rename_i hk;exact .inr ⟨(g.live k ob e).1,hk,e⟩
 refine ⟨hx,⟨fun k h1 h2=> ?_,fun k ob e=> ?_,fun k k' ob ob' e e' he=> ?_,fun a v e=>⟨(g.ext a v e).1,fun k ob ek=> ?_⟩⟩,by simp [Hp.new,Hp.del],fun k hk=> ?_,rfl,rfl,rfl,Nat.le_refl _,fun _ _ _=>rfl,fun k ob e=> ?_,fun k ob e=> ?_⟩
 ·simp only [Hp.new,Hp.del] at h1;rintro (hd|hd)
  ·exact g.fresh k (by omega) h2 hd
  ·omega
 ·rcases hgl k ob e with ⟨rfl,rfl⟩|⟨hk,_,e⟩
  ·obtain ⟨_,o',ho',hr⟩:=g.live b _ hb;exact ⟨.inr rfl,o',by rw [Ctx.new_ρ];exact ho',hro o' hr⟩
  ·obtain ⟨_,o',ho',hr⟩:=g.live k ob e;exact ⟨.inl hk,o',by rw [hx.ρ k hk];exact ho',RO.mono hx hk hr⟩
 ·rcases hgl k ob e with ⟨rfl,rfl⟩|⟨hk,hkb,e1⟩<;>rcases hgl k' ob' e' with ⟨rfl,rfl⟩|⟨hk',hkb',e2⟩
  ·rfl
  ·rw [Ctx.new_ρ,hx.ρ k' hk'] at he;exact absurd (g.inj b k' _ _ hb e2 he).symm hkb'
  ·rw [Ctx.new_ρ,hx.ρ k hk] at he;exact absurd (g.inj k b _ _ e1 hb he) hkb
  ·rw [hx.ρ k hk,hx.ρ k' hk'] at he;exact g.inj k k' _ _ e1 e2 he
 ·rcases hgl k ob ek with ⟨rfl,rfl⟩|⟨hk,_,e1⟩
  ·rw [Ctx.new_ρ];exact (g.ext a v e).2 b _ hb
  ·rw [hx.ρ k hk];exact (g.ext a v e).2 k _ e1
 ·rcases hk with hk|rfl
  ·exact .inl hk
  ·exact .inr ⟨Nat.le_refl _,by simp [Hp.new,Hp.del]⟩
 ·rcases hgl k ob e with ⟨rfl,rfl⟩|⟨hk,_,e1⟩
  ·exact .inr ⟨b,_,hb,by rw [Ctx.new_ρ]⟩
  ·exact .inr ⟨k,_,e1,(hx.ρ k hk).symm⟩
 ·rcases hgl k ob e with ⟨rfl,rfl⟩|⟨hk,_,e1⟩
  ·exact .inr ⟨Nat.le_refl _,by simp [Hp.new,Hp.del]⟩
  ·exact .inl ⟨_,e1⟩
structure Src (P:Program) (c:Ctx) (w:World) (size n:Nat) (x:Value) (as:List AV) (vs:List Value):Prop where
 len: ∀d,(Builtin.lenOf x).run P {w with drawn:=d}= .ok n {w with drawn:=d}
 run: ∀d,(Builtin.firstCells size n x).run P {w with drawn:=d}= .ok vs.toArray {w with drawn:=d}
 rel:RL c as vs
 length:vs.length=n*size
 one: ∀v∈vs,v.oneCell'=true
theorem Src.nil {size k:Nat}:Src P c w size 0 (.slice none 0 k) [] []:=
 ⟨fun _=>rfl,fun _=>rfl,RL.nil,by simp,by simp⟩
theorem Src.slice (g:Good lim c h w) {b off n size:Nat} {cs:List AV} {e:TypeId} (hb:h.t.get b=some (.cells cs e)) {x:Value} (hx:R c (.sl b off n size) x) (hl:off+n*size≤cs.length)
  (ho:((cs.drop off).take (n*size)).all Ev.one=true): ∃vs,Src P c w size n x ((cs.drop off).take (n*size)) vs:=by
 simp only [R] at hx;obtain ⟨_,ad,cap,rfl,hnc,had,_⟩:=hx;obtain ⟨vs,hrun,hr,hvl⟩:=g.loadCells (P:=P) hb hl;refine ⟨vs,fun _=>rfl,fun d=> ?_,hr,hvl,RL.one hr ho⟩;rcases Nat.eq_zero_or_pos n with h0|h0
 ·subst h0;have:vs=[]:=List.eq_nil_of_length_eq_zero (by simpa using hvl);subst this;simp [Builtin.firstCells,loadCells,loadCellsFrom]
 ·have:=had (by omega);subst this;simpa [Builtin.firstCells] using hrun {w with drawn:=d} rfl
theorem Src.str (s:ByteArray):Src P c w 1 s.size (.string s) (s.data.toList.map fun b=> .val (.int .u8 b.toNat)) (s.data.toList.map fun b=> .int .u8 b.toNat):=by
 refine ⟨fun _=>rfl,fun d=> ?_,?_,by simp,?_⟩
 ·have h2:s.extract 0 s.size=s:=by simp
  simp only [Builtin.firstCells,Sem.run_pure,h2]
  congr 1
  apply Array.ext'
  simp
 ·have:=RL.map_val (c:=c) (s.data.toList.map fun b=>Value.int .u8 b.toNat);rw [List.map_map] at this;exact this
 ·intro v hv;simp only [List.mem_map] at hv;obtain ⟨b,_,rfl⟩:=hv;rfl
theorem Src.drawn {size n:Nat} {x:Value} {as:List AV} {vs:List Value} (s:Src P c w size n x as vs) (d:Nat):Src P c {w with drawn:=d} size n x as vs:=
 ⟨fun d=>s.len d,fun d=>s.run d,s.rel,s.length,s.one⟩
theorem run_append_grows {t tx ty e:TypeId} {ie:TypeInfo} {ux:TypeDesc} {z:Value} (ht:P.underlying t=some (.slice e)) (hi:P.info? e=some ie) (hz:ie.zero=some z)
  (hux:P.underlying tx=some ux) (hni:(∃e',ux= .slice e')∨ux= .string) {base:Option Addr} {sLen sCap n:Nat} {x:Value} {olds vs:List Value}
  (hlen:(Builtin.lenOf x).run P w= .ok n w) (hold:(Builtin.firstCells ie.size sLen (.slice base sLen sCap)).run P w.drew= .ok olds.toArray w.drew)
  (hnew:(Builtin.firstCells ie.size n x).run P w.drew= .ok vs.toArray w.drew) (hg:sCap<sLen+n) (h63:sLen+n≤9223372036854775807) (hb:(sLen+n)*ie.bytes≤140737488355328):
  (Builtin.append_ #[t,tx] ty #[.slice base sLen sCap,x]).run P w= .ok (.slice (some ⟨w.heap.size,0,none⟩) (sLen+n) (grownCap w (sLen+n) sCap e))
    (w.drew.alloc (.cells (olds.toArray++vs.toArray++Builtin.zeroCells z.cells (grownCap w (sLen+n) sCap e - (sLen+n))) e)):=by
 have hn: ¬(sLen+n≤sCap):=by omega
 have h63': ¬(9223372036854775807<((sLen:Int)+(n:Int))):=by omega
 have h48': ¬(281474976710656<Builtin.nextslicecap (sLen+n) sCap*ie.bytes):=by have:=growslice_fits (need:=sLen+n) (old:=sCap) (bytes:=ie.bytes) hg hb;omega
 rcases hni with ⟨e',rfl⟩|rfl;all_goals
  simp [Builtin.append_,run_underlying ht,run_underlying hux,sizeOf,typeInfo,zeroValue,hi,hz,hlen,hn,h63',h48',Question.forced,hold,hnew,newRow,grownCap]
  congr 2
  apply Array.ext'
  simp
theorem run_append_fits {t tx ty e:TypeId} {ie:TypeInfo} {ux:TypeDesc} (ht:P.underlying t=some (.slice e)) (hi:P.info? e=some ie)
  (hux:P.underlying tx=some ux) (hni:(∃e',ux= .slice e')∨ux= .string) {ad:Addr} {sLen sCap n:Nat} {x:Value} {vs:List Value} {w':World}
  (hlen:(Builtin.lenOf x).run P w= .ok n w) (hnew:(Builtin.firstCells ie.size n x).run P w= .ok vs.toArray w) (hg:sLen+n≤sCap)
  (hst:(storeCells (ad.add (sLen*ie.size)) vs).run P w= .ok () w'):
  (Builtin.append_ #[t,tx] ty #[.slice (some ad) sLen sCap,x]).run P w= .ok (.slice (some ad) (sLen+n) sCap) w':=by
 rcases hni with ⟨e',rfl⟩|rfl;all_goals simp [Builtin.append_,run_underlying ht,run_underlying hux,sizeOf,typeInfo,hi,hlen,hg,hnew,hst]
theorem zeroCells_size (z:Array Value) (n:Nat):(Builtin.zeroCells z n).size=n*z.size:=by simp [Builtin.zeroCells]
theorem append_ok (g:Good lim c h w) (hlim:h.n<lim) {t tx ty e:TypeId} {te:TE} {ie:TypeInfo} {u ux:TypeDesc} {z:Value} (ht:P.underlying t=some (.slice e)) (he:TEok P e te ie u z)
  (hux:P.underlying tx=some ux) (hni:(∃e',ux= .slice e')∨ux= .string) {b len n:Nat} {cs:List AV} (hb:h.t.get b=some (.cells cs e)) (hl:len*te.size≤cs.length)
  {s x:Value} (hs:R c (.sl b 0 len te.size) s) {as:List AV} {vs:List Value} (src:Src P c w te.size n x as vs)
  (hbytes:(len+n)*te.bytes≤140737488355328) (h63:len+n≤9223372036854775807):
  VOK P lim c h w (Builtin.append_ #[t,tx] ty #[s,x]) (.sl h.n 0 (len+n) te.size) ((h.del b).new (.cells (cs.take (len*te.size)++as) e)):=by
 have hz:z.cells.size=te.size:=by have:=he.zsize;rw [←he.cells] at this;simpa using this
 have hs0:=hs;simp only [R] at hs;obtain ⟨hbn,ad,cap,rfl,hlc,had,hsz⟩:=hs;obtain ⟨xs,hxs,hxsz,hxl,hr⟩:=g.block hb;have hasl:as.length=n*te.size:=by rw [←src.rel.length,src.length]
 by_cases hroom:len+n≤cap
 ·have hsize1:(cs.take (len*te.size)++as).length=(len+n)*te.size:=by
   rw [List.length_append,List.length_take,hasl,Nat.add_mul];omega
  have hcapx:(len+n)*te.size≤xs.size:=by
   have:(len+n)*te.size≤cap*te.size:=Nat.mul_le_mul_right _ hroom;omega
  have hst: ∃w',(storeCells (ad.add (len*ie.size)) vs).run P w= .ok () w'∧Stp lim c h w c (h.set b (.cells (cs.take (len*te.size)++as) e)) w':=by
   rcases Nat.eq_zero_or_pos cap with h0|h0
   ·have hl0:len=0:=by omega
    have hn0:n=0:=by omega
    subst hl0 hn0;have hv:vs=[]:=List.eq_nil_of_length_eq_zero (by simpa using src.length);have ha:as=[]:=List.eq_nil_of_length_eq_zero (by simpa using hasl);subst hv ha;refine ⟨w,rfl,?_⟩;refine Stp.write g _ hb (.cells xs e (0,0)) ?_ ?_
    ·exact ⟨xs,rfl,hxsz,by simp,by simp [RL.nil]⟩
    ·cases w with
     |mk heap tape drawn os output=>
      congr 1
      apply Array.ext_getElem?
      intro j;rw [Array.getElem?_setIfInBounds];split
      ·rename_i hj;subst hj;split
       ·exact hxs
       ·rename_i hlt;exact absurd (Array.getElem?_eq_some_iff.1 hxs).1 hlt
      ·rfl
   ·have:=had h0;subst this;have h1:=run_storeCells_at (P:=P) (c.ρ b) (len*te.size) e vs 0 xs w hxs (by rw [src.length,Nat.add_zero,←Nat.add_mul];exact hcapx) src.one;refine ⟨_,by rw [add_at,he.size,Nat.zero_add];exact h1,?_⟩;rw [setRow_eq hxs];refine Stp.write g _ hb _ ?_ rfl;refine ⟨_,rfl,?_,?_,?_⟩
    ·simp only [Nat.add_zero,List.size_toArray,List.length_append,List.length_take,List.length_drop,src.length,Array.length_toList];rw [Nat.add_mul] at hcapx;omega
    ·rw [hsize1];simp only [Nat.add_zero,List.size_toArray,List.length_append,List.length_take,List.length_drop,src.length,Array.length_toList];rw [Nat.add_mul] at hcapx ⊢;omega
    ·rw [hsize1];have e1:(xs.toList.take (len*te.size+0)++vs++xs.toList.drop (len*te.size+0+vs.length)).toArray.toList.take ((len+n)*te.size)=(xs.toList.take cs.length).take (len*te.size)++vs:=by
      simp only [Nat.add_zero];rw [List.take_append_of_le_length (by rw [List.length_append,List.length_take,src.length,Nat.add_mul,Array.length_toList];rw [Nat.add_mul] at hcapx;omega),List.take_of_length_le]
      ·rw [List.take_take];congr 2;omega
      ·rw [List.length_append,List.length_take,src.length,Nat.add_mul,Array.length_toList];omega
     rw [e1];exact (hr.take _).append src.rel
  obtain ⟨w',hrun,hstp⟩:=hst;have g':=hstp.good;have hb':(h.set b (.cells (cs.take (len*te.size)++as) e)).t.get b=some (.cells (cs.take (len*te.size)++as) e):=by simp [Hp.set,T.get_put]
  have hmv:=Stp.move g' hlim hb' (fun o' ho'=>by
   obtain ⟨ys,h1,h2,h3,h4⟩:=ho';exact ⟨ys,h1,by simp [Hp.set,h2],h3,RL.mono (Ctx.ext_new (g.not_dom hlim) _ _) _ _ h4⟩)
  have hn:=src.len w.drawn;have hf:=src.run w.drawn;refine ⟨_,w',c.new h.n (c.ρ b) (c.sz b),run_append_fits ht he.info hux hni hn (by rw [he.size];exact hf) hroom hrun,?_,?_⟩
  ·simp only [R];refine ⟨.inr rfl,ad,cap,rfl,hroom,fun h0=> ?_,?_⟩
   ·rw [had h0];simp
   ·simpa using hsz
  ·refine (hstp.trans hmv).congr (fun k=> ?_) rfl;simp only [Hp.set,Hp.del,Hp.new,T.get_put];split
   ·rfl
   ·split<;>rfl
 ·have gd:Good lim c h w.drew:=(Stp.drawn g _).good;have sd:Stp lim c h w c h w.drew:=Stp.drawn g _;obtain ⟨olds,hold,hro,hol⟩:=g.loadCells (P:=P) (off:=0) (n:=len*te.size) hb (by omega);have holds:(Builtin.firstCells ie.size len (.slice (some ad) len cap)).run P w.drew= .ok olds.toArray w.drew:=by
   rcases Nat.eq_zero_or_pos cap with h0|h0
   ·have hl0:len=0:=by omega
    subst hl0;have:olds=[]:=List.eq_nil_of_length_eq_zero (by simpa using hol);subst this;simp [Builtin.firstCells,loadCells,loadCellsFrom]
   ·rw [had h0,he.size];simpa [Builtin.firstCells] using hold w.drew rfl
  have hrun:=run_append_grows (P:=P) (w:=w) (ty:=ty) ht he.info he.zero hux hni (src.len w.drawn) holds (by rw [he.size];exact src.run (w.drawn+1)) (by omega) h63 (by rw [he.bytes];exact hbytes);have hcap:len+n≤grownCap w (len+n) cap e:=grownCap_ge w (len+n) cap e;have hsize1:(cs.take (len*te.size)++as).length=(len+n)*te.size:=by
   rw [List.length_append,List.length_take,hasl,Nat.add_mul];omega
  have htot:(olds.toArray++vs.toArray++Builtin.zeroCells z.cells (grownCap w (len+n) cap e - (len+n))).size=grownCap w (len+n) cap e*te.size:=by
   simp only [Array.size_append,List.size_toArray,hol,src.length,zeroCells_size,hz];rw [←Nat.add_mul,←Nat.add_mul];congr 1;omega
  have hst:=Stp.alloc gd hlim (.cells (cs.take (len*te.size)++as) e) (.cells (olds.toArray++vs.toArray++Builtin.zeroCells z.cells (grownCap w (len+n) cap e - (len+n))) e) (grownCap w (len+n) cap e*te.size) (by
   refine ⟨_,rfl,by rw [htot];simp,by rw [htot,hsize1];exact Nat.mul_le_mul_right _ hcap,?_⟩;have e1:(olds.toArray++vs.toArray++Builtin.zeroCells z.cells (grownCap w (len+n) cap e - (len+n))).toList.take (cs.take (len*te.size)++as).length=olds++vs:=by
    simp only [Array.toList_append];rw [hsize1,List.take_append_of_le_length (by simp [hol,src.length,Nat.add_mul]),List.take_of_length_le (by simp [hol,src.length,Nat.add_mul])]
   rw [e1];refine RL.mono (Ctx.ext_new (g.not_dom hlim) _ _) _ _ (RL.append ?_ src.rel);simpa using hro)
  have hst2:=(sd.trans hst).trans (Stp.del hst.good b);refine ⟨_,_,_,hrun,?_,hst2.congr (fun k=> ?_) rfl⟩
  ·simp only [R];refine ⟨.inr rfl,_,_,rfl,hcap,fun _=> ?_,?_⟩
   ·simp
   ·simp
  ·simp only [Hp.del,Hp.new,T.get_put];by_cases h1:k=b
   ·subst h1;rw [if_pos rfl,if_neg (by rintro rfl;exact g.not_dom hlim hbn),if_pos rfl]
   ·rw [if_neg h1,if_neg h1]
theorem append_nil_ok (g:Good lim c h w) (hlim:h.n<lim) {t tx ty e:TypeId} {te:TE} {ie:TypeInfo} {u ux:TypeDesc} {z:Value} (ht:P.underlying t=some (.slice e)) (he:TEok P e te ie u z)
  (hux:P.underlying tx=some ux) (hni:(∃e',ux= .slice e')∨ux= .string) {n:Nat} {x:Value} {as:List AV} {vs:List Value} (src:Src P c w te.size n x as vs) (hn:0<n)
  (hbytes:n*te.bytes≤140737488355328) (h63:n≤9223372036854775807):
  VOK P lim c h w (Builtin.append_ #[t,tx] ty #[.slice none 0 0,x]) (.sl h.n 0 n te.size) (h.new (.cells as e)):=by
 have hz:z.cells.size=te.size:=by have:=he.zsize;rw [←he.cells] at this;simpa using this
 have gd:Good lim c h w.drew:=(Stp.drawn g _).good;have sd:Stp lim c h w c h w.drew:=Stp.drawn g _;have hrun:=run_append_grows (P:=P) (w:=w) (ty:=ty) (base:=none) (sLen:=0) (sCap:=0) (olds:=[]) ht he.info he.zero hux hni (src.len w.drawn) rfl (by rw [he.size];exact src.run (w.drawn+1)) (by omega) (by omega) (by rw [he.bytes];simpa using hbytes);simp only [Nat.zero_add] at hrun;have hcap:n≤grownCap w n 0 e:=grownCap_ge w n 0 e;have hasl:as.length=n*te.size:=by rw [←src.rel.length,src.length]
 have htot:(([]:List Value).toArray++vs.toArray++Builtin.zeroCells z.cells (grownCap w n 0 e - n)).size=grownCap w n 0 e*te.size:=by
  simp only [Array.size_append,List.size_toArray,List.length_nil,src.length,zeroCells_size,hz];rw [Nat.zero_add,←Nat.add_mul];congr 1;omega
 have hst:=Stp.alloc gd hlim (.cells as e) (.cells (([]:List Value).toArray++vs.toArray++Builtin.zeroCells z.cells (grownCap w n 0 e - n)) e) (grownCap w n 0 e*te.size) (by
  refine ⟨_,rfl,by rw [htot];simp,by rw [htot,hasl];exact Nat.mul_le_mul_right _ hcap,?_⟩;have e1:(([]:List Value).toArray++vs.toArray++Builtin.zeroCells z.cells (grownCap w n 0 e - n)).toList.take as.length=vs:=by
   simp only [Array.toList_append];rw [hasl,List.take_append_of_le_length (by simp [src.length]),List.take_of_length_le (by simp [src.length])];simp
  rw [e1];exact RL.mono (Ctx.ext_new (g.not_dom hlim) _ _) _ _ src.rel)
 refine ⟨_,_,_,hrun,?_,sd.trans hst⟩;simp only [R];refine ⟨.inr rfl,_,_,rfl,hcap,fun _=> ?_,?_⟩
 ·simp
 ·simp
theorem append_nil_nothing (g:Good lim c h w) {t tx ty e:TypeId} {te:TE} {ie:TypeInfo} {u ux:TypeDesc} {z:Value} (ht:P.underlying t=some (.slice e)) (he:TEok P e te ie u z)
  (hux:P.underlying tx=some ux) (hni:(∃e',ux= .slice e')∨ux= .string) {x:Value} {as:List AV} {vs:List Value} (src:Src P c w te.size 0 x as vs):
  VOK P lim c h w (Builtin.append_ #[t,tx] ty #[.slice none 0 0,x]) (.val (.slice none 0 0)) h:=by
 have hn:=src.len w.drawn;have hf:=src.run w.drawn;have hn':(Builtin.lenOf x).run P w= .ok 0 w:=hn;have hf':(Builtin.firstCells te.size 0 x).run P w= .ok vs.toArray w:=hf;refine VOK.here g (v:= .slice none 0 0) ?_ (by simp only [R]);rcases hni with ⟨e',rfl⟩|rfl;all_goals simp [Builtin.append_,run_underlying ht,run_underlying hux,sizeOf,typeInfo,he.info,he.size,hn',hf']
end
end Go.Ev
end
noncomputable section
namespace Go.Ev
def pureRun (P:Program) {α:Type}:Sem α→Option α
 | .pure a=>some a
 | .program k=>pureRun P (k P)
 | .mark _ k=>pureRun P k
 |_=>none
theorem pureRun_ok {P:Program} {α:Type}: ∀(s:Sem α) (a:α),pureRun P s=some a→ ∀w,s.run P w= .ok a w
 | .pure b,a,h,w=>by simp only [pureRun] at h;cases h;rfl
 | .program k,a,h,w=>by simp only [pureRun] at h;exact pureRun_ok (k P) a h w
 | .mark m k,a,h,w=>by simp only [pureRun] at h;exact pureRun_ok k a h w
 | .load _ _ _,_,h,_=>by simp [pureRun] at h
 | .store _ _ _ _,_,h,_=>by simp [pureRun] at h
 | .new _ _,_,h,_=>by simp [pureRun] at h
 | .shape _ _,_,h,_=>by simp [pureRun] at h
 | .freeze _ _ _,_,h,_=>by simp [pureRun] at h
 | .frozen _ _,_,h,_=>by simp [pureRun] at h
 | .getObj _ _,_,h,_=>by simp [pureRun] at h
 | .setObj _ _ _,_,h,_=>by simp [pureRun] at h
 | .choose _ _,_,h,_=>by simp [pureRun] at h
 | .sys _ _,_,h,_=>by simp [pureRun] at h
 | .halt _,_,h,_=>by simp [pureRun] at h
mutual
def toVal:AV→Option Value
 | .val v=>some v
 | .agg cs=>match toVals cs with|some l=>some (.agg l.toArray)|none=>none
 | .ifc t v=>match toVal v with|some x=>some (.iface t x)|none=>none
 | .ptr _ _| .sl _ _ _ _| .mp _| .fn _ _ _| .yld _| .tup _=>none
def toVals:List AV→Option (List Value)
 |[]=>some []
 |a::as=>match toVal a with
  |none=>none
  |some x=>match toVals as with|some xs=>some (x::xs)|none=>none
end
mutual
theorem R.toVal {c:Ctx}: ∀{a:AV} {x v:Value},R c a x→toVal a=some v→x=v
 | .val u,x,v,h,e=>by simp only [Ev.toVal] at e;cases e;simpa only [R] using h
 | .agg cs,x,v,h,e=>by
  simp only [Ev.toVal] at e;simp only [R] at h;obtain ⟨xs,rfl,hr⟩:=h;split at e
  ·rename_i l hl;cases e;rw [RL.toVals hr hl]
  ·cases e
 | .ifc t u,x,v,h,e=>by
  simp only [Ev.toVal] at e;simp only [R] at h;obtain ⟨y,rfl,hr⟩:=h;split at e
  ·rename_i y' hy;cases e;rw [R.toVal hr hy]
  ·cases e
 | .ptr _ _,_,_,_,e=>by simp [Ev.toVal] at e
 | .sl _ _ _ _,_,_,_,e=>by simp [Ev.toVal] at e
 | .mp _,_,_,_,e=>by simp [Ev.toVal] at e
 | .fn _ _ _,_,_,_,e=>by simp [Ev.toVal] at e
 | .yld _,_,_,_,e=>by simp [Ev.toVal] at e
 | .tup _,_,_,_,e=>by simp [Ev.toVal] at e
theorem RL.toVals {c:Ctx}: ∀{as:List AV} {xs l:List Value},RL c as xs→toVals as=some l→xs=l
 |[],xs,l,h,e=>by simp only [Ev.toVals] at e;cases e;simpa only [RL] using h
 |a::as,xs,l,h,e=>by
  simp only [Ev.toVals] at e;simp only [RL] at h;obtain ⟨y,ys,rfl,h1,h2⟩:=h;split at e
  ·cases e
  ·rename_i x hx;split at e
   ·rename_i zs hz;cases e;rw [R.toVal h1 hx,RL.toVals h2 hz]
   ·cases e
end
section
variable {P:Program} {lim:Nat} {c:Ctx} {h:Hp} {w:World}
def padd:AV→Nat→Option AV
 | .ptr b off,n=>some (.ptr b (off+n))
 | .val (.pointer (some a)),n=>some (.val (.pointer (some (a.add n))))
 |_,_=>none
theorem padd_ok {a a':AV} {n:Nat} {x:Value} (hx:R c a x) (hp:padd a n=some a'): ∃ad,x= .pointer (some ad)∧R c a' (.pointer (some (ad.add n))):=by
 unfold padd at hp;split at hp
 ·cases hp;simp only [R] at hx ⊢;obtain ⟨h1,rfl⟩:=hx;exact ⟨_,rfl,h1,by rw [add_at]⟩
 ·cases hp;simp only [R] at hx ⊢;exact ⟨_,hx,rfl⟩
 ·cases hp
def afieldAddr (tb:T TE) (s:TypeId) (a:AV) (f:Nat):Option AV:=
 match tb.get s with
 |some te=>match te.d with
  | .struct fs=>match fs[f]? with
   |some (off,size,_)=>bif Nat.beq size 0 then none else padd a off
   |none=>none
  |_=>none
 |none=>none
theorem mapM_get {P:Program}: ∀(fs:List Field) (ps:List (Nat×Nat)),fs.mapM (fun f=>(P.info? f.type).map fun i=>(f.offset,i.size))=some ps→
  ∀(j:Nat) (p:Nat×Nat),ps[j]? =some p→ ∃f i,fs[j]? =some f∧P.info? f.type=some i∧p=(f.offset,i.size)
 |[],ps,h,j,p,hj=>by simp at h;subst h;simp at hj
 |f::fs,ps,h,j,p,hj=>by
  simp only [List.mapM_cons,Option.bind_eq_bind,Option.pure_def] at h;cases hi:P.info? f.type with
  |none=>simp [hi] at h
  |some i=>
   cases hr:fs.mapM (fun f=>(P.info? f.type).map fun i=>(f.offset,i.size)) with
   |none=>simp [hi,hr] at h
   |some rest=>
    simp [hi,hr] at h;subst h;cases j with
    |zero=>simp at hj;exact ⟨f,i,rfl,hi,hj.symm⟩
    |succ j=>simp at hj;obtain ⟨f',i',h1,h2,h3⟩:=mapM_get fs rest hr j p hj;exact ⟨f',i',by simpa using h1,h2,h3⟩
theorem fieldAddr_ok {tb:T TE} (htb:Tb P tb) (g:Good lim c h w) {s:TypeId} {f:Nat} {a a':AV} {x:Value} (hx:R c a x) (hf:afieldAddr tb s a f=some a'):VOK P lim c h w (Instr.fieldAt s x f) a' h:=by
 unfold afieldAddr at hf;split at hf
 ·rename_i te hte;obtain ⟨i,u,z,ht⟩:=htb s te hte;split at hf
  ·rename_i fs hfs;split at hf
   ·rename_i off size ty hg;have hd:=ht.d;rw [hfs] at hd;obtain ⟨fields,rfl,hm,_⟩:=hd;obtain ⟨fl,ifl,h1,h2,h3⟩:=mapM_get fields.toList _ hm f (off,size) (by simp [hg]);cases h3;cases hz:Nat.beq ifl.size 0 with
    |true=>rw [hz] at hf;cases hf
    |false=>
     rw [hz] at hf;simp only [cond_false] at hf;obtain ⟨ad,rfl,hr⟩:=padd_ok hx hf;have hne:ifl.size≠0:=fun e=>by rw [e] at hz;cases hz
     refine VOK.here g ?_ hr;have h1':fields[f]? =some fl:=by simpa using h1
     simp [Instr.fieldAt,ht.run_under,h1',Instr.sureAddr,fieldPlace,sizeOf,typeInfo,h2,hne]
   ·cases hf
  ·cases hf
 ·cases hf
def aint:AV→Option Int
 | .val (.int _ n)=>some n
 |_=>none
theorem aint_ok {a:AV} {n:Int} {x:Value} (hx:R c a x) (ha:aint a=some n): ∃k,x= .int k n:=by
 unfold aint at ha;split at ha
 ·cases ha;simp only [R] at hx;exact ⟨_,hx⟩
 ·cases ha
def aindexAddr (tb:T TE) (t:TypeId) (a i:AV):Option AV:=
 match tb.get t with
 |none=>none
 |some te=>match aint i with
  |none=>none
  |some (.negSucc _)=>none
  |some (.ofNat k)=>match te.d with
   | .slice e=>match tb.get e with
    |none=>none
    |some ee=>match a with
     | .sl b off len esz=>bif Nat.blt k len && Nat.beq esz ee.size then some (.ptr b (off+k*ee.size)) else none
     | .val (.slice (some ad) len _)=>bif Nat.blt k len then some (.val (.pointer (some (ad.add (k*ee.size))))) else none
     |_=>none
   | .array len e=>match tb.get e with
    |none=>none
    |some ee=>bif Nat.blt k len then padd a (k*ee.size) else none
   |_=>none
theorem indexAddr_ok {tb:T TE} (htb:Tb P tb) (g:Good lim c h w) {t:TypeId} {a i a':AV} {x y:Value} (hx:R c a x) (hy:R c i y) (hf:aindexAddr tb t a i=some a'):VOK P lim c h w (Instr.indexAt t x y) a' h:=by
 unfold aindexAddr at hf;split at hf
 ·cases hf
 rename_i te hte;obtain ⟨it,u,z,ht⟩:=htb t te hte;split at hf
 ·cases hf
 ·cases hf
 rename_i k hk;obtain ⟨ki,rfl⟩:=aint_ok hy hk;split at hf
 ·rename_i e hd;split at hf
  ·cases hf
  rename_i ee hee;obtain ⟨ie,ue,ze,he⟩:=htb e ee hee;have hu:=ht.d;rw [hd] at hu;simp only [TDok] at hu;subst hu;split at hf
  ·rename_i b off len esz;cases hb:(Nat.blt k len && Nat.beq esz ee.size) with
   |false=>rw [hb] at hf;cases hf
   |true=>
    rw [hb] at hf;simp only [cond_true] at hf;cases hf;simp only [Bool.and_eq_true] at hb;have hkl:k<len:=by simpa [Nat.blt_eq] using hb.1
    have hes:esz=ee.size:=Nat.eq_of_beq_eq_true hb.2;simp only [R] at hx;obtain ⟨hbn,ad,cap,rfl,hlc,had,_⟩:=hx;have:=had (by omega);subst this;refine VOK.here g (v:= .pointer (some ⟨c.ρ b,off+k*ee.size,none⟩)) ?_ (by simp only [R];exact ⟨hbn,trivial⟩);have h0:(0:Int)≤Int.ofNat k∧Int.ofNat k<(len:Int):=⟨Int.natCast_nonneg k,by show (k:Int)<len;omega⟩;simp only [Instr.indexAt,asIntOf,Sem.run_bind,Sem.run_pure,Result.andThen_ok,ht.run_under,h0,and_self,if_true,he.run_size,add_at];rfl
  ·rename_i ad len cap;cases hb:Nat.blt k len with
   |false=>rw [hb] at hf;cases hf
   |true=>
    rw [hb] at hf;simp only [cond_true] at hf;cases hf;have hkl:k<len:=by simpa [Nat.blt_eq] using hb
    simp only [R] at hx;subst hx;refine VOK.here g (v:= .pointer (some (ad.add (k*ee.size)))) ?_ (by simp only [R]);have h0:(0:Int)≤Int.ofNat k∧Int.ofNat k<(len:Int):=⟨Int.natCast_nonneg k,by show (k:Int)<len;omega⟩;simp only [Instr.indexAt,asIntOf,Sem.run_bind,Sem.run_pure,Result.andThen_ok,ht.run_under,h0,and_self,if_true,he.run_size];rfl
  ·cases hf
 ·rename_i len e hd;split at hf
  ·cases hf
  rename_i ee hee;obtain ⟨ie,ue,ze,he⟩:=htb e ee hee;have hu:=ht.d;rw [hd] at hu;simp only [TDok] at hu;subst hu;cases hb:Nat.blt k len with
  |false=>rw [hb] at hf;cases hf
  |true=>
   rw [hb] at hf;simp only [cond_true] at hf;have hkl:k<len:=by simpa [Nat.blt_eq] using hb
   obtain ⟨ad,rfl,hr⟩:=padd_ok hx hf;refine VOK.here g ?_ hr;have h0:(0:Int)≤Int.ofNat k∧Int.ofNat k<(len:Int):=⟨Int.natCast_nonneg k,by show (k:Int)<len;omega⟩;simp only [Instr.indexAt,asIntOf,Sem.run_bind,Sem.run_pure,Result.andThen_ok,ht.run_under,Instr.sureAddr,h0,and_self,if_true,he.run_size];rfl
 ·cases hf
end
end Go.Ev
end
noncomputable section
namespace Go.Ev
section
variable {P:Program} {lim:Nat} {c:Ctx} {h:Hp} {w:World} {tb:T TE} {xt:Addr→Option Value}
def extCells (xt:Addr→Option Value) (a:Addr):Nat→Nat→Option (List Value)
 |0,_=>some []
 |n+1,i=>match xt (a.add i) with
  |none=>none
  |some v=>match extCells xt a n (i+1) with
   |none=>none
   |some l=>some (v::l)
theorem extCells_ok {a:Addr} (hx: ∀b v,xt b=some v→w.cell? b=some v): ∀(n i:Nat) (l:List Value),extCells xt a n i=some l→l.length=n∧ ∀j v,l[j]? =some v→w.cell? (a.add (i+j))=some v
 |0,i,l,h=>by simp only [extCells] at h;cases h;simp
 |n+1,i,l,h=>by
  simp only [extCells] at h;split at h
  ·cases h
  rename_i v hv;split at h
  ·cases h
  rename_i l' hl';cases h;obtain ⟨h1,h2⟩:=extCells_ok hx n (i+1) l' hl';refine ⟨by simp [h1],fun j u hj=> ?_⟩;cases j with
  |zero=>simp at hj;subst hj;exact hx _ _ hv
  |succ j=>simp at hj;have:=h2 j u hj;rwa [show i+1+j=i+(j+1) by omega] at this
def aload (tb:T TE) (xt:Addr→Option Value) (h:Hp) (t:TypeId) (a:AV):Option AV:=
 match tb.get t with
 |none=>none
 |some te=>match a with
  | .ptr b off=>match h.t.get b with
   |some (.cells cs _)=>bif te.agg then (bif Nat.ble (off+te.size) cs.length then some (.agg ((cs.drop off).take te.size)) else none) else cs[off]?
   |_=>none
  | .val (.pointer (some ad))=>bif te.agg then (match extCells xt ad te.size 0 with|some l=>some (.agg (l.map .val))|none=>none)
    else (match xt ad with|some v=>some (.val v)|none=>none)
  |_=>none
theorem aload_ok (htb:Tb P tb) (g:Good lim c h w) (hxt: ∀b v,xt b=some v→c.ext b=some v) {t:TypeId} {a a':AV} {x:Value} (hx:R c a x) (hf:aload tb xt h t a=some a'):VOK P lim c h w (Instr.loadAt t x) a' h:=by
 unfold aload at hf;split at hf
 ·cases hf
 rename_i te hte;obtain ⟨i,u,z,ht⟩:=htb t te hte;have hxc: ∀b v,xt b=some v→w.cell? b=some v:=fun b v e=>(g.ext b v (hxt b v e)).1;split at hf
 ·rename_i b off;split at hf
  ·rename_i cs e hb;refine load_ok g ht hb hx ?_;cases ha:te.agg with
   |true=>
    rw [ha] at hf;simp only [cond_true] at hf;cases hl:Nat.ble (off+te.size) cs.length with
    |false=>rw [hl] at hf;cases hf
    |true=>rw [hl] at hf;cases hf;exact .inl ⟨rfl,Nat.le_of_ble_eq_true hl,rfl⟩
   |false=>rw [ha] at hf;exact .inr ⟨rfl,hf⟩
  ·cases hf
 ·rename_i ad;simp only [R] at hx;subst hx;cases ha:te.agg with
  |true=>
   rw [ha] at hf;simp only [cond_true] at hf;split at hf
   ·rename_i l hl;cases hf;obtain ⟨h1,h2⟩:=extCells_ok hxc te.size 0 l hl;have hrun:=run_loadCells_list (P:=P) w ad l (fun j v hj=>by have:=h2 j v hj;rwa [Nat.zero_add] at this);rw [h1] at hrun;refine VOK.here g (v:= .agg l.toArray) ?_ (by simp only [R];exact ⟨l,rfl,RL.map_val l⟩);simp [Instr.loadAt,Instr.sureAddr,loadVar,ht.run_isAgg,ht.run_size,ha,hrun]
   ·cases hf
  |false=>
   rw [ha] at hf;simp only [cond_false] at hf;split at hf
   ·rename_i v hv;cases hf;refine VOK.here g (v:=v) ?_ (by simp only [R]);simp [Instr.loadAt,Instr.sureAddr,loadVar,ht.run_isAgg,ha,hxc _ _ hv]
   ·cases hf
 ·cases hf
theorem aload_q (htb:Tb P tb) (g:Good lim c h w) (hxt: ∀b v,xt b=some v→c.ext b=some v) {t:TypeId} {a a':AV} {x:Value} (hx:R c a x) (hf:aload tb xt h t a=some a'): ∃y,(Instr.loadAt t x).run P w= .ok y w∧R c a' y:=by
 unfold aload at hf;split at hf
 ·cases hf
 rename_i te hte;obtain ⟨i,u,z,ht⟩:=htb t te hte;have hxc: ∀b v,xt b=some v→w.cell? b=some v:=fun b v e=>(g.ext b v (hxt b v e)).1;split at hf
 ·rename_i b off;split at hf
  ·rename_i cs e hb;refine load_q g ht hb hx ?_;cases ha:te.agg with
   |true=>
    rw [ha] at hf;simp only [cond_true] at hf;cases hl:Nat.ble (off+te.size) cs.length with
    |false=>rw [hl] at hf;cases hf
    |true=>rw [hl] at hf;cases hf;exact .inl ⟨rfl,Nat.le_of_ble_eq_true hl,rfl⟩
   |false=>rw [ha] at hf;exact .inr ⟨rfl,hf⟩
  ·cases hf
 ·rename_i ad;simp only [R] at hx;subst hx;cases ha:te.agg with
  |true=>
   rw [ha] at hf;simp only [cond_true] at hf;split at hf
   ·rename_i l hl;cases hf;obtain ⟨h1,h2⟩:=extCells_ok hxc te.size 0 l hl;have hrun:=run_loadCells_list (P:=P) w ad l (fun j v hj=>by have:=h2 j v hj;rwa [Nat.zero_add] at this);rw [h1] at hrun;refine ⟨.agg l.toArray,?_,by simp only [R];exact ⟨l,rfl,RL.map_val l⟩⟩;simp [Instr.loadAt,Instr.sureAddr,loadVar,ht.run_isAgg,ht.run_size,ha,hrun]
   ·cases hf
  |false=>
   rw [ha] at hf;simp only [cond_false] at hf;split at hf
   ·rename_i v hv;cases hf;refine ⟨v,?_,by simp only [R]⟩;simp [Instr.loadAt,Instr.sureAddr,loadVar,ht.run_isAgg,ha,hxc _ _ hv]
   ·cases hf
 ·cases hf
def astore (tb:T TE) (h:Hp) (t:TypeId) (a v:AV):Option Hp:=
 match tb.get t with
 |none=>none
 |some te=>match a with
  | .ptr b off=>match h.t.get b with
   |some (.cells cs e)=>
    bif Nat.beq (cellsOf v).length te.size && (Nat.ble (off+te.size) cs.length && (cellsOf v).all one)
    then some (h.set b (.cells (cs.take off++cellsOf v++cs.drop (off+te.size)) e)) else none
   |_=>none
  |_=>none
theorem astore_ok (htb:Tb P tb) (g:Good lim c h w) {t:TypeId} {a v:AV} {x y:Value} (hx:R c a x) (hy:R c v y) {h':Hp} (hf:astore tb h t a v=some h'):
  ∃w',(Instr.storeAt t x y).run P w= .ok () w'∧Stp lim c h w c h' w':=by
 unfold astore at hf;split at hf
 ·cases hf
 rename_i te hte;obtain ⟨i,u,z,ht⟩:=htb t te hte;split at hf
 ·rename_i b off;split at hf
  ·rename_i cs e hb;cases hc:(Nat.beq (cellsOf v).length te.size && (Nat.ble (off+te.size) cs.length && (cellsOf v).all one)) with
   |false=>rw [hc] at hf;cases hf
   |true=>
    rw [hc] at hf;cases hf;simp only [Bool.and_eq_true] at hc;exact store_ok g ht hb hx hy (Nat.eq_of_beq_eq_true hc.1) (Nat.le_of_ble_eq_true hc.2.1) hc.2.2
  ·cases hf
 ·cases hf
def apart (te:TE) (cs:List AV) (off:Nat):Option AV:=
 bif te.agg then (bif Nat.ble (off+te.size) cs.length then some (.agg ((cs.drop off).take te.size)) else none) else cs[off]?
theorem apart_ok {t:TypeId} {te:TE} {i:TypeInfo} {u:TypeDesc} {z:Value} (ht:TEok P t te i u z) (g:Good lim c h w) {cs:List AV} {xs:List Value} (hr:RL c cs xs) {off:Nat} {a:AV}
  (ha:apart te cs off=some a):VOK P lim c h w (part t xs.toArray off) a h:=by
 unfold apart at ha;cases hg:te.agg with
 |true=>
  rw [hg] at ha;simp only [cond_true] at ha;cases hl:Nat.ble (off+te.size) cs.length with
  |false=>rw [hl] at ha;cases ha
  |true=>
   rw [hl] at ha;cases ha;refine VOK.here g (v:= .agg ((xs.drop off).take te.size).toArray) ?_ (by simp only [R];exact ⟨_,rfl,(hr.drop off).take te.size⟩);simp [part,ht.run_isAgg,ht.run_size,hg]
 |false=>
  rw [hg] at ha;simp only [cond_false] at ha;obtain ⟨v,hv,hrv⟩:=hr.get ha;refine VOK.here g (v:=v) ?_ hrv;have hv':xs.toArray[off]? =some v:=by simpa using hv
  simp [part,ht.run_isAgg,hg,hv]
def acells:AV→Option (List AV)
 | .agg cs=>some cs
 | .val (.agg cs)=>some (cs.toList.map .val)
 |_=>none
theorem acells_ok {a:AV} {x:Value} {cs:List AV} (hx:R c a x) (ha:acells a=some cs): ∃xs:List Value,x= .agg xs.toArray∧RL c cs xs:=by
 unfold acells at ha;split at ha
 ·cases ha;simpa only [R] using hx
 ·cases ha;simp only [R] at hx;exact ⟨_,by rw [hx],RL.map_val _⟩
 ·cases ha
def afield (tb:T TE) (t:TypeId) (a:AV) (f:Nat):Option AV:=
 match tb.get t with
 |none=>none
 |some te=>match te.d with
  | .struct fs=>match fs[f]? with
   |none=>none
   |some (off,_,ft)=>match tb.get ft with
    |none=>none
    |some fe=>match acells a with
     |none=>none
     |some cs=>apart fe cs off
  |_=>none
theorem afield_ok (htb:Tb P tb) (g:Good lim c h w) {t:TypeId} {f:Nat} {a a':AV} {x:Value} (hx:R c a x) (hf:afield tb t a f=some a'):VOK P lim c h w (Instr.field t x f) a' h:=by
 unfold afield at hf;split at hf
 ·cases hf
 rename_i te hte;obtain ⟨i,u,z,ht⟩:=htb t te hte;split at hf
 ·rename_i fs hfs;split at hf
  ·cases hf
  rename_i off size ft hg;split at hf
  ·cases hf
  rename_i fe hfe;obtain ⟨i2,u2,z2,ht2⟩:=htb ft fe hfe;split at hf
  ·cases hf
  rename_i cs hcs;obtain ⟨xs,rfl,hr⟩:=acells_ok hx hcs;have hd:=ht.d;rw [hfs] at hd;obtain ⟨fields,rfl,hm,hty⟩:=hd;obtain ⟨fl,ifl,h1,h2,h3⟩:=mapM_get fields.toList _ hm f (off,size) (by simp [hg]);cases h3;have h4:fl.type=ft:=by
   have e1:(fields.toList.map (·.type))[f]? =some fl.type:=by rw [List.getElem?_map,h1];rfl
   rw [hty,List.getElem?_map,hg] at e1;simpa using e1.symm
  subst h4;obtain ⟨v,w',c',hrun,hr',hs⟩:=apart_ok ht2 g hr hf;refine ⟨v,w',c',?_,hr',hs⟩;have h1':fields[f]? =some fl:=by simpa using h1
  simp only [Instr.field,Sem.run_bind,ht.run_under,Result.andThen_ok,h1',asAgg,Sem.run_pure,hrun]
 ·cases hf
def aindex (tb:T TE) (t:TypeId) (a i:AV):Option AV:=
 match tb.get t with
 |none=>none
 |some te=>match aint i with
  |none=>none
  |some (.negSucc _)=>none
  |some (.ofNat k)=>match te.d with
   | .array len e=>match tb.get e with
    |none=>none
    |some ee=>bif Nat.blt k len then (match acells a with|none=>none|some cs=>apart ee cs (k*ee.size)) else none
   | .str=>match a with
    | .val (.string s)=>match s.data.toList[k]? with
     |some b=>some (.val (.int .u8 b.toNat))
     |none=>none
    |_=>none
   |_=>none
theorem aindex_ok (htb:Tb P tb) (g:Good lim c h w) {t:TypeId} {a i a':AV} {x y:Value} (hx:R c a x) (hy:R c i y) (hf:aindex tb t a i=some a'):VOK P lim c h w (Instr.index t x y) a' h:=by
 unfold aindex at hf;split at hf
 ·cases hf
 rename_i te hte;obtain ⟨it,u,z,ht⟩:=htb t te hte;split at hf
 ·cases hf
 ·cases hf
 rename_i k hk;obtain ⟨ki,rfl⟩:=aint_ok hy hk;split at hf
 ·rename_i len e hd;split at hf
  ·cases hf
  rename_i ee hee;obtain ⟨ie,ue,ze,he⟩:=htb e ee hee;have hu:=ht.d;rw [hd] at hu;simp only [TDok] at hu;subst hu;cases hb:Nat.blt k len with
  |false=>rw [hb] at hf;cases hf
  |true=>
   rw [hb] at hf;simp only [cond_true] at hf;have hkl:k<len:=by simpa [Nat.blt_eq] using hb
   split at hf
   ·cases hf
   rename_i cs hcs;obtain ⟨xs,rfl,hr⟩:=acells_ok hx hcs;obtain ⟨v,w',c',hrun,hr',hs⟩:=apart_ok he g hr hf;refine ⟨v,w',c',?_,hr',hs⟩;have h0:(0:Int)≤Int.ofNat k∧Int.ofNat k<(len:Int):=⟨Int.natCast_nonneg k,by show (k:Int)<len;omega⟩;simp only [Instr.index,asIntOf,Sem.run_bind,Sem.run_pure,Result.andThen_ok,ht.run_under,h0,and_self,if_true,he.run_size];exact hrun
 ·rename_i hd;have hu:=ht.d;rw [hd] at hu;simp only [TDok] at hu;subst hu;split at hf
  ·rename_i s;split at hf
   ·rename_i b hb;cases hf;simp only [R] at hx;subst hx;refine VOK.here g (v:= .int .u8 b.toNat) ?_ (by simp only [R]);have h0:(0:Int)≤Int.ofNat k:=Int.natCast_nonneg k;have hb':s[k]? =some b:=by
     have hl:k<s.data.toList.length:=by
      rcases Nat.lt_or_ge k s.data.toList.length with hlt|hge
      ·exact hlt
      ·rw [List.getElem?_eq_none hge] at hb;cases hb
     have hl':k<s.size:=by simpa using hl
     rw [getElem?_pos s k hl'];rw [List.getElem?_eq_getElem hl] at hb;have hb2:s.data[k]=b:=by simpa using hb
     rw [←hb2];rfl
    have h0':(0:Int)≤(k:Int):=h0;simp only [Instr.index,asIntOf,Sem.run_bind,Sem.run_pure,Result.andThen_ok,ht.run_under,Int.toNat_natCast,Int.ofNat_eq_natCast,hb',if_pos h0']
   ·cases hf
  ·cases hf
 ·cases hf
def aextract:AV→Nat→Option AV
 | .tup vs,i=>vs[i]?
 | .val (.tuple vs),i=>match vs.toList[i]? with|some v=>some (.val v)|none=>none
 |_,_=>none
theorem aextract_ok (g:Good lim c h w) {a a':AV} {i:Nat} {x:Value} (hx:R c a x) (hf:aextract a i=some a'):VOK P lim c h w (Instr.extract x i) a' h:=by
 unfold aextract at hf;split at hf
 ·simp only [R] at hx;obtain ⟨xs,rfl,hr⟩:=hx;obtain ⟨v,hv,hrv⟩:=hr.get hf;refine VOK.here g (v:=v) ?_ hrv;simp [Instr.extract,hv]
 ·rename_i vs;split at hf
  ·rename_i v hv;cases hf;simp only [R] at hx;subst hx;refine VOK.here g (v:=v) ?_ (by simp only [R]);have:vs[i]? =some v:=by simpa using hv
   simp [Instr.extract,this]
  ·cases hf
 ·cases hf
end
end Go.Ev
end
noncomputable section
namespace Go.Ev
section
variable {P:Program} {lim:Nat} {c:Ctx} {h:Hp} {w:World} {tb:T TE} {xt:Addr→Option Value}
def anat:AV→Option Nat
 | .val (.int _ (.ofNat n))=>some n
 |_=>none
def abound (d:Nat):Option AV→Option Nat
 |none=>some d
 |some a=>anat a
def IsBound (d:Nat) (x:Option Value) (n:Nat):Prop:=(x=none∧n=d)∨ ∃k,x=some (.int k (n:Int))
theorem abound_ok {d n:Nat} (ev:Operand→AV) (ρ:Operand→Value) (hev: ∀x,R c (ev x) (ρ x)) (o:Option Operand) (ha:abound d (o.map ev)=some n):IsBound d (o.map ρ) n:=by
 cases o with
 |none=>simp only [Option.map_none,abound] at ha;cases ha;exact .inl ⟨rfl,rfl⟩
 |some x=>
  simp only [Option.map_some,abound] at ha;have hx:=hev x;unfold anat at ha;split at ha
  ·rename_i k m he;cases ha;rw [he] at hx;simp only [R] at hx;exact .inr ⟨k,by simp [hx]⟩
  ·cases ha
theorem run_bounds (isS:Bool) {len cap l hh:Nat} {lo hi:Option Value} (hlo:IsBound 0 lo l) (hhi:IsBound len hi hh) (h1:l≤hh) (h2:hh≤cap):
  (Instr.sliceBounds isS len cap lo hi none).run P w= .ok (l,hh,cap) w:=by
 have hh0:(0:Int)≤(hh:Int)∧(hh:Int)≤(cap:Int):=⟨by omega,by omega⟩;have hl0:(0:Int)≤(l:Int)∧(l:Int)≤(hh:Int):=⟨by omega,by omega⟩;have k1:(hh:Int)≤(cap:Int):=by omega
 have k2:(l:Int)≤(hh:Int):=by omega
 rcases hlo with ⟨rfl,rfl⟩|⟨k,rfl⟩<;>rcases hhi with ⟨rfl,rfl⟩|⟨k',rfl⟩<;>
  simp [Instr.sliceBounds,Instr.sliceBound,asIntOf,h2,h1]
def aslice (tb:T TE) (h:Hp) (t:TypeId) (a:AV) (lo hi:Option AV):Option AV:=
 match tb.get t with
 |none=>none
 |some te=>match te.d with
  | .slice e=>match tb.get e with
   |none=>none
   |some ee=>match a with
    | .sl b off len esz=>match abound 0 lo with
     |none=>none
     |some l=>match abound len hi with
      |none=>none
      |some k=>bif Nat.ble l k && (Nat.ble k len && Nat.beq esz ee.size) then some (.sl b (off+l*esz) (k - l) esz) else none
    | .val (.slice base len cap)=>match abound 0 lo with
     |none=>none
     |some l=>match abound len hi with
      |none=>none
      |some k=>bif Nat.ble l k && Nat.ble k cap then some (.val (.slice (if cap=l then base else base.map (·.add (l*ee.size))) (k - l) (cap - l))) else none
    |_=>none
  | .str=>match a with
   | .val (.string s)=>match abound 0 lo with
    |none=>none
    |some l=>match abound s.size hi with
     |none=>none
     |some k=>bif Nat.ble l k && Nat.ble k s.size then some (.val (.string (s.extract l k))) else none
   |_=>none
  | .array n e=>match tb.get e with
   |none=>none
   |some ee=>match a with
    | .ptr b off=>match h.t.get b with
     |some (.cells cs _)=>match abound 0 lo with
      |none=>none
      |some l=>match abound n hi with
       |none=>none
       |some k=>bif Nat.ble l k && (Nat.ble k n && Nat.ble (off+n*ee.size) cs.length) then some (.sl b (off+l*ee.size) (k - l) ee.size) else none
     |_=>none
    |_=>none
  |_=>none
theorem aslice_ok (htb:Tb P tb) (g:Good lim c h w) (ev:Operand→AV) (ρ:Operand→Value) (hev: ∀x,R c (ev x) (ρ x)) {t:TypeId} {x:Operand} {lo hi:Option Operand} {a':AV}
  (hf:aslice tb h t (ev x) (lo.map ev) (hi.map ev)=some a'):VOK P lim c h w (Instr.sliceAt t (ρ x) (lo.map ρ) (hi.map ρ) none) a' h:=by
 have hx:=hev x;generalize ev x=a at hf hx
 generalize ρ x=v at hx
 unfold aslice at hf;split at hf
 ·cases hf
 rename_i te hte;obtain ⟨it,u,z,ht⟩:=htb t te hte;split at hf
 ·rename_i e hd;split at hf
  ·cases hf
  rename_i ee hee;obtain ⟨ie,ue,ze,he⟩:=htb e ee hee;have hu:=ht.d;rw [hd] at hu;simp only [TDok] at hu;subst hu;split at hf
  ·rename_i b off len esz;split at hf
   ·cases hf
   rename_i l hl;split at hf
   ·cases hf
   rename_i k hk;cases hb:(Nat.ble l k && (Nat.ble k len && Nat.beq esz ee.size)) with
   |false=>rw [hb] at hf;cases hf
   |true=>
    rw [hb] at hf;simp only [cond_true] at hf;cases hf;simp only [Bool.and_eq_true] at hb;have h1:=Nat.le_of_ble_eq_true hb.1;have h2:=Nat.le_of_ble_eq_true hb.2.1;have hes:esz=ee.size:=Nat.eq_of_beq_eq_true hb.2.2;subst hes;simp only [R] at hx;obtain ⟨hbn,ad,cap,rfl,hlc,had,hsz⟩:=hx;have hbd:=run_bounds (P:=P) (w:=w) true (cap:=cap) (abound_ok ev ρ hev lo hl) (abound_ok ev ρ hev hi hk) h1 (by omega);refine VOK.here g (v:= .slice (some (if cap=l then ad else ad.add (l*ee.size))) (k - l) (cap - l)) ?_ ?_
    ·simp only [Instr.sliceAt,Instr.slice,Sem.run_bind,ht.run_under,Result.andThen_ok,hbd,he.run_size,Sem.run_pure]
     congr 2
     by_cases e1:cap=l<;>simp [e1]
    ·simp only [R];refine ⟨hbn,_,_,rfl,by omega,fun h0=> ?_,?_⟩
     ·rw [if_neg (by omega),had (by omega),add_at]
     ·have:l*ee.size+(cap - l)*ee.size=cap*ee.size:=by rw [←Nat.add_mul];congr 1;omega
      omega
  ·rename_i base len cap;split at hf
   ·cases hf
   rename_i l hl;split at hf
   ·cases hf
   rename_i k hk;cases hb:(Nat.ble l k && Nat.ble k cap) with
   |false=>rw [hb] at hf;cases hf
   |true=>
    rw [hb] at hf;simp only [cond_true] at hf;cases hf;simp only [Bool.and_eq_true] at hb;have h1:=Nat.le_of_ble_eq_true hb.1;have h2:=Nat.le_of_ble_eq_true hb.2;simp only [R] at hx;subst hx;have hbd:=run_bounds (P:=P) (w:=w) true (cap:=cap) (abound_ok ev ρ hev lo hl) (abound_ok ev ρ hev hi hk) h1 h2;refine VOK.here g (v:= .slice (if cap=l then base else base.map (·.add (l*ee.size))) (k - l) (cap - l)) ?_ (by simp only [R]);simp only [Instr.sliceAt,Instr.slice,Sem.run_bind,ht.run_under,Result.andThen_ok,hbd,he.run_size,Sem.run_pure]
  ·cases hf
 ·rename_i hd;have hu:=ht.d;rw [hd] at hu;simp only [TDok] at hu;subst hu;split at hf
  ·rename_i s;split at hf
   ·cases hf
   rename_i l hl;split at hf
   ·cases hf
   rename_i k hk;cases hb:(Nat.ble l k && Nat.ble k s.size) with
   |false=>rw [hb] at hf;cases hf
   |true=>
    rw [hb] at hf;simp only [cond_true] at hf;cases hf;simp only [Bool.and_eq_true] at hb;have h1:=Nat.le_of_ble_eq_true hb.1;have h2:=Nat.le_of_ble_eq_true hb.2;simp only [R] at hx;subst hx;have hbd:=run_bounds (P:=P) (w:=w) false (cap:=s.size) (abound_ok ev ρ hev lo hl) (abound_ok ev ρ hev hi hk) h1 h2;refine VOK.here g (v:= .string (s.extract l k)) ?_ (by simp only [R]);simp [Instr.sliceAt,Instr.slice,ht.run_under,hbd]
  ·cases hf
 ·rename_i n e hd;split at hf
  ·cases hf
  rename_i ee hee;obtain ⟨ie,ue,ze,he⟩:=htb e ee hee;have hu:=ht.d;rw [hd] at hu;simp only [TDok] at hu;subst hu;split at hf
  ·rename_i b off;split at hf
   ·rename_i cs e' hbk;split at hf
    ·cases hf
    rename_i l hl;split at hf
    ·cases hf
    rename_i k hk;cases hb:(Nat.ble l k && (Nat.ble k n && Nat.ble (off+n*ee.size) cs.length)) with
    |false=>rw [hb] at hf;cases hf
    |true=>
     rw [hb] at hf;simp only [cond_true] at hf;cases hf;simp only [Bool.and_eq_true] at hb;have h1:=Nat.le_of_ble_eq_true hb.1;have h2:=Nat.le_of_ble_eq_true hb.2.1;have h3:=Nat.le_of_ble_eq_true hb.2.2;simp only [R] at hx;obtain ⟨hbn,rfl⟩:=hx;obtain ⟨xs,_,hxsz,hxl,_⟩:=g.block hbk;have hbd:=run_bounds (P:=P) (w:=w) false (cap:=n) (abound_ok ev ρ hev lo hl) (abound_ok ev ρ hev hi hk) h1 h2;refine VOK.here g (v:= .slice (some (if n=l then ⟨c.ρ b,off,none⟩ else ⟨c.ρ b,off+l*ee.size,none⟩)) (k - l) (n - l)) ?_ ?_
     ·simp only [Instr.sliceAt,Sem.run_bind,ht.run_under,Result.andThen_ok,Instr.sureAddr,hbd,he.run_size,Sem.run_pure,add_at]
     ·simp only [R];refine ⟨hbn,_,_,rfl,by omega,fun h0=> ?_,?_⟩
      ·rw [if_neg (by omega)]
      ·have:l*ee.size+(n - l)*ee.size=n*ee.size:=by rw [←Nat.add_mul];congr 1;omega
       omega
   ·cases hf
  ·cases hf
 ·cases hf
def alen (tb:T TE) (h:Hp) (t:TypeId) (a:AV):Option Nat:=
 match tb.get t with
 |none=>none
 |some te=>match te.d with
  | .slice _=>match a with
   | .sl _ _ len _=>some len
   | .val (.slice _ n _)=>some n
   |_=>none
  | .str=>match a with
   | .val (.string s)=>some s.data.toList.length
   |_=>none
  | .array n _=>some n
  | .map _ _=>match a with
   | .mp b=>match h.t.get b with
    |some (.map es)=>some es.length
    |_=>none
   |_=>none
  |_=>none
theorem ROMap.length {c:Ctx}: ∀{es:List (AV×AV)} {xs:List MapEntry},ROMap c es xs→xs.length=es.length
 |[],xs,h=>by simp only [ROMap] at h;rw [h];rfl
 |(k,v)::es,xs,h=>by
  simp only [ROMap] at h;obtain ⟨y,ys,rfl,_,_,h3⟩:=h;simp [ROMap.length h3]
theorem alen_ok (htb:Tb P tb) (g:Good lim c h w) {t ty:TypeId} {a:AV} {x:Value} {n:Nat} (hx:R c a x) (hf:alen tb h t a=some n):VOK P lim c h w (Builtin.len_ #[t] ty #[x]) (.val (.int .i64 n)) h:=by
 unfold alen at hf;split at hf
 ·cases hf
 rename_i te hte;obtain ⟨it,u,z,ht⟩:=htb t te hte;refine VOK.here g (v:= .int .i64 n) ?_ (by simp only [R]);split at hf
 ·rename_i e hd;have hu:=ht.d;rw [hd] at hu;simp only [TDok] at hu;subst hu;split at hf
  ·cases hf;simp only [R] at hx;obtain ⟨_,ad,cap,rfl,_⟩:=hx;simp [Builtin.len_,ht.run_under,goInt]
  ·cases hf;simp only [R] at hx;subst hx;simp [Builtin.len_,ht.run_under,goInt]
  ·cases hf
 ·rename_i hd;have hu:=ht.d;rw [hd] at hu;simp only [TDok] at hu;subst hu;split at hf
  ·cases hf;simp only [R] at hx;subst hx;simp [Builtin.len_,ht.run_under,goInt]
  ·cases hf
 ·rename_i k e hd;have hu:=ht.d;rw [hd] at hu;simp only [TDok] at hu;subst hu;cases hf;simp [Builtin.len_,ht.run_under,goInt]
 ·rename_i k e hd;have hu:=ht.d;rw [hd] at hu;simp only [TDok] at hu;subst hu;split at hf
  ·rename_i b;split at hf
   ·rename_i es hb;cases hf;simp only [R] at hx;obtain ⟨_,rfl⟩:=hx;obtain ⟨_,o',ho,hr⟩:=g.live b _ hb;simp only [RO] at hr;obtain ⟨xs,cl,rfl,hm⟩:=hr;have hl:xs.size=es.length:=by have:=hm.length;simpa using this
    simp [Builtin.len_,ht.run_under,goInt,getObj,Sem.run,ho,hl]
   ·cases hf
  ·cases hf
 ·cases hf
end
end Go.Ev
end
noncomputable section
namespace Go.Ev
section
variable {P:Program} {lim:Nat} {c:Ctx} {h:Hp} {w:World} {tb:T TE} {xt:Addr→Option Value}
def isEql:BinOp→Option Bool
 | .eql=>some false
 | .neq=>some true
 |_=>none
def anil (d:TD):AV→AV→Bool
 | .ptr _ _,.val (.pointer none)=>match d with| .ptr _=>true|_=>false
 | .val (.pointer none),.ptr _ _=>match d with| .ptr _=>true|_=>false
 | .sl _ _ _ _,.val (.slice none _ _)=>match d with| .slice _=>true|_=>false
 | .val (.slice none _ _),.sl _ _ _ _=>match d with| .slice _=>true|_=>false
 | .ifc _ _,.val .nilIface=>match d with| .iface=>true|_=>false
 | .val .nilIface,.ifc _ _=>match d with| .iface=>true|_=>false
 |_,_=>false
def abin (P:Program) (tb:T TE) (op:BinOp) (t:TypeId) (x y:Operand) (a b:AV):Option AV:=
 match toVal a with
 |some u=>match toVal b with
  |some v=>match pureRun P (do eqGuard op t x y u v;binOp op t u v) with
   |some r=>some (.val r)
   |none=>none
  |none=>match isEql op with
   |some r=>match tb.get t with
    |some te=>bif anil te.d a b then some (.val (.bool r)) else none
    |none=>none
   |none=>none
 |none=>match isEql op with
  |some r=>match tb.get t with
   |some te=>bif anil te.d a b then some (.val (.bool r)) else none
   |none=>none
  |none=>none
theorem eqIn_ptr {t e:TypeId} (hu:P.underlying t=some (.pointer e)) (d:Nat) (a:Addr):(Op.equalIn (d+1) t (.pointer (some a)) (.pointer none)).run P w= .ok false w:=by
 simp [Op.equalIn,run_underlying hu]
theorem eqIn_ptr' {t e:TypeId} (hu:P.underlying t=some (.pointer e)) (d:Nat) (a:Addr):(Op.equalIn (d+1) t (.pointer none) (.pointer (some a))).run P w= .ok false w:=by
 simp [Op.equalIn,run_underlying hu]
theorem eqIn_sl {t e:TypeId} (hu:P.underlying t=some (.slice e)) (d:Nat) (a:Addr) (n k n' k':Nat):(Op.equalIn (d+1) t (.slice (some a) n k) (.slice none n' k')).run P w= .ok false w:=by
 simp [Op.equalIn,run_underlying hu]
theorem eqIn_sl' {t e:TypeId} (hu:P.underlying t=some (.slice e)) (d:Nat) (a:Addr) (n k n' k':Nat):(Op.equalIn (d+1) t (.slice none n' k') (.slice (some a) n k)).run P w= .ok false w:=by
 simp [Op.equalIn,run_underlying hu]
theorem eqIn_if {t:TypeId} {ms:Array (String×TypeId)} (hu:P.underlying t=some (.interface ms)) (d:Nat) (t':TypeId) (v:Value):(Op.equalIn (d+1) t (.iface t' v) .nilIface).run P w= .ok false w:=by
 simp [Op.equalIn,run_underlying hu]
theorem eqIn_if' {t:TypeId} {ms:Array (String×TypeId)} (hu:P.underlying t=some (.interface ms)) (d:Nat) (t':TypeId) (v:Value):(Op.equalIn (d+1) t .nilIface (.iface t' v)).run P w= .ok false w:=by
 simp [Op.equalIn,run_underlying hu]
theorem nil_run {t:TypeId} {op:BinOp} {r:Bool} (hop:isEql op=some r) {x y:Value} (heq:(Op.equalIn (9999+1) t x y).run P w= .ok false w) (ox oy:Operand)
  (hg:eqGuard op t ox oy x y=pure ()) (hb:binOp .eql t x y=(do pure (.bool (←Op.equal t x y)))) (hb':binOp .neq t x y=(do pure (.bool (!(←Op.equal t x y))))):
  ((do eqGuard op t ox oy x y;binOp op t x y):Sem Value).run P w= .ok (.bool r) w:=by
 have he:(Op.equal t x y).run P w= .ok false w:=heq;rw [hg];cases op<;>simp only [isEql] at hop<;>cases hop
 ·simp [hb,he]
 ·simp [hb',he]
theorem anil_ok {t:TypeId} {te:TE} {i:TypeInfo} {u:TypeDesc} {z:Value} (ht:TEok P t te i u z) {op:BinOp} {r:Bool} (hop:isEql op=some r) {a b:AV} (hn:anil te.d a b=true)
  {x y:Value} (hx:R c a x) (hy:R c b y) (ox oy:Operand):((do eqGuard op t ox oy x y;binOp op t x y):Sem Value).run P w= .ok (.bool r) w:=by
 have hd:=ht.d;have hu:=ht.under;have hop':op= .eql∨op= .neq:=by cases op<;>simp [isEql] at hop<;>simp
 unfold anil at hn;split at hn
 ·split at hn
  ·rename_i e he;rw [he] at hd;simp only [TDok] at hd;subst hd;simp only [R] at hx hy;obtain ⟨_,rfl⟩:=hx;subst hy;exact nil_run hop (eqIn_ptr hu _ _) ox oy (by rcases hop' with rfl|rfl<;>rfl) rfl rfl
  ·cases hn
 ·split at hn
  ·rename_i e he;rw [he] at hd;simp only [TDok] at hd;subst hd;simp only [R] at hx hy;obtain ⟨_,rfl⟩:=hy;subst hx;exact nil_run hop (eqIn_ptr' hu _ _) ox oy (by rcases hop' with rfl|rfl<;>rfl) rfl rfl
  ·cases hn
 ·split at hn
  ·rename_i e he;rw [he] at hd;simp only [TDok] at hd;subst hd;simp only [R] at hx hy;obtain ⟨_,_,_,rfl,_⟩:=hx;subst hy;exact nil_run hop (eqIn_sl hu _ _ _ _ _ _) ox oy (by rcases hop' with rfl|rfl<;>rfl) rfl rfl
  ·cases hn
 ·split at hn
  ·rename_i e he;rw [he] at hd;simp only [TDok] at hd;subst hd;simp only [R] at hx hy;obtain ⟨_,_,_,rfl,_⟩:=hy;subst hx;exact nil_run hop (eqIn_sl' hu _ _ _ _ _ _) ox oy (by rcases hop' with rfl|rfl<;>rfl) rfl rfl
  ·cases hn
 ·split at hn
  ·rename_i he;rw [he] at hd;simp only [TDok] at hd;obtain ⟨ms,rfl⟩:=hd;simp only [R] at hx hy;obtain ⟨_,rfl,_⟩:=hx;subst hy;exact nil_run hop (eqIn_if hu _ _ _) ox oy (by rcases hop' with rfl|rfl<;>rfl) rfl rfl
  ·cases hn
 ·split at hn
  ·rename_i he;rw [he] at hd;simp only [TDok] at hd;obtain ⟨ms,rfl⟩:=hd;simp only [R] at hx hy;obtain ⟨_,rfl,_⟩:=hy;subst hx;exact nil_run hop (eqIn_if' hu _ _ _) ox oy (by rcases hop' with rfl|rfl<;>rfl) rfl rfl
  ·cases hn
 ·cases hn
theorem abin_ok (htb:Tb P tb) (g:Good lim c h w) {op:BinOp} {t:TypeId} {ox oy:Operand} {a b a':AV} {x y:Value} (hx:R c a x) (hy:R c b y) (hf:abin P tb op t ox oy a b=some a'):
  VOK P lim c h w (do eqGuard op t ox oy x y;binOp op t x y) a' h:=by
 unfold abin at hf;have key: ∀{r:Bool} {te:TE},isEql op=some r→tb.get t=some te→(bif anil te.d a b then some (AV.val (.bool r)) else none)=some a'→VOK P lim c h w (do eqGuard op t ox oy x y;binOp op t x y) a' h:=fun {r te} h1 h2 h3=>by
  obtain ⟨i,u,z,ht⟩:=htb t te h2;cases hn:anil te.d a b with
  |false=>rw [hn] at h3;cases h3
  |true=>rw [hn] at h3;cases h3;exact VOK.here g (anil_ok ht h1 hn hx hy ox oy) (by simp only [R])
 split at hf
 ·rename_i u hu;split at hf
  ·rename_i v hv;split at hf
   ·rename_i r hr;cases hf;rw [hx.toVal hu,hy.toVal hv];exact VOK.here g (pureRun_ok _ _ hr w) (by simp only [R])
   ·cases hf
  ·split at hf
   ·rename_i r hr;split at hf
    ·rename_i te hte;exact key hr hte hf
    ·cases hf
   ·cases hf
 ·split at hf
  ·rename_i r hr;split at hf
   ·rename_i te hte;exact key hr hte hf
   ·cases hf
  ·cases hf
def aun (P:Program) (op:UnOp) (a:AV):Option AV:=
 match toVal a with
 |some u=>match pureRun P (Op.unary op u) with
  |some r=>some (.val r)
  |none=>none
 |none=>none
theorem aun_ok (g:Good lim c h w) {op:UnOp} {a a':AV} {x:Value} (hx:R c a x) (hf:aun P op a=some a'):VOK P lim c h w (Op.unary op x) a' h:=by
 unfold aun at hf;split at hf
 ·rename_i u hu;split at hf
  ·rename_i r hr;cases hf;rw [hx.toVal hu];exact VOK.here g (pureRun_ok _ _ hr w) (by simp only [R])
  ·cases hf
 ·cases hf
def abytes:List AV→Option (List Int)
 |[]=>some []
 | .val (.int .u8 n)::as=>match abytes as with|some l=>some (n::l)|none=>none
 |_=>none
theorem abytes_ok: ∀{as:List AV} {ns:List Int} {xs:List Value},abytes as=some ns→RL c as xs→xs=ns.map (Value.int .u8)
 |[],ns,xs,h,hr=>by simp only [abytes] at h;cases h;simp only [RL] at hr;rw [hr];rfl
 |a::as,ns,xs,h,hr=>by
  simp only [RL] at hr;obtain ⟨y,ys,rfl,h1,h2⟩:=hr;unfold abytes at h;split at h
  ·rename_i he;cases he
  ·rename_i n as' he;cases he;split at h
   ·rename_i l hl;cases h;simp only [R] at h1;rw [h1,abytes_ok hl h2];rfl
   ·cases h
  ·cases h
def aconv (tb:T TE) (h:Hp) (s d:TypeId) (a:AV):Option AV:=
 match tb.get s with
 |none=>none
 |some se=>match tb.get d with
  |none=>none
  |some de=>match de.d with
   | .int k=>match a with
    | .val (.int _ n)=>some (.val (.int k (k.wrap n)))
    |_=>none
   | .str=>match a with
    | .val (.string x)=>some (.val (.string x))
    | .val (.slice none _ _)=>match se.d with
     | .slice e=>match tb.get e with
      |some ee=>match ee.d with
       | .int .u8=>some (.val (.string .empty))
       |_=>none
      |none=>none
     |_=>none
    | .sl b off n esz=>match se.d with
     | .slice e=>match tb.get e with
      |some ee=>match ee.d with
       | .int .u8=>match h.t.get b with
        |some (.cells cs _)=>bif Nat.beq esz 1 && Nat.ble (off+n) cs.length then (match abytes ((cs.drop off).take n) with
          |some ns=>some (.val (.string ⟨(ns.map fun n=>UInt8.ofNat n.toNat).toArray⟩))
          |none=>none) else none
        |_=>none
       |_=>none
      |none=>none
     |_=>none
    |_=>none
   |_=>none
theorem foldl_push: ∀(ns:List Int) (r:ByteArray),ns.foldl (fun r n=>r.push (UInt8.ofNat n.toNat)) r=⟨r.data++(ns.map fun n=>UInt8.ofNat n.toNat).toArray⟩
 |[],r=>by cases r;simp
 |n::ns,r=>by
  rw [List.foldl_cons,foldl_push ns];cases r;simp [ByteArray.push]
theorem aconv_ok (htb:Tb P tb) (g:Good lim c h w) {s d:TypeId} {a a':AV} {x:Value} (hx:R c a x) (hf:aconv tb h s d a=some a'):VOK P lim c h w (convert s d x) a' h:=by
 unfold aconv at hf;split at hf
 ·cases hf
 rename_i se hse;obtain ⟨is,us,zs,hs⟩:=htb s se hse;split at hf
 ·cases hf
 rename_i de hde;obtain ⟨id,ud,zd,hd⟩:=htb d de hde;split at hf
 ·rename_i k hk;have hu:=hd.d;rw [hk] at hu;simp only [TDok] at hu;subst hu;split at hf
  ·cases hf;simp only [R] at hx;subst hx;refine VOK.here g (by simp [convert,hs.run_under,hd.run_under,Conv.intToInt];rfl) (by simp only [R])
  ·cases hf
 ·rename_i hk;have hu:=hd.d;rw [hk] at hu;simp only [TDok] at hu;subst hu;split at hf
  ·cases hf;simp only [R] at hx;subst hx;refine VOK.here g (by simp [convert,hs.run_under,hd.run_under];rfl) (by simp only [R])
  ·split at hf
   ·rename_i e he;have hu:=hs.d;rw [he] at hu;simp only [TDok] at hu;subst hu;split at hf
    ·rename_i ee hee;obtain ⟨ie,ue,ze,hte⟩:=htb e ee hee;split at hf
     ·rename_i hk8;have hu:=hte.d;rw [hk8] at hu;simp only [TDok] at hu;subst hu;cases hf;simp only [R] at hx;subst hx;refine VOK.here g (v:= .string .empty) ?_ (by simp only [R]);rw [run_convert_bytes_string w s d e _ _ _ hs.under hte.under hd.under];rfl
     ·cases hf
    ·cases hf
   ·cases hf
  ·rename_i b off n esz;split at hf
   ·rename_i e he;have hu:=hs.d;rw [he] at hu;simp only [TDok] at hu;subst hu;split at hf
    ·rename_i ee hee;obtain ⟨ie,ue,ze,hte⟩:=htb e ee hee;split at hf
     ·rename_i hk8;have hu:=hte.d;rw [hk8] at hu;simp only [TDok] at hu;subst hu;split at hf
      ·rename_i cs e' hb;cases hc:(Nat.beq esz 1 && Nat.ble (off+n) cs.length) with
       |false=>rw [hc] at hf;cases hf
       |true=>
        rw [hc] at hf;simp only [cond_true] at hf;simp only [Bool.and_eq_true] at hc;split at hf
        ·rename_i ns hns;cases hf;simp only [R] at hx;obtain ⟨_,ad,cap,rfl,hlc,had,_⟩:=hx;obtain ⟨vs,hrun,hr,hvl⟩:=g.loadCells (P:=P) hb (Nat.le_of_ble_eq_true hc.2);have hvs:=abytes_ok hns hr;subst hvs;have hld:(loadCells ad n).run P w= .ok (ns.map (Value.int .u8)).toArray w:=by
          rcases Nat.eq_zero_or_pos n with h0|h0
          ·subst h0;have:ns=[]:=by cases ns;rfl;simp at hvl
           subst this;simp [loadCells,loadCellsFrom]
          ·rw [had (by omega)];exact hrun w rfl
         refine VOK.here g (v:= .string ⟨(ns.map fun n=>UInt8.ofNat n.toNat).toArray⟩) ?_ (by simp only [R]);rw [run_convert_bytes_string w s d e _ _ _ hs.under hte.under hd.under,run_bytesToString w ad n cap ns hld,foldl_push];simp
        ·cases hf
      ·cases hf
     ·cases hf
    ·cases hf
   ·cases hf
  ·cases hf
 ·cases hf
def atypeAssert (tb:T TE) (a:AV) (t:TypeId) (ok:Bool):Option AV:=
 match tb.get t with
 |none=>none
 |some te=>bif te.con then
   (match a with
   | .ifc d v=>bif Nat.beq d t then some (bif ok then .tup [v,.val (.bool true)] else v) else (bif ok then some (.tup [.val te.zv,.val (.bool false)]) else none)
   | .val (.iface d v)=>bif Nat.beq d t then some (bif ok then .tup [.val v,.val (.bool true)] else .val v) else (bif ok then some (.tup [.val te.zv,.val (.bool false)]) else none)
   | .val .nilIface=>bif ok then some (.tup [.val te.zv,.val (.bool false)]) else none
   |_=>none) else none
theorem run_assert {t d xt':TypeId} {v:Value} {ok:Bool} (hc:P.concrete t=true) (hd:d=t):(Instr.typeAssert (.iface d v) xt' t ok).run P w= .ok (bif ok then .tuple #[v,.bool true] else v) w:=by
 unfold Program.concrete at hc;cases hu:P.underlying t with
 |none=>rw [hu] at hc;cases hc
 |some u=>
  rw [hu] at hc;cases u<;>first|(cases hc;done)|(cases ok<;>simp [Instr.typeAssert,run_underlying hu,hd])
theorem run_assert_not {t xt':TypeId} {x z:Value} (hc:P.concrete t=true) (hz:(zeroValue t).run P w= .ok z w) (hx:x= .nilIface∨ ∃d v,x= .iface d v∧d≠t):
  (Instr.typeAssert x xt' t true).run P w= .ok (.tuple #[z,.bool false]) w:=by
 unfold Program.concrete at hc;cases hu:P.underlying t with
 |none=>rw [hu] at hc;cases hc
 |some u=>
  rw [hu] at hc;rcases hx with rfl|⟨d,v,rfl,hne⟩;all_goals cases u<;>first|(cases hc;done)|(simp [Instr.typeAssert,run_underlying hu,hz];done)|simp [Instr.typeAssert,run_underlying hu,hz,hne]
theorem atypeAssert_ok (htb:Tb P tb) (g:Good lim c h w) {t xt':TypeId} {a a':AV} {x:Value} {ok:Bool} (hx:R c a x) (hf:atypeAssert tb a t ok=some a'):VOK P lim c h w (Instr.typeAssert x xt' t ok) a' h:=by
 unfold atypeAssert at hf;split at hf
 ·cases hf
 rename_i te hte;obtain ⟨it,u,z,ht⟩:=htb t te hte;cases hc:te.con with
 |false=>rw [hc] at hf;cases hf
 |true=>
  rw [hc] at hf;simp only [cond_true] at hf;have hcon:=ht.con hc;have hz:(zeroValue t).run P w= .ok te.zv w:=by rw [←ht.zv];exact ht.run_zero w
  have hno: ∀{y:Value},(y= .nilIface∨ ∃d v,y= .iface d v∧d≠t)→x=y→(bif ok then some (AV.tup [.val te.zv,.val (.bool false)]) else none)=some a'→VOK P lim c h w (Instr.typeAssert x xt' t ok) a' h:=fun {y} h1 h2 h3=>by
   cases ok with
   |false=>cases h3
   |true=>cases h3;subst h2;exact VOK.here g (run_assert_not hcon hz h1) (by simp only [R];exact ⟨[te.zv,.bool false],rfl,RL.cons (by simp only [R]) (RL.cons (by simp only [R]) RL.nil)⟩)
  split at hf
  ·rename_i d v;simp only [R] at hx;obtain ⟨y,rfl,hr⟩:=hx;cases hd:Nat.beq d t with
   |true=>
    rw [hd] at hf;simp only [cond_true] at hf;cases hf;refine VOK.here g (run_assert hcon (Nat.eq_of_beq_eq_true hd)) ?_;cases ok
    ·exact hr
    ·simp only [cond_true,R];exact ⟨[y,.bool true],rfl,RL.cons hr (RL.cons (by simp only [R]) RL.nil)⟩
   |false=>
    rw [hd] at hf;simp only [cond_false] at hf;exact hno (.inr ⟨d,y,rfl,fun e=>by subst e;simp at hd⟩) rfl hf
  ·rename_i d v;simp only [R] at hx;subst hx;cases hd:Nat.beq d t with
   |true=>
    rw [hd] at hf;simp only [cond_true] at hf;cases hf;refine VOK.here g (run_assert hcon (Nat.eq_of_beq_eq_true hd)) ?_;cases ok
    ·simp only [cond_false,R]
    ·simp only [cond_true,R];exact ⟨[v,.bool true],rfl,RL.cons (by simp only [R]) (RL.cons (by simp only [R]) RL.nil)⟩
   |false=>
    rw [hd] at hf;simp only [cond_false] at hf;exact hno (.inr ⟨d,v,rfl,fun e=>by subst e;simp at hd⟩) rfl hf
  ·simp only [R] at hx;exact hno (.inl rfl) hx hf
  ·cases hf
end
end Go.Ev
end
noncomputable section
namespace Go.Ev
section
variable {P:Program} {lim:Nat} {c:Ctx} {h:Hp} {w:World} {tb:T TE}
theorem pureRun_bind {α β:Type} (f:α→Sem β): ∀(s:Sem α),pureRun P (s.bind f)=(pureRun P s).bind fun a=>pureRun P (f a)
 | .pure a=>rfl
 | .program k=>by simp only [Sem.bind,pureRun];exact pureRun_bind f (k P)
 | .mark m k=>by simp only [Sem.bind,pureRun];exact pureRun_bind f k
 | .load _ _ _=>rfl
 | .store _ _ _ _=>rfl
 | .new _ _=>rfl
 | .shape _ _=>rfl
 | .freeze _ _ _=>rfl
 | .frozen _ _=>rfl
 | .getObj _ _=>rfl
 | .setObj _ _ _=>rfl
 | .choose _ _=>rfl
 | .sys _ _=>rfl
 | .halt _=>rfl
theorem pureRun_bind' {α β:Type} (s:Sem α) (f:α→Sem β):pureRun P (s>>=f)=(pureRun P s).bind fun a=>pureRun P (f a):=pureRun_bind f s
def keysOf:List (AV×AV)→Option (List Value)
 |[]=>some []
 |(k,_)::es=>match toVal k with
  |none=>none
  |some v=>match keysOf es with
   |none=>none
   |some l=>some (v::l)
def dummies (ks:List Value):List MapEntry:=ks.map fun k=>{key:=k,val:= .bool false,born:=0}
theorem keysOf_ok: ∀{es:List (AV×AV)} {xs:List MapEntry} {ks:List Value},ROMap c es xs→keysOf es=some ks→xs.map (·.key)=ks
 |[],xs,ks,h,hk=>by simp only [ROMap] at h;simp only [keysOf] at hk;cases hk;subst h;rfl
 |(k,v)::es,xs,ks,h,hk=>by
  simp only [ROMap] at h;obtain ⟨y,ys,rfl,h1,_,h3⟩:=h;simp only [keysOf] at hk;split at hk
  ·cases hk
  rename_i kv hkv;split at hk
  ·cases hk
  rename_i l hl;cases hk;simp [h1.toVal hkv,keysOf_ok h3 hl]
def foundAt (xs:List MapEntry):Option Nat→Option (Nat×Value)
 |none=>none
 |some i=>(xs[i]?).map fun e=>(i,e.val)
theorem findNow_dummies (d:TypeDesc) (k:Value): ∀(xs:List MapEntry) (i:Nat),
  Instr.findNow d k xs i=(Instr.findNow d k (dummies (xs.map (·.key))) i).map fun o=>o.bind fun p=>(xs[p.1 - i]?).map fun e=>(p.1,e.val)
 |[],i=>rfl
 |e::xs,i=>by
  simp only [List.map_cons,dummies,Instr.findNow];cases hs:Instr.sameNow d k e.key with
  |none=>rfl
  |some b=>
   cases b with
   |true=>simp
   |false=>
    have ih:=findNow_dummies d k xs (i+1);simp only [dummies] at ih;simp only [];rw [ih];cases hf:Instr.findNow d k ((xs.map (·.key)).map fun k=>({key:=k,val:= .bool false,born:=0}:MapEntry)) (i+1) with
    |none=>rfl
    |some o=>
     cases o with
     |none=>rfl
     |some p=>
      have hge: ∀(l:List MapEntry) (j:Nat) (q:Nat×Value),Instr.findNow d k l j=some (some q)→j≤q.1:=by
       intro l;induction l with
       |nil=>intro j q hq;simp [Instr.findNow] at hq
       |cons y l ihl=>
        intro j q hq;simp only [Instr.findNow] at hq;split at hq
        ·simp only [Option.some.injEq] at hq;subst hq;exact Nat.le_refl _
        ·have:=ihl _ _ hq;omega
        ·cases hq
      have h1:=hge _ _ _ hf;simp only [Option.map_some,Option.bind_some];have e1:p.1 - i=(p.1 - (i+1))+1:=by omega
      rw [e1,List.getElem?_cons_succ]
theorem findAsking_dummies (kt:TypeId) (k:Value): ∀(xs:List MapEntry) (i:Nat) (r:Option (Nat×Value)),
  pureRun P (Instr.findAsking kt k (dummies (xs.map (·.key))) i)=some r→(Instr.findAsking kt k xs i).run P w= .ok (r.bind fun p=>(xs[p.1 - i]?).map fun e=>(p.1,e.val)) w∧ ∀p,r=some p→i≤p.1
 |[],i,r,h=>by
  simp only [List.map_nil,dummies,Instr.findAsking] at h;cases h;exact ⟨rfl,by simp⟩
 |e::xs,i,r,h=>by
  simp only [List.map_cons,dummies,Instr.findAsking] at h;rw [pureRun_bind'] at h;cases he:pureRun P (Op.equal kt k e.key) with
  |none=>simp [he] at h
  |some b=>
   simp only [he,Option.bind_some] at h;have hrun:=pureRun_ok _ _ he w;simp only [Instr.findAsking,Sem.run_bind,hrun,Result.andThen_ok];cases b with
   |true=>
    simp only [if_true] at h ⊢;cases h;exact ⟨by simp,fun p hp=>by cases hp;exact Nat.le_refl _⟩
   |false=>
    simp only [Bool.false_eq_true,if_false] at h ⊢;obtain ⟨h1,h2⟩:=findAsking_dummies kt k xs (i+1) r h;refine ⟨?_,fun p hp=>by have:=h2 p hp;omega⟩;rw [h1]
    congr 1
    cases r with
    |none=>rfl
    |some p=>
     have:=h2 p rfl;simp only [Option.bind_some];have e1:p.1 - i=(p.1 - (i+1))+1:=by omega
     rw [e1,List.getElem?_cons_succ]
def afind (P:Program) (kt:TypeId) (k:Value) (ks:List Value):Option (Option Nat):=
 match pureRun P (Instr.findKey kt k (dummies ks)) with
 |none=>none
 |some none=>some none
 |some (some (i,_))=>some (some i)
theorem afind_ok {kt:TypeId} {k:Value} {xs:List MapEntry} {r:Option Nat} (h:afind P kt k (xs.map (·.key))=some r):(Instr.findKey kt k xs).run P w= .ok (foundAt xs r) w:=by
 unfold afind at h;have hpk: ∀o,pureRun P (Instr.findKey kt k (dummies (xs.map (·.key))))=some o→(Instr.findKey kt k xs).run P w= .ok (o.bind fun p=>(xs[p.1]?).map fun e=>(p.1,e.val)) w:=fun o ho=>by
  unfold Instr.findKey at ho ⊢;rw [pureRun_bind'] at ho;cases hu:pureRun P (underlying kt) with
  |none=>simp [hu] at ho
  |some d=>
   simp only [hu,Option.bind_some] at ho;simp only [Sem.run_bind,pureRun_ok _ _ hu w,Result.andThen_ok];have h1:=findNow_dummies d k xs 0;cases hf:Instr.findNow d k (dummies (xs.map (·.key))) 0 with
   |some r'=>
    rw [hf] at ho h1;rw [h1];simp only [pureRun,pure,Pure.pure] at ho;cases ho;simp only [Option.map_some,Nat.sub_zero];rfl
   |none=>
    rw [hf] at ho h1;rw [h1];have h2:=(findAsking_dummies (P:=P) (w:=w) kt k xs 0 o ho).1;simpa using h2
 split at h
 ·cases h
 ·rename_i hn;cases h;have:=hpk none hn;simpa [foundAt] using this
 ·rename_i i v hn;cases h;have:=hpk (some (i,v)) hn;simpa [foundAt] using this
def aentries (h:Hp):AV→Option (List (AV×AV))
 | .mp b=>match h.t.get b with
  |some (.map es)=>some es
  |_=>none
 | .val (.map none)=>some []
 |_=>none
def alookup (P:Program) (tb:T TE) (h:Hp) (t:TypeId) (m k:AV) (ok:Bool):Option AV:=
 match tb.get t with
 |none=>none
 |some te=>match te.d with
  | .map kt et=>match tb.get et with
   |none=>none
   |some ee=>match toVal k with
    |none=>none
    |some kv=>match aentries h m with
     |none=>none
     |some es=>match keysOf es with
      |none=>none
      |some ks=>match pureRun P (Instr.checkKey es.isEmpty 10000 kt kv) with
       |none=>none
       |some _=>match afind P kt kv ks with
        |none=>none
        |some none=>some (bif ok then .tup [.val ee.zv,.val (.bool false)] else .val ee.zv)
        |some (some i)=>match es[i]? with
         |none=>none
         |some (_,v)=>some (bif ok then .tup [v,.val (.bool true)] else v)
  |_=>none
theorem ROMap.get: ∀{es:List (AV×AV)} {xs:List MapEntry} {i:Nat} {p:AV×AV},ROMap c es xs→es[i]? =some p→ ∃x,xs[i]? =some x∧R c p.1 x.key∧R c p.2 x.val
 |[],xs,i,p,h,e=>by simp at e
 |(k,v)::es,xs,0,p,h,e=>by
  simp only [ROMap] at h;obtain ⟨y,ys,rfl,h1,h2,_⟩:=h;simp at e;subst e;exact ⟨y,rfl,h1,h2⟩
 |(k,v)::es,xs,i+1,p,h,e=>by
  simp only [ROMap] at h;obtain ⟨y,ys,rfl,_,_,h3⟩:=h;simp at e;obtain ⟨x,hx,hr⟩:=ROMap.get h3 e;exact ⟨x,by simpa using hx,hr⟩
theorem R.pair {a:AV} {x:Value} (h:R c a x) (b:Bool):R c (.tup [a,.val (.bool b)]) (.tuple #[x,.bool b]):=by
 simp only [R];exact ⟨[x,.bool b],rfl,RL.cons h (RL.cons (by simp only [R]) RL.nil)⟩
theorem alookup_ok (htb:Tb P tb) (g:Good lim c h w) {t:TypeId} {m k a':AV} {ok:Bool} {x y:Value} (hx:R c m x) (hy:R c k y) (hf:alookup P tb h t m k ok=some a'):VOK P lim c h w (Instr.lookup t x y ok) a' h:=by
 unfold alookup at hf;split at hf
 ·cases hf
 rename_i te hte;obtain ⟨it,u,z,ht⟩:=htb t te hte;split at hf
 ·rename_i kt et hd;split at hf
  ·cases hf
  rename_i ee hee;obtain ⟨ie,ue,ze,he⟩:=htb et ee hee;have hu:=ht.d;rw [hd] at hu;simp only [TDok] at hu;subst hu;split at hf
  ·cases hf
  rename_i kv hkv;have:=hy.toVal hkv;subst this;split at hf
  ·cases hf
  rename_i es hes;split at hf
  ·cases hf
  rename_i ks hks;split at hf
  ·cases hf
  rename_i hck;have hz:(zeroValue et).run P w= .ok ee.zv w:=by rw [←he.zv];exact he.run_zero w
  have hent: ∃xs:Array MapEntry,ROMap c es xs.toList∧ ∀(K:Array MapEntry→Sem Value),(do
    let es←match x with
     | .map none=>pure #[]
     | .map (some r)=>do
      let .map es _←getObj r|stuck "Lookup: map expected"
      pure es
     |_=>stuck "Lookup: map expected"
    K es:Sem Value).run P w=(K xs).run P w:=by
   unfold aentries at hes;split at hes
   ·rename_i b;split at hes
    ·rename_i es' hb;cases hes;simp only [R] at hx;obtain ⟨_,rfl⟩:=hx;obtain ⟨_,o',ho,hr⟩:=g.live b _ hb;simp only [RO] at hr;obtain ⟨xs,cl,rfl,hm⟩:=hr;exact ⟨xs,hm,fun K=>by simp [getObj,Sem.run,ho]⟩
    ·cases hes
   ·cases hes;simp only [R] at hx;subst hx;exact ⟨#[],by simp only [ROMap],fun K=>by simp⟩
   ·cases hes
  obtain ⟨xs,hm,hK⟩:=hent;have hkeys:=keysOf_ok hm hks;subst hkeys;have hemp:xs.isEmpty=es.isEmpty:=by
   have hl:=hm.length;have h1:xs.isEmpty=true↔es.isEmpty=true:=by
    rw [Array.isEmpty_iff_size_eq_zero,List.isEmpty_iff_length_eq_zero,←hl];simp
   cases h2:xs.isEmpty<;>cases h3:es.isEmpty<;>simp_all
  have hrun: ∀(r:Option Nat) (v:Value) (b:Bool),afind P kt y (xs.toList.map (·.key))=some r→((foundAt xs.toList r=none∧v=ee.zv∧b=false)∨(∃i,foundAt xs.toList r=some (i,v)∧b=true))→
    (Instr.lookup t x y ok).run P w= .ok (if ok then .tuple #[v,.bool b] else v) w:=fun r v b h1 h2=>by
   have h3:=afind_ok (w:=w) h1;unfold Instr.lookup;simp only [Sem.run_bind,ht.run_under,Result.andThen_ok];have h4:=hK (fun es=>do
    Instr.checkKey es.isEmpty 10000 kt y
    let (v,ok')←match←Instr.findKey kt y es.toList with
     |some (_,v)=>pure (v,true)
     |none=>do pure (←zeroValue et,false)
    pure (if ok then .tuple #[v,.bool ok'] else v))
   simp only [Sem.run_bind] at h4;refine h4.trans ?_;rw [hemp,pureRun_ok _ _ hck w];simp only [Result.andThen_ok,h3];rcases h2 with ⟨h5,rfl,rfl⟩|⟨i,h5,rfl⟩
   ·rw [h5];simp [hz]
   ·rw [h5];simp
  split at hf
  ·cases hf
  ·rename_i hfd;cases hf;refine VOK.here g (hrun none ee.zv false hfd (.inl ⟨rfl,rfl,rfl⟩)) ?_;cases ok
   ·simp only [cond_false,R];rfl
   ·simp only [cond_true,if_true];exact R.pair (by simp only [R]) false
  ·rename_i i hfd;split at hf
   ·cases hf
   rename_i kk v hev;cases hf;obtain ⟨e,he1,_,he3⟩:=hm.get hev;refine VOK.here g (hrun (some i) e.val true hfd (.inr ⟨i,by simp [foundAt,he1],rfl⟩)) ?_;cases ok
   ·simp only [cond_false];exact he3
   ·simp only [cond_true,if_true];exact R.pair he3 true
 ·cases hf
def amapUpdate (P:Program) (tb:T TE) (h:Hp) (t:TypeId) (m k v:AV):Option Hp:=
 match tb.get t with
 |none=>none
 |some te=>match te.d with
  | .map kt _=>match m with
   | .mp b=>match h.t.get b with
    |some (.map es)=>match toVal k with
     |none=>none
     |some kv=>match keysOf es with
      |none=>none
      |some ks=>match pureRun P (Instr.checkKey false 10000 kt kv) with
       |none=>none
       |some _=>match afind P kt kv ks with
        |none=>none
        |some none=>some (h.set b (.map (es++[(k,v)])))
        |some (some i)=>match ks[i]? with
         |none=>none
         |some old=>bif Instr.sameBits 10000 old kv then some (h.set b (.map (es.set i (k,v)))) else none
    |_=>none
   |_=>none
  |_=>none
theorem ROMap.snoc: ∀{es:List (AV×AV)} {xs:List MapEntry} {k v:AV} {e:MapEntry},ROMap c es xs→R c k e.key→R c v e.val→ROMap c (es++[(k,v)]) (xs++[e])
 |[],xs,k,v,e,h,h1,h2=>by
  simp only [ROMap] at h;subst h;simp only [List.nil_append,ROMap];exact ⟨e,[],rfl,h1,h2,rfl⟩
 |(k',v')::es,xs,k,v,e,h,h1,h2=>by
  simp only [ROMap] at h;obtain ⟨y,ys,rfl,a1,a2,a3⟩:=h;simp only [List.cons_append,ROMap];exact ⟨y,ys++[e],rfl,a1,a2,ROMap.snoc a3 h1 h2⟩
theorem ROMap.set: ∀{es:List (AV×AV)} {xs:List MapEntry} (i:Nat) {k v:AV} (f:MapEntry→MapEntry),ROMap c es xs→(∀e,R c k (f e).key)→(∀e,R c v (f e).val)→ROMap c (es.set i (k,v)) (xs.modify i f)
 |[],xs,i,k,v,f,h,h1,h2=>by
  simp only [ROMap] at h;subst h;cases i<;>simp [ROMap]
 |(k',v')::es,xs,0,k,v,f,h,h1,h2=>by
  simp only [ROMap] at h;obtain ⟨y,ys,rfl,a1,a2,a3⟩:=h;simp only [List.set_cons_zero,List.modify_zero_cons,ROMap];exact ⟨f y,ys,rfl,h1 y,h2 y,a3⟩
 |(k',v')::es,xs,i+1,k,v,f,h,h1,h2=>by
  simp only [ROMap] at h;obtain ⟨y,ys,rfl,a1,a2,a3⟩:=h;simp only [List.set_cons_succ,List.modify_succ_cons,ROMap];exact ⟨y,_,rfl,a1,a2,ROMap.set i f a3 h1 h2⟩
theorem run_setObj {r:Nat} {o o':Obj} (ho:w.heap[r]? =some o) (hc: ∀cs e fz,o≠ .cells cs e fz):(setObj r o').run P w= .ok () {w with heap:=w.heap.setIfInBounds r o'}:=by
 unfold setObj;cases o<;>first|exact absurd rfl (hc _ _ _)|simp only [Sem.run,ho]
theorem amapUpdate_ok (htb:Tb P tb) (g:Good lim c h w) {t:TypeId} {m k v:AV} {x y z:Value} (hx:R c m x) (hy:R c k y) (hz:R c v z) {h':Hp} (hf:amapUpdate P tb h t m k v=some h'):
  ∃w',(Instr.mapUpdate t x y z).run P w= .ok () w'∧Stp lim c h w c h' w':=by
 unfold amapUpdate at hf;split at hf
 ·cases hf
 rename_i te hte;obtain ⟨it,u,zz,ht⟩:=htb t te hte;split at hf
 ·rename_i kt et hd;have hu:=ht.d;rw [hd] at hu;simp only [TDok] at hu;subst hu;split at hf
  ·rename_i b;split at hf
   ·rename_i es hb;split at hf
    ·cases hf
    rename_i kv hkv;have:=hy.toVal hkv;subst this;split at hf
    ·cases hf
    rename_i ks hks;split at hf
    ·cases hf
    rename_i hck;simp only [R] at hx;obtain ⟨_,rfl⟩:=hx;obtain ⟨_,o',ho,hr⟩:=g.live b _ hb;simp only [RO] at hr;obtain ⟨xs,cl,rfl,hm⟩:=hr;have hkeys:=keysOf_ok hm hks;subst hkeys;have hget:(getObj (c.ρ b)).run P w= .ok (.map xs cl) w:=by simp [getObj,Sem.run,ho]
    have hset: ∀o',(setObj (c.ρ b) o').run P w= .ok () {w with heap:=w.heap.setIfInBounds (c.ρ b) o'}:=fun o'=>run_setObj ho (by simp);split at hf
    ·cases hf
    ·rename_i hfd;cases hf;have h3:=afind_ok (w:=w) hfd;refine ⟨_,?_,Stp.write g _ hb (.map (xs.push {key:=y,val:=z,born:=cl}) (cl+1)) ⟨_,_,rfl,by simp only [Array.toList_push];exact hm.snoc hy hz⟩ rfl⟩;simp [Instr.mapUpdate,ht.run_under,hget,pureRun_ok _ _ hck w,h3,foundAt,hset]
    ·rename_i i hfd;split at hf
     ·cases hf
     rename_i old hold;cases hsb:Instr.sameBits 10000 old y with
     |false=>rw [hsb] at hf;cases hf
     |true=>
      rw [hsb] at hf;cases hf;have h3:=afind_ok (w:=w) hfd;have hxi: ∃e,xs.toList[i]? =some e∧e.key=old:=by
       rw [List.getElem?_map] at hold;cases hxi:xs.toList[i]? with
       |none=>rw [hxi] at hold;cases hold
       |some e=>rw [hxi] at hold;exact ⟨e,rfl,by simpa using hold⟩
      obtain ⟨e,he,hek⟩:=hxi;have he':xs[i]? =some e:=by simpa using he
      have hkts:(Instr.keyThatStays (((xs[i]?).map (·.key)).getD y) y).run P w= .ok y w:=by
       simp [Instr.keyThatStays,he',hek,hsb]
      refine ⟨_,?_,Stp.write g _ hb (.map (xs.modify i fun e=>{e with key:=y,val:=z}) cl) ⟨_,_,rfl,?_⟩ rfl⟩
      ·simp only [Instr.mapUpdate,Sem.run_bind,ht.run_under,hget,Result.andThen_ok,pureRun_ok _ _ hck w,h3,foundAt,he,Option.map_some,hkts,hset]
      ·rw [Array.toList_modify];exact hm.set i _ (fun _=>hy) (fun _=>hz)
   ·cases hf
  ·cases hf
 ·cases hf
theorem range_ok (htb:Tb P tb) (g:Good lim c h w) (hlim:h.n<lim) {t:TypeId} {te:TE} (hte:tb.get t=some te) (hd:te.d= .str) (s:ByteArray):
  VOK P lim c h w (Instr.range t (.string s)) (.ptr h.n 0) (h.new (.siter s 0)):=by
 obtain ⟨it,u,z,ht⟩:=htb t te hte;have hu:=ht.d;rw [hd] at hu;simp only [TDok] at hu;subst hu;refine ⟨.pointer (some ⟨w.heap.size,0,none⟩),{w with heap:=w.heap.push (.stringIter s 0)},c.new h.n w.heap.size 0,?_,?_,Stp.alloc g hlim _ _ _ rfl⟩
 ·simp [Instr.range,ht.run_under]
 ·simp only [R];exact ⟨.inr rfl,by simp⟩
def anext (h:Hp) (a:AV):Option (AV×Hp):=
 match a with
 | .ptr b 0=>match h.t.get b with
  |some (.siter s pos)=>bif Nat.blt pos s.data.toList.length then
    some (.val (.tuple #[.bool true,goInt pos,.int .i32 (Utf8.decode s pos).1]),h.set b (.siter s (pos+(Utf8.decode s pos).2)))
   else some (.val (.tuple #[.bool false]),h)
  |_=>none
 |_=>none
theorem anext_ok (g:Good lim c h w) {a a':AV} {x:Value} {ty:TypeId} (hx:R c a x) {h':Hp} (hf:anext h a=some (a',h')):VOK P lim c h w (Instr.next x true ty) a' h':=by
 unfold anext at hf;split at hf
 ·rename_i b;split at hf
  ·rename_i s pos hb;simp only [R] at hx;obtain ⟨_,rfl⟩:=hx;obtain ⟨_,o',ho,hr⟩:=g.live b _ hb;simp only [RO] at hr;subst hr;have hget:(getObj (c.ρ b)).run P w= .ok (.stringIter s pos) w:=by simp [getObj,Sem.run,ho]
   have hset: ∀o',(setObj (c.ρ b) o').run P w= .ok () {w with heap:=w.heap.setIfInBounds (c.ρ b) o'}:=fun o'=>run_setObj ho (by simp);have hl:s.data.toList.length=s.size:=by simp
   cases hp:Nat.blt pos s.data.toList.length with
   |true=>
    rw [hp] at hf;simp only [cond_true] at hf;cases hf;have hlt:pos<s.size:=by rw [hl] at hp;simpa [Nat.blt_eq] using hp
    refine ⟨_,_,c,?_,by simp only [R];rfl,Stp.write g _ hb (.stringIter s (pos+(Utf8.decode s pos).2)) rfl rfl⟩;simp [Instr.next,hget,hlt,hset]
   |false=>
    rw [hp] at hf;simp only [cond_false] at hf;cases hf;have hlt: ¬pos<s.size:=fun hh=>by
     have h1:Nat.blt pos s.size=true:=by simpa [Nat.blt_eq] using hh
     rw [hl,h1] at hp;cases hp
    refine VOK.here g ?_ (by simp only [R];rfl);simp [Instr.next,hget,hlt]
  ·cases hf
 ·cases hf
end
end Go.Ev
end
noncomputable section
namespace Go.Ev
section
variable {P:Program} {lim:Nat} {c:Ctx} {h:Hp} {w:World}
theorem zeroCells_eq (z:Array Value) (n:Nat) (hz:0<z.size∨n=0):(Builtin.zeroCells z n).toList=repl z.toList n:=madeCells_toList z n hz
theorem append_zeros_ok (g:Good lim c h w) (hlim:h.n<lim) {t tx ty e:TypeId} {te:TE} {ie:TypeInfo} {u:TypeDesc} {z:Value} (ht:P.underlying t=some (.slice e)) (he:TEok P e te ie u z) (hsz:0<te.size)
  {kd:IntKind} (hux:P.underlying tx=some (.int kd)) {k:IntKind} {n:Nat} (hn:0<n) (hbytes:n*te.bytes≤140737488355328) (h63:n≤9223372036854775807):
  VOK P lim c h w (Builtin.append_ #[t,tx] ty #[.slice none 0 0,.int k n]) (.sl h.n 0 n te.size) (h.new (.cells (repl (te.zero.map .val) n) e)):=by
 have hz:z.cells.size=te.size:=by have:=he.zsize;rw [←he.cells] at this;simpa using this
 have gd:Good lim c h w.drew:=(Stp.drawn g _).good;have sd:Stp lim c h w c h w.drew:=Stp.drawn g _;have hwrap:IntKind.i64.wrap (n:Int)=n:=by
  have h1:(n:Int) % (2 ^ 64:Int)=n:=Int.emod_eq_of_lt (by omega) (by omega);have h2: ¬((n:Int)≥2 ^ 63):=by omega
  simp only [IntKind.wrap,IntKind.bits,IntKind.signed,h1];rw [if_neg];simpa using h2
 have h48: ¬(281474976710656<Builtin.nextslicecap n 0*ie.bytes):=by have:=growslice_fits (need:=n) (old:=0) (bytes:=ie.bytes) hn (by rw [he.bytes];exact hbytes);omega
 have hb48: ¬((281474976710656:Int)<(n:Int)*(ie.bytes:Int)):=by
  rw [he.bytes];have:((n*te.bytes:Nat):Int)≤((140737488355328:Nat):Int):=Int.ofNat_le.2 hbytes;rw [Int.natCast_mul] at this;omega
 have h63': ¬(9223372036854775807<(n:Int)):=by omega
 have hns: ¬(n*ie.size=0):=by rw [he.size];intro hh;rcases Nat.mul_eq_zero.1 hh with h1|h1<;>omega
 have hrun:(Builtin.append_ #[t,tx] ty #[.slice none 0 0,.int k n]).run P w= .ok (.slice (some ⟨w.heap.size,0,none⟩) n (grownCap w n 0 e))
    (w.drew.alloc (.cells (Builtin.zeroCells z.cells n++Builtin.zeroCells z.cells (grownCap w n 0 e - n)) e)):=by
  have hn0:n≠0:=by omega
  simp [Builtin.append_,run_underlying ht,run_underlying hux,sizeOf,typeInfo,zeroValue,he.info,he.zero,asInt,asIntOf,hwrap,hb48,h63',h48,hns,hn0,Question.forced,newRow,grownCap,Builtin.firstCells];intro hneg;omega
 have hcap:n≤grownCap w n 0 e:=grownCap_ge w n 0 e;have hzl:z.cells.toList=te.zero:=he.cells;have hzc:(Builtin.zeroCells z.cells n).toList=repl te.zero n:=by rw [zeroCells_eq _ _ (.inl (by omega)),hzl]
 have hrep: ∀(l:List Value) n,repl (l.map AV.val) n=(repl l n).map .val:=fun l n=>by
  induction n with
  |zero=>rfl
  |succ n ih=>simp [repl,ih]
 have hlen:(repl (te.zero.map AV.val) n).length=n*te.size:=by rw [repl_length,List.length_map,he.zsize]
 have htot:(Builtin.zeroCells z.cells n++Builtin.zeroCells z.cells (grownCap w n 0 e - n)).size=grownCap w n 0 e*te.size:=by
  simp only [Array.size_append,zeroCells_size,hz];rw [←Nat.add_mul];congr 1;omega
 have hst:=Stp.alloc gd hlim (.cells (repl (te.zero.map .val) n) e) (.cells (Builtin.zeroCells z.cells n++Builtin.zeroCells z.cells (grownCap w n 0 e - n)) e) (grownCap w n 0 e*te.size) (by
  refine ⟨_,rfl,by rw [htot];simp,by rw [htot,hlen];exact Nat.mul_le_mul_right _ hcap,?_⟩;have e1:(Builtin.zeroCells z.cells n++Builtin.zeroCells z.cells (grownCap w n 0 e - n)).toList.take (repl (te.zero.map AV.val) n).length=repl te.zero n:=by
   have hl2:(repl te.zero n).length=n*te.size:=by rw [repl_length,he.zsize]
   simp only [Array.toList_append];rw [hlen,hzc,List.take_append_of_le_length (by omega),List.take_of_length_le (by omega)]
  rw [e1,hrep];exact RL.map_val _)
 refine ⟨_,_,_,hrun,?_,sd.trans hst⟩;simp only [R];refine ⟨.inr rfl,_,_,rfl,hcap,fun _=> ?_,?_⟩
 ·simp
 ·simp
theorem copy_ok (g:Good lim c h w) {t tx ty e:TypeId} {te:TE} {ie:TypeInfo} {u:TypeDesc} {z:Value} (ht:P.underlying t=some (.slice e)) (he:TEok P e te ie u z)
  {b off len n:Nat} {cs:List AV} {e':TypeId} (hb:h.t.get b=some (.cells cs e')) {s x:Value} (hs:R c (.sl b off len te.size) s) {as:List AV} {vs:List Value} (src:Src P c w te.size n x as vs)
  (hn:n≤len) (h0:0<len) (hl:off+n*te.size≤cs.length):
  VOK P lim c h w (Builtin.copy_ #[t,tx] ty #[s,x]) (.val (.int .i64 n)) (h.set b (.cells (cs.take off++as++cs.drop (off+n*te.size)) e')):=by
 simp only [R] at hs;obtain ⟨_,ad,cap,rfl,hlc,had,hsz⟩:=hs;have:=had (by omega);subst this;obtain ⟨xs,hxs,hxsz,hle,hr⟩:=g.block hb;have hasl:as.length=n*te.size:=by rw [←src.rel.length,src.length]
 have hlen:=src.length;have hst:=run_storeCells_at (P:=P) (c.ρ b) off e' vs 0 xs w hxs (by rw [hlen];omega) src.one;have h1:(Builtin.lenOf x).run P w= .ok n w:=src.len w.drawn;have h2:(Builtin.firstCells te.size n x).run P w= .ok vs.toArray w:=src.run w.drawn;have hmin:Nat.min n len=n:=Nat.min_eq_left hn;refine ⟨.int .i64 n,_,c,?_,by simp only [R],Stp.write g _ hb (.cells (xs.toList.take off++vs++xs.toList.drop (off+n*te.size)).toArray e' (0,0)) ?_ rfl⟩
 ·have hru:(underlying t).run P w= .ok (.slice e) w:=run_underlying ht w;simp [Builtin.copy_,hru,sizeOf,typeInfo,he.info,he.size,h1,hmin,h2,hst,hlen,goInt,setRow_eq hxs]
 ·have hxl:off+n*te.size≤xs.toList.length:=by simp;omega
  refine ⟨_,rfl,?_,?_,?_⟩
  ·simp only [List.size_toArray,List.length_append,List.length_take,List.length_drop,hlen];simp;omega
  ·simp only [List.size_toArray,List.length_append,List.length_take,List.length_drop,hlen,hasl];simp;omega
  ·have e1:(xs.toList.take off++vs++xs.toList.drop (off+n*te.size)).toArray.toList.take (cs.take off++as++cs.drop (off+n*te.size)).length
     =(xs.toList.take cs.length).take off++vs++(xs.toList.take cs.length).drop (off+n*te.size):=by
    simp only [List.length_append,List.length_take,List.length_drop,hasl];rw [List.take_append,List.take_append]
    congr 1
    ·congr 1
     ·rw [List.take_take,List.take_take];congr 1;omega
     ·apply List.take_of_length_le;simp only [List.length_take,hlen];omega
    ·rw [List.drop_take]
     congr 1
     simp only [List.length_take,List.length_append,hlen];omega
   rw [e1];exact ((hr.take off).append src.rel).append (hr.drop _)
end
end Go.Ev
end
noncomputable section
namespace Go.Ev
def asrc (xt:Addr→Option Value) (h:Hp) (size:Nat):AV→Option (Nat×List AV)
 | .val (.slice none 0 _)=>some (0,[])
 | .sl b off n esz=>match h.t.get b with
  |some (.cells cs _)=>bif Nat.beq esz size && (Nat.ble (off+n*size) cs.length && ((cs.drop off).take (n*size)).all one) then some (n,(cs.drop off).take (n*size)) else none
  |_=>none
 | .val (.string s)=>bif Nat.beq size 1 then some (s.data.toList.length,s.data.toList.map fun b=> .val (.int .u8 b.toNat)) else none
 | .val (.slice (some ad) n _)=>match extCells xt ad (n*size) 0 with
  |some l=>bif l.all Value.oneCell' then some (n,l.map .val) else none
  |none=>none
 |_=>none
def aappend (tb:T TE) (xt:Addr→Option Value) (h:Hp) (t tx:TypeId) (s x:AV):Option (AV×Hp):=
 match tb.get t with
 |none=>none
 |some te=>match te.d with
  | .slice e=>match tb.get e with
   |none=>none
   |some ee=>match tb.get tx with
    |none=>none
    |some xe=>bif (match xe.d with| .slice _=>true| .str=>true|_=>false) then
     (match asrc xt h ee.size x with
     |none=>none
     |some (n,as)=>match s with
      | .val (.slice none 0 0)=>bif Nat.beq n 0 then some (.val (.slice none 0 0),h) else
        bif Nat.ble (n*ee.bytes) 140737488355328 && Nat.ble n 9223372036854775807 then some (.sl h.n 0 n ee.size,h.new (.cells as e)) else none
      | .sl b off len esz=>match h.t.get b with
       |some (.cells cs e')=>
        bif Nat.beq off 0 && (Nat.beq esz ee.size && (Nat.beq e' e && (Nat.ble (len*ee.size) cs.length && (Nat.ble ((len+n)*ee.bytes) 140737488355328 && Nat.ble (len+n) 9223372036854775807))))
        then some (.sl h.n 0 (len+n) ee.size,(h.del b).new (.cells (cs.take (len*ee.size)++as) e)) else none
       |_=>none
      |_=>none) else none
  |_=>none
def aminmax (P:Program) (f:Array Value→Sem Value) (as:List AV):Option AV:=
 match toVals as with
 |none=>none
 |some vs=>match pureRun P (f vs.toArray) with
  |none=>none
  |some v=>some (.val v)
def acap (tb:T TE) (t:TypeId) (a:AV):Option Nat:=
 match tb.get t with
 |none=>none
 |some te=>match te.d with
  | .slice _=>match a with
   | .val (.slice _ _ n)=>some n
   |_=>none
  |_=>none
def aappendZ (tb:T TE) (h:Hp) (t tx:TypeId) (s x:AV):Option (AV×Hp):=
 match tb.get t,tb.get tx with
 |some te,some xe=>match te.d,xe.d with
  | .slice e,.int _=>match tb.get e with
   |none=>none
   |some ee=>match s,x with
    | .val (.slice none 0 0),.val (.int _ (.ofNat n))=>
     bif Nat.blt 0 n && (Nat.blt 0 ee.size && (Nat.ble (n*ee.bytes) 140737488355328 && Nat.ble n 9223372036854775807)) then some (.sl h.n 0 n ee.size,h.new (.cells (repl (ee.zero.map .val) n) e)) else none
    |_,_=>none
  |_,_=>none
 |_,_=>none
def acopy (tb:T TE) (xt:Addr→Option Value) (h:Hp) (t:TypeId) (s x:AV):Option (AV×Hp):=
 match tb.get t with
 |none=>none
 |some te=>match te.d with
  | .slice e=>match tb.get e with
   |none=>none
   |some ee=>match asrc xt h ee.size x with
    |none=>none
    |some (n,as)=>match s with
     | .sl b off len esz=>match h.t.get b with
      |some (.cells cs e')=>bif Nat.beq esz ee.size && (Nat.ble n len && (Nat.blt 0 len && Nat.ble (off+n*ee.size) cs.length)) then some (.val (.int .i64 n),h.set b (.cells (cs.take off++as++cs.drop (off+n*ee.size)) e')) else none
      |_=>none
     |_=>none
  |_=>none
def aclear (tb:T TE) (h:Hp) (t:TypeId) (a:AV):Option Hp:=
 match tb.get t with
 |none=>none
 |some te=>match te.d with
  | .slice e=>match tb.get e with
   |none=>none
   |some ee=>match a with
    | .sl b off n esz=>match h.t.get b with
     |some (.cells cs e')=>bif Nat.beq esz ee.size && (Nat.blt 0 n && (Nat.blt 0 ee.size && (Nat.ble (off+n*ee.size) cs.length && ee.zero.all Value.oneCell'))) then some (h.set b (.cells (cs.take off++repl (ee.zero.map .val) n++cs.drop (off+n*ee.size)) e')) else none
     |_=>none
    |_=>none
  |_=>none
def abuiltin (P:Program) (tb:T TE) (xt:Addr→Option Value) (b:Builtin) (ts:List TypeId) (as:List AV) (h:Hp):Option (AV×Hp):=
 match b with
 | .len=>match ts,as with
  |[t],[a]=>match alen tb h t a with
   |some n=>some (.val (.int .i64 n),h)
   |none=>none
  |_,_=>none
 | .cap=>match ts,as with
  |[t],[a]=>match acap tb t a with
   |some n=>some (.val (.int .i64 n),h)
   |none=>none
  |_,_=>none
 | .copy=>match ts,as with
  |[t,_],[s,x]=>acopy tb xt h t s x
  |_,_=>none
 | .append=>match ts,as with
  |[t,tx],[s,x]=>match aappend tb xt h t tx s x with
   |some r=>some r
   |none=>aappendZ tb h t tx s x
  |_,_=>none
 | .max=>match aminmax P (Builtin.max_ #[] 0) as with|some a=>some (a,h)|none=>none
 | .min=>match aminmax P (Builtin.min_ #[] 0) as with|some a=>some (a,h)|none=>none
 | .clear=>match ts,as with
  |[t],[a]=>match aclear tb h t a with
   |some h'=>some (.tup [],h')
   |none=>none
  |_,_=>none
 |_=>none
def placeOf (fs:List (Nat×Nat×TypeId)) (i:Nat):Option (Nat×Nat):=
 match fs[i]? with
 |some (off,size,_)=>some (off,size)
 |none=>none
def abuildA (tb:T TE) (t:TypeId) (parts:List (Nat×AV)):Option AV:=
 match tb.get t with
 |none=>none
 |some te=>match te.d with
  | .struct fs=>match fillA (placeOf fs) parts (te.zero.map .val) with
   |some cs=>some (.agg cs)
   |none=>none
  | .array _ e=>match tb.get e with
   |none=>none
   |some ee=>match fillA (fun i=>some (i*ee.size,ee.size)) parts (te.zero.map .val) with
    |some cs=>some (.agg cs)
    |none=>none
  |_=>none
def anilCheck:AV→Bool
 | .ptr _ _| .sl _ _ _ _| .mp _| .yld _=>true
 | .fn (.func _) _ _=>true
 | .val (.pointer (some _))=>true
 | .val (.func (.func _) _ _)=>true
 |_=>false
def aopS (P:Program) (tb:T TE) (xt:Addr→Option Value) (ev:Operand→AV) (op:Op) (h:Hp):Option (AV×Hp):=
 match op with
 | .move x=>some (ev x,h)
 | .assign x=>some (ev x,h)
 | .pick q a b=>match ev q with
  | .val (.bool t)=>some (bif t then ev a else ev b,h)
  |_=>none
 | .alloc e=>match tb.get e with
  |some te=>some (.ptr h.n 0,h.new (.cells (te.zero.map .val) e))
  |none=>none
 | .box e x=>some (.ptr h.n 0,h.new (.cells (cellsOf (ev x)) e))
 | .build t parts=>match abuildA tb t (parts.toList.map fun p=>(p.1,ev p.2)) with
  |some a=>some (a,h)
  |none=>none
 | .buildSlice t len parts=>match tb.get t with
  |none=>none
  |some te=>match te.d with
   | .slice e=>match tb.get e with
    |none=>none
    |some ee=>bif Nat.blt 0 ee.size && Nat.ble (len*ee.size) 16777216 then
      (match fillA (fun i=>some (i*ee.size,ee.size)) (parts.toList.map fun p=>(p.1,ev p.2)) (repl (ee.zero.map .val) len) with
      |some cs=>some (.sl h.n 0 len ee.size,h.new (.cells cs e))
      |none=>none) else none
   |_=>none
 | .load t a=>match aload tb xt h t (ev a) with|some v=>some (v,h)|none=>none
 | .store t a v=>match astore tb h t (ev a) (ev v) with|some h'=>some (default,h')|none=>none
 | .nilCheck x=>bif anilCheck (ev x) then some (ev x,h) else none
 | .binOp o t x y _=>match abin P tb o t x y (ev x) (ev y) with|some v=>some (v,h)|none=>none
 | .unOp o _ x=>match aun P o (ev x) with|some v=>some (v,h)|none=>none
 | .convert s d x=>match aconv tb h s d (ev x) with|some v=>some (v,h)|none=>none
 | .makeInterface t x=>match tb.get t with
  |some te=>bif te.con then some (.ifc t (ev x),h) else none
  |none=>none
 | .makeFunc f first captured=>some (.fn f (first.toList.map ev) (captured.toList.map ev),h)
 | .makeMap _ none=>some (.mp h.n,h.new (.map []))
 | .makeSlice t l k=>match tb.get t with
  |none=>none
  |some te=>match te.d with
   | .slice e=>match tb.get e with
    |none=>none
    |some ee=>match anat (ev l),anat (ev k) with
     |some n,some m=>bif Nat.beq n m && (Nat.blt 0 ee.size && (Nat.ble (ee.bytes*n) 281474976710656 && Nat.ble n 9223372036854775807)) then some (.sl h.n 0 n ee.size,h.new (.cells (repl (ee.zero.map .val) n) e)) else none
     |_,_=>none
   |_=>none
 | .slice t x lo hi none=>match aslice tb h t (ev x) (lo.map ev) (hi.map ev) with|some v=>some (v,h)|none=>none
 | .fieldAddr s x f=>match afieldAddr tb s (ev x) f with|some v=>some (v,h)|none=>none
 | .field t x f=>match afield tb t (ev x) f with|some v=>some (v,h)|none=>none
 | .indexAddr t x i=>match aindexAddr tb t (ev x) (ev i) with|some v=>some (v,h)|none=>none
 | .index t x i=>match aindex tb t (ev x) (ev i) with|some v=>some (v,h)|none=>none
 | .lookup t m k ok=>match alookup P tb h t (ev m) (ev k) ok with|some v=>some (v,h)|none=>none
 | .mapUpdate t m k v=>match amapUpdate P tb h t (ev m) (ev k) (ev v) with|some h'=>some (default,h')|none=>none
 | .insert t m k v=>match amapUpdate P tb h t (ev m) (ev k) (ev v) with|some h'=>some (default,h')|none=>none
 | .range t x=>match tb.get t with
  |some te=>match te.d with
   | .str=>match ev x with
    | .val (.string s)=>some (.ptr h.n 0,h.new (.siter s 0))
    |_=>none
   |_=>none
  |none=>none
 | .next it true=>anext h (ev it)
 | .typeAssert x _ t ok=>match atypeAssert tb (ev x) t ok with|some v=>some (v,h)|none=>none
 | .extract t i=>match aextract (ev t) i with|some v=>some (v,h)|none=>none
 | .call q=>match q.callee with
  | .builtin b=>abuiltin P tb xt b q.argTypes.toList (q.args.toList.map ev) h
  |_=>none
 |_=>none
def pr1 (h:Hp):Option AV→Option (AV×Hp)
 |some v=>some (v,h)
 |none=>none
def prH:Option Hp→Option (AV×Hp)
 |some h'=>some (default,h')
 |none=>none
def aoPick (h:Hp) (q a b:AV):Option (AV×Hp):=
 match q with
 | .val (.bool t)=>some (bif t then a else b,h)
 |_=>none
def aoAlloc (tb:T TE) (h:Hp) (e:TypeId):Option (AV×Hp):=
 match tb.get e with
 |some te=>some (.ptr h.n 0,h.new (.cells (te.zero.map .val) e))
 |none=>none
def aoBuildSlice (tb:T TE) (h:Hp) (t:TypeId) (len:Nat) (parts:List (Nat×AV)):Option (AV×Hp):=
 match tb.get t with
 |none=>none
 |some te=>match te.d with
  | .slice e=>match tb.get e with
   |none=>none
   |some ee=>bif Nat.blt 0 ee.size && Nat.ble (len*ee.size) 16777216 then
     (match fillA (fun i=>some (i*ee.size,ee.size)) parts (repl (ee.zero.map .val) len) with
     |some cs=>some (.sl h.n 0 len ee.size,h.new (.cells cs e))
     |none=>none) else none
  |_=>none
def aoIface (tb:T TE) (h:Hp) (t:TypeId) (a:AV):Option (AV×Hp):=
 match tb.get t with
 |some te=>bif te.con then some (.ifc t a,h) else none
 |none=>none
def aoMakeSlice (tb:T TE) (h:Hp) (t:TypeId) (l k:AV):Option (AV×Hp):=
 match tb.get t with
 |none=>none
 |some te=>match te.d with
  | .slice e=>match tb.get e with
   |none=>none
   |some ee=>match anat l,anat k with
    |some n,some m=>bif Nat.beq n m && (Nat.blt 0 ee.size && (Nat.ble (ee.bytes*n) 281474976710656 && Nat.ble n 9223372036854775807)) then some (.sl h.n 0 n ee.size,h.new (.cells (repl (ee.zero.map .val) n) e)) else none
    |_,_=>none
  |_=>none
def aoRange (tb:T TE) (h:Hp) (t:TypeId) (a:AV):Option (AV×Hp):=
 match tb.get t with
 |some te=>match te.d with
  | .str=>match a with
   | .val (.string s)=>some (.ptr h.n 0,h.new (.siter s 0))
   |_=>none
  |_=>none
 |none=>none
def aoCall (P:Program) (tb:T TE) (xt:Addr→Option Value) (ev:Operand→AV) (q:Call) (h:Hp):Option (AV×Hp):=
 match q.callee with
 | .builtin b=>abuiltin P tb xt b q.argTypes.toList (q.args.toList.map ev) h
 |_=>none
def aoSlice (tb:T TE) (ev:Operand→AV) (h:Hp) (t:TypeId) (x:Operand) (lo hi:Option Operand):Option Operand→Option (AV×Hp)
 |none=>pr1 h (aslice tb h t (ev x) (lo.map ev) (hi.map ev))
 |some _=>none
def aoMakeMap (h:Hp):Option Operand→Option (AV×Hp)
 |none=>some (.mp h.n,h.new (.map []))
 |some _=>none
def aoNext (h:Hp) (a:AV) (b:Bool):Option (AV×Hp):=bif b then anext h a else none
def aop (P:Program) (tb:T TE) (xt:Addr→Option Value) (ev:Operand→AV) (op:Op) (h:Hp):Option (AV×Hp):=
 match op with
 | .move x=>some (ev x,h)
 | .assign x=>some (ev x,h)
 | .pick q a b=>aoPick h (ev q) (ev a) (ev b)
 | .alloc e=>aoAlloc tb h e
 | .box e x=>some (.ptr h.n 0,h.new (.cells (cellsOf (ev x)) e))
 | .build t parts=>pr1 h (abuildA tb t (parts.toList.map fun p=>(p.1,ev p.2)))
 | .buildSlice t len parts=>aoBuildSlice tb h t len (parts.toList.map fun p=>(p.1,ev p.2))
 | .load t a=>pr1 h (aload tb xt h t (ev a))
 | .store t a v=>prH (astore tb h t (ev a) (ev v))
 | .nilCheck x=>bif anilCheck (ev x) then some (ev x,h) else none
 | .binOp o t x y _=>pr1 h (abin P tb o t x y (ev x) (ev y))
 | .unOp o _ x=>pr1 h (aun P o (ev x))
 | .convert s d x=>pr1 h (aconv tb h s d (ev x))
 | .makeInterface t x=>aoIface tb h t (ev x)
 | .makeFunc f first captured=>some (.fn f (first.toList.map ev) (captured.toList.map ev),h)
 | .makeMap _ r=>aoMakeMap h r
 | .makeSlice t l k=>aoMakeSlice tb h t (ev l) (ev k)
 | .slice t x lo hi mx=>aoSlice tb ev h t x lo hi mx
 | .fieldAddr s x f=>pr1 h (afieldAddr tb s (ev x) f)
 | .field t x f=>pr1 h (afield tb t (ev x) f)
 | .indexAddr t x i=>pr1 h (aindexAddr tb t (ev x) (ev i))
 | .index t x i=>pr1 h (aindex tb t (ev x) (ev i))
 | .lookup t m k ok=>pr1 h (alookup P tb h t (ev m) (ev k) ok)
 | .mapUpdate t m k v=>prH (amapUpdate P tb h t (ev m) (ev k) (ev v))
 | .insert t m k v=>prH (amapUpdate P tb h t (ev m) (ev k) (ev v))
 | .range t x=>aoRange tb h t (ev x)
 | .next it b=>aoNext h (ev it) b
 | .typeAssert x _ t ok=>pr1 h (atypeAssert tb (ev x) t ok)
 | .extract t i=>pr1 h (aextract (ev t) i)
 | .call q=>aoCall P tb xt ev q h
 |_=>none
theorem aop_eq (P:Program) (tb:T TE) (xt:Addr→Option Value) (ev:Operand→AV) (op:Op) (h:Hp):aop P tb xt ev op h=aopS P tb xt ev op h:=by
 cases op with
 |makeMap t r=>cases r<;>rfl
 |slice t x lo hi mx=>cases mx<;>rfl
 |next it b=>cases b<;>rfl
 |_=>rfl
def OOK (P:Program) (lim:Nat) (c:Ctx) (h:Hp) (w:World) (s:Sem Next) (a:AV) (h':Hp):Prop:=
 ∃nx v w' c',s.run P w= .ok nx w'∧(nx= .value v∨(nx= .skip∧v=undef))∧R c' a v∧Stp lim c h w c' h' w'
section
variable {P:Program} {lim:Nat} {c:Ctx} {h:Hp} {w:World} {tb:T TE} {xt:Addr→Option Value}
theorem VOK.op {s:Sem Value} {a:AV} {h':Hp} (v:VOK P lim c h w s a h'):OOK P lim c h w (do pure (.value (←s))) a h':=by
 obtain ⟨x,w',c',h1,h2,h3⟩:=v;exact ⟨.value x,x,w',c',by simp [h1],.inl rfl,h2,h3⟩
theorem uok {s:Sem Unit} {w':World} {h':Hp} (hs:s.run P w= .ok () w') (hst:Stp lim c h w c h' w'):OOK P lim c h w (do s;pure .skip) default h':=
 ⟨.skip,undef,w',c,by simp [hs],.inr ⟨rfl,rfl⟩,by show R c (.val (.tuple #[])) undef;simp only [R];rfl,hst⟩
theorem aappendZ_ok (htb:Tb P tb) (g:Good lim c h w) {t tx ty:TypeId} {s x:AV} {u v:Value} (hu:R c s u) (hv:R c x v) {a:AV} {h':Hp} (hlim:h'.n≤lim)
  (hf:aappendZ tb h t tx s x=some (a,h')):VOK P lim c h w (Builtin.append_ #[t,tx] ty #[u,v]) a h':=by
 unfold aappendZ at hf;split at hf
 ·rename_i te xe hte hxe;obtain ⟨it,ut,zt,ht⟩:=htb t te hte;obtain ⟨ix,ux,zx,hx'⟩:=htb tx xe hxe;split at hf
  ·rename_i e kd hd hdx;have hu':=ht.d;rw [hd] at hu';simp only [TDok] at hu';subst hu';have hx'':=hx'.d;rw [hdx] at hx'';simp only [TDok] at hx'';subst hx'';split at hf
   ·cases hf
   rename_i ee hee;obtain ⟨ie,ue,ze,he⟩:=htb e ee hee;split at hf
   ·rename_i kk n;cases hb:(Nat.blt 0 n && (Nat.blt 0 ee.size && (Nat.ble (n*ee.bytes) 140737488355328 && Nat.ble n 9223372036854775807))) with
    |false=>rw [hb] at hf;cases hf
    |true=>
     rw [hb] at hf;cases hf;simp only [Bool.and_eq_true,Nat.blt_eq] at hb;simp only [R] at hu hv;subst hu hv;exact append_zeros_ok g (by simp [Hp.new] at hlim;omega) ht.under he hb.2.1 hx'.under hb.1 (Nat.le_of_ble_eq_true hb.2.2.1) (Nat.le_of_ble_eq_true hb.2.2.2)
   ·cases hf
  ·cases hf
 ·cases hf
theorem acap_ok (htb:Tb P tb) (g:Good lim c h w) {t ty:TypeId} {a:AV} {x:Value} {n:Nat} (hx:R c a x) (hf:acap tb t a=some n):VOK P lim c h w (Builtin.cap_ #[t] ty #[x]) (.val (.int .i64 n)) h:=by
 unfold acap at hf;split at hf
 ·cases hf
 rename_i te hte;obtain ⟨it,u,z,ht⟩:=htb t te hte;refine VOK.here g (v:= .int .i64 n) ?_ (by simp only [R]);split at hf
 ·rename_i e hd;have hu:=ht.d;rw [hd] at hu;simp only [TDok] at hu;subst hu;split at hf
  ·cases hf;simp only [R] at hx;subst hx;simp [Builtin.cap_,ht.run_under,goInt]
  ·cases hf
 ·cases hf
theorem asrc_ok (g:Good lim c h w) (hxt: ∀b v,xt b=some v→c.ext b=some v) {size n:Nat} {a:AV} {x:Value} {as:List AV} (hx:R c a x) (ha:asrc xt h size a=some (n,as)): ∃vs,Src P c w size n x as vs:=by
 have hxc: ∀b v,xt b=some v→w.cell? b=some v:=fun b v e=>(g.ext b v (hxt b v e)).1;unfold asrc at ha;split at ha
 ·cases ha;simp only [R] at hx;subst hx;exact ⟨[],Src.nil⟩
 ·rename_i b off m esz;split at ha
  ·rename_i cs e hb;cases hc:(Nat.beq esz size && (Nat.ble (off+m*size) cs.length && ((cs.drop off).take (m*size)).all one)) with
   |false=>rw [hc] at ha;cases ha
   |true=>
    rw [hc] at ha;cases ha;simp only [Bool.and_eq_true] at hc;have:=Nat.eq_of_beq_eq_true hc.1;subst this;exact Src.slice g hb hx (Nat.le_of_ble_eq_true hc.2.1) hc.2.2
  ·cases ha
 ·rename_i s;cases hc:Nat.beq size 1 with
  |false=>rw [hc] at ha;cases ha
  |true=>
   rw [hc] at ha;cases ha;have:=Nat.eq_of_beq_eq_true hc;subst this;simp only [R] at hx;subst hx;have:=Src.str (P:=P) (c:=c) (w:=w) s;have e:s.data.toList.length=s.size:=by simp
   rw [e];exact ⟨_,this⟩
 ·rename_i ad m k;split at ha
  ·rename_i l hl;cases hc:l.all Value.oneCell' with
   |false=>rw [hc] at ha;cases ha
   |true=>
    rw [hc] at ha;cases ha;simp only [R] at hx;subst hx;obtain ⟨h1,h2⟩:=extCells_ok hxc _ _ _ hl;refine ⟨l,fun _=>rfl,fun d=> ?_,RL.map_val l,h1,fun v hv=>List.all_eq_true.1 hc v hv⟩;have:=run_loadCells_list (P:=P) {w with drawn:=d} ad l (fun j v hj=>by have:=h2 j v hj;rw [Nat.zero_add] at this;exact this);rw [h1] at this;simpa [Builtin.firstCells] using this
  ·cases ha
 ·cases ha
theorem acopy_ok (htb:Tb P tb) (g:Good lim c h w) (hxt: ∀b v,xt b=some v→c.ext b=some v) {t tx ty:TypeId} {s x:AV} {u v:Value} (hu:R c s u) (hv:R c x v) {a:AV} {h':Hp}
  (hf:acopy tb xt h t s x=some (a,h')):VOK P lim c h w (Builtin.copy_ #[t,tx] ty #[u,v]) a h':=by
 unfold acopy at hf;split at hf
 ·cases hf
 rename_i te hte;obtain ⟨it,ut,zt,ht⟩:=htb t te hte;split at hf
 ·rename_i e hd;have hu':=ht.d;rw [hd] at hu';simp only [TDok] at hu';subst hu';split at hf
  ·cases hf
  rename_i ee hee;obtain ⟨ie,ue,ze,he⟩:=htb e ee hee;split at hf
  ·cases hf
  rename_i n as hsrc;obtain ⟨vs,src⟩:=asrc_ok (P:=P) g hxt hv hsrc;split at hf
  ·rename_i b off len esz;split at hf
   ·rename_i cs e' hb;cases hc:(Nat.beq esz ee.size && (Nat.ble n len && (Nat.blt 0 len && Nat.ble (off+n*ee.size) cs.length))) with
    |false=>rw [hc] at hf;cases hf
    |true=>
     rw [hc] at hf;cases hf;simp only [Bool.and_eq_true,Nat.blt_eq] at hc;have:=Nat.eq_of_beq_eq_true hc.1;subst this;exact copy_ok g ht.under he hb hu src (Nat.le_of_ble_eq_true hc.2.1) hc.2.2.1 (Nat.le_of_ble_eq_true hc.2.2.2)
   ·cases hf
  ·cases hf
 ·cases hf
theorem clear_ok (g:Good lim c h w) {t ty e:TypeId} {te:TE} {ie:TypeInfo} {u:TypeDesc} {z:Value} (ht:P.underlying t=some (.slice e)) (he:TEok P e te ie u z)
  {b off n:Nat} {cs:List AV} {e':TypeId} (hb:h.t.get b=some (.cells cs e')) {s:Value} (hs:R c (.sl b off n te.size) s) (h0:0<n) (hz0:0<te.size) (hl:off+n*te.size≤cs.length) (ho:te.zero.all Value.oneCell'=true):
  VOK P lim c h w (Builtin.clear_ #[t] ty #[s]) (.tup []) (h.set b (.cells (cs.take off++repl (te.zero.map .val) n++cs.drop (off+n*te.size)) e')):=by
 simp only [R] at hs;obtain ⟨_,ad,cap,rfl,hlc,had,hsz⟩:=hs;have:=had (by omega);subst this;obtain ⟨xs,hxs,hxsz,hle,hr⟩:=g.block hb;have hz:z.cells.size=te.size:=by have:=he.zsize;rw [←he.cells] at this;simpa using this
 have hzc:(Builtin.zeroCells z.cells n).toList=repl te.zero n:=by rw [zeroCells_eq _ _ (.inl (by omega)),he.cells]
 have hrep: ∀(l:List Value) n,repl (l.map AV.val) n=(repl l n).map .val:=fun l n=>by
  induction n with
  |zero=>rfl
  |succ n ih=>simp [repl,ih]
 have hlen:(repl te.zero n).length=n*te.size:=by rw [repl_length,he.zsize]
 have hasl:(repl (te.zero.map AV.val) n).length=n*te.size:=by rw [repl_length,List.length_map,he.zsize]
 have hone: ∀(m:Nat),∀v∈repl te.zero m,v.oneCell'=true:=fun m=>by
  induction m with
  |zero=>intro v hv;simp [repl] at hv
  |succ m ih=>
   intro v hv;simp only [repl,List.mem_append] at hv;rcases hv with hv|hv
   ·exact List.all_eq_true.1 ho v hv
   ·exact ih v hv
 have hst:=run_storeCells_at (P:=P) (c.ρ b) off e' (repl te.zero n) 0 xs w hxs (by rw [hlen];omega) (hone n);obtain ⟨m,rfl⟩: ∃m,n=m+1:=⟨n - 1,by omega⟩;refine ⟨.tuple #[],_,c,?_,by simp only [R];exact ⟨[],rfl,by simp [RL]⟩,Stp.write g _ hb (.cells (xs.toList.take off++repl te.zero (m+1)++xs.toList.drop (off+(m+1)*te.size)).toArray e' (0,0)) ?_ rfl⟩
 ·have hru:(underlying t).run P w= .ok (.slice e) w:=run_underlying ht w;simp [Builtin.clear_,hru,he.run_zero,hzc,hst,hlen,setRow_eq hxs]
 ·have hxl:off+(m+1)*te.size≤xs.toList.length:=by simp;omega
  refine ⟨_,rfl,?_,?_,?_⟩
  ·simp only [List.size_toArray,List.length_append,List.length_take,List.length_drop,hlen];simp;omega
  ·simp only [List.size_toArray,List.length_append,List.length_take,List.length_drop,hlen,hasl];simp;omega
  ·have e1:(xs.toList.take off++repl te.zero (m+1)++xs.toList.drop (off+(m+1)*te.size)).toArray.toList.take (cs.take off++repl (te.zero.map AV.val) (m+1)++cs.drop (off+(m+1)*te.size)).length
     =(xs.toList.take cs.length).take off++repl te.zero (m+1)++(xs.toList.take cs.length).drop (off+(m+1)*te.size):=by
    simp only [List.length_append,List.length_take,List.length_drop,hasl];rw [List.take_append,List.take_append]
    congr 1
    ·congr 1
     ·rw [List.take_take,List.take_take];congr 1;omega
     ·apply List.take_of_length_le;simp only [List.length_take,hlen];omega
    ·rw [List.drop_take]
     congr 1
     simp only [List.length_take,List.length_append,hlen];omega
   rw [e1,hrep];exact ((hr.take off).append (RL.map_val _)).append (hr.drop _)
theorem aclear_ok (htb:Tb P tb) (g:Good lim c h w) {t ty:TypeId} {s:AV} {u:Value} (hu:R c s u) {h':Hp} (hf:aclear tb h t s=some h'):VOK P lim c h w (Builtin.clear_ #[t] ty #[u]) (.tup []) h':=by
 unfold aclear at hf;split at hf
 ·cases hf
 rename_i te hte;obtain ⟨it,ut,zt,ht⟩:=htb t te hte;split at hf
 ·rename_i e hd;have hu':=ht.d;rw [hd] at hu';simp only [TDok] at hu';subst hu';split at hf
  ·cases hf
  rename_i ee hee;obtain ⟨ie,ue,ze,he⟩:=htb e ee hee;split at hf
  ·rename_i b off n esz;split at hf
   ·rename_i cs e' hb;cases hc:(Nat.beq esz ee.size && (Nat.blt 0 n && (Nat.blt 0 ee.size && (Nat.ble (off+n*ee.size) cs.length && ee.zero.all Value.oneCell')))) with
    |false=>rw [hc] at hf;cases hf
    |true=>
     rw [hc] at hf;cases hf;simp only [Bool.and_eq_true,Nat.blt_eq] at hc;have:=Nat.eq_of_beq_eq_true hc.1;subst this;exact clear_ok g ht.under he hb hu hc.2.1 hc.2.2.1 (Nat.le_of_ble_eq_true hc.2.2.2.1) hc.2.2.2.2
   ·cases hf
  ·cases hf
 ·cases hf
theorem aappend_ok (htb:Tb P tb) (g:Good lim c h w) (hxt: ∀b v,xt b=some v→c.ext b=some v) {t tx ty:TypeId} {s x:AV} {u v:Value} (hu:R c s u) (hv:R c x v) {a:AV} {h':Hp} (hlim:h'.n≤lim)
  (hf:aappend tb xt h t tx s x=some (a,h')):VOK P lim c h w (Builtin.append_ #[t,tx] ty #[u,v]) a h':=by
 unfold aappend at hf;split at hf
 ·cases hf
 rename_i te hte;obtain ⟨it,ut,zt,ht⟩:=htb t te hte;split at hf
 ·rename_i e hd;split at hf
  ·cases hf
  rename_i ee hee;obtain ⟨ie,ue,ze,he⟩:=htb e ee hee;have hu':=ht.d;rw [hd] at hu';simp only [TDok] at hu';subst hu';split at hf
  ·cases hf
  rename_i xe hxe;obtain ⟨ix,ux,zx,hx'⟩:=htb tx xe hxe;have hni:(match xe.d with| .slice _=>true| .str=>true|_=>false)=true→(∃e',ux= .slice e')∨ux= .string:=fun hm=>by
   have:=hx'.d;split at hm
   ·rename_i e1 h1;rw [h1] at this;exact .inl ⟨e1,this⟩
   ·rename_i h1;rw [h1] at this;exact .inr this
   ·cases hm
  generalize (match xe.d with| .slice _=>true| .str=>true|_=>false)=bb at hf hni
  cases bb with
  |false=>cases hf
  |true=>
   simp only [cond_true] at hf;have hni:=hni rfl;split at hf
   ·cases hf
   rename_i n as hsrc;obtain ⟨vs,src⟩:=asrc_ok (P:=P) g hxt hv hsrc;split at hf
   ·simp only [R] at hu;subst hu;cases hn:Nat.beq n 0 with
    |true=>
     rw [hn] at hf;cases hf;have:=Nat.eq_of_beq_eq_true hn;subst this;exact append_nil_nothing g ht.under he hx'.under hni src
    |false=>
     rw [hn] at hf;simp only [cond_false] at hf;cases hb:(Nat.ble (n*ee.bytes) 140737488355328 && Nat.ble n 9223372036854775807) with
     |false=>rw [hb] at hf;cases hf
     |true=>
      rw [hb] at hf;cases hf;simp only [Bool.and_eq_true] at hb;have h0:0<n:=by
       rcases Nat.eq_zero_or_pos n with h0|h0
       ·subst h0;cases hn
       ·exact h0
      exact append_nil_ok g (by simp [Hp.new] at hlim;omega) ht.under he hx'.under hni src h0 (Nat.le_of_ble_eq_true hb.1) (Nat.le_of_ble_eq_true hb.2)
   ·rename_i b off len esz;split at hf
    ·rename_i cs e' hb;cases hc:(Nat.beq off 0 && (Nat.beq esz ee.size && (Nat.beq e' e && (Nat.ble (len*ee.size) cs.length && (Nat.ble ((len+n)*ee.bytes) 140737488355328 && Nat.ble (len+n) 9223372036854775807))))) with
     |false=>rw [hc] at hf;cases hf
     |true=>
      rw [hc] at hf;cases hf;simp only [Bool.and_eq_true] at hc;obtain ⟨c1,c2,c3,c4,c5,c6⟩:=hc;have:=Nat.eq_of_beq_eq_true c1;subst this;have:=Nat.eq_of_beq_eq_true c2;subst this;have:=Nat.eq_of_beq_eq_true c3;subst this;exact append_ok g (by simp [Hp.new,Hp.del] at hlim;omega) ht.under he hx'.under hni hb (Nat.le_of_ble_eq_true c4) hu src (Nat.le_of_ble_eq_true c5) (Nat.le_of_ble_eq_true c6)
    ·cases hf
   ·cases hf
 ·cases hf
end
end Go.Ev
end
noncomputable section
namespace Go.Ev
section
variable {P:Program} {lim:Nat} {c:Ctx} {h:Hp} {w:World} {tb:T TE} {xt:Addr→Option Value}
theorem abuildA_ok (htb:Tb P tb) (g:Good lim c h w) (ev:Operand→AV) (ρ:Operand→Value) (hev: ∀x,R c (ev x) (ρ x)) {t:TypeId} {parts:Array (Nat×Operand)} {a:AV}
  (hf:abuildA tb t (parts.toList.map fun p=>(p.1,ev p.2))=some a):VOK P lim c h w (Instr.build t (parts.map fun (i,x)=>(i,ρ x))) a h:=by
 unfold abuildA at hf;split at hf
 ·cases hf
 rename_i te hte;obtain ⟨it,u,z,ht⟩:=htb t te hte;have hz:RL c (te.zero.map .val) z.cells.toList:=by rw [ht.cells];exact RL.map_val _
 have hpl:(parts.map fun (i,x)=>(i,ρ x)).toList=parts.toList.map fun p=>(p.1,ρ p.2):=by simp
 split at hf
 ·rename_i fs hfs;split at hf
  ·rename_i cs hcs;cases hf;have hd:=ht.d;rw [hfs] at hd;obtain ⟨fields,rfl,hm,_⟩:=hd;have hpe:placeOf fs=fun i=>((fs.map fun x=>(x.1,x.2.1)).toArray)[i]? :=by
    funext i
    simp only [placeOf,List.getElem?_toArray,List.getElem?_map];cases fs[i]? <;>rfl
   rw [hpe] at hcs;obtain ⟨cells',hf',hr'⟩:=fill_ok _ ev ρ hev parts.toList _ cs _ hz hcs;refine VOK.here g (run_build (P:=P) w t _ cells' ?_) (by simp only [R];exact ⟨cells'.toList,by simp,hr'⟩);rw [hpl];simp only [Program.built,ht.info,ht.under,ht.zero,hm];exact hf'
  ·cases hf
 ·rename_i n e hd;split at hf
  ·cases hf
  rename_i ee hee;obtain ⟨ie,ue,ze,he⟩:=htb e ee hee;have hu':=ht.d;rw [hd] at hu';simp only [TDok] at hu';subst hu';split at hf
  ·rename_i cs hcs;cases hf;obtain ⟨cells',hf',hr'⟩:=fill_ok _ ev ρ hev parts.toList _ cs _ hz hcs;refine VOK.here g (run_build (P:=P) w t _ cells' ?_) (by simp only [R];exact ⟨cells'.toList,by simp,hr'⟩);rw [hpl];simp only [Program.built,ht.info,ht.under,ht.zero,he.info,he.size];exact hf'
  ·cases hf
 ·cases hf
theorem RL.map (ev:Operand→AV) (ρ:Operand→Value) (hev: ∀x,R c (ev x) (ρ x)): ∀(l:List Operand),RL c (l.map ev) (l.map ρ)
 |[]=>RL.nil
 |x::l=>RL.cons (hev x) (RL.map ev ρ hev l)
theorem aminmax_ok (g:Good lim c h w) (f:Array Value→Sem Value) (ev:Operand→AV) (ρ:Operand→Value) (hev: ∀x,R c (ev x) (ρ x)) {l:List Operand} {a:AV}
  (hf:aminmax P f (l.map ev)=some a):VOK P lim c h w (f (l.map ρ).toArray) a h:=by
 unfold aminmax at hf;split at hf
 ·cases hf
 rename_i vs hvs;split at hf
 ·cases hf
 rename_i v hv;cases hf;rw [RL.toVals (RL.map ev ρ hev l) hvs];exact VOK.here g (pureRun_ok _ _ hv w) (by simp only [R])
theorem abuiltin_ok (htb:Tb P tb) (g:Good lim c h w) (hxt: ∀b v,xt b=some v→c.ext b=some v) (ev:Operand→AV) (ρ:Operand→Value) (hev: ∀x,R c (ev x) (ρ x)) {b:Builtin} {q:Call} {ty:TypeId}
  (hq:q.callee= .builtin b) {a:AV} {h':Hp} (hlim:h'.n≤lim) (hf:abuiltin P tb xt b q.argTypes.toList (q.args.toList.map ev) h=some (a,h')):
  OOK P lim c h w (do let d←resolve ρ q ty;invoke d.target d.args) a h':=by
 have hargs:(q.args.map ρ)=(q.args.toList.map ρ).toArray:=by apply Array.ext';simp
 have hres: ∀(s:Sem Value),(∀cs,builtin b q.argTypes ty cs (q.args.map ρ)=(do pure (.value (←s))))→VOK P lim c h w s a h'→OOK P lim c h w (do let d←resolve ρ q ty;invoke d.target d.args) a h':=fun s h1 h2=>by
  have:=h2.op;unfold resolve;simp only [hq];show OOK P lim c h w (builtin b q.argTypes ty _ (q.args.map ρ)) a h';rw [h1];exact this
 unfold abuiltin at hf;split at hf
 ·
  split at hf
  ·rename_i t x hts has;split at hf
   ·rename_i n hn;cases hf;have hts':q.argTypes= #[t]:=by apply Array.ext';simpa using hts
    obtain ⟨o,ho,hox⟩: ∃o,q.args.toList=[o]∧ev o=x:=by
     cases hl:q.args.toList with
     |nil=>rw [hl] at has;cases has
     |cons o l=>cases l with
      |nil=>rw [hl] at has;simp at has;exact ⟨o,rfl,has⟩
      |cons _ _=>rw [hl] at has;simp at has
    subst hox;refine hres (Builtin.len_ #[t] ty #[ρ o]) (fun cs=> ?_) (alen_ok htb g (hev o) hn);rw [hargs,ho,hts'];rfl
   ·cases hf
  ·cases hf
 ·
  split at hf
  ·rename_i t x hts has;split at hf
   ·rename_i n hn;cases hf;have hts':q.argTypes= #[t]:=by apply Array.ext';simpa using hts
    obtain ⟨o,ho,hox⟩: ∃o,q.args.toList=[o]∧ev o=x:=by
     cases hl:q.args.toList with
     |nil=>rw [hl] at has;cases has
     |cons o l=>cases l with
      |nil=>rw [hl] at has;simp at has;exact ⟨o,rfl,has⟩
      |cons _ _=>rw [hl] at has;simp at has
    subst hox;refine hres (Builtin.cap_ #[t] ty #[ρ o]) (fun cs=> ?_) (acap_ok htb g (hev o) hn);rw [hargs,ho,hts'];rfl
   ·cases hf
  ·cases hf
 ·
  split at hf
  ·rename_i t tx s x hts has;have hts':q.argTypes= #[t,tx]:=by apply Array.ext';simpa using hts
   obtain ⟨o,o',ho,h1,h2⟩: ∃o o',q.args.toList=[o,o']∧ev o=s∧ev o'=x:=by
    cases hl:q.args.toList with
    |nil=>rw [hl] at has;cases has
    |cons o l=>cases l with
     |nil=>rw [hl] at has;simp at has
     |cons o' l=>cases l with
      |nil=>rw [hl] at has;simp at has;exact ⟨o,o',rfl,has.1,has.2⟩
      |cons _ _=>rw [hl] at has;simp at has
   subst h1 h2;refine hres (Builtin.copy_ #[t,tx] ty #[ρ o,ρ o']) (fun cs=> ?_) (acopy_ok htb g hxt (hev o) (hev o') hf);rw [hargs,ho,hts'];rfl
  ·cases hf
 ·
  split at hf
  ·rename_i t tx s x hts has;have hts':q.argTypes= #[t,tx]:=by apply Array.ext';simpa using hts
   obtain ⟨o,o',ho,h1,h2⟩: ∃o o',q.args.toList=[o,o']∧ev o=s∧ev o'=x:=by
    cases hl:q.args.toList with
    |nil=>rw [hl] at has;cases has
    |cons o l=>cases l with
     |nil=>rw [hl] at has;simp at has
     |cons o' l=>cases l with
      |nil=>rw [hl] at has;simp at has;exact ⟨o,o',rfl,has.1,has.2⟩
      |cons _ _=>rw [hl] at has;simp at has
   subst h1 h2;split at hf
   ·rename_i r hr;cases hf;refine hres (Builtin.append_ #[t,tx] ty #[ρ o,ρ o']) (fun cs=> ?_) (aappend_ok htb g hxt (hev o) (hev o') hlim hr);rw [hargs,ho,hts'];rfl
   ·refine hres (Builtin.append_ #[t,tx] ty #[ρ o,ρ o']) (fun cs=> ?_) (aappendZ_ok htb g (hev o) (hev o') hlim hf);rw [hargs,ho,hts'];rfl
  ·cases hf
 ·split at hf
  ·rename_i x hx;cases hf;refine hres (Builtin.max_ q.argTypes ty (q.args.map ρ)) (fun cs=>rfl) ?_;rw [hargs];exact aminmax_ok g (Builtin.max_ #[] 0) ev ρ hev hx
  ·cases hf
 ·split at hf
  ·rename_i x hx;cases hf;refine hres (Builtin.min_ q.argTypes ty (q.args.map ρ)) (fun cs=>rfl) ?_;rw [hargs];exact aminmax_ok g (Builtin.min_ #[] 0) ev ρ hev hx
  ·cases hf
 ·
  split at hf
  ·rename_i t x hts has;split at hf
   ·rename_i h1 hc;cases hf;have hts':q.argTypes= #[t]:=by apply Array.ext';simpa using hts
    obtain ⟨o,ho,hox⟩: ∃o,q.args.toList=[o]∧ev o=x:=by
     cases hl:q.args.toList with
     |nil=>rw [hl] at has;cases has
     |cons o l=>cases l with
      |nil=>rw [hl] at has;simp at has;exact ⟨o,rfl,has⟩
      |cons _ _=>rw [hl] at has;simp at has
    subst hox;refine hres (Builtin.clear_ #[t] ty #[ρ o]) (fun cs=> ?_) (aclear_ok htb g (hev o) hc);rw [hargs,ho,hts'];rfl
   ·cases hf
  ·cases hf
 ·cases hf
theorem anat_ok {a:AV} {n:Nat} {x:Value} (hx:R c a x) (ha:anat a=some n): ∃k,x= .int k (n:Int):=by
 unfold anat at ha;split at ha
 ·cases ha;simp only [R] at hx;exact ⟨_,hx⟩
 ·cases ha
theorem aop_ok (htb:Tb P tb) (g:Good lim c h w) (hxt: ∀b v,xt b=some v→c.ext b=some v) (ev:Operand→AV) (ρ:Operand→Value) (hev: ∀x,R c (ev x) (ρ x)) (o:Oper) {a:AV} {h':Hp} (hlim:h'.n≤lim)
  (hf:aop P tb xt ev o.op h=some (a,h')):OOK P lim c h w (execOp ρ o) a h':=by
 rw [aop_eq] at hf;unfold aopS at hf;unfold execOp;split at hf
 case h_1 x hop=>simp only [hop];cases hf;exact ⟨_,_,w,c,rfl,.inl rfl,hev x,Stp.refl g⟩
 case h_2 x hop=>simp only [hop];cases hf;exact ⟨_,_,w,c,rfl,.inl rfl,hev x,Stp.refl g⟩
 case h_3 q x y hop=>
  simp only [hop];split at hf
  ·rename_i t hq;cases hf;have:=hev q;rw [hq] at this;simp only [R] at this;refine ⟨.value (if t then ρ x else ρ y),_,w,c,by simp [this,asBool],.inl rfl,?_,Stp.refl g⟩;cases t
   ·exact hev y
   ·exact hev x
  ·cases hf
 case h_4 e hop=>
  simp only [hop];split at hf
  ·rename_i te hte;cases hf;obtain ⟨i,u,z,ht⟩:=htb e te hte;exact (alloc_ok g (by simp [Hp.new] at hlim;omega) ht).op
  ·cases hf
 case h_5 e x hop=>
  simp only [hop];cases hf;exact (box_ok g (by simp [Hp.new] at hlim;omega) e (hev x)).op
 case h_6 t parts hop=>
  simp only [hop];split at hf
  ·rename_i v hv;cases hf;exact (abuildA_ok htb g ev ρ hev hv).op
  ·cases hf
 case h_7 t len parts hop=>
  simp only [hop];split at hf
  ·cases hf
  rename_i te hte;obtain ⟨i,u,z,ht⟩:=htb t te hte;split at hf
  ·rename_i e hd;split at hf
   ·cases hf
   rename_i ee hee;obtain ⟨ie,ue,ze,he⟩:=htb e ee hee;have hu':=ht.d;rw [hd] at hu';simp only [TDok] at hu';subst hu';cases hb:(Nat.blt 0 ee.size && Nat.ble (len*ee.size) 16777216) with
   |false=>rw [hb] at hf;cases hf
   |true=>
    rw [hb] at hf;simp only [cond_true] at hf;simp only [Bool.and_eq_true] at hb;split at hf
    ·rename_i cs hcs;cases hf;exact (buildSlice_ok g (by simp [Hp.new] at hlim;omega) ht.under he len (by simpa [Nat.blt_eq] using hb.1) (Nat.le_of_ble_eq_true hb.2) ev ρ hev parts hcs).op
    ·cases hf
  ·cases hf
 case h_8 t x hop=>
  simp only [hop];split at hf
  ·rename_i v hv;cases hf;exact (aload_ok htb g hxt (hev x) hv).op
  ·cases hf
 case h_9 t x v hop=>
  simp only [hop];split at hf
  ·rename_i h1 hv;cases hf;obtain ⟨w',h2,h3⟩:=astore_ok htb g (hev x) (hev v) hv;exact uok h2 h3
  ·cases hf
 case h_10 x hop=>
  simp only [hop];cases hn:anilCheck (ev x) with
  |false=>rw [hn] at hf;cases hf
  |true=>
   rw [hn] at hf;cases hf;have hx:=hev x;refine ⟨.value (ρ x),_,w,c,?_,.inl rfl,hx,Stp.refl g⟩;generalize ev x=a at hn hx
   generalize ρ x=v at hx
   unfold anilCheck at hn;split at hn
   ·simp only [R] at hx;obtain ⟨_,rfl⟩:=hx;rfl
   ·simp only [R] at hx;obtain ⟨_,_,_,rfl,_⟩:=hx;rfl
   ·simp only [R] at hx;obtain ⟨_,rfl⟩:=hx;rfl
   ·simp only [R] at hx;obtain ⟨_,rfl⟩:=hx;rfl
   ·simp only [R] at hx;obtain ⟨_,_,rfl,_⟩:=hx;rfl
   ·simp only [R] at hx;subst hx;rfl
   ·simp only [R] at hx;subst hx;rfl
   ·cases hn
 case h_11 op t x y yt hop=>
  simp only [hop];split at hf
  ·rename_i v hv;cases hf;exact (abin_ok htb g (hev x) (hev y) hv).op
  ·cases hf
 case h_12 op t x hop=>
  simp only [hop];split at hf
  ·rename_i v hv;cases hf;exact (aun_ok g (hev x) hv).op
  ·cases hf
 case h_13 s d x hop=>
  simp only [hop];split at hf
  ·rename_i v hv;cases hf;exact (aconv_ok htb g (hev x) hv).op
  ·cases hf
 case h_14 t x hop=>
  simp only [hop];split at hf
  ·rename_i te hte;obtain ⟨i,u,z,ht⟩:=htb t te hte;cases hc:te.con with
   |false=>rw [hc] at hf;cases hf
   |true=>
    rw [hc] at hf;cases hf;exact (VOK.here g (run_makeInterface w t (ρ x) (ht.con hc)) (by simp only [R];exact ⟨_,rfl,hev x⟩)).op
  ·cases hf
 case h_15 f first captured hop=>
  simp only [hop];cases hf;refine (VOK.here g (v:= .func f (first.map ρ) (captured.map ρ)) rfl ?_).op;simp only [R];exact ⟨first.toList.map ρ,captured.toList.map ρ,by congr 1<;>(apply Array.ext';simp),RL.map ev ρ hev _,RL.map ev ρ hev _⟩
 case h_16 t hop=>
  simp only [hop];cases hf;refine VOK.op ⟨.map (some w.heap.size),{w with heap:=w.heap.push (.map #[] 0)},c.new h.n w.heap.size 0,?_,by simp only [R];exact ⟨.inr rfl,by simp⟩,Stp.alloc g (by simp [Hp.new] at hlim;omega) _ _ _ ⟨#[],0,rfl,by simp [ROMap]⟩⟩;simp [Instr.makeMap]
 case h_17 t l k hop=>
  simp only [hop];split at hf
  ·cases hf
  rename_i te hte;obtain ⟨i,u,z,ht⟩:=htb t te hte;split at hf
  ·rename_i e hd;split at hf
   ·cases hf
   rename_i ee hee;obtain ⟨ie,ue,ze,he⟩:=htb e ee hee;have hu':=ht.d;rw [hd] at hu';simp only [TDok] at hu';subst hu';split at hf
   ·rename_i n m hn hm;cases hb:(Nat.beq n m && (Nat.blt 0 ee.size && (Nat.ble (ee.bytes*n) 281474976710656 && Nat.ble n 9223372036854775807))) with
    |false=>rw [hb] at hf;cases hf
    |true=>
     rw [hb] at hf;cases hf;simp only [Bool.and_eq_true] at hb;obtain ⟨b1,b2,b3,b4⟩:=hb;have:=Nat.eq_of_beq_eq_true b1;subst this;obtain ⟨kl,hl⟩:=anat_ok (hev l) hn;obtain ⟨kk,hk⟩:=anat_ok (hev k) hm;rw [hl,hk];exact (makeSlice_ok g (by simp [Hp.new] at hlim;omega) ht.under he kl kk n (by simpa [Nat.blt_eq] using b2) (Nat.le_of_ble_eq_true b3) (Nat.le_of_ble_eq_true b4)).op
   ·cases hf
  ·cases hf
 case h_18 t x lo hi hop=>
  simp only [hop];split at hf
  ·rename_i v hv;cases hf;exact (aslice_ok htb g ev ρ hev hv).op
  ·cases hf
 case h_19 s x f hop=>
  simp only [hop];split at hf
  ·rename_i v hv;cases hf;exact (fieldAddr_ok htb g (hev x) hv).op
  ·cases hf
 case h_20 t x f hop=>
  simp only [hop];split at hf
  ·rename_i v hv;cases hf;exact (afield_ok htb g (hev x) hv).op
  ·cases hf
 case h_21 t x i hop=>
  simp only [hop];split at hf
  ·rename_i v hv;cases hf;exact (indexAddr_ok htb g (hev x) (hev i) hv).op
  ·cases hf
 case h_22 t x i hop=>
  simp only [hop];split at hf
  ·rename_i v hv;cases hf;exact (aindex_ok htb g (hev x) (hev i) hv).op
  ·cases hf
 case h_23 t m k ok hop=>
  simp only [hop];split at hf
  ·rename_i v hv;cases hf;exact (alookup_ok htb g (hev m) (hev k) hv).op
  ·cases hf
 case h_24 t m k v hop=>
  simp only [hop];split at hf
  ·rename_i h1 hv;cases hf;obtain ⟨w',h2,h3⟩:=amapUpdate_ok htb g (hev m) (hev k) (hev v) hv;exact uok h2 h3
  ·cases hf
 case h_25 t m k v hop=>
  simp only [hop];split at hf
  ·rename_i h1 hv;cases hf;obtain ⟨w',h2,h3⟩:=amapUpdate_ok htb g (hev m) (hev k) (hev v) hv;exact uok h2 h3
  ·cases hf
 case h_26 t x hop=>
  simp only [hop];split at hf
  ·rename_i te hte;split at hf
   ·rename_i hd;split at hf
    ·rename_i s hs;cases hf;have:=hev x;rw [hs] at this;simp only [R] at this;rw [this];exact (range_ok htb g (by simp [Hp.new] at hlim;omega) hte hd s).op
    ·cases hf
   ·cases hf
  ·cases hf
 case h_27 it hop=>
  simp only [hop];exact (anext_ok g (hev it) hf).op
 case h_28 x xt' t ok hop=>
  simp only [hop];split at hf
  ·rename_i v hv;cases hf;exact (atypeAssert_ok htb g (hev x) hv).op
  ·cases hf
 case h_29 t i hop=>
  simp only [hop];split at hf
  ·rename_i v hv;cases hf;exact (aextract_ok g (hev t) hv).op
  ·cases hf
 case h_30 q hop=>
  simp only [hop];split at hf
  ·rename_i b hb;exact abuiltin_ok htb g hxt ev ρ hev hb hlim hf
  ·cases hf
 case h_31=>cases hf
end
end Go.Ev
end
noncomputable section
namespace Go.Ev
inductive CR where
 |ret (v:AV)
 |pan (v:AV)
inductive Ex where
 |normal
 |exit (id:Nat)
 |goto (l:Nat)
 |ret
 |panic (v:AV)
def ResR (c:Ctx):CR→Ending→Prop
 | .ret v,e=> ∃x,e= .returned x∧R c v x
 | .pan v,e=> ∃x,e= .panicked [{v:=x,recovered:=false}]∧R c v x
def ExR (c:Ctx):Ex→Exit→Prop
 | .normal,e=>e= .normal
 | .exit id,e=>e= .exit id
 | .goto l,e=>e= .goto l
 | .ret,e=>e= .ret
 | .panic v,e=> ∃x,e= .panic [{v:=x,recovered:=false}]∧R c v x
def CallOK (P:Program) (fv:Value) (args:List Value) (w:World) (K:Ending→World→Prop):Prop:=
 ∃d,(Deferred.ofValue fv args.toArray).run P w= .ok d w∧
  ((∃f as,(invoke d.target d.args).run P w= .ok (.enter f as) w∧CallsIn Fence.wide 0 P f as w K)∨
   (∃l f tmps assign body,(invoke d.target d.args).run P w= .ok (.round l f tmps assign body) w∧RoundIn Fence.wide 0 P l f tmps assign body w K)∨
   (∃v w',(invoke d.target d.args).run P w= .ok (.value v) w'∧K (.returned v) w'))
theorem CallOK.mono {P:Program} {fv:Value} {args:List Value} {w:World} {K K':Ending→World→Prop} (h:CallOK P fv args w K) (hk: ∀e w',K e w'→K' e w'):CallOK P fv args w K':=by
 obtain ⟨d,hd,h⟩:=h;refine ⟨d,hd,?_⟩;rcases h with ⟨f,as,h1,h2⟩|⟨l,f,tmps,as,b,h1,h2⟩|⟨v,w',h1,h2⟩
 ·exact .inl ⟨f,as,h1,h2.mono hk⟩
 ·exact .inr (.inl ⟨l,f,tmps,as,b,h1,h2.mono hk⟩)
 ·exact .inr (.inr ⟨v,w',h1,hk _ _ h2⟩)
def SCall (P:Program) (xt:Addr→Option Value) (lim:Nat) (fv:AV) (args:List AV) (h:Hp) (res:CR) (h':Hp):Prop:=
 ∀c w fv' args',Good lim c h w→(∀b v,xt b=some v→c.ext b=some v)→R c fv fv'→RL c args args'→CallOK P fv' args' w fun e w'=> ∃c',Stp lim c h w c' h' w'∧ResR c' res e
abbrev CallF:=AV→List AV→Hp→Option (CR×Hp)
def Sound (P:Program) (xt:Addr→Option Value) (call:CallF):Prop:= ∀fv args h res h',call fv args h=some (res,h')→h.n≤h'.n∧ ∀lim,h'.n≤lim→SCall P xt lim fv args h res h'
def aeval (tm:T AV):Operand→AV
 | .tmp t=>match tm.get t with|some a=>a|none=>default
 | .const v=> .val v
 | .global g=> .val (.pointer (some ⟨g,0,none⟩))
 | .func f=> .val (.func (.func f) #[] #[])
theorem aeval_ok {c:Ctx} {nt:Nat} {tm:T AV} {a:Act} (h:TR c nt tm a.tmps) (x:Operand):R c (aeval tm x) (a.eval x):=by
 cases x with
 |tmp t=>
  have:=h.at_ t;simp only [aeval,Act.eval];cases hg:tm.get t with
  |none=>rw [hg] at this;exact this
  |some v=>rw [hg] at this;exact this
 |const v=>simp only [aeval,Act.eval,R]
 |global g=>simp only [aeval,Act.eval,R]
 |func f=>simp only [aeval,Act.eval,R]
def awanted (ops:Array Oper) (o:Oper) (tm:T AV):Bool:=
 match o.guard with
 |none=>true
 |some (j,want)=>match (ops[j]?).bind (·.dst) with
  |none=>false
  |some d=>match tm.get d with
   |some (.val (.bool b))=>bif b then want else !want
   |_=>false
theorem R.bool_inv {c:Ctx} {a:AV} {b:Bool} (h:R c a (.bool b)):a= .val (.bool b):=by
 cases a with
 |val v=>simp only [R] at h;rw [h]
 |ptr _ _=>simp [R] at h
 |sl _ _ _ _=>simp [R] at h
 |mp _=>simp [R] at h
 |fn _ _ _=>simp [R] at h
 |yld _=>simp [R] at h
 |ifc _ _=>simp [R] at h
 |agg _=>simp [R] at h
 |tup _=>simp [R] at h
theorem awanted_ok {c:Ctx} {nt:Nat} {tm:T AV} {a:Act} (h:TR c nt tm a.tmps) (ops:Array Oper) (o:Oper) (hd: ∀j w d,o.guard=some (j,w)→(ops[j]?).bind (·.dst)=some d→d<nt):
  Region.wanted o (yielded ops a.tmps)=awanted ops o tm:=by
 unfold Region.wanted awanted;cases hg:o.guard with
 |none=>rfl
 |some jw=>
  obtain ⟨j,want⟩:=jw;unfold yielded;cases hb:(ops[j]?).bind (·.dst) with
  |none=>simp only [hb];rfl
  |some d=>
   have hdn:=hd j want d hg hb;have hsz:d<a.tmps.size:=by rw [h.size];exact hdn
   have hat:=h.at_ d;have e1:a.tmps[d]? =some a.tmps[d]:=Array.getElem?_eq_getElem hsz;have e2:a.tmps.getD d undef=a.tmps[d]:=by simp [Array.getD,hsz]
   simp only [hb,Option.bind_some,e1];rw [e2] at hat;cases hv:a.tmps[d] with
   |bool b=>
    rw [hv] at hat;have:=hat.bool_inv;cases hgd:tm.get d with
    |none=>rw [hgd] at this;simp [default] at this
    |some av=>
     rw [hgd] at this;simp at this;subst this;cases b<;>cases want<;>rfl
   |_=>
    rw [hv] at hat;cases hgd:tm.get d with
    |none=>rfl
    |some av=>
     rw [hgd] at hat;cases av with
     |val v=>simp only [Option.getD_some,R] at hat;subst hat;rfl
     |_=>rfl
def putD (nt:Nat) (tm:T AV) (dst:Option Tmp) (v:AV):Option (T AV):=
 match dst with
 |none=>some tm
 |some d=>bif Nat.blt d nt then some (tm.put (some v) d) else none
theorem putD_ok {c:Ctx} {nt:Nat} {tm tm':T AV} {a:Act} (h:TR c nt tm a.tmps) {dst:Option Tmp} {v:AV} {x:Value} (hv:R c v x) (hp:putD nt tm dst v=some tm'):TR c nt tm' (a.put dst x).tmps:=by
 unfold putD at hp;cases dst with
 |none=>cases hp;exact h
 |some d=>
  simp only [] at hp;cases hb:Nat.blt d nt with
  |false=>rw [hb] at hp;cases hp
  |true=>
   rw [hb] at hp;cases hp;exact h.put (by simpa [Nat.blt_eq] using hb) hv
def guardOk (nt:Nat) (ops:Array Oper) (o:Oper):Bool:=
 match o.guard with
 |none=>true
 |some (j,_)=>match (ops[j]?).bind (·.dst) with
  |none=>true
  |some d=>Nat.blt d nt
theorem guardOk_ok {nt:Nat} {ops:Array Oper} {o:Oper} (h:guardOk nt ops o=true) (j:Nat) (w:Bool) (d:Tmp) (hg:o.guard=some (j,w)) (hd:(ops[j]?).bind (·.dst)=some d):d<nt:=by
 unfold guardOk at h;rw [hg] at h;simp only [hd] at h;simpa [Nat.blt_eq] using h
inductive OR where
 |ok (v:AV) (h:Hp)
 |pan (v:AV) (h:Hp)
def evOpS (P:Program) (tb:T TE) (xt:Addr→Option Value) (call:CallF) (o:Oper) (tm:T AV) (h:Hp):Option OR:=
 match o.op with
 | .call q=>match q.callee with
  | .value f=>match call (aeval tm f) (q.args.toList.map (aeval tm)) h with
   |some (.ret v,h')=>some (.ok v h')
   |some (.pan v,h')=>some (.pan v h')
   |none=>none
  | .invoke recv name=>match call (.val (.func (.method name) #[] #[])) (aeval tm recv::q.args.toList.map (aeval tm)) h with
   |some (.ret v,h')=>some (.ok v h')
   |some (.pan v,h')=>some (.pan v h')
   |none=>none
  | .builtin _=>match aop P tb xt (aeval tm) o.op h with
   |some (v,h')=>some (.ok v h')
   |none=>none
 | .panic x=>match aeval tm x with
  | .ifc t v=>some (.pan (.ifc t v) h)
  | .val (.iface t v)=>some (.pan (.val (.iface t v)) h)
  |_=>none
 | .defer _=>none
 |_=>match aop P tb xt (aeval tm) o.op h with
  |some (v,h')=>some (.ok v h')
  |none=>none
def orOk:Option (AV×Hp)→Option OR
 |some (v,h')=>some (.ok v h')
 |none=>none
def orCall:Option (CR×Hp)→Option OR
 |some (.ret v,h')=>some (.ok v h')
 |some (.pan v,h')=>some (.pan v h')
 |none=>none
def evOpCall (P:Program) (tb:T TE) (xt:Addr→Option Value) (call:CallF) (o:Oper) (tm:T AV) (h:Hp) (q:Call):Option OR:=
 match q.callee with
 | .value f=>orCall (call (aeval tm f) (q.args.toList.map (aeval tm)) h)
 | .invoke recv name=>orCall (call (.val (.func (.method name) #[] #[])) (aeval tm recv::q.args.toList.map (aeval tm)) h)
 | .builtin _=>orOk (aop P tb xt (aeval tm) o.op h)
def evOpPanic (h:Hp):AV→Option OR
 | .ifc t v=>some (.pan (.ifc t v) h)
 | .val (.iface t v)=>some (.pan (.val (.iface t v)) h)
 |_=>none
def evOp (P:Program) (tb:T TE) (xt:Addr→Option Value) (call:CallF) (o:Oper) (tm:T AV) (h:Hp):Option OR:=
 match o.op with
 | .call q=>evOpCall P tb xt call o tm h q
 | .panic x=>evOpPanic h (aeval tm x)
 | .defer _=>none
 |_=>orOk (aop P tb xt (aeval tm) o.op h)
theorem orOk_eq (r:Option (AV×Hp)):orOk r=(match r with|some (v,h')=>some (.ok v h')|none=>none):=by cases r<;>rfl
theorem orCall_eq (r:Option (CR×Hp)):orCall r=(match r with|some (.ret v,h')=>some (.ok v h')|some (.pan v,h')=>some (.pan v h')|none=>none):=by
 cases r with
 |none=>rfl
 |some p=>obtain ⟨x,y⟩:=p;cases x<;>rfl
theorem evOp_eq (P:Program) (tb:T TE) (xt:Addr→Option Value) (call:CallF) (o:Oper) (tm:T AV) (h:Hp):evOp P tb xt call o tm h=evOpS P tb xt call o tm h:=by
 unfold evOp evOpS;cases ho:o.op with
 |call q=>
  simp only [evOpCall,ho];cases q.callee with
  |value f=>exact orCall_eq _
  |invoke recv name=>exact orCall_eq _
  |builtin b=>exact orOk_eq _
 |panic x=>rfl
 |defer q=>rfl
 |_=>exact orOk_eq _
def evOps1 (nt:Nat) (o:Oper) (ih:T AV→Hp→Option (Ex×T AV×Hp)) (tm:T AV):Option OR→Option (Ex×T AV×Hp)
 |none=>none
 |some (.pan v h')=>some (.panic v,tm,h')
 |some (.ok v h')=>match putD nt tm o.dst v with
  |none=>none
  |some tm'=>ih tm' h'
def evOps2 (ih:T AV→Hp→Option (Ex×T AV×Hp)) (h:Hp):Option (T AV)→Option (Ex×T AV×Hp)
 |none=>none
 |some tm'=>ih tm' h
noncomputable def evOps (P:Program) (tb:T TE) (xt:Addr→Option Value) (call:CallF) (nt:Nat) (ops:Array Oper) (ol:List Oper):T AV→Hp→Option (Ex×T AV×Hp):=
 List.rec (motive:=fun _=>T AV→Hp→Option (Ex×T AV×Hp)) (fun tm h=>some (.normal,tm,h))
  (fun o _ ih tm h=>bif guardOk nt ops o then (bif awanted ops o tm then evOps1 nt o ih tm (evOp P tb xt call o tm h) else evOps2 ih h (putD nt tm o.dst default)) else none) ol
theorem evOps_nil (P:Program) (tb:T TE) (xt:Addr→Option Value) (call:CallF) (nt:Nat) (ops:Array Oper) (tm:T AV) (h:Hp):evOps P tb xt call nt ops [] tm h=some (.normal,tm,h):=rfl
theorem evOps_cons (P:Program) (tb:T TE) (xt:Addr→Option Value) (call:CallF) (nt:Nat) (ops:Array Oper) (o:Oper) (rest:List Oper) (tm:T AV) (h:Hp):evOps P tb xt call nt ops (o::rest) tm h=
  (bif guardOk nt ops o then
   (bif awanted ops o tm then
    (match evOp P tb xt call o tm h with
    |none=>none
    |some (.pan v h')=>some (.panic v,tm,h')
    |some (.ok v h')=>match putD nt tm o.dst v with
     |none=>none
     |some tm'=>evOps P tb xt call nt ops rest tm' h')
   else match putD nt tm o.dst default with
    |none=>none
    |some tm'=>evOps P tb xt call nt ops rest tm' h)
  else none):=by
 have e:evOps P tb xt call nt ops (o::rest) tm h=(bif guardOk nt ops o then (bif awanted ops o tm then evOps1 nt o (evOps P tb xt call nt ops rest) tm (evOp P tb xt call o tm h) else evOps2 (evOps P tb xt call nt ops rest) h (putD nt tm o.dst default)) else none):=rfl;rw [e];cases evOp P tb xt call o tm h with
 |none=>rfl
 |some r=>cases r with
  |pan v h'=>rfl
  |ok v h'=>rfl
def Wd (r:Option Nat):Fence:={Fence.wide with round:=r}
theorem callsIn_wd {r:Option Nat} {P:Program} {f:FuncId} {args:Array Value} {w:World} {K:Ending→World→Prop} (h:CallsIn Fence.wide 0 P f args w K):CallsIn (Wd r) 0 P f args w K:=by
 cases r with
 |none=>exact h
 |some l=>exact CallsIn.inRound l h
theorem roundIn_wd {r:Option Nat} {P:Program} {l:Nat} {f:FuncId} {tmps:Array Value} {assign body:Code} {w:World} {K:Ending→World→Prop} (h:RoundIn Fence.wide 0 P l f tmps assign body w K):RoundIn (Wd r) 0 P l f tmps assign body w K:=h
section
variable {P:Program} {lim:Nat} {c:Ctx} {h:Hp} {w:World} {tb:T TE} {xt:Addr→Option Value} {call:CallF}
def Post (lim:Nat) (c:Ctx) (h:Hp) (w:World) (nt:Nat) (ds:List Deferred) (x:Ex) (tm':T AV) (h':Hp):Exit→Act→World→Prop:=
 fun e a' w'=> ∃c',Stp lim c h w c' h' w'∧ExR c' x e∧TR c' nt tm' a'.tmps∧a'.defers=ds
theorem aop_defer {o:Oper} {ev:Operand→AV} {r:AV×Hp} (h1:aop P tb xt ev o.op h=some r): ∀q,o.op≠ .defer q:=by
 intro q e;rw [e] at h1;simp [aop_eq,aopS] at h1
theorem wpIn_of_OOK {r:Option Nat} {o:Oper} {a:Act} {av:AV} {h':Hp} {next:Act→World→Prop} {Q:Exit→Act→World→Prop} (hdf: ∀q,o.op≠ .defer q) (ho:OOK P lim c h w (execOp a.eval o) av h')
  (hn: ∀v w' c',R c' av v→Stp lim c h w c' h' w'→next (a.put o.dst v) w'):o.wpIn (Wd r) 0 P a w next Q:=by
 obtain ⟨nx,v,w',c',h1,h2,h3,h4⟩:=ho;refine ⟨fun _ _=>trivial,?_⟩;rw [Oper.semAt_eq _ _ _ hdf,h1];rcases h2 with rfl|⟨rfl,rfl⟩
 ·exact hn _ _ _ h3 h4
 ·exact hn _ _ _ h3 h4
theorem wpIn_of_call {r:Option Nat} {o:Oper} {a:Act} {q:Call} {f:Operand} {next:Act→World→Prop} {Q:Exit→Act→World→Prop} (hop:o.op= .call q) (hq:q.callee= .value f)
  (hc:CallOK P (a.eval f) (q.args.toList.map a.eval) w fun
   | .returned v,w''=>next (a.put o.dst v) w''
   | .panicked chain,w''=>Q (.panic chain) a w''
   | .outgrown,_=>LetsOut Q):o.wpIn (Wd r) 0 P a w next Q:=by
 refine ⟨fun _ _=>trivial,?_⟩;rw [Oper.semAt_eq _ _ _ (by rw [hop];simp)];obtain ⟨d,hd,h⟩:=hc;have hargs:(q.args.map a.eval)=(q.args.toList.map a.eval).toArray:=by apply Array.ext';simp
 have hex:(execOp a.eval o).run P w=(invoke d.target d.args).run P w:=by
  unfold execOp;simp only [hop,Sem.run_bind,resolve,hq,hargs,hd,Result.andThen_ok]
 rw [hex];rcases h with ⟨f,as,h1,h2⟩|⟨l,f,tmps,as,b,h1,h2⟩|⟨v,w',h1,h2⟩
 ·rw [h1];exact ⟨by simp [Wd,Fence.wide],callsIn_wd h2⟩
 ·rw [h1];exact ⟨by simp [Wd,Fence.wide],roundIn_wd h2⟩
 ·rw [h1];exact h2
theorem wpIn_of_invoke {r:Option Nat} {o:Oper} {a:Act} {q:Call} {recv:Operand} {name:String} {next:Act→World→Prop} {Q:Exit→Act→World→Prop} (hop:o.op= .call q) (hq:q.callee= .invoke recv name)
  (hc:CallOK P (.func (.method name) #[] #[]) (a.eval recv::q.args.toList.map a.eval) w fun
   | .returned v,w''=>next (a.put o.dst v) w''
   | .panicked chain,w''=>Q (.panic chain) a w''
   | .outgrown,_=>LetsOut Q):o.wpIn (Wd r) 0 P a w next Q:=by
 refine ⟨fun _ _=>trivial,?_⟩;rw [Oper.semAt_eq _ _ _ (by rw [hop];simp)];obtain ⟨d,hd,h⟩:=hc;have hex:(execOp a.eval o).run P w=(invoke d.target d.args).run P w:=by
  have hd':d={target:= .fn (.method name) #[],args:= #[a.eval recv]++q.args.map a.eval}:=by
   have:(Deferred.ofValue (.func (.method name) #[] #[]) (a.eval recv::q.args.toList.map a.eval).toArray).run P w= .ok {target:= .fn (.method name) #[],args:= #[a.eval recv]++q.args.map a.eval} w:=by
    show Result.ok _ _=_
    congr 2
    apply Array.ext'
    simp
   rw [this] at hd;cases hd;rfl
  unfold execOp;simp only [hop,Sem.run_bind,resolve,hq,Sem.run_pure,Result.andThen_ok,hd']
 rw [hex];rcases h with ⟨f,as,h1,h2⟩|⟨l,f,tmps,as,b,h1,h2⟩|⟨v,w',h1,h2⟩
 ·rw [h1];exact ⟨by simp [Wd,Fence.wide],callsIn_wd h2⟩
 ·rw [h1];exact ⟨by simp [Wd,Fence.wide],roundIn_wd h2⟩
 ·rw [h1];exact h2
theorem Hp.n_new (h:Hp) (o:AO):h.n≤(h.new o).n:=Nat.le_succ _
theorem cond_some {α:Type} {b:Bool} {x:Option α} {y:α} (h:(bif b then x else none)=some y):b=true∧x=some y:=by
 cases b with
 |false=>cases h
 |true=>exact ⟨rfl,h⟩
theorem astore_n {t:TypeId} {a v:AV} {h':Hp} (hf:astore tb h t a v=some h'):h.n≤h'.n:=by
 unfold astore at hf;simp only [Bool.cond_eq_ite] at hf
 repeat' (split at hf)
 all_goals first|(cases hf;done)|(cases hf;exact Nat.le_refl _)
theorem amapUpdate_n {t:TypeId} {m k v:AV} {h':Hp} (hf:amapUpdate P tb h t m k v=some h'):h.n≤h'.n:=by
 unfold amapUpdate at hf;simp only [Bool.cond_eq_ite] at hf
 repeat' (split at hf)
 all_goals first|(cases hf;done)|(cases hf;exact Nat.le_refl _)
theorem anext_n {a v:AV} {h':Hp} (hf:anext h a=some (v,h')):h.n≤h'.n:=by
 unfold anext at hf;simp only [Bool.cond_eq_ite] at hf
 repeat' (split at hf)
 all_goals first|(cases hf;done)|(cases hf;exact Nat.le_refl _)
theorem aappend_n {t tx:TypeId} {s x v:AV} {h':Hp} (hf:aappend tb xt h t tx s x=some (v,h')):h.n≤h'.n:=by
 unfold aappend at hf;simp only [Bool.cond_eq_ite] at hf
 repeat' (split at hf)
 all_goals first|(cases hf;done)|(cases hf;exact Nat.le_refl _)|(cases hf;exact Hp.n_new _ _)|(cases hf;exact Hp.n_new (h.del _) _)
theorem aappendZ_n {t tx:TypeId} {s x v:AV} {h':Hp} (hf:aappendZ tb h t tx s x=some (v,h')):h.n≤h'.n:=by
 unfold aappendZ at hf;simp only [Bool.cond_eq_ite] at hf
 repeat' (split at hf)
 all_goals first|(cases hf;done)|(cases hf;exact Hp.n_new _ _)
theorem acopy_n {t:TypeId} {s x v:AV} {h':Hp} (hf:acopy tb xt h t s x=some (v,h')):h.n≤h'.n:=by
 unfold acopy at hf;simp only [Bool.cond_eq_ite] at hf
 repeat' (split at hf)
 all_goals first|(cases hf;done)|(cases hf;exact Nat.le_refl _)
theorem aclear_n {t:TypeId} {s:AV} {h':Hp} (hf:aclear tb h t s=some h'):h.n≤h'.n:=by
 unfold aclear at hf;simp only [Bool.cond_eq_ite] at hf
 repeat' (split at hf)
 all_goals first|(cases hf;done)|(cases hf;exact Nat.le_refl _)
theorem abuiltin_n {b:Builtin} {ts:List TypeId} {as:List AV} {v:AV} {h':Hp} (hf:abuiltin P tb xt b ts as h=some (v,h')):h.n≤h'.n:=by
 unfold abuiltin at hf
 repeat' (split at hf)
 all_goals first|(cases hf;done)|(cases hf;exact Nat.le_refl _)|exact aappend_n hf|exact aappendZ_n hf|exact acopy_n hf|(rename_i hr;cases hf;exact aappend_n hr)|(rename_i hr;cases hf;exact aclear_n hr)
theorem aop_n {ev:Operand→AV} {op:Op} {v:AV} {h':Hp} (hf:aop P tb xt ev op h=some (v,h')):h.n≤h'.n:=by
 rw [aop_eq] at hf;unfold aopS at hf;simp only [Bool.cond_eq_ite] at hf;split at hf
 case h_9=>split at hf;· rename_i h1 hv;cases hf;exact astore_n hv
           ·cases hf
 case h_24=>split at hf;· rename_i h1 hv;cases hf;exact amapUpdate_n hv
            ·cases hf
 case h_25=>split at hf;· rename_i h1 hv;cases hf;exact amapUpdate_n hv
            ·cases hf
 case h_27=>exact anext_n hf
 case h_30=>split at hf;· exact abuiltin_n hf
            ·cases hf
 all_goals
  repeat' (split at hf)
  all_goals first|(cases hf;done)|(cases hf;exact Nat.le_refl _)|(cases hf;exact Hp.n_new _ _)
def ORh:OR→Hp
 | .ok _ h=>h
 | .pan _ h=>h
theorem evOp_n (hs:Sound P xt call) {o:Oper} {tm:T AV} {r:OR} (he:evOp P tb xt call o tm h=some r):h.n≤(ORh r).n:=by
 rw [evOp_eq] at he;unfold evOpS at he;split at he
 ·split at he
  ·split at he
   ·rename_i v h' hc;cases he;exact (hs _ _ _ _ _ hc).1
   ·rename_i v h' hc;cases he;exact (hs _ _ _ _ _ hc).1
   ·cases he
  ·split at he
   ·rename_i v h' hc;cases he;exact (hs _ _ _ _ _ hc).1
   ·rename_i v h' hc;cases he;exact (hs _ _ _ _ _ hc).1
   ·cases he
  ·split at he
   ·rename_i v h' hc;cases he;exact aop_n hc
   ·cases he
 ·repeat' (split at he)
  all_goals first|(cases he;done)|(cases he;exact Nat.le_refl _)
 ·cases he
 ·split at he
  ·rename_i v h' hc;cases he;exact aop_n hc
  ·cases he
theorem evOps_n (hs:Sound P xt call) {nt:Nat} (ops:Array Oper): ∀(ol:List Oper) (tm:T AV) (h:Hp) (x:Ex) (tm':T AV) (h':Hp),evOps P tb xt call nt ops ol tm h=some (x,tm',h')→h.n≤h'.n
 |[],tm,h,x,tm',h',he=>by simp only [evOps_nil] at he;cases he;exact Nat.le_refl _
 |o::ol,tm,h,x,tm',h',he=>by
  simp only [evOps_cons] at he;obtain ⟨_,he⟩:=cond_some he;cases hw:awanted ops o tm with
  |false=>
   rw [hw] at he;simp only [cond_false] at he;split at he
   ·cases he
   ·exact evOps_n hs ops ol _ _ _ _ _ he
  |true=>
   rw [hw] at he;simp only [cond_true] at he;split at he
   ·cases he
   ·rename_i v h1 h2;cases he;exact evOp_n hs h2
   ·rename_i v h1 h2;split at he
    ·cases he
    ·exact Nat.le_trans (evOp_n hs h2) (evOps_n hs ops ol _ _ _ _ _ he)
theorem Post.trans {c c1:Ctx} {h h1:Hp} {w w1:World} (s:Stp lim c h w c1 h1 w1) {nt:Nat} {ds:List Deferred} {x:Ex} {tm':T AV} {h':Hp} {e:Exit} {a':Act} {w':World}
  (p:Post lim c1 h1 w1 nt ds x tm' h' e a' w'):Post lim c h w nt ds x tm' h' e a' w':=by
 obtain ⟨c',h1,h2⟩:=p;exact ⟨c',s.trans h1,h2⟩
theorem put_defers (a:Act) (d:Option Tmp) (v:Value):(a.put d v).defers=a.defers:=by cases d<;>rfl
theorem evOp_ok (htb:Tb P tb) (hs:Sound P xt call) {nt:Nat} {r:Option Nat} {o:Oper} {tm:T AV} {res:OR} (he:evOp P tb xt call o tm h=some res) (hlim:(ORh res).n≤lim)
  {a:Act} (g:Good lim c h w) (hxt: ∀b v,xt b=some v→c.ext b=some v) (ht:TR c nt tm a.tmps) {next:Act→World→Prop} {Q:Exit→Act→World→Prop}
  (hok: ∀v h' x w' c',res= .ok v h'→R c' v x→Stp lim c h w c' h' w'→next (a.put o.dst x) w')
  (hpan: ∀v h' x w' c',res= .pan v h'→R c' v x→Stp lim c h w c' h' w'→Q (.panic [{v:=x,recovered:=false}]) a w'):o.wpIn (Wd r) 0 P a w next Q:=by
 have hev:=fun x=>aeval_ok (a:=a) ht x;rw [evOp_eq] at he;unfold evOpS at he;split at he
 ·rename_i q hop;split at he
  ·rename_i f hq;have hcl:=hev f;have hag:=RL.map (aeval tm) a.eval hev q.args.toList;split at he
   ·rename_i v h' hc;cases he;refine wpIn_of_call hop hq (((hs _ _ _ _ _ hc).2 lim hlim c w _ _ g hxt hcl hag).mono fun e w' ⟨c',h1,h2⟩=> ?_);obtain ⟨x,rfl,hx⟩:=h2;exact hok v h' x w' c' rfl hx h1
   ·rename_i v h' hc;cases he;refine wpIn_of_call hop hq (((hs _ _ _ _ _ hc).2 lim hlim c w _ _ g hxt hcl hag).mono fun e w' ⟨c',h1,h2⟩=> ?_);obtain ⟨x,rfl,hx⟩:=h2;exact hpan v h' x w' c' rfl hx h1
   ·cases he
  ·rename_i recv name hq;have hag:=RL.cons (hev recv) (RL.map (aeval tm) a.eval hev q.args.toList);have hcl:R c (.val (.func (.method name) #[] #[])) (.func (.method name) #[] #[]):=by simp only [R]
   split at he
   ·rename_i v h' hc;cases he;refine wpIn_of_invoke hop hq (((hs _ _ _ _ _ hc).2 lim hlim c w _ _ g hxt hcl hag).mono fun e w' ⟨c',h1,h2⟩=> ?_);obtain ⟨x,rfl,hx⟩:=h2;exact hok v h' x w' c' rfl hx h1
   ·rename_i v h' hc;cases he;refine wpIn_of_invoke hop hq (((hs _ _ _ _ _ hc).2 lim hlim c w _ _ g hxt hcl hag).mono fun e w' ⟨c',h1,h2⟩=> ?_);obtain ⟨x,rfl,hx⟩:=h2;exact hpan v h' x w' c' rfl hx h1
   ·cases he
  ·split at he
   ·rename_i v h' hc;cases he;exact wpIn_of_OOK (aop_defer hc) (aop_ok htb g hxt (aeval tm) a.eval hev o hlim hc) fun x w' c' hx hst=>hok v h' x w' c' rfl hx hst
   ·cases he
 ·rename_i x hop;have hx:=hev x;have hsem:o.semAt (Wd r).round a.eval=(do pure (.value (←Instr.panic (a.eval x)))):=by
   rw [Oper.semAt_eq _ _ _ (by rw [hop];simp)];unfold execOp;simp only [hop]
  split at he
  ·rename_i t v hv;cases he;rw [hv] at hx;have hx':=hx;simp only [R] at hx;obtain ⟨y,hy,hr⟩:=hx;refine ⟨fun _ _=>trivial,?_⟩;rw [hsem,hy];simp only [Instr.panic,goPanic,Sem.run_bind,Sem.run_halt,Result.andThen_halt];rw [hy] at hx';exact hpan _ _ _ _ c rfl hx' (Stp.refl g)
  ·rename_i t v hv;cases he;rw [hv] at hx;have hx':=hx;simp only [R] at hx;refine ⟨fun _ _=>trivial,?_⟩;rw [hsem,hx];simp only [Instr.panic,goPanic,Sem.run_bind,Sem.run_halt,Result.andThen_halt];rw [hx] at hx';exact hpan _ _ _ _ c rfl hx' (Stp.refl g)
  ·cases he
 ·cases he
 ·split at he
  ·rename_i v h' hc;cases he;exact wpIn_of_OOK (aop_defer hc) (aop_ok htb g hxt (aeval tm) a.eval hev o hlim hc) fun x w' c' hx hst=>hok v h' x w' c' rfl hx hst
  ·cases he
theorem defaultR (c:Ctx):R c default undef:=by show R c (.val (.tuple #[])) undef;simp only [R];rfl
theorem evOps_ok (htb:Tb P tb) (hs:Sound P xt call) {nt:Nat} (ops:Array Oper) {r:Option Nat}: ∀(ol:List Oper) (l:List Nat) (tm:T AV) (h:Hp) (x:Ex) (tm':T AV) (h':Hp),l.map (ops[·]?)=ol.map some→
  evOps P tb xt call nt ops ol tm h=some (x,tm',h')→h'.n≤lim→ ∀(c:Ctx) (a:Act) (w:World),Good lim c h w→(∀b v,xt b=some v→c.ext b=some v)→TR c nt tm a.tmps→
  ∀Q:Exit→Act→World→Prop,(∀e a' w',Post lim c h w nt a.defers x tm' h' e a' w'→Q e a' w')→wpOpsIn (Wd r) 0 P ops Q l a w
 |[],l,tm,h,x,tm',h',hl,he,hlim,c,a,w,g,hxt,ht,Q,hQ=>by
  have:l=[]:=by simpa using hl
  subst this;simp only [evOps_nil] at he;cases he;exact hQ _ _ _ ⟨c,Stp.refl g,rfl,ht,rfl⟩
 |o::ol,l,tm,h,x,tm',h',hl,he,hlim,c,a,w,g,hxt,ht,Q,hQ=>by
  cases l with
  |nil=>simp at hl
  |cons i l=>
   simp only [List.map_cons,List.cons.injEq] at hl;obtain ⟨hi,hl⟩:=hl;simp only [evOps_cons] at he;obtain ⟨hgo,he⟩:=cond_some he;have hw:=awanted_ok ht ops o (guardOk_ok hgo);simp only [wpOpsIn,hi,hw];cases haw:awanted ops o tm with
   |false=>
    rw [haw] at he;simp only [cond_false] at he;simp only [Bool.false_eq_true,if_false];split at he
    ·cases he
    rename_i tm1 hp;refine ⟨fun _ _=>trivial,?_⟩;refine evOps_ok htb hs ops ol l tm1 h x tm' h' hl he hlim c _ w g hxt (putD_ok ht (defaultR c) hp) Q ?_;intro e a' w' hpost;rw [put_defers] at hpost;exact hQ e a' w' hpost
   |true=>
    rw [haw] at he;simp only [cond_true] at he;simp only [if_true];split at he
    ·cases he
    ·rename_i v h1 hop;cases he;refine evOp_ok htb hs hop hlim g hxt ht (fun _ _ _ _ _ e=>by cases e) (fun v' h'' y w' c' e hr hst=> ?_);cases e;exact hQ _ _ _ ⟨c',hst,⟨y,rfl,hr⟩,ht.mono hst.e,rfl⟩
    ·rename_i v h1 hop;split at he
     ·cases he
     rename_i tm1 hp;have hn:=evOps_n hs ops ol _ _ _ _ _ he;refine evOp_ok htb hs hop (Nat.le_trans hn hlim) g hxt ht (fun v' h'' y w' c' e hr hst=> ?_) (fun _ _ _ _ _ e=>by cases e);cases e;refine evOps_ok htb hs ops ol l tm1 h1 x tm' h' hl he hlim c' _ w' hst.good (fun b v hb=>hst.e.ext _ _ (hxt b v hb)) (putD_ok (ht.mono hst.e) hr hp) Q ?_;intro e a' w'' hpost;rw [put_defers] at hpost;exact hQ e a' w'' (hpost.trans hst)
theorem range_ops (ops:Array Oper):(List.range ops.size).map (ops[·]?)=ops.toList.map some:=by
 apply List.ext_getElem?
 intro j;simp only [List.getElem?_map];by_cases hj:j<ops.size
 ·rw [List.getElem?_range hj];simp [hj]
 ·have h1:(List.range ops.size)[j]? =none:=List.getElem?_eq_none (by simp;omega);have h2:ops.toList[j]? =none:=List.getElem?_eq_none (by simp;omega);rw [h1,h2];rfl
theorem region_ok (htb:Tb P tb) (hs:Sound P xt call) {nt:Nat} {ops:Array Oper} {r:Option Nat} {id:Nat} {tm:T AV} {x:Ex} {tm':T AV} {h':Hp}
  (he:evOps P tb xt call nt ops ops.toList tm h=some (x,tm',h')) (hlim:h'.n≤lim) {a:Act} (g:Good lim c h w) (hxt: ∀b v,xt b=some v→c.ext b=some v) (ht:TR c nt tm a.tmps)
  {Q:Exit→Act→World→Prop} (hQ: ∀e a' w',Post lim c h w nt a.defers x tm' h' e a' w'→Q e a' w'):(Code.region id ops false).wpIn (Wd r) 0 P Q a w:=
 wpIn_region (evOps_ok htb hs ops ops.toList _ tm h x tm' h' (range_ops ops) he hlim c a w g hxt ht Q hQ)
end
end Go.Ev
end
noncomputable section
namespace Go.Ev
open Go
def wpB (r:Option Nat) (P:Program) (c:Code) (Q:Exit→Act→World→Prop) (a:Act) (w:World):Prop:=
 ∀(b:Frame) (k:List Item) (cs:List Frame),b.roundOf=r→(P.funcs[b.fn]?).isSome=true→
  ∃e a' w',Q e a' w'∧ArrivesIn (Machine.fenced P Fence.wide) P (lone (b.atR a (.code c::k)) cs w) b k cs e a' w'
section
variable {r:Option Nat} {P:Program} {Q:Exit→Act→World→Prop} {a:Act} {w:World}
theorem calmB (m:Machine):m.fenced P Fence.wide:=fenced_wide P m
theorem oneB {m m':Machine} (h:step P m= .next m'):StepsIn (Machine.fenced P Fence.wide) P m m':= .one (calmB m) h
theorem wpB_of {c:Code} (h:c.wpIn (Wd r) 0 P Q a w):wpB r P c Q a w:=fun b k cs hro _=>h b k cs hro trivial (fun _ h=>by simp [Wd,Fence.wide] at h)
theorem wpB_mono {c:Code} {Q':Exit→Act→World→Prop} (h:wpB r P c Q a w) (hq: ∀e a w,Q e a w→Q' e a w):wpB r P c Q' a w:=
 fun b k cs hro hb=>let ⟨e,a',w',q,s⟩:=h b k cs hro hb;⟨e,a',w',hq _ _ _ q,s⟩
theorem wpB_skip (h:Q .normal a w):wpB r P .skip Q a w:=wpB_of (wpIn_skip h)
theorem wpB_label {l:Nat} (h:Q .normal a w):wpB r P (.label l) Q a w:=wpB_of (wpIn_label h)
theorem wpB_exit {id:Nat} (h:Q (.exit id) a w):wpB r P (.exit id) Q a w:=wpB_of (wpIn_exit h)
theorem wpB_goto {l:Nat} (h:Q (.goto l) a w):wpB r P (.goto l) Q a w:=wpB_of (wpIn_goto h)
theorem wpB_ret (h:Q .ret a w):wpB r P .ret Q a w:=wpB_of (wpIn_ret h)
theorem passB {x:Item} {k:List Item} {cs:List Frame} {m m':Machine} {b:Frame} {e:Exit} {a':Act} {w':World} (hs:step P m= .next m') (hx:x.plain=true) (he:e≠ .normal)
  (h:ArrivesIn (Machine.fenced P Fence.wide) P m' b (x::k) cs e a' w'):ArrivesIn (Machine.fenced P Fence.wide) P m b k cs e a' w':=
 .of_steps (oneB hs) (.pass (x:=x) hx (fun _ _=> .inl he) h)
theorem wpB_seq {x y:Code} (h:wpB r P x (Exit.then (wpB r P y Q) Q) a w):wpB r P (.seq x y) Q a w:=by
 intro b k cs hro hb;obtain ⟨e,a₁,w₁,hq,harr⟩:=h b (.code y::k) cs hro hb;cases e with
 |normal=>
  obtain ⟨e₂,a₂,w₂,hq₂,harr₂⟩:=hq b k cs hro hb;exact ⟨e₂,a₂,w₂,hq₂,.of_steps (.head (calmB _) stepR_seq harr) harr₂⟩
 |exit id=>exact ⟨_,a₁,w₁,hq,passB (x:= .code y) stepR_seq rfl (by simp) harr⟩
 |goto l=>exact ⟨_,a₁,w₁,hq,passB (x:= .code y) stepR_seq rfl (by simp) harr⟩
 |ret=>exact ⟨_,a₁,w₁,hq,passB (x:= .code y) stepR_seq rfl (by simp) harr⟩
 |panic ch=>exact ⟨_,a₁,w₁,hq,passB (x:= .code y) stepR_seq rfl (by simp) harr⟩
 |outgrown=>exact ⟨_,a₁,w₁,hq,passB (x:= .code y) stepR_seq rfl (by simp) harr⟩
theorem wpB_cond {c:Operand} {x y:Code} {t:Bool} (hc:a.eval c= .bool t) (h:wpB r P (if t then x else y) Q a w):wpB r P (.cond c x y) Q a w:=
 fun b k cs hro hb=>let ⟨e,a',w',q,s⟩:=h b k cs hro hb;⟨e,a',w',q,.of_steps (oneB (stepR_cond hc)) s⟩
theorem wpB_block {id:Nat} {c:Code} (h:wpB r P c (Exit.inBlock id Q) a w):wpB r P (.block id c) Q a w:=by
 intro b k cs hro hb;obtain ⟨e,a₁,w₁,hq,harr⟩:=h b (.inBlock id::k) cs hro hb;cases e with
 |normal=>exact ⟨.normal,a₁,w₁,hq,.head (calmB _) stepR_block (StepsIn.trans harr (oneB stepR_inBlock))⟩
 |exit id'=>
  by_cases hid:id'=id
  ·simp only [Exit.inBlock,hid,if_true] at hq;exact ⟨.normal,a₁,w₁,hq,.head (calmB _) stepR_block (harr.1 k (by simp [exitTo,hid]))⟩
  ·simp only [Exit.inBlock,hid,if_false] at hq;have hne:(id==id')=false:=by simp;exact fun h=>hid h.symm
   have hx:exitTo id' (.inBlock id::k)=exitTo id' k:=by simp [exitTo,hne]
   exact ⟨.exit id',a₁,w₁,hq,fun k' hk=> .head (calmB _) stepR_block (harr.1 k' (by rw [hx];exact hk)),
    fun hr' hk=>let ⟨k₁,h1,h2⟩:=harr.2 hr' (by rw [hx];exact hk);⟨k₁,h1,.head (calmB _) stepR_block h2⟩⟩
 |goto l=>
  have hx:gotoIn l (.inBlock id::k)=gotoIn l k:=by simp [gotoIn]
  exact ⟨_,a₁,w₁,hq,fun k' hk=> .head (calmB _) stepR_block (harr.1 k' (by rw [hx];exact hk)),
   fun hr' hk=>let ⟨k₁,h1,h2⟩:=harr.2 hr' (by rw [hx];exact hk);⟨k₁,h1,.head (calmB _) stepR_block h2⟩⟩
 |ret=>exact ⟨_,a₁,w₁,hq,.of_steps (oneB stepR_block) harr⟩
 |panic ch=>exact ⟨_,a₁,w₁,hq,.of_steps (oneB stepR_block) harr⟩
 |outgrown=>exact ⟨_,a₁,w₁,hq,.of_steps (oneB stepR_block) harr⟩
theorem wpB_scope {c:Code} (h:wpB r P c (Exit.noGoto Q) a w):wpB r P (.scope c) Q a w:=by
 intro b k cs hro hb;have s0:step P (lone (b.atR a (.code (.scope c)::k)) cs w)= .next (lone (b.atR a (.code c:: .inScope c::k)) cs w):=step_lone_go (by simp [stepG,stepG.exec,Frame.atR]);obtain ⟨e,a₁,w₁,hq,harr⟩:=h b (.inScope c::k) cs hro hb;cases e with
 |normal=>
  have s1:step P (lone (b.atR a₁ (.inScope c::k)) cs w₁)= .next (lone (b.atR a₁ k) cs w₁):=step_lone_go (by simp [stepG,stepG.exec,Frame.atR]);exact ⟨.normal,a₁,w₁,hq,.head (calmB _) s0 (StepsIn.trans harr (oneB s1))⟩
 |exit id'=>
  have hx:exitTo id' (.inScope c::k)=exitTo id' k:=by simp [exitTo]
  exact ⟨.exit id',a₁,w₁,hq,fun k' hk=> .head (calmB _) s0 (harr.1 k' (by rw [hx];exact hk)),
   fun hr' hk=>let ⟨k₁,h1,h2⟩:=harr.2 hr' (by rw [hx];exact hk);⟨k₁,h1,.head (calmB _) s0 h2⟩⟩
 |goto l=>exact hq.elim
 |ret=>exact ⟨_,a₁,w₁,hq,.of_steps (oneB s0) harr⟩
 |panic ch=>exact ⟨_,a₁,w₁,hq,.of_steps (oneB s0) harr⟩
 |outgrown=>exact ⟨_,a₁,w₁,hq,.of_steps (oneB s0) harr⟩
def roundsB (r:Option Nat) (P:Program) (c:Code) (Q:Exit→Act→World→Prop):Nat→Act→World→Prop
 |0,_,_=>False
 |m+1,a,w=>wpB r P c (Exit.then (roundsB r P c Q m) Q) a w
theorem roundsB_succ {c:Code} {m:Nat}:roundsB r P c Q (m+1) a w=wpB r P c (Exit.then (roundsB r P c Q m) Q) a w:=rfl
theorem wpB_loop {c:Code} (m:Nat) (h:roundsB r P c Q m a w):wpB r P (.loop c) Q a w:=by
 intro b k cs hro hb;have key: ∀m a w,roundsB r P c Q m a w→
   ∃e a' w',Q e a' w'∧ArrivesIn (Machine.fenced P Fence.wide) P (lone (b.atR a (.code c:: .inLoop c::k)) cs w) b k cs e a' w':=by
  intro m;induction m with
  |zero=>intro a w h;exact h.elim
  |succ m ih=>
   intro a w h;obtain ⟨e,a₁,w₁,hq,harr⟩:=h b (.inLoop c::k) cs hro hb;cases e with
   |normal=>
    obtain ⟨e₂,a₂,w₂,hq₂,harr₂⟩:=ih a₁ w₁ hq;exact ⟨e₂,a₂,w₂,hq₂,.of_steps (StepsIn.trans harr (oneB stepR_inLoop)) harr₂⟩
   |exit id=>exact ⟨_,a₁,w₁,hq,.pass (x:= .inLoop c) rfl (fun _ _=> .inl (by simp)) harr⟩
   |goto l=>exact ⟨_,a₁,w₁,hq,.pass (x:= .inLoop c) rfl (fun _ _=> .inl (by simp)) harr⟩
   |ret=>exact ⟨_,a₁,w₁,hq,.pass (x:= .inLoop c) rfl (fun _ _=> .inl (by simp)) harr⟩
   |panic ch=>exact ⟨_,a₁,w₁,hq,.pass (x:= .inLoop c) rfl (fun _ _=> .inl (by simp)) harr⟩
   |outgrown=>exact ⟨_,a₁,w₁,hq,.pass (x:= .inLoop c) rfl (fun _ _=> .inl (by simp)) harr⟩
 obtain ⟨e,a',w',hq,harr⟩:=key m a w h;exact ⟨e,a',w',hq,.of_steps (oneB stepR_loop) harr⟩
def rangeB (r:Option Nat) (P:Program) (l:Nat) (Q:Exit→Act→World→Prop) (a':Act):Ending→World→Prop
 | .returned _,w₃=> ∃jump w₄,(Instr.endLoop l).run P w₃= .ok jump w₄∧(match jump with
   |none=>Q .normal a' w₄
   |some c=>wpB r P c Q a' w₄)
 | .panicked chain,w₃=>Q (.panic chain) a' w₃
 | .outgrown,_=>LetsOut Q
theorem wpB_range {g:Operand} {ps:Array Tmp} {assign body:Code}
  (h: ∀fn,(P.funcs[fn]?).isSome=true→ ∃(l:Nat) (mark:List Deferred) (w₁:World) (d:Deferred) (w₁':World) (f:FuncId) (args:Array Value) (w₂:World),
   (Instr.enterLoop fn a.tmps ps assign body r).run P w= .ok (l,mark) w₁∧(resolve a.eval (rangeCall g l) 0).run P w₁= .ok d w₁'∧
   (invoke d.target d.args).run P w₁'= .ok (.enter f args) w₂∧CallsIn Fence.wide 0 P f args w₂ (rangeB r P l Q {a with defers:=mark++a.defers})):
  wpB r P (.rangeFunc g ps assign body) Q a w:=by
 intro b k cs hro hb;obtain ⟨l,mark,w₁,d,w₁',f,args,w₂,he,hres,hinv,hF,hcall⟩:=h b.fn hb;rw [←hro] at he;have henter:=stepR_rangeFunc (P:=P) (b:=b) (a:=a) (k:=k) (cs:=cs) (w:=w) he hres hinv;obtain ⟨e,w₃,fr,hR,hsteps,hfn,hleave⟩:=hcall (b.atR {a with defers:=mark++a.defers} (.inRangeFunc l::k)::cs) (room_wide _);cases e with
 |outgrown=>
  obtain ⟨a₀,w₀,hq⟩:=hR;exact ⟨.outgrown,a₀,w₀,hq,.inr (Outgrown.of_steps (.one henter) hsteps)⟩
 |returned v=>
  obtain ⟨jump,w₄,hend,hj⟩:=hR;have sback:StepsIn (Machine.fenced P Fence.wide) P (lone (b.atR a (.code (.rangeFunc g ps assign body)::k)) cs w) (lone (b.atR {a with defers:=mark++a.defers} ((jump.map Item.code).toList++k)) cs w₄):=by
   refine .head (calmB _) henter (StepsIn.trans hsteps (.head (calmB _) ?_ (oneB (stepR_endRangeFunc hend))));rw [←finish_atR_inRangeFunc l v];exact step_leave_returned hleave
  cases jump with
  |none=>exact ⟨.normal,_,w₄,hj,sback⟩
  |some c=>
   obtain ⟨e',a'',w₅,hq,harr⟩:=hj b k cs hro hb;exact ⟨e',a'',w₅,hq,.of_steps sback harr⟩
 |panicked chain=>
  refine ⟨.panic chain,_,w₃,hR,.inRangeFunc l::k,.head (calmB _) henter (StepsIn.trans hsteps (oneB ?_))⟩;rw [←Frame.raise_atR];exact step_leave_panicked hleave
def roundPostB (P:Program) (l:Nat) (R:Ending→World→Prop):Exit→Act→World→Prop
 | .normal,_,w=> ∃v w',(Instr.endRound l none).run P w= .ok v w'∧R (.returned v) w'
 | .ret,_,w=> ∃v w',(Instr.endRound l (some .ret)).run P w= .ok v w'∧R (.returned v) w'
 | .exit id,_,w=> ∃v w',(Instr.endRound l (some (.exit id))).run P w= .ok v w'∧R (.returned v) w'
 | .goto t,_,w=> ∃v w',(Instr.endRound l (some (.goto t))).run P w= .ok v w'∧R (.returned v) w'
 | .panic chain,a,w=>a.defers=[]∧R (.panicked chain) w
 | .outgrown,_,_=>False
theorem roundB {l:Nat} {f:FuncId} {tmps:Array Value} {assign body:Code} {w:World} {R:Ending→World→Prop} (hF:(P.funcs[f]?).isSome=true)
  (h:wpB (some l) P assign (Exit.then (fun a₁ w₁=> ∃w₂,(Instr.beginRound l).run P w₁= .ok () w₂∧wpB (some l) P body (roundPostB P l R) a₁ w₂) (fun _ _ _=>False)) {tmps:=tmps,defers:=[]} w):
  RoundIn Fence.wide 0 P l f tmps assign body w R:=by
 refine ⟨trivial,fun c cs _=> ?_⟩
 let b:Frame:={(default:Frame) with fn:=f,kind:= .normal,roundOf:=some l}
 have hb0:Frame.round l f tmps assign body .normal=b.atR {tmps:=tmps,defers:=[]} [.code assign,.beginRound,.code body]:=by
  simp [Frame.round,Frame.atR,b]
 obtain ⟨e,a₁,w₁,hq,harr⟩:=h b [.beginRound,.code body] (c::cs) rfl hF;rw [←hb0] at harr;cases e with
 |normal=>
  obtain ⟨w₂,hbr,hbody⟩:=hq;have s1:StepsIn (Machine.fenced P Fence.wide) P (lone (b.atR a₁ [.beginRound,.code body]) (c::cs) w₁) (lone (b.atR a₁ [.code body]) (c::cs) w₂):=oneB (stepR_beginRound rfl hbr);obtain ⟨e₂,a₂,w₃,hq₂,harr₂⟩:=hbody b [] (c::cs) rfl hF;have s2:=StepsIn.trans harr s1;cases e₂ with
  |normal=>
   obtain ⟨v,w₄,hend,hR⟩:=hq₂;exact ⟨.returned v,w₄,hR,s2.trans (StepsIn.trans harr₂ (oneB (stepR_round_end rfl rfl hend)))⟩
  |ret=>
   obtain ⟨v,w₄,hend,hR⟩:=hq₂;obtain ⟨k₁,hs⟩:=harr₂.2 rfl;exact ⟨.returned v,w₄,hR,s2.trans (StepsIn.trans hs (oneB (stepR_round_ret rfl rfl hend)))⟩
  |exit id=>
   obtain ⟨v,w₄,hend,hR⟩:=hq₂;obtain ⟨k₁,hk,hs⟩:=harr₂.2 rfl rfl;exact ⟨.returned v,w₄,hR,s2.trans (StepsIn.trans hs (oneB (stepR_round_exit rfl rfl hk hend)))⟩
  |goto t=>
   obtain ⟨v,w₄,hend,hR⟩:=hq₂;obtain ⟨k₁,hk,hs⟩:=harr₂.2 rfl rfl;exact ⟨.returned v,w₄,hR,s2.trans (StepsIn.trans hs (oneB (stepR_round_goto rfl rfl hk hend)))⟩
  |panic chain=>
   obtain ⟨hd,hR⟩:=hq₂;obtain ⟨todo,hs⟩:=harr₂;obtain ⟨fn,hfn⟩:=Option.isSome_iff_exists.1 hF;exact ⟨.panicked chain,w₃,hR,s2.trans (StepsIn.trans hs (oneB (step_leave_panicked ⟨rfl,hd,fn,hfn⟩)))⟩
  |outgrown=>exact hq₂.elim
 |exit id=>exact hq.elim
 |goto t=>exact hq.elim
 |ret=>exact hq.elim
 |panic chain=>exact hq.elim
 |outgrown=>exact hq.elim
theorem callsB_marks {f:FuncId} {fn:Func} {c:Code} {args:Array Value} {R:Ending→World→Prop} (hf:P.funcs[f]? =some fn) (hb:fn.body=some c)
  (h:wpB none P c (bodyPostM Fence.wide 0 P fn R) {tmps:=args++Array.replicate (fn.ntmps - args.size) undef,defers:=[]} w):CallsIn Fence.wide 0 P f args w R:=by
 refine ⟨trivial,fun cs hr=> ?_⟩
 let b:Frame:={(default:Frame) with fn:=f,kind:= .normal,roundOf:=none}
 have henter:Frame.enter P f args .normal=b.atR {tmps:=args++Array.replicate (fn.ntmps - args.size) undef,defers:=[]} [.code c]:=by
  simp [Frame.enter,Frame.atR,hf,hb,b]
 obtain ⟨e,a',w',hq,harr⟩:=h b [] cs rfl (by show (P.funcs[f]?).isSome=true;rw [hf];rfl);rw [←henter] at harr;cases e with
 |normal=>
  obtain ⟨e',w'',fr',hR,hs,hfn,hl⟩:=leaves_stepsInM (n:=0) a'.defers .returning w' {b.atR a' [] with mode:= .returning} cs rfl rfl rfl hf rfl trivial hr hq;exact ⟨e',w'',fr',hR,ComesIn.of_steps (StepsIn.trans harr (oneB (stepR_end rfl))) hs,hfn,hl⟩
 |ret=>
  obtain ⟨todo,hs₀⟩:=harr.1 rfl;obtain ⟨e',w'',fr',hR,hs,hfn,hl⟩:=leaves_stepsInM (n:=0) a'.defers .returning w' {b.atR a' todo with mode:= .returning} cs rfl rfl rfl hf rfl trivial hr hq;exact ⟨e',w'',fr',hR,ComesIn.of_steps hs₀ hs,hfn,hl⟩
 |panic chain=>
  obtain ⟨todo,hs₀⟩:=harr;obtain ⟨e',w'',fr',hR,hs,hfn,hl⟩:=leaves_stepsInM (n:=0) a'.defers (.panicking chain) w' {b.atR a' todo with mode:= .panicking chain} cs rfl rfl rfl hf rfl trivial hr hq;exact ⟨e',w'',fr',hR,ComesIn.of_steps hs₀ hs,hfn,hl⟩
 |exit id=>exact hq.elim
 |goto l=>exact hq.elim
 |outgrown=>exact ⟨.outgrown,w',b,hq,harr.resolve_left (by simp [b]),rfl,trivial⟩
theorem callsB_defers {f:FuncId} {fn:Func} {c:Code} {args:Array Value} {R:Ending→World→Prop} (hf:P.funcs[f]? =some fn) (hb:fn.body=some c)
  (h:wpB none P c (bodyPostDIn Fence.wide 0 P fn R) {tmps:=args++Array.replicate (fn.ntmps - args.size) undef,defers:=[]} w):CallsIn Fence.wide 0 P f args w R:=by
 refine ⟨trivial,fun cs hr=> ?_⟩
 let b:Frame:={(default:Frame) with fn:=f,kind:= .normal,roundOf:=none}
 have henter:Frame.enter P f args .normal=b.atR {tmps:=args++Array.replicate (fn.ntmps - args.size) undef,defers:=[]} [.code c]:=by
  simp [Frame.enter,Frame.atR,hf,hb,b]
 obtain ⟨e,a',w',hq,harr⟩:=h b [] cs rfl (by show (P.funcs[f]?).isSome=true;rw [hf];rfl);rw [←henter] at harr;cases e with
 |normal=>
  obtain ⟨e',w'',fr',hR,hs,hfn,hl⟩:=leaves_stepsIn (n:=0) a'.defers .returning w' {b.atR a' [] with mode:= .returning} cs rfl rfl rfl hf rfl trivial hr hq;exact ⟨e',w'',fr',hR,ComesIn.of_steps (StepsIn.trans harr (oneB (stepR_end rfl))) hs,hfn,hl⟩
 |ret=>
  obtain ⟨todo,hs₀⟩:=harr.1 rfl;obtain ⟨e',w'',fr',hR,hs,hfn,hl⟩:=leaves_stepsIn (n:=0) a'.defers .returning w' {b.atR a' todo with mode:= .returning} cs rfl rfl rfl hf rfl trivial hr hq;exact ⟨e',w'',fr',hR,ComesIn.of_steps hs₀ hs,hfn,hl⟩
 |panic chain=>
  obtain ⟨todo,hs₀⟩:=harr;obtain ⟨e',w'',fr',hR,hs,hfn,hl⟩:=leaves_stepsIn (n:=0) a'.defers (.panicking chain) w' {b.atR a' todo with mode:= .panicking chain} cs rfl rfl rfl hf rfl trivial hr hq;exact ⟨e',w'',fr',hR,ComesIn.of_steps hs₀ hs,hfn,hl⟩
 |exit id=>exact hq.elim
 |goto l=>exact hq.elim
 |outgrown=>exact ⟨.outgrown,w',b,hq,harr.resolve_left (by simp [b]),rfl,trivial⟩
def wpSB (P:Program) (c:Code) (Q:Exit→Act→List Frame→World→Prop) (a:Act) (cs:List Frame) (w:World):Prop:=
 ∀(b:Frame) (k:List Item),b.kind= .deferred→b.roundOf=none→(P.funcs[b.fn]?).isSome=true→
  ∃e a' cs' w',cs'.length=cs.length∧Q e a' cs' w'∧ArrivesIn (Machine.fenced P Fence.wide) P (lone (b.atR a (.code c::k)) cs w) b k cs' e a' w'
theorem wpSB_of {c:Code} {Q:Exit→Act→List Frame→World→Prop} {cs:List Frame} (h:c.wpSIn Fence.wide 0 P Q a cs w):wpSB P c Q a cs w:=fun b k hk hro _=>h b k hk hro trivial (room_wide _)
theorem wpSB_of_wpB {c:Code} {Q:Exit→Act→List Frame→World→Prop} {cs:List Frame} (h:wpB none P c (fun e a' w'=>Q e a' cs w') a w):wpSB P c Q a cs w:=
 fun b k _ hro hF=>let ⟨e,a',w',q,s⟩:=h b k cs hro hF;⟨e,a',cs,w',rfl,q,s⟩
theorem wpSB_seq {x y:Code} {Q:Exit→Act→List Frame→World→Prop} {cs:List Frame} (h:wpSB P x (Exit.thenS (wpSB P y Q) Q) a cs w):wpSB P (.seq x y) Q a cs w:=by
 intro b k hk hro hF;obtain ⟨e,a₁,cs₁,w₁,hl,hq,harr⟩:=h b (.code y::k) hk hro hF;cases e with
 |normal=>
  obtain ⟨e₂,a₂,cs₂,w₂,hl₂,hq₂,harr₂⟩:=hq b k hk hro hF;exact ⟨e₂,a₂,cs₂,w₂,hl₂.trans hl,hq₂,.of_steps (.head (calmB _) stepR_seq harr) harr₂⟩
 |exit id=>exact ⟨_,a₁,cs₁,w₁,hl,hq,passB (x:= .code y) stepR_seq rfl (by simp) harr⟩
 |goto l=>exact ⟨_,a₁,cs₁,w₁,hl,hq,passB (x:= .code y) stepR_seq rfl (by simp) harr⟩
 |ret=>exact ⟨_,a₁,cs₁,w₁,hl,hq,passB (x:= .code y) stepR_seq rfl (by simp) harr⟩
 |panic ch=>exact ⟨_,a₁,cs₁,w₁,hl,hq,passB (x:= .code y) stepR_seq rfl (by simp) harr⟩
 |outgrown=>exact ⟨_,a₁,cs₁,w₁,hl,hq,passB (x:= .code y) stepR_seq rfl (by simp) harr⟩
theorem callsDB {f:FuncId} {fn:Func} {c:Code} {args:Array Value} {u:FrameMode} {R:Ending→FrameMode→World→Prop} (hf:P.funcs[f]? =some fn) (hb:fn.body=some c)
  (h: ∀(c₀:Frame) (cs:List Frame),c₀.mode=u→wpSB P c (bodyPostS P fn c₀ cs R) {tmps:=args++Array.replicate (fn.ntmps - args.size) undef,defers:=[]} (c₀::cs) w):
  CallsDIn Fence.wide 0 P f args u w R:=by
 refine ⟨trivial,fun c₀ cs hu _=> ?_⟩
 let b:Frame:={(default:Frame) with fn:=f,kind:= .deferred,roundOf:=none}
 have henter:Frame.enter P f args .deferred=b.atR {tmps:=args++Array.replicate (fn.ntmps - args.size) undef,defers:=[]} [.code c]:=by
  simp [Frame.enter,Frame.atR,hf,hb,b]
 obtain ⟨e,a',cs',w',hl,hq,harr⟩:=h c₀ cs hu b [] rfl rfl (by show (P.funcs[f]?).isSome=true;rw [hf];rfl);rw [←henter] at harr;cases e with
 |normal=>
  obtain ⟨hd,u',rfl,v,hr,hR⟩:=hq;exact ⟨.returned v,u',w',_,hR,StepsIn.trans harr (oneB (stepR_end rfl)),rfl,rfl,rfl,hd,fn,hf,hr⟩
 |ret=>
  obtain ⟨hd,u',rfl,v,hr,hR⟩:=hq;obtain ⟨todo,hs⟩:=harr.1 rfl;exact ⟨.returned v,u',w',_,hR,hs,rfl,rfl,rfl,hd,fn,hf,hr⟩
 |panic chain=>
  obtain ⟨hd,u',rfl,hR⟩:=hq;obtain ⟨todo,hs⟩:=harr;exact ⟨.panicked chain,u',w',_,hR,hs,rfl,rfl,rfl,hd,fn,hf⟩
 |exit id=>exact hq.elim
 |goto l=>exact hq.elim
 |outgrown=>
  obtain ⟨u',hR⟩:=hq;exact ⟨.outgrown,u',w',b,hR,harr.resolve_left (by simp [b]),rfl,rfl,trivial⟩
end
end Go.Ev
end
