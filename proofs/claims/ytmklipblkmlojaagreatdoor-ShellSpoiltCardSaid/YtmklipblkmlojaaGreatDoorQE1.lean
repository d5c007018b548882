/- Parts of the proof, joined by a program. -/
import Derived.Test.YtmklipblkmlojaaGreatDoorQG
import Derived.Test.YtmklipblkmlojaaGreatDoorQH
import Derived.Test.YtmklipblkmlojaaGreatDoorQC
import Derived.Test.YtmklipblkmlojaaGreatDoorQI
set_option linter.all false
open Nat renaming le_refl → xZZ, ble_eq → xZW
open List renaming isPrefixOf → xZY, take_of_length_le → xZX
namespace Go.Proofs.Kn
open Go Go.Ev
set_option maxRecDepth 100000
structure Mp.Ones (m:Mp):Prop where
 c:Go.Ev.one m.vc=true
 g:Go.Ev.one m.vg=true
 k:Go.Ev.one m.vk=true
 p:Go.Ev.one m.vp=true
abbrev Mp.W (m:Mp):Nat:=(m.cells.headD []).length
theorem Mp.At.ones {m:Mp} {xt:Addr->Option Value} {h:Hp} (a:m.At xt h):m.Ones:=⟨a.cells.one,a.gs.one,a.ks.one,a.ps.one⟩
theorem qE (h:Hp):j7 tb h 27=some (.ptr h.n 0,h.new (.cells (([(.slice none 0 0),(.int .i64 0),(.int .i64 0),(.slice none 0 0),(.slice none 0 0),(.slice none 0 0)]:List Value).map .val) 27)):=yH tg27 rfl
theorem qP (h:Hp):j7 tb h 87=some (.ptr h.n 0,h.new (.cells (([(.int .i64 0),(.int .i64 0),(.int .i64 0),(.int .i64 0)]:List Value).map .val) 87)):=yH uE rfl
theorem qI (h:Hp):j7 tb h 160=some (.ptr h.n 0,h.new (.cells (([(.int .i64 0),(.int .i64 0)]:List Value).map .val) 160)):=yH tg225 rfl
theorem qU (h:Hp):j7 tb h 90=some (.ptr h.n 0,h.new (.cells (([(.int .i64 0),(.int .i64 0),(.bool false)]:List Value).map .val) 90)):=yH uJ rfl
theorem qD (a b:AV):zL (.tup [a,b]) 0=some a:=rfl
theorem qC (a b:AV):zL (.tup [a,b]) 1=some b:=rfl
theorem u6 {E:Env} {tm:T AV} {h:Hp} {K:OR->Prop} {dst:Option Tmp} {ty:TypeId} {ps:String} {af:Array Edge} {g:Option (Nat×Bool)} {x:Operand} {t t':TypeId} {ok:Bool}:WOp E ⟨dst,.typeAssert x t' t ok,ty,ps,af,g⟩ tm h K=pB h (vL E.tb (qH tm x) t ok) K:=by simp only [WOp,jS,aop,z7]
end Go.Proofs.Kn
namespace Go.Proofs.Kn
open Go Go.Ev
set_option maxRecDepth 100000
theorem iOk_all {n:Nat} (h1:100<=n) (h2:n<1000):iOk n=true:=by
 have key: ∀k,((List.range 100).all fun i=>iOk (i+k))=true->k<=n->n<k+100->iOk n=true:=fun k h a b=>by
  have:=List.all_eq_true.1 h (n - k) (by simp;omega)
  rwa [Nat.sub_add_cancel a] at this
 by_cases a1:n<200
 ·exact key 100 i1 h1 (by omega)
 by_cases a2:n<300
 ·exact key 200 i2 (by omega) (by omega)
 by_cases a3:n<400
 ·exact key 300 i3 (by omega) (by omega)
 by_cases a4:n<500
 ·exact key 400 i4 (by omega) (by omega)
 by_cases a5:n<600
 ·exact key 500 i5 (by omega) (by omega)
 by_cases a6:n<700
 ·exact key 600 i6 (by omega) (by omega)
 by_cases a7:n<800
 ·exact key 700 i7 (by omega) (by omega)
 by_cases a8:n<900
 ·exact key 800 i8 (by omega) (by omega)
 exact key 900 i9 (by omega) (by omega)
def ctxI:Ctx:=⟨fun _=>False,fun _=>0,fun _=>0,xtI⟩
theorem good_I (lim:Nat) (w:World) (h: ∀a v,xtI a=some v->w.cell? a=some v):Go.Ev.Good lim ctxI {t:= .e,n:=0} w:=
 ⟨fun _ _ _ h=>h,fun _ _ h=>by simp at h,fun _ _ _ _ h=>by simp at h,fun a v e=>⟨h a v e,fun _ _ h=>by simp at h⟩⟩
theorem ft88E:(E xtI).ft.get 88=some Tryz.f88:=by kernel_rfl
theorem ft88 (xt:Addr->Option Value):(SE xt).ft.get 88=some Tryz.f88:=by kernel_rfl
theorem nt88:Tryz.f88.ntmps=5:=by kernel_rfl
theorem itoa_big {n:Nat} (h1:100<=n) (h2:n<1000) (w:World) (h: ∀a v,xtI a=some v->w.cell? a=some v):CallsIn Fence.wide 0 Tryz.prog 88 #[.int .i64 (n:Int)] w fun e w'=>e= .returned (.string (bs (dec n)))/\RowKit.Below w.heap.size w w':=by
 obtain ⟨st,q1,q2,q3⟩:=iFine_ok (iOk_all h1 h2);have hs:SemC (E xtI) none bodyI (stI n) .ret st:=SemC.of (zR xtI 100000 100).1 q1;have e0:stI n={tm:=argsTo [.val (.int .i64 (n:Int))] 0 .e,nt:=([.val (.int .i64 (n:Int))]:List AV).length+(Tryz.f88.ntmps - ([.val (.int .i64 (n:Int))]:List AV).length),h:={t:= .e,n:=0},mks:=[]}:=by rw [nt88];rfl
 rw [e0] at hs;obtain ⟨_,hc⟩:=SemC.enter (ftok xtI) wO ft88E bodyI_is hs (by rw [q2];rfl) (.inr rfl) q3;refine (hc st.h.n (xZZ _) ctxI w [.int .i64 (n:Int)] (good_I _ w h) (fun _ _ e=>e) (by simp [RL,R])).mono ?_;rintro e w' ⟨c',hst,y,rfl,hy⟩;refine ⟨?_,⟨hst.os,hst.tape,hst.output,hst.size,fun k hk=>hst.fr k hk (fun _ _ h=>by simp at h)⟩⟩;simp only [zB,sv,R] at hy;rw [hy]
theorem qBe {i:Nat} (hi:i<100):Lib.decDigits i=dec i:=by
 have: ∀i:Fin 100,Lib.decDigits i.val=dec i.val:=by decide+kernel
 exact this ⟨i,hi⟩
theorem qAD (xt:Addr->Option Value) (hx:Lx xt) (h:Hp) (n:Nat) (hn:n<1000) {K:CR->Hp->Prop} (hk: ∀k,h.n<k->K (.ret (sv (dec n))) (h.up k)):FnA (SE xt) 88 [.val (.int .i64 (n:Int))] h K:=by
 refine FnA.calm (v:= .ret (sv (dec n))) ⟨_,h,⟨xZZ _,⟨_,ft88 xt,rfl⟩,fun lim _ c w args' g hxt ha=> ?_⟩,rfl,Fr.refl (xZZ _)⟩ hk;have:args'=[.int .i64 (n:Int)]:=by simpa [RL,R] using ha
 subst this;by_cases hs:n<100
 ·refine (callsIn_wide.2 (Tryz.strconv_Itoa_small n hs w)).mono fun e w' ⟨h1,h2⟩=>⟨c,?_,_,h1,by simp only [sv,R];rw [qBe hs];rfl⟩;rw [h2];exact Stp.refl g
 ·refine (itoa_big (by omega) hn w fun a v e=>(g.ext a v (hxt a v (hx.p a v e))).1).mono fun e w' ⟨h1,h2⟩=>⟨c,Stp.below g h2,_,h1,by simp only [sv,R]⟩
end Go.Proofs.Kn
noncomputable section
namespace Go.Proofs.Kn
open Go Go.Ev
set_option maxRecDepth 100000
def w9 (x:UInt8):List (List UInt8)->List (List UInt8)
 |[]=>[[x]]
 |p::r=>(x::p)::r
def spl (c:UInt8):List UInt8->List (List UInt8)
 |[]=>[[]]
 |x::l=>if x=c then []::spl c l else w9 x (spl c l)
theorem gO (c:UInt8): ∀l,spl c l≠[]
 |[]=>by simp [spl]
 |x::l=>by
  simp only [spl];split
  ·simp
  ·cases spl c l<;>simp [w9]
theorem qAG (c x:UInt8) (l:List UInt8) (h:x≠c):Lib.index (x::l) [c]=if Lib.index l [c]== -1 then -1 else Lib.index l [c]+1:=by
 have hp:([c]:List UInt8).isPrefixOf (x::l)=false:=by simp [xZY,Ne.symm h]
 rw [Lib.index,hp];simp
theorem qAl (c:UInt8): ∀s:List UInt8,Lib.splitK [c] 0 (Lib.count s [c]) s=spl c s
 |[]=>by rw [Lib.count_miss (by simp [Lib.index])];rfl
 |x::l=>by
  have ih:=qAl c l;by_cases hx:x=c
  ·subst hx;have hi:Lib.index (x::l) [x]=0:=by rw [Lib.index];simp [xZY]
   rw [Lib.count_cons_eq,Nat.add_comm,Lib.splitK,hi];simp only [spl,if_true];rw [<-ih];rfl
  ·rw [Lib.count_cons_ne x c l hx];simp only [spl,if_neg hx];rw [<-ih];by_cases hm:Lib.index l [c]= -1
   ·rw [Lib.count_miss hm];rfl
   ·have hge:=Lib.index_ge l [c];obtain ⟨j,hj⟩: ∃j:Nat,Lib.index l [c]=j:=⟨(Lib.index l [c]).toNat,by omega⟩;have hc:=Lib.count_hit (by simp) hj;obtain ⟨k,hk⟩: ∃k,Lib.count l [c]=k+1:=⟨_,by rw [hc,Nat.add_comm]⟩;have e0:((j:Int)== -1)=false:=by rw [beq_eq_false_iff_ne];omega
    have e1:(((j:Int)+1)== -1)=false:=by rw [beq_eq_false_iff_ne];omega
    have e2:((j:Int)+1).toNat=j+1:=by omega
    rw [hk,Lib.splitK,Lib.splitK,qAG c x l hx,hj,e0];simp only [Bool.false_eq_true,if_false,e1,e2,Int.toNat_natCast,w9,Nat.add_zero,List.take_succ_cons];rfl
theorem qAm (c:UInt8) (s:List UInt8):Lib.splitB (bs [c]) 0 (Lib.countB (bs s) (bs [c])) (bs s)=(spl c s).map bs:=by
 have h:=Lib.splitB_data (bs [c]) 0 (Lib.countB (bs s) (bs [c])) (bs s);have hc:Lib.countB (bs s) (bs [c])=Lib.count s [c]:=by show Lib.count (bs s).data.toList (bs [c]).data.toList=_;rw [zA,zA]
 rw [zA,zA,hc,qAl] at h;rw [hc,<-h,List.map_map];have:(bs∘fun x:ByteArray=>x.data.toList)=id:=by funext x;exact bs_self x
 rw [this,List.map_id]
theorem count_spl (c:UInt8) (s:List UInt8):Lib.countB (bs s) (bs [c])+1=(spl c s).length:=by
 rw [<-Lib.splitB_all (bs [c]) (by rw [y9];exact xZZ _) 0 _ (bs s) rfl,qAm,List.length_map]
theorem cut_spl (c:UInt8): ∀s:List UInt8,(Lib.cut s [c]).1=(spl c s).headD []
 |[]=>by simp [Lib.cut,Lib.index,spl]
 |x::l=>by
  have ih:=cut_spl c l;by_cases hx:x=c
  ·subst hx;have hi:Lib.index (x::l) [x]=0:=by rw [Lib.index];simp [xZY]
   simp [Lib.cut,hi,spl]
  ·simp only [spl,if_neg hx];have hge:=Lib.index_ge l [c];have hix:=qAG c x l hx;have hh:(w9 x (spl c l)).headD []=x::(spl c l).headD []:=by
    cases hs:spl c l with
    |nil=>exact absurd hs (gO c l)
    |cons p r=>rfl
   rw [hh,<-ih];by_cases hm:Lib.index l [c]= -1
   ·rw [hm] at hix;have hix:Lib.index (x::l) [c]= -1:=by simpa using hix
    simp [Lib.cut,hix,hm]
   ·obtain ⟨j,hj⟩: ∃j:Nat,Lib.index l [c]=j:=⟨(Lib.index l [c]).toNat,by omega⟩;have e0:((j:Int)== -1)=false:=by rw [beq_eq_false_iff_ne];omega
    rw [hj,e0] at hix;have hix:Lib.index (x::l) [c]=((j+1:Nat):Int):=by rw [hix];simp
    rw [Lib.cut,if_pos (by rw [hix];omega),Lib.cut,if_pos (by rw [hj];omega),hix,hj];rfl
theorem ft91 (xt:Addr->Option Value):(SE xt).ft.get 91=some Tryz.f91:=by kernel_rfl
theorem ft95 (xt:Addr->Option Value):(SE xt).ft.get 95=some Tryz.f95:=by kernel_rfl
theorem ft96 (xt:Addr->Option Value):(SE xt).ft.get 96=some Tryz.f96:=by kernel_rfl
theorem rl2 {c:Ctx} {a b:Value} {args:List Value} (h:RL c [.val a,.val b] args):args=[a,b]:=by simpa [RL,R] using h
theorem split_c (xt:Addr->Option Value) (hx:Lx xt) (h:Hp) (s:List UInt8) (hs:s.length<4294967281) (c:UInt8) {K:CR->Hp->Prop} (hk:K (.ret (.sl h.n 0 (spl c s).length 1)) (h.new (.cells ((spl c s).map sv) 9))):FnA (SE xt) 91 [sv s,sv [c]] h K:=by
 refine ⟨_,_,⟨by simp [Hp.new_n],⟨_,ft91 xt,rfl⟩,fun lim hlim ct w args' g hxt ha=> ?_⟩,hk⟩;obtain ⟨m,hm⟩:=hx.m;have:=rl2 ha;subst this;rw [Hp.new_n] at hlim;refine (callsIn_wide.2 (Tryz.strings_Split (bs s) (bs [c]) m w (by rw [y9];exact hs) (g.ext _ _ (hxt _ _ hm)).1 (by rw [y9];exact xZZ _))).mono fun e w' ⟨h1,h2⟩=> ?_;rw [qAm] at h2;rw [count_spl] at h1;have hl:(spl c s).length=(((spl c s).map bs).map Value.string).toArray.size:=by simp
 refine ⟨ct.new h.n w.heap.size (spl c s).length,?_,_,h1,?_⟩
 ·rw [h2];refine Stp.alloc g (by omega) _ _ _ ?_;simp only [RO];refine ⟨_,rfl,by simp,by simp,?_⟩;have: ∀(c':Ctx) (l:List (List UInt8)),RL c' (l.map sv) (l.map fun x=>Value.string (bs x)):=fun c' l=>by
   induction l with
   |nil=>simp [RL]
   |cons x l ih=>simp only [List.map_cons,RL,sv,R];exact ⟨_,_,rfl,rfl,ih⟩
  have e:((((spl c s).map bs).map Value.string).toArray.toList.take ((spl c s).map sv).length)=(spl c s).map fun x=>Value.string (bs x):=by
   rw [xZX (by simp)];simp [Function.comp_def]
  rw [e];exact this _ _
 ·simp only [R];exact ⟨.inr rfl,_,_,rfl,xZZ _,fun _=>by simp [Ctx.new],by simp [Ctx.new]⟩
theorem cut_c (xt:Addr->Option Value) (hx:Lx xt) (h:Hp) (s:List UInt8) (hs:s.length<4294967281) (c:UInt8) {K:CR->Hp->Prop} (hk: ∀n y z,h.n<n->K (.ret (.tup [sv ((spl c s).headD []),sv y,.val (.bool z)])) (h.up n)):FnA (SE xt) 95 [sv s,sv [c]] h K:=by
 refine FnA.calm (v:= .ret (.tup [sv (Lib.cut s [c]).1,sv (Lib.cut s [c]).2.1,.val (.bool (Lib.cut s [c]).2.2)])) ⟨_,h,⟨xZZ _,⟨_,ft95 xt,rfl⟩,fun lim _ ct w args' g hxt ha=> ?_⟩,rfl,Fr.refl (xZZ _)⟩ (fun n hn=>by rw [cut_spl];exact hk n _ _ hn);obtain ⟨m,hm⟩:=hx.m;have:=rl2 ha;subst this;refine (callsIn_wide.2 (Tryz.strings_Cut (bs s) (bs [c]) m w (by rw [y9];exact hs) (g.ext _ _ (hxt _ _ hm)).1)).mono fun e w' ⟨h1,n,h2⟩=>⟨ct,?_,_,h1,?_⟩
 ·rw [h2];exact Stp.below g ⟨rfl,rfl,rfl,xZZ _,fun _ _=>rfl⟩
 ·simp only [zA];simp only [R,RL,sv];exact ⟨[_,_,_],rfl,_,_,rfl,rfl,_,_,rfl,rfl,_,_,rfl,rfl,rfl⟩
theorem suffix_c (xt:Addr->Option Value) (h:Hp) (s p:List UInt8) (hs:s.length<=9223372036854775807) {K:CR->Hp->Prop} (hk: ∀n,h.n<n->K (.ret (.val (.bool (p.isSuffixOf s)))) (h.up n)):FnA (SE xt) 96 [sv s,sv p] h K:=by
 refine FnA.calm (v:= .ret (.val (.bool (p.isSuffixOf s)))) ⟨_,h,⟨xZZ _,⟨_,ft96 xt,rfl⟩,fun lim _ ct w args' g hxt ha=> ?_⟩,rfl,Fr.refl (xZZ _)⟩ hk;have:=rl2 ha;subst this;refine (callsIn_wide.2 (Tryz.strings_HasSuffix (bs s) (bs p) w (by rw [y9];exact hs))).mono fun e w' ⟨h1,h2⟩=>⟨ct,by rw [h2];exact Stp.refl g,_,h1,?_⟩;simp only [zA,Lib.hasSuffix,R]
theorem strs_sv: ∀xs:List (List UInt8),wZ (xs.map sv)=some (xs.map bs)
 |[]=>rfl
 |x::xs=>by simp only [List.map_cons,wZ,sv,strs_sv xs]
theorem join_a (xt:Addr->Option Value) (h:Hp) (v:AV) (N:Nat) (xs:List (List UInt8)) (sep:List UInt8) (o:OwnSl h N 1 9 v xs.length (xs.map sv)) (h0:0<xs.length) (h1:xs.length<=140737488355328) (h2:(Lib.join xs sep).length<=140737488355328) {K:CR->Hp->Prop} (hk:K (.ret (sv (Lib.join xs sep))) h):
  CallA (SE xt) (.val (.func (.func 89) #[] #[])) [v,sv sep] h K:=by
 rcases o with ⟨o1,_,_⟩|⟨b,rfl,o2,o3,o4,o5⟩
 ·omega
 have ej:qBV (xs.map bs) (bs sep)=Lib.join xs sep:=by
  simp only [qBV,List.map_map,zA];have:((fun x:ByteArray=>x.data.toList)∘bs)=id:=by funext x;exact zA x
  rw [this,List.map_id]
 have he:qAK h (.sl b 0 xs.length 1) (bs sep)=some (.ret (sv (Lib.join xs sep)),h):=by
  have b1:(Nat.beq 1 1 && Nat.blt 0 xs.length && Nat.ble xs.length 140737488355328)=true:=by simp [Nat.blt_eq,xZW];omega
  have b2:Nat.ble (0+xs.length) (xs.map sv).length=true:=by simp [xZW]
  have e1:((xs.map sv).drop 0).take xs.length=xs.map sv:=by rw [List.drop_zero];exact xZX (by simp)
  have b3:Nat.ble (Lib.join xs sep).length 140737488355328=true:=by rw [xZW];exact h2
  simp only [qAK,b1,o4,b2,e1,strs_sv,ej,b3,cond_true];rfl
 exact ⟨_,_,⟨xZZ _,fun lim _=>(qBW (xt:=xt) isJoin he lim).2⟩,hk⟩
end Go.Proofs.Kn
end
