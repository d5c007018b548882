/- Parts of the proof, joined by a program. -/
import Derived.Test.YtafhmammmgbdgaaGreatDoorQKe
import Derived.Test.YtafhmammmgbdgaaGreatDoorQKg
import Derived.Test.YtafhmammmgbdgaaGreatDoorQKf
set_option linter.all false
noncomputable section
namespace Go.Proofs.Kn
open Go Go.Ev
set_option maxRecDepth 100000
def ese_50:List EntR:=[ef0_0]
def ese_54:List EntR:=[ee0_0,ee0_1,ee0_2,ee0_3,ee1_0,ee1_1,ee1_2,ee1_3,ee2_0,ee2_1,ee3_0,ee3_1,ee4_0,ee4_1,ee5_0,ee5_1,ee6_0,ee6_1,ee6_2,ee7_0,ee7_1,ee7_2,ee8_0,ee8_1,ee8_2,ee9_0,ee9_1,ee9_2,ee9_3]
def ese_98:List EntR:=[ef1_0,ef1_1,ef1_2,ef1_3,ef1_4,ef2_0,ef2_1,ef2_2,ef2_3,ef3_0,ef3_1,ef3_2,ef3_3,ef4_0,ef4_1,ef4_2,ef4_3,ef5_0,ef5_1,ef5_2,ef5_3,ef6_0,ef6_1,ef6_2,ef6_3,ef7_0,ef7_1,ef7_2,ef7_3]
def tab_e:T (List EntR):=(.n .e none (.n .e none (.n (.n (.n (.n .e none (.n .e (some ese_98) .e)) none (.n .e (some ese_50) .e)) none .e) none (.n (.n .e none (.n .e (some ese_54) .e)) none .e))))
theorem ese_50_ok: ∀e∈ese_50,e.Holds Tryz.prog x0:=fun e he=>by
 simp only [ese_50,List.mem_cons,List.not_mem_nil,or_false] at he;subst he;exact ef0_0_ok
theorem ese_54_ok: ∀e∈ese_54,e.Holds Tryz.prog x0:=fun e he=>by
 simp only [ese_54,List.mem_cons,List.not_mem_nil,or_false] at he;rcases he with rfl|rfl|rfl|rfl|rfl|rfl|rfl|rfl|rfl|rfl|rfl|rfl|rfl|rfl|rfl|rfl|rfl|rfl|rfl|rfl|rfl|rfl|rfl|rfl|rfl|rfl|rfl|rfl|rfl
 ·exact ee0_0_ok
 ·exact ee0_1_ok
 ·exact ee0_2_ok
 ·exact ee0_3_ok
 ·exact ee1_0_ok
 ·exact ee1_1_ok
 ·exact ee1_2_ok
 ·exact ee1_3_ok
 ·exact ee2_0_ok
 ·exact ee2_1_ok
 ·exact ee3_0_ok
 ·exact ee3_1_ok
 ·exact ee4_0_ok
 ·exact ee4_1_ok
 ·exact ee5_0_ok
 ·exact ee5_1_ok
 ·exact ee6_0_ok
 ·exact ee6_1_ok
 ·exact ee6_2_ok
 ·exact ee7_0_ok
 ·exact ee7_1_ok
 ·exact ee7_2_ok
 ·exact ee8_0_ok
 ·exact ee8_1_ok
 ·exact ee8_2_ok
 ·exact ee9_0_ok
 ·exact ee9_1_ok
 ·exact ee9_2_ok
 ·exact ee9_3_ok
theorem ese_98_ok: ∀e∈ese_98,e.Holds Tryz.prog x0:=fun e he=>by
 simp only [ese_98,List.mem_cons,List.not_mem_nil,or_false] at he;rcases he with rfl|rfl|rfl|rfl|rfl|rfl|rfl|rfl|rfl|rfl|rfl|rfl|rfl|rfl|rfl|rfl|rfl|rfl|rfl|rfl|rfl|rfl|rfl|rfl|rfl|rfl|rfl|rfl|rfl
 ·exact ef1_0_ok
 ·exact ef1_1_ok
 ·exact ef1_2_ok
 ·exact ef1_3_ok
 ·exact ef1_4_ok
 ·exact ef2_0_ok
 ·exact ef2_1_ok
 ·exact ef2_2_ok
 ·exact ef2_3_ok
 ·exact ef3_0_ok
 ·exact ef3_1_ok
 ·exact ef3_2_ok
 ·exact ef3_3_ok
 ·exact ef4_0_ok
 ·exact ef4_1_ok
 ·exact ef4_2_ok
 ·exact ef4_3_ok
 ·exact ef5_0_ok
 ·exact ef5_1_ok
 ·exact ef5_2_ok
 ·exact ef5_3_ok
 ·exact ef6_0_ok
 ·exact ef6_1_ok
 ·exact ef6_2_ok
 ·exact ef6_3_ok
 ·exact ef7_0_ok
 ·exact ef7_1_ok
 ·exact ef7_2_ok
 ·exact ef7_3_ok
theorem tab_e_all:T.All (fun _ es=> ∀e∈es,EntR.Holds Tryz.prog x0 e) tab_e 0 1:=⟨fun x hx=>(by cases hx),trivial,⟨fun x hx=>(by cases hx),trivial,⟨fun x hx=>(by cases hx),⟨fun x hx=>(by cases hx),⟨fun x hx=>(by cases hx),⟨fun x hx=>(by cases hx),trivial,⟨fun x hx=>(by cases hx;exact ese_98_ok),trivial,trivial⟩⟩,⟨fun x hx=>(by cases hx;exact ese_50_ok),trivial,trivial⟩⟩,trivial⟩,⟨fun x hx=>(by cases hx),⟨fun x hx=>(by cases hx),trivial,⟨fun x hx=>(by cases hx;exact ese_54_ok),trivial,trivial⟩⟩,trivial⟩⟩⟩⟩
theorem tab_e_ok: ∀f es,tab_e.get f=some es→ ∀e∈es,e.Holds Tryz.prog x0:=fun f es h=>T.All.of tab_e_all f es h
def E_e:Env:=(E x0).moreR tab_e
theorem ftok_e:FtOk E_e:=ftok x0
theorem soundN_e:SoundN E_e:=soundN_moreR (soundN x0) tab_e_ok
theorem soundD_e:SoundD E_e:=fun call hs nt ops tm h x tm' h' he=>evDrawP_ok tb_ok mixed hs he
theorem ev_sound_e (m n:Nat):SoundC E_e (ev E_e m n).code∧Sound Tryz.prog x0 (ev E_e m n).call:=ev_ok (E:=E_e) ftok_e tb_ok soundN_e soundD_e m n
end Go.Proofs.Kn
end
namespace Go.Proofs.Kn
open Go Go.Ev
set_option maxRecDepth 100000
noncomputable def fineC:Option (CR×Hp)→Bool
 |some (.ret (.val (.bool true)),_)=>true
 |_=>false
theorem fineC_ok {o:Option (CR×Hp)} (h:fineC o=true): ∃h',o=some (.ret (.val (.bool true)),h'):=by
 unfold fineC at h;split at h
 ·exact ⟨_,rfl⟩
 ·cases h
theorem known_run:fineC ((ev E_e 100000 2000).call (.val (.func (.func 6) #[] #[])) [] {t:= .e,n:=0})=true:=by kernel_rfl
theorem known_enter (w:World):(invoke (.fn (.func 6) #[]) #[]).run Tryz.prog w= .ok (.enter 6 #[]) w:=by kernel_rfl
noncomputable def xCtx:Ctx:=⟨fun _=>False,fun _=>0,fun _=>0,x0⟩
theorem good_x {w:World} (hx: ∀a v,x0 a=some v→w.cell? a=some v) (lim:Nat):Go.Ev.Good lim xCtx {t:= .e,n:=0} w:=
 ⟨fun _ _ _ h=>h,fun _ _ h=>by simp at h,fun _ _ _ _ h=>by simp at h,fun a v h=>⟨hx a v h,fun _ _ h=>by simp at h⟩⟩
theorem belowX {lim:Nat} {c':Ctx} {h':Hp} {w w':World} (s:Stp lim xCtx {t:= .e,n:=0} w c' h' w'):RowKit.Below w.heap.size w w':=
 ⟨s.os,s.tape,s.output,s.size,fun k hk=>s.fr k hk (fun _ _ h=>by simp at h)⟩
theorem known_ok (w:World) (hx: ∀a v,x0 a=some v→w.cell? a=some v):Calls Tryz.prog 6 #[] w fun e w'=>e= .returned (.bool true)∧RowKit.Below w.heap.size w w':=by
 obtain ⟨h',he⟩:=fineC_ok known_run;obtain ⟨n1,s1⟩:=(ev_sound_e 100000 2000).2 _ _ _ _ _ he;obtain ⟨d,hd,hc⟩:=s1 h'.n (Nat.le_refl _) xCtx w (.func (.func 6) #[] #[]) [] (good_x hx _) (fun _ _ e=>e) (by simp only [R]) RL.nil;have hd':d={target:= .fn (.func 6) #[],args:= #[]}:=by
  have:(Deferred.ofValue (.func (.func 6) #[] #[]) ([]:List Value).toArray).run Tryz.prog w= .ok {target:= .fn (.func 6) #[],args:= #[]} w:=rfl;rw [this] at hd;cases hd;rfl
 subst hd';have hi:=known_enter w;have key:CallsIn Fence.wide 0 Tryz.prog 6 #[] w fun e w'=> ∃c',Stp h'.n xCtx {t:= .e,n:=0} w c' h' w'∧ResR c' (.ret (.val (.bool true))) e:=by
  rcases hc with ⟨f',xs,q1,q2⟩|⟨l,f',tmps,xs,b,q1,q2⟩|⟨v,w',q1,q2⟩
  ·have q1:(invoke (.fn (.func 6) #[]) #[]).run Tryz.prog w=_:=q1;rw [hi] at q1;cases q1;exact q2
  ·have q1:(invoke (.fn (.func 6) #[]) #[]).run Tryz.prog w=_:=q1;rw [hi] at q1;cases q1
  ·have q1:(invoke (.fn (.func 6) #[]) #[]).run Tryz.prog w=_:=q1;rw [hi] at q1;cases q1
 refine callsIn_wide.1 (key.mono ?_);rintro e w' ⟨c',hst,y,rfl,hy⟩;refine ⟨?_,belowX hst⟩;simp only [R] at hy;rw [hy]
end Go.Proofs.Kn
