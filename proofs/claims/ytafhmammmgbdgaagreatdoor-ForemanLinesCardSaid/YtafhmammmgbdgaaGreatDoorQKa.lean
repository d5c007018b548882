/- Parts of the proof, joined by a program. -/
import Derived.Test.YtafhmammmgbdgaaGreatDoorQXKnEd0
import Derived.Test.YtafhmammmgbdgaaGreatDoorQKd
set_option linter.all false
noncomputable section
namespace Go.Proofs.Kn
open Go Go.Ev
set_option maxRecDepth 100000
def esd_105:List EntR:=[ed5_1]
def esd_127:List EntR:=[ed0_0,ed2_1,ed4_1,ed5_2]
def esd_176:List EntR:=[ed1_0,ed2_0,ed3_0,ed4_0,ed5_0]
def esd_195:List EntR:=[ec0_0]
def tab_d:T (List EntR):=(.n (.n (.n (.n (.n (.n (.n (.n .e (some esd_127) .e) none .e) none .e) none .e) none .e) none (.n (.n (.n (.n .e none (.n .e (some esd_195) .e)) none .e) none .e) none .e)) none (.n (.n .e none (.n (.n .e none (.n .e (some esd_105) .e)) none .e)) none .e)) none (.n (.n (.n (.n .e none (.n .e none (.n (.n .e (some esd_176) .e) none .e))) none .e) none .e) none .e))
theorem esd_105_ok: ∀e∈esd_105,e.Holds Tryz.prog x0:=fun e he=>by
 simp only [esd_105,List.mem_cons,List.not_mem_nil,or_false] at he;subst he;exact ed5_1_ok
theorem esd_127_ok: ∀e∈esd_127,e.Holds Tryz.prog x0:=fun e he=>by
 simp only [esd_127,List.mem_cons,List.not_mem_nil,or_false] at he;rcases he with rfl|rfl|rfl|rfl
 ·exact ed0_0_ok
 ·exact ed2_1_ok
 ·exact ed4_1_ok
 ·exact ed5_2_ok
theorem esd_176_ok: ∀e∈esd_176,e.Holds Tryz.prog x0:=fun e he=>by
 simp only [esd_176,List.mem_cons,List.not_mem_nil,or_false] at he;rcases he with rfl|rfl|rfl|rfl|rfl
 ·exact ed1_0_ok
 ·exact ed2_0_ok
 ·exact ed3_0_ok
 ·exact ed4_0_ok
 ·exact ed5_0_ok
theorem esd_195_ok: ∀e∈esd_195,e.Holds Tryz.prog x0:=fun e he=>by
 simp only [esd_195,List.mem_cons,List.not_mem_nil,or_false] at he;subst he;exact ec0_0_ok
theorem tab_d_all:T.All (fun _ es=> ∀e∈es,EntR.Holds Tryz.prog x0 e) tab_d 0 1:=⟨fun x hx=>(by cases hx),⟨fun x hx=>(by cases hx),⟨fun x hx=>(by cases hx),⟨fun x hx=>(by cases hx),⟨fun x hx=>(by cases hx),⟨fun x hx=>(by cases hx),⟨fun x hx=>(by cases hx),⟨fun x hx=>(by cases hx;exact esd_127_ok),trivial,trivial⟩,trivial⟩,trivial⟩,trivial⟩,trivial⟩,⟨fun x hx=>(by cases hx),⟨fun x hx=>(by cases hx),⟨fun x hx=>(by cases hx),⟨fun x hx=>(by cases hx),trivial,⟨fun x hx=>(by cases hx;exact esd_195_ok),trivial,trivial⟩⟩,trivial⟩,trivial⟩,trivial⟩⟩,⟨fun x hx=>(by cases hx),⟨fun x hx=>(by cases hx),trivial,⟨fun x hx=>(by cases hx),⟨fun x hx=>(by cases hx),trivial,⟨fun x hx=>(by cases hx;exact esd_105_ok),trivial,trivial⟩⟩,trivial⟩⟩,trivial⟩⟩,⟨fun x hx=>(by cases hx),⟨fun x hx=>(by cases hx),⟨fun x hx=>(by cases hx),⟨fun x hx=>(by cases hx),trivial,⟨fun x hx=>(by cases hx),trivial,⟨fun x hx=>(by cases hx),⟨fun x hx=>(by cases hx;exact esd_176_ok),trivial,trivial⟩,trivial⟩⟩⟩,trivial⟩,trivial⟩,trivial⟩⟩
theorem tab_d_ok: ∀f es,tab_d.get f=some es→ ∀e∈es,e.Holds Tryz.prog x0:=fun f es h=>T.All.of tab_d_all f es h
def E_d:Env:=(E x0).moreR tab_d
theorem ftok_d:FtOk E_d:=ftok x0
theorem soundN_d:SoundN E_d:=soundN_moreR (soundN x0) tab_d_ok
theorem soundD_d:SoundD E_d:=fun call hs nt ops tm h x tm' h' he=>evDrawP_ok tb_ok mixed hs he
theorem ev_sound_d (m n:Nat):SoundC E_d (ev E_d m n).code∧Sound Tryz.prog x0 (ev E_d m n).call:=ev_ok (E:=E_d) ftok_d tb_ok soundN_d soundD_d m n
end Go.Proofs.Kn
end
noncomputable section
namespace Go.Proofs.Kn
open Go Go.Ev
set_option maxRecDepth 100000
def ea0_0:EntR:={f:=61,args:=[(.agg [(.sl 0 0 3 1),(.val (.int .i64 2)),(.val (.int .i64 1)),(.sl 4 0 5 4),(.sl 5 0 1 3),(.sl 6 0 5 2),(.sl 7 0 2 3),(.val (.int .i64 1))])],cells:=[(.cells [(.sl 1 0 4 1),(.sl 2 0 4 1),(.sl 3 0 4 1)] 248),(.cells [(.val (.int .i64 2)),(.val (.int .i64 2)),(.val (.int .i64 2)),(.val (.int .i64 1))] 250),(.cells [(.val (.int .i64 2)),(.val (.int .i64 3)),(.val (.int .i64 2)),(.val (.int .i64 2))] 250),(.cells [(.val (.int .i64 1)),(.val (.int .i64 2)),(.val (.int .i64 2)),(.val (.int .i64 2))] 250),(.cells [(.val (.int .i64 0)),(.val (.int .i64 0)),(.val (.int .i64 12)),(.val (.int .i64 1)),(.val (.int .i64 0)),(.val (.int .i64 2)),(.val (.int .i64 9)),(.val (.int .i64 1)),(.val (.int .i64 1)),(.val (.int .i64 3)),(.val (.int .i64 5)),(.val (.int .i64 1)),(.val (.int .i64 2)),(.val (.int .i64 1)),(.val (.int .i64 10)),(.val (.int .i64 2)),(.val (.int .i64 2)),(.val (.int .i64 3)),(.val (.int .i64 8)),(.val (.int .i64 1))] 253),(.cells [(.val (.int .i64 0)),(.val (.int .i64 0)),(.val (.bool false))] 256),(.cells [(.val (.int .i64 0)),(.val (.int .i64 0)),(.val (.int .i64 1)),(.val (.int .i64 2)),(.val (.int .i64 1)),(.val (.int .i64 3)),(.val (.int .i64 2)),(.val (.int .i64 2)),(.val (.int .i64 2)),(.val (.int .i64 3))] 259),(.cells [(.val (.int .i64 1)),(.val (.int .i64 4)),(.val (.int .i64 2)),(.val (.int .i64 2)),(.val (.int .i64 4)),(.val (.int .i64 14))] 173)],res:=(.ret (.tup [(.sl 2792 0 4 3),(.val (.int .i64 24)),(.val (.int .i64 0))])),n1:=3306,cells1:=[(0,(.cells [(.sl 1 0 4 1),(.sl 2 0 4 1),(.sl 3 0 4 1)] 248)),(1,(.cells [(.val (.int .i64 2)),(.val (.int .i64 2)),(.val (.int .i64 2)),(.val (.int .i64 1))] 250)),(2,(.cells [(.val (.int .i64 2)),(.val (.int .i64 3)),(.val (.int .i64 2)),(.val (.int .i64 2))] 250)),(3,(.cells [(.val (.int .i64 1)),(.val (.int .i64 2)),(.val (.int .i64 2)),(.val (.int .i64 2))] 250)),(4,(.cells [(.val (.int .i64 0)),(.val (.int .i64 0)),(.val (.int .i64 12)),(.val (.int .i64 1)),(.val (.int .i64 0)),(.val (.int .i64 2)),(.val (.int .i64 9)),(.val (.int .i64 1)),(.val (.int .i64 1)),(.val (.int .i64 3)),(.val (.int .i64 5)),(.val (.int .i64 1)),(.val (.int .i64 2)),(.val (.int .i64 1)),(.val (.int .i64 10)),(.val (.int .i64 2)),(.val (.int .i64 2)),(.val (.int .i64 3)),(.val (.int .i64 8)),(.val (.int .i64 1))] 253)),(5,(.cells [(.val (.int .i64 0)),(.val (.int .i64 0)),(.val (.bool false))] 256)),(6,(.cells [(.val (.int .i64 0)),(.val (.int .i64 0)),(.val (.int .i64 1)),(.val (.int .i64 2)),(.val (.int .i64 1)),(.val (.int .i64 3)),(.val (.int .i64 2)),(.val (.int .i64 2)),(.val (.int .i64 2)),(.val (.int .i64 3))] 259)),(7,(.cells [(.val (.int .i64 1)),(.val (.int .i64 4)),(.val (.int .i64 2)),(.val (.int .i64 2)),(.val (.int .i64 4)),(.val (.int .i64 14))] 173)),(2792,(.cells [(.val (.int .i64 0)),(.val (.int .i64 0)),(.val (.int .i64 0)),(.val (.int .i64 0)),(.val (.int .i64 1)),(.val (.int .i64 0)),(.val (.int .i64 0)),(.val (.int .i64 2)),(.val (.int .i64 0)),(.val (.int .i64 1)),(.val (.int .i64 2)),(.val (.int .i64 1))] 143))]}
theorem ea0_0_ok:ea0_0.Holds Tryz.prog x0:=⟨by kernel_rfl,Ent.of_run (ev_sound_d 100000 2000).2 ea0_0.ent [0,1,2,3,4,5,6,7,2792] (by kernel_rfl)⟩
end Go.Proofs.Kn
end
noncomputable section
namespace Go.Proofs.Kn
open Go Go.Ev
set_option maxRecDepth 100000
def ea1_0:EntR:={f:=69,args:=[(.agg [(.val (.int .i64 1)),(.val (.int .i64 0)),(.sl 0 0 2 5)]),(.agg [(.val (.int .i64 5)),(.val (.int .i64 9))])],cells:=[(.cells [(.val (.int .i64 (-1))),(.val (.int .i64 0)),(.val (.int .i64 0)),(.sl 1 0 2 3),(.sl 2 0 2 5),(.val (.int .i64 0)),(.val (.int .i64 2)),(.val (.int .i64 5)),(.sl 3 0 1 3),(.sl 4 0 1 5)] 188),(.cells [(.val (.int .i64 0)),(.val (.int .i64 1)),(.val (.int .i64 1)),(.val (.int .i64 1)),(.val (.int .i64 4)),(.val (.int .i64 8))] 182),(.cells [(.val (.int .i64 0)),(.val (.int .i64 5)),(.val (.int .i64 6)),(.val (.int .i64 1)),(.val (.int .i64 2)),(.val (.int .i64 1)),(.val (.int .i64 3)),(.val (.int .i64 5)),(.val (.int .i64 5)),(.val (.int .i64 5))] 185),(.cells [(.val (.int .i64 2)),(.val (.int .i64 3)),(.val (.int .i64 4))] 182),(.cells [(.val (.int .i64 2)),(.val (.int .i64 4)),(.val (.int .i64 8)),(.val (.int .i64 3)),(.val (.int .i64 4))] 185)],res:=(.ret (.tup [(.sl 819 0 1 1),(.val (.int .i64 0))])),n1:=820,cells1:=[(0,(.cells [(.val (.int .i64 (-1))),(.val (.int .i64 0)),(.val (.int .i64 0)),(.sl 1 0 2 3),(.sl 2 0 2 5),(.val (.int .i64 0)),(.val (.int .i64 2)),(.val (.int .i64 5)),(.sl 3 0 1 3),(.sl 4 0 1 5)] 188)),(1,(.cells [(.val (.int .i64 0)),(.val (.int .i64 1)),(.val (.int .i64 1)),(.val (.int .i64 1)),(.val (.int .i64 4)),(.val (.int .i64 8))] 182)),(2,(.cells [(.val (.int .i64 0)),(.val (.int .i64 5)),(.val (.int .i64 6)),(.val (.int .i64 1)),(.val (.int .i64 2)),(.val (.int .i64 1)),(.val (.int .i64 3)),(.val (.int .i64 5)),(.val (.int .i64 5)),(.val (.int .i64 5))] 185)),(3,(.cells [(.val (.int .i64 2)),(.val (.int .i64 3)),(.val (.int .i64 4))] 182)),(4,(.cells [(.val (.int .i64 2)),(.val (.int .i64 4)),(.val (.int .i64 8)),(.val (.int .i64 3)),(.val (.int .i64 4))] 185)),(819,(.cells [(.val (.int .i64 2))] 3))]}
theorem ea1_0_ok:ea1_0.Holds Tryz.prog x0:=⟨by kernel_rfl,Ent.of_run (ev_sound_d 100000 2000).2 ea1_0.ent [0,1,2,3,4,819] (by kernel_rfl)⟩
end Go.Proofs.Kn
end
noncomputable section
namespace Go.Proofs.Kn
open Go Go.Ev
set_option maxRecDepth 100000
def ea3_0:EntR:={f:=74,args:=[(.agg [(.val (.int .i64 1)),(.val (.int .i64 0)),(.sl 0 0 2 5)]),(.agg [(.val (.int .i64 1)),(.val (.int .i64 9))])],cells:=[(.cells [(.val (.int .i64 (-1))),(.val (.int .i64 0)),(.val (.int .i64 0)),(.sl 1 0 2 3),(.sl 2 0 2 5),(.val (.int .i64 0)),(.val (.int .i64 2)),(.val (.int .i64 5)),(.sl 3 0 1 3),(.sl 4 0 1 5)] 188),(.cells [(.val (.int .i64 0)),(.val (.int .i64 1)),(.val (.int .i64 1)),(.val (.int .i64 1)),(.val (.int .i64 4)),(.val (.int .i64 8))] 182),(.cells [(.val (.int .i64 0)),(.val (.int .i64 5)),(.val (.int .i64 6)),(.val (.int .i64 1)),(.val (.int .i64 2)),(.val (.int .i64 1)),(.val (.int .i64 3)),(.val (.int .i64 5)),(.val (.int .i64 5)),(.val (.int .i64 5))] 185),(.cells [(.val (.int .i64 2)),(.val (.int .i64 3)),(.val (.int .i64 4))] 182),(.cells [(.val (.int .i64 2)),(.val (.int .i64 4)),(.val (.int .i64 8)),(.val (.int .i64 3)),(.val (.int .i64 4))] 185)],res:=(.ret (.tup [(.sl 410 0 2 1),(.val (.int .i64 0))])),n1:=411,cells1:=[(0,(.cells [(.val (.int .i64 (-1))),(.val (.int .i64 0)),(.val (.int .i64 0)),(.sl 1 0 2 3),(.sl 2 0 2 5),(.val (.int .i64 0)),(.val (.int .i64 2)),(.val (.int .i64 5)),(.sl 3 0 1 3),(.sl 4 0 1 5)] 188)),(1,(.cells [(.val (.int .i64 0)),(.val (.int .i64 1)),(.val (.int .i64 1)),(.val (.int .i64 1)),(.val (.int .i64 4)),(.val (.int .i64 8))] 182)),(2,(.cells [(.val (.int .i64 0)),(.val (.int .i64 5)),(.val (.int .i64 6)),(.val (.int .i64 1)),(.val (.int .i64 2)),(.val (.int .i64 1)),(.val (.int .i64 3)),(.val (.int .i64 5)),(.val (.int .i64 5)),(.val (.int .i64 5))] 185)),(3,(.cells [(.val (.int .i64 2)),(.val (.int .i64 3)),(.val (.int .i64 4))] 182)),(4,(.cells [(.val (.int .i64 2)),(.val (.int .i64 4)),(.val (.int .i64 8)),(.val (.int .i64 3)),(.val (.int .i64 4))] 185)),(410,(.cells [(.val (.int .i64 0)),(.val (.int .i64 1))] 3))]}
theorem ea3_0_ok:ea3_0.Holds Tryz.prog x0:=⟨by kernel_rfl,Ent.of_run (ev_sound_d 100000 2000).2 ea3_0.ent [0,1,2,3,4,410] (by kernel_rfl)⟩
end Go.Proofs.Kn
end
noncomputable section
namespace Go.Proofs.Kn
open Go Go.Ev
set_option maxRecDepth 100000
def ea6_0:EntR:={f:=69,args:=[(.agg [(.val (.int .i64 1)),(.val (.int .i64 0)),(.sl 0 0 2 5)]),(.agg [(.val (.int .i64 1)),(.val (.int .i64 9))])],cells:=[(.cells [(.val (.int .i64 (-1))),(.val (.int .i64 0)),(.val (.int .i64 0)),(.sl 1 0 2 3),(.sl 2 0 2 5),(.val (.int .i64 0)),(.val (.int .i64 2)),(.val (.int .i64 5)),(.sl 3 0 1 3),(.sl 4 0 1 5)] 188),(.cells [(.val (.int .i64 0)),(.val (.int .i64 1)),(.val (.int .i64 1)),(.val (.int .i64 1)),(.val (.int .i64 4)),(.val (.int .i64 8))] 182),(.cells [(.val (.int .i64 0)),(.val (.int .i64 5)),(.val (.int .i64 6)),(.val (.int .i64 1)),(.val (.int .i64 2)),(.val (.int .i64 1)),(.val (.int .i64 3)),(.val (.int .i64 5)),(.val (.int .i64 5)),(.val (.int .i64 5))] 185),(.cells [(.val (.int .i64 2)),(.val (.int .i64 3)),(.val (.int .i64 4))] 182),(.cells [(.val (.int .i64 2)),(.val (.int .i64 4)),(.val (.int .i64 8)),(.val (.int .i64 3)),(.val (.int .i64 4))] 185)],res:=(.ret (.tup [(.sl 231 0 3 1),(.val (.int .i64 0))])),n1:=232,cells1:=[(0,(.cells [(.val (.int .i64 (-1))),(.val (.int .i64 0)),(.val (.int .i64 0)),(.sl 1 0 2 3),(.sl 2 0 2 5),(.val (.int .i64 0)),(.val (.int .i64 2)),(.val (.int .i64 5)),(.sl 3 0 1 3),(.sl 4 0 1 5)] 188)),(1,(.cells [(.val (.int .i64 0)),(.val (.int .i64 1)),(.val (.int .i64 1)),(.val (.int .i64 1)),(.val (.int .i64 4)),(.val (.int .i64 8))] 182)),(2,(.cells [(.val (.int .i64 0)),(.val (.int .i64 5)),(.val (.int .i64 6)),(.val (.int .i64 1)),(.val (.int .i64 2)),(.val (.int .i64 1)),(.val (.int .i64 3)),(.val (.int .i64 5)),(.val (.int .i64 5)),(.val (.int .i64 5))] 185)),(3,(.cells [(.val (.int .i64 2)),(.val (.int .i64 3)),(.val (.int .i64 4))] 182)),(4,(.cells [(.val (.int .i64 2)),(.val (.int .i64 4)),(.val (.int .i64 8)),(.val (.int .i64 3)),(.val (.int .i64 4))] 185)),(231,(.cells [(.val (.int .i64 0)),(.val (.int .i64 1)),(.val (.int .i64 2))] 3))]}
theorem ea6_0_ok:ea6_0.Holds Tryz.prog x0:=⟨by kernel_rfl,Ent.of_run (ev_sound_d 100000 2000).2 ea6_0.ent [0,1,2,3,4,231] (by kernel_rfl)⟩
end Go.Proofs.Kn
end
noncomputable section
namespace Go.Proofs.Kn
open Go Go.Ev
set_option maxRecDepth 100000
def ea7_0:EntR:={f:=74,args:=[(.agg [(.val (.int .i64 1)),(.val (.int .i64 0)),(.sl 0 0 2 5)]),(.agg [(.val (.int .i64 1)),(.val (.int .i64 2))])],cells:=[(.cells [(.val (.int .i64 (-1))),(.val (.int .i64 0)),(.val (.int .i64 0)),(.sl 1 0 2 3),(.sl 2 0 2 5),(.val (.int .i64 0)),(.val (.int .i64 2)),(.val (.int .i64 5)),(.sl 3 0 1 3),(.sl 4 0 1 5)] 188),(.cells [(.val (.int .i64 0)),(.val (.int .i64 1)),(.val (.int .i64 1)),(.val (.int .i64 1)),(.val (.int .i64 4)),(.val (.int .i64 8))] 182),(.cells [(.val (.int .i64 0)),(.val (.int .i64 5)),(.val (.int .i64 6)),(.val (.int .i64 1)),(.val (.int .i64 2)),(.val (.int .i64 1)),(.val (.int .i64 3)),(.val (.int .i64 5)),(.val (.int .i64 5)),(.val (.int .i64 5))] 185),(.cells [(.val (.int .i64 2)),(.val (.int .i64 3)),(.val (.int .i64 4))] 182),(.cells [(.val (.int .i64 2)),(.val (.int .i64 4)),(.val (.int .i64 8)),(.val (.int .i64 3)),(.val (.int .i64 4))] 185)],res:=(.ret (.tup [(.sl 216 0 1 1),(.val (.int .i64 0))])),n1:=225,cells1:=[(0,(.cells [(.val (.int .i64 (-1))),(.val (.int .i64 0)),(.val (.int .i64 0)),(.sl 1 0 2 3),(.sl 2 0 2 5),(.val (.int .i64 0)),(.val (.int .i64 2)),(.val (.int .i64 5)),(.sl 3 0 1 3),(.sl 4 0 1 5)] 188)),(1,(.cells [(.val (.int .i64 0)),(.val (.int .i64 1)),(.val (.int .i64 1)),(.val (.int .i64 1)),(.val (.int .i64 4)),(.val (.int .i64 8))] 182)),(2,(.cells [(.val (.int .i64 0)),(.val (.int .i64 5)),(.val (.int .i64 6)),(.val (.int .i64 1)),(.val (.int .i64 2)),(.val (.int .i64 1)),(.val (.int .i64 3)),(.val (.int .i64 5)),(.val (.int .i64 5)),(.val (.int .i64 5))] 185)),(3,(.cells [(.val (.int .i64 2)),(.val (.int .i64 3)),(.val (.int .i64 4))] 182)),(4,(.cells [(.val (.int .i64 2)),(.val (.int .i64 4)),(.val (.int .i64 8)),(.val (.int .i64 3)),(.val (.int .i64 4))] 185)),(216,(.cells [(.val (.int .i64 0))] 3))]}
theorem ea7_0_ok:ea7_0.Holds Tryz.prog x0:=⟨by kernel_rfl,Ent.of_run (ev_sound_d 100000 2000).2 ea7_0.ent [0,1,2,3,4,216] (by kernel_rfl)⟩
end Go.Proofs.Kn
end
noncomputable section
namespace Go.Proofs.Kn
open Go Go.Ev
set_option maxRecDepth 100000
def ea10_0:EntR:={f:=74,args:=[(.agg [(.val (.int .i64 1)),(.val (.int .i64 0)),(.sl 0 0 2 5)]),(.agg [(.val (.int .i64 0)),(.val (.int .i64 0))])],cells:=[(.cells [(.val (.int .i64 (-1))),(.val (.int .i64 0)),(.val (.int .i64 0)),(.sl 1 0 2 3),(.sl 2 0 2 5),(.val (.int .i64 0)),(.val (.int .i64 2)),(.val (.int .i64 5)),(.sl 3 0 1 3),(.sl 4 0 1 5)] 188),(.cells [(.val (.int .i64 0)),(.val (.int .i64 1)),(.val (.int .i64 1)),(.val (.int .i64 1)),(.val (.int .i64 4)),(.val (.int .i64 8))] 182),(.cells [(.val (.int .i64 0)),(.val (.int .i64 5)),(.val (.int .i64 6)),(.val (.int .i64 1)),(.val (.int .i64 2)),(.val (.int .i64 1)),(.val (.int .i64 3)),(.val (.int .i64 5)),(.val (.int .i64 5)),(.val (.int .i64 5))] 185),(.cells [(.val (.int .i64 2)),(.val (.int .i64 3)),(.val (.int .i64 4))] 182),(.cells [(.val (.int .i64 2)),(.val (.int .i64 4)),(.val (.int .i64 8)),(.val (.int .i64 3)),(.val (.int .i64 4))] 185)],res:=(.ret (.tup [(.val (.slice none 0 0)),(.val (.int .i64 0))])),n1:=134,cells1:=[(0,(.cells [(.val (.int .i64 (-1))),(.val (.int .i64 0)),(.val (.int .i64 0)),(.sl 1 0 2 3),(.sl 2 0 2 5),(.val (.int .i64 0)),(.val (.int .i64 2)),(.val (.int .i64 5)),(.sl 3 0 1 3),(.sl 4 0 1 5)] 188)),(1,(.cells [(.val (.int .i64 0)),(.val (.int .i64 1)),(.val (.int .i64 1)),(.val (.int .i64 1)),(.val (.int .i64 4)),(.val (.int .i64 8))] 182)),(2,(.cells [(.val (.int .i64 0)),(.val (.int .i64 5)),(.val (.int .i64 6)),(.val (.int .i64 1)),(.val (.int .i64 2)),(.val (.int .i64 1)),(.val (.int .i64 3)),(.val (.int .i64 5)),(.val (.int .i64 5)),(.val (.int .i64 5))] 185)),(3,(.cells [(.val (.int .i64 2)),(.val (.int .i64 3)),(.val (.int .i64 4))] 182)),(4,(.cells [(.val (.int .i64 2)),(.val (.int .i64 4)),(.val (.int .i64 8)),(.val (.int .i64 3)),(.val (.int .i64 4))] 185))]}
theorem ea10_0_ok:ea10_0.Holds Tryz.prog x0:=⟨by kernel_rfl,Ent.of_run (ev_sound_d 100000 2000).2 ea10_0.ent [0,1,2,3,4] (by kernel_rfl)⟩
end Go.Proofs.Kn
end
