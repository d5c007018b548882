/- Parts of the proof, joined by a program. -/
import Derived.Test.YtafhmammmgbdgaaGreatDoorQK
set_option linter.all false
noncomputable section
namespace Go.Proofs.Kn
open Go Go.Ev
set_option maxRecDepth 100000
def eb0_0:EntR:={f:=253,args:=[(.agg [(.val (.int .i64 1)),(.val (.int .i64 0)),(.sl 0 0 2 5),(.sl 5 0 2 1),(.sl 8 0 1 1)]),(.val (.int .i64 0)),(.val (.int .i64 2)),(.ptr 10 0)],cells:=[(.cells [(.val (.int .i64 (-1))),(.val (.int .i64 0)),(.val (.int .i64 0)),(.sl 1 0 2 3),(.sl 2 0 2 5),(.val (.int .i64 0)),(.val (.int .i64 2)),(.val (.int .i64 5)),(.sl 3 0 1 3),(.sl 4 0 1 5)] 188),(.cells [(.val (.int .i64 0)),(.val (.int .i64 1)),(.val (.int .i64 1)),(.val (.int .i64 1)),(.val (.int .i64 4)),(.val (.int .i64 8))] 182),(.cells [(.val (.int .i64 0)),(.val (.int .i64 5)),(.val (.int .i64 6)),(.val (.int .i64 1)),(.val (.int .i64 2)),(.val (.int .i64 1)),(.val (.int .i64 3)),(.val (.int .i64 5)),(.val (.int .i64 5)),(.val (.int .i64 5))] 185),(.cells [(.val (.int .i64 2)),(.val (.int .i64 3)),(.val (.int .i64 4))] 182),(.cells [(.val (.int .i64 2)),(.val (.int .i64 4)),(.val (.int .i64 8)),(.val (.int .i64 3)),(.val (.int .i64 4))] 185),(.cells [(.sl 6 0 2 1),(.sl 7 0 1 1)] 23),(.cells [(.val (.int .i64 1)),(.val (.int .i64 5))] 3),(.cells [(.val (.int .i64 3))] 3),(.cells [(.ptr 9 0)] 360),(.cells ([(.val (.bool true))]++(bf 255 [])) 362),(.cells (bf 256 []) 362)],res:=(.ret (.tup [])),n1:=20,cells1:=[(0,(.cells [(.val (.int .i64 (-1))),(.val (.int .i64 0)),(.val (.int .i64 0)),(.sl 1 0 2 3),(.sl 2 0 2 5),(.val (.int .i64 0)),(.val (.int .i64 2)),(.val (.int .i64 5)),(.sl 3 0 1 3),(.sl 4 0 1 5)] 188)),(1,(.cells [(.val (.int .i64 0)),(.val (.int .i64 1)),(.val (.int .i64 1)),(.val (.int .i64 1)),(.val (.int .i64 4)),(.val (.int .i64 8))] 182)),(2,(.cells [(.val (.int .i64 0)),(.val (.int .i64 5)),(.val (.int .i64 6)),(.val (.int .i64 1)),(.val (.int .i64 2)),(.val (.int .i64 1)),(.val (.int .i64 3)),(.val (.int .i64 5)),(.val (.int .i64 5)),(.val (.int .i64 5))] 185)),(3,(.cells [(.val (.int .i64 2)),(.val (.int .i64 3)),(.val (.int .i64 4))] 182)),(4,(.cells [(.val (.int .i64 2)),(.val (.int .i64 4)),(.val (.int .i64 8)),(.val (.int .i64 3)),(.val (.int .i64 4))] 185)),(5,(.cells [(.sl 6 0 2 1),(.sl 7 0 1 1)] 23)),(6,(.cells [(.val (.int .i64 1)),(.val (.int .i64 5))] 3)),(7,(.cells [(.val (.int .i64 3))] 3)),(8,(.cells [(.ptr 9 0)] 360)),(9,(.cells ([(.val (.bool true))]++(bf 255 [])) 362)),(10,(.cells ([(.val (.bool false)),(.val (.bool true))]++(bf 254 [])) 362))]}
theorem eb0_0_ok:eb0_0.Holds Tryz.prog x0:=⟨by kernel_rfl,Ent.of_run (ev_sound x0 100000 2000).2 eb0_0.ent [0,1,2,3,4,5,6,7,8,9,10] (by kernel_rfl)⟩
end Go.Proofs.Kn
end
noncomputable section
namespace Go.Proofs.Kn
open Go Go.Ev
set_option maxRecDepth 100000
def eb1_0:EntR:={f:=253,args:=[(.agg [(.val (.int .i64 1)),(.val (.int .i64 0)),(.sl 0 0 2 5),(.sl 5 0 2 1),(.sl 8 0 1 1)]),(.val (.int .i64 0)),(.val (.int .i64 3)),(.ptr 10 0)],cells:=[(.cells [(.val (.int .i64 (-1))),(.val (.int .i64 0)),(.val (.int .i64 0)),(.sl 1 0 2 3),(.sl 2 0 2 5),(.val (.int .i64 0)),(.val (.int .i64 2)),(.val (.int .i64 5)),(.sl 3 0 1 3),(.sl 4 0 1 5)] 188),(.cells [(.val (.int .i64 0)),(.val (.int .i64 1)),(.val (.int .i64 1)),(.val (.int .i64 1)),(.val (.int .i64 4)),(.val (.int .i64 8))] 182),(.cells [(.val (.int .i64 0)),(.val (.int .i64 5)),(.val (.int .i64 6)),(.val (.int .i64 1)),(.val (.int .i64 2)),(.val (.int .i64 1)),(.val (.int .i64 3)),(.val (.int .i64 5)),(.val (.int .i64 5)),(.val (.int .i64 5))] 185),(.cells [(.val (.int .i64 2)),(.val (.int .i64 3)),(.val (.int .i64 4))] 182),(.cells [(.val (.int .i64 2)),(.val (.int .i64 4)),(.val (.int .i64 8)),(.val (.int .i64 3)),(.val (.int .i64 4))] 185),(.cells [(.sl 6 0 2 1),(.sl 7 0 1 1)] 23),(.cells [(.val (.int .i64 1)),(.val (.int .i64 5))] 3),(.cells [(.val (.int .i64 3))] 3),(.cells [(.ptr 9 0)] 360),(.cells ([(.val (.bool true))]++(bf 255 [])) 362),(.cells ([(.val (.bool false)),(.val (.bool true))]++(bf 254 [])) 362)],res:=(.ret (.tup [])),n1:=20,cells1:=[(0,(.cells [(.val (.int .i64 (-1))),(.val (.int .i64 0)),(.val (.int .i64 0)),(.sl 1 0 2 3),(.sl 2 0 2 5),(.val (.int .i64 0)),(.val (.int .i64 2)),(.val (.int .i64 5)),(.sl 3 0 1 3),(.sl 4 0 1 5)] 188)),(1,(.cells [(.val (.int .i64 0)),(.val (.int .i64 1)),(.val (.int .i64 1)),(.val (.int .i64 1)),(.val (.int .i64 4)),(.val (.int .i64 8))] 182)),(2,(.cells [(.val (.int .i64 0)),(.val (.int .i64 5)),(.val (.int .i64 6)),(.val (.int .i64 1)),(.val (.int .i64 2)),(.val (.int .i64 1)),(.val (.int .i64 3)),(.val (.int .i64 5)),(.val (.int .i64 5)),(.val (.int .i64 5))] 185)),(3,(.cells [(.val (.int .i64 2)),(.val (.int .i64 3)),(.val (.int .i64 4))] 182)),(4,(.cells [(.val (.int .i64 2)),(.val (.int .i64 4)),(.val (.int .i64 8)),(.val (.int .i64 3)),(.val (.int .i64 4))] 185)),(5,(.cells [(.sl 6 0 2 1),(.sl 7 0 1 1)] 23)),(6,(.cells [(.val (.int .i64 1)),(.val (.int .i64 5))] 3)),(7,(.cells [(.val (.int .i64 3))] 3)),(8,(.cells [(.ptr 9 0)] 360)),(9,(.cells ([(.val (.bool true))]++(bf 255 [])) 362)),(10,(.cells ([(.val (.bool false)),(.val (.bool true))]++(bf 254 [])) 362))]}
theorem eb1_0_ok:eb1_0.Holds Tryz.prog x0:=⟨by kernel_rfl,Ent.of_run (ev_sound x0 100000 2000).2 eb1_0.ent [0,1,2,3,4,5,6,7,8,9,10] (by kernel_rfl)⟩
end Go.Proofs.Kn
end
noncomputable section
namespace Go.Proofs.Kn
open Go Go.Ev
set_option maxRecDepth 100000
def eb2_0:EntR:={f:=253,args:=[(.agg [(.val (.int .i64 1)),(.val (.int .i64 0)),(.sl 0 0 2 5),(.sl 5 0 2 1),(.sl 8 0 1 1)]),(.val (.int .i64 0)),(.val (.int .i64 4)),(.ptr 10 0)],cells:=[(.cells [(.val (.int .i64 (-1))),(.val (.int .i64 0)),(.val (.int .i64 0)),(.sl 1 0 2 3),(.sl 2 0 2 5),(.val (.int .i64 0)),(.val (.int .i64 2)),(.val (.int .i64 5)),(.sl 3 0 1 3),(.sl 4 0 1 5)] 188),(.cells [(.val (.int .i64 0)),(.val (.int .i64 1)),(.val (.int .i64 1)),(.val (.int .i64 1)),(.val (.int .i64 4)),(.val (.int .i64 8))] 182),(.cells [(.val (.int .i64 0)),(.val (.int .i64 5)),(.val (.int .i64 6)),(.val (.int .i64 1)),(.val (.int .i64 2)),(.val (.int .i64 1)),(.val (.int .i64 3)),(.val (.int .i64 5)),(.val (.int .i64 5)),(.val (.int .i64 5))] 185),(.cells [(.val (.int .i64 2)),(.val (.int .i64 3)),(.val (.int .i64 4))] 182),(.cells [(.val (.int .i64 2)),(.val (.int .i64 4)),(.val (.int .i64 8)),(.val (.int .i64 3)),(.val (.int .i64 4))] 185),(.cells [(.sl 6 0 2 1),(.sl 7 0 1 1)] 23),(.cells [(.val (.int .i64 1)),(.val (.int .i64 5))] 3),(.cells [(.val (.int .i64 3))] 3),(.cells [(.ptr 9 0)] 360),(.cells ([(.val (.bool true))]++(bf 255 [])) 362),(.cells ([(.val (.bool false)),(.val (.bool true))]++(bf 254 [])) 362)],res:=(.ret (.tup [])),n1:=20,cells1:=[(0,(.cells [(.val (.int .i64 (-1))),(.val (.int .i64 0)),(.val (.int .i64 0)),(.sl 1 0 2 3),(.sl 2 0 2 5),(.val (.int .i64 0)),(.val (.int .i64 2)),(.val (.int .i64 5)),(.sl 3 0 1 3),(.sl 4 0 1 5)] 188)),(1,(.cells [(.val (.int .i64 0)),(.val (.int .i64 1)),(.val (.int .i64 1)),(.val (.int .i64 1)),(.val (.int .i64 4)),(.val (.int .i64 8))] 182)),(2,(.cells [(.val (.int .i64 0)),(.val (.int .i64 5)),(.val (.int .i64 6)),(.val (.int .i64 1)),(.val (.int .i64 2)),(.val (.int .i64 1)),(.val (.int .i64 3)),(.val (.int .i64 5)),(.val (.int .i64 5)),(.val (.int .i64 5))] 185)),(3,(.cells [(.val (.int .i64 2)),(.val (.int .i64 3)),(.val (.int .i64 4))] 182)),(4,(.cells [(.val (.int .i64 2)),(.val (.int .i64 4)),(.val (.int .i64 8)),(.val (.int .i64 3)),(.val (.int .i64 4))] 185)),(5,(.cells [(.sl 6 0 2 1),(.sl 7 0 1 1)] 23)),(6,(.cells [(.val (.int .i64 1)),(.val (.int .i64 5))] 3)),(7,(.cells [(.val (.int .i64 3))] 3)),(8,(.cells [(.ptr 9 0)] 360)),(9,(.cells ([(.val (.bool true))]++(bf 255 [])) 362)),(10,(.cells ([(.val (.bool false)),(.val (.bool true)),(.val (.bool false)),(.val (.bool true))]++(bf 252 [])) 362))]}
theorem eb2_0_ok:eb2_0.Holds Tryz.prog x0:=⟨by kernel_rfl,Ent.of_run (ev_sound x0 100000 2000).2 eb2_0.ent [0,1,2,3,4,5,6,7,8,9,10] (by kernel_rfl)⟩
end Go.Proofs.Kn
end
noncomputable section
namespace Go.Proofs.Kn
open Go Go.Ev
set_option maxRecDepth 100000
def eb3_0:EntR:={f:=253,args:=[(.agg [(.val (.int .i64 1)),(.val (.int .i64 0)),(.sl 0 0 2 5),(.sl 5 0 2 1),(.sl 8 0 1 1)]),(.val (.int .i64 0)),(.val (.int .i64 5)),(.ptr 10 0)],cells:=[(.cells [(.val (.int .i64 (-1))),(.val (.int .i64 0)),(.val (.int .i64 0)),(.sl 1 0 2 3),(.sl 2 0 2 5),(.val (.int .i64 0)),(.val (.int .i64 2)),(.val (.int .i64 5)),(.sl 3 0 1 3),(.sl 4 0 1 5)] 188),(.cells [(.val (.int .i64 0)),(.val (.int .i64 1)),(.val (.int .i64 1)),(.val (.int .i64 1)),(.val (.int .i64 4)),(.val (.int .i64 8))] 182),(.cells [(.val (.int .i64 0)),(.val (.int .i64 5)),(.val (.int .i64 6)),(.val (.int .i64 1)),(.val (.int .i64 2)),(.val (.int .i64 1)),(.val (.int .i64 3)),(.val (.int .i64 5)),(.val (.int .i64 5)),(.val (.int .i64 5))] 185),(.cells [(.val (.int .i64 2)),(.val (.int .i64 3)),(.val (.int .i64 4))] 182),(.cells [(.val (.int .i64 2)),(.val (.int .i64 4)),(.val (.int .i64 8)),(.val (.int .i64 3)),(.val (.int .i64 4))] 185),(.cells [(.sl 6 0 2 1),(.sl 7 0 1 1)] 23),(.cells [(.val (.int .i64 1)),(.val (.int .i64 5))] 3),(.cells [(.val (.int .i64 3))] 3),(.cells [(.ptr 9 0)] 360),(.cells ([(.val (.bool true))]++(bf 255 [])) 362),(.cells ([(.val (.bool false)),(.val (.bool true)),(.val (.bool false)),(.val (.bool true))]++(bf 252 [])) 362)],res:=(.ret (.tup [])),n1:=20,cells1:=[(0,(.cells [(.val (.int .i64 (-1))),(.val (.int .i64 0)),(.val (.int .i64 0)),(.sl 1 0 2 3),(.sl 2 0 2 5),(.val (.int .i64 0)),(.val (.int .i64 2)),(.val (.int .i64 5)),(.sl 3 0 1 3),(.sl 4 0 1 5)] 188)),(1,(.cells [(.val (.int .i64 0)),(.val (.int .i64 1)),(.val (.int .i64 1)),(.val (.int .i64 1)),(.val (.int .i64 4)),(.val (.int .i64 8))] 182)),(2,(.cells [(.val (.int .i64 0)),(.val (.int .i64 5)),(.val (.int .i64 6)),(.val (.int .i64 1)),(.val (.int .i64 2)),(.val (.int .i64 1)),(.val (.int .i64 3)),(.val (.int .i64 5)),(.val (.int .i64 5)),(.val (.int .i64 5))] 185)),(3,(.cells [(.val (.int .i64 2)),(.val (.int .i64 3)),(.val (.int .i64 4))] 182)),(4,(.cells [(.val (.int .i64 2)),(.val (.int .i64 4)),(.val (.int .i64 8)),(.val (.int .i64 3)),(.val (.int .i64 4))] 185)),(5,(.cells [(.sl 6 0 2 1),(.sl 7 0 1 1)] 23)),(6,(.cells [(.val (.int .i64 1)),(.val (.int .i64 5))] 3)),(7,(.cells [(.val (.int .i64 3))] 3)),(8,(.cells [(.ptr 9 0)] 360)),(9,(.cells ([(.val (.bool true))]++(bf 255 [])) 362)),(10,(.cells ([(.val (.bool false)),(.val (.bool true)),(.val (.bool false)),(.val (.bool true))]++(bf 252 [])) 362))]}
theorem eb3_0_ok:eb3_0.Holds Tryz.prog x0:=⟨by kernel_rfl,Ent.of_run (ev_sound x0 100000 2000).2 eb3_0.ent [0,1,2,3,4,5,6,7,8,9,10] (by kernel_rfl)⟩
end Go.Proofs.Kn
end
noncomputable section
namespace Go.Proofs.Kn
open Go Go.Ev
set_option maxRecDepth 100000
def esb_253:List EntR:=[eb0_0,eb1_0,eb2_0,eb3_0]
def tab_b:T (List EntR):=(.n (.n .e none (.n .e none (.n .e none (.n .e none (.n .e none (.n .e none (.n .e (some esb_253) .e))))))) none .e)
theorem esb_253_ok: ∀e∈esb_253,e.Holds Tryz.prog x0:=fun e he=>by
 simp only [esb_253,List.mem_cons,List.not_mem_nil,or_false] at he;rcases he with rfl|rfl|rfl|rfl
 ·exact eb0_0_ok
 ·exact eb1_0_ok
 ·exact eb2_0_ok
 ·exact eb3_0_ok
theorem tab_b_all:T.All (fun _ es=> ∀e∈es,EntR.Holds Tryz.prog x0 e) tab_b 0 1:=⟨fun x hx=>(by cases hx),⟨fun x hx=>(by cases hx),trivial,⟨fun x hx=>(by cases hx),trivial,⟨fun x hx=>(by cases hx),trivial,⟨fun x hx=>(by cases hx),trivial,⟨fun x hx=>(by cases hx),trivial,⟨fun x hx=>(by cases hx),trivial,⟨fun x hx=>(by cases hx;exact esb_253_ok),trivial,trivial⟩⟩⟩⟩⟩⟩⟩,trivial⟩
theorem tab_b_ok: ∀f es,tab_b.get f=some es→ ∀e∈es,e.Holds Tryz.prog x0:=fun f es h=>T.All.of tab_b_all f es h
def E_b:Env:=(E x0).moreR tab_b
theorem ftok_b:FtOk E_b:=ftok x0
theorem soundN_b:SoundN E_b:=soundN_moreR (soundN x0) tab_b_ok
theorem soundD_b:SoundD E_b:=fun call hs nt ops tm h x tm' h' he=>evDrawP_ok tb_ok mixed hs he
theorem ev_sound_b (m n:Nat):SoundC E_b (ev E_b m n).code∧Sound Tryz.prog x0 (ev E_b m n).call:=ev_ok (E:=E_b) ftok_b tb_ok soundN_b soundD_b m n
end Go.Proofs.Kn
end
noncomputable section
namespace Go.Proofs.Kn
open Go Go.Ev
set_option maxRecDepth 100000
def ec0_0:EntR:={f:=195,args:=[(.agg [(.val (.int .i64 1)),(.val (.int .i64 0)),(.sl 0 0 2 5)])],cells:=[(.cells [(.val (.int .i64 (-1))),(.val (.int .i64 0)),(.val (.int .i64 0)),(.sl 1 0 2 3),(.sl 2 0 2 5),(.val (.int .i64 0)),(.val (.int .i64 2)),(.val (.int .i64 5)),(.sl 3 0 1 3),(.sl 4 0 1 5)] 188),(.cells [(.val (.int .i64 0)),(.val (.int .i64 1)),(.val (.int .i64 1)),(.val (.int .i64 1)),(.val (.int .i64 4)),(.val (.int .i64 8))] 182),(.cells [(.val (.int .i64 0)),(.val (.int .i64 5)),(.val (.int .i64 6)),(.val (.int .i64 1)),(.val (.int .i64 2)),(.val (.int .i64 1)),(.val (.int .i64 3)),(.val (.int .i64 5)),(.val (.int .i64 5)),(.val (.int .i64 5))] 185),(.cells [(.val (.int .i64 2)),(.val (.int .i64 3)),(.val (.int .i64 4))] 182),(.cells [(.val (.int .i64 2)),(.val (.int .i64 4)),(.val (.int .i64 8)),(.val (.int .i64 3)),(.val (.int .i64 4))] 185)],res:=(.ret (.agg [(.val (.int .i64 1)),(.val (.int .i64 0)),(.sl 0 0 2 5),(.sl 27 0 2 1),(.sl 66 0 2 1)])),n1:=67,cells1:=[(0,(.cells [(.val (.int .i64 (-1))),(.val (.int .i64 0)),(.val (.int .i64 0)),(.sl 1 0 2 3),(.sl 2 0 2 5),(.val (.int .i64 0)),(.val (.int .i64 2)),(.val (.int .i64 5)),(.sl 3 0 1 3),(.sl 4 0 1 5)] 188)),(1,(.cells [(.val (.int .i64 0)),(.val (.int .i64 1)),(.val (.int .i64 1)),(.val (.int .i64 1)),(.val (.int .i64 4)),(.val (.int .i64 8))] 182)),(2,(.cells [(.val (.int .i64 0)),(.val (.int .i64 5)),(.val (.int .i64 6)),(.val (.int .i64 1)),(.val (.int .i64 2)),(.val (.int .i64 1)),(.val (.int .i64 3)),(.val (.int .i64 5)),(.val (.int .i64 5)),(.val (.int .i64 5))] 185)),(3,(.cells [(.val (.int .i64 2)),(.val (.int .i64 3)),(.val (.int .i64 4))] 182)),(4,(.cells [(.val (.int .i64 2)),(.val (.int .i64 4)),(.val (.int .i64 8)),(.val (.int .i64 3)),(.val (.int .i64 4))] 185)),(15,(.cells [(.val (.int .i64 1)),(.val (.int .i64 5))] 3)),(18,(.cells ([(.val (.bool true))]++(bf 255 [])) 362)),(25,(.cells [(.val (.int .i64 3))] 3)),(27,(.cells [(.sl 15 0 2 1),(.sl 25 0 1 1)] 23)),(28,(.cells ([(.val (.bool false)),(.val (.bool true)),(.val (.bool false)),(.val (.bool true))]++(bf 252 [])) 362)),(66,(.cells [(.ptr 18 0),(.ptr 28 0)] 360))]}
theorem ec0_0_ok:ec0_0.Holds Tryz.prog x0:=⟨by kernel_rfl,Ent.of_run (ev_sound_b 100000 2000).2 ec0_0.ent [0,1,2,3,4,15,18,25,27,28,66] (by kernel_rfl)⟩
end Go.Proofs.Kn
end
noncomputable section
namespace Go.Proofs.Kn
open Go Go.Ev
set_option maxRecDepth 100000
def esc_195:List EntR:=[ec0_0]
def tab_c:T (List EntR):=(.n (.n (.n .e none (.n (.n (.n (.n .e none (.n .e (some esc_195) .e)) none .e) none .e) none .e)) none .e) none .e)
theorem esc_195_ok: ∀e∈esc_195,e.Holds Tryz.prog x0:=fun e he=>by
 simp only [esc_195,List.mem_cons,List.not_mem_nil,or_false] at he;subst he;exact ec0_0_ok
theorem tab_c_all:T.All (fun _ es=> ∀e∈es,EntR.Holds Tryz.prog x0 e) tab_c 0 1:=⟨fun x hx=>(by cases hx),⟨fun x hx=>(by cases hx),⟨fun x hx=>(by cases hx),trivial,⟨fun x hx=>(by cases hx),⟨fun x hx=>(by cases hx),⟨fun x hx=>(by cases hx),⟨fun x hx=>(by cases hx),trivial,⟨fun x hx=>(by cases hx;exact esc_195_ok),trivial,trivial⟩⟩,trivial⟩,trivial⟩,trivial⟩⟩,trivial⟩,trivial⟩
theorem tab_c_ok: ∀f es,tab_c.get f=some es→ ∀e∈es,e.Holds Tryz.prog x0:=fun f es h=>T.All.of tab_c_all f es h
def E_c:Env:=(E x0).moreR tab_c
theorem ftok_c:FtOk E_c:=ftok x0
theorem soundN_c:SoundN E_c:=soundN_moreR (soundN x0) tab_c_ok
theorem soundD_c:SoundD E_c:=fun call hs nt ops tm h x tm' h' he=>evDrawP_ok tb_ok mixed hs he
theorem ev_sound_c (m n:Nat):SoundC E_c (ev E_c m n).code∧Sound Tryz.prog x0 (ev E_c m n).call:=ev_ok (E:=E_c) ftok_c tb_ok soundN_c soundD_c m n
end Go.Proofs.Kn
end
