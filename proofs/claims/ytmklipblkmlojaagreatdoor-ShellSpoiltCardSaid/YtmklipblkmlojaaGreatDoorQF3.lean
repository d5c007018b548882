/- Parts of the proof, joined by a program. -/
import Derived.Test.YtmklipblkmlojaaGreatDoorQF2
set_option linter.all false
open Nat renaming le_refl → xZZ
namespace Go.Proofs.Kn
open Go Go.Ev
set_option maxRecDepth 100000
set_option maxHeartbeats 4000000
structure SL (h hk:Hp) (ls:List (List UInt8)) (ns:List Int) (v5 v7:AV) (c d:Int) (vc:AV) (cells:List (List Int)) (vg vk vp:AV) (r:Rs) (k:Nat):Prop where
 sb:SB h hk ls ns v5 v7 [vc,iv c,iv d,vg,vk,vp]
 gr:GR hk (h.n+2) vc cells
 g:OwnSl hk (h.n+2) 4 87 vg r.gs.length (G4 r.gs)
 kk:OwnSl hk (h.n+2) 3 90 vk r.ks.length (K3 r.ks)
 p:OwnSl hk (h.n+2) 2 92 vp r.ps.length (P2 r.ps)
 n:r.gs.length<=k/\r.ks.length<=k/\r.ps.length<=k
theorem SL.fr {h hk h':Hp} {ls:List (List UInt8)} {ns:List Int} {v5 v7:AV} {c d:Int} {vc:AV} {cells:List (List Int)} {vg vk vp:AV} {r:Rs} {k:Nat} (q:SL h hk ls ns v5 v7 c d vc cells vg vk vp r k) (f:Fr hk.n hk h'):SL h h' ls ns v5 v7 c d vc cells vg vk vp r k:=
 ⟨q.sb.keep f,q.gr.keepT f.le (fun k cs h1 _ h3=>by rw [f.at_ k (.inl h1)];exact h3) (fun k cs h1 _ h3=>by rw [f.at_ k (.inl h1)];exact h3),q.g.fr f (xZZ _),q.kk.fr f (xZZ _),q.p.fr f (xZZ _),q.n⟩
theorem SL.step {h hk h':Hp} {ls:List (List UInt8)} {ns:List Int} {v5 v7:AV} {c d:Int} {vc:AV} {cells:List (List Int)} {vg vk vp:AV} {r:Rs} {k:Nat} (q:SL h hk ls ns v5 v7 c d vc cells vg vk vp r k) {e:Nat} (f:Fr (h.n+2) hk h') (hp: ∀k cs' e',e'≠e->k<hk.n->hk.t.get k=some (.cells cs' e')->h'.t.get k=some (.cells cs' e')) (he:e=87\/e=90\/e=92)
  {vg' vk' vp':AV} {r':Rs} (hg:OwnSl h' (h.n+2) 4 87 vg' r'.gs.length (G4 r'.gs)) (hkk:OwnSl h' (h.n+2) 3 90 vk' r'.ks.length (K3 r'.ks)) (hpp:OwnSl h' (h.n+2) 2 92 vp' r'.ps.length (P2 r'.ps)) (hn:r'.gs.length<=k+1/\r'.ks.length<=k+1/\r'.ps.length<=k+1):
  SL h (h'.set (h.n+1) (.cells [vc,iv c,iv d,vg',vk',vp'] 27)) ls ns v5 v7 c d vc cells vg' vk' vp' r' (k+1):=by
 have hne:e≠27/\e≠9/\e≠3/\e≠42/\e≠85:=by rcases he with rfl|rfl|rfl<;>decide
 exact ⟨q.sb.step f hp ⟨hne.1,hne.2.1,hne.2.2.1⟩,(q.gr.keepT f.le (fun k cs h1 _ h3=>hp _ _ _ (Ne.symm hne.2.2.2.1) h1 h3) (fun k cs h1 _ h3=>hp _ _ _ (Ne.symm hne.2.2.2.2) h1 h3)).set (by omega) _,u9 hg (by omega) _,u9 hkk (by omega) _,u9 hpp (by omega) _,hn⟩
end Go.Proofs.Kn
namespace Go.Proofs.Kn
open Go Go.Ev
set_option maxRecDepth 100000
set_option maxHeartbeats 4000000
end Go.Proofs.Kn
namespace Go.Proofs.Kn
open Go Go.Ev
set_option maxRecDepth 100000
set_option maxHeartbeats 4000000
end Go.Proofs.Kn
