/- Parts. -/
import Derived.Shelf.GgSortFunc.Insertion
import Derived.Test.YthimlgffanlomaaGreatDoorQW2
set_option linter.all false
open Go.Ev.T renaming get_put → xZZ
open Go.Ev.Hp renaming set_t → xZY
namespace Go.Ev
open Go Go.Proofs Go.Sort
end Go.Ev
namespace Go.Proofs.Kn
open Go Go.Ev Go.Sort
abbrev encF (M:Nat) (x:Fin (M+1)):Value:= .int .i64 (x.val:Int)
structure IsSort (P:Program) (f g:FuncId) (M:Nat):Prop where
 calls: ∀(blk cap:Nat) (d:Array (Fin (M+1))) (w:World),Holds (encF M) w blk 0 d->blk<w.heap.size->d.size<4611686018427387904->
  Calls P f #[.slice (some ⟨blk,0,none⟩) d.size cap,.func (.func g) #[] #[]] w fun e w'=>e= .returned (.tuple #[])/\ ∃n os,w'=sortWorld (encF M) w blk 0 n (d.toList.mergeSort fun x y=>decide (y<=x)).toArray os
 none: ∀(cap:Nat) (fv:Value) (w:World),Calls P f #[.slice none 0 cap,fv] w fun e w'=>e= .returned (.tuple #[])/\w'=w
end Go.Proofs.Kn
namespace Go.Proofs.Kn
open Go Go.Ev
theorem qD2 {N:Nat} {h:Hp}: ∀(mks:List Nat) (hg:Hp),(∀d∈mks,N<=d/\d<hg.n/\hg.t.get d=some .deferred)->mks.Nodup->Fr N h hg-> ∃h',vK mks hg=some h'/\Fr N h h'
 |[],hg,_,_,f=>⟨hg,rfl,f⟩
 |d::ds,hg,hd,hn,f=>by
  obtain ⟨h1,h2⟩:=List.nodup_cons.1 hn;obtain ⟨a1,a2,a3⟩:=hd d List.mem_cons_self;obtain ⟨h',e,f'⟩:=qD2 ds (hg.del d) (fun x hx=>by
   obtain ⟨b1,b2,b3⟩:=hd x (List.mem_cons_of_mem _ hx);refine ⟨b1,b2,?_⟩;rw [Hp.del_t,xZZ,if_neg (fun q=>h1 (by rw [<-q];exact hx))];exact b3) h2 (f.del a1 a2)
  refine ⟨h',?_,f'⟩;show (match hg.t.get d with|some .deferred=>vK ds (hg.del d)|_=>none)=some h';rw [a3];exact e
structure SInv (h hB:Hp) (p:Nat) (hg:Hp) (mks:List Nat) (vz:AV) (L:List Int):Prop where
 fr:Fr h.n h hg
 le:hB.n<=hg.n
 low: ∀k,k<hB.n->k≠p->hg.t.get k=hB.t.get k
 pz:hg.t.get p=some (.cells [vz] 31)
 own:OwnSl hg hB.n 1 3 vz L.length (ivs L)
 nd:mks.Nodup
 mrk: ∀d∈mks,hB.n<=d/\d<hg.n/\hg.t.get d=some .deferred
 nz:L=[]->vz= .val (.slice none 0 0)
section
variable {h hB hg h':Hp} {p:Nat} {mks:List Nat} {vz:AV} {L:List Int}
theorem SInv.keep (s:SInv h hB p hg mks vz L) (hp:p<hB.n) (hn:h.n<=hB.n) {n:Nat} (f:Fr n hg h') (hg':hg.n<=n):SInv h hB p h' mks vz L:=
 ⟨s.fr.trans f (by have:=s.le;omega),by have:=s.le;have:=f.le;omega,fun k h1 h2=>(f.at_ k (.inl (by have:=s.le;omega))).trans (s.low k h1 h2),(f.at_ p (.inl (by have:=s.le;omega))).trans s.pz,s.own.fr f hg',s.nd,fun d hd=>by
  obtain ⟨a1,a2,a3⟩:=s.mrk d hd;have:=f.le;exact ⟨a1,by omega,(f.at_ d (.inl (by omega))).trans a3⟩,s.nz⟩
theorem SInv.mark (s:SInv h hB p hg mks vz L) {d:Nat} (h1:hB.n<=d) (h2:d<hg.n) (h3:hg.t.get d=some .deferred) (h4:d ∉ mks):SInv h hB p hg (d::mks) vz L:=
 ⟨s.fr,s.le,s.low,s.pz,s.own,List.nodup_cons.2 ⟨h4,s.nd⟩,fun x hx=>by
  rcases List.mem_cons.1 hx with rfl|hx
  ·exact ⟨h1,h2,h3⟩
  ·exact s.mrk x hx,s.nz⟩
theorem SInv.add (s:SInv h hB p hg mks vz L) {xt:Xt} (hp:p<hB.n) (hn:h.n<=p) (x:Int) (hL:L.length<=1000000):
  ∃vz' h',qT Tryz.prog tb xt .append [31,31] [vz,.sl hg.n 0 1 1] (hg.new (.cells [iv x] 3))=some (vz',h')/\Go.Ev.one vz'=true/\cellsOf vz'=[vz']/\h'.t.get p=some (.cells [vz] 31)/\hg.n<=h'.n/\(∀k,k<hg.n->(∀off n e,vz≠ .sl k off n e)->h'.t.get k=hg.t.get k)/\SInv h hB p (h'.set p (.cells [vz'] 31)) mks vz' (L++[x])/\vz'= .sl (hg.n+1) 0 (L.length+1) 1:=by
 have hle:=s.le;obtain ⟨h7,p1,p2,p3,p4,p5⟩:=(s.own.new (.cells [iv x] 3)).append2 (P:=Tryz.prog) (xt:=xt) (x:= .sl hg.n 0 1 1) (m:=1) (cz:=[iv x]) (by simp only [Hp.new_n];omega) vX rfl tg3 rfl (show te3.bytes=8 from rfl) vX rfl (vU (e:=3) (uI _ _) rfl rfl) (by omega) rfl (by omega) (by omega);simp only [Hp.new_n] at p1 p2 p4 p5;have f7:Fr hB.n hg h7:=((Fr.refl hle).new _).trans p3 (Nat.le_refl _);have keep: ∀k,k<hg.n->(∀off n e,vz≠ .sl k off n e)->h7.t.get k=hg.t.get k:=fun k hk hv=>(p5 k (by omega) hv).trans (gH _ _ hk);have e: ∀y,y≠p->(h7.set p (.cells [.sl (hg.n+1) 0 (L.length+1) 1] 31)).t.get y=h7.t.get y:=fun y hy=>by rw [xZY,xZZ,if_neg hy]
 have hvb: ∀d,d<hg.n->hB.n<=d->hg.t.get d=some .deferred-> ∀off n e,vz≠ .sl d off n e:=fun d _ _ hd off n e q=>by
  rcases s.own with ⟨_,_,q2⟩|⟨b,q2,_,_,q3,_⟩
  ·rw [q2] at q;cases q
  ·rw [q2] at q;have:=(AV.sl.inj q).1;rw [this] at q3;rw [hd] at q3;cases q3
 refine ⟨_,h7,p1,rfl,rfl,(f7.at_ p (.inl hp)).trans s.pz,by omega,keep,⟨?_,?_,fun k h1 h2=> ?_,?_,?_,s.nd,fun d hd=> ?_,fun e=>by simp at e⟩,rfl⟩
 ·exact (s.fr.trans f7 (by omega)).set (by omega) (by omega) _
 ·show hB.n<=h7.n;omega
 ·exact (e k h2).trans ((f7.at_ k (.inl h1)).trans (s.low k h1 h2))
 ·rw [xZY,xZZ,if_pos rfl]
 ·have e1:ivs (L++[x])=ivs L++[iv x]:=by simp [ivs]
  rw [e1,List.length_append,List.length_singleton];exact p2.keep (Nat.le_refl _) fun k h1 h2=>e k (by omega)
 ·obtain ⟨a1,a2,a3⟩:=s.mrk d hd;refine ⟨a1,by show d<h7.n;omega,(e d (by omega)).trans ((keep d a2 (hvb d a2 a1 a3)).trans a3)⟩
theorem SInv.put (s:SInv h hB p hg mks vz L) (hn:h.n<=hB.n) (hp:p<hB.n) {b:Nat} (hv:vz= .sl b 0 L.length 1) (h0:L≠[]) {L':List Int} (hl:L'.length=L.length):SInv h hB p (hg.set b (.cells (ivs L') 3)) mks vz L':=by
 rcases s.own with ⟨_,_,q⟩|⟨b',q,q1,q2,q3,q4⟩
 ·rw [q] at hv;cases hv
 ·rw [q] at hv;have:=(AV.sl.inj hv).1;subst this;have e: ∀x,x≠b'->(hg.set b' (.cells (ivs L') 3)).t.get x=hg.t.get x:=fun x hx=>by rw [xZY,xZZ,if_neg hx]
  refine ⟨s.fr.set (by omega) q2 _,s.le,fun x h1 h2=>(e x (by omega)).trans (s.low x h1 h2),(e p (by omega)).trans s.pz,?_,s.nd,fun d hd=> ?_,fun e'=> ?_⟩
  ·refine .inr ⟨b',by rw [q,hl],q1,q2,by rw [xZY,xZZ,if_pos rfl],by rw [vC];omega⟩
  ·obtain ⟨a1,a2,a3⟩:=s.mrk d hd;refine ⟨a1,a2,(e d (fun q'=> ?_)).trans a3⟩;rw [q',q3] at a3;cases a3
  ·rw [e'] at hl;exact absurd (List.length_eq_zero_iff.1 hl.symm) h0
end
end Go.Proofs.Kn
