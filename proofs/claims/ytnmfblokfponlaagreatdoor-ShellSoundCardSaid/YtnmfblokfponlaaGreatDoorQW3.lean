/- MvW9, MvW10, MvW11, KnSort, MvW13: texts in a row, joined by a program. -/
import Derived.Shelf.GgSortFunc.Insertion
import Derived.Ground.SlsfProg
import Derived.Shelf.SlSortCmp.NoneTotal
import Derived.Test.YtnmfblokfponlaaGreatDoorProg
import Derived.WalkKit
import Derived.IntWalk
import Derived.Lib.SortBridge
import Derived.Test.YtnmfblokfponlaaGreatDoorQW2
set_option linter.all false
open Array renaming getElem?_toList → xZZ, getElem?_eq_some_iff → xZU, getElem?_eq_getElem → xZS
open List renaming getElem?_eq_getElem → xZY, mem_range → xZX, getElem?_map → xZW, map_cons → xZR, mem_cons_of_mem → xZP, mem_cons_self → xZO, getElem?_take → xZN, any_eq_false → xZL, any_eq_true → xZK
open Go.Ev.T renaming get_put → xZV
open Nat renaming le_refl → xZT
open Go.Ev.Hp renaming set_t → xZQ
open Option renaming map_some → xZM
open Int renaming toNat_natCast → xZJ
namespace Go.Ev
open Go Go.Proofs Go.Sort
theorem Stp.sorted {α:Type} [Inhabited α] {enc:α->Value} {lim:Nat} {c:Ctx} {h:Hp} {w:World} (g:Good lim c h w) {b:Nat} {cs cs':List AV} {e:TypeId} (hb:h.t.get b=some (.cells cs e)) {n:Nat} {dk:Array α} {os:Array Obj} (hs:dk.size=cs.length) (hl:cs'.length=cs.length) (hr:RL c cs' (dk.toList.map enc)):
  Stp lim c h w c (h.set b (.cells cs' e)) (sortWorld enc w (c.ρ b) 0 n dk os):=by
 have s1:Stp lim c h w c h (Go.Sort.ahead w n):=Stp.drawn g _;obtain ⟨_,o',ho,hro⟩:=s1.good.live b _ hb;simp only [RO] at hro;obtain ⟨xs,rfl,q1,q2,q3⟩:=hro;have hRO:RO c b (.cells cs' e) (.cells (putCells enc 0 dk xs) e (0,0)):=by
  simp only [RO];refine ⟨_,rfl,by rw [<-q1];simp [putCells],by rw [hl];simpa [putCells] using q2,?_⟩;have:(putCells enc 0 dk xs).toList.take cs'.length=dk.toList.map enc:=by
   rw [hl];apply List.ext_getElem?
   intro j;rw [xZN,xZW];by_cases hj:j<cs.length
   ·rw [if_pos hj,xZZ,xZZ];simp only [putCells,Array.getElem?_mapIdx];rw [xZS (by omega:j<xs.size),xZS (by omega:j<dk.size)];simp only [xZM,Nat.zero_add,Nat.sub_zero];rw [if_pos ⟨by omega,by omega⟩]
    congr 2
    exact getElem!_pos dk j (by omega)
   ·rw [if_neg hj,xZZ,Array.getElem?_eq_none (by omega)];rfl
  rw [this];exact hr
 have s2:Stp lim c h (Go.Sort.ahead w n) c (h.set b (.cells cs' e)) (putRow enc (Go.Sort.ahead w n) (c.ρ b) 0 dk):=by
  refine Stp.write s1.good _ hb _ hRO ?_;unfold putRow mapBlock
  congr 1
  apply Array.ext_getElem?
  intro k;rw [Array.getElem?_modify,Array.getElem?_setIfInBounds];by_cases hk:c.ρ b=k
  ·subst hk;have hlt:=(xZU.1 ho).1;rw [if_pos rfl,if_pos rfl,if_pos hlt,ho];rfl
  ·rw [if_neg hk,if_neg hk]
 have s3:Stp lim c (h.set b (.cells cs' e)) (putRow enc (Go.Sort.ahead w n) (c.ρ b) 0 dk) c (h.set b (.cells cs' e)) (Go.Sort.grow (putRow enc (Go.Sort.ahead w n) (c.ρ b) 0 dk) os):=by
  refine Stp.below s2.good ⟨rfl,rfl,rfl,by simp [Go.Sort.grow],fun k hk=> ?_⟩;simp only [Go.Sort.grow];exact Array.getElem?_append_left hk
 exact (s1.trans s2).trans s3
end Go.Ev
namespace Go.Proofs.Kn
open Go Go.Ev Go.Sort
abbrev encF (M:Nat) (x:Fin (M+1)):Value:= .int .i64 (x.val:Int)
structure IsSort (P:Program) (f g:FuncId) (M:Nat):Prop where
 calls: ∀(blk cap:Nat) (d:Array (Fin (M+1))) (w:World),Holds (encF M) w blk 0 d->blk<w.heap.size->d.size<4611686018427387904->
  Calls P f #[.slice (some ⟨blk,0,none⟩) d.size cap,.func (.func g) #[] #[]] w fun e w'=>e= .returned (.tuple #[])/\ ∃n os,w'=sortWorld (encF M) w blk 0 n (d.toList.mergeSort fun x y=>decide (y<=x)).toArray os
 none: ∀(cap:Nat) (fv:Value) (w:World),Calls P f #[.slice none 0 cap,fv] w fun e w'=>e= .returned (.tuple #[])/\w'=w
def dsc (l:List Int):List Int:=l.mergeSort fun x y=>decide (y<=x)
theorem qA2 (l:List Int):(dsc l).length=l.length:=List.length_mergeSort _
theorem fin_map {M:Nat} {l:List Int} (hb: ∀x∈l,0<=x/\x<=(M:Int)): ∃d:List (Fin (M+1)),d.map (fun x=>(x.val:Int))=l:=by
 induction l with
 |nil=>exact ⟨[],rfl⟩
 |cons x l ih=>
  obtain ⟨d,hd⟩:=ih fun y hy=>hb y (xZP _ hy);have hx:=hb x xZO;exact ⟨⟨x.toNat,by omega⟩::d,by rw [xZR,hd];congr 1;show ((x.toNat:Nat):Int)=x;omega⟩
theorem sortf_c {g M:Nat} (xt:Addr->Option Value) {f:FuncId} {fn:Func} (hS:IsSort (SE xt).P f g M) (hfn:(SE xt).ft.get f=some fn) (hbd:fn.body.isSome=true) (h:Hp) (b:Nat) (l:List Int) (h0:0<l.length) (hl:l.length<=1000000) (hbl:b<h.n) (hb: ∀x∈l,0<=x/\x<=(M:Int)) (hm:h.t.get b=some (.cells (ivs l) 3))
  {K:CR->Hp->Prop} (hk:K (.ret (.tup [])) (h.set b (.cells (ivs (dsc l)) 3))):FnA (SE xt) f [.sl b 0 l.length 1,.val (.func (.func g) #[] #[])] h K:=by
 refine ⟨.ret (.tup []),h.set b (.cells (ivs (dsc l)) 3),⟨xZT _,⟨fn,hfn,hbd⟩,fun lim hlim c w args' gd hxt ha=> ?_⟩,hk⟩;obtain ⟨d,hd⟩:=fin_map hb;have hdl:d.length=l.length:=by rw [<-hd,List.length_map]
 simp only [RL,R] at ha;obtain ⟨x,xs,rfl,⟨_,ad,cap,rfl,hcap,had,_⟩,y,ys,rfl,rfl,rfl⟩:=ha;obtain ⟨_,o',ho,hro⟩:=gd.live b _ hm;simp only [RO] at hro;obtain ⟨vs,rfl,hsz,hcl,hrl⟩:=hro;have had:=had (by omega);subst had;have hbk:c.ρ b<w.heap.size:=(xZU.1 ho).1;have hil:(ivs l).length=l.length:=gM l;have hvals:vs.toList.take l.length=l.map fun x=>Value.int .i64 x:=by
  rw [hil] at hrl;have: ∀(l:List Int) (ys:List Value),RL c (ivs l) ys->ys=l.map fun x=>Value.int .i64 x:=by
   intro l;induction l with
   |nil=>intro ys h;simpa [ivs,RL] using h
   |cons x l ih=>
    intro ys h;simp only [ivs,xZR,RL,R] at h;obtain ⟨y,ys',rfl,rfl,h2⟩:=h;rw [ih ys' h2];rfl
  exact this l _ hrl
 have hcell: ∀j,j<l.length->vs[j]? =some (Value.int .i64 l[j]!):=fun j hj=>by
  have:(vs.toList.take l.length)[j]? =some (Value.int .i64 l[j]!):=by
   rw [hvals,xZW,xZY hj,getElem!_pos l j hj];rfl
  rw [xZN,if_pos hj,xZZ] at this;exact this
 have hH:Holds (encF M) w (c.ρ b) 0 d.toArray:=fun j hj=>by
  have hj':j<l.length:=by simpa [hdl] using hj
  have e1:encF M d.toArray[j]! =Value.int .i64 l[j]! :=by
   have:(d.map fun x=>(x.val:Int))[j]? =some l[j]! :=by rw [hd,xZY hj',getElem!_pos l j hj']
   rw [xZW,xZY (by omega)] at this;simp only [xZM,Option.some.injEq] at this;rw [getElem!_pos d.toArray j (by simpa using (by omega:j<d.length))];simp only [encF,List.getElem_toArray];rw [this]
  refine ⟨?_,?_⟩
  ·unfold World.cell?;simp only [ho];rw [e1];simpa using hcell j hj'
  ·unfold World.frozen?;simp only [ho];simp
 have hcall:=hS.calls (c.ρ b) cap d.toArray w hH hbk (by simp;omega);have hsz2:d.toArray.size=l.length:=by simp [hdl]
 rw [hsz2] at hcall;have hmap:(d.mergeSort fun x y=>decide (y<=x)).map (fun x=>(x.val:Int))=dsc l:=by
  have:=List.map_mergeSort (r:=fun x y:Fin (M+1)=>decide (y<=x)) (s:=fun x y:Int=>decide (y<=x)) (f:=fun x:Fin (M+1)=>(x.val:Int)) (l:=d) (fun a _ b _=>decide_eq_decide.2 ⟨fun h=>Int.ofNat_le.2 h,fun h=>Int.ofNat_le.1 h⟩);rw [this,hd];rfl
 refine (callsIn_wide.2 hcall).mono ?_;rintro e w' ⟨rfl,n,os,rfl⟩;refine ⟨c,Stp.sorted gd hm (by simp [hil,hdl]) (by rw [gM,gM,qA2]) ?_,_,rfl,by simp only [R];exact ⟨_,rfl,by simp [RL]⟩⟩;have e2:(d.toArray.toList.mergeSort fun x y=>decide (y<=x)).toArray.toList.map (encF M)=(dsc l).map fun x=>Value.int .i64 x:=by
  rw [<-hmap,List.map_map];rfl
 rw [e2];have: ∀l:List Int,RL c (ivs l) (l.map fun x=>Value.int .i64 x):=by
  intro l;induction l with
  |nil=>simp [ivs,RL]
  |cons x l ih=>simp only [ivs,xZR,RL,R];exact ⟨_,_,rfl,rfl,ih⟩
 exact this _
theorem sort0_c {g M:Nat} (xt:Addr->Option Value) {f:FuncId} {fn:Func} (hS:IsSort (SE xt).P f g M) (hfn:(SE xt).ft.get f=some fn) (hbd:fn.body.isSome=true) (h:Hp)
  {K:CR->Hp->Prop} (hk:K (.ret (.tup [])) h):FnA (SE xt) f [qAP,.val (.func (.func g) #[] #[])] h K:=by
 refine ⟨_,_,⟨xZT _,⟨fn,hfn,hbd⟩,fun lim hlim c w args' gd hxt ha=> ?_⟩,hk⟩;simp only [RL,R] at ha;obtain ⟨x,xs,rfl,rfl,y,ys,rfl,rfl,rfl⟩:=ha;refine (callsIn_wide.2 (hS.none 0 _ w)).mono ?_;rintro e w' ⟨rfl,rfl⟩;exact ⟨c,Stp.refl gd,_,rfl,by simp only [R];exact ⟨_,rfl,by simp [RL]⟩⟩
end Go.Proofs.Kn
namespace Go.Proofs.Kn
open Go Go.Ev
theorem qCs {N:Nat} {h:Hp}: ∀(mks:List Nat) (hg:Hp),(∀d∈mks,N<=d/\d<hg.n/\hg.t.get d=some .deferred)->mks.Nodup->Fr N h hg-> ∃h',vD mks hg=some h'/\Fr N h h'
 |[],hg,_,_,f=>⟨hg,rfl,f⟩
 |d::ds,hg,hd,hn,f=>by
  obtain ⟨h1,h2⟩:=List.nodup_cons.1 hn;obtain ⟨a1,a2,a3⟩:=hd d xZO;obtain ⟨h',e,f'⟩:=qCs ds (hg.del d) (fun x hx=>by
   obtain ⟨b1,b2,b3⟩:=hd x (xZP _ hx);refine ⟨b1,b2,?_⟩;rw [Hp.del_t,xZV,if_neg (fun q=>h1 (by rw [<-q];exact hx))];exact b3) h2 (f.del a1 a2)
  refine ⟨h',?_,f'⟩;show (match hg.t.get d with|some .deferred=>vD ds (hg.del d)|_=>none)=some h';rw [a3];exact e
theorem end_2m {E:Env} {fn:Func} {K:CR->Hp->Prop} {tm:T AV} {nt:Nat} {h h':Hp} {mks:List Nat} {a b:Tmp} (h1:fn.results.toList=[.tmp a,.tmp b]) (hd:vD mks h=some h') (h3:K (.ret (.tup [(tm.get a).getD default,(tm.get b).getD default])) h'):wB E fn K .ret ⟨tm,nt,h,mks⟩:=by
 refine ⟨h',_,hd,by rw [h1];rfl,?_⟩;have e1:(match tm.get a with|some a=>a|none=>default)=(tm.get a).getD default:=by cases tm.get a<;>rfl
 have e2:(match tm.get b with|some a=>a|none=>default)=(tm.get b).getD default:=by cases tm.get b<;>rfl
 show K (.ret (.tup [match tm.get a with|some a=>a|none=>default,match tm.get b with|some a=>a|none=>default])) h';rw [e1,e2];exact h3
structure SInv (h hB:Hp) (p:Nat) (hg:Hp) (mks:List Nat) (vz:AV) (L:List Int):Prop where
 fr:Fr h.n h hg
 le:hB.n<=hg.n
 low: ∀k,k<hB.n->k≠p->hg.t.get k=hB.t.get k
 pz:hg.t.get p=some (.cells [vz] 75)
 own:OwnSl hg hB.n 1 3 vz L.length (ivs L)
 nd:mks.Nodup
 mrk: ∀d∈mks,hB.n<=d/\d<hg.n/\hg.t.get d=some .deferred
 nz:L=[]->vz= .val (.slice none 0 0)
section
variable {h hB hg h':Hp} {p:Nat} {mks:List Nat} {vz:AV} {L:List Int}
theorem SInv.keep (s:SInv h hB p hg mks vz L) (hp:p<hB.n) (hn:h.n<=hB.n) {n:Nat} (f:Fr n hg h') (hg':hg.n<=n):SInv h hB p h' mks vz L:=
 ⟨s.fr.trans f (by have:=s.le;omega),by have:=s.le;have:=f.le;omega,fun k h1 h2=>(f.at_ k (.inl (by have:=s.le;omega))).trans (s.low k h1 h2),(f.at_ p (.inl (by have:=s.le;omega))).trans s.pz,s.own.fr f hg',s.nd,fun d hd=>by
  obtain ⟨a1,a2,a3⟩:=s.mrk d hd;have:=f.le;exact ⟨a1,by omega,(f.at_ d (.inl (by omega))).trans a3⟩,s.nz⟩
theorem SInv.mark (s:SInv h hB p hg mks vz L) {d:Nat} (h1:hB.n<=d) (h2:d<hg.n) (h3:hg.t.get d=some .deferred) (h4:d ∉ mks):SInv h hB p hg (d::mks) vz L:=
 ⟨s.fr,s.le,s.low,s.pz,s.own,List.nodup_cons.2 ⟨h4,s.nd⟩,fun x hx=>by
  rcases List.mem_cons.1 hx with rfl|hx
  ·exact ⟨h1,h2,h3⟩
  ·exact s.mrk x hx,s.nz⟩
theorem SInv.setB (s:SInv h hB p hg mks vz L) (hn:h.n<=hB.n) {k:Nat} (hp:p<hB.n) (hk:hB.n<=k) (hk2:k<hg.n) (hm:k ∉ mks) (hv: ∀off n e,vz≠ .sl k off n e) (o:AO):SInv h hB p (hg.set k o) mks vz L:=by
 have e: ∀x,x≠k->(hg.set k o).t.get x=hg.t.get x:=fun x hx=>by rw [xZQ,xZV,if_neg hx]
 refine ⟨s.fr.set (by omega) hk2 _,s.le,fun x h1 h2=>(e x (by omega)).trans (s.low x h1 h2),(e p (by omega)).trans s.pz,?_,s.nd,fun d hd=> ?_,s.nz⟩
 ·rcases s.own with q|⟨b,rfl,q1,q2,q3,q4⟩
  ·exact .inl q
  ·exact .inr ⟨b,rfl,q1,q2,(e b (fun q=>hv 0 _ _ (by rw [q]))).trans q3,q4⟩
 ·obtain ⟨a1,a2,a3⟩:=s.mrk d hd;exact ⟨a1,a2,(e d (fun q=>hm (by rw [<-q];exact hd))).trans a3⟩
theorem SInv.add (s:SInv h hB p hg mks vz L) {xt:Addr->Option Value} (hp:p<hB.n) (hn:h.n<=p) (x:Int) (hL:L.length<=1000000):
  ∃vz' h',qT Tryz.prog tb xt .append [75,75] [vz,.sl hg.n 0 1 1] (hg.new (.cells [iv x] 3))=some (vz',h')/\Go.Ev.one vz'=true/\cellsOf vz'=[vz']/\h'.t.get p=some (.cells [vz] 75)/\hg.n<=h'.n/\(∀k,k<hg.n->(∀off n e,vz≠ .sl k off n e)->h'.t.get k=hg.t.get k)/\SInv h hB p (h'.set p (.cells [vz'] 75)) mks vz' (L++[x])/\vz'= .sl (hg.n+1) 0 (L.length+1) 1:=by
 have hle:=s.le;obtain ⟨h7,p1,p2,p3,p4,p5⟩:=(s.own.new (.cells [iv x] 3)).append2 (P:=Tryz.prog) (xt:=xt) (x:= .sl hg.n 0 1 1) (m:=1) (cz:=[iv x]) (by simp only [Hp.new_n];omega) qAJ rfl tg3 rfl (show te3.bytes=8 from rfl) qAJ rfl (gB (e:=3) (qX _ _) rfl rfl) (by omega) rfl (by omega) (by omega);simp only [Hp.new_n] at p1 p2 p4 p5;have f7:Fr hB.n hg h7:=((Fr.refl hle).new _).trans p3 (xZT _);have keep: ∀k,k<hg.n->(∀off n e,vz≠ .sl k off n e)->h7.t.get k=hg.t.get k:=fun k hk hv=>(p5 k (by omega) hv).trans (qW _ _ hk);have e: ∀y,y≠p->(h7.set p (.cells [.sl (hg.n+1) 0 (L.length+1) 1] 75)).t.get y=h7.t.get y:=fun y hy=>by rw [xZQ,xZV,if_neg hy]
 have hvb: ∀d,d<hg.n->hB.n<=d->hg.t.get d=some .deferred-> ∀off n e,vz≠ .sl d off n e:=fun d _ _ hd off n e q=>by
  rcases s.own with ⟨_,_,q2⟩|⟨b,q2,_,_,q3,_⟩
  ·rw [q2] at q;cases q
  ·rw [q2] at q;have:=(AV.sl.inj q).1;rw [this] at q3;rw [hd] at q3;cases q3
 refine ⟨_,h7,p1,rfl,rfl,(f7.at_ p (.inl hp)).trans s.pz,by omega,keep,⟨?_,?_,fun k h1 h2=> ?_,?_,?_,s.nd,fun d hd=> ?_,fun e=>by simp at e⟩,rfl⟩
 ·exact (s.fr.trans f7 (by omega)).set (by omega) (by omega) _
 ·show hB.n<=h7.n;omega
 ·exact (e k h2).trans ((f7.at_ k (.inl h1)).trans (s.low k h1 h2))
 ·rw [xZQ,xZV,if_pos rfl]
 ·have e1:ivs (L++[x])=ivs L++[iv x]:=by simp [ivs]
  rw [e1,List.length_append,List.length_singleton];exact p2.keep (xZT _) fun k h1 h2=>e k (by omega)
 ·obtain ⟨a1,a2,a3⟩:=s.mrk d hd;refine ⟨a1,by show d<h7.n;omega,(e d (by omega)).trans ((keep d a2 (hvb d a2 a1 a3)).trans a3)⟩
theorem SInv.put (s:SInv h hB p hg mks vz L) (hn:h.n<=hB.n) (hp:p<hB.n) {b:Nat} (hv:vz= .sl b 0 L.length 1) (h0:L≠[]) {L':List Int} (hl:L'.length=L.length):SInv h hB p (hg.set b (.cells (ivs L') 3)) mks vz L':=by
 rcases s.own with ⟨_,_,q⟩|⟨b',q,q1,q2,q3,q4⟩
 ·rw [q] at hv;cases hv
 ·rw [q] at hv;have:=(AV.sl.inj hv).1;subst this;have e: ∀x,x≠b'->(hg.set b' (.cells (ivs L') 3)).t.get x=hg.t.get x:=fun x hx=>by rw [xZQ,xZV,if_neg hx]
  refine ⟨s.fr.set (by omega) q2 _,s.le,fun x h1 h2=>(e x (by omega)).trans (s.low x h1 h2),(e p (by omega)).trans s.pz,?_,s.nd,fun d hd=> ?_,fun e'=> ?_⟩
  ·refine .inr ⟨b',by rw [q,hl],q1,q2,by rw [xZQ,xZV,if_pos rfl],by rw [gM];omega⟩
  ·obtain ⟨a1,a2,a3⟩:=s.mrk d hd;refine ⟨a1,a2,(e d (fun q'=> ?_)).trans a3⟩;rw [q',q3] at a3;cases a3
  ·rw [e'] at hl;exact absurd (List.length_eq_zero_iff.1 hl.symm) h0
end
def Wk.bar (w:Wk) (s:Int×Int×Int):Bool:=(List.range (w.tb s.2.2.toNat).1.toNat).any fun i=>(List.range (w.tb s.2.2.toNat).1.toNat).any fun j=>w.m.bare ((s.1.toNat+i:Nat):Int) ((s.2.1.toNat+j:Nat):Int)
def Wk.lvs (w:Wk) (G:Th.Grid) (ls:List (Int×Int×Int)):List Int:=(ls.filter w.bar).map (w.lv G)
theorem lvs_succ (w:Wk) (G:Th.Grid) {ls:List (Int×Int×Int)} {i:Nat} {s:Int×Int×Int} (hx:ls[i]? =some s):w.lvs G (ls.take (i+1))=w.lvs G (ls.take i)++if w.bar s=true then [w.lv G s] else []:=by
 rw [List.take_succ,hx];simp only [Wk.lvs,Option.toList_some,List.filter_append,List.map_append];cases e:w.bar s<;>simp [e]
theorem bar_yes {w:Wk} {q n:Nat} {th wo:Int} (ht:Tub w q n th wo) {r0 c0 i j:Nat} (hi:i<n) (hj:j<n) (h:w.m.bare ((r0+i:Nat):Int) ((c0+j:Nat):Int)=true):w.bar ((r0:Int),(c0:Int),(q:Int))=true:=by
 simp only [Wk.bar,xZJ,ht.tb];exact xZK.2 ⟨i,xZX.2 hi,xZK.2 ⟨j,xZX.2 hj,h⟩⟩
theorem bar_no {w:Wk} {q n:Nat} {th wo:Int} (ht:Tub w q n th wo) {r0 c0:Nat} (h: ∀i,i<n-> ∀j,j<n->w.m.bare ((r0+i:Nat):Int) ((c0+j:Nat):Int)=false):w.bar ((r0:Int),(c0:Int),(q:Int))=false:=by
 simp only [Wk.bar,xZJ,ht.tb];rw [xZL];intro i hi;rw [Bool.not_eq_true,xZL];intro j hj;rw [h i (xZX.1 hi) j (xZX.1 hj)]
 decide
def p9 (L:List Int) (H:Int):Int:=vK ((dsc L).take (min L.length H.toNat)) (min L.length H.toNat)
def Wk.psound (w:Wk) (ls:List (Int×Int×Int)):Int×Int:=
 if (w.ok && w.cut ls)=true then
  match w.m.bnd with
  |none=>(0,7)
  |some G=>(w.V G ls - p9 (w.lvs G ls) w.m.H,0)
 else (0,2)
end Go.Proofs.Kn
namespace Go.Proofs
open Go.Shelf
def Tryz.laysSlF6_f102_ren:Go.Shelf.Ren:=⟨fun|6=>102|15=>168|14=>167|28=>208|29=>209|20=>200|21=>201|22=>202|23=>203|24=>204|25=>205|26=>206|27=>207|46=>226|47=>227|48=>228|49=>229|50=>230|57=>248|n=>n,fun|22=>75|24=>3|25=>152|3=>3|39=>215|0=>0|53=>257|55=>259|4=>4|46=>251|45=>250|50=>102|5=>5|9=>9|66=>273|70=>277|76=>295|77=>204|n=>n,fun|n=>n⟩
theorem Tryz.laysSlF6_f102:Go.Proofs.SlLaysF.n6 Tryz.prog Tryz.laysSlF6_f102_ren:={
 mixed:=by kernel_rfl
 f6:=⟨Tryz.f102.name,by decide,Tryz.func102.trans (congrArg some (by kernel_rfl))⟩
 f14:=⟨Tryz.f167.name,by decide,Tryz.func167.trans (congrArg some (by kernel_rfl))⟩
 f15:=Tryz.func168.trans (congrArg some (by kernel_rfl))
 f20:=⟨Tryz.f200.name,by decide,Tryz.func200.trans (congrArg some (by kernel_rfl))⟩
 f21:=⟨Tryz.f201.name,by decide,Tryz.func201.trans (congrArg some (by kernel_rfl))⟩
 f22:=⟨Tryz.f202.name,by decide,Tryz.func202.trans (congrArg some (by kernel_rfl))⟩
 f23:=⟨Tryz.f203.name,by decide,Tryz.func203.trans (congrArg some (by kernel_rfl))⟩
 f24:=⟨Tryz.f204.name,by decide,Tryz.func204.trans (congrArg some (by kernel_rfl))⟩
 f25:=⟨Tryz.f205.name,by decide,Tryz.func205.trans (congrArg some (by kernel_rfl))⟩
 f26:=⟨Tryz.f206.name,by decide,Tryz.func206.trans (congrArg some (by kernel_rfl))⟩
 f27:=⟨Tryz.f207.name,by decide,Tryz.func207.trans (congrArg some (by kernel_rfl))⟩
 f28:=Tryz.func208.trans (congrArg some (by kernel_rfl))
 f29:=Tryz.func209.trans (congrArg some (by kernel_rfl))
 f46:=⟨Tryz.f226.name,by decide,Tryz.func226.trans (congrArg some (by kernel_rfl))⟩
 f47:=Tryz.func227.trans (congrArg some (by kernel_rfl))
 f48:=Tryz.func228.trans (congrArg some (by kernel_rfl))
 f49:=⟨Tryz.f229.name,by decide,Tryz.func229.trans (congrArg some (by kernel_rfl))⟩
 f50:=⟨Tryz.f230.name,by decide,Tryz.func230.trans (congrArg some (by kernel_rfl))⟩
 f57:=⟨Tryz.f248.name,by decide,Tryz.func248.trans (congrArg some (by kernel_rfl))⟩
 t0:=Tryz.underlying0
 a0:=Tryz.isAgg0
 z0:=Tryz.sizeOf0
 v0:=Tryz.zeroValue0
 t3:=Tryz.underlying3
 a3:=Tryz.isAgg3
 z3:=Tryz.sizeOf3
 v3:=Tryz.zeroValue3
 t4:=Tryz.underlying4
 a4:=Tryz.isAgg4
 z4:=Tryz.sizeOf4
 v4:=Tryz.zeroValue4
 t5:=Tryz.underlying5
 a5:=Tryz.isAgg5
 z5:=Tryz.sizeOf5
 v5:=Tryz.zeroValue5
 t9:=Tryz.underlying9
 a9:=Tryz.isAgg9
 z9:=Tryz.sizeOf9
 v9:=Tryz.zeroValue9
 t22:=Tryz.underlying75
 a22:=Tryz.isAgg75
 z22:=Tryz.sizeOf75
 v22:=Tryz.zeroValue75
 a24:=Tryz.isAgg3
 z24:=Tryz.sizeOf3
 t25:=Tryz.underlying152
 a25:=Tryz.isAgg152
 z25:=Tryz.sizeOf152
 v25:=Tryz.zeroValue152
 t39:=Tryz.underlying215
 a39:=Tryz.isAgg215
 z39:=Tryz.sizeOf215
 v39:=Tryz.zeroValue215
 t45:=Tryz.underlying250
 a45:=Tryz.isAgg250
 z45:=Tryz.sizeOf250
 v45:=Tryz.zeroValue250
 t46:=Tryz.underlying251
 a46:=Tryz.isAgg251
 z46:=Tryz.sizeOf251
 v46:=Tryz.zeroValue251
 t50:=Tryz.underlying102
 a50:=Tryz.isAgg102
 z50:=Tryz.sizeOf102
 v50:=Tryz.zeroValue102
 t53:=Tryz.underlying257
 a53:=Tryz.isAgg257
 z53:=Tryz.sizeOf257
 v53:=Tryz.zeroValue257
 t55:=Tryz.underlying259
 a55:=Tryz.isAgg259
 z55:=Tryz.sizeOf259
 v55:=Tryz.zeroValue259
 t66:=Tryz.underlying273
 a66:=Tryz.isAgg273
 z66:=Tryz.sizeOf273
 v66:=Tryz.zeroValue273
 t70:=Tryz.underlying277
 a70:=Tryz.isAgg277
 z70:=Tryz.sizeOf277
 v70:=Tryz.zeroValue277
 t76:=Tryz.underlying295
 a76:=Tryz.isAgg295
 z76:=Tryz.sizeOf295
 v76:=Tryz.zeroValue295
 t77:=Tryz.underlying204
 a77:=Tryz.isAgg204
 z77:=Tryz.sizeOf204
 v77:=Tryz.zeroValue204}
end Go.Proofs
namespace Go.Proofs.Kn
open Go Go.Shelf Go.RowKit Go.Lib Go.Sort
def cfF (M:Nat) (x y:Fin (M+1)):Int:=(y.val:Int) - (x.val:Int)
theorem ltF (M:Nat) (x y:Fin (M+1)):ltOf (cfF M) x y=decide (y<x):=by
 unfold ltOf cfF;exact decide_eq_decide.2 ⟨fun h=>by show y.val<x.val;omega,fun h=>by have:y.val<x.val:=h;omega⟩
theorem swoF (M:Nat):SWO (ltOf (cfF M)) where
 irrefl x:=by rw [ltF];simp
 trans x y z h1 h2:=by rw [ltF] at*;simp at*;omega
 ntrans x y z h1 h2:=by rw [ltF] at*;simp at*;omega
theorem totF (M:Nat) (x y:Fin (M+1)) (h1:ltOf (cfF M) x y=false) (h2:ltOf (cfF M) y x=false):x=y:=by rw [ltF] at*;simp at*;omega
theorem geF (M:Nat):(fun x y:Fin (M+1)=> !ltOf (cfF M) y x)=fun x y=>decide (y<=x):=by
 funext x y
 rw [ltF];by_cases h:y<=x
 ·have h': ¬x<y:=by omega
  simp [h,h']
 ·have h':x<y:=by omega
  simp [h,h']
theorem qEK (x y:Int) (W:World):Calls Tryz.prog 103 #[.int .i64 x,.int .i64 y] W fun e w'=>e= .returned (.int .i64 (IntKind.i64.wrap (y - x)))/\ ∃q,w'=W.drewN q:=by
 go_enter Tryz.func103,Tryz.ntmps103
 go_wp2
 go_ret
 exact ⟨by rw [IntWalk.i64_left];rfl,0,rfl⟩
theorem cmp103 (M:Nat) (hM:M<=1000000) (blk off size:Nat) (w:World):CmpReads Tryz.prog 103 #[] (encF M) (cfF M) blk off size w:=fun m os dk hs x y=>by
 have h:=qEK (x.val:Int) (y.val:Int) (sortWorld (encF M) w blk off m dk os);have e:IntKind.i64.wrap ((y.val:Int) - (x.val:Int))=cfF M x y:=Go.Ev.wrap_i64 _ (by omega) (by omega);rw [e] at h;exact h
theorem isSort:IsSort Tryz.prog 102 103 6500:=by
 refine ⟨fun blk cap d w hH hblk hsz=> ?_,fun cap fv w=> ?_⟩
 ·have eg: ∀args w,(callFunc 103 args).run Tryz.prog w= .ok (.enter 103 args) w:=enters_of Tryz.func103 (by kernel_rfl) rfl;have h:=Any.slices_SortFunc_total Tryz.laysSlF6_f102 (encF 6500) (fun _=>rfl) (cfF 6500) (swoF 6500) 103 #[] blk 0 cap d w eg (cmp103 6500 (by omega) blk 0 d.size w).lays hH hblk hsz (totF 6500);rw [geF] at h;exact h
 ·exact AnyF.slices_SortFunc_none (P:=Tryz.prog) (ρ:=Tryz.laysSlF6_f102_ren) {Tryz.laysSlF6_f102 with} none cap fv w
end Go.Proofs.Kn
