/- Parts of the proof, joined by a program. -/
import Derived.Test.YtmklipblkmlojaaGreatDoorQF3
set_option linter.all false
open List renaming mem_cons_self → xZZ, mem_cons_of_mem → xZY, mem_nil_iff → xZX, append_assoc → xZW, mem_cons → xZV, singleton_append → xZU, mem_append → xZT, map_cons → xZS, mem_map → xZR, take_append_of_le_length → xZQ, cons_append → xZP, drop_succ_cons → xZO, take_length → xZM, all_eq_true → xZL
open Nat renaming le_refl → xZN
open Int renaming toNat_natCast → xZK
noncomputable section
namespace Go.Proofs.Kn
open Go Go.Ev
set_option maxRecDepth 100000
set_option maxHeartbeats 4000000
abbrev Md.m0 (d:Md):Mp:=d.mp jE jE jE jE
theorem dg_dig (n:Nat):kE (dg n)=true:=by
 have h:n % 10<10:=Nat.mod_lt _ (by omega);have e:(dg n).toNat=48+n % 10:=by rw [dg,UInt8.toNat_ofNat'];omega
 simp only [kE,e,Bool.and_eq_true,decide_eq_true_eq];omega
theorem dec_dig (n:Nat):(dec n).all kE=true:=by
 unfold dec;split
 ·simp [dg_dig]
 ·split<;>simp [dg_dig]
theorem kS {n:Nat} {x:UInt8} (h:kE x=false):x ∉ dec n:=fun hm=>by
 have:=xZL.1 (dec_dig n) x hm;rw [h] at this;cases this
theorem numP_all:(List.range 1000).all (fun n=>decide (xS (dec n)=some n))=true:=by decide+kernel
theorem numP_dec {n:Nat} (h:n<1000):xS (dec n)=some n:=of_decide_eq_true (xZL.1 numP_all n (List.mem_range.2 h))
theorem qDp {x:Int} (h:jK x):xS (dec x.toNat)=some x.toNat/\((x.toNat:Nat):Int)=x:=⟨numP_dec (by have:=h.1;have:=h.2;omega),by have:=h.1;omega⟩
theorem xM (c:UInt8) (e:List UInt8) (he:c ∉ e): ∀ws:List (List UInt8),(∀w∈ws,c ∉ w)->spl c ((ws.flatMap fun w=>w++[c])++e)=ws++[e]
 |[],_=>by simpa using qCr c e he
 |w::ws,h=>by
  have ih:=xM c e he ws fun x hx=>h x (xZY _ hx);rw [List.flatMap_cons,xZW,xZW,xZU,qCs c w _ (h w xZZ),ih];rfl
theorem qDf (m:Mp):spl 32 m.headB=[uG,dec m.cells.length,dec m.W,xC,dec m.T.toNat,k9,dec m.H.toNat]:=by
 have h:=xM 32 (dec m.H.toNat) (kS rfl) [uG,dec m.cells.length,dec m.W,xC,dec m.T.toNat,k9] (by
  intro w hw;simp only [xZV,xZX,or_false] at hw;rcases hw with rfl|rfl|rfl|rfl|rfl|rfl
  ·decide
  ·exact kS rfl
  ·exact kS rfl
  ·decide
  ·exact kS rfl
  ·decide)
 refine Eq.trans (congrArg (spl 32) ?_) h;rw [Mp.headB,line_6];simp [vQ,vD,Lib.join_cons,Lib.joinTail]
theorem pB (g:Int×Int×Int×Int):spl 32 (jX g)=[zL,dec g.1.toNat,dec g.2.1.toNat,dec g.2.2.1.toNat,dec g.2.2.2.toNat]:=by
 have h:=xM 32 (dec g.2.2.2.toNat) (kS rfl) [zL,dec g.1.toNat,dec g.2.1.toNat,dec g.2.2.1.toNat] (by
  intro w hw;simp only [xZV,xZX,or_false] at hw;rcases hw with rfl|rfl|rfl|rfl
  ·decide
  ·exact kS rfl
  ·exact kS rfl
  ·exact kS rfl)
 refine Eq.trans (congrArg (spl 32) ?_) h;rw [jX,qCA];simp [vQ,vD,Lib.join_cons,Lib.joinTail]
theorem way_no (b:Bool):(32:UInt8) ∉ yN b:=by cases b<;>decide
theorem yF (k:Int×Int×Bool):spl 32 (jH k)=[zB,dec k.1.toNat,dec k.2.1.toNat,yN k.2.2]:=by
 have h:=xM 32 (yN k.2.2) (way_no _) [zB,dec k.1.toNat,dec k.2.1.toNat] (by
  intro w hw;simp only [xZV,xZX,or_false] at hw;rcases hw with rfl|rfl|rfl
  ·decide
  ·exact kS rfl
  ·exact kS rfl)
 refine Eq.trans (congrArg (spl 32) ?_) h;rw [jH,line_3];simp [vQ,vD,Lib.join_cons,Lib.joinTail]
theorem yS (p:Int×Int):spl 32 (jN p)=[kB,dec p.1.toNat,dec p.2.toNat]:=by
 have h:=xM 32 (dec p.2.toNat) (kS rfl) [kB,dec p.1.toNat] (by
  intro w hw;simp only [xZV,xZX,or_false] at hw;rcases hw with rfl|rfl
  ·decide
  ·exact kS rfl)
 refine Eq.trans (congrArg (spl 32) ?_) h;rw [jN,qCA];simp [vQ,vD,Lib.join_cons,Lib.joinTail]
theorem down_suf (k:Int×Int×Bool):downW.isSuffixOf (jH k)=k.2.2:=by
 rw [Bool.eq_iff_iff,List.isSuffixOf_iff_suffix,jH,line_3];obtain ⟨a,b,t⟩:=k;cases t
 ·simp only [yN,Bool.false_eq_true,if_false,iff_false];rintro ⟨t,ht⟩;have:=congrArg (fun l=>l.reverse.head?) ht;simp at this
 ·simp only [yN,if_true,iff_true];exact ⟨zB++32::vQ [a,b],by simp⟩
theorem uX {x:List UInt8} {xs es:List (List UInt8)} (hx:x≠[]):vT (x::xs) (x::es)=vT xs es:=by
 rw [vT,if_pos hx,if_pos rfl]
theorem kZ {x:Int} {xs es:List (List UInt8)} (hx:jK x):vT (dec x.toNat::xs) ([]::es)=(vT xs es).map (x:: ·):=by
 obtain ⟨h1,h2⟩:=qDp hx;rw [vT,if_neg (fun h=>h rfl),h1];simp only [h2]
theorem k7 {x:Int} {xs:List (List UInt8)} (hx:jK x):zE (dec x.toNat::xs)=(zE xs).map (x:: ·):=by
 obtain ⟨h1,h2⟩:=qDp hx;rw [zE,h1];simp only [h2]
theorem told_head {m:Mp} (ht:Txt m) (hW:m.W<=999):zA m.headB xV=some [(m.cells.length:Int),(m.W:Int),m.T,m.H]:=by
 have h1:jK (m.cells.length:Int):=⟨by omega,by have:=ht.lc;omega⟩;have h2:jK (m.W:Int):=⟨by omega,by omega⟩;have q1:= @kZ _ [dec m.W,xC,dec m.T.toNat,k9,dec m.H.toNat] [[],xC,[],k9,[]] h1;have q2:= @kZ _ [xC,dec m.T.toNat,k9,dec m.H.toNat] [xC,[],k9,[]] h2;rw [xZK] at q1 q2;rw [zA,qDf,xV,uX (by decide),q1,q2,uX (by decide),kZ ht.T,uX (by decide),kZ ht.H];rfl
theorem headR_mk {m:Mp} (ht:Txt m) (hW:m.W<=999):uQ (spl 32 m.headB)=some [(m.cells.length:Int),(m.W:Int),m.T,m.H]:=by
 have h1:jK (m.cells.length:Int):=⟨by omega,by have:=ht.lc;omega⟩;have h2:jK (m.W:Int):=⟨by omega,by omega⟩;have q1:= @k7 _ [dec m.W,dec m.T.toNat,dec m.H.toNat] h1;have q2:= @k7 _ [dec m.T.toNat,dec m.H.toNat] h2;rw [xZK] at q1 q2;rw [uQ,qDf];show zE [dec m.cells.length,dec m.W,dec m.T.toNat,dec m.H.toNat]=_;rw [q1,q2,k7 ht.T,k7 ht.H];rfl
theorem cell_mk {x:Int} (h:1<=x/\x<=3):xH ((mkB x).toNat:Int)=some x/\xY (mkB x)=x:=by
 rcases (by omega:x=1\/x=2\/x=3) with rfl|rfl|rfl<;>decide
theorem rowP_mk: ∀{l:List Int},(∀x∈l,1<=x/\x<=3)->xQ (yL l)=some l/\xP (yL l)=l
 |[],_=>⟨rfl,rfl⟩
 |x::l,h=>by
  obtain ⟨a1,a2⟩:=cell_mk (h x xZZ);obtain ⟨b1,b2⟩:=rowP_mk fun y hy=>h y (xZY _ hy);refine ⟨?_,?_⟩
  ·show xQ (mkB x::yL l)=_;rw [xQ,a1];simp only [b1];rfl
  ·show xY (mkB x)::xP (yL l)=_;rw [a2,b2]
theorem qDi {w:Nat}: ∀{ls:List (List Int)},(∀l∈ls,(∀x∈l,1<=x/\x<=3)/\l.length=w)->vA w (ls.map yL)=some ls/\vK w (ls.map yL)=some ls
 |[],_=>⟨rfl,rfl⟩
 |l::ls,h=>by
  obtain ⟨h1,h2⟩:=h l xZZ;obtain ⟨b1,b2⟩:=qDi fun y hy=>h y (xZY _ hy);obtain ⟨r1,r2⟩:=rowP_mk h1;rw [xZS,vA,r1,vK,b2,r2];simp only [b1];have hl:(yL l).length=l.length:=by simp [yL]
  exact ⟨if_pos (by omega),if_pos (by omega)⟩
theorem qEa {g:Int×Int×Int×Int} (h:jK g.1/\jK g.2.1/\jK g.2.2.1/\jK g.2.2.2) (r:Rs):vW (jX g) r=some {r with gs:=r.gs++[g]}/\kD (jX g) r=some {r with gs:=r.gs++[g]}:=by
 obtain ⟨h1,h2,h3,h4⟩:=h;constructor
 ·have e:zA (jX g) [zL,[],[],[],[]]=some [g.1,g.2.1,g.2.2.1,g.2.2.2]:=by
   rw [zA,pB,uX (by decide),kZ h1,kZ h2,kZ h3,kZ h4];rfl
  rw [vW,if_pos (by rw [pB];rfl),e]
 ·have e:zE ((spl 32 (jX g)).drop 1)=some [g.1,g.2.1,g.2.2.1,g.2.2.2]:=by
   rw [pB];show zE [_,_,_,_]=_;rw [k7 h1,k7 h2,k7 h3,k7 h4];rfl
  rw [kD,if_pos (by rw [pB];rfl),e]
theorem qEb {k:Int×Int×Bool} (h:jK k.1/\jK k.2.1) (r:Rs):vW (jH k) r=some {r with ks:=r.ks++[k]}/\kD (jH k) r=some {r with ks:=r.ks++[k]}:=by
 obtain ⟨h1,h2⟩:=h;have hw:yN k.2.2≠[]:=by cases k.2.2<;>decide
 have hd:decide (yN k.2.2=[100,111,119,110])=k.2.2:=by cases k.2.2<;>decide
 constructor
 ·have e:zA (jH k) [zB,[],[],yN k.2.2]=some [k.1,k.2.1]:=by
   rw [zA,yF,uX (by decide),kZ h1,kZ h2,uX hw];rfl
  rw [vW,if_neg (by rw [yF];exact fun h=>by cases h),if_pos (by rw [yF];rfl),down_suf,e]
 ·have e:zE (((spl 32 (jH k)).take 3).drop 1)=some [k.1,k.2.1]:=by
   rw [yF];show zE [_,_]=_;rw [k7 h1,k7 h2];rfl
  have e2:(spl 32 (jH k)).getD 3 []=yN k.2.2:=by rw [yF];rfl
  rw [kD,if_neg (by rw [yF];exact fun h=>by cases h),if_pos (by rw [yF];rfl),if_pos (by rw [yF];rfl),e,e2,hd]
theorem qD9 {p:Int×Int} (h:jK p.1/\jK p.2) (r:Rs):vW (jN p) r=some {r with ps:=r.ps++[p]}/\kD (jN p) r=some {r with ps:=r.ps++[p]}:=by
 obtain ⟨h1,h2⟩:=h;constructor
 ·have e:zA (jN p) [kB,[],[]]=some [p.1,p.2]:=by
   rw [zA,yS,uX (by decide),kZ h1,kZ h2];rfl
  rw [vW,if_neg (by rw [yS];exact fun h=>by cases h),if_neg (by rw [yS];exact fun h=>by cases h),e]
 ·have e:zE ((spl 32 (jN p)).drop 1)=some [p.1,p.2]:=by
   rw [yS];show zE [_,_]=_;rw [k7 h1,k7 h2];rfl
  rw [kD,if_neg (by rw [yS];exact fun h=>by cases h),if_neg (by rw [yS];exact fun h=>by cases h),if_pos (by rw [yS];rfl),e]
theorem qAo: ∀{ps:List (Int×Int)},(∀p∈ps,jK p.1/\jK p.2)-> ∀r:Rs,zG (ps.map jN) r=some {r with ps:=r.ps++ps}/\zF (ps.map jN) r=some {r with ps:=r.ps++ps}
 |[],_,r=>by simp [zG,zF]
 |p::ps,h,r=>by
  obtain ⟨a1,a2⟩:=qD9 (h p xZZ) r;obtain ⟨b1,b2⟩:=qAo (fun y hy=>h y (xZY _ hy)) {r with ps:=r.ps++[p]};rw [xZS,zG,a1,zF,a2];simp only [b1,b2,xZW,xZU,and_self]
theorem qAq {tl:List (List UInt8)}: ∀{ks:List (Int×Int×Bool)},(∀k∈ks,jK k.1/\jK k.2.1)-> ∀r:Rs,zG (ks.map jH++tl) r=zG tl {r with ks:=r.ks++ks}/\zF (ks.map jH++tl) r=zF tl {r with ks:=r.ks++ks}
 |[],_,r=>by simp
 |p::ps,h,r=>by
  obtain ⟨a1,a2⟩:=qEb (h p xZZ) r;obtain ⟨b1,b2⟩:=qAq (tl:=tl) (fun y hy=>h y (xZY _ hy)) {r with ks:=r.ks++[p]};rw [xZS,xZP,zG,a1,zF,a2];simp only [b1,b2,xZW,xZU,and_self]
theorem qAp {tl:List (List UInt8)}: ∀{gs:List (Int×Int×Int×Int)},(∀g∈gs,jK g.1/\jK g.2.1/\jK g.2.2.1/\jK g.2.2.2)-> ∀r:Rs,zG (gs.map jX++tl) r=zG tl {r with gs:=r.gs++gs}/\zF (gs.map jX++tl) r=zF tl {r with gs:=r.gs++gs}
 |[],_,r=>by simp
 |p::ps,h,r=>by
  obtain ⟨a1,a2⟩:=qEa (h p xZZ) r;obtain ⟨b1,b2⟩:=qAp (tl:=tl) (fun y hy=>h y (xZY _ hy)) {r with gs:=r.gs++[p]};rw [xZS,xZP,zG,a1,zF,a2];simp only [b1,b2,xZW,xZU,and_self]
theorem rest_mk {m:Mp} (ht:Txt m):zG (m.gs.map jX++(m.ks.map jH++m.ps.map jN)) ⟨[],[],[]⟩=some ⟨m.gs,m.ks,m.ps⟩/\zF (m.gs.map jX++(m.ks.map jH++m.ps.map jN)) ⟨[],[],[]⟩=some ⟨m.gs,m.ks,m.ps⟩:=by
 obtain ⟨a1,a2⟩:=qAp (tl:=m.ks.map jH++m.ps.map jN) ht.gs ⟨[],[],[]⟩;obtain ⟨b1,b2⟩:=qAq (tl:=m.ps.map jN) ht.ks ⟨[]++m.gs,[],[]⟩;obtain ⟨c1,c2⟩:=qAo ht.ps ⟨[]++m.gs,[]++m.ks,[]⟩;exact ⟨(a1.trans b1).trans c1,(a2.trans b2).trans c2⟩
theorem no_w (c:UInt8): ∀ws:List (List UInt8),(∀w∈ws,c ∉ w)->c≠32->c ∉ vD ws
 |[],_,_=>by simp [vD,Lib.join_nil]
 |x::r,h,hc=>by
  rw [vD,Lib.join_cons,xZT];intro q;rcases q with q|q
  ·exact h x xZZ q
  ·simp only [Lib.joinTail,List.mem_flatten,xZR] at q;obtain ⟨_,⟨y,hy,rfl⟩,q⟩:=q;rcases xZT.1 q with q|q
   ·exact hc (by simpa using q)
   ·exact h y (xZY _ hy) q
theorem bY (l:List Int):(10:UInt8) ∉ vQ l:=no_w 10 _ (by
 intro w hw;obtain ⟨x,_,rfl⟩:=xZR.1 hw;exact kS rfl) (by decide)
theorem no_lines (m:Mp) (hc: ∀l∈m.cells,∀x∈l,1<=x/\x<=3): ∀l∈m.linesB,(10:UInt8) ∉ l:=by
 intro l hl;simp only [Mp.linesB,xZV,xZT,xZR] at hl;rcases hl with rfl|⟨r,hr,rfl⟩|⟨g,_,rfl⟩|⟨k,_,rfl⟩|⟨p,_,rfl⟩
 ·refine no_w 10 _ (fun w hw=> ?_) (by decide);simp only [xZV,xZX,or_false] at hw;rcases hw with rfl|rfl|rfl|rfl|rfl|rfl
  ·decide
  ·exact bY _
  ·decide
  ·exact bY _
  ·decide
  ·exact bY _
 ·intro q;obtain ⟨x,hx,e⟩:=xZR.1 q;rcases (by have:=hc r hr x hx;omega:x=1\/x=2\/x=3) with rfl|rfl|rfl<;>cases e
 ·refine no_w 10 _ (fun w hw=> ?_) (by decide);simp only [xZV,xZX,or_false] at hw;rcases hw with rfl|rfl
  ·decide
  ·exact bY _
 ·refine no_w 10 _ (fun w hw=> ?_) (by decide);simp only [xZV,xZX,or_false] at hw;rcases hw with rfl|rfl|rfl
  ·decide
  ·exact bY _
  ·cases k.2.2<;>decide
 ·refine no_w 10 _ (fun w hw=> ?_) (by decide);simp only [xZV,xZX,or_false] at hw;rcases hw with rfl|rfl
  ·decide
  ·exact bY _
theorem no_end (c:Nat):(10:UInt8) ∉ uI c:=by
 simp only [uI,xZT];intro q;rcases q with ((q|q)|q)|q
 ·revert q;decide
 ·exact kS rfl q
 ·exact kS rfl q
 ·exact kS rfl q
theorem spl_text (m:Mp) (hc: ∀l∈m.cells,∀x∈l,1<=x/\x<=3):spl 10 m.textB=m.linesB++[uI (vZ m.linesB % 101),[]]:=by
 have h:=xM 10 [] (by simp) (m.linesB++[uI (vZ m.linesB % 101)]) (by
  intro w hw;rcases xZT.1 hw with hw|hw
  ·exact no_lines m hc w hw
  ·rw [List.mem_singleton.1 hw];exact no_end _)
 rw [xZW] at h;refine Eq.trans (congrArg (spl 10) ?_) h;rw [Mp.textB,qBf];simp [nlB]
structure Can (d:Md):Prop where
 txt:Txt d.m0
 rect: ∀l∈d.cells,l.length=d.m0.W
theorem spl_md {d:Md} (hc:Can d):spl 10 d.textB=d.m0.headB::(d.cells.map yL++((d.gs.map jX++(d.ks.map jH++d.ps.map jN))++[uI (vZ d.m0.linesB % 101),[]])):=by
 have h:=spl_text d.m0 hc.txt.kc;refine Eq.trans h ?_;rw [Mp.linesB,xZP,xZW];rfl
theorem parts_of (hd e:List UInt8) (A B:List (List UInt8)):(((hd::(A++(B++[e,[]]))).drop 1).take A.length=A)/\((hd::(A++(B++[e,[]]))).drop (A.length+1)).take ((hd::(A++(B++[e,[]]))).length - 2 - (A.length+1))=B:=by
 constructor
 ·rw [xZO,List.drop_zero,xZQ (xZN _),xZM]
 ·rw [xZO,List.drop_append_of_le_length (xZN _),List.drop_length,List.nil_append];have:(hd::(A++(B++[e,[]]))).length - 2 - (A.length+1)=B.length:=by simp;omega
  rw [this,xZQ (xZN _),xZM]
theorem qBd {d:Md} (hc:Can d):kR d.textB=some d/\vO d.textB=some d:=by
 have hW:=hc.txt.W;have hs:=spl_md hc;have hl:(d.cells.map yL).length=d.cells.length:=List.length_map _;obtain ⟨p1,p2⟩:=parts_of d.m0.headB (uI (vZ d.m0.linesB % 101)) (d.cells.map yL) (d.gs.map jX++(d.ks.map jH++d.ps.map jN));rw [<-hs,hl] at p1 p2;have hd:(spl 10 d.textB).headD []=d.m0.headB:=by rw [hs];rfl
 have hlen:(d.cells.length:Int)+3<=((spl 10 d.textB).length:Int):=by rw [hs];simp;omega
 obtain ⟨r1,r2⟩:=qDi (w:=d.m0.W) (ls:=d.cells) fun l hl=>⟨hc.txt.kc l hl,hc.rect l hl⟩;obtain ⟨q1,q2⟩:=rest_mk hc.txt;have q1:zG (d.gs.map jX++(d.ks.map jH++d.ps.map jN)) ⟨[],[],[]⟩=some ⟨d.gs,d.ks,d.ps⟩:=q1;have q2:zF (d.gs.map jX++(d.ks.map jH++d.ps.map jN)) ⟨[],[],[]⟩=some ⟨d.gs,d.ks,d.ps⟩:=q2;have ht:=told_head hc.txt hW;have hr:=headR_mk hc.txt hW;constructor
 ·rw [kR,hd,ht];show (if (d.cells.length:Int)+3<=((spl 10 d.textB).length:Int) then _ else none)=_;rw [if_pos hlen];show (match vA (d.m0.W:Int) (((spl 10 d.textB).drop 1).take d.cells.length) with
   |none=>none
   |some cells=>match zG (((spl 10 d.textB).drop (d.cells.length+1)).take ((spl 10 d.textB).length - 2 - (d.cells.length+1))) ⟨[],[],[]⟩ with
    |none=>none
    |some r=>_)=_
  rw [p1,r1];show (match zG _ _ with|none=>none|some r=>_)=_;rw [p2,q1];rfl
 ·rw [vO,hd,hr];show (if (d.cells.length:Int)+3<=((spl 10 d.textB).length:Int) then _ else none)=_;rw [if_pos hlen];show (match vK (d.m0.W:Int) (((spl 10 d.textB).drop 1).take d.cells.length) with
   |none=>none
   |some cells=>match zF (((spl 10 d.textB).drop (d.cells.length+1)).take ((spl 10 d.textB).length - 2 - (d.cells.length+1))) ⟨[],[],[]⟩ with
    |none=>none
    |some r=>_)=_
  rw [p1,r2];show (match zF _ _ with|none=>none|some r=>_)=_;rw [p2,q2];rfl
theorem rect_of {b:Int} {cells:List (List Int)} (h: ∀r∈cells,(r.length:Int)=b): ∀l∈cells,l.length=(cells.headD []).length:=fun l hl=>by
 have h1:=h l hl;cases cells with
 |nil=>cases hl
 |cons x r=>
  have h2:=h x xZZ;show l.length=x.length;omega
theorem qBe {s:List UInt8} (hs:s.length<=900) {d:Md} (h:kR s=some d):Can d:=by
 unfold kR at h;split at h
 ·rename_i a b c e ht;obtain ⟨_,_,_,_,he,na,nb,nc,nd⟩:=qAF ht (by decide);cases he;split at h
  ·split at h
   ·cases h
   ·rename_i cells hr;split at h
    ·cases h
    ·rename_i r hq;cases h;exact ⟨qDl hs na nb nc nd hr hq jE jE jE jE,rect_of fun l hl=>((qA5 hr).2 l hl).1⟩
  ·cases h
 ·cases h
theorem qD6 {s:List UInt8} (hs:s.length<=900) {d:Md} (h:vO s=some d):Can d:=by
 unfold vO at h;split at h
 ·rename_i a b c e ht;have hn: ∀n∈[a,b,c,e],jK n:=by
   unfold uQ at ht;split at ht
   ·exact (yV ht).2
   ·cases ht
  split at h
  ·split at h
   ·cases h
   ·rename_i cells hr;split at h
    ·cases h
    ·rename_i r hq;cases h;exact ⟨ref_txt hs (hn a (by simp)) (hn b (by simp)) (hn c (by simp)) (hn e (by simp)) hr hq jE jE jE jE,rect_of fun l hl=>((qA3 hr).2 l hl).1⟩
  ·cases h
 ·cases h
theorem bV {s:List UInt8} {d:Md}:j7 s=some d↔kR s=some d/\d.textB=s:=by
 unfold j7;cases kR s with
 |none=>simp
 |some e=>
  show (if e.textB=s then some e else none)=some d↔_;by_cases h:e.textB=s
  ·rw [if_pos h];exact ⟨fun q=>by cases q;exact ⟨rfl,h⟩,fun q=>q.1⟩
  ·rw [if_neg h];exact ⟨fun q=>(by cases q),fun q=>absurd (by obtain ⟨q1,q2⟩:=q;cases q1;exact q2) h⟩
theorem refP_iff {s:List UInt8} {d:Md}:yT s=some d↔vO s=some d/\d.textB=s:=by
 unfold yT;cases vO s with
 |none=>simp
 |some e=>
  show (if e.textB=s then some e else none)=some d↔_;by_cases h:e.textB=s
  ·rw [if_pos h];exact ⟨fun q=>by cases q;exact ⟨rfl,h⟩,fun q=>q.1⟩
  ·rw [if_neg h];exact ⟨fun q=>(by cases q),fun q=>absurd (by obtain ⟨q1,q2⟩:=q;cases q1;exact q2) h⟩
theorem read_ref {s:List UInt8} (hs:s.length<=900):j7 s=yT s:=by
 apply Option.ext
 intro d;rw [bV,refP_iff];constructor
 ·rintro ⟨h1,h2⟩;refine ⟨?_,h2⟩;rw [<-h2];exact (qBd (qBe hs h1)).2
 ·rintro ⟨h1,h2⟩;refine ⟨?_,h2⟩;rw [<-h2];exact (qBd (qD6 hs h1)).1
theorem readP_can {s:List UInt8} (hs:s.length<=900) {d:Md} (h:j7 s=some d):Can d/\d.textB=s:=⟨qBe hs (bV.1 h).1,(bV.1 h).2⟩
structure Sml (m:Mp):Prop where
 c:m.cells.length<=6
 r: ∀l∈m.cells,l.length<=8
 w:m.W<=8
 T:0<=m.T/\m.T<=9
 H:0<=m.H/\m.H<=9
 g:m.gs.length<=8
 k:m.ks.length<=8
 p:m.ps.length<=12
 gs: ∀g∈m.gs,(0<=g.1/\g.1<=9)/\(0<=g.2.1/\g.2.1<=9)/\(0<=g.2.2.1/\g.2.2.1<=99)/\(0<=g.2.2.2/\g.2.2.2<=9)
 ks: ∀k∈m.ks,(0<=k.1/\k.1<=9)/\(0<=k.2.1/\k.2.1<=9)
 ps: ∀p∈m.ps,(0<=p.1/\p.1<=9)/\(0<=p.2/\p.2<=9)
def Mp.md (m:Mp):Md:=⟨m.cells,m.T,m.H,m.gs,m.ks,m.ps⟩
end Go.Proofs.Kn
end
