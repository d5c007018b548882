/- Parts of the proof, joined by a program. -/
import Derived.Test.YtmklipblkmlojaaGreatDoorQF3
set_option linter.all false
open List renaming length_append → xZZ, mem_cons_of_mem → xZY, mem_cons_self → xZX, mem_nil_iff → xZW, append_assoc → xZV, mem_cons → xZU, map_cons → xZT, mem_map → xZS, singleton_append → xZR, length_cons → xZQ, mem_append → xZP, flatten_cons → xZO, flatten_nil → xZN, length_singleton → xZL, length_nil → xZK, any_eq_false → xZJ, map_nil → xZH, take_append_of_le_length → xZF, cons_append → xZE, all_eq_true → xZD, drop_succ_cons → xZB, take_length → xYY
open Bool renaming and_eq_true → xZM, not_eq_true' → xZI, or_eq_false_iff → xZC, not_eq_false' → xYZ, not_eq_true → xYX
open Int renaming toNat_natCast → xZG
open Nat renaming le_refl → xZA
noncomputable section
namespace Go.Proofs.Kn
open Go Go.Ev
set_option maxRecDepth 100000
set_option maxHeartbeats 4000000
abbrev Md.m0 (d:Md):Mp:=d.mp zB zB zB zB
theorem dg_dig (n:Nat):yW (dg n)=true:=by
 have h:n % 10<10:=Nat.mod_lt _ (by omega);have e:(dg n).toNat=48+n % 10:=by rw [dg,UInt8.toNat_ofNat'];omega
 simp only [yW,e,xZM,decide_eq_true_eq];omega
theorem dec_dig (n:Nat):(dec n).all yW=true:=by
 unfold dec;split
 ·simp [dg_dig]
 ·split<;>simp [dg_dig]
theorem kD {n:Nat} {x:UInt8} (h:yW x=false):x ∉ dec n:=fun hm=>by
 have:=xZD.1 (dec_dig n) x hm;rw [h] at this;cases this
theorem numP_all:(List.range 1000).all (fun n=>decide (uQ (dec n)=some n))=true:=by decide+kernel
theorem numP_dec {n:Nat} (h:n<1000):uQ (dec n)=some n:=of_decide_eq_true (xZD.1 numP_all n (List.mem_range.2 h))
theorem qC2 {x:Int} (h:jT x):uQ (dec x.toNat)=some x.toNat/\((x.toNat:Nat):Int)=x:=⟨numP_dec (by have:=h.1;have:=h.2;omega),by have:=h.1;omega⟩
theorem y8 (c:UInt8) (e:List UInt8) (he:c ∉ e): ∀ws:List (List UInt8),(∀w∈ws,c ∉ w)->spl c ((ws.flatMap fun w=>w++[c])++e)=ws++[e]
 |[],_=>by simpa using spl_end c e he
 |w::ws,h=>by
  have ih:=y8 c e he ws fun x hx=>h x (xZY _ hx);rw [List.flatMap_cons,xZV,xZV,xZR,spl_cut c w _ (h w xZX),ih];rfl
theorem qCS (m:Mp):spl 32 m.headB=[xX,dec m.cells.length,dec m.W,yR,dec m.T.toNat,kK,dec m.H.toNat]:=by
 have h:=y8 32 (dec m.H.toNat) (kD rfl) [xX,dec m.cells.length,dec m.W,yR,dec m.T.toNat,kK] (by
  intro w hw;simp only [xZU,xZW,or_false] at hw;rcases hw with rfl|rfl|rfl|rfl|rfl|rfl
  ·decide
  ·exact kD rfl
  ·exact kD rfl
  ·decide
  ·exact kD rfl
  ·decide)
 refine Eq.trans (congrArg (spl 32) ?_) h;rw [Mp.headB,line_6];simp [vB,zO,Lib.join_cons,Lib.joinTail]
theorem wQ (g:Int×Int×Int×Int):spl 32 (jL g)=[zR,dec g.1.toNat,dec g.2.1.toNat,dec g.2.2.1.toNat,dec g.2.2.2.toNat]:=by
 have h:=y8 32 (dec g.2.2.2.toNat) (kD rfl) [zR,dec g.1.toNat,dec g.2.1.toNat,dec g.2.2.1.toNat] (by
  intro w hw;simp only [xZU,xZW,or_false] at hw;rcases hw with rfl|rfl|rfl|rfl
  ·decide
  ·exact kD rfl
  ·exact kD rfl
  ·exact kD rfl)
 refine Eq.trans (congrArg (spl 32) ?_) h;rw [jL,bN];simp [vB,zO,Lib.join_cons,Lib.joinTail]
theorem way_no (b:Bool):(32:UInt8) ∉ kZ b:=by cases b<;>decide
theorem kS (k:Int×Int×Bool):spl 32 (jB k)=[zI,dec k.1.toNat,dec k.2.1.toNat,kZ k.2.2]:=by
 have h:=y8 32 (kZ k.2.2) (way_no _) [zI,dec k.1.toNat,dec k.2.1.toNat] (by
  intro w hw;simp only [xZU,xZW,or_false] at hw;rcases hw with rfl|rfl|rfl
  ·decide
  ·exact kD rfl
  ·exact kD rfl)
 refine Eq.trans (congrArg (spl 32) ?_) h;rw [jB,qCf];simp [vB,zO,Lib.join_cons,Lib.joinTail]
theorem yF (p:Int×Int):spl 32 (jH p)=[k9,dec p.1.toNat,dec p.2.toNat]:=by
 have h:=y8 32 (dec p.2.toNat) (kD rfl) [k9,dec p.1.toNat] (by
  intro w hw;simp only [xZU,xZW,or_false] at hw;rcases hw with rfl|rfl
  ·decide
  ·exact kD rfl)
 refine Eq.trans (congrArg (spl 32) ?_) h;rw [jH,bN];simp [vB,zO,Lib.join_cons,Lib.joinTail]
theorem down_suf (k:Int×Int×Bool):downW.isSuffixOf (jB k)=k.2.2:=by
 rw [Bool.eq_iff_iff,List.isSuffixOf_iff_suffix,jB,qCf];obtain ⟨a,b,t⟩:=k;cases t
 ·simp only [kZ,Bool.false_eq_true,if_false,iff_false];rintro ⟨t,ht⟩;have:=congrArg (fun l=>l.reverse.head?) ht;simp at this
 ·simp only [kZ,if_true,iff_true];exact ⟨zI++32::vB [a,b],by simp⟩
theorem uJ {x:List UInt8} {xs es:List (List UInt8)} (hx:x≠[]):vL (x::xs) (x::es)=vL xs es:=by
 rw [vL,if_pos hx,if_pos rfl]
theorem kI {x:Int} {xs es:List (List UInt8)} (hx:jT x):vL (dec x.toNat::xs) ([]::es)=(vL xs es).map (x:: ·):=by
 obtain ⟨h1,h2⟩:=qC2 hx;rw [vL,if_neg (fun h=>h rfl),h1];simp only [h2]
theorem kJ {x:Int} {xs:List (List UInt8)} (hx:jT x):xE (dec x.toNat::xs)=(xE xs).map (x:: ·):=by
 obtain ⟨h1,h2⟩:=qC2 hx;rw [xE,h1];simp only [h2]
theorem told_head {m:Mp} (ht:Txt m) (hW:m.W<=999):j7 m.headB xH=some [(m.cells.length:Int),(m.W:Int),m.T,m.H]:=by
 have h1:jT (m.cells.length:Int):=⟨by omega,by have:=ht.lc;omega⟩;have h2:jT (m.W:Int):=⟨by omega,by omega⟩;have q1:= @kI _ [dec m.W,yR,dec m.T.toNat,kK,dec m.H.toNat] [[],yR,[],kK,[]] h1;have q2:= @kI _ [yR,dec m.T.toNat,kK,dec m.H.toNat] [yR,[],kK,[]] h2;rw [xZG] at q1 q2;rw [j7,qCS,xH,uJ (by decide),q1,q2,uJ (by decide),kI ht.T,uJ (by decide),kI ht.H];rfl
theorem headR_mk {m:Mp} (ht:Txt m) (hW:m.W<=999):headR (spl 32 m.headB)=some [(m.cells.length:Int),(m.W:Int),m.T,m.H]:=by
 have h1:jT (m.cells.length:Int):=⟨by omega,by have:=ht.lc;omega⟩;have h2:jT (m.W:Int):=⟨by omega,by omega⟩;have q1:= @kJ _ [dec m.W,dec m.T.toNat,dec m.H.toNat] h1;have q2:= @kJ _ [dec m.T.toNat,dec m.H.toNat] h2;rw [xZG] at q1 q2;rw [headR,qCS];show xE [dec m.cells.length,dec m.W,dec m.T.toNat,dec m.H.toNat]=_;rw [q1,q2,kJ ht.T,kJ ht.H];rfl
theorem cell_mk {x:Int} (h:1<=x/\x<=3):yX ((mkB x).toNat:Int)=some x/\cellR (mkB x)=x:=by
 rcases (by omega:x=1\/x=2\/x=3) with rfl|rfl|rfl<;>decide
theorem rowP_mk: ∀{l:List Int},(∀x∈l,1<=x/\x<=3)->xB (v8 l)=some l/\rowR (v8 l)=l
 |[],_=>⟨rfl,rfl⟩
 |x::l,h=>by
  obtain ⟨a1,a2⟩:=cell_mk (h x xZX);obtain ⟨b1,b2⟩:=rowP_mk fun y hy=>h y (xZY _ hy);refine ⟨?_,?_⟩
  ·show xB (mkB x::v8 l)=_;rw [xB,a1];simp only [b1];rfl
  ·show cellR (mkB x)::rowR (v8 l)=_;rw [a2,b2]
theorem qCV {w:Nat}: ∀{ls:List (List Int)},(∀l∈ls,(∀x∈l,1<=x/\x<=3)/\l.length=w)->zZ w (ls.map v8)=some ls/\rowsR w (ls.map v8)=some ls
 |[],_=>⟨rfl,rfl⟩
 |l::ls,h=>by
  obtain ⟨h1,h2⟩:=h l xZX;obtain ⟨b1,b2⟩:=qCV fun y hy=>h y (xZY _ hy);obtain ⟨r1,r2⟩:=rowP_mk h1;rw [xZT,zZ,r1,rowsR,b2,r2];simp only [b1];have hl:(v8 l).length=l.length:=by simp [v8]
  exact ⟨if_pos (by omega),if_pos (by omega)⟩
theorem qDN {g:Int×Int×Int×Int} (h:jT g.1/\jT g.2.1/\jT g.2.2.1/\jT g.2.2.2) (r:Rs):vO (jL g) r=some {r with gs:=r.gs++[g]}/\qA0 (jL g) r=some {r with gs:=r.gs++[g]}:=by
 obtain ⟨h1,h2,h3,h4⟩:=h;constructor
 ·have e:j7 (jL g) [zR,[],[],[],[]]=some [g.1,g.2.1,g.2.2.1,g.2.2.2]:=by
   rw [j7,wQ,uJ (by decide),kI h1,kI h2,kI h3,kI h4];rfl
  rw [vO,if_pos (by rw [wQ];rfl),e]
 ·have e:xE ((spl 32 (jL g)).drop 1)=some [g.1,g.2.1,g.2.2.1,g.2.2.2]:=by
   rw [wQ];show xE [_,_,_,_]=_;rw [kJ h1,kJ h2,kJ h3,kJ h4];rfl
  rw [qA0,if_pos (by rw [wQ];rfl),e]
theorem qDO {k:Int×Int×Bool} (h:jT k.1/\jT k.2.1) (r:Rs):vO (jB k) r=some {r with ks:=r.ks++[k]}/\qA0 (jB k) r=some {r with ks:=r.ks++[k]}:=by
 obtain ⟨h1,h2⟩:=h;have hw:kZ k.2.2≠[]:=by cases k.2.2<;>decide
 have hd:decide (kZ k.2.2=[100,111,119,110])=k.2.2:=by cases k.2.2<;>decide
 constructor
 ·have e:j7 (jB k) [zI,[],[],kZ k.2.2]=some [k.1,k.2.1]:=by
   rw [j7,kS,uJ (by decide),kI h1,kI h2,uJ hw];rfl
  rw [vO,if_neg (by rw [kS];exact fun h=>by cases h),if_pos (by rw [kS];rfl),down_suf,e]
 ·have e:xE (((spl 32 (jB k)).take 3).drop 1)=some [k.1,k.2.1]:=by
   rw [kS];show xE [_,_]=_;rw [kJ h1,kJ h2];rfl
  have e2:(spl 32 (jB k)).getD 3 []=kZ k.2.2:=by rw [kS];rfl
  rw [qA0,if_neg (by rw [kS];exact fun h=>by cases h),if_pos (by rw [kS];rfl),if_pos (by rw [kS];rfl),e,e2,hd]
theorem qDM {p:Int×Int} (h:jT p.1/\jT p.2) (r:Rs):vO (jH p) r=some {r with ps:=r.ps++[p]}/\qA0 (jH p) r=some {r with ps:=r.ps++[p]}:=by
 obtain ⟨h1,h2⟩:=h;constructor
 ·have e:j7 (jH p) [k9,[],[]]=some [p.1,p.2]:=by
   rw [j7,yF,uJ (by decide),kI h1,kI h2];rfl
  rw [vO,if_neg (by rw [yF];exact fun h=>by cases h),if_neg (by rw [yF];exact fun h=>by cases h),e]
 ·have e:xE ((spl 32 (jH p)).drop 1)=some [p.1,p.2]:=by
   rw [yF];show xE [_,_]=_;rw [kJ h1,kJ h2];rfl
  rw [qA0,if_neg (by rw [yF];exact fun h=>by cases h),if_neg (by rw [yF];exact fun h=>by cases h),if_pos (by rw [yF];rfl),e]
theorem qAf: ∀{ps:List (Int×Int)},(∀p∈ps,jT p.1/\jT p.2)-> ∀r:Rs,zC (ps.map jH) r=some {r with ps:=r.ps++ps}/\xC (ps.map jH) r=some {r with ps:=r.ps++ps}
 |[],_,r=>by simp [zC,xC]
 |p::ps,h,r=>by
  obtain ⟨a1,a2⟩:=qDM (h p xZX) r;obtain ⟨b1,b2⟩:=qAf (fun y hy=>h y (xZY _ hy)) {r with ps:=r.ps++[p]};rw [xZT,zC,a1,xC,a2];simp only [b1,b2,xZV,xZR,and_self]
theorem qAh {tl:List (List UInt8)}: ∀{ks:List (Int×Int×Bool)},(∀k∈ks,jT k.1/\jT k.2.1)-> ∀r:Rs,zC (ks.map jB++tl) r=zC tl {r with ks:=r.ks++ks}/\xC (ks.map jB++tl) r=xC tl {r with ks:=r.ks++ks}
 |[],_,r=>by simp
 |p::ps,h,r=>by
  obtain ⟨a1,a2⟩:=qDO (h p xZX) r;obtain ⟨b1,b2⟩:=qAh (tl:=tl) (fun y hy=>h y (xZY _ hy)) {r with ks:=r.ks++[p]};rw [xZT,xZE,zC,a1,xC,a2];simp only [b1,b2,xZV,xZR,and_self]
theorem qAg {tl:List (List UInt8)}: ∀{gs:List (Int×Int×Int×Int)},(∀g∈gs,jT g.1/\jT g.2.1/\jT g.2.2.1/\jT g.2.2.2)-> ∀r:Rs,zC (gs.map jL++tl) r=zC tl {r with gs:=r.gs++gs}/\xC (gs.map jL++tl) r=xC tl {r with gs:=r.gs++gs}
 |[],_,r=>by simp
 |p::ps,h,r=>by
  obtain ⟨a1,a2⟩:=qDN (h p xZX) r;obtain ⟨b1,b2⟩:=qAg (tl:=tl) (fun y hy=>h y (xZY _ hy)) {r with gs:=r.gs++[p]};rw [xZT,xZE,zC,a1,xC,a2];simp only [b1,b2,xZV,xZR,and_self]
theorem rest_mk {m:Mp} (ht:Txt m):zC (m.gs.map jL++(m.ks.map jB++m.ps.map jH)) ⟨[],[],[]⟩=some ⟨m.gs,m.ks,m.ps⟩/\xC (m.gs.map jL++(m.ks.map jB++m.ps.map jH)) ⟨[],[],[]⟩=some ⟨m.gs,m.ks,m.ps⟩:=by
 obtain ⟨a1,a2⟩:=qAg (tl:=m.ks.map jB++m.ps.map jH) ht.gs ⟨[],[],[]⟩;obtain ⟨b1,b2⟩:=qAh (tl:=m.ps.map jH) ht.ks ⟨[]++m.gs,[],[]⟩;obtain ⟨c1,c2⟩:=qAf ht.ps ⟨[]++m.gs,[]++m.ks,[]⟩;exact ⟨(a1.trans b1).trans c1,(a2.trans b2).trans c2⟩
theorem no_w (c:UInt8): ∀ws:List (List UInt8),(∀w∈ws,c ∉ w)->c≠32->c ∉ zO ws
 |[],_,_=>by simp [zO,Lib.join_nil]
 |x::r,h,hc=>by
  rw [zO,Lib.join_cons,xZP];intro q;rcases q with q|q
  ·exact h x xZX q
  ·simp only [Lib.joinTail,List.mem_flatten,xZS] at q;obtain ⟨_,⟨y,hy,rfl⟩,q⟩:=q;rcases xZP.1 q with q|q
   ·exact hc (by simpa using q)
   ·exact h y (xZY _ hy) q
theorem bM (l:List Int):(10:UInt8) ∉ vB l:=no_w 10 _ (by
 intro w hw;obtain ⟨x,_,rfl⟩:=xZS.1 hw;exact kD rfl) (by decide)
theorem no_lines (m:Mp) (hc: ∀l∈m.cells,∀x∈l,1<=x/\x<=3): ∀l∈m.linesB,(10:UInt8) ∉ l:=by
 intro l hl;simp only [Mp.linesB,xZU,xZP,xZS] at hl;rcases hl with rfl|⟨r,hr,rfl⟩|⟨g,_,rfl⟩|⟨k,_,rfl⟩|⟨p,_,rfl⟩
 ·refine no_w 10 _ (fun w hw=> ?_) (by decide);simp only [xZU,xZW,or_false] at hw;rcases hw with rfl|rfl|rfl|rfl|rfl|rfl
  ·decide
  ·exact bM _
  ·decide
  ·exact bM _
  ·decide
  ·exact bM _
 ·intro q;obtain ⟨x,hx,e⟩:=xZS.1 q;rcases (by have:=hc r hr x hx;omega:x=1\/x=2\/x=3) with rfl|rfl|rfl<;>cases e
 ·refine no_w 10 _ (fun w hw=> ?_) (by decide);simp only [xZU,xZW,or_false] at hw;rcases hw with rfl|rfl
  ·decide
  ·exact bM _
 ·refine no_w 10 _ (fun w hw=> ?_) (by decide);simp only [xZU,xZW,or_false] at hw;rcases hw with rfl|rfl|rfl
  ·decide
  ·exact bM _
  ·cases k.2.2<;>decide
 ·refine no_w 10 _ (fun w hw=> ?_) (by decide);simp only [xZU,xZW,or_false] at hw;rcases hw with rfl|rfl
  ·decide
  ·exact bM _
theorem no_end (c:Nat):(10:UInt8) ∉ xZ c:=by
 simp only [xZ,xZP];intro q;rcases q with ((q|q)|q)|q
 ·revert q;decide
 ·exact kD rfl q
 ·exact kD rfl q
 ·exact kD rfl q
theorem spl_text (m:Mp) (hc: ∀l∈m.cells,∀x∈l,1<=x/\x<=3):spl 10 m.textB=m.linesB++[xZ (vP m.linesB % 101),[]]:=by
 have h:=y8 10 [] (by simp) (m.linesB++[xZ (vP m.linesB % 101)]) (by
  intro w hw;rcases xZP.1 hw with hw|hw
  ·exact no_lines m hc w hw
  ·rw [List.mem_singleton.1 hw];exact no_end _)
 rw [xZV] at h;refine Eq.trans (congrArg (spl 10) ?_) h;rw [Mp.textB,gH];simp [nlB]
structure Can (d:Md):Prop where
 txt:Txt d.m0
 rect: ∀l∈d.cells,l.length=d.m0.W
theorem spl_md {d:Md} (hc:Can d):spl 10 d.textB=d.m0.headB::(d.cells.map v8++((d.gs.map jL++(d.ks.map jB++d.ps.map jH))++[xZ (vP d.m0.linesB % 101),[]])):=by
 have h:=spl_text d.m0 hc.txt.kc;refine Eq.trans h ?_;rw [Mp.linesB,xZE,xZV];rfl
theorem parts_of (hd e:List UInt8) (A B:List (List UInt8)):(((hd::(A++(B++[e,[]]))).drop 1).take A.length=A)/\((hd::(A++(B++[e,[]]))).drop (A.length+1)).take ((hd::(A++(B++[e,[]]))).length - 2 - (A.length+1))=B:=by
 constructor
 ·rw [xZB,List.drop_zero,xZF (xZA _),xYY]
 ·rw [xZB,List.drop_append_of_le_length (xZA _),List.drop_length,List.nil_append];have:(hd::(A++(B++[e,[]]))).length - 2 - (A.length+1)=B.length:=by simp;omega
  rw [this,xZF (xZA _),xYY]
theorem qDJ {d:Md} (hc:Can d):yA d.textB=some d/\parseR d.textB=some d:=by
 have hW:=hc.txt.W;have hs:=spl_md hc;have hl:(d.cells.map v8).length=d.cells.length:=List.length_map _;obtain ⟨p1,p2⟩:=parts_of d.m0.headB (xZ (vP d.m0.linesB % 101)) (d.cells.map v8) (d.gs.map jL++(d.ks.map jB++d.ps.map jH));rw [<-hs,hl] at p1 p2;have hd:(spl 10 d.textB).headD []=d.m0.headB:=by rw [hs];rfl
 have hlen:(d.cells.length:Int)+3<=((spl 10 d.textB).length:Int):=by rw [hs];simp;omega
 obtain ⟨r1,r2⟩:=qCV (w:=d.m0.W) (ls:=d.cells) fun l hl=>⟨hc.txt.kc l hl,hc.rect l hl⟩;obtain ⟨q1,q2⟩:=rest_mk hc.txt;have q1:zC (d.gs.map jL++(d.ks.map jB++d.ps.map jH)) ⟨[],[],[]⟩=some ⟨d.gs,d.ks,d.ps⟩:=q1;have q2:xC (d.gs.map jL++(d.ks.map jB++d.ps.map jH)) ⟨[],[],[]⟩=some ⟨d.gs,d.ks,d.ps⟩:=q2;have ht:=told_head hc.txt hW;have hr:=headR_mk hc.txt hW;constructor
 ·rw [yA,hd,ht];show (if (d.cells.length:Int)+3<=((spl 10 d.textB).length:Int) then _ else none)=_;rw [if_pos hlen];show (match zZ (d.m0.W:Int) (((spl 10 d.textB).drop 1).take d.cells.length) with
   |none=>none
   |some cells=>match zC (((spl 10 d.textB).drop (d.cells.length+1)).take ((spl 10 d.textB).length - 2 - (d.cells.length+1))) ⟨[],[],[]⟩ with
    |none=>none
    |some r=>_)=_
  rw [p1,r1];show (match zC _ _ with|none=>none|some r=>_)=_;rw [p2,q1];rfl
 ·rw [parseR,hd,hr];show (if (d.cells.length:Int)+3<=((spl 10 d.textB).length:Int) then _ else none)=_;rw [if_pos hlen];show (match rowsR (d.m0.W:Int) (((spl 10 d.textB).drop 1).take d.cells.length) with
   |none=>none
   |some cells=>match xC (((spl 10 d.textB).drop (d.cells.length+1)).take ((spl 10 d.textB).length - 2 - (d.cells.length+1))) ⟨[],[],[]⟩ with
    |none=>none
    |some r=>_)=_
  rw [p1,r2];show (match xC _ _ with|none=>none|some r=>_)=_;rw [p2,q2];rfl
theorem readP_iff {s:List UInt8} {d:Md}:zN s=some d↔yA s=some d/\d.textB=s:=by
 unfold zN;cases yA s with
 |none=>simp
 |some e=>
  show (if e.textB=s then some e else none)=some d↔_;by_cases h:e.textB=s
  ·rw [if_pos h];exact ⟨fun q=>by cases q;exact ⟨rfl,h⟩,fun q=>q.1⟩
  ·rw [if_neg h];exact ⟨fun q=>(by cases q),fun q=>absurd (by obtain ⟨q1,q2⟩:=q;cases q1;exact q2) h⟩
theorem qDI {d:Md} (hc:Can d):zN d.textB=some d:=readP_iff.2 ⟨(qDJ hc).1,rfl⟩
structure Sml (m:Mp):Prop where
 c:m.cells.length<=6
 r: ∀l∈m.cells,l.length<=8
 w:m.W<=8
 T:0<=m.T/\m.T<=9
 H:0<=m.H/\m.H<=9
 g:m.gs.length<=8
 k:m.ks.length<=8
 p:m.ps.length<=12
 gs: ∀g∈m.gs,(0<=g.1/\g.1<=9)/\(0<=g.2.1/\g.2.1<=9)/\(0<=g.2.2.1/\g.2.2.1<=99)/\(0<=g.2.2.2/\g.2.2.2<=9)
 ks: ∀k∈m.ks,(0<=k.1/\k.1<=9)/\(0<=k.2.1/\k.2.1<=9)
 ps: ∀p∈m.ps,(0<=p.1/\p.1<=9)/\(0<=p.2/\p.2<=9)
theorem dec_l1 {n:Nat} (h:n<=9):(dec n).length=1:=by rw [dec,if_pos (by omega)];rfl
theorem y7 {x:Int} (h:0<=x/\x<=9):(dec x.toNat).length=1:=dec_l1 (by omega)
theorem head_l {m:Mp} (h:Sml m):m.headB.length<=27:=by
 have h1:=dec_l1 (n:=m.cells.length) (by have:=h.c;omega);have h2:=dec_l1 (n:=m.W) (by have:=h.w;omega);have h3:=y7 h.T;have h4:=y7 h.H;rw [Mp.headB,line_6];simp only [vB,zO,xZT,xZH,Lib.join_cons,Lib.joinTail,xZZ,xZQ,xZK,xZO,xZN,xZG,h1,h2,h3,h4];omega
theorem gauge_l {g:Int×Int×Int×Int} (h:(0<=g.1/\g.1<=9)/\(0<=g.2.1/\g.2.1<=9)/\(0<=g.2.2.1/\g.2.2.1<=99)/\(0<=g.2.2.2/\g.2.2.2<=9)):(jL g).length<=15:=by
 have h1:=y7 h.1;have h2:=y7 h.2.1;have h3:=vY g.2.2.1.toNat;have h4:=y7 h.2.2.2;rw [jL,bN];simp only [vB,zO,xZT,xZH,Lib.join_cons,Lib.joinTail,xZZ,xZQ,xZK,xZO,xZN,h1,h2,h4];omega
theorem crack_l {k:Int×Int×Bool} (h:(0<=k.1/\k.1<=9)/\(0<=k.2.1/\k.2.1<=9)):(jB k).length<=15:=by
 have h1:=y7 h.1;have h2:=y7 h.2;have h3:(kZ k.2.2).length<=5:=by cases k.2.2<;>decide
 rw [jB,qCf];simp only [vB,zO,xZT,xZH,Lib.join_cons,Lib.joinTail,xZZ,xZQ,xZK,xZO,xZN,h1,h2];omega
theorem probe_l {p:Int×Int} (h:(0<=p.1/\p.1<=9)/\(0<=p.2/\p.2<=9)):(jH p).length<=9:=by
 have h1:=y7 h.1;have h2:=y7 h.2;rw [jH,bN];simp only [vB,zO,xZT,xZH,Lib.join_cons,Lib.joinTail,xZZ,xZQ,xZK,xZO,xZN,h1,h2];omega
theorem qAW (b:Nat): ∀{ls:List (List UInt8)},(∀l∈ls,l.length<=b)->(nlB ls).length<=ls.length*(b+1)
 |[],_=>Nat.zero_le _
 |l::ls,h=>by
  have h1:=h l xZX;have h2:=qAW b fun x hx=>h x (xZY _ hx);have e:nlB (l::ls)=(l++[10])++nlB ls:=by simp [nlB]
  rw [e,xZZ,xZZ,xZL,xZQ,Nat.succ_mul];omega
theorem nl_app (a b:List (List UInt8)):nlB (a++b)=nlB a++nlB b:=by simp [nlB]
theorem text_len {m:Mp} (h:Sml m):m.textB.length<=600:=by
 have a1:=head_l h;have a2:=qAW 8 (ls:=m.cells.map v8) fun l hl=>by
  obtain ⟨r,hr,rfl⟩:=xZS.1 hl;simpa [v8] using h.r r hr
 have a3:=qAW 15 (ls:=m.gs.map jL) fun l hl=>by
  obtain ⟨r,hr,rfl⟩:=xZS.1 hl;exact gauge_l (h.gs r hr)
 have a4:=qAW 15 (ls:=m.ks.map jB) fun l hl=>by
  obtain ⟨r,hr,rfl⟩:=xZS.1 hl;exact crack_l (h.ks r hr)
 have a5:=qAW 9 (ls:=m.ps.map jH) fun l hl=>by
  obtain ⟨r,hr,rfl⟩:=xZS.1 hl;exact probe_l (h.ps r hr)
 have a6:=qDf (vP m.linesB % 101);rw [List.length_map] at a2 a3 a4 a5;have b1:=h.c;have b2:=h.g;have b3:=h.k;have b4:=h.p;rw [Mp.textB,gH,xZZ,xZZ,xZL];have e:nlB m.linesB=(m.headB++[10])++(nlB (m.cells.map v8)++(nlB (m.gs.map jL)++(nlB (m.ks.map jB)++nlB (m.ps.map jH)))):=by
  rw [Mp.linesB,<-nl_app,<-nl_app,<-nl_app];simp [nlB]
 rw [e];simp only [xZZ,xZL];omega
theorem Mp.ok_sml {m:Mp} (h:m.ok=true):Sml m/\ ∀l∈m.cells,l.length=m.W:=by
 simp only [Mp.ok,Mp.restOk,xZM] at h;obtain ⟨hR,hrow,hT,hH,g8,k8,p12,hg,hk,hp⟩:=h;have hR:=kB hR;have hT:=kB hT;have hH:=kB hH;have g8:=of_decide_eq_true g8;have k8:=of_decide_eq_true k8;have p12:=of_decide_eq_true p12;have hRR:m.R=m.cells.length:=rfl;have hCW:m.C=(m.W:Int):=rfl;have hrow': ∀l∈m.cells,(l.length:Int)=m.C/\(1<=(l.length:Int)/\(l.length:Int)<=8):=fun l hl=>by
  have:=xZD.1 hrow l hl;simp only [Mp.rowOk,xZM] at this;obtain ⟨q1,q2,q3⟩:=this;exact ⟨of_decide_eq_true q1,kB q2⟩
 have hC:m.C<=8/\0<=m.C:=by
  have hne:0<m.cells.length:=by omega
  obtain ⟨l,hl⟩: ∃l,m.cells[0]? =some l:=⟨_,List.getElem?_eq_getElem hne⟩;obtain ⟨q1,q2,_⟩:=hrow' l (List.mem_of_getElem? hl);omega
 have hins: ∀r c:Int,m.inside r c=true->(0<=r/\r<=9)/\(0<=c/\c<=9):=fun r c hi=>by
  simp only [Mp.inside,xZM] at hi;have h1:=kB hi.1;have h2:=kB hi.2;exact ⟨⟨by omega,by omega⟩,⟨by omega,by omega⟩⟩
 refine ⟨⟨by omega,fun l hl=>by have:=(hrow' l hl).2;omega,by omega,hT,⟨hH.1,by omega⟩,by omega,by omega,by omega,fun g hgm=> ?_,fun k hkm=> ?_,fun p hpm=> ?_⟩,fun l hl=>by have:=(hrow' l hl).1;omega⟩
 ·simp only [xZI,xZJ] at hg;have:=hg g hgm;simp only [Mp.badG,xYX,xZC,xYZ] at this;obtain ⟨q1,_,q3,q4⟩:=this;obtain ⟨i1,i2⟩:=hins _ _ q1;have q3:=kB q3;have q4:=kB q4;exact ⟨i1,i2,⟨by omega,by omega⟩,q4⟩
 ·simp only [xZI,xZJ] at hk;have:=hk k hkm;simp only [Mp.badK,xYX,xZC,xYZ] at this;exact hins _ _ this.1
 ·simp only [xZI,xZJ] at hp;have:=hp p hpm;have hi:m.inside p.1 p.2=true:=by
   cases hh:m.inside p.1 p.2 with
   |true=>rfl
   |false=>simp [Mp.is,hh] at this
  exact hins _ _ hi
def Mp.md (m:Mp):Md:=⟨m.cells,m.T,m.H,m.gs,m.ks,m.ps⟩
theorem Mp.md_ok (m:Mp):m.md.ok=m.ok:=rfl
theorem Md.ok_can {d:Md} (h:d.ok=true):Can d:=⟨Mp.ok_txt (m:=d.m0) h,(Mp.ok_sml (m:=d.m0) h).2⟩
theorem Mp.text_600 {m:Mp} (h:m.ok=true):m.textB.length<=600:=text_len (Mp.ok_sml h).1
theorem Mp.read_text {m:Mp} (h:m.ok=true):zN m.textB=some m.md:=qDI (d:=m.md) (Md.ok_can h)
end Go.Proofs.Kn
end
