/- Parts. -/
import Derived.Test.YthimlgffanlomaaGreatDoorQU
import Derived.Test.YthimlgffanlomaaGreatDoorQC
set_option linter.all false
open Nat renaming reduceEqDiff → rE, reduceLeDiff → rD, reduceAdd → rA, reduceMul → rM, reduceLT → rL
open Go.Ev.T renaming get_put → xZZ
open Go.Ev.Hp renaming up_up → xZY, up_n → xZT
open List renaming getElem?_map → xZX, getElem?_eq_some_iff → xZU
open Nat renaming le_refl → xZW
open Option renaming bind_some → xZV
open Bool renaming and_eq_true_iff → xZS
open Int renaming toNat_natCast → xZR
namespace Go.Proofs.Kn
open Go Go.Ev
set_option maxRecDepth 100000
set_option maxHeartbeats 4000000
theorem eqi50 (d:Nat) (a b c e:Int) (x y:Bool):qQ Tryz.prog (Op.equalIn (d+1+1) 120 (.agg #[.int .i64 a,.int .i64 b,.bool x]) (.agg #[.int .i64 c,.int .i64 e,.bool y]))=some (decide (a=c) && (decide (b=e) && decide (x=y))):=by
 have h1:qQ Tryz.prog (underlying 120)=some (TypeDesc.struct #[{name:= "Row",type:=3,offset:=0,embedded:=false,tag:= "",pkgPath:= "",byteOffset:=0},{name:= "Column",type:=3,offset:=1,embedded:=false,tag:= "",pkgPath:= "",byteOffset:=8},{name:= "Down",type:=4,offset:=2,embedded:=false,tag:= "",pkgPath:= "",byteOffset:=16}]):=by kernel_rfl
 have h2:Tryz.prog.stoodInHeld 120=false:=by kernel_rfl
 have h3: ∀d a b,qQ Tryz.prog (Op.equalIn (d+1) 3 (.int .i64 a) (.int .i64 b))=some (a==b):=fun d a b=>by
  have:qQ Tryz.prog (underlying 3)=some (.int .i64):=by kernel_rfl
  rw [Op.equalIn];simp only [vF,this,xZV,if_true,zK]
 have h4: ∀d a b,qQ Tryz.prog (Op.equalIn (d+1) 4 (.bool a) (.bool b))=some (a==b):=fun d a b=>eqib d 4 (by kernel_rfl) a b;have p1: ∀a b x,qQ Tryz.prog (part 3 #[.int .i64 a,.int .i64 b,.bool x] 0)=some (.int .i64 a):=fun a b x=>by kernel_rfl
 have p2: ∀a b x,qQ Tryz.prog (part 3 #[.int .i64 a,.int .i64 b,.bool x] 1)=some (.int .i64 b):=fun a b x=>by kernel_rfl
 have p3: ∀a b x,qQ Tryz.prog (part 4 #[.int .i64 a,.int .i64 b,.bool x] 2)=some (.bool x):=fun a b x=>by kernel_rfl
 rw [Op.equalIn];simp only [vF,h1,xZV,pV,h2,Bool.false_eq_true,if_false];rw [<-Array.forIn_toList];simp only [List.forIn_cons,List.forIn_nil,vF,xB,p1,h3,xZV,zK];by_cases q1:a=c
 ·by_cases q2:b=e
  ·by_cases q3:x=y
   ·simp [q1,q2,q3,zK,vF,p2,p3,h3,h4,xB]
   ·simp [q1,q2,q3,zK,vF,p2,p3,h3,h4,xB]
  ·simp [q1,q2,zK,vF,p2,h3,xB]
 ·simp [q1,zK]
theorem eql50 (ox oy:Operand) (a b c e:Int) (x y:Bool):pQ Tryz.prog tb .eql 120 ox oy (.agg [.val (.int .i64 a),.val (.int .i64 b),.val (.bool x)]) (.agg [.val (.int .i64 c),.val (.int .i64 e),.val (.bool y)])=some (.val (.bool (decide (a=c) && (decide (b=e) && decide (x=y))))):=by
 have h:=eqi50 9998 a b c e x y;have hq:qQ Tryz.prog (Op.equal 120 (.agg #[.int .i64 a,.int .i64 b,.bool x]) (.agg #[.int .i64 c,.int .i64 e,.bool y]))=some (decide (a=c) && (decide (b=e) && decide (x=y))):=h;have hg:qQ Tryz.prog (eqGuard .eql 120 ox oy (.agg #[.int .i64 a,.int .i64 b,.bool x]) (.agg #[.int .i64 c,.int .i64 e,.bool y]))=some ():=by
  have h1:Tryz.prog.eqGuardType Tryz.prog.depth 120=false:=by kernel_rfl
  simp [eqGuard,vF,zK,pV,xB,h1]
 simp only [pQ,toVal,toVals,vF,hg,xZV,binOp,hq,zK]
theorem bd50 (a b:Int) (x:Bool):vN tb 120 [(0,iv a),(1,iv b),(2,.val (.bool x))]=some (.agg [iv a,iv b,.val (.bool x)]):=by kernel_rfl
theorem ft88 (xt:Xt):(SE xt).ft.get 104=some Tryz.f104:=by kernel_rfl
theorem res88:Tryz.f104.results.toList=[.tmp 8]:=by kernel_rfl
def Mp.crk (m:Mp) (r c:Int) (b:Bool):Bool:=m.ks.any fun k=>decide (k.1=r) && (decide (k.2.1=c) && decide (k.2.2=b))
theorem qBy (xt:Xt) (h:Hp) (m:Mp) (ha:m.At xt h) (r c:Int) (b:Bool) {K:KP} (hk: ∀n,h.n<n->K (.ret (.val (.bool (m.crk r c b)))) (h.up n)):FnA (SE xt) 104 [m.av,iv r,iv c,.val (.bool b)] h K:=by
 refine FnA.calm ?_ hk;clear hk K;refine FnA.walk (sok xt) (ft88 xt) rfl 27 rfl ?_;obtain ⟨o1,o2,o3,o4,o5⟩:=ha.wk.ones;have hlk:=ha.lk;have hlen: ∀h',zI tb h' 24 m.vk=some m.ks.length:=fun h'=>by
  have:=ha.ks.len (h':=h') tg24 rfl;simpa using this
 refine qA fun K hn hp=> ?_;simp only [sw.1,rE,reduceIte,rL,rA];apply hn;obtain ⟨h1,hh1,_,sh1,_,fbh1⟩:=nwE h (.cells m.cs 27);rw [<-hh1];have fh1:=fbh1;have ha1:=ha.fr fh1 (xZW _);refine qB fun K hn hp=> ?_;simp only [sy.1,rL];apply hn;refine qC fun KA A1 A2 A3 A4 A5=> ?_;refine qI (sok xt) (fun st=> ∃(i:Nat) (tm:T AV),st=⟨tm,27,h1,[]⟩/\i<=m.ks.length/\tm.get 1=some (iv r)/\tm.get 2=some (iv c)/\tm.get 3=some (.val (.bool b))/\tm.get 4=some (.ptr h.n 0)/\tm.get 9=some (iv i)/\ ∀x∈m.ks.take i,(decide (x.1=r) && (decide (x.2.1=c) && decide (x.2.2=b)))=false) (fun st=>m.ks.length - (match st.tm.get 9 with|some (.val (.int _ n))=>n.toNat|_=>0)) ?_ ?_
 ·rintro st ⟨i,tm,rfl,hkA,g1,g2,g3,g4,g9,hall⟩;have muA:=g9;refine qB fun K hn hp=> ?_;simp only [sy.1,rE,reduceIte,rL,syw.1,hlen,qR,sh1,g4,g9];apply hn;by_cases hi:i<m.ks.length
  ·refine qX (by simp only [sy.1,rE,reduceIte,hi]) ?_;obtain ⟨x,hx⟩: ∃x,m.ks[i]? =some x:=⟨_,List.getElem?_eq_getElem hi⟩;have i1:=ha1.ks.idx tg24 rfl qBY rfl (i:=i) (by simpa using hi) (k:= .i64);have i2:=ha1.ks.loadA qBY rfl rfl (i:=i) (c:=Kn.k3 x) (by rw [xZX,hx];rfl);obtain ⟨xr,xc,xb⟩:=x;simp only [Kn.k3,List.map_cons,List.map_nil] at i2;refine zD ?_;refine qC fun KB B1 B2 B3 B4 B5=> ?_;refine qA fun K hn hp=> ?_;simp only [sy.1,rE,reduceIte,rL,sh1,g1,g2,g3,g4,g9,i1,i2,bd50,eql50];apply hn;cases q:(decide (xr=r) && (decide (xc=c) && decide (xb=b)))
   ·refine wcF (by simp only [sy.1,rE,reduceIte]) ?_;refine qN (B1 _ ?_);refine reg fun K hn hp=> ?_;simp only [sy.1,rE,reduceIte,rL,g9,qE hi hlk];apply hn;refine ⟨⟨i+1,_,rfl,by omega,(by simp [xZZ,g1]),(by simp [xZZ,g2]),(by simp [xZZ,g3]),(by simp [xZZ,g4]),(by simp [xZZ]),?_⟩,by simpa [xZZ,muA] using (by omega:m.ks.length - (i+1)<m.ks.length - i)⟩;rw [List.take_succ,hx];intro y hy;simp only [Option.toList_some,List.mem_append,List.mem_singleton] at hy;rcases hy with hy|rfl
    ·exact hall y hy
    ·exact q
   ·refine wcT (by simp only [sy.1,rE,reduceIte]) ?_;refine qA fun K hn hp=> ?_;simp only [sy.1,rL];apply hn;refine qD (B4 _ (A4 _ (qK res88 ⟨?_,fh1⟩)));have:m.crk r c b=true:=List.any_eq_true.2 ⟨_,List.mem_of_getElem? hx,q⟩;simp [xZZ,this]
  ·refine qU (by simp only [sy.1,rE,reduceIte,hi]) ?_;refine qG (A2 _ ?_);refine qA fun K hn hp=> ?_;simp only [sy.1,rL];apply hn;refine qD (qK res88 ⟨?_,fh1⟩);have:m.crk r c b=false:=by
    unfold Mp.crk;rw [List.any_eq_false];intro x hx;have:=hall x (by rw [List.take_of_length_le (by omega)];exact hx);rw [this];exact Bool.false_ne_true
   simp [xZZ,this]
 ·exact ⟨0,_,rfl,(by omega),(by simp [xZZ]),(by simp [xZZ]),(by simp [xZZ]),(by simp [xZZ]),(by simp [xZZ]),fun x hx=>absurd hx (by simp)⟩
theorem ft33 (xt:Xt):(SE xt).ft.get 59=some Tryz.f59:=by kernel_rfl
theorem qCE:Tryz.f59.results.toList=[.tmp 4]:=by kernel_rfl
def Mp.rcBad (m:Mp) (r0 c0 n:Nat) (i j:Nat):Bool:= !decide (m.rc i j=2) || (decide ((j:Int)+1<(c0+n:Nat)) && m.crk i j false || decide ((i:Int)+1<(r0+n:Nat)) && m.crk i j true)
def Mp.rcan (m:Mp) (R C:Nat) (n:Nat) (a b:Int):Bool:=inB a 0 ((R:Int) - n) && (inB b 0 ((C:Int) - n) && (List.range n).all fun i=>(List.range n).all fun j=> !m.rcBad a.toNat b.toNat n (a.toNat+i) (b.toNat+j))
theorem rcan_c (xt:Xt) (h:Hp) (w:Wk) (ha:w.At xt h) (R C:Nat) (hm:w.m.Is R C) (hW:w.m.W=C) (a b:Int) (q n:Nat) (th wo:Int) (hx:w.ts[q]? =some ((n:Int),th,wo)) (hn3:n<=3)
  {K:KP} (hk: ∀m,h.n<m->K (.ret (.val (.bool (w.m.rcan R C n a b)))) (h.up m)):FnA (SE xt) 59 [w.av,qBx (a,b,(q:Int))] h K:=by
 refine FnA.calm ?_ hk;clear hk K;refine FnA.walk (sok xt) (ft33 xt) rfl 91 rfl ?_;have hR6:=hm.r6;have hC8:=hm.c8;have hRR:=hm.hR;obtain ⟨o1,o2,o3,o4,o5⟩:=ha.ones;have hq:q<w.ts.length:=(xZU.1 hx).1;have i1:=ha.ts.idx qAg rfl yF rfl (i:=q) (by simpa using hq) (k:= .i64);refine qA fun K hn hp=> ?_;simp only [sw.1,rE,reduceIte,rL];apply hn;obtain ⟨h1,hh1,nh1,sh1,kh1,fbh1⟩:=nwE h (.cells w.cs 30);rw [<-hh1];have fh1:=fbh1;obtain ⟨h2,hh2,nh2,sh2,kh2,fbh2⟩:=nwE h1 (.cells [iv a,iv b,iv q] 63);rw [<-hh2];have fh2:Fr h.n h h2:=fh1.trans fbh2 (by omega);simp only [nh1,Nat.add_assoc,rA] at nh2 sh2 kh2;have s1:=(kh2 h.n (by omega)).trans sh1;have ha2:=ha.fr fh2 (xZW _);have hne:w.ts.map Kn.t3≠[]:=by intro e;have:=congrArg List.length e;simp at this;rw [this] at hq;simp at hq
 have i2:=ha2.ts.fa hne yF rfl (f:=0) (o:=0) (s:=0) (ft:=3) rfl (q*3);have i3:qO tb xt h2 3 (elp w.vt (q*3+0))=some (iv n):=ha2.ts.load tg3 rfl (i:=q) (j:=0) (c:=Kn.t3 ((n:Int),th,wo)) (by rw [xZX,hx];rfl) rfl;have w1:IntKind.i64.wrap ((R:Int) - (n:Int))=(R:Int) - n:=qF _ (by omega) (by omega);have w2:IntKind.i64.wrap ((C:Int) - (n:Int))=(C:Int) - n:=qF _ (by omega) (by omega);simp only [Nat.add_zero] at i2 i3;refine qW (sok xt) 9 1 1 [(3,1),(5,1),(8,1)] (by kernel_rfl) fun K hn hp=> ?_;have z27:te27.zero.map AV.val=[.val (.slice none 0 0),iv 0,iv 0,.val (.slice none 0 0),.val (.slice none 0 0),.val (.slice none 0 0)]:=rfl;obtain ⟨hA,hhA⟩: ∃hA:Hp,hA={t:=vG h2.t h2.n [.cells [.val (.slice none 0 0),iv 0,iv 0,.val (.slice none 0 0),.val (.slice none 0 0),.val (.slice none 0 0)] 27],n:=h2.n+1}:=⟨_,rfl⟩;have a1:vG h2.t h2.n [.cells [.val (.slice none 0 0),iv 0,iv 0,.val (.slice none 0 0),.val (.slice none 0 0),.val (.slice none 0 0)] 27]=hA.t:=by rw [hhA]
 have a6:hA.n=h2.n+1:=by rw [hhA]
 have a3:hA.t.get h2.n=some (.cells [.val (.slice none 0 0),iv 0,iv 0,.val (.slice none 0 0),.val (.slice none 0 0),.val (.slice none 0 0)] 27):=by rw [<-a1,v6,xZZ,if_pos rfl]
 have a5: ∀x,x≠h2.n->hA.t.get x=h2.t.get x:=fun x h1=>by rw [<-a1,v6,xZZ,if_neg h1];rfl
 have y1:=(a5 h.n (by omega)).trans s1;have y2:=(a5 (h.n+1) (by omega)).trans sh2;have fA:Fr h2.n h2 hA:=⟨by omega,by omega,fun x hx=>a5 x (by omega)⟩;have i3A:qO tb xt hA 3 (elp w.vt (q*3))=some (iv n):=(ha2.ts.fr fA (xZW _)).load tg3 rfl (i:=q) (j:=0) (c:=Kn.t3 ((n:Int),th,wo)) (by rw [xZX,hx];rfl) rfl;rw [nh2] at a1 a3;simp only [sw.1,rE,reduceIte,rL,rA,rD,syw.1,o1,o2,o3,o4,i1,sh2,nh2,s1,i2,i3,qGh (E:=SE xt) tg27,z27,a1,a3,y1,y2];have a2:({t:=hA.t,n:=h.n+3}:Hp)=hA:=by
  have e:hA.n=h.n+3:=by omega
  rw [<-e]
 obtain ⟨h3,hh3⟩: ∃h3:Hp,h3=hA.set (h.n+2) (.cells w.m.cs 27):=⟨_,rfl⟩;have nh3:h3.n=h.n+3:=by rw [hh3,Hp.set_n];omega
 have k3: ∀x,x≠h.n+2->h3.t.get x=h2.t.get x:=fun x hx=>by rw [hh3,Hp.set_t,xZZ,if_neg hx];exact a5 x (by omega)
 have t3:h3.t.get (h.n+2)=some (.cells w.m.cs 27):=by rw [hh3,Hp.set_t,xZZ,if_pos rfl]
 have f3:Fr h2.n h2 h3:=⟨by omega,by omega,fun x hx=>k3 x (by omega)⟩;have i3B:qO tb xt h3 3 (elp w.vt (q*3))=some (iv n):=(ha2.ts.fr f3 (xZW _)).load tg3 rfl (i:=q) (j:=0) (c:=Kn.t3 ((n:Int),th,wo)) (by rw [xZX,hx];rfl) rfl;refine ⟨⟨?_,?_,?_⟩,hn _ _ ?_⟩
 ·have:=(aload_t tb xt h3 (h.n+2) 3 (elp w.vt (q*3))).trans i3B;rw [hh3] at this;exact this
 ·rw [if_neg (by omega)];rfl
 ·rw [if_neg (by omega)];rfl
 rw [a2,<-hh3];have fr3:Fr h.n h h3:=fh2.trans f3 (by omega);have ha3:=ha.fr fr3 (xZW _);have u2:=(k3 (h.n+1) (by omega)).trans sh2;refine jP ?_;refine qW (sok xt) 0 0 18 [(1,1),(10,3)] (by kernel_rfl) fun K hn hp=> ?_;simp only [sy.1,rE,reduceIte,rL,rA,syw.1,t3,u2];refine cAS (kH xt h3 w.m ha3.m fun n1 hn1=> ?_);simp only [sy.1,rE,reduceIte,rL,rA,syw.1,w1,hn1,hRR];refine cAS (kG xt _ _ _ _ fun n2 hn2=> ?_);simp only [xZT] at hn2;cases e1:(decide (0<=a) && decide (a<=(R:Int) - n))
 ·simp only [sy.1,rE,reduceIte,rL,rA,syw.1,u2,hn2,xZY];apply hn;refine qX (by simp only [sy.1,rE,reduceIte]) ?_;refine qB fun K hn hp=> ?_;simp only [sy.1,rL];apply hn;refine qS (qK qCE ⟨?_,fr3.up (by omega)⟩);have e1':inB a 0 ((R:Int) - n)=false:=e1;simp [xZZ,Mp.rcan,e1']
 simp only [sy.1,rE,reduceIte,rL,rA,syw.1,t3,u2,hn2,xZY];refine cAS (kK xt _ w.m (ha3.m.up (by omega)) fun n3 hn3=> ?_);simp only [xZT] at hn3;simp only [sy.1,rE,reduceIte,rL,rA,syw.1,w2,hn3,hW,xZY];refine cAS (kG xt _ _ _ _ fun n4 hn4=> ?_);simp only [xZT] at hn4;cases e2:(decide (0<=b) && decide (b<=(C:Int) - n))
 ·simp only [sy.1,rE,reduceIte,rL,rA,syw.1,u2,hn4,xZY];apply hn;refine qX (by simp only [sy.1,rE,reduceIte]) ?_;refine qB fun K hn hp=> ?_;simp only [sy.1,rL];apply hn;refine qS (qK qCE ⟨?_,fr3.up (by omega)⟩);have e1':inB a 0 ((R:Int) - n)=true:=e1;have e2':inB b 0 ((C:Int) - n)=false:=e2;simp [xZZ,Mp.rcan,e1',e2']
 simp only [sy.1,rE,reduceIte,rL,rA,syw.1,u2,hn4,xZY];apply hn;refine jL (by simp only [sy.1,rE,reduceIte]) ?_;obtain ⟨za,zb⟩:=xZS.1 e1;have za:=of_decide_eq_true za;have zb:=of_decide_eq_true zb;obtain ⟨zc,zd⟩:=xZS.1 e2;have zc:=of_decide_eq_true zc;have zd:=of_decide_eq_true zd;obtain ⟨r0,rfl⟩: ∃r0:Nat,a=r0:=⟨a.toNat,by omega⟩;obtain ⟨c0,rfl⟩: ∃c0:Nat,b=c0:=⟨b.toNat,by omega⟩;have w3:IntKind.i64.wrap ((r0:Int)+(n:Int))=((r0+n:Nat):Int):=by rw [qF _ (by omega) (by omega)];simp
 have w4:IntKind.i64.wrap ((c0:Int)+(n:Int))=((c0+n:Nat):Int):=by rw [qF _ (by omega) (by omega)];simp
 have e1':inB (r0:Int) 0 ((R:Int) - n)=true:=e1;have e2':inB (c0:Int) 0 ((C:Int) - n)=true:=e2;have no: ∀i j,r0<=i->i<r0+n->c0<=j->j<c0+n->w.m.rcBad r0 c0 n i j=true->w.m.rcan R C n r0 c0=false:=fun i j h1 h2 h3 h4 h5=>by
  simp only [Mp.rcan,e1',e2',Bool.true_and,xZR];refine xA (p:=fun i'=>(List.range n).all fun j'=> !w.m.rcBad r0 c0 n (r0+i') (c0+j')) (k:=i - r0) (by omega) (xA (p:=fun j'=> !w.m.rcBad r0 c0 n (r0+(i - r0)) (c0+j')) (k:=j - c0) (by omega) ?_);have q1:r0+(i - r0)=i:=by omega
  have q2:c0+(j - c0)=j:=by omega
  show (!w.m.rcBad r0 c0 n (r0+(i - r0)) (c0+(j - c0)))=false;rw [q1,q2,h5];rfl
 refine qB fun K hn hp=> ?_;simp only [sy.1,rE,reduceIte,rL,u2];apply hn;refine qC fun KA A1 A2 A3 A4 A5=> ?_;refine qI (sok xt) (fun st=> ∃(i:Nat) (m:Nat) (tm:T AV),st=⟨tm,91,h3.up m,[]⟩/\i<=(r0+n)/\tm.get 2=some (.ptr h.n 0)/\tm.get 3=some (.ptr (h.n+1) 0)/\tm.get 5=some (.ptr (h.n+2) 0)/\tm.get 6=some (iv n)/\tm.get 7=some (iv i)/\h3.n<=m/\r0<=i/\ ∀i',r0<=i'->i'<i-> ∀j',c0<=j'->j'<c0+n->w.m.rcBad r0 c0 n i' j'=false) (fun st=>(r0+n) - (match st.tm.get 7 with|some (.val (.int _ n))=>n.toNat|_=>0)) ?_ ?_
 ·rintro st ⟨i,m,tm,rfl,hkA,g2,g3,g5,g6,g7,hm1,hi0,hall⟩;have muA:=g7;refine qB fun K hn hp=> ?_;simp only [sy.1,rE,reduceIte,rL,u2,w3,qR,g3,g6,g7];apply hn;by_cases hi:i<r0+n
  ·refine qV (by simp only [sy.1,rE,reduceIte,hi]) ?_;refine qC fun KB B1 B2 B3 B4 B5=> ?_;refine qA fun K hn hp=> ?_;simp only [sy.1,rE,reduceIte,rL,u2,g3];apply hn;refine qY fun KD D1 D2 D3 D4 D5=> ?_;refine qI (sok xt) (fun st=> ∃(j:Nat) (m2:Nat) (tm:T AV),st=⟨tm,91,h3.up m2,[]⟩/\j<=(c0+n)/\tm.get 2=some (.ptr h.n 0)/\tm.get 3=some (.ptr (h.n+1) 0)/\tm.get 5=some (.ptr (h.n+2) 0)/\tm.get 6=some (iv n)/\tm.get 7=some (iv i)/\tm.get 8=some (iv j)/\h3.n<=m2/\c0<=j/\ ∀j',c0<=j'->j'<j->w.m.rcBad r0 c0 n i j'=false) (fun st=>(c0+n) - (match st.tm.get 8 with|some (.val (.int _ n))=>n.toNat|_=>0)) ?_ ?_
   ·rintro st ⟨j,m2,tm,rfl,hkD,g2,g3,g5,g6,g7,g8,hm2,hj0,hallj⟩;have muD:=g8;refine qB fun K hn hp=> ?_;simp only [sy.1,rE,reduceIte,rL,u2,w4,qR,g3,g6,g8];apply hn;by_cases hj:j<c0+n
    ·refine qV (by simp only [sy.1,rE,reduceIte,hj]) ?_;refine qC fun KE E1 E2 E3 E4 E5=> ?_;have w5:IntKind.i64.wrap ((j:Int)+1)=((j+1:Nat):Int):=by rw [qF _ (by omega) (by omega)];simp
     have w6:IntKind.i64.wrap ((i:Int)+1)=((i+1:Nat):Int):=by rw [qF _ (by omega) (by omega)];simp
     have next: ∀(tm:T AV) (m3:Nat),h3.n<=m3->w.m.rcBad r0 c0 n i j=false->tm.get 2=some (.ptr h.n 0)->tm.get 3=some (.ptr (h.n+1) 0)->tm.get 5=some (.ptr (h.n+2) 0)->tm.get 6=some (iv n)->tm.get 7=some (iv i)->tm.get 8=some (iv j)->KE .normal ⟨tm,91,h3.up m3,[]⟩:=by
      intro tm m3 hm3 hb g2 g3 g5 g6 g7 g8;refine E1 _ ?_;refine reg fun K hn hp=> ?_;simp only [sy.1,rE,reduceIte,rL,g8,qE hj (show c0+n<=9223372036854775807 by omega)];apply hn;refine ⟨⟨j+1,m3,_,rfl,by omega,(by simp [xZZ,g2]),(by simp [xZZ,g3]),(by simp [xZZ,g5]),(by simp [xZZ,g6]),(by simp [xZZ,g7]),(by simp [xZZ]),hm3,by omega,fun j' h1 h2=> ?_⟩,by simpa [xZZ,muD] using (by omega:(c0+n) - (j+1)<(c0+n) - j)⟩;by_cases e:j'=j
      ·rw [e];exact hb
      ·exact hallj j' h1 (by omega)
     refine qA fun K hn hp=> ?_;simp only [sy.1,rE,reduceIte,rL,rA,t3,g5,g7,g8];refine cAS (rc_c xt _ w.m (ha3.m.up hm2) i j fun n5 hn5=> ?_);simp only [xZT] at hn5;cases c1:decide (w.m.rc i j=2)
     ·simp only [sy.1,rE,reduceIte,rL,syw.1,c1,xZY];apply hn;refine wcT (by simp only [sy.1,rE,reduceIte]) ?_;refine qA fun K hn hp=> ?_;simp only [sy.1,rL];apply hn;refine qD (E4 _ (D4 _ (B4 _ (A4 _ (qK qCE ⟨?_,fr3.up (by omega)⟩)))));simp [xZZ,no i j hi0 hi hj0 hj (by simp [Mp.rcBad,c1])]
     have r1:decide ((j:Int)+1<((c0+n:Nat):Int))=decide (j+1<c0+n):=decide_eq_decide.2 (by omega);have r2:decide ((i:Int)+1<((r0+n:Nat):Int))=decide (i+1<r0+n):=decide_eq_decide.2 (by omega);by_cases d1:j+1<c0+n
     ·simp only [sy.1,rE,reduceIte,rL,rA,t3,u2,w4,qR,g3,g5,g6,g7,g8,c1,w5,d1,xZY];refine cAS (qBy xt _ w.m (ha3.m.up (by omega)) i j false fun n6 hn6=> ?_);simp only [xZT] at hn6;cases c2:w.m.crk i j false
      rotate_left
      ·simp only [sy.1,rE,reduceIte,rL,syw.1,xZY];apply hn;refine wcT (by simp only [sy.1,rE,reduceIte]) ?_;refine qA fun K hn hp=> ?_;simp only [sy.1,rL];apply hn;refine qD (E4 _ (D4 _ (B4 _ (A4 _ (qK qCE ⟨?_,fr3.up (by omega)⟩)))));simp [xZZ,no i j hi0 hi hj0 hj (by simp only [Mp.rcBad,c1,r1,r2];simp [*])]
      by_cases d2:i+1<r0+n
      ·simp only [sy.1,rE,reduceIte,rL,rA,t3,u2,w3,qR,g3,g5,g6,g7,g8,w6,d2,xZY];refine cAS (qBy xt _ w.m (ha3.m.up (by omega)) i j true fun n7 hn7=> ?_);simp only [xZT] at hn7;cases c3:w.m.crk i j true
       rotate_left
       ·simp only [sy.1,rE,reduceIte,rL,xZY];apply hn;refine wcT (by simp only [sy.1,rE,reduceIte]) ?_;refine qA fun K hn hp=> ?_;simp only [sy.1,rL];apply hn;refine qD (E4 _ (D4 _ (B4 _ (A4 _ (qK qCE ⟨?_,fr3.up (by omega)⟩)))));simp [xZZ,no i j hi0 hi hj0 hj (by simp only [Mp.rcBad,c1,r1,r2];simp [*])]
       simp only [sy.1,rE,reduceIte,rL,xZY];apply hn;refine wcF (by simp only [sy.1,rE,reduceIte]) ?_;refine qN (next _ n7 (by omega) (by simp only [Mp.rcBad,c1,r1,r2];simp [*]) ?_ ?_ ?_ ?_ ?_ ?_);all_goals simp [xZZ,g2,g3,g5,g6,g7,g8]
      ·skip
       simp only [sy.1,rE,reduceIte,rL,u2,w3,qR,g3,g6,g7,w6,d2,xZY];apply hn;refine wcF (by simp only [sy.1,rE,reduceIte]) ?_;refine qN (next _ n6 (by omega) (by simp only [Mp.rcBad,c1,r1,r2];simp [*]) ?_ ?_ ?_ ?_ ?_ ?_);all_goals simp [xZZ,g2,g3,g5,g6,g7,g8]
     ·skip
      by_cases d2:i+1<r0+n
      ·simp only [sy.1,rE,reduceIte,rL,rA,t3,u2,w3,w4,qR,g3,g5,g6,g7,g8,c1,w5,w6,d1,d2,xZY];refine cAS (qBy xt _ w.m (ha3.m.up (by omega)) i j true fun n7 hn7=> ?_);simp only [xZT] at hn7;cases c3:w.m.crk i j true
       rotate_left
       ·simp only [sy.1,rE,reduceIte,rL,xZY];apply hn;refine wcT (by simp only [sy.1,rE,reduceIte]) ?_;refine qA fun K hn hp=> ?_;simp only [sy.1,rL];apply hn;refine qD (E4 _ (D4 _ (B4 _ (A4 _ (qK qCE ⟨?_,fr3.up (by omega)⟩)))));simp [xZZ,no i j hi0 hi hj0 hj (by simp only [Mp.rcBad,c1,r1,r2];simp [*])]
       simp only [sy.1,rE,reduceIte,rL,xZY];apply hn;refine wcF (by simp only [sy.1,rE,reduceIte]) ?_;refine qN (next _ n7 (by omega) (by simp only [Mp.rcBad,c1,r1,r2];simp [*]) ?_ ?_ ?_ ?_ ?_ ?_);all_goals simp [xZZ,g2,g3,g5,g6,g7,g8]
      ·skip
       simp only [sy.1,rE,reduceIte,rL,u2,w3,w4,qR,g3,g6,g7,g8,c1,w5,w6,d1,d2,xZY];apply hn;refine wcF (by simp only [sy.1,rE,reduceIte]) ?_;refine qN (next _ n5 (by omega) (by simp only [Mp.rcBad,c1,r1,r2];simp [*]) ?_ ?_ ?_ ?_ ?_ ?_);all_goals simp [xZZ,g2,g3,g5,g6,g7,g8]
    ·refine qU (by simp only [sy.1,rE,reduceIte,hj]) ?_;refine qG (D2 _ ?_);refine B1 _ ?_;refine reg fun K hn hp=> ?_;simp only [sy.1,rE,reduceIte,rL,g7,qE hi (show r0+n<=9223372036854775807 by omega)];apply hn;refine ⟨⟨i+1,m2,_,rfl,by omega,(by simp [xZZ,g2]),(by simp [xZZ,g3]),(by simp [xZZ,g5]),(by simp [xZZ,g6]),(by simp [xZZ]),hm2,by omega,fun i' h1 h2 j' h3 h4=> ?_⟩,by simpa [xZZ,muA] using (by omega:(r0+n) - (i+1)<(r0+n) - i)⟩;by_cases e:i'=i
     ·rw [e];exact hallj j' h3 (by omega)
     ·exact hall i' h1 (by omega) j' h3 h4
   ·exact ⟨c0,m,_,rfl,(by omega),(by simp [xZZ,g2]),(by simp [xZZ,g3]),(by simp [xZZ,g5]),(by simp [xZZ,g6]),(by simp [xZZ,g7]),(by simp [xZZ]),hm1,xZW _,fun j' h1 h2=>absurd h1 (by omega)⟩
  ·refine qU (by simp only [sy.1,rE,reduceIte,hi]) ?_;refine qG (A2 _ ?_);refine qA fun K hn hp=> ?_;simp only [sy.1,rL];apply hn;refine qD (qK qCE ⟨?_,fr3.up (by omega)⟩);have:w.m.rcan R C n r0 c0=true:=by
    simp only [Mp.rcan,e1',e2',Bool.true_and,xZR];exact uA fun i' h1=>uA fun j' h2=>by rw [hall (r0+i') (by omega) (by omega) (c0+j') (by omega) (by omega)];rfl
   simp [xZZ,this]
 ·exact ⟨r0,n4,_,rfl,(by omega),(by simp [xZZ]),(by simp [xZZ]),(by simp [xZZ]),(by simp [xZZ]),(by simp [xZZ]),by omega,xZW _,fun i' h1 h2=>absurd h1 (by omega)⟩
theorem ft111 (xt:Xt):(SE xt).ft.get 119=some Tryz.f119:=by kernel_rfl
theorem res111:Tryz.f119.results.toList=[.tmp 6]:=by kernel_rfl
theorem slices_c (xt:Xt) (h:Hp) (w:Wk) (ha:w.At xt h) (v:AV) (hv:Go.Ev.one v=true) (a b:Int) (q:Nat) (n th wo:Int) (hx:w.ts[q]? =some (n,th,wo)) (hk1:0<=w.kerf) (hk2:w.kerf<=5) (ht1:1<=th) (ht2:th<=60) (bk:Int) (b1:bk<=60) (b2:0<=bk)
  {K:KP} (hk: ∀m,h.n<m->K (.ret (iv ((bk+w.kerf).tdiv (th+w.kerf)))) (h.up m)):FnA (SE xt) 119 [.agg (w.bc v),qBx (a,b,(q:Int)),iv bk] h K:=by
 refine FnA.calm ?_ hk;clear hk K;refine FnA.walk (sok xt) (ft111 xt) rfl 25 rfl ?_;obtain ⟨o1,o2,o3,o4,o5⟩:=ha.ones;have hq:q<w.ts.length:=(xZU.1 hx).1;have i1:=ha.ts.idx qAg rfl yF rfl (i:=q) (by simpa using hq) (k:= .i64);refine qA fun K hn hp=> ?_;simp only [sw.1,rE,reduceIte,rL,rA];apply hn;obtain ⟨h1,hh1,nh1,sh1,kh1,fbh1⟩:=nwE h (.cells (w.bc v) 85);rw [<-hh1];have fh1:=fbh1;obtain ⟨h2,hh2,nh2,sh2,kh2,fbh2⟩:=nwE h1 (.cells [iv a,iv b,iv q] 63);rw [<-hh2];have fh2:Fr h.n h h2:=fh1.trans fbh2 (by omega);simp only [nh1,Nat.add_assoc,rA] at nh2 sh2 kh2;have s1:=(kh2 h.n (by omega)).trans sh1;have ha2:=ha.fr fh2 (xZW _);have hne:w.ts.map Kn.t3≠[]:=by intro e;have:=congrArg List.length e;simp at this;rw [this] at hq;simp at hq
 have i2:=ha2.ts.fa hne yF rfl (f:=1) (o:=1) (s:=0) (ft:=3) rfl (q*3);have i3:qO tb xt h2 3 (elp w.vt (q*3+1))=some (iv th):=ha2.ts.load tg3 rfl (i:=q) (j:=1) (c:=Kn.t3 (n,th,wo)) (by rw [xZX,hx];rfl) rfl;have w3:IntKind.i64.wrap (bk+w.kerf)=bk+w.kerf:=qF _ (by omega) (by omega);have w4:IntKind.i64.wrap (th+w.kerf)=th+w.kerf:=qF _ (by omega) (by omega);have e5:(bk+w.kerf).tdiv (th+w.kerf)=(bk+w.kerf) / (th+w.kerf):=Int.tdiv_eq_ediv_of_nonneg (by omega);have e6:=Int.ediv_nonneg (a:=bk+w.kerf) (b:=th+w.kerf) (by omega) (by omega);have e7:=Int.ediv_le_self (th+w.kerf) (show 0<=bk+w.kerf by omega);have w5:IntKind.i64.wrap ((bk+w.kerf).tdiv (th+w.kerf))=(bk+w.kerf).tdiv (th+w.kerf):=qF _ (by omega) (by omega);refine jQ (sok xt) 19 (by kernel_rfl) fun K hn hp=> ?_;simp only [sy.1,rE,reduceIte,rL,i1,sh2,s1,i2,i3,w3,w4,qGd _ _ (show th+w.kerf≠0 by omega),w5];refine hn _ _ (qD (qK res111 ⟨?_,fh2⟩));simp [xZZ]
end Go.Proofs.Kn
noncomputable section
namespace Go.Ev
section
variable {E:Env} {nt:Nat} {ops:Array Oper}
end
section
variable {E:Env} {nt:Nat} {ops:Array Oper} {r:Option Nat} {mks:List Nat}
end
end Go.Ev
end
