/- Parts of the proof, joined by a program. -/
import Derived.Test.YtmklipblkmlojaaGreatDoorQF3
set_option linter.all false
open Nat renaming reduceEqDiff → rE, reduceLeDiff → rD, reduceAdd → rA, reduceMul → rM, reduceLT → rL
open Go.Ev.T renaming get_put → xZZ
open Option renaming bind_some → xZY
open List renaming getElem?_map → xZX, getElem?_eq_getElem → xZW, forIn_cons → xZT, forIn_nil → xZS, map_cons → xZR, map_nil → xZP
open Array renaming forIn_toList → xZV
open Bool renaming false_eq_true → xZU, not_true → xZQ
namespace Go.Ev
theorem j0 {P:Program} {α β:Type}: ∀(s:Sem α) (f:α->Sem β),qN P (s>>=f)=(qN P s).bind (fun a=>qN P (f a))
 | .pure a,f=>rfl
 | .program k,f=>by show qN P ((k P)>>=f)=_;rw [j0 (k P) f];rfl
 | .mark m k,f=>by show qN P (k>>=f)=_;rw [j0 k f];rfl
 | .load _ _ _,_=>rfl
 | .store _ _ _ _,_=>rfl
 | .new _ _,_=>rfl
 | .shape _ _,_=>rfl
 | .freeze _ _ _,_=>rfl
 | .frozen _ _,_=>rfl
 | .getObj _ _,_=>rfl
 | .setObj _ _ _,_=>rfl
 | .choose _ _,_=>rfl
 | .sys _ _,_=>rfl
 | .halt _,_=>rfl
theorem jK {P:Program} {α:Type} (a:α):qN P (pure a:Sem α)=some a:=rfl
theorem kF {P:Program} {α:Type} (c:Prop) [Decidable c] (a b:Sem α):qN P (if c then a else b)=if c then qN P a else qN P b:=by split<;>rfl
theorem zH {P:Program}:qN P program=some P:=rfl
end Go.Ev
namespace Go.Proofs.Kn
open Go Go.Ev
set_option maxRecDepth 100000
set_option maxHeartbeats 4000000
theorem eqs3 (d:Nat) (a:Int):qN Tryz.prog (Op.equalIn (d+1) 3 (.int .i64 a) (.int .i64 a))=some true:=by
 have:qN Tryz.prog (underlying 3)=some (.int .i64):=by kernel_rfl
 rw [Op.equalIn];simp only [j0,this,xZY,if_true,jK,beq_self_eq_true]
theorem eqs4 (d:Nat) (a:Bool):qN Tryz.prog (Op.equalIn (d+1) 4 (.bool a) (.bool a))=some true:=by
 have:qN Tryz.prog (underlying 4)=some .bool:=by kernel_rfl
 rw [Op.equalIn];simp only [j0,this,xZY,if_true,jK,beq_self_eq_true]
theorem eqs87 (n:Nat) (a:Int) (b:Int) (c:Int) (d:Int):qN Tryz.prog (Op.equalIn (n+1+1) 87 (.agg #[.int .i64 a,.int .i64 b,.int .i64 c,.int .i64 d]) (.agg #[.int .i64 a,.int .i64 b,.int .i64 c,.int .i64 d]))=some true:=by
 have h1:qN Tryz.prog (underlying 87)=some (TypeDesc.struct #[{name:= "Row",type:=3,offset:=0,embedded:=false,tag:= "",pkgPath:= "",byteOffset:=0},{name:= "Column",type:=3,offset:=1,embedded:=false,tag:= "",pkgPath:= "",byteOffset:=8},{name:= "Seen",type:=3,offset:=2,embedded:=false,tag:= "",pkgPath:= "",byteOffset:=16},{name:= "Off",type:=3,offset:=3,embedded:=false,tag:= "",pkgPath:= "",byteOffset:=24}]):=by kernel_rfl
 have h2:Tryz.prog.stoodInHeld 87=false:=by kernel_rfl
 have p0:qN Tryz.prog (part 3 #[.int .i64 a,.int .i64 b,.int .i64 c,.int .i64 d] 0)=some (.int .i64 a):=by kernel_rfl
 have p1:qN Tryz.prog (part 3 #[.int .i64 a,.int .i64 b,.int .i64 c,.int .i64 d] 1)=some (.int .i64 b):=by kernel_rfl
 have p2:qN Tryz.prog (part 3 #[.int .i64 a,.int .i64 b,.int .i64 c,.int .i64 d] 2)=some (.int .i64 c):=by kernel_rfl
 have p3:qN Tryz.prog (part 3 #[.int .i64 a,.int .i64 b,.int .i64 c,.int .i64 d] 3)=some (.int .i64 d):=by kernel_rfl
 rw [Op.equalIn];simp only [j0,h1,xZY,zH,h2,xZU,if_false,jK];rw [<-xZV];simp [xZT,xZS,j0,kF,p0,p1,p2,p3,eqs3,eqs4,jK]
theorem neq87 (ox oy:Operand) (a:Int) (b:Int) (c:Int) (d:Int):vO Tryz.prog tb .neq 87 ox oy (.agg [.val (.int .i64 a),.val (.int .i64 b),.val (.int .i64 c),.val (.int .i64 d)]) (.agg [.val (.int .i64 a),.val (.int .i64 b),.val (.int .i64 c),.val (.int .i64 d)])=some (.val (.bool false)):=by
 have hq:qN Tryz.prog (Op.equal 87 (.agg #[.int .i64 a,.int .i64 b,.int .i64 c,.int .i64 d]) (.agg #[.int .i64 a,.int .i64 b,.int .i64 c,.int .i64 d]))=some true:=eqs87 9998 a b c d;have hg:qN Tryz.prog (eqGuard .neq 87 ox oy (.agg #[.int .i64 a,.int .i64 b,.int .i64 c,.int .i64 d]) (.agg #[.int .i64 a,.int .i64 b,.int .i64 c,.int .i64 d]))=some ():=by
  have h1:Tryz.prog.eqGuardType Tryz.prog.depth 87=false:=by kernel_rfl
  simp [eqGuard,j0,jK,zH,kF,h1]
 simp only [vO,toVal,toVals,j0,hg,xZY,binOp,hq,jK];rfl
theorem eqs90 (n:Nat) (a:Int) (b:Int) (c:Bool):qN Tryz.prog (Op.equalIn (n+1+1) 90 (.agg #[.int .i64 a,.int .i64 b,.bool c]) (.agg #[.int .i64 a,.int .i64 b,.bool c]))=some true:=by
 have h1:qN Tryz.prog (underlying 90)=some (TypeDesc.struct #[{name:= "Row",type:=3,offset:=0,embedded:=false,tag:= "",pkgPath:= "",byteOffset:=0},{name:= "Column",type:=3,offset:=1,embedded:=false,tag:= "",pkgPath:= "",byteOffset:=8},{name:= "Down",type:=4,offset:=2,embedded:=false,tag:= "",pkgPath:= "",byteOffset:=16}]):=by kernel_rfl
 have h2:Tryz.prog.stoodInHeld 90=false:=by kernel_rfl
 have p0:qN Tryz.prog (part 3 #[.int .i64 a,.int .i64 b,.bool c] 0)=some (.int .i64 a):=by kernel_rfl
 have p1:qN Tryz.prog (part 3 #[.int .i64 a,.int .i64 b,.bool c] 1)=some (.int .i64 b):=by kernel_rfl
 have p2:qN Tryz.prog (part 4 #[.int .i64 a,.int .i64 b,.bool c] 2)=some (.bool c):=by kernel_rfl
 rw [Op.equalIn];simp only [j0,h1,xZY,zH,h2,xZU,if_false,jK];rw [<-xZV];simp [xZT,xZS,j0,kF,p0,p1,p2,eqs3,eqs4,jK]
theorem neq90 (ox oy:Operand) (a:Int) (b:Int) (c:Bool):vO Tryz.prog tb .neq 90 ox oy (.agg [.val (.int .i64 a),.val (.int .i64 b),.val (.bool c)]) (.agg [.val (.int .i64 a),.val (.int .i64 b),.val (.bool c)])=some (.val (.bool false)):=by
 have hq:qN Tryz.prog (Op.equal 90 (.agg #[.int .i64 a,.int .i64 b,.bool c]) (.agg #[.int .i64 a,.int .i64 b,.bool c]))=some true:=eqs90 9998 a b c;have hg:qN Tryz.prog (eqGuard .neq 90 ox oy (.agg #[.int .i64 a,.int .i64 b,.bool c]) (.agg #[.int .i64 a,.int .i64 b,.bool c]))=some ():=by
  have h1:Tryz.prog.eqGuardType Tryz.prog.depth 90=false:=by kernel_rfl
  simp [eqGuard,j0,jK,zH,kF,h1]
 simp only [vO,toVal,toVals,j0,hg,xZY,binOp,hq,jK];rfl
theorem eqs92 (n:Nat) (a:Int) (b:Int):qN Tryz.prog (Op.equalIn (n+1+1) 92 (.agg #[.int .i64 a,.int .i64 b]) (.agg #[.int .i64 a,.int .i64 b]))=some true:=by
 have h1:qN Tryz.prog (underlying 92)=some (TypeDesc.struct #[{name:= "Row",type:=3,offset:=0,embedded:=false,tag:= "",pkgPath:= "",byteOffset:=0},{name:= "Column",type:=3,offset:=1,embedded:=false,tag:= "",pkgPath:= "",byteOffset:=8}]):=by kernel_rfl
 have h2:Tryz.prog.stoodInHeld 92=false:=by kernel_rfl
 have p0:qN Tryz.prog (part 3 #[.int .i64 a,.int .i64 b] 0)=some (.int .i64 a):=by kernel_rfl
 have p1:qN Tryz.prog (part 3 #[.int .i64 a,.int .i64 b] 1)=some (.int .i64 b):=by kernel_rfl
 rw [Op.equalIn];simp only [j0,h1,xZY,zH,h2,xZU,if_false,jK];rw [<-xZV];simp [xZT,xZS,j0,kF,p0,p1,eqs3,eqs4,jK]
theorem neq92 (ox oy:Operand) (a:Int) (b:Int):vO Tryz.prog tb .neq 92 ox oy (.agg [.val (.int .i64 a),.val (.int .i64 b)]) (.agg [.val (.int .i64 a),.val (.int .i64 b)])=some (.val (.bool false)):=by
 have hq:qN Tryz.prog (Op.equal 92 (.agg #[.int .i64 a,.int .i64 b]) (.agg #[.int .i64 a,.int .i64 b]))=some true:=eqs92 9998 a b;have hg:qN Tryz.prog (eqGuard .neq 92 ox oy (.agg #[.int .i64 a,.int .i64 b]) (.agg #[.int .i64 a,.int .i64 b]))=some ():=by
  have h1:Tryz.prog.eqGuardType Tryz.prog.depth 92=false:=by kernel_rfl
  simp [eqGuard,j0,jK,zH,kF,h1]
 simp only [vO,toVal,toVals,j0,hg,xZY,binOp,hq,jK];rfl
end Go.Proofs.Kn
namespace Go.Proofs.Kn
open Go Go.Ev
set_option maxRecDepth 100000
set_option maxHeartbeats 4000000
theorem ft12s (xt:Addr->Option Value):(SE xt).ft.get 12=some Tryz.f12:=by kernel_rfl
theorem res12s:Tryz.f12.results.toList=[.tmp 4]:=by kernel_rfl
theorem same_c (xt:Addr->Option Value) (h:Hp) (x y:Mp) (hx:x.At xt h) (hy:y.At xt h) (ec:y.cells=x.cells) (eT:y.T=x.T) (eH:y.H=x.H) (eg:y.gs=x.gs) (ek:y.ks=x.ks) (ep:y.ps=x.ps) {K:CR->Hp->Prop} (hk: ∀n,h.n<n->K (.ret (.val (.bool true))) (h.up n)):FnA (SE xt) 12 [x.av,y.av] h K:=by
 refine FnA.calm ?_ hk;clear hk K;refine FnA.walk (sok xt) (ft12s xt) rfl 159 rfl ?_;obtain ⟨o1,o2,o3,o4⟩:=hx.ones;obtain ⟨o5,o6,o7,o8⟩:=hy.ones;have lx1:=hx.len;have ly1:=hy.len;have lx2:=fun h':Hp=>(hx.gs).len (h':=h') wY rfl;have lx3:=fun h':Hp=>(hx.ks).len (h':=h') wX rfl;have lx4:=fun h':Hp=>(hx.ps).len (h':=h') wW rfl;have ly2:=fun h':Hp=>(hy.gs).len (h':=h') wY rfl;have ly3:=fun h':Hp=>(hy.ks).len (h':=h') wX rfl;have ly4:=fun h':Hp=>(hy.ps).len (h':=h') wW rfl;simp only [List.length_map] at lx2 lx3 lx4 ly2 ly3 ly4;rw [ec] at ly1;rw [eg] at ly2;rw [ek] at ly3;rw [ep] at ly4;refine qA fun K hn hp=> ?_;simp only [sw.1,rE,reduceIte,rL,rA,rM,rD,svn.down,syw.1,qE,o1,o2,o3,o4,o5,o6,o7,o8,lx1,lx2,lx3,lx4,ly1,ly2,ly3,ly4];apply hn;obtain ⟨h1,hh1,n1,s1,k1,f1⟩:=newE h (.cells x.cs 27);obtain ⟨h2,hh2,n2,s2,k2,f2⟩:=newE h1 (.cells y.cs 27);rw [<-hh1,<-hh2];have fr2:Fr h.n h h2:=f1.trans f2 (by omega);have qx:h2.t.get h.n=some (.cells x.cs 27):=(k2 h.n (by omega)).trans s1;have qy:h2.t.get (h.n+1)=some (.cells y.cs 27):=by rw [<-n1];exact s2
 have hx2:=hx.fr fr2 (Nat.le_refl _);have hy2:=hy.fr fr2 (Nat.le_refl _);have dd: ∀a:Int,decide (a=a)=true:=fun a=>decide_eq_true rfl;clear hh1 hh2 s1 s2 k1 k2;have fin: ∀tm:T AV,tm.get 4=some (.val (.bool true))->uU (SE xt) Tryz.f12 (fun r h'=>r= .ret (.val (.bool true))/\Fr h.n h h') .ret ⟨tm,159,h2,[]⟩:=fun tm g=>jB res12s ⟨by simp [g],fr2⟩;refine qL ?_;refine qA fun K hn hp=> ?_;simp only [sw.1,rE,reduceIte,rL,rA,rM,rD,svn.down,syw.1,qE,o1,o2,o3,o4,o5,o6,o7,o8,lx1,lx2,lx3,lx4,ly1,ly2,ly3,ly4,qx,qy,dd,eT,eH,xZQ];apply hn;refine qF false (by simp only [sw.1,rE,reduceIte,rL,rA,rM,rD,svn.down,syw.1,qE,o1,o2,o3,o4,o5,o6,o7,o8,lx1,lx2,lx3,lx4,ly1,ly2,ly3,ly4,qx,qy,dd]) (fun hx=>by cases hx) (fun _=> ?_);refine qV ?_;refine qL ?_;refine qA fun K hn hp=> ?_;simp only [sw.1,rE,reduceIte,rL,rA,rM,rD,svn.down,syw.1,qE,o1,o2,o3,o4,o5,o6,o7,o8,lx1,lx2,lx3,lx4,ly1,ly2,ly3,ly4,qx,qy,dd];apply hn;refine qO fun KA A1 A2 A3 A4 A5=> ?_;refine jD (sok xt) (fun st=> ∃(k:Nat) (tm:T AV),st=⟨tm,159,h2,[]⟩/\k<=x.cells.length/\tm.get 2=some (.ptr h.n 0)/\tm.get 3=some (.ptr (h.n+1) 0)/\tm.get 5=some (iv k)) (fun st=>x.cells.length - (match st.tm.get 5 with|some (.val (.int _ n))=>n.toNat|_=>0)) ?_ ?_
 ·rintro st ⟨k,tm,rfl,hkA,g2,g3,g5⟩;have muA:=g5;have q:decide ((k:Int)<(x.cells.length:Int))=decide (k<x.cells.length):=qG _ _;refine qL ?_;refine qA fun K hn hp=> ?_;simp only [sw.1,rE,reduceIte,rL,rA,rM,rD,svn.down,syw.1,qE,o1,o2,o3,o4,o5,o6,o7,o8,lx1,lx2,lx3,lx4,ly1,ly2,ly3,ly4,qx,qy,dd,g2,g3,g5,q];apply hn;by_cases hlt:k<x.cells.length
  ·refine qF true (by simp only [sw.1,rE,reduceIte,rL,rA,rM,rD,svn.down,syw.1,qE,o1,o2,o3,o4,o5,o6,o7,o8,lx1,lx2,lx3,lx4,ly1,ly2,ly3,ly4,qx,qy,dd,g2,g3,g5,hlt]) (fun _=> ?_) (fun hx=>by cases hx);refine qV ?_;refine qO fun K2 e1 e2 e3 e4 e5=> ?_;obtain ⟨l,hl⟩: ∃l,l=x.cells.getD k []:=⟨_,rfl⟩;have hll:l.length<=9223372036854775807:=by
    rw [hl];exact hx.lr _ (List.mem_of_getElem? (getD_some [] hlt))
   obtain ⟨v,i1,i2,i3,i4⟩:=hx2.rowD hlt;obtain ⟨w,j1,j2,j3,j4⟩:=hy2.rowD (i:=k) (by rw [ec];exact hlt);rw [ec] at j3 j4;rw [<-hl] at i3 i4 j3 j4;have w1:=jE hlt hx.lc;refine qL ?_;refine kX (sok xt) 12 (by kernel_rfl) fun K hn hp=> ?_;simp only [sw.1,rE,reduceIte,rL,rA,rM,rD,svn.down,syw.1,qE,o1,o2,o3,o4,o5,o6,o7,o8,lx1,lx2,lx3,lx4,ly1,ly2,ly3,ly4,qx,qy,dd,g2,g3,g5,i1,i2,i4,j1,j2,j4,xZQ];apply hn;refine qF false (by simp only [sw.1,rE,reduceIte,rL,rA,rM,rD,svn.down,syw.1,qE,o1,o2,o3,o4,o5,o6,o7,o8,lx1,lx2,lx3,lx4,ly1,ly2,ly3,ly4,qx,qy,dd,g2,g3,g5]) (fun hx=>by cases hx) (fun _=> ?_);refine qV ?_;refine qA fun K hn hp=> ?_;simp only [sw.1,rE,reduceIte,rL,rA,rM,rD,svn.down,syw.1,qE,o1,o2,o3,o4,o5,o6,o7,o8,lx1,lx2,lx3,lx4,ly1,ly2,ly3,ly4,qx,qy,dd,g2,g3,g5];apply hn;refine zQ fun KD D1 D2 D3 D4 D5=> ?_;refine jD (sok xt) (fun st=> ∃(c:Nat) (tm:T AV),st=⟨tm,159,h2,[]⟩/\c<=l.length/\tm.get 2=some (.ptr h.n 0)/\tm.get 3=some (.ptr (h.n+1) 0)/\tm.get 5=some (iv k)/\tm.get 6=some (iv c)) (fun st=>l.length - (match st.tm.get 6 with|some (.val (.int _ n))=>n.toNat|_=>0)) ?_ ?_
   ·rintro st ⟨c,tm,rfl,hkD,g2,g3,g5,g6⟩;have muD:=g6;have q2:decide ((c:Int)<(l.length:Int))=decide (c<l.length):=qG _ _;refine qL ?_;refine qA fun K hn hp=> ?_;simp only [sw.1,rE,reduceIte,rL,rA,rM,rD,svn.down,syw.1,qE,o1,o2,o3,o4,o5,o6,o7,o8,lx1,lx2,lx3,lx4,ly1,ly2,ly3,ly4,qx,qy,dd,g2,g3,g5,g6,i1,i2,i4,q2];apply hn;by_cases hc:c<l.length
    ·refine qF true (by simp only [sw.1,rE,reduceIte,rL,rA,rM,rD,svn.down,syw.1,qE,o1,o2,o3,o4,o5,o6,o7,o8,lx1,lx2,lx3,lx4,ly1,ly2,ly3,ly4,qx,qy,dd,g2,g3,g5,g6,hc]) (fun _=> ?_) (fun hx=>by cases hx);refine qV ?_;refine qO fun K3 f1 f2 f3 f4 f5=> ?_;obtain ⟨u1,u2⟩:=i3.m58 hc;obtain ⟨z1,z2⟩:=j3.m58 hc;have w2:=jE hc hll;refine kX (sok xt) 16 (by kernel_rfl) fun K hn hp=> ?_;simp only [sw.1,rE,reduceIte,rL,rA,rM,rD,svn.down,syw.1,qE,o1,o2,o3,o4,o5,o6,o7,o8,lx1,lx2,lx3,lx4,ly1,ly2,ly3,ly4,qx,qy,dd,g2,g3,g5,g6,i1,i2,j1,j2,u1,u2,z1,z2,xZQ];apply hn;refine qT false (by simp only [sw.1,rE,reduceIte,rL,rA,rM,rD,svn.down,syw.1,qE,o1,o2,o3,o4,o5,o6,o7,o8,lx1,lx2,lx3,lx4,ly1,ly2,ly3,ly4,qx,qy,dd,g2,g3,g5,g6]) (fun hx=>by cases hx) (fun _=> ?_);refine jY ?_;refine f1 _ ?_;refine reg fun K hn hp=> ?_;simp only [sw.1,rE,reduceIte,rL,rA,rM,rD,svn.down,syw.1,qE,o1,o2,o3,o4,o5,o6,o7,o8,lx1,lx2,lx3,lx4,ly1,ly2,ly3,ly4,qx,qy,dd,g2,g3,g5,g6,w2];apply hn;refine ⟨⟨c+1,_,rfl,by omega,(by simp [xZZ,g2,g3,g5,g6]),(by simp [xZZ,g2,g3,g5,g6]),(by simp [xZZ,g2,g3,g5,g6]),(by simp [xZZ,g2,g3,g5,g6])⟩,by simpa [xZZ,muD] using (by omega:l.length - (c+1)<l.length - c)⟩
    ·have hcl:c=l.length:=by omega
     subst hcl;refine qF false (by simp only [sw.1,rE,reduceIte,rL,rA,rM,rD,svn.down,syw.1,qE,o1,o2,o3,o4,o5,o6,o7,o8,lx1,lx2,lx3,lx4,ly1,ly2,ly3,ly4,qx,qy,dd,g2,g3,g5,g6,hc]) (fun hx=>by cases hx) (fun _=> ?_);refine jA (D2 _ (e1 _ ?_));refine reg fun K hn hp=> ?_;simp only [sw.1,rE,reduceIte,rL,rA,rM,rD,svn.down,syw.1,qE,o1,o2,o3,o4,o5,o6,o7,o8,lx1,lx2,lx3,lx4,ly1,ly2,ly3,ly4,qx,qy,dd,g2,g3,g5,g6,w1];apply hn;refine ⟨⟨k+1,_,rfl,by omega,(by simp [xZZ,g2,g3,g5]),(by simp [xZZ,g2,g3,g5]),(by simp [xZZ,g2,g3,g5])⟩,by simpa [xZZ,muA] using (by omega:x.cells.length - (k+1)<x.cells.length - k)⟩
   exact ⟨0,_,rfl,(by omega),(by simp [xZZ,g2]),(by simp [xZZ,g3]),(by simp [xZZ,g5]),(by simp [xZZ])⟩
  ·have hkl:k=x.cells.length:=by omega
   subst hkl;refine qF false (by simp only [sw.1,rE,reduceIte,rL,rA,rM,rD,svn.down,syw.1,qE,o1,o2,o3,o4,o5,o6,o7,o8,lx1,lx2,lx3,lx4,ly1,ly2,ly3,ly4,qx,qy,dd,g2,g3,g5,hlt]) (fun hx=>by cases hx) (fun _=> ?_);refine jA (A2 _ ?_);refine qL ?_;refine qA fun K hn hp=> ?_;simp only [sw.1,rE,reduceIte,rL,rA,rM,rD,svn.down,syw.1,qE,o1,o2,o3,o4,o5,o6,o7,o8,lx1,lx2,lx3,lx4,ly1,ly2,ly3,ly4,qx,qy,dd,g2,g3,g5];apply hn;refine qO fun KB B1 B2 B3 B4 B5=> ?_;refine jD (sok xt) (fun st=> ∃(k:Nat) (tm:T AV),st=⟨tm,159,h2,[]⟩/\k<=x.gs.length/\tm.get 2=some (.ptr h.n 0)/\tm.get 3=some (.ptr (h.n+1) 0)/\tm.get 7=some (iv k)) (fun st=>x.gs.length - (match st.tm.get 7 with|some (.val (.int _ n))=>n.toNat|_=>0)) ?_ ?_
   ·rintro st ⟨k,tm,rfl,hkB,g2,g3,g7⟩;have muB:=g7;have q:decide ((k:Int)<(x.gs.length:Int))=decide (k<x.gs.length):=qG _ _;refine qL ?_;refine qA fun K hn hp=> ?_;simp only [sw.1,rE,reduceIte,rL,rA,rM,rD,svn.down,syw.1,qE,o1,o2,o3,o4,o5,o6,o7,o8,lx1,lx2,lx3,lx4,ly1,ly2,ly3,ly4,qx,qy,dd,g2,g3,g5,g7,q];apply hn;by_cases hlt:k<x.gs.length
    ·refine qF true (by simp only [sw.1,rE,reduceIte,rL,rA,rM,rD,svn.down,syw.1,qE,o1,o2,o3,o4,o5,o6,o7,o8,lx1,lx2,lx3,lx4,ly1,ly2,ly3,ly4,qx,qy,dd,g2,g3,g5,g7,hlt]) (fun _=> ?_) (fun hx=>by cases hx);refine qV ?_;refine qO fun K2 e1 e2 e3 e4 e5=> ?_;obtain ⟨z,hz⟩: ∃z,x.gs[k]? =some z:=⟨_,xZW hlt⟩;have hz':y.gs[k]? =some z:=by rw [eg];exact hz
     have i1:=hx2.gs.idx wY rfl uE rfl (i:=k) (by simpa using hlt) (k:= .i64);have i2:=hx2.gs.loadA uE rfl rfl (i:=k) (c:=Kn.g4 z) (by rw [xZX,hz];rfl);have j1:=hy2.gs.idx wY rfl uE rfl (i:=k) (by rw [eg];simpa using hlt) (k:= .i64);have j2:=hy2.gs.loadA uE rfl rfl (i:=k) (c:=Kn.g4 z) (by rw [xZX,hz'];rfl);have w1:=jE hlt hx.lg;simp only [Kn.g4,xZR,xZP] at i2 j2;refine kX (sok xt) 10 (by kernel_rfl) fun K hn hp=> ?_;simp only [sw.1,rE,reduceIte,rL,rA,rM,rD,svn.down,syw.1,qE,o1,o2,o3,o4,o5,o6,o7,o8,lx1,lx2,lx3,lx4,ly1,ly2,ly3,ly4,qx,qy,dd,g2,g3,g5,g7,i1,i2,j1,j2,neq87];apply hn;refine qT false (by simp only [sw.1,rE,reduceIte,rL,rA,rM,rD,svn.down,syw.1,qE,o1,o2,o3,o4,o5,o6,o7,o8,lx1,lx2,lx3,lx4,ly1,ly2,ly3,ly4,qx,qy,dd,g2,g3,g5,g7]) (fun hx=>by cases hx) (fun _=> ?_);refine jY (e1 _ ?_);refine reg fun K hn hp=> ?_;simp only [sw.1,rE,reduceIte,rL,rA,rM,rD,svn.down,syw.1,qE,o1,o2,o3,o4,o5,o6,o7,o8,lx1,lx2,lx3,lx4,ly1,ly2,ly3,ly4,qx,qy,dd,g2,g3,g5,g7,w1];apply hn;refine ⟨⟨k+1,_,rfl,by omega,(by simp [xZZ,g2,g3,g7]),(by simp [xZZ,g2,g3,g7]),(by simp [xZZ,g2,g3,g7])⟩,by simpa [xZZ,muB] using (by omega:x.gs.length - (k+1)<x.gs.length - k)⟩
    ·have hkl:k=x.gs.length:=by omega
     subst hkl;refine qF false (by simp only [sw.1,rE,reduceIte,rL,rA,rM,rD,svn.down,syw.1,qE,o1,o2,o3,o4,o5,o6,o7,o8,lx1,lx2,lx3,lx4,ly1,ly2,ly3,ly4,qx,qy,dd,g2,g3,g5,g7,hlt]) (fun hx=>by cases hx) (fun _=> ?_);refine jA (B2 _ ?_);refine qL ?_;refine qA fun K hn hp=> ?_;simp only [sw.1,rE,reduceIte,rL,rA,rM,rD,svn.down,syw.1,qE,o1,o2,o3,o4,o5,o6,o7,o8,lx1,lx2,lx3,lx4,ly1,ly2,ly3,ly4,qx,qy,dd,g2,g3,g5,g7];apply hn;refine qO fun KC C1 C2 C3 C4 C5=> ?_;refine jD (sok xt) (fun st=> ∃(k:Nat) (tm:T AV),st=⟨tm,159,h2,[]⟩/\k<=x.ks.length/\tm.get 2=some (.ptr h.n 0)/\tm.get 3=some (.ptr (h.n+1) 0)/\tm.get 8=some (iv k)) (fun st=>x.ks.length - (match st.tm.get 8 with|some (.val (.int _ n))=>n.toNat|_=>0)) ?_ ?_
     ·rintro st ⟨k,tm,rfl,hkC,g2,g3,g8⟩;have muC:=g8;have q:decide ((k:Int)<(x.ks.length:Int))=decide (k<x.ks.length):=qG _ _;refine qL ?_;refine qA fun K hn hp=> ?_;simp only [sw.1,rE,reduceIte,rL,rA,rM,rD,svn.down,syw.1,qE,o1,o2,o3,o4,o5,o6,o7,o8,lx1,lx2,lx3,lx4,ly1,ly2,ly3,ly4,qx,qy,dd,g2,g3,g5,g7,g8,q];apply hn;by_cases hlt:k<x.ks.length
      ·refine qF true (by simp only [sw.1,rE,reduceIte,rL,rA,rM,rD,svn.down,syw.1,qE,o1,o2,o3,o4,o5,o6,o7,o8,lx1,lx2,lx3,lx4,ly1,ly2,ly3,ly4,qx,qy,dd,g2,g3,g5,g7,g8,hlt]) (fun _=> ?_) (fun hx=>by cases hx);refine qV ?_;refine qO fun K2 e1 e2 e3 e4 e5=> ?_;obtain ⟨z,hz⟩: ∃z,x.ks[k]? =some z:=⟨_,xZW hlt⟩;have hz':y.ks[k]? =some z:=by rw [ek];exact hz
       have i1:=hx2.ks.idx wX rfl uJ rfl (i:=k) (by simpa using hlt) (k:= .i64);have i2:=hx2.ks.loadA uJ rfl rfl (i:=k) (c:=Kn.k3 z) (by rw [xZX,hz];rfl);have j1:=hy2.ks.idx wX rfl uJ rfl (i:=k) (by rw [ek];simpa using hlt) (k:= .i64);have j2:=hy2.ks.loadA uJ rfl rfl (i:=k) (c:=Kn.k3 z) (by rw [xZX,hz'];rfl);have w1:=jE hlt hx.lk;simp only [Kn.k3,xZR,xZP] at i2 j2;refine kX (sok xt) 10 (by kernel_rfl) fun K hn hp=> ?_;simp only [sw.1,rE,reduceIte,rL,rA,rM,rD,svn.down,syw.1,qE,o1,o2,o3,o4,o5,o6,o7,o8,lx1,lx2,lx3,lx4,ly1,ly2,ly3,ly4,qx,qy,dd,g2,g3,g5,g7,g8,i1,i2,j1,j2,neq90];apply hn;refine qT false (by simp only [sw.1,rE,reduceIte,rL,rA,rM,rD,svn.down,syw.1,qE,o1,o2,o3,o4,o5,o6,o7,o8,lx1,lx2,lx3,lx4,ly1,ly2,ly3,ly4,qx,qy,dd,g2,g3,g5,g7,g8]) (fun hx=>by cases hx) (fun _=> ?_);refine jY (e1 _ ?_);refine reg fun K hn hp=> ?_;simp only [sw.1,rE,reduceIte,rL,rA,rM,rD,svn.down,syw.1,qE,o1,o2,o3,o4,o5,o6,o7,o8,lx1,lx2,lx3,lx4,ly1,ly2,ly3,ly4,qx,qy,dd,g2,g3,g5,g7,g8,w1];apply hn;refine ⟨⟨k+1,_,rfl,by omega,(by simp [xZZ,g2,g3,g8]),(by simp [xZZ,g2,g3,g8]),(by simp [xZZ,g2,g3,g8])⟩,by simpa [xZZ,muC] using (by omega:x.ks.length - (k+1)<x.ks.length - k)⟩
      ·have hkl:k=x.ks.length:=by omega
       subst hkl;refine qF false (by simp only [sw.1,rE,reduceIte,rL,rA,rM,rD,svn.down,syw.1,qE,o1,o2,o3,o4,o5,o6,o7,o8,lx1,lx2,lx3,lx4,ly1,ly2,ly3,ly4,qx,qy,dd,g2,g3,g5,g7,g8,hlt]) (fun hx=>by cases hx) (fun _=> ?_);refine jA (C2 _ ?_);refine qL ?_;refine qA fun K hn hp=> ?_;simp only [sw.1,rE,reduceIte,rL,rA,rM,rD,svn.down,syw.1,qE,o1,o2,o3,o4,o5,o6,o7,o8,lx1,lx2,lx3,lx4,ly1,ly2,ly3,ly4,qx,qy,dd,g2,g3,g5,g7,g8];apply hn;refine qO fun KG G1 G2 G3 G4 G5=> ?_;refine jD (sok xt) (fun st=> ∃(k:Nat) (tm:T AV),st=⟨tm,159,h2,[]⟩/\k<=x.ps.length/\tm.get 2=some (.ptr h.n 0)/\tm.get 3=some (.ptr (h.n+1) 0)/\tm.get 9=some (iv k)) (fun st=>x.ps.length - (match st.tm.get 9 with|some (.val (.int _ n))=>n.toNat|_=>0)) ?_ ?_
       ·rintro st ⟨k,tm,rfl,hkG,g2,g3,g9⟩;have muG:=g9;have q:decide ((k:Int)<(x.ps.length:Int))=decide (k<x.ps.length):=qG _ _;refine qL ?_;refine qA fun K hn hp=> ?_;simp only [sw.1,rE,reduceIte,rL,rA,rM,rD,svn.down,syw.1,qE,o1,o2,o3,o4,o5,o6,o7,o8,lx1,lx2,lx3,lx4,ly1,ly2,ly3,ly4,qx,qy,dd,g2,g3,g5,g7,g8,g9,q];apply hn;by_cases hlt:k<x.ps.length
        ·refine qF true (by simp only [sw.1,rE,reduceIte,rL,rA,rM,rD,svn.down,syw.1,qE,o1,o2,o3,o4,o5,o6,o7,o8,lx1,lx2,lx3,lx4,ly1,ly2,ly3,ly4,qx,qy,dd,g2,g3,g5,g7,g8,g9,hlt]) (fun _=> ?_) (fun hx=>by cases hx);refine qV ?_;refine qO fun K2 e1 e2 e3 e4 e5=> ?_;obtain ⟨z,hz⟩: ∃z,x.ps[k]? =some z:=⟨_,xZW hlt⟩;have hz':y.ps[k]? =some z:=by rw [ep];exact hz
         have i1:=hx2.ps.idx wW rfl kW rfl (i:=k) (by simpa using hlt) (k:= .i64);have i2:=hx2.ps.loadA kW rfl rfl (i:=k) (c:=Kn.p2 z) (by rw [xZX,hz];rfl);have j1:=hy2.ps.idx wW rfl kW rfl (i:=k) (by rw [ep];simpa using hlt) (k:= .i64);have j2:=hy2.ps.loadA kW rfl rfl (i:=k) (c:=Kn.p2 z) (by rw [xZX,hz'];rfl);have w1:=jE hlt hx.lp;simp only [Kn.p2,xZR,xZP] at i2 j2;refine kX (sok xt) 10 (by kernel_rfl) fun K hn hp=> ?_;simp only [sw.1,rE,reduceIte,rL,rA,rM,rD,svn.down,syw.1,qE,o1,o2,o3,o4,o5,o6,o7,o8,lx1,lx2,lx3,lx4,ly1,ly2,ly3,ly4,qx,qy,dd,g2,g3,g5,g7,g8,g9,i1,i2,j1,j2,neq92];apply hn;refine qT false (by simp only [sw.1,rE,reduceIte,rL,rA,rM,rD,svn.down,syw.1,qE,o1,o2,o3,o4,o5,o6,o7,o8,lx1,lx2,lx3,lx4,ly1,ly2,ly3,ly4,qx,qy,dd,g2,g3,g5,g7,g8,g9]) (fun hx=>by cases hx) (fun _=> ?_);refine jY (e1 _ ?_);refine reg fun K hn hp=> ?_;simp only [sw.1,rE,reduceIte,rL,rA,rM,rD,svn.down,syw.1,qE,o1,o2,o3,o4,o5,o6,o7,o8,lx1,lx2,lx3,lx4,ly1,ly2,ly3,ly4,qx,qy,dd,g2,g3,g5,g7,g8,g9,w1];apply hn;refine ⟨⟨k+1,_,rfl,by omega,(by simp [xZZ,g2,g3,g9]),(by simp [xZZ,g2,g3,g9]),(by simp [xZZ,g2,g3,g9])⟩,by simpa [xZZ,muG] using (by omega:x.ps.length - (k+1)<x.ps.length - k)⟩
        ·have hkl:k=x.ps.length:=by omega
         subst hkl;refine qF false (by simp only [sw.1,rE,reduceIte,rL,rA,rM,rD,svn.down,syw.1,qE,o1,o2,o3,o4,o5,o6,o7,o8,lx1,lx2,lx3,lx4,ly1,ly2,ly3,ly4,qx,qy,dd,g2,g3,g5,g7,g8,g9,hlt]) (fun hx=>by cases hx) (fun _=> ?_);refine jA (G2 _ ?_);refine qA fun K hn hp=> ?_;simp only [sw.1,rE,reduceIte,rL,rA,rM,rD,svn.down,syw.1,qE,o1,o2,o3,o4,o5,o6,o7,o8,lx1,lx2,lx3,lx4,ly1,ly2,ly3,ly4,qx,qy,dd,g2,g3,g5,g7,g8,g9];apply hn;exact qJ (fin _ (by simp [xZZ]))
       ·exact ⟨0,_,rfl,by omega,by simp [xZZ,g2],by simp [xZZ,g3],by simp [xZZ]⟩
     ·exact ⟨0,_,rfl,by omega,by simp [xZZ,g2],by simp [xZZ,g3],by simp [xZZ]⟩
   ·exact ⟨0,_,rfl,by omega,by simp [xZZ,g2],by simp [xZZ,g3],by simp [xZZ]⟩
 ·exact ⟨0,_,rfl,by omega,by simp [xZZ],by simp [xZZ],by simp [xZZ]⟩
end Go.Proofs.Kn
