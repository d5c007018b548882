/- MvW1, MvW2, MvW3, MvW4: texts in a row, joined by a program. -/
import Derived.Test.YtnmfblokfponlaaGreatDoorQN2
import Derived.Test.YtnmfblokfponlaaGreatDoorQY3
import Derived.Test.YtnmfblokfponlaaGreatDoorQY9
set_option linter.all false
open Nat renaming reduceEqDiff → rE, reduceLeDiff → rD, reduceAdd → rA, reduceMul → rM, reduceLT → rL
open Go.Ev.T renaming get_put → xZZ
open Nat renaming le_refl → xZY
open List renaming getElem?_map → xZX, getElem?_eq_getElem → xZW, take_of_length_le → xZV, mem_of_getElem? → xZU, take_succ → xZS, any_eq_false → xZQ, any_eq_true → xZO, mem_range → xZL, mem_singleton → xZK, mem_append → xZI
open Option renaming toList_some → xZT, bind_some → xZP
open Go.Ev.Hp renaming up_up → xZR, up_n → xZH
open Go.Ev.Fr renaming refl → xZN
open Go.Ev.FnA renaming walk → xZM, calm → xZJ
namespace Go.Proofs.Kn
open Go Go.Ev
set_option maxRecDepth 100000
set_option maxHeartbeats 4000000
theorem eqi141 (d:Nat) (a b c e:Int):qO Tryz.prog (Op.equalIn (d+1+1) 141 (.agg #[.int .i64 a,.int .i64 b]) (.agg #[.int .i64 c,.int .i64 e]))=some (decide (a=c) && decide (b=e)):=by
 have h1:qO Tryz.prog (underlying 141)=some (TypeDesc.struct #[{name:= "Row",type:=3,offset:=0,embedded:=false,tag:= "",pkgPath:= "",byteOffset:=0},{name:= "Column",type:=3,offset:=1,embedded:=false,tag:= "",pkgPath:= "",byteOffset:=8}]):=by kernel_rfl
 have h2:Tryz.prog.stoodInHeld 141=false:=by kernel_rfl
 have h3: ∀d a b,qO Tryz.prog (Op.equalIn (d+1) 3 (.int .i64 a) (.int .i64 b))=some (a==b):=fun d a b=>by
  have:qO Tryz.prog (underlying 3)=some (.int .i64):=by kernel_rfl
  rw [Op.equalIn];simp only [jT,this,xZP,if_true,jH]
 have p1: ∀a b,qO Tryz.prog (part 3 #[.int .i64 a,.int .i64 b] 0)=some (.int .i64 a):=fun a b=>by kernel_rfl
 have p2: ∀a b,qO Tryz.prog (part 3 #[.int .i64 a,.int .i64 b] 1)=some (.int .i64 b):=fun a b=>by kernel_rfl
 rw [Op.equalIn];simp only [jT,h1,xZP,vP,h2,Bool.false_eq_true,if_false];rw [<-Array.forIn_toList];simp only [List.forIn_cons,List.forIn_nil,jT,zI,p1,h3,xZP,jH];by_cases q1:a=c
 ·by_cases q2:b=e
  ·simp [q1,q2,jH,jT,p2,h3,zI]
  ·simp [q1,q2,jH,jT,p2,h3,zI]
 ·simp [q1,jH]
theorem eql141 (ox oy:Operand) (a b c e:Int):xA Tryz.prog tb .eql 141 ox oy (.agg [iv a,iv b]) (.agg [iv c,iv e])=some (.val (.bool (decide (a=c) && decide (b=e)))):=by
 have h:=eqi141 9998 a b c e;have hq:qO Tryz.prog (Op.equal 141 (.agg #[.int .i64 a,.int .i64 b]) (.agg #[.int .i64 c,.int .i64 e]))=some (decide (a=c) && decide (b=e)):=h;have h1:Tryz.prog.eqGuardType Tryz.prog.depth 141=false:=by kernel_rfl
 have hg:qO Tryz.prog (eqGuard .eql 141 ox oy (.agg #[.int .i64 a,.int .i64 b]) (.agg #[.int .i64 c,.int .i64 e]))=some ():=by
  simp [eqGuard,jT,jH,vP,zI,h1]
 simp only [xA,toVal,toVals,jT,hg,xZP,binOp,hq,jH]
theorem bd141 (a b:Int):kM tb 141 [(0,iv a),(1,iv b)]=some (.agg [iv a,iv b]):=by kernel_rfl
theorem dsym (a b:Int):decide (a=b)=decide (b=a):=decide_eq_decide.2 ⟨Eq.symm,Eq.symm⟩
def yX (l:List (Int×Int)) (r c:Int):Bool:=l.any fun p=>decide (r=p.1) && decide (c=p.2)
structure Plc (xt:Addr->Option Value) (h:Hp) (v:AV) (l:List (Int×Int)):Prop where
 row:RowAt xt h 2 v (l.map p2)
 lt:l.length<=9223372036854775807
theorem Plc.fr {xt:Addr->Option Value} {h h':Hp} {v:AV} {l:List (Int×Int)} (a:Plc xt h v l) {n:Nat} (f:Fr n h h') (hn:h.n<=n):Plc xt h' v l:=⟨a.row.fr f hn,a.lt⟩
theorem Plc.up {xt:Addr->Option Value} {h:Hp} {v:AV} {l:List (Int×Int)} (a:Plc xt h v l) {n:Nat} (hn:h.n<=n):Plc xt (h.up n) v l:=⟨a.row.up hn,a.lt⟩
theorem Plc.len {xt:Addr->Option Value} {h:Hp} {v:AV} {l:List (Int×Int)} (a:Plc xt h v l) (h':Hp):vB tb h' 25 v=some l.length:=by
 have:=a.row.len (h':=h') hP rfl;simpa using this
theorem Mp.At.plc {m:Mp} {xt:Addr->Option Value} {h:Hp} (a:m.At xt h):Plc xt h m.vp m.ps:=⟨a.ps,a.lp⟩
theorem ft199 (xt:Addr->Option Value):(SE xt).ft.get 199=some Tryz.f199:=by kernel_rfl
theorem res199:Tryz.f199.results.toList=[.tmp 4]:=by kernel_rfl
theorem idx199_c (xt:Addr->Option Value) (h:Hp) (v:AV) (l:List (Int×Int)) (hl:Plc xt h v l) (r c:Int):FnA (SE xt) 199 [v,.agg [iv r,iv c]] h (fun res h'=>(∃k:Int,res= .ret (iv k)/\decide (0<=k)=yX l r c)/\Fr h.n h h'):=by
 refine xZM (sok xt) (ft199 xt) rfl 19 rfl ?_;have hlen:=hl.len;have hlt:=hl.lt;have onev:=hl.row.one;refine qA fun K hn hp=> ?_;simp only [sw.1,rE,reduceIte,rL];apply hn;obtain ⟨h1,hh1⟩: ∃h1:Hp,h1=h.new (.cells [iv r,iv c] 141):=⟨_,rfl⟩;rw [<-hh1];have nh1:h1.n=h.n+1:=by rw [hh1];rfl
 have sh1:h1.t.get h.n=some (.cells [iv r,iv c] 141):=by rw [hh1];exact qS _ _
 have kh1: ∀k,k<h.n->h1.t.get k=h.t.get k:=fun k hk=>by rw [hh1];exact qU _ _ hk
 have fbh1:Fr h.n h h1:=by rw [hh1];exact (xZN (xZY _)).new _
 have fh1:=fbh1;have hl1:=hl.fr fh1 (xZY _);refine qD ?_;refine qA fun K hn hp=> ?_;simp only [sy.1,rE,reduceIte,rL,syw.1,hlen];apply hn;refine qF fun KA A1 A2 A3 A4 A5=> ?_;refine qP (sok xt) (fun st=> ∃(i:Nat) (tm:T AV),st=⟨tm,19,h1,[]⟩/\i<=l.length/\tm.get 0=some (v)/\tm.get 3=some (.ptr h.n 0)/\tm.get 7=some (iv l.length)/\tm.get 8=some (iv i)/\ ∀x∈l.take i,(decide (r=x.1) && decide (c=x.2))=false) (fun st=>l.length - (match st.tm.get 8 with|some (.val (.int _ n))=>n.toNat|_=>0)) ?_ ?_
 ·rintro st ⟨i,tm,rfl,hkA,g0,g3,g7,g8,hall⟩;have muA:=g8;refine qA fun K hn hp=> ?_;simp only [sy.1,rL,jA,g7,g8];apply hn;by_cases hi:i<l.length
  ·refine qC true (by simp only [sy.1,reduceIte,hi]) (fun _=> ?_) (fun hx=>by cases hx);obtain ⟨⟨a,b⟩,hx⟩: ∃x,l[i]? =some x:=⟨_,xZW hi⟩;have i1:=hl1.row.idx hP rfl kC rfl (i:=i) (by simpa using hi) (k:= .i64);have i2:=hl1.row.loadA kC rfl rfl (i:=i) (c:=Kn.p2 (a,b)) (by rw [xZX,hx];rfl);simp only [Kn.p2,List.map_cons,List.map_nil] at i2;refine qH ?_;refine qF fun KB B1 B2 B3 B4 B5=> ?_;refine qA fun K hn hp=> ?_;simp only [sy.1,rE,reduceIte,rL,g8];apply hn;refine kD (sok xt) 6 (by kernel_rfl) fun K hn hp=> ?_;simp only [sy.1,rE,reduceIte,rL,rA,sh1,g0,g3,i1,i2,eql141];apply hn;cases q:(decide (r=a) && decide (c=b))
   ·refine qG false (by simp only [sy.1,rE,reduceIte]) (fun hx=>by cases hx) (fun _=> ?_);refine qT (B1 _ ?_);refine reg fun K hn hp=> ?_;simp only [sy.1,rE,reduceIte,rL,g8,qK hi hlt];apply hn;refine ⟨⟨i+1,_,rfl,by omega,(by simp [xZZ,g0]),(by simp [xZZ,g3]),(by simp [xZZ,g7]),(by simp [xZZ]),?_⟩,by simpa [xZZ,muA] using (by omega:l.length - (i+1)<l.length - i)⟩;rw [xZS,hx];intro y hy;simp only [xZT,xZI,xZK] at hy;rcases hy with hy|rfl
    ·exact hall y hy
    ·exact q
   ·refine qG true (by simp only [sy.1,rE,reduceIte]) (fun _=> ?_) (fun hx=>by cases hx);refine qA fun K hn hp=> ?_;simp only [sy.1,rE,reduceIte,rL];apply hn;refine qE (B4 _ (A4 _ (qL res199 ⟨⟨(i:Int),?_,?_⟩,fh1⟩)))
    ·simp [xZZ]
    ·rw [decide_eq_true (by omega)];exact (xZO.2 ⟨_,xZU hx,q⟩).symm
  ·refine qC false (by simp only [sy.1,reduceIte,hi]) (fun hx=>by cases hx) (fun _=> ?_);refine qM (A2 _ ?_);refine qA fun K hn hp=> ?_;simp only [sy.1,rL];apply hn;refine qE (qL res199 ⟨⟨-1,?_,?_⟩,fh1⟩)
   ·simp [xZZ]
   ·obtain rfl:i=l.length:=by omega
    rw [xZV (xZY _)] at hall;have:yX l r c=false:=by
     unfold yX;rw [xZQ];intro x hx;simpa using hall x hx
    rw [this];rfl
 ·exact ⟨0,_,rfl,(by omega),(by simp [xZZ]),(by simp [xZZ]),(by simp [xZZ]),(by simp [xZZ]),fun x hx=>by simp at hx⟩
theorem ft164 (xt:Addr->Option Value):(SE xt).ft.get 164=some Tryz.f164:=by kernel_rfl
theorem res164:Tryz.f164.results.toList=[.tmp 4]:=by kernel_rfl
theorem has164_c (xt:Addr->Option Value) (h:Hp) (v:AV) (l:List (Int×Int)) (hl:Plc xt h v l) (r c:Int) {K:CR->Hp->Prop} (hk: ∀n,h.n<n->K (.ret (.val (.bool (yX l r c)))) (h.up n)):FnA (SE xt) 164 [v,.agg [iv r,iv c]] h K:=by
 refine xZJ ?_ hk;clear hk K;refine xZM (sok xt) (ft164 xt) rfl 9 rfl ?_;have onev:=hl.row.one;refine qA fun K hn hp=> ?_;simp only [sw.1,rE,reduceIte,rL];apply hn;obtain ⟨h1,hh1⟩: ∃h1:Hp,h1=h.new (.cells [iv r,iv c] 141):=⟨_,rfl⟩;rw [<-hh1];have nh1:h1.n=h.n+1:=by rw [hh1];rfl
 have sh1:h1.t.get h.n=some (.cells [iv r,iv c] 141):=by rw [hh1];exact qS _ _
 have kh1: ∀k,k<h.n->h1.t.get k=h.t.get k:=fun k hk=>by rw [hh1];exact qU _ _ hk
 have fbh1:Fr h.n h h1:=by rw [hh1];exact (xZN (xZY _)).new _
 have fh1:=fbh1;refine qA fun K hn hp=> ?_;simp only [sy.1,rE,reduceIte,rL,rA,sh1];refine qB (sok xt) (FnA.mono (idx199_c xt h1 v l (hl.fr fh1 (xZY _)) r c) fun res h2 hres=> ?_);obtain ⟨⟨k,rfl,hk⟩,f2⟩:=hres;simp only [sy.1,rE,reduceIte,rL,hk];refine hn _ _ (qE (qL res164 ⟨?_,fh1.trans f2 (by omega)⟩));simp [xZZ]
def Mp.bare (m:Mp) (r c:Int):Bool:=m.is r c 2 && !yX m.ps r c
theorem ft94 (xt:Addr->Option Value):(SE xt).ft.get 94=some Tryz.f94:=by kernel_rfl
theorem res94:Tryz.f94.results.toList=[.tmp 6]:=by kernel_rfl
theorem bare_c (xt:Addr->Option Value) (h:Hp) (m:Mp) (ha:m.At xt h) (hr:m.Rect) (r c:Int) {K:CR->Hp->Prop} (hk: ∀n,h.n<n->K (.ret (.val (.bool (m.bare r c)))) (h.up n)):FnA (SE xt) 94 [m.av,iv r,iv c] h K:=by
 refine xZJ ?_ hk;clear hk K;refine xZM (sok xt) (ft94 xt) rfl 20 rfl ?_;obtain ⟨o1,o2,o3,o4,o5⟩:=ha.wk.ones;refine qA fun K hn hp=> ?_;simp only [sw.1,rE,reduceIte,rL,rA];apply hn;obtain ⟨h1,hh1⟩: ∃h1:Hp,h1=h.new (.cells m.cs 27):=⟨_,rfl⟩;rw [<-hh1];have nh1:h1.n=h.n+1:=by rw [hh1];rfl
 have sh1:h1.t.get h.n=some (.cells m.cs 27):=by rw [hh1];exact qS _ _
 have kh1: ∀k,k<h.n->h1.t.get k=h.t.get k:=fun k hk=>by rw [hh1];exact qU _ _ hk
 have fbh1:Fr h.n h h1:=by rw [hh1];exact (xZN (xZY _)).new _
 have fh1:=fbh1;have ha1:=ha.fr fh1 (xZY _);refine qA fun K hn hp=> ?_;simp only [sy.1,rE,reduceIte,rL,rA,sh1];refine qB (sok xt) (is_c xt h1 m ha1 hr r c 2 fun n1 hn1=> ?_);cases q:m.is r c 2
 ·simp only [sy.1,rE,reduceIte,rL];refine hn _ _ (qE (qL res94 ⟨?_,fh1.up (by omega)⟩));simp [xZZ,Mp.bare,q]
 ·simp only [sy.1,rE,reduceIte,rL,sh1,bd141];refine qB (sok xt) (has164_c xt (h1.up n1) m.vp m.ps (ha1.plc.up (by omega)) r c fun n2 hn2=> ?_);simp only [xZH] at hn2;simp only [sy.1,rE,reduceIte,rL,xZR];refine hn _ _ (qE (qL res94 ⟨?_,fh1.up (by omega)⟩));simp [xZZ,Mp.bare,q]
theorem ft107 (xt:Addr->Option Value):(SE xt).ft.get 107=some Tryz.f107:=by kernel_rfl
theorem res107:Tryz.f107.results.toList=[.tmp 6]:=by kernel_rfl
theorem qCi (xt:Addr->Option Value) (h:Hp) (m:Mp) (ha:m.At xt h) (r c:Int) {K:CR->Hp->Prop} (hk: ∀n,h.n<n->K (.ret (.val (.bool (yX m.ps r c)))) (h.up n)):FnA (SE xt) 107 [m.av,iv r,iv c] h K:=by
 refine xZJ ?_ hk;clear hk K;refine xZM (sok xt) (ft107 xt) rfl 24 rfl ?_;obtain ⟨o1,o2,o3,o4,o5⟩:=ha.wk.ones;have hlen:=ha.plc.len;have hlt:=ha.lp;refine qA fun K hn hp=> ?_;simp only [sw.1,rE,reduceIte,rL,rA];apply hn;obtain ⟨h1,hh1⟩: ∃h1:Hp,h1=h.new (.cells m.cs 27):=⟨_,rfl⟩;rw [<-hh1];have nh1:h1.n=h.n+1:=by rw [hh1];rfl
 have sh1:h1.t.get h.n=some (.cells m.cs 27):=by rw [hh1];exact qS _ _
 have kh1: ∀k,k<h.n->h1.t.get k=h.t.get k:=fun k hk=>by rw [hh1];exact qU _ _ hk
 have fbh1:Fr h.n h h1:=by rw [hh1];exact (xZN (xZY _)).new _
 have fh1:=fbh1;have ha1:=ha.fr fh1 (xZY _);refine qD ?_;refine qA fun K hn hp=> ?_;simp only [sy.1,rL];apply hn;refine qF fun KA A1 A2 A3 A4 A5=> ?_;refine qP (sok xt) (fun st=> ∃(i:Nat) (tm:T AV),st=⟨tm,24,h1,[]⟩/\i<=m.ps.length/\tm.get 1=some (iv r)/\tm.get 2=some (iv c)/\tm.get 3=some (.ptr h.n 0)/\tm.get 7=some (iv i)/\ ∀x∈m.ps.take i,(decide (x.1=r) && decide (x.2=c))=false) (fun st=>m.ps.length - (match st.tm.get 7 with|some (.val (.int _ n))=>n.toNat|_=>0)) ?_ ?_
 ·rintro st ⟨i,tm,rfl,hkA,g1,g2,g3,g7,hall⟩;have muA:=g7;refine qD ?_;refine qA fun K hn hp=> ?_;simp only [sy.1,rE,reduceIte,rL,syw.1,hlen,jA,sh1,g3,g7];apply hn;by_cases hi:i<m.ps.length
  ·refine qC true (by simp only [sy.1,rE,reduceIte,hi]) (fun _=> ?_) (fun hx=>by cases hx);obtain ⟨⟨a,b⟩,hx⟩: ∃x,m.ps[i]? =some x:=⟨_,xZW hi⟩;have i1:=ha1.ps.idx hP rfl kC rfl (i:=i) (by simpa using hi) (k:= .i64);have i2:=ha1.ps.loadA kC rfl rfl (i:=i) (c:=Kn.p2 (a,b)) (by rw [xZX,hx];rfl);simp only [Kn.p2,List.map_cons,List.map_nil] at i2;refine qH ?_;refine qF fun KB B1 B2 B3 B4 B5=> ?_;refine qA fun K hn hp=> ?_;simp only [sy.1,rE,reduceIte,rL,sh1,g1,g2,g3,g7,i1,i2,bd141,eql141];apply hn;cases q:(decide (a=r) && decide (b=c))
   ·refine qG false (by simp only [sy.1,rE,reduceIte]) (fun hx=>by cases hx) (fun _=> ?_);refine qT (B1 _ ?_);refine reg fun K hn hp=> ?_;simp only [sy.1,rE,reduceIte,rL,g7,qK hi hlt];apply hn;refine ⟨⟨i+1,_,rfl,by omega,(by simp [xZZ,g1]),(by simp [xZZ,g2]),(by simp [xZZ,g3]),(by simp [xZZ]),?_⟩,by simpa [xZZ,muA] using (by omega:m.ps.length - (i+1)<m.ps.length - i)⟩;rw [xZS,hx];intro y hy;simp only [xZT,xZI,xZK] at hy;rcases hy with hy|rfl
    ·exact hall y hy
    ·exact q
   ·refine qG true (by simp only [sy.1,rE,reduceIte]) (fun _=> ?_) (fun hx=>by cases hx);refine qA fun K hn hp=> ?_;simp only [sy.1,rL];apply hn;refine qE (B4 _ (A4 _ (qL res107 ⟨?_,fh1⟩)));have:yX m.ps r c=true:=xZO.2 ⟨_,xZU hx,by show (decide (r=a) && decide (c=b))=true;rw [dsym r,dsym c];exact q⟩;simp [xZZ,this]
  ·refine qC false (by simp only [sy.1,rE,reduceIte,hi]) (fun hx=>by cases hx) (fun _=> ?_);refine qM (A2 _ ?_);refine qA fun K hn hp=> ?_;simp only [sy.1,rL];apply hn;refine qE (qL res107 ⟨?_,fh1⟩);obtain rfl:i=m.ps.length:=by omega
   rw [xZV (xZY _)] at hall;have:yX m.ps r c=false:=by
    unfold yX;rw [xZQ];intro x hx;have:=hall x hx;rw [dsym x.1,dsym x.2] at this;rw [this]
    decide
   simp [xZZ,this]
 ·exact ⟨0,_,rfl,(by omega),(by simp [xZZ]),(by simp [xZZ]),(by simp [xZZ]),(by simp [xZZ]),fun x hx=>by simp at hx⟩
end Go.Proofs.Kn
namespace Go.Proofs.Kn
open Go Go.Ev
set_option maxRecDepth 100000
set_option maxHeartbeats 4000000
theorem ft108 (xt:Addr->Option Value):(SE xt).ft.get 108=some Tryz.f108:=by kernel_rfl
theorem res108:Tryz.f108.results.toList=[.tmp 8]:=by kernel_rfl
theorem rhas_c (xt:Addr->Option Value) (h:Hp) (w:Wk) (ha:w.At xt h) {q n:Nat} {th wo:Int} (hta:Tub w q n th wo) (r0 c0:Nat) (hr:r0<=100) (hc:c0<=100) (x y:Int)
  {K:CR->Hp->Prop} (hk: ∀m,h.n<m->K (.ret (.val (.bool (pF r0 c0 n x y)))) (h.up m)):FnA (SE xt) 108 [w.av,uR ((r0:Int),(c0:Int),(q:Int)),iv x,iv y] h K:=by
 refine xZJ ?_ hk;clear hk K;refine xZM (sok xt) (ft108 xt) rfl 37 rfl ?_;obtain ⟨o1,o2,o3,o4,o5⟩:=ha.ones;obtain ⟨i1,i2,_,_,ld⟩:=ha.tubs hta.at_;refine qA fun K hn hp=> ?_;simp only [sw.1,rE,reduceIte,rL,rA];apply hn;obtain ⟨h1,hh1⟩: ∃h1:Hp,h1=h.new (.cells w.cs 30):=⟨_,rfl⟩;rw [<-hh1];have nh1:h1.n=h.n+1:=by rw [hh1];rfl
 have sh1:h1.t.get h.n=some (.cells w.cs 30):=by rw [hh1];exact qS _ _
 have kh1: ∀k,k<h.n->h1.t.get k=h.t.get k:=fun k hk=>by rw [hh1];exact qU _ _ hk
 have fbh1:Fr h.n h h1:=by rw [hh1];exact (xZN (xZY _)).new _
 have fh1:=fbh1;obtain ⟨h2,hh2⟩: ∃h2:Hp,h2=h1.new (.cells [iv r0,iv c0,iv q] 61):=⟨_,rfl⟩;rw [<-hh2];have nh2:h2.n=h1.n+1:=by rw [hh2];rfl
 have sh2:h2.t.get h1.n=some (.cells [iv r0,iv c0,iv q] 61):=by rw [hh2];exact qS _ _
 have kh2: ∀k,k<h1.n->h2.t.get k=h1.t.get k:=fun k hk=>by rw [hh2];exact qU _ _ hk
 have fbh2:Fr h1.n h1 h2:=by rw [hh2];exact (xZN (xZY _)).new _
 have fh2:Fr h.n h h2:=fh1.trans fbh2 (by omega);simp only [nh1,Nat.add_assoc,rA] at nh2 sh2 kh2;have s1:=(kh2 h.n (by omega)).trans sh1;obtain ⟨l3,_,_⟩:=ld h2 fh2;have n3:=hta.n3;have w1:IntKind.i64.wrap ((r0:Int)+(n:Int))=r0+n:=wrap_i64 _ (by omega) (by omega);have w2:IntKind.i64.wrap ((c0:Int)+(n:Int))=c0+n:=wrap_i64 _ (by omega) (by omega);have w3:IntKind.i64.wrap ((r0:Int)+(n:Int) - 1)=r0+((n:Int) - 1):=by rw [wrap_i64 _ (by omega) (by omega)];omega
 have w4:IntKind.i64.wrap ((c0:Int)+(n:Int) - 1)=c0+((n:Int) - 1):=by rw [wrap_i64 _ (by omega) (by omega)];omega
 refine qA fun K hn hp=> ?_;simp only [sy.1,rE,reduceIte,rL,i1,i2,sh2,s1,l3];apply hn;refine qA fun K hn hp=> ?_;simp only [sy.1,rE,reduceIte,rL,sh2,w1,w3];refine qB (sok xt) (vG xt h2 x r0 (r0+((n:Int) - 1)) fun n1 hn1=> ?_);have e1:(decide ((r0:Int)<=x) && decide (x<=(r0:Int)+((n:Int) - 1)))=inB x r0 ((r0:Int)+((n:Int) - 1)):=rfl;rw [e1];cases b1:inB x r0 ((r0:Int)+((n:Int) - 1))
 ·simp only [sy.1,rE,reduceIte,rL];refine hn _ _ (qE (qL res108 ⟨?_,fh2.up (by omega)⟩));simp [xZZ,pF,b1]
 ·simp only [sy.1,rE,reduceIte,rL,sh2,w2,w4];refine qB (sok xt) (vG xt (h2.up n1) y c0 (c0+((n:Int) - 1)) fun n2 hn2=> ?_);simp only [xZH] at hn2;have e2:(decide ((c0:Int)<=y) && decide (y<=(c0:Int)+((n:Int) - 1)))=inB y c0 ((c0:Int)+((n:Int) - 1)):=rfl;rw [e2];simp only [sy.1,rE,reduceIte,rL,xZR];refine hn _ _ (qE (qL res108 ⟨?_,fh2.up (by omega)⟩));simp [xZZ,pF,b1]
def Mp.holes (m:Mp) (l:List (Int×Int)):Bool:=l.all (fun p=>decide (m.rc p.1 p.2=2) && !yX m.ps p.1 p.2) && decide ((l.length:Int)<=m.H)
theorem ft45 (xt:Addr->Option Value):(SE xt).ft.get 45=some Tryz.f45:=by kernel_rfl
theorem res45:Tryz.f45.results.toList=[.tmp 4]:=by kernel_rfl
theorem rholes_c (xt:Addr->Option Value) (h:Hp) (m:Mp) (ha:m.At xt h) (v:AV) (l:List (Int×Int)) (hl:Plc xt h v l) {K:CR->Hp->Prop} (hk: ∀n,h.n<n->K (.ret (.val (.bool (m.holes l)))) (h.up n)):FnA (SE xt) 45 [m.av,v] h K:=by
 refine xZJ ?_ hk;clear hk K;refine xZM (sok xt) (ft45 xt) rfl 44 rfl ?_;obtain ⟨o1,o2,o3,o4,o5⟩:=ha.wk.ones;have hlen:=hl.len;have hlt:=hl.lt;refine qA fun K hn hp=> ?_;simp only [sw.1,rE,reduceIte,rL];apply hn;clear hn hp K;obtain ⟨h1,hh1⟩: ∃h1:Hp,h1=h.new (.cells m.cs 27):=⟨_,rfl⟩;rw [<-hh1];have nh1:h1.n=h.n+1:=by rw [hh1];rfl
 have sh1:h1.t.get h.n=some (.cells m.cs 27):=by rw [hh1];exact qS _ _
 have kh1: ∀k,k<h.n->h1.t.get k=h.t.get k:=fun k hk=>by rw [hh1];exact qU _ _ hk
 have fbh1:Fr h.n h h1:=by rw [hh1];exact (xZN (xZY _)).new _
 have fh1:=fbh1;have ha1:=ha.fr fh1 (xZY _);have hl1:=hl.fr fh1 (xZY _);refine qD ?_;refine qA fun K hn hp=> ?_;simp only [sy.1,rL];apply hn;clear hn hp K;refine qF fun KA A1 A2 A3 A4 A5=> ?_;refine qP (sok xt) (fun st=> ∃(i:Nat) (n:Nat) (tm:T AV),st=⟨tm,44,h1.up n,[]⟩/\i<=l.length/\tm.get 1=some (v)/\tm.get 2=some (.ptr h.n 0)/\tm.get 5=some (iv i)/\h1.n<=n/\ ∀x∈l.take i,(decide (m.rc x.1 x.2=2) && !yX m.ps x.1 x.2)=true) (fun st=>l.length - (match st.tm.get 5 with|some (.val (.int _ n))=>n.toNat|_=>0)) ?_ ?_
 ·rintro st ⟨i,n,tm,rfl,hkA,g1,g2,g5,hn,hall⟩;have muA:=g5;refine qD ?_;refine qA fun K hn hp=> ?_;simp only [sy.1,rE,reduceIte,rL,syw.1,hlen,jA,g1,g5];apply hn;clear hn hp K;by_cases hi:i<l.length
  ·refine qC true (by simp only [sy.1,rE,reduceIte,hi]) (fun _=> ?_) (fun hx=>by cases hx);obtain ⟨⟨a,b⟩,hx⟩: ∃x,l[i]? =some x:=⟨_,xZW hi⟩;have hlu:=hl1.up hn;have i1:=hlu.row.idx hP rfl kC rfl (i:=i) (by simpa using hi) (k:= .i64);have i2:=hlu.row.load tg3 rfl (i:=i) (j:=0) (c:=Kn.p2 (a,b)) (u:= .int .i64 a) (by rw [xZX,hx];rfl) rfl;have i3:=hlu.row.load tg3 rfl (i:=i) (j:=1) (c:=Kn.p2 (a,b)) (u:= .int .i64 b) (by rw [xZX,hx];rfl) rfl;have f0:=hlu.row.fa (by intro e;simp at e;rw [e] at hi;simp at hi) kC rfl (f:=0) rfl (i*2);have f1:=hlu.row.fa (by intro e;simp at e;rw [e] at hi;simp at hi) kC rfl (f:=1) rfl (i*2);have j2:=hl1.row.load tg3 rfl (i:=i) (j:=0) (c:=Kn.p2 (a,b)) (u:= .int .i64 a) (by rw [xZX,hx];rfl) rfl;have j3:=hl1.row.load tg3 rfl (i:=i) (j:=1) (c:=Kn.p2 (a,b)) (u:= .int .i64 b) (by rw [xZX,hx];rfl) rfl;simp only [Nat.add_zero] at i2 f0 j2;refine qH ?_;refine qF fun KB B1 B2 B3 B4 B5=> ?_;have no:(decide (m.rc a b=2) && !yX m.ps a b)=false->m.holes l=false:=fun e=>by
    unfold Mp.holes;have:(l.all fun p=>decide (m.rc p.1 p.2=2) && !yX m.ps p.1 p.2)=false:=by
     rw [List.all_eq_false];exact ⟨_,xZU hx,by simpa using e⟩
    rw [this];rfl
   refine yU (sok xt) 0 0 25 [] (by kernel_rfl) fun K hn' hp=> ?_;simp only [sy.1,rE,reduceIte,rL,rA,syw.1,sh1,g1,g2,g5,i1,j2,j3,f0,f1];refine qB (sok xt) (rc_c xt (h1.up n) m (ha1.up hn) a b fun n5 hn5=> ?_);simp only [xZH] at hn5;cases c1:decide (m.rc a b=2)
   ·simp only [sy.1,rE,reduceIte,rL,rA,syw.1,c1,xZR,hn5];refine hn' _ _ ?_;clear hn' hp K;refine qG true (by simp only [sy.1,rE,reduceIte]) (fun _=> ?_) (fun hx=>by cases hx);refine qA fun K hn hp=> ?_;simp only [sy.1,rL];apply hn;clear hn hp K;refine qE (B4 _ (A4 _ (qL res45 ⟨?_,fh1.up (by omega)⟩)));simp [xZZ,no (by simp [c1])]
   ·simp only [sy.1,rE,reduceIte,rL,rA,syw.1,sh1,g1,g2,g5,i1,j2,j3,f0,f1,c1,xZR,hn5];refine qB (sok xt) (qCi xt (h1.up n5) m (ha1.up (by omega)) a b fun n6 hn6=> ?_);simp only [xZH] at hn6;cases c2:yX m.ps a b
    ·simp only [sy.1,rE,reduceIte,rL,xZR];refine hn' _ _ ?_;clear hn' hp K;refine qG false (by simp only [sy.1,rE,reduceIte]) (fun hx=>by cases hx) (fun _=> ?_);refine qT (B1 _ ?_);refine reg fun K hn hp=> ?_;simp only [sy.1,rE,reduceIte,rL,g5,qK hi hlt];apply hn;clear hn hp K;refine ⟨⟨i+1,n6,_,rfl,by omega,(by simp [xZZ,g1]),(by simp [xZZ,g2]),(by simp [xZZ]),by omega,?_⟩,by simpa [xZZ,muA] using (by omega:l.length - (i+1)<l.length - i)⟩;rw [xZS,hx];intro y hy;simp only [xZT,xZI,xZK] at hy;rcases hy with hy|rfl
     ·exact hall y hy
     ·rw [c1,c2];rfl
    ·simp only [sy.1,rE,reduceIte,rL,xZR];refine hn' _ _ ?_;clear hn' hp K;refine qG true (by simp only [sy.1,rE,reduceIte]) (fun _=> ?_) (fun hx=>by cases hx);refine qA fun K hn hp=> ?_;simp only [sy.1,rL];apply hn;clear hn hp K;refine qE (B4 _ (A4 _ (qL res45 ⟨?_,fh1.up (by omega)⟩)));simp [xZZ,no (by simp [c2])]
  ·refine qC false (by simp only [sy.1,rE,reduceIte,hi]) (fun hx=>by cases hx) (fun _=> ?_);refine qM (A2 _ ?_);obtain rfl:i=l.length:=by omega
   rw [xZV (xZY _)] at hall;have e:(l.all fun p=>decide (m.rc p.1 p.2=2) && !yX m.ps p.1 p.2)=true:=List.all_eq_true.2 hall;refine qA fun K hn hp=> ?_;simp only [sy.1,rE,reduceIte,rL,syw.1,hlen,sh1,g1,g2];apply hn;clear hn hp K;refine qE (qL res45 ⟨?_,fh1.up hn⟩);simp [xZZ,Mp.holes,e]
 ·exact ⟨0,h1.n,_,rfl,(by omega),(by simp [xZZ]),(by simp [xZZ]),(by simp [xZZ]),xZY _,fun x hx=>by simp at hx⟩
end Go.Proofs.Kn
namespace Go.Proofs.Kn
open Go Go.Ev
set_option maxRecDepth 100000
set_option maxHeartbeats 4000000
def opn (ps:List (Int×Int)) (r0 c0 n:Nat):Bool:=(List.range n).any fun i=>(List.range n).any fun j=> !yX ps ((r0+i:Nat):Int) ((c0+j:Nat):Int)
theorem opn_yes {ps:List (Int×Int)} {r0 c0 n i j:Nat} (h1:r0<=i) (h2:i<r0+n) (h3:c0<=j) (h4:j<c0+n) (h5:yX ps i j=false):opn ps r0 c0 n=true:=by
 refine xZO.2 ⟨i - r0,xZL.2 (by omega),xZO.2 ⟨j - c0,xZL.2 (by omega),?_⟩⟩;rw [show r0+(i - r0)=i by omega,show c0+(j - c0)=j by omega,h5];rfl
theorem opn_no {ps:List (Int×Int)} {r0 c0 n:Nat} (h: ∀i,r0<=i->i<r0+n-> ∀j,c0<=j->j<c0+n->yX ps i j=true):opn ps r0 c0 n=false:=by
 unfold opn;rw [xZQ];intro i hi;rw [Bool.not_eq_true,xZQ];intro j hj;have hi:=xZL.1 hi;have hj:=xZL.1 hj;rw [h (r0+i) (by omega) (by omega) (c0+j) (by omega) (by omega)]
 decide
theorem ft105 (xt:Addr->Option Value):(SE xt).ft.get 105=some Tryz.f105:=by kernel_rfl
theorem res105:Tryz.f105.results.toList=[.tmp 4]:=by kernel_rfl
theorem ropen_c (xt:Addr->Option Value) (h:Hp) (w:Wk) (ha:w.At xt h) {q n:Nat} {th wo:Int} (hta:Tub w q n th wo) (r0 c0:Nat) (hr:r0<=100) (hc:c0<=100)
  {K:CR->Hp->Prop} (hk: ∀m,h.n<m->K (.ret (.val (.bool (opn w.m.ps r0 c0 n)))) (h.up m)):FnA (SE xt) 105 [w.av,uR ((r0:Int),(c0:Int),(q:Int))] h K:=by
 refine xZJ ?_ hk;clear hk K;refine xZM (sok xt) (ft105 xt) rfl 41 rfl ?_;obtain ⟨o1,o2,o3,o4,o5⟩:=ha.ones;obtain ⟨i1,i2,_,_,ld⟩:=ha.tubs hta.at_;refine qA fun K hn hp=> ?_;simp only [sw.1,rE,reduceIte,rL];apply hn;obtain ⟨h1,hh1⟩: ∃h1:Hp,h1=h.new (.cells w.cs 30):=⟨_,rfl⟩;rw [<-hh1];have nh1:h1.n=h.n+1:=by rw [hh1];rfl
 have sh1:h1.t.get h.n=some (.cells w.cs 30):=by rw [hh1];exact qS _ _
 have kh1: ∀k,k<h.n->h1.t.get k=h.t.get k:=fun k hk=>by rw [hh1];exact qU _ _ hk
 have fbh1:Fr h.n h h1:=by rw [hh1];exact (xZN (xZY _)).new _
 have fh1:=fbh1;obtain ⟨h2,hh2⟩: ∃h2:Hp,h2=h1.new (.cells [iv r0,iv c0,iv q] 61):=⟨_,rfl⟩;rw [<-hh2];have nh2:h2.n=h1.n+1:=by rw [hh2];rfl
 have sh2:h2.t.get h1.n=some (.cells [iv r0,iv c0,iv q] 61):=by rw [hh2];exact qS _ _
 have kh2: ∀k,k<h1.n->h2.t.get k=h1.t.get k:=fun k hk=>by rw [hh2];exact qU _ _ hk
 have fbh2:Fr h1.n h1 h2:=by rw [hh2];exact (xZN (xZY _)).new _
 have fh2:Fr h.n h h2:=fh1.trans fbh2 (by omega);simp only [nh1,Nat.add_assoc,rA] at nh2 sh2 kh2;have s1:=(kh2 h.n (by omega)).trans sh1;obtain ⟨l3,_,_⟩:=ld h2 fh2;have ha2:=ha.fr fh2 (xZY _);have n3:=hta.n3;have w1:IntKind.i64.wrap ((r0:Int)+(n:Int))=((r0+n:Nat):Int):=by rw [wrap_i64 _ (by omega) (by omega)];simp
 have w2:IntKind.i64.wrap ((c0:Int)+(n:Int))=((c0+n:Nat):Int):=by rw [wrap_i64 _ (by omega) (by omega)];simp
 refine qA fun K hn hp=> ?_;simp only [sy.1,rE,reduceIte,rL,i1,i2,sh2,s1,l3];apply hn;refine qD ?_;refine qA fun K hn hp=> ?_;simp only [sy.1,rE,reduceIte,rL,sh2];apply hn;refine qF fun KA A1 A2 A3 A4 A5=> ?_;refine qP (sok xt) (fun st=> ∃(i:Nat) (m:Nat) (tm:T AV),st=⟨tm,41,h2.up m,[]⟩/\i<=(r0+n)/\tm.get 2=some (.ptr h.n 0)/\tm.get 3=some (.ptr (h.n+1) 0)/\tm.get 5=some (iv n)/\tm.get 6=some (iv i)/\h2.n<=m/\r0<=i/\ ∀i',r0<=i'->i'<i-> ∀j',c0<=j'->j'<c0+n->yX w.m.ps i' j'=true) (fun st=>(r0+n) - (match st.tm.get 6 with|some (.val (.int _ n))=>n.toNat|_=>0)) ?_ ?_
 ·rintro st ⟨i,m,tm,rfl,hkA,g2,g3,g5,g6,hm1,hi0,hall⟩;have muA:=g6;refine qD ?_;refine qA fun K hn hp=> ?_;simp only [sy.1,rE,reduceIte,rL,sh2,w1,jA,g3,g5,g6];apply hn;by_cases hi:i<r0+n
  ·refine qC true (by simp only [sy.1,rE,reduceIte,hi]) (fun _=> ?_) (fun hx=>by cases hx);refine qH ?_;refine qF fun KB B1 B2 B3 B4 B5=> ?_;refine qA fun K hn hp=> ?_;simp only [sy.1,rE,reduceIte,rL,sh2,g3];apply hn;refine jL fun KD D1 D2 D3 D4 D5=> ?_;refine qP (sok xt) (fun st=> ∃(j:Nat) (m2:Nat) (tm:T AV),st=⟨tm,41,h2.up m2,[]⟩/\j<=(c0+n)/\tm.get 2=some (.ptr h.n 0)/\tm.get 3=some (.ptr (h.n+1) 0)/\tm.get 5=some (iv n)/\tm.get 6=some (iv i)/\tm.get 7=some (iv j)/\h2.n<=m2/\c0<=j/\ ∀j',c0<=j'->j'<j->yX w.m.ps i j'=true) (fun st=>(c0+n) - (match st.tm.get 7 with|some (.val (.int _ n))=>n.toNat|_=>0)) ?_ ?_
   ·rintro st ⟨j,m2,tm,rfl,hkD,g2,g3,g5,g6,g7,hm2,hj0,hallj⟩;have muD:=g7;refine qD ?_;refine qA fun K hn hp=> ?_;simp only [sy.1,rE,reduceIte,rL,sh2,w2,jA,g3,g5,g7];apply hn;by_cases hj:j<c0+n
    ·refine qC true (by simp only [sy.1,rE,reduceIte,hj]) (fun _=> ?_) (fun hx=>by cases hx);refine qH ?_;refine qF fun KE E1 E2 E3 E4 E5=> ?_;refine qA fun K hn hp=> ?_;simp only [sy.1,rE,reduceIte,rL,rA,rD,s1,g2,g6,g7];refine qB (sok xt) (qCi xt (h2.up m2) w.m (ha2.m.up hm2) i j fun n5 hn5=> ?_);simp only [xZH] at hn5;cases c1:yX w.m.ps i j
     ·simp only [sy.1,rE,reduceIte,rL,xZR];apply hn;refine qG true (by simp only [sy.1,rE,reduceIte]) (fun _=> ?_) (fun hx=>by cases hx);refine qA fun K hn hp=> ?_;simp only [sy.1,rL];apply hn;refine qE (E4 _ (D4 _ (B4 _ (A4 _ (qL res105 ⟨?_,fh2.up (by omega)⟩)))));simp [xZZ,opn_yes hi0 hi hj0 hj c1]
     ·simp only [sy.1,rE,reduceIte,rL,xZR];apply hn;refine qG false (by simp only [sy.1,rE,reduceIte]) (fun hx=>by cases hx) (fun _=> ?_);refine qT (E1 _ ?_);refine reg fun K hn hp=> ?_;simp only [sy.1,rE,reduceIte,rL,g7,qK hj (show c0+n<=9223372036854775807 by omega)];apply hn;refine ⟨⟨j+1,n5,_,rfl,by omega,(by simp [xZZ,g2]),(by simp [xZZ,g3]),(by simp [xZZ,g5]),(by simp [xZZ,g6]),(by simp [xZZ]),by omega,by omega,fun j' h1 h2=> ?_⟩,by simpa [xZZ,muD] using (by omega:(c0+n) - (j+1)<(c0+n) - j)⟩;by_cases e:j'=j
      ·rw [e];exact c1
      ·exact hallj j' h1 (by omega)
    ·refine qC false (by simp only [sy.1,rE,reduceIte,hj]) (fun hx=>by cases hx) (fun _=> ?_);refine qM (D2 _ ?_);refine B1 _ ?_;refine reg fun K hn hp=> ?_;simp only [sy.1,rE,reduceIte,rL,g6,qK hi (show r0+n<=9223372036854775807 by omega)];apply hn;refine ⟨⟨i+1,m2,_,rfl,by omega,(by simp [xZZ,g2]),(by simp [xZZ,g3]),(by simp [xZZ,g5]),(by simp [xZZ]),hm2,by omega,fun i' h1 h2 j' h3 h4=> ?_⟩,by simpa [xZZ,muA] using (by omega:(r0+n) - (i+1)<(r0+n) - i)⟩;by_cases e:i'=i
     ·rw [e];exact hallj j' h3 (by omega)
     ·exact hall i' h1 (by omega) j' h3 h4
   ·exact ⟨c0,m,_,rfl,(by omega),(by simp [xZZ,g2]),(by simp [xZZ,g3]),(by simp [xZZ,g5]),(by simp [xZZ,g6]),(by simp [xZZ]),hm1,xZY _,fun j' h1 h2=>absurd h1 (by omega)⟩
  ·refine qC false (by simp only [sy.1,rE,reduceIte,hi]) (fun hx=>by cases hx) (fun _=> ?_);refine qM (A2 _ ?_);refine qA fun K hn hp=> ?_;simp only [sy.1,rL];apply hn;refine qE (qL res105 ⟨?_,fh2.up hm1⟩);simp [xZZ,opn_no fun i' h1 h2 j' h3 h4=>hall i' h1 (by omega) j' h3 h4]
 ·exact ⟨r0,h2.n,_,rfl,(by omega),(by simp [xZZ]),(by simp [xZZ]),(by simp [xZZ]),(by simp [xZZ]),by omega,xZY _,fun i' h1 h2=>absurd h1 (by omega)⟩
end Go.Proofs.Kn
namespace Go.Proofs.Kn
open Go Go.Ev
set_option maxRecDepth 100000
set_option maxHeartbeats 4000000
def Wk.hit1 (w:Wk) (s:Int×Int×Int) (p:Int×Int):Bool:=pF s.1.toNat s.2.1.toNat (w.tb s.2.2.toNat).1.toNat p.1 p.2
def Wk.hit (w:Wk) (hs:List (Int×Int)) (s:Int×Int×Int):Bool:=hs.any (w.hit1 s)
def Wk.left (w:Wk) (hs:List (Int×Int)) (ls:List (Int×Int×Int)):List (Int×Int×Int):=ls.filter fun s=> !w.hit hs s
theorem V_bd {w:Wk} (his:w.Is) {G:Th.Grid} (hb:w.m.bnd=some G): ∀ls:List (Int×Int×Int),(∀s∈ls,w.Blk s)->0<=w.V G ls/\w.V G ls<=6500*ls.length
 |[],_=>by simp [Wk.V]
 |s::l,h=>by
  have h1:=his.lv_bd hb (h s List.mem_cons_self);have h2:=V_bd his hb l fun x hx=>h x (List.mem_cons_of_mem _ hx);simp only [Wk.V,List.length_cons];omega
theorem left_succ (w:Wk) (hs:List (Int×Int)) {ls:List (Int×Int×Int)} {i:Nat} {s:Int×Int×Int} (hx:ls[i]? =some s) (G:Th.Grid):w.V G (w.left hs (ls.take (i+1)))=w.V G (w.left hs (ls.take i))+(if w.hit hs s=true then 0 else w.lv G s):=by
 rw [xZS,hx];simp only [Wk.left,xZT,List.filter_append,Wk.V_app];cases e:w.hit hs s<;>simp [Wk.V,e]
theorem qDP (w:Wk) (hs:List (Int×Int)) (ls:List (Int×Int×Int)):(w.left hs ls).length<=ls.length:=List.length_filter_le _ _
theorem ft46 (xt:Addr->Option Value):(SE xt).ft.get 46=some Tryz.f46:=by kernel_rfl
theorem res46:Tryz.f46.results.toList=[.tmp 6]:=by kernel_rfl
theorem rspoilt_c (xt:Addr->Option Value) (h:Hp) (w:Wk) (ha:w.At xt h) (his:w.Is) (G:Th.Grid) (hb:w.m.bnd=some G) (v:AV) (ls:List (Int×Int×Int)) (hl:Cuts xt h v ls) (hl50:ls.length<=1000000) (hblk: ∀s∈ls,w.Blk s) (u:AV) (hs:List (Int×Int)) (hu:Plc xt h u hs)
  {K:CR->Hp->Prop} (hk: ∀m,h.n<m->K (.ret (iv (w.V G (w.left hs ls)))) (h.up m)):FnA (SE xt) 46 [w.av,v,u] h K:=by
 refine xZJ ?_ hk;clear hk K;refine xZM (sok xt) (ft46 xt) rfl 59 rfl ?_;obtain ⟨o1,o2,o3,o4,o5⟩:=ha.ones;have hlen:=hl.len;have hlt:=hl.lt;have hlenU:=hu.len;have hltU:=hu.lt;have hr6:=his.m.r6;have hc8:=his.m.c8;have hbp:=bP his.m hb;refine qA fun K hn hp=> ?_;simp only [sw.1,rE,reduceIte,rL,rA];apply hn;obtain ⟨h1,hh1⟩: ∃h1:Hp,h1=h.new (.cells w.cs 30):=⟨_,rfl⟩;rw [<-hh1];have nh1:h1.n=h.n+1:=by rw [hh1];rfl
 have sh1:h1.t.get h.n=some (.cells w.cs 30):=by rw [hh1];exact qS _ _
 have kh1: ∀k,k<h.n->h1.t.get k=h.t.get k:=fun k hk=>by rw [hh1];exact qU _ _ hk
 have fbh1:Fr h.n h h1:=by rw [hh1];exact (xZN (xZY _)).new _
 have fh1:=fbh1;have ha1:=ha.fr fh1 (xZY _);refine qA fun K hn hp=> ?_;simp only [sy.1,rE,reduceIte,rL,rA,rD,sh1];refine qB (sok xt) (FnA.mono (qBg xt h1 w.m ha1.m _ _ his.m rfl) fun res h4 hres=> ?_);obtain ⟨tv,M,rfl,f4,sg,hM1,hM2⟩:=hres;have hG:Th.thickR w.m.T w.m.J (w.m.W - 1) w.m.F0 (w.m.gs.map gg) w.m.cells.length (w.m.W+1)=G:=(bO his.m hb).1;rw [hG] at sg;simp only [sy.1,rE,reduceIte,rL];refine qB (sok xt) (FnA.mono (endsI_c xt h4 _ M _ _ tv G sg (by omega) (by omega) (by omega) false) fun res h5 hres=> ?_);obtain ⟨z1,rfl,f5,lt5,l1⟩:=hres;simp only [sy.1,rE,reduceIte,rL];apply hn;have f45:Fr h1.n h1 h5:=f4.trans f5 (by omega);have f5h:=fh1.trans f45 (by omega);have s5:=(f45.at_ h.n (.inl (by omega))).trans sh1;have ha5:=ha.fr f5h (xZY _);have hl5:=hl.fr f5h (xZY _);have hu5:=hu.fr f5h (xZY _);have gl: ∀(r:Nat),r<w.m.cells.length->((⟨z1,vM false G w.m.cells.length w.m.W⟩:Gr).ll.getD r []).length=w.m.W:=fun r hr=>by
  show ((vM false G w.m.cells.length w.m.W).getD r []).length=_;rw [bI _ _ hr];simp
 have tpos: ∀(r c:Nat),r<w.m.cells.length->c<w.m.W->0<=(⟨z1,vM false G w.m.cells.length w.m.W⟩:Gr).t r c:=fun r c hr hc=>by
  rw [qDa z1 false G hr hc];exact (hbp r c).1
 refine qA fun K hn hp=> ?_;simp only [sy.1,rL];apply hn;refine qD ?_;refine qA fun K hn hp=> ?_;simp only [sy.1,rL];apply hn;refine qF fun KA A1 A2 A3 A4 A5=> ?_;refine qP (sok xt) (fun st=> ∃(i:Nat) (m:Nat) (x:Int) (tm:T AV),st=⟨tm,59,h5.up m,[]⟩/\i<=ls.length/\tm.get 1=some (v)/\tm.get 2=some (u)/\tm.get 3=some (.ptr h.n 0)/\tm.get 7=some (z1)/\tm.get 8=some (iv x)/\tm.get 9=some (iv i)/\h5.n<=m/\x=w.V G (w.left hs (ls.take i))) (fun st=>ls.length - (match st.tm.get 9 with|some (.val (.int _ n))=>n.toNat|_=>0)) ?_ ?_
 ·rintro st ⟨i,m,x,tm,rfl,hkA,g1,g2,g3,g7,g8,g9,hm,rfl⟩;have muA:=g9;refine qD ?_;refine qA fun K hn hp=> ?_;simp only [sy.1,rE,reduceIte,rL,syw.1,hlen,jA,g1,g9];apply hn;by_cases hi:i<ls.length
  ·refine qC true (by simp only [sy.1,rE,reduceIte,hi]) (fun _=> ?_) (fun hx=>by cases hx);refine qH ?_;obtain ⟨s,hx⟩: ∃s,ls[i]? =some s:=⟨_,xZW hi⟩;have hbs:=hblk s (xZU hx);obtain ⟨i1,i2,_,_⟩:=hl5.at_ hx;obtain ⟨i1',i2',_,_⟩:=(hl5.up hm).at_ hx;have b1:=V_bd his hb (w.left hs (ls.take (i+1))) fun y hy=>hblk y (List.mem_of_mem_take (List.mem_filter.1 hy).1);have b2:=qDP w hs (ls.take (i+1));have b3:(ls.take (i+1)).length<=ls.length:=List.length_take_le' _ _;refine qF fun KB B1 B2 B3 B4 B5=> ?_;refine qA fun K hn hp=> ?_;simp only [sy.1,rL];apply hn;refine qD ?_;refine qA fun K hn hp=> ?_;simp only [sy.1,rL];apply hn;refine jL fun KD D1 D2 D3 D4 D5=> ?_;refine qP (sok xt) (fun st=> ∃(j:Nat) (m2:Nat) (bb:Bool) (tm:T AV),st=⟨tm,59,h5.up m2,[]⟩/\j<=hs.length/\tm.get 1=some (v)/\tm.get 2=some (u)/\tm.get 3=some (.ptr h.n 0)/\tm.get 7=some (z1)/\tm.get 8=some (iv (w.V G (w.left hs (ls.take i))))/\tm.get 9=some (iv i)/\tm.get 10=some (.val (.bool (!bb)))/\tm.get 11=some (iv j)/\h5.n<=m2/\bb=(hs.take j).any (w.hit1 s)) (fun st=>hs.length - (match st.tm.get 11 with|some (.val (.int _ n))=>n.toNat|_=>0)) ?_ ?_
   ·rintro st ⟨j,m2,bb,tm,rfl,hkD,g1,g2,g3,g7,g8,g9,g10,g11,hm2,hbb⟩;have muD:=g11;refine qD ?_;refine qA fun K hn hp=> ?_;simp only [sy.1,rE,reduceIte,rL,syw.1,jA,hlenU,g2,g11];apply hn;by_cases hj:j<hs.length
    ·refine qC true (by simp only [sy.1,rE,reduceIte,hj]) (fun _=> ?_) (fun hx=>by cases hx);refine qH ?_;refine qF fun KE E1 E2 E3 E4 E5=> ?_;obtain ⟨r0,c0,q,n,th,wo,hs0,ht,k1,k2⟩:=hbs;obtain ⟨⟨a,b⟩,hy⟩: ∃x,hs[j]? =some x:=⟨_,xZW hj⟩;have y1:=hu5.row.idx hP rfl kC rfl (i:=j) (by simpa using hj) (k:= .i64);have y2:=hu5.row.load tg3 rfl (i:=j) (j:=0) (c:=Kn.p2 (a,b)) (u:= .int .i64 a) (by rw [xZX,hy];rfl) rfl;have y3:=hu5.row.load tg3 rfl (i:=j) (j:=1) (c:=Kn.p2 (a,b)) (u:= .int .i64 b) (by rw [xZX,hy];rfl) rfl;have f0:=hu5.row.fa (by intro e;simp at e;rw [e] at hj;simp at hj) kC rfl (f:=0) rfl (j*2);have f1:=hu5.row.fa (by intro e;simp at e;rw [e] at hj;simp at hj) kC rfl (f:=1) rfl (j*2);simp only [Nat.add_zero] at y2 f0;have hh:w.hit1 s (a,b)=pF r0 c0 n a b:=by rw [hs0];simp [Wk.hit1,ht.tb]
     have ha3:(hs.take (j+1)).any (w.hit1 s)=((hs.take j).any (w.hit1 s) || pF r0 c0 n a b):=by
      rw [xZS,hy];simp [hh]
     rw [hs0] at i2 i2';rw [<-hbb] at ha3;clear hbb;cases bb
     ·rw [Bool.false_or] at ha3;refine regL (sok xt) 0 0 17 [] (by kernel_rfl) fun K hn hp=> ?_;simp only [sy.1,rE,reduceIte,rL,rA,syw.1,s5,g1,g2,g3,g9,g10,g11,i1,i2,y1,y2,y3,f0,f1];refine qB (sok xt) (rhas_c xt (h5.up m2) w (ha5.up hm2) ht r0 c0 (by omega) (by omega) a b fun n5 hn5=> ?_);simp only [xZH] at hn5;simp only [sy.1,rE,reduceIte,rL,xZR];refine hn _ _ (E1 _ ?_);refine reg fun K hn hp=> ?_;simp only [sy.1,rE,reduceIte,rL,g11,qK hj hltU];apply hn;refine ⟨⟨j+1,n5,_,_,rfl,by omega,(by simp [xZZ,g1]),(by simp [xZZ,g2]),(by simp [xZZ,g3]),(by simp [xZZ,g7]),(by simp [xZZ,g8]),(by simp [xZZ,g9]),(by simp [xZZ]),(by simp [xZZ]),by omega,ha3.symm⟩,by simpa [xZZ,muD] using (by omega:hs.length - (j+1)<hs.length - j)⟩
     ·rw [Bool.true_or] at ha3;refine regL (sok xt) 0 0 17 [] (by kernel_rfl) fun K hn hp=> ?_;simp only [sy.1,rE,reduceIte,rL,rA,syw.1,g10];refine hn _ _ (E1 _ ?_);refine reg fun K hn hp=> ?_;simp only [sy.1,rE,reduceIte,rL,g11,qK hj hltU];apply hn;refine ⟨⟨j+1,m2,true,_,rfl,by omega,(by simp [xZZ,g1]),(by simp [xZZ,g2]),(by simp [xZZ,g3]),(by simp [xZZ,g7]),(by simp [xZZ,g8]),(by simp [xZZ,g9]),(by simp [xZZ]),(by simp [xZZ]),hm2,ha3.symm⟩,by simpa [xZZ,muD] using (by omega:hs.length - (j+1)<hs.length - j)⟩
    ·refine qC false (by simp only [sy.1,rE,reduceIte,hj]) (fun hx=>by cases hx) (fun _=> ?_);refine qM (D2 _ ?_);obtain rfl:j=hs.length:=by omega
     rw [xZV (xZY _)] at hbb;have eh:hs.any (w.hit1 s)=w.hit hs s:=rfl;rw [eh] at hbb;subst hbb;have ls1:=left_succ w hs hx G;refine qA fun K hn hp=> ?_;simp only [sy.1,rE,reduceIte,rL,g10];apply hn;cases B:w.hit hs s
     ·rw [B] at g10 ls1;refine qG true (by simp only [sy.1,rE,reduceIte]) (fun _=> ?_) (fun hx=>by cases hx);rw [if_neg (by decide)] at ls1;have w1:IntKind.i64.wrap (w.V G (w.left hs (ls.take i))+w.lv G s)=w.V G (w.left hs (ls.take (i+1))):=by rw [ls1];exact wrap_i64 _ (by omega) (by omega)
      refine regW (sok xt) 0 0 8 [] (by kernel_rfl) fun K hn hp=> ?_;simp only [sy.1,rE,reduceIte,rL,rA,syw.1,s5,g1,g3,g7,g8,g9,i1,i2];refine qB (sok xt) (uX xt (h5.up m2) w (ha5.up hm2) his s hbs ⟨z1,vM false G w.m.cells.length w.m.W⟩ (l1.up hm2) (y6 _ _ _ _) gl tpos fun n5 hn5=> ?_);simp only [xZH] at hn5;rw [gX hbs];have el:(w.tb s.2.2.toNat).2.2*w.give (fun r c=>kO false (G r c)) s=w.lv G s:=rfl;rw [el];simp only [sy.1,rE,reduceIte,rL,rA,syw.1,hn5,w1,xZR];refine hn _ _ (B1 _ ?_);refine reg fun K hn hp=> ?_;simp only [sy.1,rE,reduceIte,rL,g9,qK hi hlt];apply hn;refine ⟨⟨i+1,n5,_,_,rfl,by omega,(by simp [xZZ,g1]),(by simp [xZZ,g2]),(by simp [xZZ,g3]),(by simp [xZZ,g7]),(by simp [xZZ]),(by simp [xZZ]),by omega,rfl⟩,by simpa [xZZ,muA] using (by omega:ls.length - (i+1)<ls.length - i)⟩
     ·rw [B] at g10 ls1;refine qG false (by simp only [sy.1,rE,reduceIte]) (fun hx=>by cases hx) (fun _=> ?_);rw [if_pos rfl,Int.add_zero] at ls1;refine qT (B1 _ ?_);refine reg fun K hn hp=> ?_;simp only [sy.1,rE,reduceIte,rL,g9,qK hi hlt];apply hn;refine ⟨⟨i+1,m2,_,_,rfl,by omega,(by simp [xZZ,g1]),(by simp [xZZ,g2]),(by simp [xZZ,g3]),(by simp [xZZ,g7]),(by simp [xZZ,g8]),(by simp [xZZ]),hm2,ls1.symm⟩,by simpa [xZZ,muA] using (by omega:ls.length - (i+1)<ls.length - i)⟩
   ·exact ⟨0,m,false,_,rfl,(by omega),(by simp [xZZ,g1]),(by simp [xZZ,g2]),(by simp [xZZ,g3]),(by simp [xZZ,g7]),(by simp [xZZ,g8]),(by simp [xZZ,g9]),(by simp [xZZ]),(by simp [xZZ]),hm,rfl⟩
  ·refine qC false (by simp only [sy.1,rE,reduceIte,hi]) (fun hx=>by cases hx) (fun _=> ?_);refine qM (A2 _ ?_);obtain rfl:i=ls.length:=by omega
   rw [xZV (xZY _)] at g8;refine qA fun K hn hp=> ?_;simp only [sy.1,rE,reduceIte,rL,g8];apply hn;refine qE (qL res46 ⟨?_,f5h.up hm⟩);simp [xZZ]
 ·exact ⟨0,h5.n,0,_,rfl,(by omega),(by simp [xZZ]),(by simp [xZZ]),(by simp [xZZ]),(by simp [xZZ]),(by simp [xZZ]),(by simp [xZZ]),xZY _,rfl⟩
end Go.Proofs.Kn
