/- MvW1, MvW2, MvW3, MvW4: texts in a row, joined by a program. -/
import Derived.Test.YtnmfblokfponlaaGreatDoorQN2
import Derived.Test.YtnmfblokfponlaaGreatDoorQY3
import Derived.Test.YtnmfblokfponlaaGreatDoorQY9
set_option linter.all false
open Nat renaming reduceEqDiff → rE, reduceLeDiff → rD, reduceAdd → rA, reduceMul → rM, reduceLT → rL
open Go.Ev.T renaming get_put → xZZ
open Nat renaming le_refl → xZY
open List renaming getElem?_map → xZX, getElem?_eq_getElem → xZV, take_of_length_le → xZT, mem_of_getElem? → xZS, take_succ → xZR, mem_singleton → xZQ, mem_append → xZP, any_eq_false → xZM, any_eq_true → xZJ
open Option renaming toList_some → xZW, bind_some → xZU
open Go.Ev.FnA renaming walk → xZO, calm → xZK
open Go.Ev.Hp renaming up_up → xZN
open Go.Ev.Fr renaming refl → xZL
namespace Go.Proofs.Kn
open Go Go.Ev
set_option maxRecDepth 100000
set_option maxHeartbeats 4000000
theorem eqi141 (d:Nat) (a b c e:Int):qM Tryz.prog (Op.equalIn (d+1+1) 141 (.agg #[.int .i64 a,.int .i64 b]) (.agg #[.int .i64 c,.int .i64 e]))=some (decide (a=c) && decide (b=e)):=by
 have h1:qM Tryz.prog (underlying 141)=some (TypeDesc.struct #[{name:= "Row",type:=3,offset:=0,embedded:=false,tag:= "",pkgPath:= "",byteOffset:=0},{name:= "Column",type:=3,offset:=1,embedded:=false,tag:= "",pkgPath:= "",byteOffset:=8}]):=by kernel_rfl
 have h2:Tryz.prog.stoodInHeld 141=false:=by kernel_rfl
 have h3: ∀d a b,qM Tryz.prog (Op.equalIn (d+1) 3 (.int .i64 a) (.int .i64 b))=some (a==b):=fun d a b=>by
  have:qM Tryz.prog (underlying 3)=some (.int .i64):=by kernel_rfl
  rw [Op.equalIn];simp only [jQ,this,xZU,if_true,jH]
 have p1: ∀a b,qM Tryz.prog (part 3 #[.int .i64 a,.int .i64 b] 0)=some (.int .i64 a):=fun a b=>by kernel_rfl
 have p2: ∀a b,qM Tryz.prog (part 3 #[.int .i64 a,.int .i64 b] 1)=some (.int .i64 b):=fun a b=>by kernel_rfl
 rw [Op.equalIn];simp only [jQ,h1,xZU,vP,h2,Bool.false_eq_true,if_false];rw [<-Array.forIn_toList];simp only [List.forIn_cons,List.forIn_nil,jQ,zH,p1,h3,xZU,jH];by_cases q1:a=c
 ·by_cases q2:b=e
  ·simp [q1,q2,jH,jQ,p2,h3,zH]
  ·simp [q1,q2,jH,jQ,p2,h3,zH]
 ·simp [q1,jH]
theorem eql141 (ox oy:Operand) (a b c e:Int):yW Tryz.prog tb .eql 141 ox oy (.agg [iv a,iv b]) (.agg [iv c,iv e])=some (.val (.bool (decide (a=c) && decide (b=e)))):=by
 have h:=eqi141 9998 a b c e;have hq:qM Tryz.prog (Op.equal 141 (.agg #[.int .i64 a,.int .i64 b]) (.agg #[.int .i64 c,.int .i64 e]))=some (decide (a=c) && decide (b=e)):=h;have h1:Tryz.prog.eqGuardType Tryz.prog.depth 141=false:=by kernel_rfl
 have hg:qM Tryz.prog (eqGuard .eql 141 ox oy (.agg #[.int .i64 a,.int .i64 b]) (.agg #[.int .i64 c,.int .i64 e]))=some ():=by
  simp [eqGuard,jQ,jH,vP,zH,h1]
 simp only [yW,toVal,toVals,jQ,hg,xZU,binOp,hq,jH]
theorem bd141 (a b:Int):vJ tb 141 [(0,iv a),(1,iv b)]=some (.agg [iv a,iv b]):=by kernel_rfl
theorem dsym (a b:Int):decide (a=b)=decide (b=a):=decide_eq_decide.2 ⟨Eq.symm,Eq.symm⟩
def uQ (l:List (Int×Int)) (r c:Int):Bool:=l.any fun p=>decide (r=p.1) && decide (c=p.2)
structure Plc (xt:Addr->Option Value) (h:Hp) (v:AV) (l:List (Int×Int)):Prop where
 row:RowAt xt h 2 v (l.map p2)
 lt:l.length<=9223372036854775807
theorem Plc.fr {xt:Addr->Option Value} {h h':Hp} {v:AV} {l:List (Int×Int)} (a:Plc xt h v l) {n:Nat} (f:Fr n h h') (hn:h.n<=n):Plc xt h' v l:=⟨a.row.fr f hn,a.lt⟩
theorem Plc.up {xt:Addr->Option Value} {h:Hp} {v:AV} {l:List (Int×Int)} (a:Plc xt h v l) {n:Nat} (hn:h.n<=n):Plc xt (h.up n) v l:=⟨a.row.up hn,a.lt⟩
theorem Plc.len {xt:Addr->Option Value} {h:Hp} {v:AV} {l:List (Int×Int)} (a:Plc xt h v l) (h':Hp):vF tb h' 25 v=some l.length:=by
 have:=a.row.len (h':=h') pM rfl;simpa using this
theorem Mp.At.plc {m:Mp} {xt:Addr->Option Value} {h:Hp} (a:m.At xt h):Plc xt h m.vp m.ps:=⟨a.ps,a.lp⟩
theorem ft199 (xt:Addr->Option Value):(SE xt).ft.get 199=some Tryz.f199:=by kernel_rfl
theorem res199:Tryz.f199.results.toList=[.tmp 4]:=by kernel_rfl
theorem idx199_c (xt:Addr->Option Value) (h:Hp) (v:AV) (l:List (Int×Int)) (hl:Plc xt h v l) (r c:Int):FnA (SE xt) 199 [v,.agg [iv r,iv c]] h (fun res h'=>(∃k:Int,res= .ret (iv k)/\decide (0<=k)=uQ l r c)/\Fr h.n h h'):=by
 refine xZO (sok xt) (ft199 xt) rfl 19 rfl ?_;have hlen:=hl.len;have hlt:=hl.lt;have onev:=hl.row.one;refine qA fun K hn hp=> ?_;simp only [sw.1,rE,reduceIte,rL];apply hn;obtain ⟨h1,hh1⟩: ∃h1:Hp,h1=h.new (.cells [iv r,iv c] 141):=⟨_,rfl⟩;rw [<-hh1];have nh1:h1.n=h.n+1:=by rw [hh1];rfl
 have sh1:h1.t.get h.n=some (.cells [iv r,iv c] 141):=by rw [hh1];exact qX _ _
 have kh1: ∀k,k<h.n->h1.t.get k=h.t.get k:=fun k hk=>by rw [hh1];exact qW _ _ hk
 have fbh1:Fr h.n h h1:=by rw [hh1];exact (xZL (xZY _)).new _
 have fh1:=fbh1;have hl1:=hl.fr fh1 (xZY _);refine qE ?_;refine qA fun K hn hp=> ?_;simp only [sy.1,rE,reduceIte,rL,syw.1,hlen];apply hn;refine qF fun KA A1 A2 A3 A4 A5=> ?_;refine qS (sok xt) (fun st=> ∃(i:Nat) (tm:T AV),st=⟨tm,19,h1,[]⟩/\i<=l.length/\tm.get 0=some (v)/\tm.get 3=some (.ptr h.n 0)/\tm.get 7=some (iv l.length)/\tm.get 8=some (iv i)/\ ∀x∈l.take i,(decide (r=x.1) && decide (c=x.2))=false) (fun st=>l.length - (match st.tm.get 8 with|some (.val (.int _ n))=>n.toNat|_=>0)) ?_ ?_
 ·rintro st ⟨i,tm,rfl,hkA,g0,g3,g7,g8,hall⟩;have muA:=g8;refine qA fun K hn hp=> ?_;simp only [sy.1,rL,jR,g7,g8];apply hn;by_cases hi:i<l.length
  ·refine qC true (by simp only [sy.1,reduceIte,hi]) (fun _=> ?_) (fun hx=>by cases hx);obtain ⟨⟨a,b⟩,hx⟩: ∃x,l[i]? =some x:=⟨_,xZV hi⟩;have i1:=hl1.row.idx pM rfl v6 rfl (i:=i) (by simpa using hi) (k:= .i64);have i2:=hl1.row.loadA v6 rfl rfl (i:=i) (c:=Kn.p2 (a,b)) (by rw [xZX,hx];rfl);simp only [Kn.p2,List.map_cons,List.map_nil] at i2;refine qI ?_;refine qF fun KB B1 B2 B3 B4 B5=> ?_;refine qA fun K hn hp=> ?_;simp only [sy.1,rE,reduceIte,rL,g8];apply hn;refine yM (sok xt) 6 (by kernel_rfl) fun K hn hp=> ?_;simp only [sy.1,rE,reduceIte,rL,rA,sh1,g0,g3,i1,i2,eql141];apply hn;cases q:(decide (r=a) && decide (c=b))
   ·refine qH false (by simp only [sy.1,rE,reduceIte]) (fun hx=>by cases hx) (fun _=> ?_);refine qY (B1 _ ?_);refine reg fun K hn hp=> ?_;simp only [sy.1,rE,reduceIte,rL,g8,qQ hi hlt];apply hn;refine ⟨⟨i+1,_,rfl,by omega,(by simp [xZZ,g0]),(by simp [xZZ,g3]),(by simp [xZZ,g7]),(by simp [xZZ]),?_⟩,by simpa [xZZ,muA] using (by omega:l.length - (i+1)<l.length - i)⟩;rw [xZR,hx];intro y hy;simp only [xZW,xZP,xZQ] at hy;rcases hy with hy|rfl
    ·exact hall y hy
    ·exact q
   ·refine qH true (by simp only [sy.1,rE,reduceIte]) (fun _=> ?_) (fun hx=>by cases hx);refine qA fun K hn hp=> ?_;simp only [sy.1,rE,reduceIte,rL];apply hn;refine qD (B4 _ (A4 _ (qK res199 ⟨⟨(i:Int),?_,?_⟩,fh1⟩)))
    ·simp [xZZ]
    ·rw [decide_eq_true (by omega)];exact (xZJ.2 ⟨_,xZS hx,q⟩).symm
  ·refine qC false (by simp only [sy.1,reduceIte,hi]) (fun hx=>by cases hx) (fun _=> ?_);refine qR (A2 _ ?_);refine qA fun K hn hp=> ?_;simp only [sy.1,rL];apply hn;refine qD (qK res199 ⟨⟨-1,?_,?_⟩,fh1⟩)
   ·simp [xZZ]
   ·obtain rfl:i=l.length:=by omega
    rw [xZT (xZY _)] at hall;have:uQ l r c=false:=by
     unfold uQ;rw [xZM];intro x hx;simpa using hall x hx
    rw [this];rfl
 ·exact ⟨0,_,rfl,(by omega),(by simp [xZZ]),(by simp [xZZ]),(by simp [xZZ]),(by simp [xZZ]),fun x hx=>by simp at hx⟩
theorem ft164 (xt:Addr->Option Value):(SE xt).ft.get 164=some Tryz.f164:=by kernel_rfl
theorem res164:Tryz.f164.results.toList=[.tmp 4]:=by kernel_rfl
theorem has164_c (xt:Addr->Option Value) (h:Hp) (v:AV) (l:List (Int×Int)) (hl:Plc xt h v l) (r c:Int) {K:CR->Hp->Prop} (hk: ∀n,h.n<n->K (.ret (.val (.bool (uQ l r c)))) (h.up n)):FnA (SE xt) 164 [v,.agg [iv r,iv c]] h K:=by
 refine xZK ?_ hk;clear hk K;refine xZO (sok xt) (ft164 xt) rfl 9 rfl ?_;have onev:=hl.row.one;refine qA fun K hn hp=> ?_;simp only [sw.1,rE,reduceIte,rL];apply hn;obtain ⟨h1,hh1⟩: ∃h1:Hp,h1=h.new (.cells [iv r,iv c] 141):=⟨_,rfl⟩;rw [<-hh1];have nh1:h1.n=h.n+1:=by rw [hh1];rfl
 have sh1:h1.t.get h.n=some (.cells [iv r,iv c] 141):=by rw [hh1];exact qX _ _
 have kh1: ∀k,k<h.n->h1.t.get k=h.t.get k:=fun k hk=>by rw [hh1];exact qW _ _ hk
 have fbh1:Fr h.n h h1:=by rw [hh1];exact (xZL (xZY _)).new _
 have fh1:=fbh1;refine qA fun K hn hp=> ?_;simp only [sy.1,rE,reduceIte,rL,rA,sh1];refine qB (sok xt) (FnA.mono (idx199_c xt h1 v l (hl.fr fh1 (xZY _)) r c) fun res h2 hres=> ?_);obtain ⟨⟨k,rfl,hk⟩,f2⟩:=hres;simp only [sy.1,rE,reduceIte,rL,hk];refine hn _ _ (qD (qK res164 ⟨?_,fh1.trans f2 (by omega)⟩));simp [xZZ]
def Mp.bare (m:Mp) (r c:Int):Bool:=m.is r c 2 && !uQ m.ps r c
theorem ft94 (xt:Addr->Option Value):(SE xt).ft.get 94=some Tryz.f94:=by kernel_rfl
theorem res94:Tryz.f94.results.toList=[.tmp 6]:=by kernel_rfl
theorem bare_c (xt:Addr->Option Value) (h:Hp) (m:Mp) (ha:m.At xt h) (hr:m.Rect) (r c:Int) {K:CR->Hp->Prop} (hk: ∀n,h.n<n->K (.ret (.val (.bool (m.bare r c)))) (h.up n)):FnA (SE xt) 94 [m.av,iv r,iv c] h K:=by
 refine xZK ?_ hk;clear hk K;refine xZO (sok xt) (ft94 xt) rfl 20 rfl ?_;obtain ⟨o1,o2,o3,o4,o5⟩:=ha.wk.ones;refine qA fun K hn hp=> ?_;simp only [sw.1,rE,reduceIte,rL,rA];apply hn;obtain ⟨h1,hh1⟩: ∃h1:Hp,h1=h.new (.cells m.cs 27):=⟨_,rfl⟩;rw [<-hh1];have nh1:h1.n=h.n+1:=by rw [hh1];rfl
 have sh1:h1.t.get h.n=some (.cells m.cs 27):=by rw [hh1];exact qX _ _
 have kh1: ∀k,k<h.n->h1.t.get k=h.t.get k:=fun k hk=>by rw [hh1];exact qW _ _ hk
 have fbh1:Fr h.n h h1:=by rw [hh1];exact (xZL (xZY _)).new _
 have fh1:=fbh1;have ha1:=ha.fr fh1 (xZY _);refine qA fun K hn hp=> ?_;simp only [sy.1,rE,reduceIte,rL,rA,sh1];refine qB (sok xt) (is_c xt h1 m ha1 hr r c 2 fun n1 hn1=> ?_);cases q:m.is r c 2
 ·simp only [sy.1,rE,reduceIte,rL];refine hn _ _ (qD (qK res94 ⟨?_,fh1.up (by omega)⟩));simp [xZZ,Mp.bare,q]
 ·simp only [sy.1,rE,reduceIte,rL,sh1,bd141];refine qB (sok xt) (has164_c xt (h1.up n1) m.vp m.ps (ha1.plc.up (by omega)) r c fun n2 hn2=> ?_);simp only [Hp.up_n] at hn2;simp only [sy.1,rE,reduceIte,rL,xZN];refine hn _ _ (qD (qK res94 ⟨?_,fh1.up (by omega)⟩));simp [xZZ,Mp.bare,q]
theorem ft107 (xt:Addr->Option Value):(SE xt).ft.get 107=some Tryz.f107:=by kernel_rfl
theorem res107:Tryz.f107.results.toList=[.tmp 6]:=by kernel_rfl
theorem qCe (xt:Addr->Option Value) (h:Hp) (m:Mp) (ha:m.At xt h) (r c:Int) {K:CR->Hp->Prop} (hk: ∀n,h.n<n->K (.ret (.val (.bool (uQ m.ps r c)))) (h.up n)):FnA (SE xt) 107 [m.av,iv r,iv c] h K:=by
 refine xZK ?_ hk;clear hk K;refine xZO (sok xt) (ft107 xt) rfl 24 rfl ?_;obtain ⟨o1,o2,o3,o4,o5⟩:=ha.wk.ones;have hlen:=ha.plc.len;have hlt:=ha.lp;refine qA fun K hn hp=> ?_;simp only [sw.1,rE,reduceIte,rL,rA];apply hn;obtain ⟨h1,hh1⟩: ∃h1:Hp,h1=h.new (.cells m.cs 27):=⟨_,rfl⟩;rw [<-hh1];have nh1:h1.n=h.n+1:=by rw [hh1];rfl
 have sh1:h1.t.get h.n=some (.cells m.cs 27):=by rw [hh1];exact qX _ _
 have kh1: ∀k,k<h.n->h1.t.get k=h.t.get k:=fun k hk=>by rw [hh1];exact qW _ _ hk
 have fbh1:Fr h.n h h1:=by rw [hh1];exact (xZL (xZY _)).new _
 have fh1:=fbh1;have ha1:=ha.fr fh1 (xZY _);refine qE ?_;refine qA fun K hn hp=> ?_;simp only [sy.1,rL];apply hn;refine qF fun KA A1 A2 A3 A4 A5=> ?_;refine qS (sok xt) (fun st=> ∃(i:Nat) (tm:T AV),st=⟨tm,24,h1,[]⟩/\i<=m.ps.length/\tm.get 1=some (iv r)/\tm.get 2=some (iv c)/\tm.get 3=some (.ptr h.n 0)/\tm.get 7=some (iv i)/\ ∀x∈m.ps.take i,(decide (x.1=r) && decide (x.2=c))=false) (fun st=>m.ps.length - (match st.tm.get 7 with|some (.val (.int _ n))=>n.toNat|_=>0)) ?_ ?_
 ·rintro st ⟨i,tm,rfl,hkA,g1,g2,g3,g7,hall⟩;have muA:=g7;refine qE ?_;refine qA fun K hn hp=> ?_;simp only [sy.1,rE,reduceIte,rL,syw.1,hlen,jR,sh1,g3,g7];apply hn;by_cases hi:i<m.ps.length
  ·refine qC true (by simp only [sy.1,rE,reduceIte,hi]) (fun _=> ?_) (fun hx=>by cases hx);obtain ⟨⟨a,b⟩,hx⟩: ∃x,m.ps[i]? =some x:=⟨_,xZV hi⟩;have i1:=ha1.ps.idx pM rfl v6 rfl (i:=i) (by simpa using hi) (k:= .i64);have i2:=ha1.ps.loadA v6 rfl rfl (i:=i) (c:=Kn.p2 (a,b)) (by rw [xZX,hx];rfl);simp only [Kn.p2,List.map_cons,List.map_nil] at i2;refine qI ?_;refine qF fun KB B1 B2 B3 B4 B5=> ?_;refine qA fun K hn hp=> ?_;simp only [sy.1,rE,reduceIte,rL,sh1,g1,g2,g3,g7,i1,i2,bd141,eql141];apply hn;cases q:(decide (a=r) && decide (b=c))
   ·refine qH false (by simp only [sy.1,rE,reduceIte]) (fun hx=>by cases hx) (fun _=> ?_);refine qY (B1 _ ?_);refine reg fun K hn hp=> ?_;simp only [sy.1,rE,reduceIte,rL,g7,qQ hi hlt];apply hn;refine ⟨⟨i+1,_,rfl,by omega,(by simp [xZZ,g1]),(by simp [xZZ,g2]),(by simp [xZZ,g3]),(by simp [xZZ]),?_⟩,by simpa [xZZ,muA] using (by omega:m.ps.length - (i+1)<m.ps.length - i)⟩;rw [xZR,hx];intro y hy;simp only [xZW,xZP,xZQ] at hy;rcases hy with hy|rfl
    ·exact hall y hy
    ·exact q
   ·refine qH true (by simp only [sy.1,rE,reduceIte]) (fun _=> ?_) (fun hx=>by cases hx);refine qA fun K hn hp=> ?_;simp only [sy.1,rL];apply hn;refine qD (B4 _ (A4 _ (qK res107 ⟨?_,fh1⟩)));have:uQ m.ps r c=true:=xZJ.2 ⟨_,xZS hx,by show (decide (r=a) && decide (c=b))=true;rw [dsym r,dsym c];exact q⟩;simp [xZZ,this]
  ·refine qC false (by simp only [sy.1,rE,reduceIte,hi]) (fun hx=>by cases hx) (fun _=> ?_);refine qR (A2 _ ?_);refine qA fun K hn hp=> ?_;simp only [sy.1,rL];apply hn;refine qD (qK res107 ⟨?_,fh1⟩);obtain rfl:i=m.ps.length:=by omega
   rw [xZT (xZY _)] at hall;have:uQ m.ps r c=false:=by
    unfold uQ;rw [xZM];intro x hx;have:=hall x hx;rw [dsym x.1,dsym x.2] at this;rw [this]
    decide
   simp [xZZ,this]
 ·exact ⟨0,_,rfl,(by omega),(by simp [xZZ]),(by simp [xZZ]),(by simp [xZZ]),(by simp [xZZ]),fun x hx=>by simp at hx⟩
end Go.Proofs.Kn
namespace Go.Proofs.Kn
open Go Go.Ev
set_option maxRecDepth 100000
set_option maxHeartbeats 4000000
def Mp.holes (m:Mp) (l:List (Int×Int)):Bool:=l.all (fun p=>decide (m.rc p.1 p.2=2) && !uQ m.ps p.1 p.2) && decide ((l.length:Int)<=m.H)
theorem ft45 (xt:Addr->Option Value):(SE xt).ft.get 45=some Tryz.f45:=by kernel_rfl
theorem res45:Tryz.f45.results.toList=[.tmp 4]:=by kernel_rfl
theorem rholes_c (xt:Addr->Option Value) (h:Hp) (m:Mp) (ha:m.At xt h) (v:AV) (l:List (Int×Int)) (hl:Plc xt h v l) {K:CR->Hp->Prop} (hk: ∀n,h.n<n->K (.ret (.val (.bool (m.holes l)))) (h.up n)):FnA (SE xt) 45 [m.av,v] h K:=by
 refine xZK ?_ hk;clear hk K;refine xZO (sok xt) (ft45 xt) rfl 44 rfl ?_;obtain ⟨o1,o2,o3,o4,o5⟩:=ha.wk.ones;have hlen:=hl.len;have hlt:=hl.lt;refine qA fun K hn hp=> ?_;simp only [sw.1,rE,reduceIte,rL];apply hn;clear hn hp K;obtain ⟨h1,hh1⟩: ∃h1:Hp,h1=h.new (.cells m.cs 27):=⟨_,rfl⟩;rw [<-hh1];have nh1:h1.n=h.n+1:=by rw [hh1];rfl
 have sh1:h1.t.get h.n=some (.cells m.cs 27):=by rw [hh1];exact qX _ _
 have kh1: ∀k,k<h.n->h1.t.get k=h.t.get k:=fun k hk=>by rw [hh1];exact qW _ _ hk
 have fbh1:Fr h.n h h1:=by rw [hh1];exact (xZL (xZY _)).new _
 have fh1:=fbh1;have ha1:=ha.fr fh1 (xZY _);have hl1:=hl.fr fh1 (xZY _);refine qE ?_;refine qA fun K hn hp=> ?_;simp only [sy.1,rL];apply hn;clear hn hp K;refine qF fun KA A1 A2 A3 A4 A5=> ?_;refine qS (sok xt) (fun st=> ∃(i:Nat) (n:Nat) (tm:T AV),st=⟨tm,44,h1.up n,[]⟩/\i<=l.length/\tm.get 1=some (v)/\tm.get 2=some (.ptr h.n 0)/\tm.get 5=some (iv i)/\h1.n<=n/\ ∀x∈l.take i,(decide (m.rc x.1 x.2=2) && !uQ m.ps x.1 x.2)=true) (fun st=>l.length - (match st.tm.get 5 with|some (.val (.int _ n))=>n.toNat|_=>0)) ?_ ?_
 ·rintro st ⟨i,n,tm,rfl,hkA,g1,g2,g5,hn,hall⟩;have muA:=g5;refine qE ?_;refine qA fun K hn hp=> ?_;simp only [sy.1,rE,reduceIte,rL,syw.1,hlen,jR,g1,g5];apply hn;clear hn hp K;by_cases hi:i<l.length
  ·refine qC true (by simp only [sy.1,rE,reduceIte,hi]) (fun _=> ?_) (fun hx=>by cases hx);obtain ⟨⟨a,b⟩,hx⟩: ∃x,l[i]? =some x:=⟨_,xZV hi⟩;have hlu:=hl1.up hn;have i1:=hlu.row.idx pM rfl v6 rfl (i:=i) (by simpa using hi) (k:= .i64);have i2:=hlu.row.load tg3 rfl (i:=i) (j:=0) (c:=Kn.p2 (a,b)) (u:= .int .i64 a) (by rw [xZX,hx];rfl) rfl;have i3:=hlu.row.load tg3 rfl (i:=i) (j:=1) (c:=Kn.p2 (a,b)) (u:= .int .i64 b) (by rw [xZX,hx];rfl) rfl;have f0:=hlu.row.fa (by intro e;simp at e;rw [e] at hi;simp at hi) v6 rfl (f:=0) rfl (i*2);have f1:=hlu.row.fa (by intro e;simp at e;rw [e] at hi;simp at hi) v6 rfl (f:=1) rfl (i*2);have j2:=hl1.row.load tg3 rfl (i:=i) (j:=0) (c:=Kn.p2 (a,b)) (u:= .int .i64 a) (by rw [xZX,hx];rfl) rfl;have j3:=hl1.row.load tg3 rfl (i:=i) (j:=1) (c:=Kn.p2 (a,b)) (u:= .int .i64 b) (by rw [xZX,hx];rfl) rfl;simp only [Nat.add_zero] at i2 f0 j2;refine qI ?_;refine qF fun KB B1 B2 B3 B4 B5=> ?_;have no:(decide (m.rc a b=2) && !uQ m.ps a b)=false->m.holes l=false:=fun e=>by
    unfold Mp.holes;have:(l.all fun p=>decide (m.rc p.1 p.2=2) && !uQ m.ps p.1 p.2)=false:=by
     rw [List.all_eq_false];exact ⟨_,xZS hx,by simpa using e⟩
    rw [this];rfl
   refine uU (sok xt) 0 0 25 [] (by kernel_rfl) fun K hn' hp=> ?_;simp only [sy.1,rE,reduceIte,rL,rA,syw.1,sh1,g1,g2,g5,i1,j2,j3,f0,f1];refine qB (sok xt) (rc_c xt (h1.up n) m (ha1.up hn) a b fun n5 hn5=> ?_);simp only [Hp.up_n] at hn5;cases c1:decide (m.rc a b=2)
   ·simp only [sy.1,rE,reduceIte,rL,rA,syw.1,c1,xZN,hn5];refine hn' _ _ ?_;clear hn' hp K;refine qH true (by simp only [sy.1,rE,reduceIte]) (fun _=> ?_) (fun hx=>by cases hx);refine qA fun K hn hp=> ?_;simp only [sy.1,rL];apply hn;clear hn hp K;refine qD (B4 _ (A4 _ (qK res45 ⟨?_,fh1.up (by omega)⟩)));simp [xZZ,no (by simp [c1])]
   ·simp only [sy.1,rE,reduceIte,rL,rA,syw.1,sh1,g1,g2,g5,i1,j2,j3,f0,f1,c1,xZN,hn5];refine qB (sok xt) (qCe xt (h1.up n5) m (ha1.up (by omega)) a b fun n6 hn6=> ?_);simp only [Hp.up_n] at hn6;cases c2:uQ m.ps a b
    ·simp only [sy.1,rE,reduceIte,rL,xZN];refine hn' _ _ ?_;clear hn' hp K;refine qH false (by simp only [sy.1,rE,reduceIte]) (fun hx=>by cases hx) (fun _=> ?_);refine qY (B1 _ ?_);refine reg fun K hn hp=> ?_;simp only [sy.1,rE,reduceIte,rL,g5,qQ hi hlt];apply hn;clear hn hp K;refine ⟨⟨i+1,n6,_,rfl,by omega,(by simp [xZZ,g1]),(by simp [xZZ,g2]),(by simp [xZZ]),by omega,?_⟩,by simpa [xZZ,muA] using (by omega:l.length - (i+1)<l.length - i)⟩;rw [xZR,hx];intro y hy;simp only [xZW,xZP,xZQ] at hy;rcases hy with hy|rfl
     ·exact hall y hy
     ·rw [c1,c2];rfl
    ·simp only [sy.1,rE,reduceIte,rL,xZN];refine hn' _ _ ?_;clear hn' hp K;refine qH true (by simp only [sy.1,rE,reduceIte]) (fun _=> ?_) (fun hx=>by cases hx);refine qA fun K hn hp=> ?_;simp only [sy.1,rL];apply hn;clear hn hp K;refine qD (B4 _ (A4 _ (qK res45 ⟨?_,fh1.up (by omega)⟩)));simp [xZZ,no (by simp [c2])]
  ·refine qC false (by simp only [sy.1,rE,reduceIte,hi]) (fun hx=>by cases hx) (fun _=> ?_);refine qR (A2 _ ?_);obtain rfl:i=l.length:=by omega
   rw [xZT (xZY _)] at hall;have e:(l.all fun p=>decide (m.rc p.1 p.2=2) && !uQ m.ps p.1 p.2)=true:=List.all_eq_true.2 hall;refine qA fun K hn hp=> ?_;simp only [sy.1,rE,reduceIte,rL,syw.1,hlen,sh1,g1,g2];apply hn;clear hn hp K;refine qD (qK res45 ⟨?_,fh1.up hn⟩);simp [xZZ,Mp.holes,e]
 ·exact ⟨0,h1.n,_,rfl,(by omega),(by simp [xZZ]),(by simp [xZZ]),(by simp [xZZ]),xZY _,fun x hx=>by simp at hx⟩
end Go.Proofs.Kn
namespace Go.Proofs.Kn
open Go Go.Ev
set_option maxRecDepth 100000
set_option maxHeartbeats 4000000
end Go.Proofs.Kn
namespace Go.Proofs.Kn
open Go Go.Ev
set_option maxRecDepth 100000
set_option maxHeartbeats 4000000
def Wk.hit1 (w:Wk) (s:Int×Int×Int) (p:Int×Int):Bool:=gP s.1.toNat s.2.1.toNat (w.tb s.2.2.toNat).1.toNat p.1 p.2
def Wk.hit (w:Wk) (hs:List (Int×Int)) (s:Int×Int×Int):Bool:=hs.any (w.hit1 s)
def Wk.left (w:Wk) (hs:List (Int×Int)) (ls:List (Int×Int×Int)):List (Int×Int×Int):=ls.filter fun s=> !w.hit hs s
theorem V_bd {w:Wk} (his:w.Is) {G:Th.Grid} (hb:w.m.bnd=some G): ∀ls:List (Int×Int×Int),(∀s∈ls,w.Blk s)->0<=w.V G ls/\w.V G ls<=6500*ls.length
 |[],_=>by simp [Wk.V]
 |s::l,h=>by
  have h1:=his.lv_bd hb (h s List.mem_cons_self);have h2:=V_bd his hb l fun x hx=>h x (List.mem_cons_of_mem _ hx);simp only [Wk.V,List.length_cons];omega
theorem left_succ (w:Wk) (hs:List (Int×Int)) {ls:List (Int×Int×Int)} {i:Nat} {s:Int×Int×Int} (hx:ls[i]? =some s) (G:Th.Grid):w.V G (w.left hs (ls.take (i+1)))=w.V G (w.left hs (ls.take i))+(if w.hit hs s=true then 0 else w.lv G s):=by
 rw [xZR,hx];simp only [Wk.left,xZW,List.filter_append,Wk.V_app];cases e:w.hit hs s<;>simp [Wk.V,e]
theorem left_len (w:Wk) (hs:List (Int×Int)) (ls:List (Int×Int×Int)):(w.left hs ls).length<=ls.length:=List.length_filter_le _ _
end Go.Proofs.Kn
