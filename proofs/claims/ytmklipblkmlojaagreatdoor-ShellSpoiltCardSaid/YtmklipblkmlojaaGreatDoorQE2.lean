/- Parts of the proof, joined by a program. -/
import Derived.Test.YtmklipblkmlojaaGreatDoorQE1
import Derived.Test.YtmklipblkmlojaaGreatDoorQD
import Derived.Test.YtmklipblkmlojaaGreatDoorQS8
set_option linter.all false
open Nat renaming reduceEqDiff → rE, reduceLeDiff → rD, reduceAdd → rA, reduceMul → rM, reduceLT → rL
open Go.Ev.T renaming get_put → xZZ
open Nat renaming le_refl → xZY, le_of_lt → xZW, mul_le_mul_right → xZS
open And renaming intro → xZX
open List renaming getElem?_eq_getElem → xZV, mem_nil_iff → xZU, mem_cons → xZR, length_cons → xZM, length_map → xZL, take_length → xZJ, getElem_mem → xZI
open Bool renaming and_eq_true → xZT, false_eq_true → xZP
open Go.Ev.Fr renaming refl → xZQ
open Go.Ev.FnA renaming walk → xZO, calm → xZN
open Go.Ev.Hp renaming up_n → xZK, set_t → xZH
namespace Go.Proofs.Kn
open Go Go.Ev
set_option maxRecDepth 100000
theorem tg9:tb.get 9=some te9:=by kernel_rfl
theorem uI:tb.get 96=some te96:=by kernel_rfl
theorem tg21:tb.get 21=some te21:=by kernel_rfl
theorem ld9 (xt:Addr->Option Value) (h:Hp) (b off:Nat):qW tb xt h 9 (.ptr b off)=jV (h.t.get b) off:=yR tg9 rfl
theorem st9 (h:Hp) (b off:Nat) (v:AV):jP tb h 9 (.ptr b off) v=jL 1 h b off v (h.t.get b):=zS tg9 rfl
theorem al9 (h:Hp):j7 tb h 9=some (.ptr h.n 0,h.new (.cells ([sv []]) 9)):=yH (zs:=[.string (bs [])]) tg9 rfl
theorem len9 (h:Hp) (a:List UInt8):vN tb h 9 (sv a)=some a.length:=alen_s tg9 rfl a
theorem rng9 (h:Hp) (a:List UInt8):gG tb h 9 (sv a)=some (.ptr h.n 0,h.new (.siter (bs a) 0)):=aoRange_s tg9 rfl a
theorem cv213 (h:Hp) (n:Int):wU tb h 21 3 (.val (.int .i32 n))=some (iv (IntKind.i64.wrap n)):=bK tg21 tg3 rfl n
theorem WOp_range {E:Env} {dst:Option Tmp} {ty:TypeId} {ps:String} {af:Array Edge} {g:Option (Nat×Bool)} {tm:T AV} {h:Hp} {K:OR->Prop} {t:TypeId} {x:Operand}:WOp E ⟨dst,.range t x,ty,ps,af,g⟩ tm h K=pA (gG E.tb h t (qH tm x)) K:=by simp only [WOp,jS,aop]
theorem WOp_next {E:Env} {dst:Option Tmp} {ty:TypeId} {ps:String} {af:Array Edge} {g:Option (Nat×Bool)} {tm:T AV} {h:Hp} {K:OR->Prop} {b:Bool} {x:Operand}:WOp E ⟨dst,.next x b,ty,ps,af,g⟩ tm h K=pA (bI h (qH tm x) b) K:=by simp only [WOp,jS,aop]
theorem aext_v (vs:Array Value) (i:Nat):zL (.val (.tuple vs)) i=(vs.toList[i]?).map AV.val:=by
 simp only [zL];cases vs.toList[i]? <;>rfl
theorem sv_fold (l:List UInt8):AV.val (.string ⟨l.toArray⟩)=sv l:=rfl
noncomputable def svn:=PLift.up (xZX @ld9 (xZX @st9 (xZX @al9 (xZX @len9 (xZX @rng9 (xZX @cv213 (xZX @WOp_range (xZX @WOp_next (xZX @aext_v (xZX @sv_fold (xZX @sv_cells (xZX @sv_one (xZX @abin_eqs (xZX @abin_nes (xZX @WOp_conv (xZX @WOp_iface @WOp_panic))))))))))))))))
theorem ft93 (xt:Addr->Option Value):(SE xt).ft.get 93=some Tryz.f93:=by kernel_rfl
theorem bd162 (a:List UInt8):vZ tb 162 [(0,sv a)]=some (.agg [sv a]):=by kernel_rfl
theorem if162 (h:Hp) (v:AV):qCj tb h 162 v=some (.ifc 162 v,h):=by kernel_rfl
def kQ (w:List UInt8):AV:= .ifc 162 (.agg [sv w])
theorem zU (xt:Addr->Option Value) (h:Hp) (b:Bool) (w:List UInt8) {K:CR->Hp->Prop} (h1:b=true-> ∀n,h.n<n->K (.ret (.tup [])) (h.up n)) (h2:b=false-> ∀n,h.n<n->K (.pan (kQ w)) (h.up n)):FnA (SE xt) 93 [.val (.bool b),sv w] h K:=by
 cases b with
 |true=>
  refine xZN (v:= .ret (.tup [])) ?_ (h1 rfl);refine xZO (sok xt) (ft93 xt) rfl 9 rfl ?_;refine qA fun K hn hp=> ?_;simp only [sw.1,rE,reduceIte,rL,rA,rM,rD,svn.down];apply hn;refine qT false (by simp only [sw.1,rE,reduceIte,rL,rA,rM,rD,svn.down]) (fun hx=>by cases hx) (fun _=> ?_);exact ⟨h,[],rfl,rfl,rfl,xZQ (xZY _)⟩
 |false=>
  refine xZN (v:= .pan (kQ w)) ?_ (h2 rfl);refine xZO (sok xt) (ft93 xt) rfl 9 rfl ?_;refine qA fun K hn hp=> ?_;simp only [sw.1,rE,reduceIte,rL,rA,rM,rD,svn.down];apply hn;refine qT true (by simp only [sw.1,rE,reduceIte,rL,rA,rM,rD,svn.down]) (fun _=> ?_) (fun hx=>by cases hx);refine reg fun K hn hp=> ?_;simp only [sw.1,rE,reduceIte,rL,rA,rM,rD,svn.down,bd162,if162,panK_ifc];refine hp _ _ _ ⟨h,rfl,rfl,xZQ (xZY _)⟩
theorem ft87s (xt:Addr->Option Value):(SE xt).ft.get 87=some Tryz.f87:=by kernel_rfl
theorem res87s:Tryz.f87.results.toList=[.tmp 2]:=by kernel_rfl
def uD (b:Bool):List UInt8:=if b then [100,111,119,110] else [114,105,103,104,116]
theorem way_c (xt:Addr->Option Value) (h:Hp) (b:Bool) {K:CR->Hp->Prop} (hk: ∀n,h.n<n->K (.ret (sv (uD b))) (h.up n)):FnA (SE xt) 87 [.val (.bool b)] h K:=by
 refine xZN ?_ hk;clear hk K;refine xZO (sok xt) (ft87s xt) rfl 4 rfl ?_;refine qA fun K hn hp=> ?_;simp only [sw.1,rE,reduceIte,rL,rA,rM,rD,svn.down];apply hn;refine qL ?_;refine qA fun K hn hp=> ?_;simp only [sw.1,rE,reduceIte,rL,rA,rM,rD,svn.down];apply hn;cases b with
 |true=>
  refine qF true (by simp only [sw.1,rE,reduceIte,rL,rA,rM,rD,svn.down]) (fun _=> ?_) (fun hx=>by cases hx);refine qL ?_;refine qA fun K hn hp=> ?_;simp only [sw.1,rE,reduceIte,rL,rA,rM,rD,svn.down];apply hn;refine zF (jB res87s ⟨?_,xZQ (xZY _)⟩);simp [xZZ,uD]
 |false=>
  refine qF false (by simp only [sw.1,rE,reduceIte,rL,rA,rM,rD,svn.down]) (fun hx=>by cases hx) (fun _=> ?_);refine qV ?_;refine qA fun K hn hp=> ?_;simp only [sw.1,rE,reduceIte,rL,rA,rM,rD,svn.down];apply hn;refine qJ (jB res87s ⟨?_,xZQ (xZY _)⟩);simp [xZZ,uD]
end Go.Proofs.Kn
namespace Go.Proofs.Kn
open Go Go.Ev
set_option maxRecDepth 100000
theorem ft94 (xt:Addr->Option Value):(SE xt).ft.get 94=some Tryz.f94:=by kernel_rfl
theorem res94:Tryz.f94.results.toList=[.tmp 2,.tmp 3]:=by kernel_rfl
abbrev marksL:List UInt8:=[46,35,111]
def rv (n:Int):AV:= .val (.int .i32 n)
def yU (c:Int):Option Int:=if c=46 then some 1 else if c=35 then some 2 else if c=111 then some 3 else none
theorem mk_dec (k:Nat) (hk:k<3):Utf8.decode (bs marksL) k=((marksL.getD k 0).toNat,1):=by
 have: ∀k:Fin 3,Utf8.decode (bs marksL) k.val=((marksL.getD k.val 0).toNat,1):=by decide+kernel
 exact this ⟨k,hk⟩
theorem bd209:vZ tb 209 [(0,iv 1),(1,iv 2),(2,iv 3)]=some (.agg [iv 1,iv 2,iv 3]):=by kernel_rfl
theorem ix209 (k:Nat) (hk:k<3):uA tb 209 (.agg [iv 1,iv 2,iv 3]) (iv k)=some (iv ((k:Int)+1)):=by
 rcases (by omega:k=0\/k=1\/k=2) with rfl|rfl|rfl<;>kernel_rfl
theorem cellP_at (k:Nat) (hk:k<3):yU ((marksL.getD k 0).toNat:Int)=some ((k:Int)+1):=by
 match k,hk with
 |0,_=>decide
 |1,_=>decide
 |2,_=>decide
theorem cellOf_c (xt:Addr->Option Value) (h:Hp) (c:Int) {K:CR->Hp->Prop} (hk: ∀n,h.n<n->K (.ret (.tup [iv ((yU c).getD 0),.val (.bool (yU c).isSome)])) (h.up n)):FnA (SE xt) 94 [rv c] h K:=by
 refine xZN ?_ hk;clear hk K;refine xZO (sok xt) (ft94 xt) rfl 17 rfl ?_;refine qA fun K hn hp=> ?_;simp only [sw.1,rE,reduceIte,rL,rA,rM,rD,svn.down];apply hn;refine qL ?_;refine qA fun K hn hp=> ?_;simp only [sw.1,rE,reduceIte,rL,rA,rM,rD,svn.down];apply hn;obtain ⟨h1,hh1⟩: ∃h1:Hp,h1=h.new (.siter (bs marksL) 0):=⟨_,rfl⟩;rw [<-hh1];have nh1:h1.n=h.n+1:=by rw [hh1];rfl
 have sh1:h1.t.get h.n=some (.siter (bs marksL) 0):=by rw [hh1];exact jO _ _
 have kh1: ∀k,k<h.n->h1.t.get k=h.t.get k:=fun k hk=>by rw [hh1];exact zW _ _ hk
 have fbh1:Fr h.n h h1:=by rw [hh1];exact (xZQ (xZY _)).new _
 have fh1:=fbh1;refine qO fun KA A1 A2 A3 A4 A5=> ?_;refine jD (sok xt) (fun st=> ∃(k:Nat) (hg:Hp) (tm:T AV),st=⟨tm,17,hg,[]⟩/\k<=3/\tm.get 0=some (rv c)/\tm.get 6=some (.ptr h.n 0)/\Fr h.n h hg/\h.n<hg.n/\hg.t.get h.n=some (.siter (bs marksL) k)/\ ∀i,i<k-> ¬c=((marksL.getD i 0).toNat:Int)) (fun st=>3 - (match st.h.t.get h.n with|some (.siter _ p)=>p|_=>3)) ?_ ?_
 ·rintro st ⟨k,hg,tm,rfl,hkA,g0,g6,fg,ng,sg,hno⟩;have muA:=g6;by_cases hlt:k<3
  ·have nx:=qAX sg (show k<marksL.length from hlt);rw [mk_dec k hlt] at nx;refine qA fun K hn hp=> ?_;simp only [sw.1,rE,reduceIte,rL,rA,rM,rD,svn.down,sh1,nh1,g0,g6,nx];apply hn;refine qF true (by simp only [sw.1,rE,reduceIte,rL,rA,rM,rD,svn.down,sh1,nh1,g0,g6]) (fun _=> ?_) (fun hx=>by cases hx);refine qV ?_;refine zQ fun K2 e1 e2 e3 e4 e5=> ?_;refine qA fun K hn hp=> ?_;simp only [sw.1,rE,reduceIte,rL,rA,rM,rD,svn.down,sh1,nh1,g0,g6];apply hn;have hm:decide (((marksL.getD k 0).toNat:Int)=c)=decide (c=((marksL.getD k 0).toNat:Int)):=decide_eq_decide.2 ⟨Eq.symm,Eq.symm⟩;have fg2:=fg.set (xZY _) ng (.siter (bs marksL) (k+1));refine qA fun K hn hp=> ?_;simp only [sw.1,rE,reduceIte,rL,rA,rM,rD,svn.down,sh1,nh1,g0,g6,rv,hm];apply hn;cases q:decide (c=((marksL.getD k 0).toNat:Int)) with
   |true=>
    have hc:=of_decide_eq_true q;have hcp:=cellP_at k hlt;rw [<-hc] at hcp;have ix:=ix209 k hlt;refine qT true (by simp only [sw.1,rE,reduceIte,rL,rA,rM,rD,svn.down,sh1,nh1,g0,g6,q]) (fun _=> ?_) (fun hx=>by cases hx);refine qA fun K hn hp=> ?_;simp only [sw.1,rE,reduceIte,rL,rA,rM,rD,svn.down,sh1,nh1,g0,g6,bd209,ix];apply hn;refine qJ (e4 _ (A4 _ (qBz res94 ⟨?_,fg2⟩)));simp [xZZ,hcp]
   |false=>
    have hc:=of_decide_eq_false q;refine qT false (by simp only [sw.1,rE,reduceIte,rL,rA,rM,rD,svn.down,sh1,nh1,g0,g6,q]) (fun hx=>by cases hx) (fun _=> ?_);refine jY (e1 _ ?_);refine ⟨⟨k+1,_,_,rfl,by omega,by simp [xZZ,g0],by simp [xZZ,g6],fg2,ng,by rw [xZH,xZZ,if_pos rfl],fun i hi=> ?_⟩,?_⟩
    ·rcases (by omega:i<k\/i=k) with hi|rfl
     ·exact hno i hi
     ·exact hc
    ·simp only [sg,xZH,xZZ,if_true];exact (by omega:3 - (k+1)<3 - k)
  ·have nx:=qAY sg (show marksL.length<=k from by show 3<=k;omega);refine qA fun K hn hp=> ?_;simp only [sw.1,rE,reduceIte,rL,rA,rM,rD,svn.down,sh1,nh1,g0,g6,nx];apply hn;refine qF false (by simp only [sw.1,rE,reduceIte,rL,rA,rM,rD,svn.down,sh1,nh1,g0,g6]) (fun hx=>by cases hx) (fun _=> ?_);refine jA (A2 _ ?_);refine qA fun K hn hp=> ?_;simp only [sw.1,rE,reduceIte,rL,rA,rM,rD,svn.down,sh1,nh1,g0,g6];apply hn;refine qJ (qBz res94 ⟨?_,fg⟩);have n0:=hno 0 (by omega);have n1:=hno 1 (by omega);have n2:=hno 2 (by omega);have hcp:yU c=none:=by
    have n0: ¬c=46:=n0;have n1: ¬c=35:=n1;have n2: ¬c=111:=n2;simp [yU,n0,n1,n2]
   simp [xZZ,hcp]
 ·exact ⟨0,_,_,rfl,by omega,by simp [xZZ,argsTo,rv],by simp [xZZ],fh1,by omega,sh1,fun i hi=>by omega⟩
end Go.Proofs.Kn
namespace Go.Proofs.Kn
open Go Go.Ev
set_option maxRecDepth 100000
theorem ft130 (xt:Addr->Option Value):(SE xt).ft.get 130=some Tryz.f130:=by kernel_rfl
theorem res130:Tryz.f130.results.toList=[.tmp 2]:=by kernel_rfl
def yG (b:UInt8):Bool:=decide (48<=b.toNat) && decide (b.toNat<=57)
def xC (w:List UInt8):Nat:=w.foldl (fun n b=>10*n+(b.toNat - 48)) 0
def wK (w:List UInt8):Option Nat:=if w≠[]/\w.length<=3/\w.all yG=true/\dec (xC w)=w then some (xC w) else none
theorem valP_snoc (w:List UInt8) (b:UInt8):xC (w++[b])=10*xC w+(b.toNat - 48):=by simp [xC,List.foldl_append]
theorem fold_lt: ∀(w:List UInt8) (n:Nat),w.all yG=true->w.foldl (fun n b=>10*n+(b.toNat - 48)) n+1<=(n+1)*10 ^ w.length
 |[],n,_=>by simp
 |b::w,n,h=>by
  rw [List.all_cons,xZT] at h;have h2:=h.1;simp only [yG,xZT,decide_eq_true_eq] at h2;have ih:=fold_lt w (10*n+(b.toNat - 48)) h.2;rw [List.foldl_cons,xZM,Nat.pow_succ];refine Nat.le_trans ih ?_;rw [Nat.mul_comm (10 ^ w.length) 10,<-Nat.mul_assoc];exact xZS _ (by omega)
theorem valP_lt (w:List UInt8) (h:w.all yG=true):xC w<10 ^ w.length:=by
 have:=fold_lt w 0 h;simpa [xC,Nat.succ_le_iff] using this
theorem valP_3 {w:List UInt8} (h:w.all yG=true) (hl:w.length<=3):xC w<1000:=Nat.lt_of_lt_of_le (valP_lt w h) (Nat.pow_le_pow_right (by omega) hl:_<=10 ^ 3)
theorem wrap_i32 (x:Int) (h1: -2147483648<=x) (h2:x<=2147483647):IntKind.i32.wrap x=x:=by
 simp only [IntKind.wrap,IntKind.bits,IntKind.signed];simp;omega
theorem dec_or (w:List UInt8) (k:Nat) (hk:k<w.length):((w[k]).toNat<128/\Utf8.decode (bs w) k=((w[k]).toNat,1))\/(128<=(w[k]).toNat/\128<=(Utf8.decode (bs w) k).1):=by
 by_cases h:(w[k]).toNat<128
 ·exact .inl ⟨h,dec_ascii w k hk h⟩
 ·exact .inr ⟨by omega,dec_else w k hk (by omega)⟩
theorem gW {w:List UInt8} (h: ¬(w≠[]/\w.length<=3/\w.all yG=true/\dec (xC w)=w)):wK w=none:=if_neg h
theorem number_c (xt:Addr->Option Value) (hx:Lx xt) (h:Hp) (w:List UInt8) (hl:w.length<=9223372036854775807) {K:CR->Hp->Prop} (h1: ∀n,wK w=some n-> ∀m,h.n<m->K (.ret (iv n)) (h.up m)) (h2:wK w=none-> ∀m,h.n<m->K (.pan (kQ w)) (h.up m)):FnA (SE xt) 130 [sv w] h K:=by
 refine xZN (v:=match wK w with|some n=> .ret (iv n)|none=> .pan (kQ w)) ?_ (fun m hm=>by
  cases q:wK w with
  |some n=>exact h1 n q m hm
  |none=>exact h2 q m hm)
 clear h1 h2 K;refine xZO (sok xt) (ft130 xt) rfl 41 rfl ?_;refine qA fun K hn hp=> ?_;simp only [sw.1,rE,reduceIte,rL,rA,rM,rD,svn.down];apply hn;clear hn hp K;refine qA fun K hn hp=> ?_;simp only [sw.1,rE,reduceIte,rL,rA,rM,rD,svn.down];apply hn;clear hn hp K;refine qL ?_;refine qA fun K hn hp=> ?_;simp only [sw.1,rE,reduceIte,rL,rA,rM,rD,svn.down];apply hn;clear hn hp K;obtain ⟨h1,hh1⟩: ∃h1:Hp,h1=h.new (.siter (bs w) 0):=⟨_,rfl⟩;rw [<-hh1];have nh1:h1.n=h.n+1:=by rw [hh1];rfl
 have sh1:h1.t.get h.n=some (.siter (bs w) 0):=by rw [hh1];exact jO _ _
 have kh1: ∀k,k<h.n->h1.t.get k=h.t.get k:=fun k hk=>by rw [hh1];exact zW _ _ hk
 have fbh1:Fr h.n h h1:=by rw [hh1];exact (xZQ (xZY _)).new _
 have fh1:=fbh1;refine qO fun KA A1 A2 A3 A4 A5=> ?_;refine jD (sok xt) (fun st=> ∃(k:Nat) (hg:Hp) (tm:T AV),st=⟨tm,41,hg,[]⟩/\k<=w.length/\tm.get 0=some (sv w)/\tm.get 3=some (iv (xC (w.take k)))/\tm.get 7=some (.ptr h.n 0)/\Fr h.n h hg/\h.n<hg.n/\hg.t.get h.n=some (.siter (bs w) k)/\(w.take k).all yG=true/\(0<k->w.length<=3)) (fun st=>w.length - (match st.h.t.get h.n with|some (.siter _ p)=>p|_=>0)) ?_ ?_
 ·rintro st ⟨k,hg,tm,rfl,hkA,g0,g3,g7,fg,ng,sg,hdig,h3⟩;have muA:=g7;by_cases hlt:k<w.length
  ·have nx:=qAX sg hlt;obtain ⟨c,hc⟩: ∃c:Int,c=((Utf8.decode (bs w) k).1:Int):=⟨_,rfl⟩;obtain ⟨d,hd⟩: ∃d:Nat,d=k+(Utf8.decode (bs w) k).2:=⟨_,rfl⟩;rw [<-hc,<-hd] at nx;refine qA fun K hn hp=> ?_;simp only [sw.1,rE,reduceIte,rL,rA,rM,rD,svn.down,sh1,nh1,g0,g3,g7,nx];apply hn;clear hn hp K;refine qF true (by simp only [sw.1,rE,reduceIte,rL,rA,rM,rD,svn.down,sh1,nh1,g0,g3,g7]) (fun _=> ?_) (fun hx=>by cases hx);refine qV ?_;refine zQ fun K2 e1 e2 e3 e4 e5=> ?_;refine qA fun K hn hp=> ?_;simp only [sw.1,rE,reduceIte,rL,rA,rM,rD,svn.down,sh1,nh1,g0,g3,g7];apply hn;clear hn hp K;have fg2:=fg.set (xZY _) ng (.siter (bs w) d);have hnone: ¬(yG w[k]=true/\w.length<=3)->wK w=none:=fun hh=>gW fun ⟨q1,q2,q3,q4⟩=>hh ⟨List.all_eq_true.1 q3 _ (xZI hlt),q2⟩;have hdg:(decide (48<=c) && decide (c<=57))=yG w[k]:=by
    rcases dec_or w k hlt with ⟨a1,a2⟩|⟨a1,a2⟩
    ·rw [hc,a2];simp only [yG];rw [Bool.eq_iff_iff];simp only [xZT,decide_eq_true_eq];omega
    ·rw [hc];simp only [yG];rw [Bool.eq_iff_iff];simp only [xZT,decide_eq_true_eq];omega
   have hbad:wK w=none-> ∀(tm:T AV) (n:Nat),hg.n<n->K2 (.panic (kQ w)) ⟨tm,41,(hg.set h.n (.siter (bs w) d)).up n,[]⟩:=fun hn tm n hn2=>by
    refine e5 _ _ (A5 _ _ ⟨_,rfl,?_,fg2.up (by rw [Hp.set_n];omega)⟩);rw [hn]
   refine qA fun K hn hp=> ?_;cases q1:decide ((48:Int)<=c) with
   |false=>
    rw [q1,Bool.false_and] at hdg;simp only [sw.1,rE,reduceIte,rL,rA,rM,rD,svn.down,sh1,nh1,g0,g3,g7,q1];refine qB (sok xt) (zU xt _ _ _ (fun hb=>by cases hb) (fun _ n hn2=> ?_));simp only [sw.1,rE,reduceIte,rL,rA,rM,rD,svn.down,sh1,nh1,g0,g3,g7];exact hp _ _ _ (hbad (hnone fun ⟨a,_⟩=>by rw [<-hdg] at a;cases a) _ n hn2)
   |true=>
   cases q2:decide (c<=(57:Int)) with
   |false=>
    rw [q1,q2,Bool.and_false] at hdg;simp only [sw.1,rE,reduceIte,rL,rA,rM,rD,svn.down,sh1,nh1,g0,g3,g7,q1,q2];refine qB (sok xt) (zU xt _ _ _ (fun hb=>by cases hb) (fun _ n hn2=> ?_));simp only [sw.1,rE,reduceIte,rL,rA,rM,rD,svn.down,sh1,nh1,g0,g3,g7];exact hp _ _ _ (hbad (hnone fun ⟨a,_⟩=>by rw [<-hdg] at a;cases a) _ n hn2)
   |true=>
   cases q3:decide ((w.length:Int)<=3) with
   |false=>
    have q3':=of_decide_eq_false q3;simp only [sw.1,rE,reduceIte,rL,rA,rM,rD,svn.down,sh1,nh1,g0,g3,g7,q1,q2,q3];refine qB (sok xt) (zU xt _ _ _ (fun hb=>by cases hb) (fun _ n hn2=> ?_));simp only [sw.1,rE,reduceIte,rL,rA,rM,rD,svn.down,sh1,nh1,g0,g3,g7];exact hp _ _ _ (hbad (hnone fun ⟨_,a⟩=>by omega) _ n hn2)
   |true=>
   have q3':=of_decide_eq_true q3;rw [q1,q2,Bool.and_true] at hdg;simp only [sw.1,rE,reduceIte,rL,rA,rM,rD,svn.down,sh1,nh1,g0,g3,g7,q1,q2,q3];refine qB (sok xt) (zU xt _ _ _ (fun _ n hn2=> ?_) (fun hb=>by cases hb));simp only [sw.1,rE,reduceIte,rL,rA,rM,rD,svn.down,sh1,nh1,g0,g3,g7];apply hn;clear hn hp K;have hn2:hg.n<n:=hn2;have hdw:yG w[k]=true:=hdg.symm;have h48:=of_decide_eq_true q1;have h57:=of_decide_eq_true q2;obtain ⟨hcw,hd1⟩:c=((w[k]).toNat:Int)/\d=k+1:=by
    rcases dec_or w k hlt with ⟨a1,a2⟩|⟨a1,a2⟩
    ·rw [a2] at hc hd;exact ⟨hc,hd⟩
    ·omega
   subst hd1;have hv:xC (w.take k)<1000:=valP_3 hdig (by rw [List.length_take];omega);have w1:IntKind.i32.wrap (c - 48)=c - 48:=wrap_i32 _ (by omega) (by omega);have w2:IntKind.i64.wrap (c - 48)=c - 48:=jF _ (by omega) (by omega);have w3:IntKind.i64.wrap (10*(xC (w.take k):Int))=10*(xC (w.take k):Int):=jF _ (by omega) (by omega);have hs:w.take (k+1)=w.take k++[w[k]]:=by rw [List.take_succ,xZV hlt];rfl
   have w4:IntKind.i64.wrap (10*(xC (w.take k):Int)+(c - 48))=((xC (w.take (k+1)):Nat):Int):=by
    rw [jF _ (by omega) (by omega),hs,valP_snoc];omega
   refine reg fun K hn hp=> ?_;simp only [sw.1,rE,reduceIte,rL,rA,rM,rD,svn.down,sh1,nh1,g0,g3,g7,w1,w2,w3,w4];apply hn;clear hn hp K;refine e1 _ ?_;refine ⟨⟨k+1,_,_,rfl,by omega,by simp [xZZ,g0],by simp [xZZ],by simp [xZZ,g7],fg2.up (by rw [Hp.set_n];omega),by rw [xZK];omega,by rw [Hp.up_t,xZH,xZZ,if_pos rfl],?_,fun _=>by omega⟩,?_⟩
   ·rw [hs,List.all_append,hdig];simpa using hdw
   ·simp only [sg,Hp.up_t,xZH,xZZ,if_true];exact (by omega:w.length - (k+1)<w.length - k)
  ·have hk:k=w.length:=by omega
   subst hk;rw [xZJ] at g3 hdig;have nx:=qAY sg (xZY _);refine qA fun K hn hp=> ?_;simp only [sw.1,rE,reduceIte,rL,rA,rM,rD,svn.down,sh1,nh1,g0,g3,g7,nx];apply hn;clear hn hp K;refine qF false (by simp only [sw.1,rE,reduceIte,rL,rA,rM,rD,svn.down,sh1,nh1,g0,g3,g7]) (fun hx=>by cases hx) (fun _=> ?_);refine jA (A2 _ ?_);have fgu: ∀n,hg.n<n->Fr h.n h (hg.up n):=fun n hn2=>fg.up (xZW hn2);by_cases he:w=[]
   ·have hn0:wK w=none:=gW fun q=>q.1 he;subst he;refine qA fun K hn hp=> ?_;simp only [sw.1,rE,reduceIte,rL,rA,rM,rD,svn.down,sh1,nh1,g0,g3,g7,List.length_nil,Bool.not_true];refine qB (sok xt) (zU xt _ _ _ (fun hb=>by cases hb) (fun _ n hn2=> ?_));simp only [sw.1,rE,reduceIte,rL,rA,rM,rD,svn.down,sh1,nh1,g0,g3,g7];refine hp _ _ _ ⟨_,rfl,by rw [hn0],fgu n hn2⟩
   have hw0:0<w.length:=List.length_pos_iff.2 he;have hw3:=h3 hw0;have hv:xC w<1000:=valP_3 hdig hw3;have hed:decide (w=[])=false:=decide_eq_false he;refine qA fun K hn hp=> ?_;simp only [sw.1,rE,reduceIte,rL,rA,rM,rD,svn.down,sh1,nh1,g0,g3,g7,hed];refine qB (sok xt) (qAD xt hx _ _ hv fun n1 hn1=> ?_);by_cases hq:dec (xC w)=w
   ·have hn0:wK w=some (xC w):=if_pos ⟨he,hw3,hdig,hq⟩;have hqd:decide (dec (xC w)=w)=true:=decide_eq_true hq;simp only [sw.1,rE,reduceIte,rL,rA,rM,rD,svn.down,sh1,nh1,g0,g3,g7,hqd];refine qB (sok xt) (zU xt _ _ _ (fun _ n hn2=> ?_) (fun hb=>by cases hb));simp only [sw.1,rE,reduceIte,rL,rA,rM,rD,svn.down,sh1,nh1,g0,g3,g7];apply hn;clear hn hp K;refine qA fun K hn hp=> ?_;simp only [sw.1,rE,reduceIte,rL,rA,rM,rD,svn.down,sh1,nh1,g0,g3,g7];apply hn;clear hn hp K;refine qJ (jB res130 ⟨?_,?_⟩)
    ·rw [hn0];simp [xZZ]
    ·simp only [xZK] at hn2;exact fgu n (by omega)
   ·have hn0:wK w=none:=gW fun q=>hq q.2.2.2;have hqd:decide (dec (xC w)=w)=false:=decide_eq_false hq;simp only [sw.1,rE,reduceIte,rL,rA,rM,rD,svn.down,sh1,nh1,g0,g3,g7,hqd];refine qB (sok xt) (zU xt _ _ _ (fun hb=>by cases hb) (fun _ n hn2=> ?_));simp only [sw.1,rE,reduceIte,rL,rA,rM,rD,svn.down,sh1,nh1,g0,g3,g7];simp only [xZK] at hn2;refine hp _ _ _ ⟨_,rfl,by rw [hn0],fgu n (by omega)⟩
 ·exact ⟨0,_,_,rfl,by omega,by simp [xZZ,argsTo],by simp [xZZ,xC],by simp [xZZ],fh1,by omega,sh1,rfl,fun hh=>by omega⟩
end Go.Proofs.Kn
namespace Go.Ev
theorem qAW {P:Program} {tb:T TE} {xt:Addr->Option Value} {h hB:Hp} {N sz by_ n:Nat} {t e:TypeId} {te ee:TE} {v:AV} {cs c:List AV} (ht:tb.get t=some te) (hd:te.d= .slice e) (he:tb.get e=some ee) (hs:ee.size=sz) (hby:ee.bytes=by_)
  (o:OwnSl h N sz e v n cs) (hN:N<=h.n) (fB:Fr h.n h hB) (nB:hB.n=h.n+1) (sB:hB.t.get h.n=some (.cells c e)) (hc:c.length=sz) (hco:c.all Go.Ev.one=true) (hl:(n+1)*by_<=140737488355328) (hl2:n+1<=9223372036854775807):
  ∃h',qZ P tb xt .append [t,t] [v,.sl h.n 0 1 sz] hB=some (.sl (h.n+1) 0 (n+1) sz,h')/\OwnSl h' N sz e (.sl (h.n+1) 0 (n+1) sz) (n+1) (cs++c)/\Fr N h h'/\h.n<h'.n:=by
 have o2:=o.fr fB (xZY _);have hsrc:=src_own (xt:=xt) (m:=1) (sz:=sz) sB (by simp [hc]) hco;obtain ⟨h',b1,b2,b3,b4,b5⟩:=o2.append2 (P:=P) (by omega) ht hd he hs hby ht hd hsrc (by omega) (by simp [hc]) hl hl2;rw [nB] at b1 b2;exact ⟨h',b1,b2,(fB.lower hN).trans b3 (by omega),by omega⟩
end Go.Ev
namespace Go.Proofs.Kn
open Go Go.Ev
set_option maxRecDepth 100000
theorem ft85s (xt:Addr->Option Value):(SE xt).ft.get 85=some Tryz.f85:=by kernel_rfl
theorem res85s:Tryz.f85.results.toList=[.tmp 2]:=by kernel_rfl
theorem ft86s (xt:Addr->Option Value):(SE xt).ft.get 86=some Tryz.f86:=by kernel_rfl
theorem res86s:Tryz.f86.results.toList=[.tmp 2]:=by kernel_rfl
abbrev zT (ws:List (List UInt8)):List UInt8:=Lib.join ws [32]
def vQ (l:List Int):List UInt8:=zT (l.map fun x=>dec x.toNat)
theorem y8 (n:Nat):(dec n).length<=3:=by unfold dec;split;simp;split<;>simp
theorem qAC (sep:List UInt8) (b:Nat): ∀l:List (List UInt8),(∀x∈l,x.length<=b)->(Lib.join l sep).length<=l.length*(b+sep.length)
 |[],_=>by simp [Lib.join_nil]
 |x::r,h=>by
  rw [Lib.join_length];have: ∀l:List (List UInt8),(∀x∈l,x.length<=b)->Lib.lens l<=l.length*b:=fun l hl=>by
   induction l with
   |nil=>simp [Lib.lens]
   |cons y l ih=>
    have:=ih fun z hz=>hl z (List.mem_cons_of_mem _ hz);have h1:=hl y List.mem_cons_self;simp only [Lib.lens,List.map_cons,List.sum_cons,xZM,Nat.add_mul] at this ⊢;omega
  have h2:=this (x::r) h;rw [Nat.mul_add];have h3:sep.length*r.length<=(x::r).length*sep.length:=by rw [Nat.mul_comm];exact xZS _ (by simp)
  omega
theorem vP (l:List Int):(vQ l).length<=l.length*4:=by
 have:=qAC [32] 3 (l.map fun x=>dec x.toNat) (by intro x hx;obtain ⟨y,_,rfl⟩:=List.mem_map.1 hx;exact y8 _);simpa [vQ] using this
theorem qAB (xt:Addr->Option Value) (h:Hp) (v:AV) (N:Nat) (ws:List (List UInt8)) (o:OwnSl h N 1 9 v ws.length (ws.map sv)) (h0:0<ws.length) (h1:ws.length<=140737488355328) (h2:(zT ws).length<=140737488355328) {K:CR->Hp->Prop} (hk: ∀n,h.n<n->K (.ret (sv (zT ws))) (h.up n)):FnA (SE xt) 85 [v] h K:=by
 refine xZN ?_ hk;clear hk K;refine xZO (sok xt) (ft85s xt) rfl 5 rfl ?_;refine qA fun K hn hp=> ?_;simp only [sw.1,rE,reduceIte,rL,rA,rM,rD,svn.down];apply hn;refine qA fun K hn hp=> ?_;simp only [sw.1,rE,reduceIte,rL,rA,rM,rD,svn.down];refine join_a xt _ v N ws [32] o h0 h1 h2 ?_;simp only [sw.1,rE,reduceIte,rL,rA,rM,rD,svn.down];refine hn _ _ (qJ (jB res85s ⟨?_,xZQ (xZY _)⟩));simp [xZZ]
theorem bs96 (h:Hp) (a:List UInt8):qY tb h 96 1 [(0,sv a)]=some (.sl h.n 0 1 1,h.new (.cells [sv a] 9)):=by kernel_rfl
theorem t96:te96.d= .slice 9:=by kernel_rfl
theorem app96 {xt:Addr->Option Value} {h hB:Hp} {N n:Nat} {v:AV} {cs:List AV} {a:List UInt8} (o:OwnSl h N 1 9 v n cs) (hN:N<=h.n) (fB:Fr h.n h hB) (nB:hB.n=h.n+1) (sB:hB.t.get h.n=some (.cells [sv a] 9)) (hl:n<=1000000):
  ∃h',qZ Tryz.prog tb xt .append [96,96] [v,.sl h.n 0 1 1] hB=some (.sl (h.n+1) 0 (n+1) 1,h')/\OwnSl h' N 1 9 (.sl (h.n+1) 0 (n+1) 1) (n+1) (cs++[sv a])/\Fr N h h'/\h.n<h'.n:=
 qAW (by_:=16) (ee:=te9) uI t96 tg9 rfl rfl o hN fB nB sB rfl rfl (by omega) (by omega)
theorem fbn (h:Hp) (cs:List AV) (e:TypeId):Fr h.n h (h.new (.cells cs e)):=(xZQ (xZY _)).new _
theorem xP (xt:Addr->Option Value) (hx:Lx xt) (h:Hp) (v:AV) (N:Nat) (l:List Int) (o:OwnSl h N 1 3 v l.length (l.map iv)) (h0:0<l.length) (h1:l.length<=1000) (hl: ∀x∈l,0<=x/\x<1000) {K:CR->Hp->Prop} (hk: ∀n,h.n<n->K (.ret (sv (vQ l))) (h.up n)):FnA (SE xt) 86 [v] h K:=by
 refine xZN ?_ hk;clear hk K;refine xZO (sok xt) (ft86s xt) rfl 20 rfl ?_;refine qA fun K hn hp=> ?_;simp only [sw.1,rE,reduceIte,rL,rA,rM,rD,svn.down];apply hn;clear hn hp K;refine qA fun K hn hp=> ?_;simp only [sw.1,rE,reduceIte,rL,rA,rM,rD,svn.down];apply hn;clear hn hp K;have hlen:=fun h'=>o.len (tb:=tb) xR rfl (h':=h');have ov:=o.one;refine qL ?_;refine qA fun K hn hp=> ?_;simp only [sw.1,rE,reduceIte,rL,rA,rM,rD,svn.down,hlen];apply hn;clear hn hp K;refine qO fun KA A1 A2 A3 A4 A5=> ?_;refine jD (sok xt) (fun st=> ∃(k:Nat) (hg:Hp) (u:AV) (tm:T AV),st=⟨tm,20,hg,[]⟩/\k<=l.length/\tm.get 3=some (u)/\tm.get 6=some (v)/\tm.get 7=some (iv l.length)/\tm.get 8=some (iv k)/\Fr h.n h hg/\OwnSl hg h.n 1 9 u k ((l.take k).map fun x=>sv (dec x.toNat))) (fun st=>l.length - (match st.tm.get 8 with|some (.val (.int _ n))=>n.toNat|_=>0)) ?_ ?_
 ·rintro st ⟨k,hg,u,tm,rfl,hkA,g3,g6,g7,g8,fg,os⟩;have muA:=g8;have q:decide ((k:Int)<(l.length:Int))=decide (k<l.length):=qG _ _;refine qA fun K hn hp=> ?_;simp only [sw.1,rE,reduceIte,rL,rA,rM,rD,svn.down,g3,g6,g7,g8,q];apply hn;clear hn hp K;by_cases hlt:k<l.length
  ·refine qF true (by simp only [sw.1,rE,reduceIte,rL,rA,rM,rD,svn.down,g3,g6,g7,g8,hlt]) (fun _=> ?_) (fun hx=>by cases hx);refine qV ?_;refine zQ fun K2 e1 e2 e3 e4 e5=> ?_;obtain ⟨b,i1,i2,i3,i4,i5⟩:=(o.fr fg (xZY _)).idx xR rfl tg3 rfl hlt (k:= .i64);obtain ⟨hx0,hx1⟩:=hl _ (xZI hlt);obtain ⟨n,hn⟩: ∃n:Nat,l[k]=(n:Int):=⟨(l[k]).toNat,by omega⟩;have hld:jV (hg.t.get b) (k*1)=some (iv n):=by
    rw [i4,zY,Nat.mul_one,List.getElem?_map,xZV hlt,hn];rfl
   refine qA fun K hn hp=> ?_;simp only [sw.1,rE,reduceIte,rL,rA,rM,rD,svn.down,g3,g6,g7,g8,i1,hld];apply hn;clear hn hp K;have fgl:=fg.le;refine reg fun K hn' hp=> ?_;simp only [sw.1,rE,reduceIte,rL,rA,rM,rD,svn.down,g3,g6,g7,g8];refine qB (sok xt) (qAD xt hx _ n (by omega) fun n1 hn1=> ?_);have os1:=os.up (xZW hn1);obtain ⟨hu,hhu⟩: ∃hu:Hp,hu=hg.up n1:=⟨_,rfl⟩;have fu:Fr h.n h hu:=by rw [hhu];exact fg.up (xZW hn1)
   have ful:=fu.le;rw [<-hhu] at os1 ⊢;obtain ⟨h3,p1,p2,p3,p4⟩:=app96 (xt:=xt) (a:=dec n) os1 ful (fbn hu [sv (dec n)] 9) (by rw [Hp.new_n]) (jO _ _) (by omega);have ou:=os1.one;simp only [sw.1,rE,reduceIte,rL,rA,rM,rD,svn.down,g3,g6,g7,g8,qQ,bs96,p1];refine hn' _ _ (e1 _ ?_);clear hn' hp;have w1:=jE hlt (by omega);refine reg fun K hn hp=> ?_;simp only [sw.1,rE,reduceIte,rL,rA,rM,rD,svn.down,g3,g6,g7,g8,w1];apply hn;clear hn hp K;have ht:(l.take (k+1)).map (fun x=>sv (dec x.toNat))=(l.take k).map (fun x=>sv (dec x.toNat))++[sv (dec n)]:=by
    rw [List.take_succ,xZV hlt,hn];simp
   rw [<-ht] at p2;refine ⟨⟨k+1,h3,.sl (hu.n+1) 0 (k+1) 1,_,rfl,by omega,(by simp [xZZ,g3,g6,g7,g8]),(by simp [xZZ,g3,g6,g7,g8]),(by simp [xZZ,g3,g6,g7,g8]),(by simp [xZZ,g3,g6,g7,g8]),fu.trans p3 (xZY _),p2⟩,by simpa [xZZ,muA] using (by omega:l.length - (k+1)<l.length - k)⟩
  ·have hk:k=l.length:=by omega
   subst hk;rw [xZJ] at os;refine qF false (by simp only [sw.1,rE,reduceIte,rL,rA,rM,rD,svn.down,g3,g6,g7,g8,hlt]) (fun hx=>by cases hx) (fun _=> ?_);refine jA (A2 _ ?_);have e0:(l.map fun x=>sv (dec x.toNat))=(l.map fun x=>dec x.toNat).map sv:=by rw [List.map_map];rfl
   rw [e0] at os;have hll:=vP l;refine qA fun K hn hp=> ?_;simp only [sw.1,rE,reduceIte,rL,rA,rM,rD,svn.down,g3,g6,g7,g8];refine qB (sok xt) (qAB xt hg u h.n (l.map fun x=>dec x.toNat) (by rw [xZL];exact os) (by rw [xZL];exact h0) (by rw [xZL];omega) (by show (vQ l).length<=_;omega) fun n hn2=> ?_);simp only [sw.1,rE,reduceIte,rL,rA,rM,rD,svn.down,g3,g6,g7,g8];refine hn _ _ (qJ (jB res86s ⟨?_,fg.up (xZW hn2)⟩));simp [xZZ,vQ]
 ·exact ⟨0,_,_,_,rfl,by omega,by simp [xZZ,argsTo],by simp [xZZ],by simp [xZZ],by simp [xZZ],xZQ (xZY _),OwnSl.nil⟩
end Go.Proofs.Kn
namespace Go.Proofs.Kn
open Go Go.Ev
set_option maxRecDepth 100000
set_option maxHeartbeats 4000000
abbrev gP:List UInt8:=[115,104,101,108,108]
abbrev gN:List UInt8:=[116,97,112,101,114]
abbrev wD:List UInt8:=[104,105,100,100,101,110]
abbrev vC:List UInt8:=[103,97,117,103,101]
abbrev zX:List UInt8:=[99,114,97,99,107]
abbrev xD:List UInt8:=[112,114,111,98,101]
abbrev endW:List UInt8:=[101,110,100,32]
def zJ (x:Int):Prop:=0<=x/\x<1000
structure Txt (m:Mp):Prop where
 kc: ∀l∈m.cells,∀x∈l,1<=x/\x<=3
 lc:m.cells.length<=999
 lr: ∀l∈m.cells,l.length<=999
 T:zJ m.T
 H:zJ m.H
 gs: ∀g∈m.gs,zJ g.1/\zJ g.2.1/\zJ g.2.2.1/\zJ g.2.2.2
 ks: ∀k∈m.ks,zJ k.1/\zJ k.2.1
 ps: ∀p∈m.ps,zJ p.1/\zJ p.2
 lg:m.gs.length<=999
 lk:m.ks.length<=999
 lp:m.ps.length<=999
def mkB (x:Int):UInt8:=marksL.getD (x - 1).toNat 0
def pP (l:List Int):List UInt8:=l.map mkB
def Mp.headB (m:Mp):List UInt8:=zT [gP,vQ [(m.cells.length:Int),(m.W:Int)],gN,vQ [m.T],wD,vQ [m.H]]
def kM (g:Int×Int×Int×Int):List UInt8:=zT [vC,vQ [g.1,g.2.1,g.2.2.1,g.2.2.2]]
def kO (k:Int×Int×Bool):List UInt8:=zT [zX,vQ [k.1,k.2.1],uD k.2.2]
def kK (p:Int×Int):List UInt8:=zT [xD,vQ [p.1,p.2]]
def Mp.linesB (m:Mp):List (List UInt8):=m.headB::(m.cells.map pP++(m.gs.map kM++(m.ks.map kO++m.ps.map kK)))
def yE:Nat->List UInt8->Nat
 |_,[]=>0
 |i,b::l=>b.toNat*(i+1)+yE (i+1) l
def v6 (ls:List (List UInt8)):Nat:=(ls.map (yE 0)).sum
def yX (c:Nat):List UInt8:=endW++dec (c / 100)++dec (c / 10 % 10)++dec (c % 10)
def Mp.textB (m:Mp):List UInt8:=Lib.join (m.linesB++[yX (v6 m.linesB % 101)]) [10]++[10]
theorem ft31s (xt:Addr->Option Value):(SE xt).ft.get 31=some Tryz.f31:=by kernel_rfl
theorem res31s:Tryz.f31.results.toList=[.tmp 2]:=by kernel_rfl
theorem b65_1 (h:Hp) (a:Int):qY tb h 65 1 [(0,iv a)]=some (.sl h.n 0 1 1,h.new (.cells [iv a] 3)):=by kernel_rfl
theorem b65_2 (h:Hp) (a b:Int):qY tb h 65 2 [(0,iv a),(1,iv b)]=some (.sl h.n 0 2 1,h.new (.cells [iv a,iv b] 3)):=by kernel_rfl
theorem b65_4 (h:Hp) (a b c d:Int):qY tb h 65 4 [(0,iv a),(1,iv b),(2,iv c),(3,iv d)]=some (.sl h.n 0 4 1,h.new (.cells [iv a,iv b,iv c,iv d] 3)):=by kernel_rfl
theorem b96_2 (h:Hp) (a b:List UInt8):qY tb h 96 2 [(0,sv a),(1,sv b)]=some (.sl h.n 0 2 1,h.new (.cells [sv a,sv b] 9)):=by kernel_rfl
theorem b96_3 (h:Hp) (a b c:List UInt8):qY tb h 96 3 [(0,sv a),(1,sv b),(2,sv c)]=some (.sl h.n 0 3 1,h.new (.cells [sv a,sv b,sv c] 9)):=by kernel_rfl
theorem b96_6 (h:Hp) (a b c d e f:List UInt8):qY tb h 96 6 [(0,sv a),(1,sv b),(2,sv c),(3,sv d),(4,sv e),(5,sv f)]=some (.sl h.n 0 6 1,h.new (.cells [sv a,sv b,sv c,sv d,sv e,sv f] 9)):=by kernel_rfl
theorem zV {h:Hp} {b:Nat} {cs:List AV} {e:TypeId} (q:h.t.get b=some (.cells cs e)) (hb:b<h.n):OwnSl h b 1 e (.sl b 0 cs.length 1) cs.length cs:= .inr ⟨b,rfl,xZY _,hb,q,by simp⟩
def TI (h1:Hp) (hg:Hp) (u:AV) (ls:List (List UInt8)):Prop:=Fr h1.n h1 hg/\OwnSl hg h1.n 1 9 u ls.length (ls.map sv)
theorem k7 {ws:List (List UInt8)} (h: ∀x∈ws,x.length<=1000) (hl:ws.length<=10):(zT ws).length<=10010:=by
 have:=qAC [32] 1000 ws h;simp only [List.length_singleton] at this;show (Lib.join ws [32]).length<=10010;have h2:ws.length*(1000+1)<=10*(1000+1):=xZS _ hl;omega
theorem xB {E:Env} {r:Option Nat} {c a b:Code} {st:St} {Q:Ex->St->Prop} (h:c= .seq a b) (hw:wpc E r (.seq a b) st Q):wpc E r c st Q:=by rw [h];exact hw
noncomputable def b31:Code:=qAT Tryz.f31.body
noncomputable def c31a:Code:=vT (vT (vT b31))
noncomputable def c31b:Code:=vT c31a
theorem head_w (xt:Addr->Option Value) (hx:Lx xt) (h1:Hp) (m:Mp) (B:Nat) (hB:B<h1.n) (q1:h1.t.get B=some (.cells m.cs 27)) (hlen: ∀h',vN tb h' 22 m.vc=some m.cells.length) (ht:Txt m) (hW:m.W<=999) (tm:T AV) (g1:tm.get 1=some (.ptr B 0)) (g3:tm.get 3=some (iv (m.W:Int))) {Q:Ex->St->Prop}
  (next: ∀tm hg u,tm.get 1=some (.ptr B 0)->tm.get 4=some u->TI h1 hg u [m.headB]->wpc (SE xt) none c31b ⟨tm,180,hg,[]⟩ Q):wpc (SE xt) none c31a ⟨tm,180,h1,[]⟩ Q:=by
 refine xB rfl ?_;have hlc:=ht.lc;refine qCA (sok xt) 13 [4,8,12] [(5,[4]),(9,[4,8])] [(7,0),(11,0),(11,1)] (by kernel_rfl) fun K hn hp=> ?_;simp only [sw.1,rE,reduceIte,rL,rA,rM,rD,svn.down,syw.1,g1,g3,q1,hlen,syg.1,xZP,qQ,b65_1,b65_2];have nR:zJ (m.cells.length:Int):=⟨by omega,by omega⟩;have nW:zJ (m.W:Int):=⟨by omega,by omega⟩;obtain ⟨h2,hh2,n2,s2,k2,f2⟩:=newE h1 (.cells [iv (m.cells.length:Int),iv (m.W:Int)] 3);have e2:({t:=h1.t.put (some (.cells [iv (m.cells.length:Int),iv (m.W:Int)] 3)) h1.n,n:=h1.n+1}:Hp)=h2:=by rw [hh2];rfl
 rw [e2];have q2:=(k2 B hB).trans q1;refine qB (sok xt) (xP xt hx h2 _ h1.n [(m.cells.length:Int),(m.W:Int)] (zV s2 (by omega)) (by simp) (by simp) (by intro x hx;simp only [xZR,xZU,or_false] at hx;rcases hx with rfl|rfl;exact nR;exact nW) fun m1 hm1=> ?_);obtain ⟨h3,hh3⟩: ∃h3:Hp,h3=h2.up m1:=⟨_,rfl⟩;have f3:Fr h1.n h1 h3:=by rw [hh3];exact f2.up (xZW hm1)
 have q3:h3.t.get B=some (.cells m.cs 27):=by rw [hh3];exact q2
 have lt3:h1.n+1<h3.n:=by rw [hh3,xZK];omega
 rw [<-hh3];clear hh2 hh3;simp only [sw.1,rE,reduceIte,rL,rA,rM,rD,svn.down,syw.1,g1,g3,q1,hlen,q3,syg.1,xZP,qQ,b65_1,b65_2,uV lt3];obtain ⟨h4,hh4,n4,s4,k4,f4⟩:=newE h3 (.cells [iv m.T] 3);have e4:({t:=h3.t.put (some (.cells [iv m.T] 3)) h3.n,n:=h3.n+1}:Hp)=h4:=by rw [hh4];rfl
 rw [e4];have q4:=(k4 B (by omega)).trans q3;refine qB (sok xt) (xP xt hx h4 _ h3.n [m.T] (zV s4 (by omega)) (by simp) (by simp) (by intro x hx;simp only [xZR,xZU,or_false] at hx;rcases hx with rfl;exact ht.T) fun m2 hm2=> ?_);obtain ⟨h5,hh5⟩: ∃h5:Hp,h5=h4.up m2:=⟨_,rfl⟩;have f5:Fr h1.n h1 h5:=by rw [hh5];exact (f3.trans f4 (by omega)).up (xZW hm2)
 have q5:h5.t.get B=some (.cells m.cs 27):=by rw [hh5];exact q4
 have lt5:h3.n+1<h5.n:=by rw [hh5,xZK];omega
 rw [<-hh5];clear hh4 hh5;simp only [sw.1,rE,reduceIte,rL,rA,rM,rD,svn.down,syw.1,g1,g3,q1,hlen,q3,q5,syg.1,xZP,qQ,b65_1,b65_2,uV lt5];obtain ⟨h6,hh6,n6,s6,k6,f6⟩:=newE h5 (.cells [iv m.H] 3);have e6:({t:=h5.t.put (some (.cells [iv m.H] 3)) h5.n,n:=h5.n+1}:Hp)=h6:=by rw [hh6];rfl
 rw [e6];refine qB (sok xt) (xP xt hx h6 _ h5.n [m.H] (zV s6 (by omega)) (by simp) (by simp) (by intro x hx;simp only [xZR,xZU,or_false] at hx;rcases hx with rfl;exact ht.H) fun m3 hm3=> ?_);obtain ⟨h7,hh7⟩: ∃h7:Hp,h7=h6.up m3:=⟨_,rfl⟩;have f7:Fr h1.n h1 h7:=by rw [hh7];exact (f5.trans f6 (by omega)).up (xZW hm3)
 rw [<-hh7];clear hh6 hh7;simp only [sw.1,rE,reduceIte,rL,rA,rM,rD,svn.down,syw.1,g1,g3,q1,hlen,q3,q5,qQ,b96_6];refine qB (sok xt) (qAB xt _ _ h7.n [gP,vQ [(m.cells.length:Int),(m.W:Int)],gN,vQ [m.T],wD,vQ [m.H]] (zV (jO _ _) (by rw [Hp.new_n];omega)) (by simp) (by simp) (Nat.le_trans (k7 (by
  have d1:=vP [(m.cells.length:Int),(m.W:Int)];have d2:=vP [m.T];have d3:=vP [m.H];simp only [xZM,List.length_nil] at d1 d2 d3;intro x hx;simp only [xZR,xZU,or_false] at hx;rcases hx with rfl|rfl|rfl|rfl|rfl|rfl
  ·simp
  ·omega
  ·simp
  ·omega
  ·simp
  ·omega) (by simp)) (by omega)) fun m4 hm4=> ?_)
 obtain ⟨h8,hh8⟩: ∃h8:Hp,h8=(h7.new (.cells [sv gP,sv (vQ [(m.cells.length:Int),(m.W:Int)]),sv gN,sv (vQ [m.T]),sv wD,sv (vQ [m.H])] 9)).up m4:=⟨_,rfl⟩;have f8:Fr h1.n h1 h8:=by rw [hh8];exact (f7.new _).up (xZW hm4)
 rw [<-hh8];clear hh8;have f8l:=f8.le;simp only [sw.1,rE,reduceIte,rL,rA,rM,rD,svn.down,syw.1,g1,g3,q1,hlen,q3,q5,qQ,bs96];apply hn;refine next _ _ (.sl h8.n 0 1 1) (by simp [xZZ,g1]) (by simp [xZZ]) ⟨f8.new _,?_⟩;have o:=zV (h:=h8.new (.cells [sv m.headB] 9)) (jO _ _) (by rw [Hp.new_n];omega);rcases o with ⟨o,_⟩|⟨b,o1,o2,o3,o4,o5⟩
 ·simp at o
 ·exact .inr ⟨b,o1,by omega,o3,o4,o5⟩
end Go.Proofs.Kn
