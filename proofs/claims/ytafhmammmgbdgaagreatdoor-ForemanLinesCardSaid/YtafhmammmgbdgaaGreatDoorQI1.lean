/- Parts of the proof, joined by a program. -/
import Derived.Test.YtafhmammmgbdgaaGreatDoorQP1
set_option linter.all false
open Nat renaming reduceEqDiff → rE, reduceLeDiff → rD, reduceAdd → rA, reduceMul → rM, reduceLT → rL
namespace Go.Proofs.Kn
open Go Go.Ev
set_option maxRecDepth 100000
def bz8 (x:Nat):AV:= .val (.int .u8 (x:Int))
def SM:List UInt8:=List.append (List.append [48,48,48,49,48,50,48,51,48,52,48,53,48,54,48,55,48,56,48,57,49,48,49,49,49,50,49,51,49,52,49,53,49,54,49,55,49,56,49,57,50,48,50,49,50,50,50,51,50,52] [50,53,50,54,50,55,50,56,50,57,51,48,51,49,51,50,51,51,51,52,51,53,51,54,51,55,51,56,51,57,52,48,52,49,52,50,52,51,52,52,52,53,52,54,52,55,52,56,52,57]) (List.append [53,48,53,49,53,50,53,51,53,52,53,53,53,54,53,55,53,56,53,57,54,48,54,49,54,50,54,51,54,52,54,53,54,54,54,55,54,56,54,57,55,48,55,49,55,50,55,51,55,52] [55,53,55,54,55,55,55,56,55,57,56,48,56,49,56,50,56,51,56,52,56,53,56,54,56,55,56,56,56,57,57,48,57,49,57,50,57,51,57,52,57,53,57,54,57,55,57,56,57,57])
theorem SM_len:SM.length=200:=by kernel_rfl
theorem SM_0:((List.range 100).all fun m=>decide ((SM[m*2]?).map (·.toNat)=some (48+m / 10)))=true:=by kernel_rfl
theorem SM_1:((List.range 100).all fun m=>decide ((SM[m*2+1]?).map (·.toNat)=some (48+m % 10)))=true:=by kernel_rfl
theorem sm0 (m:Nat) (hm:m<100):aindex tb 9 (sv (List.append (List.append [48,48,48,49,48,50,48,51,48,52,48,53,48,54,48,55,48,56,48,57,49,48,49,49,49,50,49,51,49,52,49,53,49,54,49,55,49,56,49,57,50,48,50,49,50,50,50,51,50,52] [50,53,50,54,50,55,50,56,50,57,51,48,51,49,51,50,51,51,51,52,51,53,51,54,51,55,51,56,51,57,52,48,52,49,52,50,52,51,52,52,52,53,52,54,52,55,52,56,52,57]) (List.append [53,48,53,49,53,50,53,51,53,52,53,53,53,54,53,55,53,56,53,57,54,48,54,49,54,50,54,51,54,52,54,53,54,54,54,55,54,56,54,57,55,48,55,49,55,50,55,51,55,52] [55,53,55,54,55,55,55,56,55,57,56,48,56,49,56,50,56,51,56,52,56,53,56,54,56,55,56,56,56,57,57,48,57,49,57,50,57,51,57,52,57,53,57,54,57,55,57,56,57,57]))) (.val (.int .u32 ((m*2:Nat):Int)))=some (bz8 (48+m / 10)):=by
 have hl:m*2<SM.length:=by rw [SM_len];omega
 have:=aindex_s (k:= .u32) tg9 rfl SM hl;have h2:=of_decide_eq_true (List.all_eq_true.1 SM_0 m (List.mem_range.2 hm));rw [List.getElem?_eq_getElem hl] at h2;simp only [Option.map_some,Option.some.injEq] at h2;rw [h2] at this;exact this
theorem sm1 (m:Nat) (hm:m<100):aindex tb 9 (sv (List.append (List.append [48,48,48,49,48,50,48,51,48,52,48,53,48,54,48,55,48,56,48,57,49,48,49,49,49,50,49,51,49,52,49,53,49,54,49,55,49,56,49,57,50,48,50,49,50,50,50,51,50,52] [50,53,50,54,50,55,50,56,50,57,51,48,51,49,51,50,51,51,51,52,51,53,51,54,51,55,51,56,51,57,52,48,52,49,52,50,52,51,52,52,52,53,52,54,52,55,52,56,52,57]) (List.append [53,48,53,49,53,50,53,51,53,52,53,53,53,54,53,55,53,56,53,57,54,48,54,49,54,50,54,51,54,52,54,53,54,54,54,55,54,56,54,57,55,48,55,49,55,50,55,51,55,52] [55,53,55,54,55,55,55,56,55,57,56,48,56,49,56,50,56,51,56,52,56,53,56,54,56,55,56,56,56,57,57,48,57,49,57,50,57,51,57,52,57,53,57,54,57,55,57,56,57,57]))) (.val (.int .u32 ((m*2+1:Nat):Int)))=some (bz8 (48+m % 10)):=by
 have hl:m*2+1<SM.length:=by rw [SM_len];omega
 have:=aindex_s (k:= .u32) tg9 rfl SM hl;have h2:=of_decide_eq_true (List.all_eq_true.1 SM_1 m (List.mem_range.2 hm));rw [List.getElem?_eq_getElem hl] at h2;simp only [Option.map_some,Option.some.injEq] at h2;rw [h2] at this;exact this
end Go.Proofs.Kn
namespace Go.Proofs.Kn
open Go Go.Ev
set_option maxRecDepth 100000
set_option maxHeartbeats 4000000
theorem tg341:tb.get 341=some te341:=by kernel_rfl
theorem tg339:tb.get 339=some te339:=by kernel_rfl
theorem tg431:tb.get 431=some te431:=by kernel_rfl
theorem tg405:tb.get 405=some te405:=by kernel_rfl
theorem tg2:tb.get 2=some te2:=by kernel_rfl
theorem d88:te88.d= .slice 5:=by kernel_rfl
theorem cvA (h:Hp) (n:Int):aconv tb h 341 339 (.val (.int .u64 n))=some (.val (.int .u32 (IntKind.u32.wrap n))):=aconv_int tg341 tg339 rfl n
theorem cvB (h:Hp) (n:Int):aconv tb h 339 5 (.val (.int .u32 n))=some (.val (.int .u8 (IntKind.u8.wrap n))):=aconv_int tg339 tg5 rfl n
theorem cvC (h:Hp) (n:Int):aconv tb h 2 341 (.val (.int .i64 n))=some (.val (.int .u64 (IntKind.u64.wrap n))):=aconv_int tg2 tg341 rfl n
theorem idivR (k:IntKind) (a b:Int) (hb:b≠0):Op.intDiv .rem k a b=pure (.int k (a.tmod b)):=by simp [Op.intDiv,hb]
theorem idivQ (k:IntKind) (a b:Int) (hb:b≠0):Op.intDiv .quo k a b=pure (.int k (k.wrap (a.tdiv b))):=by simp [Op.intDiv,hb]
theorem remU {P:Program} {t:TypeId} {ox oy:Operand} (a b:Nat) (hb:0<b):abin P tb .rem t ox oy (.val (.int .u32 a)) (.val (.int .u32 b))=some (.val (.int .u32 ((a % b:Nat):Int))):=by
 have:pureRun P (do eqGuard .rem t ox oy (.int .u32 a) (.int .u32 b);binOp .rem t (.int .u32 a) (.int .u32 b):Sem Value)=some (.int .u32 ((a:Int).tmod b)):=by
  show pureRun P (Op.intDiv .rem .u32 a b)=_;rw [idivR _ _ _ (by omega)];rfl
 simp only [abin,toVal,this];rfl
theorem wrap_u32 (x:Nat) (h:x<4294967296):IntKind.u32.wrap (x:Int)=(x:Int):=by
 simp only [IntKind.wrap,IntKind.bits,IntKind.signed];simp;omega
theorem wrap_u64 (x:Nat) (h:x<18446744073709551616):IntKind.u64.wrap (x:Int)=(x:Int):=by
 simp only [IntKind.wrap,IntKind.bits,IntKind.signed];simp;omega
theorem quoU {P:Program} {t:TypeId} {ox oy:Operand} (a b:Nat) (hb:0<b) (ha:a<4294967296):abin P tb .quo t ox oy (.val (.int .u32 a)) (.val (.int .u32 b))=some (.val (.int .u32 ((a / b:Nat):Int))):=by
 have:pureRun P (do eqGuard .quo t ox oy (.int .u32 a) (.int .u32 b);binOp .quo t (.int .u32 a) (.int .u32 b):Sem Value)=some (.int .u32 (IntKind.u32.wrap ((a:Int).tdiv b))):=by
  show pureRun P (Op.intDiv .quo .u32 a b)=_;rw [idivQ _ _ _ (by omega)];rfl
 simp only [abin,toVal,this];have e2:((a:Int).tdiv b)=((a / b:Nat):Int):=rfl;rw [e2,wrap_u32 _ (Nat.lt_of_le_of_lt (Nat.div_le_self _ _) ha)]
theorem ia88 (L o n k:Nat) (hk:k<n):aindexAddr tb 88 (.sl L o n 1) (.val (.int .i64 (k:Int)))=some (.ptr L (o+k)):=by
 have e1:aint (.val (.int .i64 (k:Int)))=some (Int.ofNat k):=rfl;have e3:te5.size=1:=rfl;have e4:Nat.blt k n=true:=by rw [Nat.blt_eq];exact hk
 simp only [aindexAddr,tg88,tg5,e1,d88,e3,e4];show some (AV.ptr L (o+k*1))=_;rw [Nat.mul_one]
theorem z8_one (x:Nat):Go.Ev.one (bz8 x)=true:=rfl
theorem z8_cells (x:Nat):cellsOf (bz8 x)=[bz8 x]:=rfl
theorem end_0 {E:Env} {fn:Func} {K:CR→Hp→Prop} {tm:T AV} {nt:Nat} {h:Hp} (h1:fn.results.toList=[]) (h3:K (.ret (.tup [])) h):endK E fn K .normal ⟨tm,nt,h,[]⟩:=⟨h,[],rfl,by rw [h1];rfl,h3⟩
theorem ft306s (xt:Addr→Option Value):(SE xt).ft.get 306=some Tryz.f306:=by kernel_rfl
theorem res306s:Tryz.f306.results.toList=[]:=by kernel_rfl
theorem len88 (h:Hp) (b o n s:Nat):alen tb h 88 (.sl b o n s)=some n:=by simp only [alen,tg88,d88]
theorem fmt3 (xt:Addr→Option Value) (h:Hp) (b n:Nat) (e:TypeId) (rest:List AV) (hb:b<h.n) (hg:h.t.get b=some (.cells (bz8 0::bz8 0::bz8 0::bz8 0::bz8 0::rest) e)) (h1:100≤n) (h2:n<1000):
  FnA (SE xt) 306 [.sl b 1 3 1,.val (.int .u64 (n:Int))] h (fun r h'=>r= .ret (.tup [])∧Fr b h h'∧h'.t.get b=some (.cells (bz8 0::bz8 (48+n / 100)::bz8 (48+n / 10 % 10)::bz8 (48+n % 10)::bz8 0::rest) e)):=by
 refine FnA.walk (sok xt) (ft306s xt) rfl 167 rfl ?_;refine seq_reg fun K hn hp=> ?_;simp only [sw.down,rE,reduceIte,rL,rA,rM,rD,svn.down,syw.down,len88];refine hn _ _ ?_;clear hn hp K;refine seq_block fun KA A1 A2 A3 A4 A5=> ?_;refine wpc_loop (sok xt) (fun st=> ∃tm:T AV,st=⟨tm,167,h,[]⟩∧tm.get 0=some (.sl b 1 3 1)∧tm.get 1=some (.val (.int .u64 (n:Int)))∧tm.get 4=some (iv 3)) (fun _=>0) ?_ ?_
 ·rintro st ⟨tm,rfl,g0,g1,g4⟩;have c38:decide ((8:Int)≤3)=false:=by decide
  have c34:decide ((4:Int)≤3)=false:=by decide
  have c32:decide ((2:Int)≤3)=true:=by decide
  refine seq_seq ?_;refine seq_reg fun K hn hp=> ?_;simp only [sw.down,rE,reduceIte,rL,rA,rM,rD,svn.down,syw.down,g0,g1,g4,c38];refine hn _ _ ?_;clear hn hp K;refine seq_cond false (by simp only [sw.down,rE,reduceIte,rL,rA,rM,rD,svn.down,syw.down,g0,g1,g4]) (fun hx=>by cases hx) (fun _=> ?_);refine seq_exit (A2 _ ?_);have v1:=wrap_u32 n (by omega);refine seq_reg fun K hn hp=> ?_;simp only [sw.down,rE,reduceIte,rL,rA,rM,rD,svn.down,syw.down,g0,g1,g4,cvA,v1];refine hn _ _ ?_;clear hn hp K;refine seq_seq ?_;refine seq_reg fun K hn hp=> ?_;simp only [sw.down,rE,reduceIte,rL,rA,rM,rD,svn.down,syw.down,g0,g1,g4,c34];refine hn _ _ ?_;clear hn hp K;refine seq_cond false (by simp only [sw.down,rE,reduceIte,rL,rA,rM,rD,svn.down,syw.down,g0,g1,g4]) (fun hx=>by cases hx) (fun _=> ?_);refine seq_skip ?_;refine seq_seq ?_;refine seq_reg fun K hn hp=> ?_;simp only [sw.down,rE,reduceIte,rL,rA,rM,rD,svn.down,syw.down,g0,g1,g4,c32];refine hn _ _ ?_;clear hn hp K;refine seq_cond true (by simp only [sw.down,rE,reduceIte,rL,rA,rM,rD,svn.down,syw.down,g0,g1,g4]) (fun _=> ?_) (fun hx=>by cases hx);have r1: ∀ox oy:Operand,abin Tryz.prog tb .rem 339 ox oy (.val (.int .u32 (n:Int))) (.val (.int .u32 100))=some (.val (.int .u32 ((n % 100:Nat):Int))):=fun ox oy=>remU n 100 (by omega);have r3: ∀ox oy:Operand,abin Tryz.prog tb .quo 339 ox oy (.val (.int .u32 (n:Int))) (.val (.int .u32 100))=some (.val (.int .u32 ((n / 100:Nat):Int))):=fun ox oy=>quoU n 100 (by omega) (by omega);have s0:=sm0 (n % 100) (by omega);have s1:=sm1 (n % 100) (by omega);have wm:IntKind.u32.wrap (((n % 100:Nat):Int)*2)=((n % 100*2:Nat):Int):=by rw [show (((n % 100:Nat):Int)*2)=((n % 100*2:Nat):Int) by simp];exact wrap_u32 _ (by omega)
  have wa:IntKind.u32.wrap (((n % 100*2:Nat):Int)+1)=((n % 100*2+1:Nat):Int):=by rw [show (((n % 100*2:Nat):Int)+1)=((n % 100*2+1:Nat):Int) by simp];exact wrap_u32 _ (by omega)
  have w31:IntKind.i64.wrap ((3:Int) - 1)=2:=by decide
  have w32:IntKind.i64.wrap ((3:Int) - 2)=1:=by decide
  have i2:aindexAddr tb 88 (.sl b 1 3 1) (.val (.int .i64 2))=some (.ptr b 3):=ia88 b 1 3 2 (by omega);have i1:aindexAddr tb 88 (.sl b 1 3 1) (.val (.int .i64 1))=some (.ptr b 2):=ia88 b 1 3 1 (by omega);have i0:aindexAddr tb 88 (.sl b 1 3 1) (.val (.int .i64 0))=some (.ptr b 1):=ia88 b 1 3 0 (by omega);refine seq_reg fun K hn hp=> ?_;simp only [sw.down,rE,reduceIte,rL,rA,rM,rD,svn.down,syw.down,g0,g1,g4,r1,wm];refine hn _ _ ?_;clear hn hp K;refine seq_reg fun K hn hp=> ?_;simp only [sw.down,rE,reduceIte,rL,rA,rM,rD,svn.down,syw.down,g0,g1,g4,r3];refine hn _ _ ?_;clear hn hp K;refine seq_regW (sok xt) 0 0 13 [] (by kernel_rfl) fun K hn hp=> ?_;simp only [sw.down,rE,reduceIte,rL,rA,rM,rD,svn.down,syw.down,g0,g1,g4,wa,s0,s1,w31,w32,i2,i1,hg,z8_one,z8_cells,List.take,List.drop];refine hn _ _ ?_;clear hn hp K;have c10:decide ((0:Int)<1)=true:=by decide
  refine seq_reg fun K hn hp=> ?_;simp only [sw.down,rE,reduceIte,rL,rA,rM,rD,svn.down,syw.down,g0,g1,g4,w32];refine hn _ _ ?_;clear hn hp K;refine seq_reg fun K hn hp=> ?_;simp only [sw.down,rE,reduceIte,rL,rA,rM,rD,svn.down,syw.down,g0,g1,g4,c10];refine hn _ _ ?_;clear hn hp K;refine wpc_cond true (by simp only [sw.down,rE,reduceIte,rL,rA,rM,rD,svn.down,syw.down,g0,g1,g4]) (fun _=> ?_) (fun hx=>by cases hx);have wb:IntKind.u32.wrap (48+((n / 100:Nat):Int))=((48+n / 100:Nat):Int):=by rw [show (48+((n / 100:Nat):Int))=((48+n / 100:Nat):Int) by simp];exact wrap_u32 _ (by omega)
  have wc:IntKind.u8.wrap ((48+n / 100:Nat):Int)=((48+n / 100:Nat):Int):=wrap_u8 _ (by omega) (by omega);have e1:n % 100 % 10=n % 10:=by omega
  have e2:n % 100 / 10=n / 10 % 10:=by omega
  have zf: ∀x:Nat,AV.val (.int .u8 (x:Int))=bz8 x:=fun _=>rfl;refine reg fun K hn hp=> ?_;simp only [sw.down,rE,reduceIte,rL,rA,rM,rD,svn.down,syw.down,g0,g1,g4,wb,cvB,wc,zf,i0,z8_one,z8_cells,List.take,List.drop,Hp.set_t,T.get_put,e1,e2];refine hn _ _ (end_0 res306s ⟨rfl,?_,?_⟩)
  ·exact ((((Fr.refl (Nat.le_of_lt hb)).set (Nat.le_refl _) hb _).set (Nat.le_refl _) (by rw [Hp.set_n];exact hb) _).set (Nat.le_refl _) (by rw [Hp.set_n,Hp.set_n];exact hb) _)
  ·rw [Hp.set_t,T.get_put,if_pos rfl]
 ·exact ⟨_,rfl,by simp [T.get_put,argsTo],by simp [T.get_put,argsTo],by simp [T.get_put]⟩
end Go.Proofs.Kn
namespace Go.Proofs.Kn
open Go Go.Ev
set_option maxRecDepth 100000
set_option maxHeartbeats 4000000
theorem fmt4 (xt:Addr→Option Value) (h:Hp) (b n:Nat) (e:TypeId) (rest:List AV) (hb:b<h.n) (hg:h.t.get b=some (.cells (bz8 0::bz8 0::bz8 0::bz8 0::bz8 0::rest) e)) (h1:1000≤n) (h2:n<10000):
  FnA (SE xt) 306 [.sl b 1 4 1,.val (.int .u64 (n:Int))] h (fun r h'=>r= .ret (.tup [])∧Fr b h h'∧h'.t.get b=some (.cells (bz8 0::bz8 (48+n / 1000)::bz8 (48+n / 100 % 10)::bz8 (48+n / 10 % 10)::bz8 (48+n % 10)::rest) e)):=by
 refine FnA.walk (sok xt) (ft306s xt) rfl 167 rfl ?_;refine seq_reg fun K hn hp=> ?_;simp only [sw.down,rE,reduceIte,rL,rA,rM,rD,svn.down,syw.down,len88];refine hn _ _ ?_;clear hn hp K;refine seq_block fun KA A1 A2 A3 A4 A5=> ?_;refine wpc_loop (sok xt) (fun st=> ∃tm:T AV,st=⟨tm,167,h,[]⟩∧tm.get 0=some (.sl b 1 4 1)∧tm.get 1=some (.val (.int .u64 (n:Int)))∧tm.get 4=some (iv 4)) (fun _=>0) ?_ ?_
 ·rintro st ⟨tm,rfl,g0,g1,g4⟩;have c38:decide ((8:Int)≤4)=false:=by decide
  have c34:decide ((4:Int)≤4)=true:=by decide
  have c32:decide ((2:Int)≤0)=false:=by decide
  have c10:decide ((0:Int)<0)=false:=by decide
  refine seq_seq ?_;refine seq_reg fun K hn hp=> ?_;simp only [sw.down,rE,reduceIte,rL,rA,rM,rD,svn.down,syw.down,g0,g1,g4,c38];refine hn _ _ ?_;clear hn hp K;refine seq_cond false (by simp only [sw.down,rE,reduceIte,rL,rA,rM,rD,svn.down,syw.down,g0,g1,g4]) (fun hx=>by cases hx) (fun _=> ?_);refine seq_exit (A2 _ ?_);have v1:=wrap_u32 n (by omega);refine seq_reg fun K hn hp=> ?_;simp only [sw.down,rE,reduceIte,rL,rA,rM,rD,svn.down,syw.down,g0,g1,g4,cvA,v1];refine hn _ _ ?_;clear hn hp K;refine seq_seq ?_;refine seq_reg fun K hn hp=> ?_;simp only [sw.down,rE,reduceIte,rL,rA,rM,rD,svn.down,syw.down,g0,g1,g4,c34];refine hn _ _ ?_;clear hn hp K;refine seq_cond true (by simp only [sw.down,rE,reduceIte,rL,rA,rM,rD,svn.down,syw.down,g0,g1,g4]) (fun _=> ?_) (fun hx=>by cases hx);have r1: ∀ox oy:Operand,abin Tryz.prog tb .rem 339 ox oy (.val (.int .u32 (n:Int))) (.val (.int .u32 10000))=some (.val (.int .u32 (n:Int))):=fun ox oy=>by
   have:=remU (P:=Tryz.prog) (t:=339) (ox:=ox) (oy:=oy) n 10000 (by omega);rw [Nat.mod_eq_of_lt h2] at this;exact this
  have r2: ∀ox oy:Operand,abin Tryz.prog tb .quo 339 ox oy (.val (.int .u32 (n:Int))) (.val (.int .u32 10000))=some (.val (.int .u32 ((n / 10000:Nat):Int))):=fun ox oy=>quoU n 10000 (by omega) (by omega);have r3: ∀ox oy:Operand,abin Tryz.prog tb .quo 339 ox oy (.val (.int .u32 (n:Int))) (.val (.int .u32 100))=some (.val (.int .u32 ((n / 100:Nat):Int))):=fun ox oy=>quoU n 100 (by omega) (by omega);have r4: ∀ox oy:Operand,abin Tryz.prog tb .rem 339 ox oy (.val (.int .u32 (n:Int))) (.val (.int .u32 100))=some (.val (.int .u32 ((n % 100:Nat):Int))):=fun ox oy=>remU n 100 (by omega);have wm:IntKind.u32.wrap (((n % 100:Nat):Int)*2)=((n % 100*2:Nat):Int):=by rw [show (((n % 100:Nat):Int)*2)=((n % 100*2:Nat):Int) by simp];exact wrap_u32 _ (by omega)
  have wa:IntKind.u32.wrap (((n % 100*2:Nat):Int)+1)=((n % 100*2+1:Nat):Int):=by rw [show (((n % 100*2:Nat):Int)+1)=((n % 100*2+1:Nat):Int) by simp];exact wrap_u32 _ (by omega)
  have wm2:IntKind.u32.wrap (((n / 100:Nat):Int)*2)=((n / 100*2:Nat):Int):=by rw [show (((n / 100:Nat):Int)*2)=((n / 100*2:Nat):Int) by simp];exact wrap_u32 _ (by omega)
  have wa2:IntKind.u32.wrap (((n / 100*2:Nat):Int)+1)=((n / 100*2+1:Nat):Int):=by rw [show (((n / 100*2:Nat):Int)+1)=((n / 100*2+1:Nat):Int) by simp];exact wrap_u32 _ (by omega)
  have s0:=sm0 (n % 100) (by omega);have s1:=sm1 (n % 100) (by omega);have t0:=sm0 (n / 100) (by omega);have t1:=sm1 (n / 100) (by omega);have w1:IntKind.i64.wrap ((4:Int) - 1)=3:=by decide
  have w2:IntKind.i64.wrap ((4:Int) - 2)=2:=by decide
  have w3:IntKind.i64.wrap ((4:Int) - 3)=1:=by decide
  have w4:IntKind.i64.wrap ((4:Int) - 4)=0:=by decide
  have i3:aindexAddr tb 88 (.sl b 1 4 1) (.val (.int .i64 3))=some (.ptr b 4):=ia88 b 1 4 3 (by omega);have i2:aindexAddr tb 88 (.sl b 1 4 1) (.val (.int .i64 2))=some (.ptr b 3):=ia88 b 1 4 2 (by omega);have i1:aindexAddr tb 88 (.sl b 1 4 1) (.val (.int .i64 1))=some (.ptr b 2):=ia88 b 1 4 1 (by omega);have i0:aindexAddr tb 88 (.sl b 1 4 1) (.val (.int .i64 0))=some (.ptr b 1):=ia88 b 1 4 0 (by omega);have e1:n % 100 % 10=n % 10:=by omega
  have e2:n % 100 / 10=n / 10 % 10:=by omega
  have e4:n / 100 / 10=n / 1000:=by omega
  refine seq_reg fun K hn hp=> ?_;simp only [sw.down,rE,reduceIte,rL,rA,rM,rD,svn.down,syw.down,g0,g1,g4,r1];refine hn _ _ ?_;clear hn hp K;refine seq_reg fun K hn hp=> ?_;simp only [sw.down,rE,reduceIte,rL,rA,rM,rD,svn.down,syw.down,g0,g1,g4,r2];refine hn _ _ ?_;clear hn hp K;refine seq_reg fun K hn hp=> ?_;simp only [sw.down,rE,reduceIte,rL,rA,rM,rD,svn.down,syw.down,g0,g1,g4,r3,r4,wm,wm2];refine hn _ _ ?_;clear hn hp K;refine seq_regW (sok xt) 0 0 13 [] (by kernel_rfl) fun K hn hp=> ?_;simp only [sw.down,rE,reduceIte,rL,rA,rM,rD,svn.down,syw.down,g0,g1,g4,wa,s0,s1,w1,w2,i3,i2,hg,z8_one,z8_cells,List.take,List.drop];refine hn _ _ ?_;clear hn hp K;obtain ⟨h3,hh3⟩: ∃h3:Hp,h3=(({t:=h.t,n:=h.n}:Hp).set b (.cells (bz8 0::bz8 0::bz8 0::bz8 0::bz8 (48+n % 100 % 10)::rest) e)).set b (.cells (bz8 0::bz8 0::bz8 0::bz8 (48+n % 100 / 10)::bz8 (48+n % 100 % 10)::rest) e):=⟨_,rfl⟩;have n3:h3.n=h.n:=by rw [hh3];rfl
  have g3:h3.t.get b=some (.cells (bz8 0::bz8 0::bz8 0::bz8 (48+n % 100 / 10)::bz8 (48+n % 100 % 10)::rest) e):=by rw [hh3,Hp.set_t,T.get_put,if_pos rfl]
  have f3:Fr b h h3:=by rw [hh3];exact ((Fr.refl (Nat.le_of_lt hb)).set (Nat.le_refl _) hb _).set (Nat.le_refl _) (by rw [Hp.set_n];exact hb) _
  rw [←hh3];clear hh3;refine seq_regW (sok xt) 0 0 13 [] (by kernel_rfl) fun K hn hp=> ?_;simp only [sw.down,rE,reduceIte,rL,rA,rM,rD,svn.down,syw.down,g0,g1,g4,wa2,t0,t1,w3,w4,i1,i0,g3,z8_one,z8_cells,List.take,List.drop];refine hn _ _ ?_;clear hn hp K;refine seq_reg fun K hn hp=> ?_;simp only [sw.down,rE,reduceIte,rL,rA,rM,rD,svn.down,syw.down,g0,g1,g4,w4];refine hn _ _ ?_;clear hn hp K;refine seq_seq ?_;refine seq_reg fun K hn hp=> ?_;simp only [sw.down,rE,reduceIte,rL,rA,rM,rD,svn.down,syw.down,g0,g1,g4,c32];refine hn _ _ ?_;clear hn hp K;refine seq_cond false (by simp only [sw.down,rE,reduceIte,rL,rA,rM,rD,svn.down,syw.down,g0,g1,g4]) (fun hx=>by cases hx) (fun _=> ?_);refine seq_skip ?_;refine seq_reg fun K hn hp=> ?_;simp only [sw.down,rE,reduceIte,rL,rA,rM,rD,svn.down,syw.down,g0,g1,g4,c10];refine hn _ _ ?_;clear hn hp K;refine wpc_cond false (by simp only [sw.down,rE,reduceIte,rL,rA,rM,rD,svn.down,syw.down,g0,g1,g4]) (fun hx=>by cases hx) (fun _=> ?_);refine wpc_skip (end_0 res306s ⟨rfl,?_,?_⟩)
  ·exact (f3.set (Nat.le_refl _) (by omega) _).set (Nat.le_refl _) (by show b<h3.n;omega) _
  ·rw [Hp.set_t,T.get_put,if_pos rfl,e1,e2,e4]
 ·exact ⟨_,rfl,by simp [T.get_put,argsTo],by simp [T.get_put,argsTo],by simp [T.get_put]⟩
end Go.Proofs.Kn
namespace Go.Proofs.Kn
open Go Go.Ev
set_option maxRecDepth 100000
set_option maxHeartbeats 4000000
theorem ft241s (xt:Addr→Option Value):(SE xt).ft.get 241=some Tryz.f241:=by kernel_rfl
theorem ft332s (xt:Addr→Option Value):(SE xt).ft.get 332=some Tryz.f332:=by kernel_rfl
theorem ft333s (xt:Addr→Option Value):(SE xt).ft.get 333=some Tryz.f333:=by kernel_rfl
theorem ft305s (xt:Addr→Option Value):(SE xt).ft.get 305=some Tryz.f305:=by kernel_rfl
theorem res305s:Tryz.f305.results.toList=[.tmp 2]:=by kernel_rfl
theorem lib_1 {xt:Addr→Option Value} {f:FuncId} {fn:Func} {a b:Value} (hf:(SE xt).ft.get f=some fn) (hbo:fn.body.isSome=true) (ha: ∀(c:Ctx) (x:Value),R c (.val a) x→x=a) (hb: ∀c:Ctx,R c (.val b) b) (hcon: ∀w,Calls Tryz.prog f #[a] w fun e w'=>e= .returned b∧w'=w) (h:Hp) {K:CR→Hp→Prop} (hk: ∀n,h.n<n→K (.ret (.val b)) (h.up n)):FnA (SE xt) f [.val a] h K:=by
 refine FnA.calm (v:= .ret (.val b)) ⟨_,h,⟨Nat.le_refl _,⟨_,hf,hbo⟩,fun lim _ ct w args' g hxt har=> ?_⟩,rfl,Fr.refl (Nat.le_refl _)⟩ hk;simp only [Go.Ev.RL] at har;obtain ⟨x,_,rfl,hx,rfl⟩:=har;have:=ha _ _ hx;subst this;refine (callsIn_wide.2 (hcon w)).mono fun e w' ⟨h1,h2⟩=>⟨ct,by rw [h2];exact Stp.refl g,_,h1,hb _⟩
theorem L129:Go.Proofs.Lays.n129 Tryz.prog Tryz.lays171_ren:={Tryz.lays171 with}
theorem L317:Go.Proofs.Lays.n317 Tryz.prog Tryz.lays171_ren:={Tryz.lays171 with}
theorem L318:Go.Proofs.Lays.n318 Tryz.prog Tryz.lays171_ren:={Tryz.lays171 with}
theorem len64_c (xt:Addr→Option Value) (h:Hp) (n:Nat) (hn:n<10000) {K:CR→Hp→Prop} (hk: ∀m,h.n<m→K (.ret (iv (Lib.bitLen n))) (h.up m)):FnA (SE xt) 241 [.val (.int .u64 (n:Int))] h K:=
 lib_1 (ft241s xt) rfl (fun _ _ q=>by simpa only [R] using q) (fun _=>by simp only [R]) (fun w=>Go.Proofs.Any.bits_Len64 L129 (n:Int) w (by omega) (by omega)) h hk
theorem l10_c (xt:Addr→Option Value) (h:Hp) (n:Nat) (hn:n≤64) {K:CR→Hp→Prop} (hk: ∀m,h.n<m→K (.ret (iv (Lib.l10 n))) (h.up m)):FnA (SE xt) 332 [iv n] h K:=
 lib_1 (ft332s xt) rfl (fun _ _ q=>by simpa only [R] using q) (fun _=>by simp only [R]) (fun w=>Go.Proofs.Any.internal_strconv_log10Pow2 L317 n hn w) h hk
theorem bool2_c (xt:Addr→Option Value) (h:Hp) (b:Bool) {K:CR→Hp→Prop} (hk: ∀m,h.n<m→K (.ret (iv (if b then 1 else 0))) (h.up m)):FnA (SE xt) 333 [.val (.bool b)] h K:=
 lib_1 (ft333s xt) rfl (fun _ _ q=>by simpa only [R] using q) (fun _=>by simp only [R]) (fun w=>Go.Proofs.Any.internal_strconv_bool2_int L318 b w) h hk
theorem bit64: ∀n:Nat,n<10000→Lib.bitLen n≤64:=by
 have:((List.range 10000).all fun n=>Nat.ble (Lib.bitLen n) 64)=true:=by kernel_rfl
 intro n hn;exact Nat.le_of_ble_eq_true (List.all_eq_true.1 this n (List.mem_range.2 hn))
theorem ia431 (k:Nat) (hk:k<20):aindexAddr tb 431 (.val (.pointer (some ⟨1,0,none⟩))) (iv k)=some (.val (.pointer (some ⟨1,k,none⟩))):=by
 have e1:aint (iv k)=some (Int.ofNat k):=rfl;have e2:te431.d= .array 20 341:=by kernel_rfl
 have e3:te341.size=1:=by kernel_rfl
 have e4:Nat.blt k 20=true:=by rw [Nat.blt_eq];exact hk
 simp only [aindexAddr,tg431,tg341,e1,e2,e3,e4,cond_true,padd,Nat.mul_one];simp [Addr.add]
 try omega
theorem ld341x {xt:Addr→Option Value} (hx:Lx xt) (h:Hp) (k:Nat) (hk:k<20):aload tb xt h 341 (.val (.pointer (some ⟨1,k,none⟩)))=some (.val (.int .u64 ((10 ^ k:Nat):Int))):=by
 have e:te341.agg=false:=by kernel_rfl
 have hb:Nat.blt k 20=true:=by rw [Nat.blt_eq];exact hk
 have:=hx.p ⟨1,k,none⟩ (.int .u64 ((10 ^ k:Nat):Int)) (by simp only [x0,hb];rfl);simp only [aload,tg341,e,cond_false,this]
theorem num_c (xt:Addr→Option Value) (hx:Lx xt) (h:Hp) (n:Nat) (h1:1≤n) (h2:n<10000) {K:CR→Hp→Prop} (hk: ∀m,h.n<m→K (.ret (iv (Lib.nDigits n))) (h.up m)):FnA (SE xt) 305 [.val (.int .u64 (n:Int))] h K:=by
 refine FnA.calm ?_ hk;clear hk K;obtain ⟨he,hle⟩:=Lib.numDigits_eq n h1 (by omega);refine FnA.walk (sok xt) (ft305s xt) rfl 15 rfl ?_;refine seq_reg fun K hn hp=> ?_;simp only [sw.down,rE,reduceIte,rL,rA,rM,rD,svn.down,syw.down];refine hn _ _ ?_;clear hn hp K;refine seq_reg fun K hn hp=> ?_;simp only [sw.down,rE,reduceIte,rL,rA,rM,rD,svn.down,syw.down];refine callA_func (sok xt) (len64_c xt h n h2 fun m1 hm1=> ?_);simp only [sw.down,rE,reduceIte,rL,rA,rM,rD,svn.down,syw.down];refine callA_func (sok xt) (l10_c xt _ (Lib.bitLen n) (bit64 n h2) fun m2 hm2=> ?_);rw [Hp.up_n] at hm2;simp only [sw.down,rE,reduceIte,rL,rA,rM,rD,svn.down,syw.down,Hp.up_up];refine hn _ _ ?_;clear hn hp K;have ia:=ia431 (Lib.l10 (Lib.bitLen n)) (by omega);have ld:=ld341x hx h (Lib.l10 (Lib.bitLen n)) (by omega);have hd:decide (((10 ^ Lib.l10 (Lib.bitLen n):Nat):Int)≤(n:Int))=decide (10 ^ Lib.l10 (Lib.bitLen n)≤n):=decide_eq_decide.2 ⟨fun q=>by omega,fun q=>by omega⟩;have hnd:IntKind.i64.wrap ((Lib.l10 (Lib.bitLen n):Int)+(if decide (10 ^ Lib.l10 (Lib.bitLen n)≤n)=true then 1 else 0))=(Lib.nDigits n:Int):=by
  rw [←he];by_cases hq:10 ^ Lib.l10 (Lib.bitLen n)≤n
  ·rw [if_pos (decide_eq_true hq),if_pos hq,wrap_i64 _ (by omega) (by omega)];simp
  ·rw [if_neg (by simpa using hq),if_neg hq,wrap_i64 _ (by omega) (by omega)];simp
 refine seq_reg fun K hn hp=> ?_;simp only [sw.down,rE,reduceIte,rL,rA,rM,rD,svn.down,syw.down,aeval_global,ia,ld,hd];refine callA_func (sok xt) (bool2_c xt _ _ fun m3 hm3=> ?_);rw [Hp.up_n] at hm3;simp only [sw.down,rE,reduceIte,rL,rA,rM,rD,svn.down,syw.down,hnd,Hp.up_up];have fin:Fr h.n h (h.up m3):=(Fr.refl (Nat.le_refl _)).up (by omega);refine hn _ _ (wpc_ret (end_1 res305s ⟨?_,fin⟩));simp [T.get_put]
end Go.Proofs.Kn
namespace Go.Proofs.Kn
open Go Go.Ev
set_option maxRecDepth 100000
set_option maxHeartbeats 4000000
def rest19:List AV:=List.replicate 19 (bz8 0)
theorem al405 (h:Hp):aoAlloc tb h 405=some (.ptr h.n 0,h.new (.cells (bz8 0::bz8 0::bz8 0::bz8 0::bz8 0::rest19) 405)):=
 al_of (zs:=List.replicate 24 (.int .u8 0)) tg405 (by kernel_rfl)
theorem sl405 {h:Hp} {b d:Nat} {x y z u w:AV} (hd:d=3∨d=4) (hb:h.t.get b=some (.cells (x::y::z::u::w::rest19) 405)):aslice tb h 405 (.ptr b 0) (some (.val (.int .i64 1))) (some (iv ((1+d:Nat):Int)))=some (.sl b 1 d 1):=by
 have e2:te405.d= .array 24 5:=by kernel_rfl
 have e3:te5.size=1:=by kernel_rfl
 have e4:abound 0 (some (.val (.int .i64 1)))=some 1:=rfl;have e5:abound 24 (some (iv ((1+d:Nat):Int)))=some (1+d):=rfl;simp only [aslice,tg405,tg5,e2,e3,hb,e4,e5];rcases hd with rfl|rfl
 ·rfl
 ·rfl
theorem cv_mid {h:Hp} {b:Nat} {l:List UInt8} {x:AV} {r:List AV} {e:TypeId} (hb:h.t.get b=some (.cells (x::((l.map ub)++r)) e)):aconv tb h 88 9 (.sl b 1 l.length 1)=some (sv l):=by
 have ha: ∀l:List UInt8,abytes (l.map ub)=some (l.map fun x=>(x.toNat:Int)):=by
  intro l;induction l with
  |nil=>rfl
  |cons x l ih=>simp only [List.map_cons,ub,abytes] at ih ⊢;rw [ih]
 have b1:(Nat.beq 1 1 && Nat.ble (1+l.length) (x::((l.map ub)++r)).length)=true:=by simp [Nat.ble_eq];omega
 have e1:((x::((l.map ub)++r)).drop 1).take l.length=l.map ub:=by
  rw [List.drop_succ_cons,List.drop_zero,List.take_append_of_le_length (by simp),List.take_of_length_le (by simp)]
 have e9:te9.d= .str:=by kernel_rfl
 have e5:te5.d= .int .u8:=by kernel_rfl
 simp only [aconv,tg88,d88,tg9,e9,tg5,e5,hb,b1,e1,ha,cond_true,sv,bs,List.map_map];have:(fun n:Int=>UInt8.ofNat n.toNat)∘(fun x:UInt8=>(x.toNat:Int))=id:=by funext x;simp
 rw [this,List.map_id]
theorem ub_dg (m:Nat):ub (dg m)=bz8 (48+m % 10):=by
 have:(dg m).toNat=48+m % 10:=by
  rw [dg,UInt8.toNat_ofNat'];have:m % 10<10:=Nat.mod_lt _ (by omega);omega
 rw [ub,this];rfl
theorem nd3 {n:Nat} (h1:100≤n) (h2:n<1000):Lib.nDigits n=3:=Lib.nDigits_unique 2 n (by omega) (by omega)
theorem nd4 {n:Nat} (h1:1000≤n) (h2:n<10000):Lib.nDigits n=4:=Lib.nDigits_unique 3 n (by omega) (by omega)
theorem fmt_c (xt:Addr→Option Value) (h:Hp) (b n d:Nat) (hd:d=(dec n).length) (hb:b<h.n) (hg:h.t.get b=some (.cells (bz8 0::bz8 0::bz8 0::bz8 0::bz8 0::rest19) 405)) (h1:100≤n) (h2:n<10000):
  FnA (SE xt) 306 [.sl b 1 d 1,.val (.int .u64 (n:Int))] h (fun r h'=>r= .ret (.tup [])∧Fr b h h'∧(∃y z u w,h'.t.get b=some (.cells (bz8 0::y::z::u::w::rest19) 405))∧aconv tb h' 88 9 (.sl b 1 d 1)=some (sv (dec n))):=by
 by_cases h3:n<1000
 ·have hdec:dec n=[dg (n / 100),dg (n / 10),dg n]:=by unfold dec;rw [if_neg (by omega),if_neg (by omega),if_pos h3]
  have hd3:d=3:=by rw [hd,hdec];rfl
  subst hd3;refine (fmt3 xt h b n 405 rest19 hb hg h1 h3).mono fun r h' ⟨q1,q2,q3⟩=>⟨q1,q2,⟨_,_,_,_,q3⟩,?_⟩;have:h'.t.get b=some (.cells (bz8 0::(((dec n).map ub)++(bz8 0::rest19))) 405):=by
   rw [q3,hdec];simp only [List.map_cons,List.map_nil,ub_dg,List.cons_append,List.nil_append];rw [show n / 100 % 10=n / 100 by omega]
  have:=cv_mid this;rw [hdec] at this ⊢;exact this
 ·have hdec:dec n=[dg (n / 1000),dg (n / 100),dg (n / 10),dg n]:=by unfold dec;rw [if_neg (by omega),if_neg (by omega),if_neg h3]
  have hd4:d=4:=by rw [hd,hdec];rfl
  subst hd4;refine (fmt4 xt h b n 405 rest19 hb hg (by omega) h2).mono fun r h' ⟨q1,q2,q3⟩=>⟨q1,q2,⟨_,_,_,_,q3⟩,?_⟩;have:h'.t.get b=some (.cells (bz8 0::(((dec n).map ub)++rest19)) 405):=by
   rw [q3,hdec];simp only [List.map_cons,List.map_nil,ub_dg,List.cons_append,List.nil_append];rw [show n / 1000 % 10=n / 1000 by omega]
  have:=cv_mid this;rw [hdec] at this ⊢;exact this
theorem ft258s (xt:Addr→Option Value):(SE xt).ft.get 258=some Tryz.f258:=by kernel_rfl
theorem res258s:Tryz.f258.results.toList=[.tmp 4]:=by kernel_rfl
theorem format_c (xt:Addr→Option Value) (hx:Lx xt) (h:Hp) (n:Nat) (h1:100≤n) (h2:n<10000) {K:CR→Hp→Prop} (hk: ∀m,h.n<m→K (.ret (sv (dec n))) (h.up m)):FnA (SE xt) 258 [iv n,.val (.int .i64 10)] h K:=by
 refine FnA.calm ?_ hk;clear hk K;refine FnA.walk (sok xt) (ft258s xt) rfl 54 rfl ?_;have ct:decide ((10:Int)=10)=true:=by decide
 have cle:decide ((0:Int)≤(n:Int))=true:=decide_eq_true (by omega);have clt:decide ((n:Int)<100)=false:=decide_eq_false (by omega);have cl0:decide ((n:Int)<0)=false:=decide_eq_false (by omega);have wc:=wrap_u64 n (by omega);obtain ⟨d,hd⟩: ∃d,d=(dec n).length:=⟨_,rfl⟩;have hdd:Lib.nDigits n=d∧(d=3∨d=4):=by
  by_cases h3:n<1000
  ·have:d=3:=by rw [hd];unfold dec;rw [if_neg (by omega),if_neg (by omega),if_pos h3];rfl
   exact ⟨by rw [nd3 h1 h3,this],.inl this⟩
  ·have:d=4:=by rw [hd];unfold dec;rw [if_neg (by omega),if_neg (by omega),if_neg h3];rfl
   exact ⟨by rw [nd4 (by omega) h2,this],.inr this⟩
 obtain ⟨hnd,hd34⟩:=hdd;have w1d:IntKind.i64.wrap (1+(d:Int))=((1+d:Nat):Int):=by rw [wrap_i64 _ (by omega) (by omega)];simp
 refine seq_reg fun K hn hp=> ?_;simp only [sw.down,rE,reduceIte,rL,rA,rM,rD,svn.down,syw.down];refine hn _ _ ?_;clear hn hp K;refine seq_seq ?_;refine seq_reg fun K hn hp=> ?_;simp only [sw.down,rE,reduceIte,rL,rA,rM,rD,svn.down,syw.down,ct];refine hn _ _ ?_;clear hn hp K;refine seq_cond true (by simp only [sw.down,rE,reduceIte,rL,rA,rM,rD,svn.down,syw.down]) (fun _=> ?_) (fun hx=>by cases hx);refine seq_seq ?_;refine seq_seq ?_;refine seq_reg fun K hn hp=> ?_;simp only [sw.down,rE,reduceIte,rL,rA,rM,rD,svn.down,syw.down,cle,clt];refine hn _ _ ?_;clear hn hp K;refine seq_cond false (by simp only [sw.down,rE,reduceIte,rL,rA,rM,rD,svn.down,syw.down]) (fun hx=>by cases hx) (fun _=> ?_);refine seq_skip ?_;refine seq_seq ?_;refine seq_reg fun K hn hp=> ?_;simp only [sw.down,rE,reduceIte,rL,rA,rM,rD,svn.down,syw.down,al405];refine hn _ _ ?_;clear hn hp K;obtain ⟨h1',hh1,n1,s1,k1,f1⟩:=newE h (.cells (bz8 0::bz8 0::bz8 0::bz8 0::bz8 0::rest19) 405);rw [←hh1];clear hh1;refine seq_seq ?_;refine seq_reg fun K hn hp=> ?_;simp only [sw.down,rE,reduceIte,rL,rA,rM,rD,svn.down,syw.down,cvC,wc];refine hn _ _ ?_;clear hn hp K;refine seq_seq ?_;refine seq_seq ?_;refine seq_reg fun K hn hp=> ?_;simp only [sw.down,rE,reduceIte,rL,rA,rM,rD,svn.down,syw.down,cl0];refine hn _ _ ?_;clear hn hp K;refine seq_cond false (by simp only [sw.down,rE,reduceIte,rL,rA,rM,rD,svn.down,syw.down]) (fun hx=>by cases hx) (fun _=> ?_);refine seq_skip ?_;refine seq_seq ?_;refine seq_reg fun K hn hp=> ?_;simp only [sw.down,rE,reduceIte,rL,rA,rM,rD,svn.down,syw.down];refine callA_func (sok xt) (num_c xt hx h1' n (by omega) h2 fun m2 hm2=> ?_);rw [hnd];simp only [sw.down,rE,reduceIte,rL,rA,rM,rD,svn.down,syw.down];refine hn _ _ ?_;clear hn hp K;have s2:(h1'.up m2).t.get h.n=some (.cells (bz8 0::bz8 0::bz8 0::bz8 0::bz8 0::rest19) 405):=s1;have slA:=sl405 hd34 s2;refine seq_seq ?_;refine seq_reg fun K hn hp=> ?_;simp only [sw.down,rE,reduceIte,rL,rA,rM,rD,svn.down,syw.down,w1d,slA,WOp_slice,Option.map_none,Option.map_some];refine callA_func (sok xt) ((fmt_c xt (h1'.up m2) h.n n d hd (by rw [Hp.up_n];omega) s2 h1 h2).mono fun r h3 ⟨q1,q2,⟨y,z,u,w,q3⟩,q4⟩=> ?_);subst q1;simp only [sw.down,rE,reduceIte,rL,rA,rM,rD,svn.down,syw.down];refine hn _ _ ?_;clear hn hp K;have slB:=sl405 hd34 q3;have f3:Fr h.n h h3:=(f1.up (by omega:h1'.n≤m2)).trans q2 (Nat.le_refl _);refine seq_seq ?_;refine seq_seq ?_;refine seq_reg fun K hn hp=> ?_;simp only [sw.down,rE,reduceIte,rL,rA,rM,rD,svn.down,syw.down,cl0];refine hn _ _ ?_;clear hn hp K;refine seq_cond false (by simp only [sw.down,rE,reduceIte,rL,rA,rM,rD,svn.down,syw.down]) (fun hx=>by cases hx) (fun _=> ?_);refine seq_skip ?_;refine seq_seq ?_;refine seq_reg fun K hn hp=> ?_;simp only [sw.down,rE,reduceIte,rL,rA,rM,rD,svn.down,syw.down,w1d,slB,q4,WOp_slice,Option.map_none,Option.map_some];refine hn _ _ ?_;clear hn hp K;refine seq_ret (end_1 res258s ⟨?_,f3⟩);simp [T.get_put]
theorem ft201s (xt:Addr→Option Value):(SE xt).ft.get 201=some Tryz.f201:=by kernel_rfl
theorem res201s:Tryz.f201.results.toList=[.tmp 2]:=by kernel_rfl
theorem itoa1_c (xt:Addr→Option Value) (hx:Lx xt) (h:Hp) (n:Nat) (h1:100≤n) (h2:n<10000) {K:CR→Hp→Prop} (hk: ∀m,h.n<m→K (.ret (sv (dec n))) (h.up m)):FnA (SE xt) 201 [iv n] h K:=by
 refine FnA.calm ?_ hk;clear hk K;refine FnA.walk (sok xt) (ft201s xt) rfl 5 rfl ?_;refine seq_reg fun K hn hp=> ?_;simp only [sw.down,rE,reduceIte,rL,rA,rM,rD,svn.down,syw.down];refine hn _ _ ?_;clear hn hp K;refine seq_reg fun K hn hp=> ?_;simp only [sw.down,rE,reduceIte,rL,rA,rM,rD,svn.down,syw.down];refine callA_func (sok xt) (format_c xt hx h n h1 h2 fun m hm=> ?_);simp only [sw.down,rE,reduceIte,rL,rA,rM,rD,svn.down,syw.down];have fin:Fr h.n h (h.up m):=(Fr.refl (Nat.le_refl _)).up (by omega);refine hn _ _ (wpc_ret (end_1 res201s ⟨?_,fin⟩));simp [T.get_put]
theorem ft135s (xt:Addr→Option Value):(SE xt).ft.get 135=some Tryz.f135:=by kernel_rfl
theorem res135s:Tryz.f135.results.toList=[.tmp 2]:=by kernel_rfl
theorem itoa2_c (xt:Addr→Option Value) (hx:Lx xt) (h:Hp) (n:Nat) (h1:100≤n) (h2:n<10000) {K:CR→Hp→Prop} (hk: ∀m,h.n<m→K (.ret (sv (dec n))) (h.up m)):FnA (SE xt) 135 [iv n] h K:=by
 refine FnA.calm ?_ hk;clear hk K;refine FnA.walk (sok xt) (ft135s xt) rfl 5 rfl ?_;refine seq_reg fun K hn hp=> ?_;simp only [sw.down,rE,reduceIte,rL,rA,rM,rD,svn.down,syw.down];refine hn _ _ ?_;clear hn hp K;refine seq_reg fun K hn hp=> ?_;simp only [sw.down,rE,reduceIte,rL,rA,rM,rD,svn.down,syw.down];refine callA_func (sok xt) (itoa1_c xt hx h n h1 h2 fun m hm=> ?_);simp only [sw.down,rE,reduceIte,rL,rA,rM,rD,svn.down,syw.down];have fin:Fr h.n h (h.up m):=(Fr.refl (Nat.le_refl _)).up (by omega);refine hn _ _ (wpc_ret (end_1 res135s ⟨?_,fin⟩));simp [T.get_put]
theorem decDigits_dec {i:Nat} (hi:i<100):Lib.decDigits i=dec i:=by
 have:((List.range 100).all fun i=>Lib.decDigits i==dec i)=true:=by kernel_rfl
 exact beq_iff_eq.1 (List.all_eq_true.1 this i (List.mem_range.2 hi))
theorem itoa_c (xt:Addr→Option Value) (hx:Lx xt) (h:Hp) (n:Nat) (hn:n<10000) {K:CR→Hp→Prop} (hk: ∀k,h.n<k→K (.ret (sv (dec n))) (h.up k)):FnA (SE xt) 135 [.val (.int .i64 (n:Int))] h K:=by
 by_cases hs:n<100
 ·refine lib_1 (b:= .string (bs (dec n))) (ft135s xt) rfl (fun _ _ q=>by simpa only [R] using q) (fun _=>by simp only [R]) (fun w=> ?_) h hk;have:=Tryz.strconv_Itoa_small n hs w;rw [decDigits_dec hs] at this;exact this
 ·exact itoa2_c xt hx h n (by omega) hn hk
end Go.Proofs.Kn
