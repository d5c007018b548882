/- Parts of the proof, joined by a program. -/
import Derived.Test.YtmklipblkmlojaaGreatDoorQD
set_option linter.all false
open Nat renaming reduceEqDiff → rE, reduceLeDiff → rD, reduceAdd → rA, reduceMul → rM, reduceLT → rL
open Go.Ev.T renaming get_put → xZZ
open Nat renaming le_refl → xZY, le_of_lt → xZU, le_trans → xZR, zero_le → xZO
open List renaming getElem?_eq_getElem → xZX, mem_of_getElem? → xZW, drop_eq_nil_of_le → xZP
open Go.Ev.Fr renaming refl → xZV
open Go.Ev.FnA renaming walk → xZT, calm → xZS
open Go.Ev.Hp renaming up_up → xZQ, up_n → xZN
namespace Go.Proofs.Kn
open Go Go.Ev
set_option maxRecDepth 100000
abbrev iv (n:Int):AV:= .val (.int .i64 n)
theorem ft117 (xt:Addr->Option Value):(SE xt).ft.get 72=some Tryz.f72:=by kernel_rfl
theorem res117:Tryz.f72.results.toList=[.tmp 6]:=by kernel_rfl
theorem in_ok (xt:Addr->Option Value) (h:Hp) (x lo hi:Int):FnA (SE xt) 72 [.val (.int .i64 x),.val (.int .i64 lo),.val (.int .i64 hi)] h (fun r h'=>r= .ret (.val (.bool (decide (lo<=x) && decide (x<=hi))))/\Fr h.n h h'):=by
 refine xZT (sok xt) (ft117 xt) rfl 15 rfl ?_;refine qA fun K hn hp=> ?_;simp only [sw.1,rE,reduceIte,rL,rA,rM,rD];apply hn;cases hx:decide (lo<=x)
 ·refine qA fun K hn hp=> ?_;simp only [sw.1,rE,reduceIte,rL,rA,rM,rD,hx];apply hn;refine qJ (jB res117 ⟨?_,xZV (xZY _)⟩);simp [xZZ]
 ·refine qA fun K hn hp=> ?_;simp only [sw.1,rE,reduceIte,rL,rA,rM,rD,hx];apply hn;refine qJ (jB res117 ⟨?_,xZV (xZY _)⟩);simp [xZZ]
theorem in_c (xt:Addr->Option Value) (h:Hp) (x lo hi:Int) {K:CR->Hp->Prop} (hk: ∀n,h.n<n->K (.ret (.val (.bool (decide (lo<=x) && decide (x<=hi))))) (h.up n)):
  FnA (SE xt) 72 [.val (.int .i64 x),.val (.int .i64 lo),.val (.int .i64 hi)] h K:=xZS (in_ok xt h x lo hi) hk
theorem ft76 (xt:Addr->Option Value):(SE xt).ft.get 32=some Tryz.f32:=by kernel_rfl
theorem res76:Tryz.f32.results.toList=[.tmp 6]:=by kernel_rfl
theorem rin_ok (xt:Addr->Option Value) (h:Hp) (x lo hi:Int):FnA (SE xt) 32 [.val (.int .i64 x),.val (.int .i64 lo),.val (.int .i64 hi)] h (fun r h'=>r= .ret (.val (.bool (decide (lo<=x) && decide (x<=hi))))/\Fr h.n h h'):=by
 refine xZT (sok xt) (ft76 xt) rfl 15 rfl ?_;refine qA fun K hn hp=> ?_;simp only [sw.1,rE,reduceIte,rL,rA,rM,rD];apply hn;cases hx:decide (lo<=x)
 ·refine qA fun K hn hp=> ?_;simp only [sw.1,rE,reduceIte,rL,rA,rM,rD,hx];apply hn;refine qJ (jB res76 ⟨?_,xZV (xZY _)⟩);simp [xZZ]
 ·refine qA fun K hn hp=> ?_;simp only [sw.1,rE,reduceIte,rL,rA,rM,rD,hx];apply hn;refine qJ (jB res76 ⟨?_,xZV (xZY _)⟩);simp [xZZ]
theorem wQ (xt:Addr->Option Value) (h:Hp) (x lo hi:Int) {K:CR->Hp->Prop} (hk: ∀n,h.n<n->K (.ret (.val (.bool (decide (lo<=x) && decide (x<=hi))))) (h.up n)):
  FnA (SE xt) 32 [.val (.int .i64 x),.val (.int .i64 lo),.val (.int .i64 hi)] h K:=xZS (rin_ok xt h x lo hi) hk
def yI (E:Env) (h0:Hp) (fv:AV) (el:List Value->AV) (cs:List (List Value)) (p:List Value->Bool):Prop:=
 ∀(n:Nat) (c:List Value) (K:CR->Hp->Prop),h0.n<=n->c∈cs->(∀n',n<n'->K (.ret (.val (.bool (p c)))) (h0.up n'))->CallA E fv [el c] (h0.up n) K
theorem ft196 (xt:Addr->Option Value):(SE xt).ft.get 121=some Tryz.f121:=by kernel_rfl
theorem res196:Tryz.f121.results.toList=[.tmp 4]:=by kernel_rfl
theorem idx196_ok (xt:Addr->Option Value) (h:Hp) (v fv:AV) (cs:List (List Value)) (p:List Value->Bool) (hv:RowAt xt h 1 v cs) (hl:cs.length<=9223372036854775807) (hf:yI (SE xt) h fv (fun c=> .val (c.headD default)) cs p):
  FnA (SE xt) 121 [v,fv] h (fun r h'=>r= .ret (iv (yC p cs 0))/\Fr h.n h h'):=by
 refine xZT (sok xt) (ft196 xt) rfl 19 rfl ?_;have hlen:=fun h'=>hv.len (h':=h') wV rfl;refine qA fun K hn hp=> ?_;simp only [sw.1,rE,reduceIte,rL,rA,rM,rD];apply hn;clear hn hp K;refine qL ?_;refine qA fun K hn hp=> ?_;simp only [sw.1,rE,reduceIte,rL,rA,rM,rD,hlen];apply hn;clear hn hp K;refine qO fun K k1 k2 k3 k4 k5=> ?_;refine jD (sok xt) (fun st=> ∃(k n:Nat) (tm:T AV),st=⟨tm,19,h.up n,[]⟩/\h.n<=n/\k<=cs.length/\tm.get 0=some v/\tm.get 1=some fv/\tm.get 7=some (iv cs.length)/\tm.get 8=some (iv k)/\yC p cs 0=yC p (cs.drop k) k)
  (fun st=>cs.length - (match st.tm.get 8 with|some (.val (.int _ n))=>n.toNat|_=>0)) ?_ ?_
 ·rintro st ⟨k,n,tm,rfl,hn1,hk,g0,g1,g7,g8,hfi⟩;refine qA fun K hn hp=> ?_;simp only [sw.1,rE,reduceIte,rL,rA,rM,rD,g0,g1,g7,g8];apply hn;clear hn hp K;have ht:(decide ((k:Int)<(cs.length:Int)))=decide (k<cs.length):=by simp
  by_cases hlt:k<cs.length
  ·obtain ⟨c,hc⟩: ∃c,cs[k]? =some c:=⟨_,xZX hlt⟩;have hidx:=hv.idx wV rfl bO rfl hlt (k:= .i64);have hld:qW tb xt (h.up n) 85 (elp v (k*1))=some (.val (c.headD default)):=by
    have hcl:c.length=1:=hv.1 c (xZW hc);obtain ⟨u,rfl⟩: ∃u,c=[u]:=by cases c with
     |nil=>simp at hcl
     |cons u l=>cases l with
      |nil=>exact ⟨u,rfl⟩
      |cons _ _=>simp at hcl
    exact (hv.up hn1).load0 bO rfl hc rfl
   refine qF true (by simp only [sw.1,rE,reduceIte,rL,rA,rM,rD,g0,g1,g7,g8,ht,hlt]) (fun _=> ?_) (fun hx=>by cases hx);refine qV ?_;refine qO fun K' k1' k2' k3' k4' k5'=> ?_;refine qA fun K hn hp=> ?_;simp only [sw.1,rE,reduceIte,rL,rA,rM,rD,g0,g1,g7,g8];apply hn;clear hn hp K;refine qA fun K hn hp=> ?_;simp only [sw.1,rE,reduceIte,rL,rA,rM,rD,g0,g1,g7,g8,hidx,hld];refine hf n c _ hn1 (xZW hc) fun n1 hn1'=> ?_;have hn1':=xZU hn1';simp only [sw.1,rE,reduceIte,rL,rA,rM,rD,g0,g1,g7,g8,xZQ];apply hn;clear hn hp;rw [wE p hc] at hfi;cases hp:p c with
   |true=>
    refine qT true (by simp only [sw.1,rE,reduceIte,rL,rA,rM,rD]) (fun _=> ?_) (fun hx=>by cases hx);refine qA fun K hn hp=> ?_;simp only [sw.1,rE,reduceIte,rL,rA,rM,rD,g8];apply hn;clear hn hp K;refine qJ (k4' _ (k4 _ (jB res196 ⟨?_,(xZV (xZY _)).up (xZR hn1 hn1')⟩)));simp [xZZ,g8,hfi,hp]
   |false=>
    refine qT false (by simp only [sw.1,rE,reduceIte,rL,rA,rM,rD]) (fun hx=>by cases hx) (fun _=> ?_);refine jY (k1' _ ?_);refine reg fun K hn hp'=> ?_;have hw:IntKind.i64.wrap ((k:Int)+1)=((k+1:Nat):Int):=by rw [jF _ (by omega) (by omega)];simp
    simp only [sw.1,rE,reduceIte,rL,rA,rM,rD,g8,hw];apply hn;refine ⟨⟨k+1,n1,_,rfl,xZR hn1 hn1',hlt,?_,?_,?_,?_,?_⟩,?_⟩
    ·simp [xZZ,g0]
    ·simp [xZZ,g1]
    ·simp [xZZ,g7]
    ·simp [xZZ]
    ·rw [hfi,hp];simp
    ·have hm:cs.length - (k+1)<cs.length - k:=by omega
     simpa [xZZ,g8] using hm
  ·refine qF false (by simp only [sw.1,rE,reduceIte,rL,rA,rM,rD,g0,g1,g7,g8,ht,hlt]) (fun hx=>by cases hx) (fun _=> ?_);refine jA (k2 _ ?_);refine qA fun K hn hp=> ?_;simp only [sw.1,rE,reduceIte,rL,rA,rM,rD];apply hn;clear hn hp K;refine qJ (jB res196 ⟨?_,(xZV (xZY _)).up hn1⟩);have:cs.drop k=[]:=xZP (by omega);simp [xZZ,hfi,this,yC]
 ·refine ⟨0,h.n,_,rfl,xZY _,xZO _,?_,?_,?_,?_,?_⟩;all_goals simp [xZZ]
theorem idx196_c (xt:Addr->Option Value) (h:Hp) (v fv:AV) (cs:List (List Value)) (p:List Value->Bool) (hv:RowAt xt h 1 v cs) (hl:cs.length<=9223372036854775807) (hf:yI (SE xt) h fv (fun c=> .val (c.headD default)) cs p)
  {K:CR->Hp->Prop} (hk: ∀n,h.n<n->K (.ret (iv (yC p cs 0))) (h.up n)):FnA (SE xt) 121 [v,fv] h K:=xZS (idx196_ok xt h v fv cs p hv hl hf) hk
theorem ft149 (xt:Addr->Option Value):(SE xt).ft.get 74=some Tryz.f74:=by kernel_rfl
theorem res149:Tryz.f74.results.toList=[.tmp 4]:=by kernel_rfl
theorem any149_c (xt:Addr->Option Value) (h:Hp) (v fv:AV) (cs:List (List Value)) (p:List Value->Bool) (hv:RowAt xt h 1 v cs) (hl:cs.length<=9223372036854775807) (hf:yI (SE xt) h fv (fun c=> .val (c.headD default)) cs p)
  {K:CR->Hp->Prop} (hk: ∀n,h.n<n->K (.ret (.val (.bool (cs.any p)))) (h.up n)):FnA (SE xt) 74 [v,fv] h K:=by
 refine xZS ?_ hk;refine xZT (sok xt) (ft149 xt) rfl 9 rfl ?_;refine qA fun K hn hp=> ?_;simp only [sw.1,rE,reduceIte,rL,rA,rM,rD];apply hn;refine qA fun K hn hp=> ?_;simp only [sw.1,rE,reduceIte,rL,rA,rM,rD];refine qB (sok xt) (idx196_c xt h v fv cs p hv hl hf fun n1 hn1=> ?_);have hn1:=xZU hn1;simp only [sw.1,rE,reduceIte,rL,rA,rM,rD,uS];refine hn _ _ (qJ (jB res149 ⟨?_,(xZV (xZY _)).up hn1⟩));simp [xZZ]
theorem ft197 (xt:Addr->Option Value):(SE xt).ft.get 122=some Tryz.f122:=by kernel_rfl
theorem res197:Tryz.f122.results.toList=[.tmp 4]:=by kernel_rfl
theorem idx197_ok (xt:Addr->Option Value) (h:Hp) (v fv:AV) (cs:List (List Value)) (p:List Value->Bool) (hv:RowAt xt h 4 v cs) (hl:cs.length<=9223372036854775807) (hf:yI (SE xt) h fv (fun c=> .agg (c.map .val)) cs p):
  FnA (SE xt) 122 [v,fv] h (fun r h'=>r= .ret (iv (yC p cs 0))/\Fr h.n h h'):=by
 refine xZT (sok xt) (ft197 xt) rfl 19 rfl ?_;have hlen:=fun h'=>hv.len (h':=h') wY rfl;refine qA fun K hn hp=> ?_;simp only [sw.1,rE,reduceIte,rL,rA,rM,rD];apply hn;clear hn hp K;refine qL ?_;refine qA fun K hn hp=> ?_;simp only [sw.1,rE,reduceIte,rL,rA,rM,rD,hlen];apply hn;clear hn hp K;refine qO fun K k1 k2 k3 k4 k5=> ?_;refine jD (sok xt) (fun st=> ∃(k n:Nat) (tm:T AV),st=⟨tm,19,h.up n,[]⟩/\h.n<=n/\k<=cs.length/\tm.get 0=some v/\tm.get 1=some fv/\tm.get 7=some (iv cs.length)/\tm.get 8=some (iv k)/\yC p cs 0=yC p (cs.drop k) k)
  (fun st=>cs.length - (match st.tm.get 8 with|some (.val (.int _ n))=>n.toNat|_=>0)) ?_ ?_
 ·rintro st ⟨k,n,tm,rfl,hn1,hk,g0,g1,g7,g8,hfi⟩;refine qA fun K hn hp=> ?_;simp only [sw.1,rE,reduceIte,rL,rA,rM,rD,g0,g1,g7,g8];apply hn;clear hn hp K;have ht:(decide ((k:Int)<(cs.length:Int)))=decide (k<cs.length):=by simp
  by_cases hlt:k<cs.length
  ·obtain ⟨c,hc⟩: ∃c,cs[k]? =some c:=⟨_,xZX hlt⟩;have hidx:=hv.idx wY rfl uE rfl hlt (k:= .i64);have hld:qW tb xt (h.up n) 87 (elp v (k*4))=some (.agg (c.map .val)):=(hv.up hn1).loadA uE rfl rfl hc;refine qF true (by simp only [sw.1,rE,reduceIte,rL,rA,rM,rD,g0,g1,g7,g8,ht,hlt]) (fun _=> ?_) (fun hx=>by cases hx);refine qV ?_;refine qO fun K' k1' k2' k3' k4' k5'=> ?_;refine qA fun K hn hp=> ?_;simp only [sw.1,rE,reduceIte,rL,rA,rM,rD,g0,g1,g7,g8];apply hn;clear hn hp K;refine qA fun K hn hp=> ?_;simp only [sw.1,rE,reduceIte,rL,rA,rM,rD,g0,g1,g7,g8,hidx,hld];refine hf n c _ hn1 (xZW hc) fun n1 hn1'=> ?_;have hn1':=xZU hn1';simp only [sw.1,rE,reduceIte,rL,rA,rM,rD,g0,g1,g7,g8,xZQ];apply hn;clear hn hp;rw [wE p hc] at hfi;cases hp:p c with
   |true=>
    refine qT true (by simp only [sw.1,rE,reduceIte,rL,rA,rM,rD]) (fun _=> ?_) (fun hx=>by cases hx);refine qA fun K hn hp=> ?_;simp only [sw.1,rE,reduceIte,rL,rA,rM,rD,g8];apply hn;clear hn hp K;refine qJ (k4' _ (k4 _ (jB res197 ⟨?_,(xZV (xZY _)).up (xZR hn1 hn1')⟩)));simp [xZZ,g8,hfi,hp]
   |false=>
    refine qT false (by simp only [sw.1,rE,reduceIte,rL,rA,rM,rD]) (fun hx=>by cases hx) (fun _=> ?_);refine jY (k1' _ ?_);refine reg fun K hn hp'=> ?_;have hw:IntKind.i64.wrap ((k:Int)+1)=((k+1:Nat):Int):=by rw [jF _ (by omega) (by omega)];simp
    simp only [sw.1,rE,reduceIte,rL,rA,rM,rD,g8,hw];apply hn;refine ⟨⟨k+1,n1,_,rfl,xZR hn1 hn1',hlt,?_,?_,?_,?_,?_⟩,?_⟩
    ·simp [xZZ,g0]
    ·simp [xZZ,g1]
    ·simp [xZZ,g7]
    ·simp [xZZ]
    ·rw [hfi,hp];simp
    ·have hm:cs.length - (k+1)<cs.length - k:=by omega
     simpa [xZZ,g8] using hm
  ·refine qF false (by simp only [sw.1,rE,reduceIte,rL,rA,rM,rD,g0,g1,g7,g8,ht,hlt]) (fun hx=>by cases hx) (fun _=> ?_);refine jA (k2 _ ?_);refine qA fun K hn hp=> ?_;simp only [sw.1,rE,reduceIte,rL,rA,rM,rD];apply hn;clear hn hp K;refine qJ (jB res197 ⟨?_,(xZV (xZY _)).up hn1⟩);have:cs.drop k=[]:=xZP (by omega);simp [xZZ,hfi,this,yC]
 ·refine ⟨0,h.n,_,rfl,xZY _,xZO _,?_,?_,?_,?_,?_⟩;all_goals simp [xZZ]
theorem idx197_c (xt:Addr->Option Value) (h:Hp) (v fv:AV) (cs:List (List Value)) (p:List Value->Bool) (hv:RowAt xt h 4 v cs) (hl:cs.length<=9223372036854775807) (hf:yI (SE xt) h fv (fun c=> .agg (c.map .val)) cs p)
  {K:CR->Hp->Prop} (hk: ∀n,h.n<n->K (.ret (iv (yC p cs 0))) (h.up n)):FnA (SE xt) 122 [v,fv] h K:=xZS (idx197_ok xt h v fv cs p hv hl hf) hk
theorem ft151 (xt:Addr->Option Value):(SE xt).ft.get 76=some Tryz.f76:=by kernel_rfl
theorem res151:Tryz.f76.results.toList=[.tmp 4]:=by kernel_rfl
theorem any151_c (xt:Addr->Option Value) (h:Hp) (v fv:AV) (cs:List (List Value)) (p:List Value->Bool) (hv:RowAt xt h 4 v cs) (hl:cs.length<=9223372036854775807) (hf:yI (SE xt) h fv (fun c=> .agg (c.map .val)) cs p)
  {K:CR->Hp->Prop} (hk: ∀n,h.n<n->K (.ret (.val (.bool (cs.any p)))) (h.up n)):FnA (SE xt) 76 [v,fv] h K:=by
 refine xZS ?_ hk;refine xZT (sok xt) (ft151 xt) rfl 9 rfl ?_;refine qA fun K hn hp=> ?_;simp only [sw.1,rE,reduceIte,rL,rA,rM,rD];apply hn;refine qA fun K hn hp=> ?_;simp only [sw.1,rE,reduceIte,rL,rA,rM,rD];refine qB (sok xt) (idx197_c xt h v fv cs p hv hl hf fun n1 hn1=> ?_);have hn1:=xZU hn1;simp only [sw.1,rE,reduceIte,rL,rA,rM,rD,uS];refine hn _ _ (qJ (jB res151 ⟨?_,(xZV (xZY _)).up hn1⟩));simp [xZZ]
theorem ft198 (xt:Addr->Option Value):(SE xt).ft.get 123=some Tryz.f123:=by kernel_rfl
theorem res198:Tryz.f123.results.toList=[.tmp 4]:=by kernel_rfl
theorem idx198_ok (xt:Addr->Option Value) (h:Hp) (v fv:AV) (cs:List (List Value)) (p:List Value->Bool) (hv:RowAt xt h 3 v cs) (hl:cs.length<=9223372036854775807) (hf:yI (SE xt) h fv (fun c=> .agg (c.map .val)) cs p):
  FnA (SE xt) 123 [v,fv] h (fun r h'=>r= .ret (iv (yC p cs 0))/\Fr h.n h h'):=by
 refine xZT (sok xt) (ft198 xt) rfl 19 rfl ?_;have hlen:=fun h'=>hv.len (h':=h') wX rfl;refine qA fun K hn hp=> ?_;simp only [sw.1,rE,reduceIte,rL,rA,rM,rD];apply hn;clear hn hp K;refine qL ?_;refine qA fun K hn hp=> ?_;simp only [sw.1,rE,reduceIte,rL,rA,rM,rD,hlen];apply hn;clear hn hp K;refine qO fun K k1 k2 k3 k4 k5=> ?_;refine jD (sok xt) (fun st=> ∃(k n:Nat) (tm:T AV),st=⟨tm,19,h.up n,[]⟩/\h.n<=n/\k<=cs.length/\tm.get 0=some v/\tm.get 1=some fv/\tm.get 7=some (iv cs.length)/\tm.get 8=some (iv k)/\yC p cs 0=yC p (cs.drop k) k)
  (fun st=>cs.length - (match st.tm.get 8 with|some (.val (.int _ n))=>n.toNat|_=>0)) ?_ ?_
 ·rintro st ⟨k,n,tm,rfl,hn1,hk,g0,g1,g7,g8,hfi⟩;refine qA fun K hn hp=> ?_;simp only [sw.1,rE,reduceIte,rL,rA,rM,rD,g0,g1,g7,g8];apply hn;clear hn hp K;have ht:(decide ((k:Int)<(cs.length:Int)))=decide (k<cs.length):=by simp
  by_cases hlt:k<cs.length
  ·obtain ⟨c,hc⟩: ∃c,cs[k]? =some c:=⟨_,xZX hlt⟩;have hidx:=hv.idx wX rfl uJ rfl hlt (k:= .i64);have hld:qW tb xt (h.up n) 90 (elp v (k*3))=some (.agg (c.map .val)):=(hv.up hn1).loadA uJ rfl rfl hc;refine qF true (by simp only [sw.1,rE,reduceIte,rL,rA,rM,rD,g0,g1,g7,g8,ht,hlt]) (fun _=> ?_) (fun hx=>by cases hx);refine qV ?_;refine qO fun K' k1' k2' k3' k4' k5'=> ?_;refine qA fun K hn hp=> ?_;simp only [sw.1,rE,reduceIte,rL,rA,rM,rD,g0,g1,g7,g8];apply hn;clear hn hp K;refine qA fun K hn hp=> ?_;simp only [sw.1,rE,reduceIte,rL,rA,rM,rD,g0,g1,g7,g8,hidx,hld];refine hf n c _ hn1 (xZW hc) fun n1 hn1'=> ?_;have hn1':=xZU hn1';simp only [sw.1,rE,reduceIte,rL,rA,rM,rD,g0,g1,g7,g8,xZQ];apply hn;clear hn hp;rw [wE p hc] at hfi;cases hp:p c with
   |true=>
    refine qT true (by simp only [sw.1,rE,reduceIte,rL,rA,rM,rD]) (fun _=> ?_) (fun hx=>by cases hx);refine qA fun K hn hp=> ?_;simp only [sw.1,rE,reduceIte,rL,rA,rM,rD,g8];apply hn;clear hn hp K;refine qJ (k4' _ (k4 _ (jB res198 ⟨?_,(xZV (xZY _)).up (xZR hn1 hn1')⟩)));simp [xZZ,g8,hfi,hp]
   |false=>
    refine qT false (by simp only [sw.1,rE,reduceIte,rL,rA,rM,rD]) (fun hx=>by cases hx) (fun _=> ?_);refine jY (k1' _ ?_);refine reg fun K hn hp'=> ?_;have hw:IntKind.i64.wrap ((k:Int)+1)=((k+1:Nat):Int):=by rw [jF _ (by omega) (by omega)];simp
    simp only [sw.1,rE,reduceIte,rL,rA,rM,rD,g8,hw];apply hn;refine ⟨⟨k+1,n1,_,rfl,xZR hn1 hn1',hlt,?_,?_,?_,?_,?_⟩,?_⟩
    ·simp [xZZ,g0]
    ·simp [xZZ,g1]
    ·simp [xZZ,g7]
    ·simp [xZZ]
    ·rw [hfi,hp];simp
    ·have hm:cs.length - (k+1)<cs.length - k:=by omega
     simpa [xZZ,g8] using hm
  ·refine qF false (by simp only [sw.1,rE,reduceIte,rL,rA,rM,rD,g0,g1,g7,g8,ht,hlt]) (fun hx=>by cases hx) (fun _=> ?_);refine jA (k2 _ ?_);refine qA fun K hn hp=> ?_;simp only [sw.1,rE,reduceIte,rL,rA,rM,rD];apply hn;clear hn hp K;refine qJ (jB res198 ⟨?_,(xZV (xZY _)).up hn1⟩);have:cs.drop k=[]:=xZP (by omega);simp [xZZ,hfi,this,yC]
 ·refine ⟨0,h.n,_,rfl,xZY _,xZO _,?_,?_,?_,?_,?_⟩;all_goals simp [xZZ]
theorem idx198_c (xt:Addr->Option Value) (h:Hp) (v fv:AV) (cs:List (List Value)) (p:List Value->Bool) (hv:RowAt xt h 3 v cs) (hl:cs.length<=9223372036854775807) (hf:yI (SE xt) h fv (fun c=> .agg (c.map .val)) cs p)
  {K:CR->Hp->Prop} (hk: ∀n,h.n<n->K (.ret (iv (yC p cs 0))) (h.up n)):FnA (SE xt) 123 [v,fv] h K:=xZS (idx198_ok xt h v fv cs p hv hl hf) hk
theorem ft155 (xt:Addr->Option Value):(SE xt).ft.get 80=some Tryz.f80:=by kernel_rfl
theorem res155:Tryz.f80.results.toList=[.tmp 4]:=by kernel_rfl
theorem any155_c (xt:Addr->Option Value) (h:Hp) (v fv:AV) (cs:List (List Value)) (p:List Value->Bool) (hv:RowAt xt h 3 v cs) (hl:cs.length<=9223372036854775807) (hf:yI (SE xt) h fv (fun c=> .agg (c.map .val)) cs p)
  {K:CR->Hp->Prop} (hk: ∀n,h.n<n->K (.ret (.val (.bool (cs.any p)))) (h.up n)):FnA (SE xt) 80 [v,fv] h K:=by
 refine xZS ?_ hk;refine xZT (sok xt) (ft155 xt) rfl 9 rfl ?_;refine qA fun K hn hp=> ?_;simp only [sw.1,rE,reduceIte,rL,rA,rM,rD];apply hn;refine qA fun K hn hp=> ?_;simp only [sw.1,rE,reduceIte,rL,rA,rM,rD];refine qB (sok xt) (idx198_c xt h v fv cs p hv hl hf fun n1 hn1=> ?_);have hn1:=xZU hn1;simp only [sw.1,rE,reduceIte,rL,rA,rM,rD,uS];refine hn _ _ (qJ (jB res155 ⟨?_,(xZV (xZY _)).up hn1⟩));simp [xZZ]
theorem ft163 (xt:Addr->Option Value):(SE xt).ft.get 124=some Tryz.f124:=by kernel_rfl
theorem res163:Tryz.f124.results.toList=[.tmp 4]:=by kernel_rfl
theorem idx163_ok (xt:Addr->Option Value) (h:Hp) (v fv:AV) (cs:List (List Value)) (p:List Value->Bool) (hv:RowAt xt h 2 v cs) (hl:cs.length<=9223372036854775807) (hf:yI (SE xt) h fv (fun c=> .agg (c.map .val)) cs p):
  FnA (SE xt) 124 [v,fv] h (fun r h'=>r= .ret (iv (yC p cs 0))/\Fr h.n h h'):=by
 refine xZT (sok xt) (ft163 xt) rfl 19 rfl ?_;have hlen:=fun h'=>hv.len (h':=h') wW rfl;refine qA fun K hn hp=> ?_;simp only [sw.1,rE,reduceIte,rL,rA,rM,rD];apply hn;clear hn hp K;refine qL ?_;refine qA fun K hn hp=> ?_;simp only [sw.1,rE,reduceIte,rL,rA,rM,rD,hlen];apply hn;clear hn hp K;refine qO fun K k1 k2 k3 k4 k5=> ?_;refine jD (sok xt) (fun st=> ∃(k n:Nat) (tm:T AV),st=⟨tm,19,h.up n,[]⟩/\h.n<=n/\k<=cs.length/\tm.get 0=some v/\tm.get 1=some fv/\tm.get 7=some (iv cs.length)/\tm.get 8=some (iv k)/\yC p cs 0=yC p (cs.drop k) k)
  (fun st=>cs.length - (match st.tm.get 8 with|some (.val (.int _ n))=>n.toNat|_=>0)) ?_ ?_
 ·rintro st ⟨k,n,tm,rfl,hn1,hk,g0,g1,g7,g8,hfi⟩;refine qA fun K hn hp=> ?_;simp only [sw.1,rE,reduceIte,rL,rA,rM,rD,g0,g1,g7,g8];apply hn;clear hn hp K;have ht:(decide ((k:Int)<(cs.length:Int)))=decide (k<cs.length):=by simp
  by_cases hlt:k<cs.length
  ·obtain ⟨c,hc⟩: ∃c,cs[k]? =some c:=⟨_,xZX hlt⟩;have hidx:=hv.idx wW rfl kW rfl hlt (k:= .i64);have hld:qW tb xt (h.up n) 92 (elp v (k*2))=some (.agg (c.map .val)):=(hv.up hn1).loadA kW rfl rfl hc;refine qF true (by simp only [sw.1,rE,reduceIte,rL,rA,rM,rD,g0,g1,g7,g8,ht,hlt]) (fun _=> ?_) (fun hx=>by cases hx);refine qV ?_;refine qO fun K' k1' k2' k3' k4' k5'=> ?_;refine qA fun K hn hp=> ?_;simp only [sw.1,rE,reduceIte,rL,rA,rM,rD,g0,g1,g7,g8];apply hn;clear hn hp K;refine qA fun K hn hp=> ?_;simp only [sw.1,rE,reduceIte,rL,rA,rM,rD,g0,g1,g7,g8,hidx,hld];refine hf n c _ hn1 (xZW hc) fun n1 hn1'=> ?_;have hn1':=xZU hn1';simp only [sw.1,rE,reduceIte,rL,rA,rM,rD,g0,g1,g7,g8,xZQ];apply hn;clear hn hp;rw [wE p hc] at hfi;cases hp:p c with
   |true=>
    refine qT true (by simp only [sw.1,rE,reduceIte,rL,rA,rM,rD]) (fun _=> ?_) (fun hx=>by cases hx);refine qA fun K hn hp=> ?_;simp only [sw.1,rE,reduceIte,rL,rA,rM,rD,g8];apply hn;clear hn hp K;refine qJ (k4' _ (k4 _ (jB res163 ⟨?_,(xZV (xZY _)).up (xZR hn1 hn1')⟩)));simp [xZZ,g8,hfi,hp]
   |false=>
    refine qT false (by simp only [sw.1,rE,reduceIte,rL,rA,rM,rD]) (fun hx=>by cases hx) (fun _=> ?_);refine jY (k1' _ ?_);refine reg fun K hn hp'=> ?_;have hw:IntKind.i64.wrap ((k:Int)+1)=((k+1:Nat):Int):=by rw [jF _ (by omega) (by omega)];simp
    simp only [sw.1,rE,reduceIte,rL,rA,rM,rD,g8,hw];apply hn;refine ⟨⟨k+1,n1,_,rfl,xZR hn1 hn1',hlt,?_,?_,?_,?_,?_⟩,?_⟩
    ·simp [xZZ,g0]
    ·simp [xZZ,g1]
    ·simp [xZZ,g7]
    ·simp [xZZ]
    ·rw [hfi,hp];simp
    ·have hm:cs.length - (k+1)<cs.length - k:=by omega
     simpa [xZZ,g8] using hm
  ·refine qF false (by simp only [sw.1,rE,reduceIte,rL,rA,rM,rD,g0,g1,g7,g8,ht,hlt]) (fun hx=>by cases hx) (fun _=> ?_);refine jA (k2 _ ?_);refine qA fun K hn hp=> ?_;simp only [sw.1,rE,reduceIte,rL,rA,rM,rD];apply hn;clear hn hp K;refine qJ (jB res163 ⟨?_,(xZV (xZY _)).up hn1⟩);have:cs.drop k=[]:=xZP (by omega);simp [xZZ,hfi,this,yC]
 ·refine ⟨0,h.n,_,rfl,xZY _,xZO _,?_,?_,?_,?_,?_⟩;all_goals simp [xZZ]
theorem idx163_c (xt:Addr->Option Value) (h:Hp) (v fv:AV) (cs:List (List Value)) (p:List Value->Bool) (hv:RowAt xt h 2 v cs) (hl:cs.length<=9223372036854775807) (hf:yI (SE xt) h fv (fun c=> .agg (c.map .val)) cs p)
  {K:CR->Hp->Prop} (hk: ∀n,h.n<n->K (.ret (iv (yC p cs 0))) (h.up n)):FnA (SE xt) 124 [v,fv] h K:=xZS (idx163_ok xt h v fv cs p hv hl hf) hk
theorem ft92 (xt:Addr->Option Value):(SE xt).ft.get 83=some Tryz.f83:=by kernel_rfl
theorem res92:Tryz.f83.results.toList=[.tmp 4]:=by kernel_rfl
theorem any92_c (xt:Addr->Option Value) (h:Hp) (v fv:AV) (cs:List (List Value)) (p:List Value->Bool) (hv:RowAt xt h 2 v cs) (hl:cs.length<=9223372036854775807) (hf:yI (SE xt) h fv (fun c=> .agg (c.map .val)) cs p)
  {K:CR->Hp->Prop} (hk: ∀n,h.n<n->K (.ret (.val (.bool (cs.any p)))) (h.up n)):FnA (SE xt) 83 [v,fv] h K:=by
 refine xZS ?_ hk;refine xZT (sok xt) (ft92 xt) rfl 9 rfl ?_;refine qA fun K hn hp=> ?_;simp only [sw.1,rE,reduceIte,rL,rA,rM,rD];apply hn;refine qA fun K hn hp=> ?_;simp only [sw.1,rE,reduceIte,rL,rA,rM,rD];refine qB (sok xt) (idx163_c xt h v fv cs p hv hl hf fun n1 hn1=> ?_);have hn1:=xZU hn1;simp only [sw.1,rE,reduceIte,rL,rA,rM,rD,uS];refine hn _ _ (qJ (jB res92 ⟨?_,(xZV (xZY _)).up hn1⟩));simp [xZZ]
end Go.Proofs.Kn
namespace Go.Proofs.Kn
open Go Go.Ev
set_option maxRecDepth 100000
def c1 (x:Int):List Value:=[.int .i64 x]
structure Mp where
 vc:AV
 vg:AV
 vk:AV
 vp:AV
 cells:List (List Int)
 T:Int
 H:Int
 gs:List (Int×Int×Int×Int)
 ks:List (Int×Int×Bool)
 ps:List (Int×Int)
def g4 (g:Int×Int×Int×Int):List Value:=[.int .i64 g.1,.int .i64 g.2.1,.int .i64 g.2.2.1,.int .i64 g.2.2.2]
def k3 (k:Int×Int×Bool):List Value:=[.int .i64 k.1,.int .i64 k.2.1,.bool k.2.2]
def p2 (p:Int×Int):List Value:=[.int .i64 p.1,.int .i64 p.2]
abbrev Mp.cs (m:Mp):List AV:=[m.vc,iv m.T,iv m.H,m.vg,m.vk,m.vp]
abbrev Mp.av (m:Mp):AV:= .agg m.cs
structure Mp.At (m:Mp) (xt:Addr->Option Value) (h:Hp):Prop where
 cells:GridAt xt h 1 m.vc (m.cells.map fun l=>l.map c1)
 gs:RowAt xt h 4 m.vg (m.gs.map g4)
 ks:RowAt xt h 3 m.vk (m.ks.map k3)
 ps:RowAt xt h 2 m.vp (m.ps.map p2)
 lc:m.cells.length<=9223372036854775807
 lr: ∀l∈m.cells,l.length<=9223372036854775807
 lg:m.gs.length<=9223372036854775807
 lk:m.ks.length<=9223372036854775807
 lp:m.ps.length<=9223372036854775807
theorem Mp.At.new {m:Mp} {xt:Addr->Option Value} {h:Hp} (a:m.At xt h) (o:AO):m.At xt (h.new o):=⟨a.cells.new o,a.gs.new o,a.ks.new o,a.ps.new o,a.lc,a.lr,a.lg,a.lk,a.lp⟩
theorem Mp.At.up {m:Mp} {xt:Addr->Option Value} {h:Hp} (a:m.At xt h) {n:Nat} (hn:h.n<=n):m.At xt (h.up n):=⟨a.cells.up hn,a.gs.up hn,a.ks.up hn,a.ps.up hn,a.lc,a.lr,a.lg,a.lk,a.lp⟩
theorem Mp.At.fr {m:Mp} {xt:Addr->Option Value} {h h':Hp} (a:m.At xt h) {M:Nat} (f:Fr M h h') (hM:h.n<=M):m.At xt h':=⟨a.cells.fr f hM,a.gs.fr f hM,a.ks.fr f hM,a.ps.fr f hM,a.lc,a.lr,a.lg,a.lk,a.lp⟩
theorem Mp.At.len {m:Mp} {xt:Addr->Option Value} {h:Hp} (a:m.At xt h) (h':Hp):vN tb h' 22 m.vc=some m.cells.length:=by
 have:=a.cells.len (h':=h') tg22 rfl;simpa using this
def Mp.R (m:Mp):Int:=m.cells.length
def Mp.C (m:Mp):Int:=(m.cells.headD []).length
def inB (x lo hi:Int):Bool:=decide (lo<=x) && decide (x<=hi)
def Mp.inside (m:Mp) (r c:Int):Bool:=inB r 0 (m.R - 1) && inB c 0 (m.C - 1)
theorem Mp.At.row {m:Mp} {xt:Addr->Option Value} {h:Hp} (a:m.At xt h) {i:Nat} {l:List Int} (hl:m.cells[i]? =some l): ∃v,(∀k:IntKind,qK tb 22 m.vc (.val (.int k (i:Int)))=some (elp m.vc i))/\qW tb xt h 42 (elp m.vc i)=some v/\RowAt xt h 1 v (l.map c1)/\(∀h':Hp,vN tb h' 42 v=some l.length):=by
 obtain ⟨v,h1,h2,h3⟩:=a.cells.at_ tg22 rfl wV rfl rfl (i:=i) (l:=l.map c1) (by simp [hl]);exact ⟨v,h1,h2,h3,fun h'=>by have:=h3.len (h':=h') wV rfl;simpa using this⟩
theorem ft153 (xt:Addr->Option Value):(SE xt).ft.get 78=some Tryz.f78:=by kernel_rfl
theorem res153:Tryz.f78.results.toList=[.tmp 6]:=by kernel_rfl
theorem pW (xt:Addr->Option Value) (h:Hp) (m:Mp) (ha:m.At xt h) (r c:Int) {K:CR->Hp->Prop} (hk: ∀n,h.n<n->K (.ret (.val (.bool (m.inside r c)))) (h.up n)):FnA (SE xt) 78 [m.av,iv r,iv c] h K:=by
 refine xZS ?_ hk;clear hk K;refine xZT (sok xt) (ft153 xt) rfl 23 rfl ?_;have ha1:=ha.new (.cells m.cs 27);have hlen:=ha.len;have hlc:=ha.lc;have hw:IntKind.i64.wrap ((m.cells.length:Int) - 1)=m.R - 1:=by rw [jF _ (by omega) (by omega)];rfl
 have one1:=ha.cells.one;refine qA fun K hn hp=> ?_;simp only [sw.1,rE,reduceIte,rL,rA,rM,rD];apply hn;refine qA fun K1 hn hp=> ?_;simp only [sw.1,rE,reduceIte,rL,rA,rM,rD,hlen,hw];refine qB (sok xt) (in_c xt _ _ _ _ fun m1 hm1=> ?_);simp only [Hp.new_n] at hm1;cases q1:(decide (0<=r) && decide (r<=m.R - 1))
 ·simp only [sw.1,rE,reduceIte,rL,rA,rM,rD,q1];refine hn _ _ (qJ (jB res153 ⟨?_,((xZV (xZY _)).new _).up (by simp [Hp.new_n];omega)⟩));simp [xZZ,Mp.inside,inB,q1]
 ·obtain ⟨l,hl⟩: ∃l,m.cells[0]? =some l:=by
   obtain ⟨q2,q3⟩:=Bool.and_eq_true_iff.1 q1;have q2:=of_decide_eq_true q2;have q3:=of_decide_eq_true q3;unfold Mp.R at q3;have hp:0<m.cells.length:=by omega
   exact ⟨_,xZX hp⟩
  obtain ⟨v,h1,h2,h3,h4⟩:=(ha1.up (n:=m1) (by simp [Hp.new_n];omega)).row hl;have h1:=h1 .i64;simp only [Int.natCast_zero,Int.ofNat_eq_natCast] at h1;have hll:=ha.lr l (xZW hl);have hC:m.C=l.length:=by
   simp only [Mp.C];cases hm:m.cells with
   |nil=>rw [hm] at hl;simp at hl
   |cons x y=>rw [hm] at hl;simp at hl;subst hl;rfl
  have hw2:IntKind.i64.wrap ((l.length:Int) - 1)=m.C - 1:=by rw [jF _ (by omega) (by omega),hC]
  simp only [sw.1,rE,reduceIte,rL,rA,rM,rD,q1,h1,h2,h4,hw2];refine qB (sok xt) (in_c xt _ _ _ _ fun m2 hm2=> ?_);simp only [xZN] at hm2;simp only [sw.1,rE,reduceIte,rL,rA,rM,rD,xZQ];refine hn _ _ (qJ (jB res153 ⟨?_,((xZV (xZY _)).new _).up (by simp [Hp.new_n];omega)⟩));simp [xZZ,Mp.inside,inB,q1]
end Go.Proofs.Kn
namespace Go.Proofs.Kn
open Go Go.Ev
set_option maxRecDepth 100000
def Mp.Rect (m:Mp):Prop:= ∀l∈m.cells,l.length=(m.cells.headD []).length
def Mp.kind (m:Mp) (r c:Int):Int:=(((m.cells[r.toNat]?).getD [])[c.toNat]?).getD 1
theorem y5 {x lo hi:Int}:inB x lo hi=true↔lo<=x/\x<=hi:=by simp [inB]
theorem Mp.inside_iff {m:Mp} {r c:Int}:m.inside r c=true↔(0<=r/\r<m.R)/\0<=c/\c<m.C:=by
 simp only [Mp.inside,Bool.and_eq_true,y5];omega
theorem Mp.At.cell {m:Mp} {xt:Addr->Option Value} {h:Hp} (a:m.At xt h) (hr:m.Rect) {r c:Int} (hi:m.inside r c=true): ∃(i j:Nat) (l:List Int) (v:AV),r=i/\c=j/\m.cells[i]? =some l/\l.length=m.C/\l[j]? =some (m.kind r c)/\qK tb 22 m.vc (.val (.int .i64 r))=some (elp m.vc i)/\qW tb xt h 42 (elp m.vc i)=some v/\qK tb 42 v (.val (.int .i64 c))=some (elp v j)/\qW tb xt h 85 (elp v j)=some (iv (m.kind r c)):=by
 obtain ⟨⟨r0,r1⟩,c0,c1⟩:=Mp.inside_iff.1 hi;obtain ⟨i,rfl⟩: ∃i:Nat,r=i:=⟨r.toNat,by omega⟩;obtain ⟨j,rfl⟩: ∃j:Nat,c=j:=⟨c.toNat,by omega⟩;unfold Mp.R at r1;have hi':i<m.cells.length:=by omega
 obtain ⟨l,hl⟩: ∃l,m.cells[i]? =some l:=⟨_,xZX hi'⟩;have hll:(l.length:Int)=m.C:=by rw [Mp.C,hr l (xZW hl)]
 have hj':j<l.length:=by omega
 obtain ⟨x,hx⟩: ∃x,l[j]? =some x:=⟨_,xZX hj'⟩;have hk:m.kind i j=x:=by simp [Mp.kind,hl,hx]
 obtain ⟨v,h1,h2,h3,_⟩:=a.row hl;refine ⟨i,j,l,v,rfl,rfl,hl,hll,by rw [hk];exact hx,h1 .i64,h2,?_,?_⟩
 ·have:=h3.idx wV rfl bO rfl (i:=j) (by rw [List.length_map];exact hj') (k:= .i64)
  rwa [Nat.mul_one] at this
 ·have:=h3.load0 bO rfl (i:=j) (c:=Go.Proofs.Kn.c1 x) (u:= .int .i64 x) (by simp [hx]) rfl;rw [Nat.mul_one] at this;rw [hk];exact this
theorem ft154 (xt:Addr->Option Value):(SE xt).ft.get 79=some Tryz.f79:=by kernel_rfl
theorem res154:Tryz.f79.results.toList=[.tmp 8]:=by kernel_rfl
def Mp.is (m:Mp) (r c k:Int):Bool:=m.inside r c && decide (m.kind r c=k)
theorem is_c (xt:Addr->Option Value) (h:Hp) (m:Mp) (ha:m.At xt h) (hr:m.Rect) (r c k:Int) {K:CR->Hp->Prop} (hk: ∀n,h.n<n->K (.ret (.val (.bool (m.is r c k)))) (h.up n)):FnA (SE xt) 79 [m.av,iv r,iv c,iv k] h K:=by
 refine xZS ?_ hk;clear hk K;refine xZT (sok xt) (ft154 xt) rfl 25 rfl ?_;have ha1:=ha.new (.cells m.cs 27);have one1:=ha.cells.one;have one2:=ha.gs.one;have one3:=ha.ks.one;have one4:=ha.ps.one;refine qA fun K hn hp=> ?_;simp only [sw.1,rE,reduceIte,rL,rA,rM,rD];apply hn;refine qA fun K1 hn hp=> ?_;simp only [sw.1,rE,reduceIte,rL,rA,rM,rD];refine qB (sok xt) (pW xt _ m ha1 r c fun m1 hm1=> ?_);simp only [Hp.new_n] at hm1;cases q1:m.inside r c
 ·simp only [sw.1,rE,reduceIte,rL,rA,rM,rD,q1];refine hn _ _ (qJ (jB res154 ⟨?_,((xZV (xZY _)).new _).up (by simp [Hp.new_n];omega)⟩));simp [xZZ,Mp.is,q1]
 ·obtain ⟨i,j,l,v,e1,e2,_,_,_,h1,h2,h3,h4⟩:=(ha1.up (n:=m1) (by simp [Hp.new_n];omega)).cell hr q1;simp only [sw.1,rE,reduceIte,rL,rA,rM,rD,q1,h1,h2,h3,h4];refine hn _ _ (qJ (jB res154 ⟨?_,((xZV (xZY _)).new _).up (by simp [Hp.new_n];omega)⟩));simp [xZZ,Mp.is,q1]
theorem ft150 (xt:Addr->Option Value):(SE xt).ft.get 75=some Tryz.f75:=by kernel_rfl
theorem res150:Tryz.f75.results.toList=[.tmp 2]:=by kernel_rfl
def zK (x:Int):Bool:=decide (x<1) || decide (3<x)
theorem bkind_ok (xt:Addr->Option Value) (h:Hp) (x:Int):FnA (SE xt) 75 [iv x] h (fun r h'=>r= .ret (.val (.bool (zK x)))/\Fr h.n h h'):=by
 refine xZT (sok xt) (ft150 xt) rfl 9 rfl ?_;refine qA fun K hn hp=> ?_;simp only [sw.1,rE,reduceIte,rL,rA,rM,rD];apply hn;cases c1:decide (x<1)
 ·refine qA fun K hn hp=> ?_;simp only [sw.1,rE,reduceIte,rL,rA,rM,rD,c1];apply hn;refine qJ (jB res150 ⟨?_,xZV (xZY _)⟩);simp [xZZ,zK,c1]
 ·refine qA fun K hn hp=> ?_;simp only [sw.1,rE,reduceIte,rL,rA,rM,rD,c1];apply hn;refine qJ (jB res150 ⟨?_,xZV (xZY _)⟩);simp [xZZ,zK,c1]
theorem bkind_c (xt:Addr->Option Value) (h:Hp) (x:Int) {K:CR->Hp->Prop} (hk: ∀n,h.n<n->K (.ret (.val (.bool (zK x)))) (h.up n)):FnA (SE xt) 75 [iv x] h K:=xZS (bkind_ok xt h x) hk
end Go.Proofs.Kn
namespace Go.Proofs.Kn
open Go Go.Ev
set_option maxRecDepth 100000
theorem ft152 (xt:Addr->Option Value):(SE xt).ft.get 77=some Tryz.f77:=by kernel_rfl
theorem qBL:Tryz.f77.results.toList=[.tmp 3]:=by kernel_rfl
def Mp.badG (m:Mp) (g:Int×Int×Int×Int):Bool:= !m.inside g.1 g.2.1 || (m.is g.1 g.2.1 1 || (!inB g.2.2.1 0 60 || !inB g.2.2.2 0 9))
theorem badG_ok (xt:Addr->Option Value) (h:Hp) (m:Mp) (ha:m.At xt h) (hr:m.Rect) (b:Nat) (hb:b<h.n) (q0:h.t.get b=some (.cells m.cs 27)) (g:Int×Int×Int×Int):FnA (SE xt) 77 [.agg [iv g.1,iv g.2.1,iv g.2.2.1,iv g.2.2.2],.ptr b 0] h (fun r h'=>r= .ret (.val (.bool (m.badG g)))/\Fr h.n h h'):=by
 refine xZT (sok xt) (ft152 xt) rfl 31 rfl ?_;have one1:=ha.cells.one;have one2:=ha.gs.one;have one3:=ha.ks.one;have one4:=ha.ps.one;refine qA fun K hn hp=> ?_;simp only [sw.1,rE,reduceIte,rL,rA,rM,rD];apply hn;obtain ⟨h1,hh1⟩: ∃h1:Hp,h1=h.new (.cells [iv g.1,iv g.2.1,iv g.2.2.1,iv g.2.2.2] 87):=⟨_,rfl⟩;rw [<-hh1];have ha1:m.At xt h1:=by rw [hh1];exact ha.new _
 have n1:h1.n=h.n+1:=by rw [hh1];rfl
 have f1:Fr h.n h h1:=by rw [hh1];exact (xZV (xZY _)).new _
 have q1:h1.t.get b=some (.cells m.cs 27):=by rw [f1.at_ b (.inl hb)];exact q0
 have q2:h1.t.get h.n=some (.cells [iv g.1,iv g.2.1,iv g.2.2.1,iv g.2.2.2] 87):=by rw [hh1,Hp.new_t,xZZ,if_pos rfl]
 refine qA fun K1 hn hp=> ?_;simp only [sw.1,rE,reduceIte,rL,rA,rM,rD,q1,q2];refine qB (sok xt) (pW xt _ m ha1 _ _ fun m1 hm1=> ?_);have hm1:=xZU hm1;cases e1:m.inside g.1 g.2.1
 ·simp only [sw.1,rE,reduceIte,rL,rA,rM,rD,e1,q1,q2];refine hn _ _ (qJ (jB qBL ⟨?_,f1.up hm1⟩));simp [xZZ,Mp.badG,e1]
 simp only [sw.1,rE,reduceIte,rL,rA,rM,rD,e1,q1,q2];refine qB (sok xt) (is_c xt _ m (ha1.up hm1) hr _ _ _ fun m2 hm2=> ?_);simp only [xZN] at hm2;cases e2:m.is g.1 g.2.1 1
 rotate_left
 ·simp only [sw.1,rE,reduceIte,rL,rA,rM,rD,e2,q1,q2,xZQ];refine hn _ _ (qJ (jB qBL ⟨?_,f1.up (by omega)⟩));simp [xZZ,Mp.badG,e1,e2]
 simp only [sw.1,rE,reduceIte,rL,rA,rM,rD,e2,q1,q2,xZQ];refine qB (sok xt) (in_c xt _ _ _ _ fun m3 hm3=> ?_);simp only [xZN] at hm3;cases e3:(decide (0<=g.2.2.1) && decide (g.2.2.1<=60))
 ·simp only [sw.1,rE,reduceIte,rL,rA,rM,rD,e3,q1,q2,xZQ];refine hn _ _ (qJ (jB qBL ⟨?_,f1.up (by omega)⟩));simp [xZZ,Mp.badG,e1,e2,inB,e3]
 simp only [sw.1,rE,reduceIte,rL,rA,rM,rD,e3,q1,q2,xZQ];refine qB (sok xt) (in_c xt _ _ _ _ fun m4 hm4=> ?_);simp only [xZN] at hm4;simp only [sw.1,rE,reduceIte,rL,rA,rM,rD,xZQ];refine hn _ _ (qJ (jB qBL ⟨?_,f1.up (by omega)⟩));simp [xZZ,Mp.badG,e1,e2,inB,e3]
theorem badG_c (xt:Addr->Option Value) (h:Hp) (m:Mp) (ha:m.At xt h) (hr:m.Rect) (b:Nat) (hb:b<h.n) (q0:h.t.get b=some (.cells m.cs 27)) (g:Int×Int×Int×Int) {K:CR->Hp->Prop} (hk: ∀n,h.n<n->K (.ret (.val (.bool (m.badG g)))) (h.up n)):FnA (SE xt) 77 [.agg [iv g.1,iv g.2.1,iv g.2.2.1,iv g.2.2.2],.ptr b 0] h K:=xZS (badG_ok xt h m ha hr b hb q0 g) hk
theorem ft157 (xt:Addr->Option Value):(SE xt).ft.get 82=some Tryz.f82:=by kernel_rfl
theorem res157:Tryz.f82.results.toList=[.tmp 2,.tmp 3]:=by kernel_rfl
def beyR (k:Int×Int×Bool):Int:=if k.2.2 then IntKind.i64.wrap (k.1+1) else k.1
def beyC (k:Int×Int×Bool):Int:=if k.2.2 then k.2.1 else IntKind.i64.wrap (k.2.1+1)
end Go.Proofs.Kn
namespace Go.Proofs.Kn
open Go Go.Ev
set_option maxRecDepth 100000
theorem ex_tup0 (a b:AV):zL (.tup [a,b]) 0=some a:=rfl
theorem ex_tup1 (a b:AV):zL (.tup [a,b]) 1=some b:=rfl
theorem bey_ok (xt:Addr->Option Value) (h:Hp) (k:Int×Int×Bool):FnA (SE xt) 82 [.agg [iv k.1,iv k.2.1,.val (.bool k.2.2)]] h (fun r h'=>r= .ret (.tup [iv (beyR k),iv (beyC k)])/\Fr h.n h h'):=by
 refine xZT (sok xt) (ft157 xt) rfl 16 rfl ?_;refine qA fun K hn hp=> ?_;simp only [sw.1,rE,reduceIte,rL,rA,rM,rD];apply hn;refine qL ?_;refine qA fun K hn hp=> ?_;simp only [sw.1,rE,reduceIte,rL,rA,rM,rD];apply hn;cases e:k.2.2
 ·refine qF false (by simp only [sw.1,rE,reduceIte,rL,rA,rM,rD,e]) (fun hx=>by cases hx) (fun _=> ?_);refine qV ?_;refine kX (sok xt) 7 (by kernel_rfl) fun K hn hp=> ?_;simp only [sw.1,rE,reduceIte,rL,rA,rM,rD];apply hn;refine qJ (qBz res157 ⟨?_,(xZV (xZY _)).new _⟩);simp [xZZ,beyR,beyC,e]
 ·refine qF true (by simp only [sw.1,rE,reduceIte,rL,rA,rM,rD,e]) (fun _=> ?_) (fun hx=>by cases hx);refine qL ?_;refine kX (sok xt) 7 (by kernel_rfl) fun K hn hp=> ?_;simp only [sw.1,rE,reduceIte,rL,rA,rM,rD];apply hn;refine zF (qBz res157 ⟨?_,(xZV (xZY _)).new _⟩);simp [xZZ,beyR,beyC,e]
theorem bey_c (xt:Addr->Option Value) (h:Hp) (k:Int×Int×Bool) {K:CR->Hp->Prop} (hk: ∀n,h.n<n->K (.ret (.tup [iv (beyR k),iv (beyC k)])) (h.up n)):FnA (SE xt) 82 [.agg [iv k.1,iv k.2.1,.val (.bool k.2.2)]] h K:=xZS (bey_ok xt h k) hk
theorem ft156 (xt:Addr->Option Value):(SE xt).ft.get 81=some Tryz.f81:=by kernel_rfl
theorem res156:Tryz.f81.results.toList=[.tmp 3]:=by kernel_rfl
def Mp.badK (m:Mp) (k:Int×Int×Bool):Bool:= !m.inside k.1 k.2.1 || !m.inside (beyR k) (beyC k)
theorem badK_ok (xt:Addr->Option Value) (h:Hp) (m:Mp) (ha:m.At xt h) (b:Nat) (hb:b<h.n) (q0:h.t.get b=some (.cells m.cs 27)) (k:Int×Int×Bool):FnA (SE xt) 81 [.agg [iv k.1,iv k.2.1,.val (.bool k.2.2)],.ptr b 0] h (fun r h'=>r= .ret (.val (.bool (m.badK k)))/\Fr h.n h h'):=by
 refine xZT (sok xt) (ft156 xt) rfl 25 rfl ?_;have one1:=ha.cells.one;have one2:=ha.gs.one;have one3:=ha.ks.one;have one4:=ha.ps.one;refine qA fun K hn hp=> ?_;simp only [sw.1,rE,reduceIte,rL,rA,rM,rD];apply hn;obtain ⟨h1,hh1⟩: ∃h1:Hp,h1=h.new (.cells [iv k.1,iv k.2.1,.val (.bool k.2.2)] 90):=⟨_,rfl⟩;rw [<-hh1];have ha1:m.At xt h1:=by rw [hh1];exact ha.new _
 have n1:h1.n=h.n+1:=by rw [hh1];rfl
 have f1:Fr h.n h h1:=by rw [hh1];exact (xZV (xZY _)).new _
 have q1:h1.t.get b=some (.cells m.cs 27):=by rw [f1.at_ b (.inl hb)];exact q0
 have q2:h1.t.get h.n=some (.cells [iv k.1,iv k.2.1,.val (.bool k.2.2)] 90):=by rw [hh1,Hp.new_t,xZZ,if_pos rfl]
 refine qA fun K1 hn hp=> ?_;simp only [sw.1,rE,reduceIte,rL,rA,rM,rD,q1,q2];refine qB (sok xt) (bey_c xt _ k fun m0 hm0=> ?_);have hm0:=xZU hm0;simp only [sw.1,rE,reduceIte,rL,rA,rM,rD,ex_tup0,ex_tup1];apply hn;clear hn hp K1;refine qA fun K1 hn hp=> ?_;simp only [sw.1,rE,reduceIte,rL,rA,rM,rD,q1,q2];refine qB (sok xt) (pW xt _ m (ha1.up hm0) _ _ fun m1 hm1=> ?_);simp only [xZN] at hm1;cases e1:m.inside k.1 k.2.1
 ·simp only [sw.1,rE,reduceIte,rL,rA,rM,rD,e1,q1,q2,xZQ];refine hn _ _ (qJ (jB res156 ⟨?_,f1.up (by omega)⟩));simp [xZZ,Mp.badK,e1]
 simp only [sw.1,rE,reduceIte,rL,rA,rM,rD,e1,q1,q2,xZQ];refine qB (sok xt) (pW xt _ m (ha1.up (by omega)) _ _ fun m2 hm2=> ?_);simp only [xZN] at hm2;simp only [sw.1,rE,reduceIte,rL,rA,rM,rD,xZQ];refine hn _ _ (qJ (jB res156 ⟨?_,f1.up (by omega)⟩));simp [xZZ,Mp.badK,e1]
theorem badK_c (xt:Addr->Option Value) (h:Hp) (m:Mp) (ha:m.At xt h) (b:Nat) (hb:b<h.n) (q0:h.t.get b=some (.cells m.cs 27)) (k:Int×Int×Bool) {K:CR->Hp->Prop} (hk: ∀n,h.n<n->K (.ret (.val (.bool (m.badK k)))) (h.up n)):FnA (SE xt) 81 [.agg [iv k.1,iv k.2.1,.val (.bool k.2.2)],.ptr b 0] h K:=xZS (badK_ok xt h m ha b hb q0 k) hk
theorem ft158 (xt:Addr->Option Value):(SE xt).ft.get 84=some Tryz.f84:=by kernel_rfl
theorem res158:Tryz.f84.results.toList=[.tmp 3]:=by kernel_rfl
theorem badP_ok (xt:Addr->Option Value) (h:Hp) (m:Mp) (ha:m.At xt h) (hr:m.Rect) (b:Nat) (hb:b<h.n) (q0:h.t.get b=some (.cells m.cs 27)) (p:Int×Int):FnA (SE xt) 84 [.agg [iv p.1,iv p.2],.ptr b 0] h (fun r h'=>r= .ret (.val (.bool (!m.is p.1 p.2 2)))/\Fr h.n h h'):=by
 refine xZT (sok xt) (ft158 xt) rfl 11 rfl ?_;have one1:=ha.cells.one;have one2:=ha.gs.one;have one3:=ha.ks.one;have one4:=ha.ps.one;refine qA fun K hn hp=> ?_;simp only [sw.1,rE,reduceIte,rL,rA,rM,rD];apply hn;obtain ⟨h1,hh1⟩: ∃h1:Hp,h1=h.new (.cells [iv p.1,iv p.2] 92):=⟨_,rfl⟩;rw [<-hh1];have ha1:m.At xt h1:=by rw [hh1];exact ha.new _
 have n1:h1.n=h.n+1:=by rw [hh1];rfl
 have f1:Fr h.n h h1:=by rw [hh1];exact (xZV (xZY _)).new _
 have q1:h1.t.get b=some (.cells m.cs 27):=by rw [f1.at_ b (.inl hb)];exact q0
 have q2:h1.t.get h.n=some (.cells [iv p.1,iv p.2] 92):=by rw [hh1,Hp.new_t,xZZ,if_pos rfl]
 refine qA fun K1 hn hp=> ?_;simp only [sw.1,rE,reduceIte,rL,rA,rM,rD,q1,q2];refine qB (sok xt) (is_c xt _ m ha1 hr _ _ _ fun m1 hm1=> ?_);have hm1:=xZU hm1;simp only [sw.1,rE,reduceIte,rL,rA,rM,rD];refine hn _ _ (qJ (jB res158 ⟨?_,f1.up hm1⟩));simp [xZZ]
theorem badP_c (xt:Addr->Option Value) (h:Hp) (m:Mp) (ha:m.At xt h) (hr:m.Rect) (b:Nat) (hb:b<h.n) (q0:h.t.get b=some (.cells m.cs 27)) (p:Int×Int) {K:CR->Hp->Prop} (hk: ∀n,h.n<n->K (.ret (.val (.bool (!m.is p.1 p.2 2)))) (h.up n)):FnA (SE xt) 84 [.agg [iv p.1,iv p.2],.ptr b 0] h K:=xZS (badP_ok xt h m ha hr b hb q0 p) hk
end Go.Proofs.Kn
