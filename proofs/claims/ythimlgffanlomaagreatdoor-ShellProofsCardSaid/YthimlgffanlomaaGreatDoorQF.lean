/- Parts. -/
import Derived.Test.YthimlgffanlomaaGreatDoorQD
set_option linter.all false
open Nat renaming reduceEqDiff → rE, reduceLeDiff → rD, reduceAdd → rA, reduceMul → rM, reduceLT → rL
open Go.Ev.T renaming get_put → xZZ
open Nat renaming le_refl → xZY, le_of_lt → xZU, le_trans → xZR, zero_le → xZO
open List renaming getElem?_eq_getElem → xZX, mem_of_getElem? → xZW, drop_eq_nil_of_le → xZQ
open Go.Ev.Fr renaming refl → xZV
open Go.Ev.FnA renaming walk → xZT, calm → xZS
open Go.Ev.Hp renaming up_up → xZP, up_n → xZN
namespace Go.Proofs.Kn
open Go Go.Ev
set_option maxRecDepth 100000
abbrev iv (n:Int):AV:= .val (.int .i64 n)
theorem ft117 (xt:Xt):(SE xt).ft.get 41=some Tryz.f41:=by kernel_rfl
theorem res117:Tryz.f41.results.toList=[.tmp 6]:=by kernel_rfl
theorem in_ok (xt:Xt) (h:Hp) (x lo hi:Int):FnA (SE xt) 41 [.val (.int .i64 x),.val (.int .i64 lo),.val (.int .i64 hi)] h (fun r h'=>r= .ret (.val (.bool (decide (lo<=x) && decide (x<=hi))))/\Fr h.n h h'):=by
 refine xZT (sok xt) (ft117 xt) rfl 15 rfl ?_;refine qA fun K hn hp=> ?_;simp only [sw.1,rL,rA];apply hn;cases hx:decide (lo<=x)
 ·refine qA fun K hn hp=> ?_;simp only [sy.1,rE,reduceIte,rL,hx];apply hn;refine qD (qK res117 ⟨?_,xZV (xZY _)⟩);simp [xZZ]
 ·refine qA fun K hn hp=> ?_;simp only [sy.1,rE,reduceIte,rL,hx];apply hn;refine qD (qK res117 ⟨?_,xZV (xZY _)⟩);simp [xZZ]
theorem pZ (xt:Xt) (h:Hp) (x lo hi:Int) {K:KP} (hk: ∀n,h.n<n->K (.ret (.val (.bool (decide (lo<=x) && decide (x<=hi))))) (h.up n)):
  FnA (SE xt) 41 [.val (.int .i64 x),.val (.int .i64 lo),.val (.int .i64 hi)] h K:=xZS (in_ok xt h x lo hi) hk
theorem ft76 (xt:Xt):(SE xt).ft.get 96=some Tryz.f96:=by kernel_rfl
theorem res76:Tryz.f96.results.toList=[.tmp 6]:=by kernel_rfl
theorem rin_ok (xt:Xt) (h:Hp) (x lo hi:Int):FnA (SE xt) 96 [.val (.int .i64 x),.val (.int .i64 lo),.val (.int .i64 hi)] h (fun r h'=>r= .ret (.val (.bool (decide (lo<=x) && decide (x<=hi))))/\Fr h.n h h'):=by
 refine xZT (sok xt) (ft76 xt) rfl 15 rfl ?_;refine qA fun K hn hp=> ?_;simp only [sw.1,rL,rA];apply hn;cases hx:decide (lo<=x)
 ·refine qA fun K hn hp=> ?_;simp only [sy.1,rE,reduceIte,rL,hx];apply hn;refine qD (qK res76 ⟨?_,xZV (xZY _)⟩);simp [xZZ]
 ·refine qA fun K hn hp=> ?_;simp only [sy.1,rE,reduceIte,rL,hx];apply hn;refine qD (qK res76 ⟨?_,xZV (xZY _)⟩);simp [xZZ]
theorem kG (xt:Xt) (h:Hp) (x lo hi:Int) {K:KP} (hk: ∀n,h.n<n->K (.ret (.val (.bool (decide (lo<=x) && decide (x<=hi))))) (h.up n)):
  FnA (SE xt) 96 [.val (.int .i64 x),.val (.int .i64 lo),.val (.int .i64 hi)] h K:=xZS (rin_ok xt h x lo hi) hk
def kR (E:Env) (h0:Hp) (fv:AV) (el:List Value->AV) (cs:List (List Value)) (p:List Value->Bool):Prop:=
 ∀(n:Nat) (c:List Value) (K:KP),h0.n<=n->c∈cs->(∀n',n<n'->K (.ret (.val (.bool (p c)))) (h0.up n'))->CallA E fv [el c] (h0.up n) K
theorem ft196 (xt:Xt):(SE xt).ft.get 150=some Tryz.f150:=by kernel_rfl
theorem res196:Tryz.f150.results.toList=[.tmp 4]:=by kernel_rfl
theorem idx196_ok (xt:Xt) (h:Hp) (v fv:AV) (cs:List (List Value)) (p:List Value->Bool) (hv:RowAt xt h 1 v cs) (hl:cs.length<=9223372036854775807) (hf:kR (SE xt) h fv (fun c=> .val (c.headD default)) cs p):
  FnA (SE xt) 150 [v,fv] h (fun r h'=>r= .ret (iv (yI p cs 0))/\Fr h.n h h'):=by
 refine xZT (sok xt) (ft196 xt) rfl 19 rfl ?_;have hlen:=fun h'=>hv.len (h':=h') gC rfl;refine qA fun K hn hp=> ?_;simp only [sw.1,rL];apply hn;clear hn hp K;refine qB fun K hn hp=> ?_;simp only [sy.1,rE,reduceIte,rL,hlen];apply hn;clear hn hp K;refine qC fun K k1 k2 k3 k4 k5=> ?_;refine qI (sok xt) (fun st=> ∃(k n:Nat) (tm:T AV),st=⟨tm,19,h.up n,[]⟩/\h.n<=n/\k<=cs.length/\tm.get 0=some v/\tm.get 1=some fv/\tm.get 7=some (iv cs.length)/\tm.get 8=some (iv k)/\yI p cs 0=yI p (cs.drop k) k)
  (fun st=>cs.length - (match st.tm.get 8 with|some (.val (.int _ n))=>n.toNat|_=>0)) ?_ ?_
 ·rintro st ⟨k,n,tm,rfl,hn1,hk,g0,g1,g7,g8,hfi⟩;refine qA fun K hn hp=> ?_;simp only [sy.1,rL,g7,g8];apply hn;clear hn hp K;have ht:(decide ((k:Int)<(cs.length:Int)))=decide (k<cs.length):=by simp
  by_cases hlt:k<cs.length
  ·obtain ⟨c,hc⟩: ∃c,cs[k]? =some c:=⟨_,xZX hlt⟩;have hidx:=hv.idx gC rfl qBG rfl hlt (k:= .i64);have hld:qO tb xt (h.up n) 155 (elp v (k*1))=some (.val (c.headD default)):=by
    have hcl:c.length=1:=hv.1 c (xZW hc);obtain ⟨u,rfl⟩: ∃u,c=[u]:=by cases c with
     |nil=>simp at hcl
     |cons u l=>cases l with
      |nil=>exact ⟨u,rfl⟩
      |cons _ _=>simp at hcl
    exact (hv.up hn1).load0 qBG rfl hc rfl
   refine qV (by simp only [sy.1,reduceIte,ht,hlt]) ?_;refine qC fun K' k1' k2' k3' k4' k5'=> ?_;refine qA fun K hn hp=> ?_;simp only [sy.1,rE,reduceIte,rL,g8];apply hn;clear hn hp K;refine qA fun K hn hp=> ?_;simp only [sy.1,rE,reduceIte,rL,g0,g1,hidx,hld];refine hf n c _ hn1 (xZW hc) fun n1 hn1'=> ?_;have hn1':=xZU hn1';simp only [sy.1,rL];apply hn;clear hn hp;rw [wM p hc] at hfi;cases hp:p c with
   |true=>
    refine wcT (by simp only [sy.1,rE,reduceIte]) ?_;refine qA fun K hn hp=> ?_;simp only [sy.1,rE,reduceIte,rL];apply hn;clear hn hp K;refine qD (k4' _ (k4 _ (qK res196 ⟨?_,(xZV (xZY _)).up (xZR hn1 hn1')⟩)));simp [xZZ,hfi,hp]
   |false=>
    refine wcF (by simp only [sy.1,rE,reduceIte]) ?_;refine qN (k1' _ ?_);refine reg fun K hn hp'=> ?_;have hw:IntKind.i64.wrap ((k:Int)+1)=((k+1:Nat):Int):=by rw [qF _ (by omega) (by omega)];simp
    simp only [sy.1,rE,reduceIte,rL,g8,hw];apply hn;refine ⟨⟨k+1,n1,_,rfl,xZR hn1 hn1',hlt,?_,?_,?_,?_,?_⟩,?_⟩
    ·simp [xZZ,g0]
    ·simp [xZZ,g1]
    ·simp [xZZ,g7]
    ·simp [xZZ]
    ·rw [hfi,hp];simp
    ·have hm:cs.length - (k+1)<cs.length - k:=by omega
     simpa [xZZ,g8] using hm
  ·refine qU (by simp only [sy.1,reduceIte,ht,hlt]) ?_;refine qG (k2 _ ?_);refine qA fun K hn hp=> ?_;simp only [sy.1,rL];apply hn;clear hn hp K;refine qD (qK res196 ⟨?_,(xZV (xZY _)).up hn1⟩);have:cs.drop k=[]:=xZQ (by omega);simp [xZZ,hfi,this,yI]
 ·refine ⟨0,h.n,_,rfl,xZY _,xZO _,?_,?_,?_,?_,?_⟩;all_goals simp [xZZ]
theorem idx196_c (xt:Xt) (h:Hp) (v fv:AV) (cs:List (List Value)) (p:List Value->Bool) (hv:RowAt xt h 1 v cs) (hl:cs.length<=9223372036854775807) (hf:kR (SE xt) h fv (fun c=> .val (c.headD default)) cs p)
  {K:KP} (hk: ∀n,h.n<n->K (.ret (iv (yI p cs 0))) (h.up n)):FnA (SE xt) 150 [v,fv] h K:=xZS (idx196_ok xt h v fv cs p hv hl hf) hk
theorem ft149 (xt:Xt):(SE xt).ft.get 106=some Tryz.f106:=by kernel_rfl
theorem res149:Tryz.f106.results.toList=[.tmp 4]:=by kernel_rfl
theorem any149_c (xt:Xt) (h:Hp) (v fv:AV) (cs:List (List Value)) (p:List Value->Bool) (hv:RowAt xt h 1 v cs) (hl:cs.length<=9223372036854775807) (hf:kR (SE xt) h fv (fun c=> .val (c.headD default)) cs p)
  {K:KP} (hk: ∀n,h.n<n->K (.ret (.val (.bool (cs.any p)))) (h.up n)):FnA (SE xt) 106 [v,fv] h K:=by
 refine xZS ?_ hk;refine xZT (sok xt) (ft149 xt) rfl 9 rfl ?_;refine qA fun K hn hp=> ?_;simp only [sw.1,rL];apply hn;refine qA fun K hn hp=> ?_;simp only [sy.1,rE,reduceIte,rL];refine cAS (idx196_c xt h v fv cs p hv hl hf fun n1 hn1=> ?_);have hn1:=xZU hn1;simp only [sy.1,rE,reduceIte,rL,wN];refine hn _ _ (qD (qK res149 ⟨?_,(xZV (xZY _)).up hn1⟩));simp [xZZ]
theorem ft197 (xt:Xt):(SE xt).ft.get 151=some Tryz.f151:=by kernel_rfl
theorem res197:Tryz.f151.results.toList=[.tmp 4]:=by kernel_rfl
theorem idx197_ok (xt:Xt) (h:Hp) (v fv:AV) (cs:List (List Value)) (p:List Value->Bool) (hv:RowAt xt h 4 v cs) (hl:cs.length<=9223372036854775807) (hf:kR (SE xt) h fv (fun c=> .agg (c.map .val)) cs p):
  FnA (SE xt) 151 [v,fv] h (fun r h'=>r= .ret (iv (yI p cs 0))/\Fr h.n h h'):=by
 refine xZT (sok xt) (ft197 xt) rfl 19 rfl ?_;have hlen:=fun h'=>hv.len (h':=h') qAs rfl;refine qA fun K hn hp=> ?_;simp only [sw.1,rL];apply hn;clear hn hp K;refine qB fun K hn hp=> ?_;simp only [sy.1,rE,reduceIte,rL,hlen];apply hn;clear hn hp K;refine qC fun K k1 k2 k3 k4 k5=> ?_;refine qI (sok xt) (fun st=> ∃(k n:Nat) (tm:T AV),st=⟨tm,19,h.up n,[]⟩/\h.n<=n/\k<=cs.length/\tm.get 0=some v/\tm.get 1=some fv/\tm.get 7=some (iv cs.length)/\tm.get 8=some (iv k)/\yI p cs 0=yI p (cs.drop k) k)
  (fun st=>cs.length - (match st.tm.get 8 with|some (.val (.int _ n))=>n.toNat|_=>0)) ?_ ?_
 ·rintro st ⟨k,n,tm,rfl,hn1,hk,g0,g1,g7,g8,hfi⟩;refine qA fun K hn hp=> ?_;simp only [sy.1,rL,g7,g8];apply hn;clear hn hp K;have ht:(decide ((k:Int)<(cs.length:Int)))=decide (k<cs.length):=by simp
  by_cases hlt:k<cs.length
  ·obtain ⟨c,hc⟩: ∃c,cs[k]? =some c:=⟨_,xZX hlt⟩;have hidx:=hv.idx qAs rfl gD rfl hlt (k:= .i64);have hld:qO tb xt (h.up n) 117 (elp v (k*4))=some (.agg (c.map .val)):=(hv.up hn1).loadA gD rfl rfl hc;refine qV (by simp only [sy.1,reduceIte,ht,hlt]) ?_;refine qC fun K' k1' k2' k3' k4' k5'=> ?_;refine qA fun K hn hp=> ?_;simp only [sy.1,rE,reduceIte,rL,g8];apply hn;clear hn hp K;refine qA fun K hn hp=> ?_;simp only [sy.1,rE,reduceIte,rL,g0,g1,hidx,hld];refine hf n c _ hn1 (xZW hc) fun n1 hn1'=> ?_;have hn1':=xZU hn1';simp only [sy.1,rL];apply hn;clear hn hp;rw [wM p hc] at hfi;cases hp:p c with
   |true=>
    refine wcT (by simp only [sy.1,rE,reduceIte]) ?_;refine qA fun K hn hp=> ?_;simp only [sy.1,rE,reduceIte,rL];apply hn;clear hn hp K;refine qD (k4' _ (k4 _ (qK res197 ⟨?_,(xZV (xZY _)).up (xZR hn1 hn1')⟩)));simp [xZZ,hfi,hp]
   |false=>
    refine wcF (by simp only [sy.1,rE,reduceIte]) ?_;refine qN (k1' _ ?_);refine reg fun K hn hp'=> ?_;have hw:IntKind.i64.wrap ((k:Int)+1)=((k+1:Nat):Int):=by rw [qF _ (by omega) (by omega)];simp
    simp only [sy.1,rE,reduceIte,rL,g8,hw];apply hn;refine ⟨⟨k+1,n1,_,rfl,xZR hn1 hn1',hlt,?_,?_,?_,?_,?_⟩,?_⟩
    ·simp [xZZ,g0]
    ·simp [xZZ,g1]
    ·simp [xZZ,g7]
    ·simp [xZZ]
    ·rw [hfi,hp];simp
    ·have hm:cs.length - (k+1)<cs.length - k:=by omega
     simpa [xZZ,g8] using hm
  ·refine qU (by simp only [sy.1,reduceIte,ht,hlt]) ?_;refine qG (k2 _ ?_);refine qA fun K hn hp=> ?_;simp only [sy.1,rL];apply hn;clear hn hp K;refine qD (qK res197 ⟨?_,(xZV (xZY _)).up hn1⟩);have:cs.drop k=[]:=xZQ (by omega);simp [xZZ,hfi,this,yI]
 ·refine ⟨0,h.n,_,rfl,xZY _,xZO _,?_,?_,?_,?_,?_⟩;all_goals simp [xZZ]
theorem idx197_c (xt:Xt) (h:Hp) (v fv:AV) (cs:List (List Value)) (p:List Value->Bool) (hv:RowAt xt h 4 v cs) (hl:cs.length<=9223372036854775807) (hf:kR (SE xt) h fv (fun c=> .agg (c.map .val)) cs p)
  {K:KP} (hk: ∀n,h.n<n->K (.ret (iv (yI p cs 0))) (h.up n)):FnA (SE xt) 151 [v,fv] h K:=xZS (idx197_ok xt h v fv cs p hv hl hf) hk
theorem ft151 (xt:Xt):(SE xt).ft.get 108=some Tryz.f108:=by kernel_rfl
theorem res151:Tryz.f108.results.toList=[.tmp 4]:=by kernel_rfl
theorem any151_c (xt:Xt) (h:Hp) (v fv:AV) (cs:List (List Value)) (p:List Value->Bool) (hv:RowAt xt h 4 v cs) (hl:cs.length<=9223372036854775807) (hf:kR (SE xt) h fv (fun c=> .agg (c.map .val)) cs p)
  {K:KP} (hk: ∀n,h.n<n->K (.ret (.val (.bool (cs.any p)))) (h.up n)):FnA (SE xt) 108 [v,fv] h K:=by
 refine xZS ?_ hk;refine xZT (sok xt) (ft151 xt) rfl 9 rfl ?_;refine qA fun K hn hp=> ?_;simp only [sw.1,rL];apply hn;refine qA fun K hn hp=> ?_;simp only [sy.1,rE,reduceIte,rL];refine cAS (idx197_c xt h v fv cs p hv hl hf fun n1 hn1=> ?_);have hn1:=xZU hn1;simp only [sy.1,rE,reduceIte,rL,wN];refine hn _ _ (qD (qK res151 ⟨?_,(xZV (xZY _)).up hn1⟩));simp [xZZ]
theorem ft198 (xt:Xt):(SE xt).ft.get 152=some Tryz.f152:=by kernel_rfl
theorem res198:Tryz.f152.results.toList=[.tmp 4]:=by kernel_rfl
theorem idx198_ok (xt:Xt) (h:Hp) (v fv:AV) (cs:List (List Value)) (p:List Value->Bool) (hv:RowAt xt h 3 v cs) (hl:cs.length<=9223372036854775807) (hf:kR (SE xt) h fv (fun c=> .agg (c.map .val)) cs p):
  FnA (SE xt) 152 [v,fv] h (fun r h'=>r= .ret (iv (yI p cs 0))/\Fr h.n h h'):=by
 refine xZT (sok xt) (ft198 xt) rfl 19 rfl ?_;have hlen:=fun h'=>hv.len (h':=h') tg24 rfl;refine qA fun K hn hp=> ?_;simp only [sw.1,rL];apply hn;clear hn hp K;refine qB fun K hn hp=> ?_;simp only [sy.1,rE,reduceIte,rL,hlen];apply hn;clear hn hp K;refine qC fun K k1 k2 k3 k4 k5=> ?_;refine qI (sok xt) (fun st=> ∃(k n:Nat) (tm:T AV),st=⟨tm,19,h.up n,[]⟩/\h.n<=n/\k<=cs.length/\tm.get 0=some v/\tm.get 1=some fv/\tm.get 7=some (iv cs.length)/\tm.get 8=some (iv k)/\yI p cs 0=yI p (cs.drop k) k)
  (fun st=>cs.length - (match st.tm.get 8 with|some (.val (.int _ n))=>n.toNat|_=>0)) ?_ ?_
 ·rintro st ⟨k,n,tm,rfl,hn1,hk,g0,g1,g7,g8,hfi⟩;refine qA fun K hn hp=> ?_;simp only [sy.1,rL,g7,g8];apply hn;clear hn hp K;have ht:(decide ((k:Int)<(cs.length:Int)))=decide (k<cs.length):=by simp
  by_cases hlt:k<cs.length
  ·obtain ⟨c,hc⟩: ∃c,cs[k]? =some c:=⟨_,xZX hlt⟩;have hidx:=hv.idx tg24 rfl qBY rfl hlt (k:= .i64);have hld:qO tb xt (h.up n) 120 (elp v (k*3))=some (.agg (c.map .val)):=(hv.up hn1).loadA qBY rfl rfl hc;refine qV (by simp only [sy.1,reduceIte,ht,hlt]) ?_;refine qC fun K' k1' k2' k3' k4' k5'=> ?_;refine qA fun K hn hp=> ?_;simp only [sy.1,rE,reduceIte,rL,g8];apply hn;clear hn hp K;refine qA fun K hn hp=> ?_;simp only [sy.1,rE,reduceIte,rL,g0,g1,hidx,hld];refine hf n c _ hn1 (xZW hc) fun n1 hn1'=> ?_;have hn1':=xZU hn1';simp only [sy.1,rL];apply hn;clear hn hp;rw [wM p hc] at hfi;cases hp:p c with
   |true=>
    refine wcT (by simp only [sy.1,rE,reduceIte]) ?_;refine qA fun K hn hp=> ?_;simp only [sy.1,rE,reduceIte,rL];apply hn;clear hn hp K;refine qD (k4' _ (k4 _ (qK res198 ⟨?_,(xZV (xZY _)).up (xZR hn1 hn1')⟩)));simp [xZZ,hfi,hp]
   |false=>
    refine wcF (by simp only [sy.1,rE,reduceIte]) ?_;refine qN (k1' _ ?_);refine reg fun K hn hp'=> ?_;have hw:IntKind.i64.wrap ((k:Int)+1)=((k+1:Nat):Int):=by rw [qF _ (by omega) (by omega)];simp
    simp only [sy.1,rE,reduceIte,rL,g8,hw];apply hn;refine ⟨⟨k+1,n1,_,rfl,xZR hn1 hn1',hlt,?_,?_,?_,?_,?_⟩,?_⟩
    ·simp [xZZ,g0]
    ·simp [xZZ,g1]
    ·simp [xZZ,g7]
    ·simp [xZZ]
    ·rw [hfi,hp];simp
    ·have hm:cs.length - (k+1)<cs.length - k:=by omega
     simpa [xZZ,g8] using hm
  ·refine qU (by simp only [sy.1,reduceIte,ht,hlt]) ?_;refine qG (k2 _ ?_);refine qA fun K hn hp=> ?_;simp only [sy.1,rL];apply hn;clear hn hp K;refine qD (qK res198 ⟨?_,(xZV (xZY _)).up hn1⟩);have:cs.drop k=[]:=xZQ (by omega);simp [xZZ,hfi,this,yI]
 ·refine ⟨0,h.n,_,rfl,xZY _,xZO _,?_,?_,?_,?_,?_⟩;all_goals simp [xZZ]
theorem idx198_c (xt:Xt) (h:Hp) (v fv:AV) (cs:List (List Value)) (p:List Value->Bool) (hv:RowAt xt h 3 v cs) (hl:cs.length<=9223372036854775807) (hf:kR (SE xt) h fv (fun c=> .agg (c.map .val)) cs p)
  {K:KP} (hk: ∀n,h.n<n->K (.ret (iv (yI p cs 0))) (h.up n)):FnA (SE xt) 152 [v,fv] h K:=xZS (idx198_ok xt h v fv cs p hv hl hf) hk
theorem ft155 (xt:Xt):(SE xt).ft.get 112=some Tryz.f112:=by kernel_rfl
theorem res155:Tryz.f112.results.toList=[.tmp 4]:=by kernel_rfl
theorem qF6 (xt:Xt) (h:Hp) (v fv:AV) (cs:List (List Value)) (p:List Value->Bool) (hv:RowAt xt h 3 v cs) (hl:cs.length<=9223372036854775807) (hf:kR (SE xt) h fv (fun c=> .agg (c.map .val)) cs p)
  {K:KP} (hk: ∀n,h.n<n->K (.ret (.val (.bool (cs.any p)))) (h.up n)):FnA (SE xt) 112 [v,fv] h K:=by
 refine xZS ?_ hk;refine xZT (sok xt) (ft155 xt) rfl 9 rfl ?_;refine qA fun K hn hp=> ?_;simp only [sw.1,rL];apply hn;refine qA fun K hn hp=> ?_;simp only [sy.1,rE,reduceIte,rL];refine cAS (idx198_c xt h v fv cs p hv hl hf fun n1 hn1=> ?_);have hn1:=xZU hn1;simp only [sy.1,rE,reduceIte,rL,wN];refine hn _ _ (qD (qK res155 ⟨?_,(xZV (xZY _)).up hn1⟩));simp [xZZ]
theorem ft163 (xt:Xt):(SE xt).ft.get 153=some Tryz.f153:=by kernel_rfl
theorem res163:Tryz.f153.results.toList=[.tmp 4]:=by kernel_rfl
theorem idx163_ok (xt:Xt) (h:Hp) (v fv:AV) (cs:List (List Value)) (p:List Value->Bool) (hv:RowAt xt h 2 v cs) (hl:cs.length<=9223372036854775807) (hf:kR (SE xt) h fv (fun c=> .agg (c.map .val)) cs p):
  FnA (SE xt) 153 [v,fv] h (fun r h'=>r= .ret (iv (yI p cs 0))/\Fr h.n h h'):=by
 refine xZT (sok xt) (ft163 xt) rfl 19 rfl ?_;have hlen:=fun h'=>hv.len (h':=h') tg25 rfl;refine qA fun K hn hp=> ?_;simp only [sw.1,rL];apply hn;clear hn hp K;refine qB fun K hn hp=> ?_;simp only [sy.1,rE,reduceIte,rL,hlen];apply hn;clear hn hp K;refine qC fun K k1 k2 k3 k4 k5=> ?_;refine qI (sok xt) (fun st=> ∃(k n:Nat) (tm:T AV),st=⟨tm,19,h.up n,[]⟩/\h.n<=n/\k<=cs.length/\tm.get 0=some v/\tm.get 1=some fv/\tm.get 7=some (iv cs.length)/\tm.get 8=some (iv k)/\yI p cs 0=yI p (cs.drop k) k)
  (fun st=>cs.length - (match st.tm.get 8 with|some (.val (.int _ n))=>n.toNat|_=>0)) ?_ ?_
 ·rintro st ⟨k,n,tm,rfl,hn1,hk,g0,g1,g7,g8,hfi⟩;refine qA fun K hn hp=> ?_;simp only [sy.1,rL,g7,g8];apply hn;clear hn hp K;have ht:(decide ((k:Int)<(cs.length:Int)))=decide (k<cs.length):=by simp
  by_cases hlt:k<cs.length
  ·obtain ⟨c,hc⟩: ∃c,cs[k]? =some c:=⟨_,xZX hlt⟩;have hidx:=hv.idx tg25 rfl qAt rfl hlt (k:= .i64);have hld:qO tb xt (h.up n) 122 (elp v (k*2))=some (.agg (c.map .val)):=(hv.up hn1).loadA qAt rfl rfl hc;refine qV (by simp only [sy.1,reduceIte,ht,hlt]) ?_;refine qC fun K' k1' k2' k3' k4' k5'=> ?_;refine qA fun K hn hp=> ?_;simp only [sy.1,rE,reduceIte,rL,g8];apply hn;clear hn hp K;refine qA fun K hn hp=> ?_;simp only [sy.1,rE,reduceIte,rL,g0,g1,hidx,hld];refine hf n c _ hn1 (xZW hc) fun n1 hn1'=> ?_;have hn1':=xZU hn1';simp only [sy.1,rL];apply hn;clear hn hp;rw [wM p hc] at hfi;cases hp:p c with
   |true=>
    refine wcT (by simp only [sy.1,rE,reduceIte]) ?_;refine qA fun K hn hp=> ?_;simp only [sy.1,rE,reduceIte,rL];apply hn;clear hn hp K;refine qD (k4' _ (k4 _ (qK res163 ⟨?_,(xZV (xZY _)).up (xZR hn1 hn1')⟩)));simp [xZZ,hfi,hp]
   |false=>
    refine wcF (by simp only [sy.1,rE,reduceIte]) ?_;refine qN (k1' _ ?_);refine reg fun K hn hp'=> ?_;have hw:IntKind.i64.wrap ((k:Int)+1)=((k+1:Nat):Int):=by rw [qF _ (by omega) (by omega)];simp
    simp only [sy.1,rE,reduceIte,rL,g8,hw];apply hn;refine ⟨⟨k+1,n1,_,rfl,xZR hn1 hn1',hlt,?_,?_,?_,?_,?_⟩,?_⟩
    ·simp [xZZ,g0]
    ·simp [xZZ,g1]
    ·simp [xZZ,g7]
    ·simp [xZZ]
    ·rw [hfi,hp];simp
    ·have hm:cs.length - (k+1)<cs.length - k:=by omega
     simpa [xZZ,g8] using hm
  ·refine qU (by simp only [sy.1,reduceIte,ht,hlt]) ?_;refine qG (k2 _ ?_);refine qA fun K hn hp=> ?_;simp only [sy.1,rL];apply hn;clear hn hp K;refine qD (qK res163 ⟨?_,(xZV (xZY _)).up hn1⟩);have:cs.drop k=[]:=xZQ (by omega);simp [xZZ,hfi,this,yI]
 ·refine ⟨0,h.n,_,rfl,xZY _,xZO _,?_,?_,?_,?_,?_⟩;all_goals simp [xZZ]
theorem idx163_c (xt:Xt) (h:Hp) (v fv:AV) (cs:List (List Value)) (p:List Value->Bool) (hv:RowAt xt h 2 v cs) (hl:cs.length<=9223372036854775807) (hf:kR (SE xt) h fv (fun c=> .agg (c.map .val)) cs p)
  {K:KP} (hk: ∀n,h.n<n->K (.ret (iv (yI p cs 0))) (h.up n)):FnA (SE xt) 153 [v,fv] h K:=xZS (idx163_ok xt h v fv cs p hv hl hf) hk
theorem ft92 (xt:Xt):(SE xt).ft.get 115=some Tryz.f115:=by kernel_rfl
theorem res92:Tryz.f115.results.toList=[.tmp 4]:=by kernel_rfl
theorem any92_c (xt:Xt) (h:Hp) (v fv:AV) (cs:List (List Value)) (p:List Value->Bool) (hv:RowAt xt h 2 v cs) (hl:cs.length<=9223372036854775807) (hf:kR (SE xt) h fv (fun c=> .agg (c.map .val)) cs p)
  {K:KP} (hk: ∀n,h.n<n->K (.ret (.val (.bool (cs.any p)))) (h.up n)):FnA (SE xt) 115 [v,fv] h K:=by
 refine xZS ?_ hk;refine xZT (sok xt) (ft92 xt) rfl 9 rfl ?_;refine qA fun K hn hp=> ?_;simp only [sw.1,rL];apply hn;refine qA fun K hn hp=> ?_;simp only [sy.1,rE,reduceIte,rL];refine cAS (idx163_c xt h v fv cs p hv hl hf fun n1 hn1=> ?_);have hn1:=xZU hn1;simp only [sy.1,rE,reduceIte,rL,wN];refine hn _ _ (qD (qK res92 ⟨?_,(xZV (xZY _)).up hn1⟩));simp [xZZ]
theorem ft185 (xt:Xt):(SE xt).ft.get 142=some Tryz.f142:=by kernel_rfl
theorem res185:Tryz.f142.results.toList=[.tmp 4]:=by kernel_rfl
theorem idx185_ok (xt:Xt) (h:Hp) (v fv:AV) (cs:List (List Value)) (p:List Value->Bool) (hv:RowAt xt h 3 v cs) (hl:cs.length<=9223372036854775807) (hf:kR (SE xt) h fv (fun c=> .agg (c.map .val)) cs p):
  FnA (SE xt) 142 [v,fv] h (fun r h'=>r= .ret (iv (yI p cs 0))/\Fr h.n h h'):=by
 refine xZT (sok xt) (ft185 xt) rfl 19 rfl ?_;have hlen:=fun h'=>hv.len (h':=h') qAg rfl;refine qA fun K hn hp=> ?_;simp only [sw.1,rL];apply hn;clear hn hp K;refine qB fun K hn hp=> ?_;simp only [sy.1,rE,reduceIte,rL,hlen];apply hn;clear hn hp K;refine qC fun K k1 k2 k3 k4 k5=> ?_;refine qI (sok xt) (fun st=> ∃(k n:Nat) (tm:T AV),st=⟨tm,19,h.up n,[]⟩/\h.n<=n/\k<=cs.length/\tm.get 0=some v/\tm.get 1=some fv/\tm.get 7=some (iv cs.length)/\tm.get 8=some (iv k)/\yI p cs 0=yI p (cs.drop k) k)
  (fun st=>cs.length - (match st.tm.get 8 with|some (.val (.int _ n))=>n.toNat|_=>0)) ?_ ?_
 ·rintro st ⟨k,n,tm,rfl,hn1,hk,g0,g1,g7,g8,hfi⟩;refine qA fun K hn hp=> ?_;simp only [sy.1,rL,g7,g8];apply hn;clear hn hp K;have ht:(decide ((k:Int)<(cs.length:Int)))=decide (k<cs.length):=by simp
  by_cases hlt:k<cs.length
  ·obtain ⟨c,hc⟩: ∃c,cs[k]? =some c:=⟨_,xZX hlt⟩;have hidx:=hv.idx qAg rfl yF rfl hlt (k:= .i64);have hld:qO tb xt (h.up n) 111 (elp v (k*3))=some (.agg (c.map .val)):=(hv.up hn1).loadA yF rfl rfl hc;refine qV (by simp only [sy.1,reduceIte,ht,hlt]) ?_;refine qC fun K' k1' k2' k3' k4' k5'=> ?_;refine qA fun K hn hp=> ?_;simp only [sy.1,rE,reduceIte,rL,g8];apply hn;clear hn hp K;refine qA fun K hn hp=> ?_;simp only [sy.1,rE,reduceIte,rL,g0,g1,hidx,hld];refine hf n c _ hn1 (xZW hc) fun n1 hn1'=> ?_;have hn1':=xZU hn1';simp only [sy.1,rL];apply hn;clear hn hp;rw [wM p hc] at hfi;cases hp:p c with
   |true=>
    refine wcT (by simp only [sy.1,rE,reduceIte]) ?_;refine qA fun K hn hp=> ?_;simp only [sy.1,rE,reduceIte,rL];apply hn;clear hn hp K;refine qD (k4' _ (k4 _ (qK res185 ⟨?_,(xZV (xZY _)).up (xZR hn1 hn1')⟩)));simp [xZZ,hfi,hp]
   |false=>
    refine wcF (by simp only [sy.1,rE,reduceIte]) ?_;refine qN (k1' _ ?_);refine reg fun K hn hp'=> ?_;have hw:IntKind.i64.wrap ((k:Int)+1)=((k+1:Nat):Int):=by rw [qF _ (by omega) (by omega)];simp
    simp only [sy.1,rE,reduceIte,rL,g8,hw];apply hn;refine ⟨⟨k+1,n1,_,rfl,xZR hn1 hn1',hlt,?_,?_,?_,?_,?_⟩,?_⟩
    ·simp [xZZ,g0]
    ·simp [xZZ,g1]
    ·simp [xZZ,g7]
    ·simp [xZZ]
    ·rw [hfi,hp];simp
    ·have hm:cs.length - (k+1)<cs.length - k:=by omega
     simpa [xZZ,g8] using hm
  ·refine qU (by simp only [sy.1,reduceIte,ht,hlt]) ?_;refine qG (k2 _ ?_);refine qA fun K hn hp=> ?_;simp only [sy.1,rL];apply hn;clear hn hp K;refine qD (qK res185 ⟨?_,(xZV (xZY _)).up hn1⟩);have:cs.drop k=[]:=xZQ (by omega);simp [xZZ,hfi,this,yI]
 ·refine ⟨0,h.n,_,rfl,xZY _,xZO _,?_,?_,?_,?_,?_⟩;all_goals simp [xZZ]
theorem idx185_c (xt:Xt) (h:Hp) (v fv:AV) (cs:List (List Value)) (p:List Value->Bool) (hv:RowAt xt h 3 v cs) (hl:cs.length<=9223372036854775807) (hf:kR (SE xt) h fv (fun c=> .agg (c.map .val)) cs p)
  {K:KP} (hk: ∀n,h.n<n->K (.ret (iv (yI p cs 0))) (h.up n)):FnA (SE xt) 142 [v,fv] h K:=xZS (idx185_ok xt h v fv cs p hv hl hf) hk
theorem ft140 (xt:Xt):(SE xt).ft.get 89=some Tryz.f89:=by kernel_rfl
theorem res140:Tryz.f89.results.toList=[.tmp 4]:=by kernel_rfl
theorem any140_c (xt:Xt) (h:Hp) (v fv:AV) (cs:List (List Value)) (p:List Value->Bool) (hv:RowAt xt h 3 v cs) (hl:cs.length<=9223372036854775807) (hf:kR (SE xt) h fv (fun c=> .agg (c.map .val)) cs p)
  {K:KP} (hk: ∀n,h.n<n->K (.ret (.val (.bool (cs.any p)))) (h.up n)):FnA (SE xt) 89 [v,fv] h K:=by
 refine xZS ?_ hk;refine xZT (sok xt) (ft140 xt) rfl 9 rfl ?_;refine qA fun K hn hp=> ?_;simp only [sw.1,rL];apply hn;refine qA fun K hn hp=> ?_;simp only [sy.1,rE,reduceIte,rL];refine cAS (idx185_c xt h v fv cs p hv hl hf fun n1 hn1=> ?_);have hn1:=xZU hn1;simp only [sy.1,rE,reduceIte,rL,wN];refine hn _ _ (qD (qK res140 ⟨?_,(xZV (xZY _)).up hn1⟩));simp [xZZ]
def c1 (x:Int):List Value:=[.int .i64 x]
structure Mp where
 vc:AV
 vg:AV
 vk:AV
 vp:AV
 cells:List (List Int)
 T:Int
 H:Int
 gs:List (Int×Int×Int×Int)
 ks:List (Int×Int×Bool)
 ps:List (Int×Int)
def g4 (g:Int×Int×Int×Int):List Value:=[.int .i64 g.1,.int .i64 g.2.1,.int .i64 g.2.2.1,.int .i64 g.2.2.2]
def k3 (k:Int×Int×Bool):List Value:=[.int .i64 k.1,.int .i64 k.2.1,.bool k.2.2]
def p2 (p:Int×Int):List Value:=[.int .i64 p.1,.int .i64 p.2]
abbrev Mp.cs (m:Mp):List AV:=[m.vc,iv m.T,iv m.H,m.vg,m.vk,m.vp]
abbrev Mp.av (m:Mp):AV:= .agg m.cs
structure Mp.At (m:Mp) (xt:Xt) (h:Hp):Prop where
 cells:GridAt xt h 1 m.vc (m.cells.map fun l=>l.map c1)
 gs:RowAt xt h 4 m.vg (m.gs.map g4)
 ks:RowAt xt h 3 m.vk (m.ks.map k3)
 ps:RowAt xt h 2 m.vp (m.ps.map p2)
 lc:m.cells.length<=9223372036854775807
 lr: ∀l∈m.cells,l.length<=9223372036854775807
 lg:m.gs.length<=9223372036854775807
 lk:m.ks.length<=9223372036854775807
 lp:m.ps.length<=9223372036854775807
theorem Mp.At.new {m:Mp} {xt:Xt} {h:Hp} (a:m.At xt h) (o:AO):m.At xt (h.new o):=⟨a.cells.new o,a.gs.new o,a.ks.new o,a.ps.new o,a.lc,a.lr,a.lg,a.lk,a.lp⟩
theorem Mp.At.up {m:Mp} {xt:Xt} {h:Hp} (a:m.At xt h) {n:Nat} (hn:h.n<=n):m.At xt (h.up n):=⟨a.cells.up hn,a.gs.up hn,a.ks.up hn,a.ps.up hn,a.lc,a.lr,a.lg,a.lk,a.lp⟩
theorem Mp.At.fr {m:Mp} {xt:Xt} {h h':Hp} (a:m.At xt h) {M:Nat} (f:Fr M h h') (hM:h.n<=M):m.At xt h':=⟨a.cells.fr f hM,a.gs.fr f hM,a.ks.fr f hM,a.ps.fr f hM,a.lc,a.lr,a.lg,a.lk,a.lp⟩
theorem Mp.At.len {m:Mp} {xt:Xt} {h:Hp} (a:m.At xt h) (h':Hp):zI tb h' 22 m.vc=some m.cells.length:=by
 have:=a.cells.len (h':=h') tg22 rfl;simpa using this
def Mp.R (m:Mp):Int:=m.cells.length
def Mp.C (m:Mp):Int:=(m.cells.headD []).length
def inB (x lo hi:Int):Bool:=decide (lo<=x) && decide (x<=hi)
def Mp.inside (m:Mp) (r c:Int):Bool:=inB r 0 (m.R - 1) && inB c 0 (m.C - 1)
theorem Mp.At.row {m:Mp} {xt:Xt} {h:Hp} (a:m.At xt h) {i:Nat} {l:List Int} (hl:m.cells[i]? =some l): ∃v,(∀k:IntKind,qM tb 22 m.vc (.val (.int k (i:Int)))=some (elp m.vc i))/\qO tb xt h 114 (elp m.vc i)=some v/\RowAt xt h 1 v (l.map c1)/\(∀h':Hp,zI tb h' 114 v=some l.length):=by
 obtain ⟨v,h1,h2,h3⟩:=a.cells.at_ tg22 rfl gC rfl rfl (i:=i) (l:=l.map c1) (by simp [hl]);exact ⟨v,h1,h2,h3,fun h'=>by have:=h3.len (h':=h') gC rfl;simpa using this⟩
theorem ft153 (xt:Xt):(SE xt).ft.get 110=some Tryz.f110:=by kernel_rfl
theorem res153:Tryz.f110.results.toList=[.tmp 6]:=by kernel_rfl
theorem qAG (xt:Xt) (h:Hp) (m:Mp) (ha:m.At xt h) (r c:Int) {K:KP} (hk: ∀n,h.n<n->K (.ret (.val (.bool (m.inside r c)))) (h.up n)):FnA (SE xt) 110 [m.av,iv r,iv c] h K:=by
 refine xZS ?_ hk;clear hk K;refine xZT (sok xt) (ft153 xt) rfl 23 rfl ?_;have ha1:=ha.new (.cells m.cs 27);have hlen:=ha.len;have hlc:=ha.lc;have hw:IntKind.i64.wrap ((m.cells.length:Int) - 1)=m.R - 1:=by rw [qF _ (by omega) (by omega)];rfl
 refine qA fun K hn hp=> ?_;simp only [sw.1,rE,reduceIte,rL,rA];apply hn;refine qA fun K1 hn hp=> ?_;simp only [sy.1,rE,reduceIte,rL,hlen,hw];refine cAS (pZ xt _ _ _ _ fun m1 hm1=> ?_);simp only [Hp.new_n] at hm1;cases q1:(decide (0<=r) && decide (r<=m.R - 1))
 ·simp only [sy.1,rE,reduceIte,rL];refine hn _ _ (qD (qK res153 ⟨?_,((xZV (xZY _)).new _).up (by simp [Hp.new_n];omega)⟩));simp [xZZ,Mp.inside,inB,q1]
 ·obtain ⟨l,hl⟩: ∃l,m.cells[0]? =some l:=by
   obtain ⟨q2,q3⟩:=Bool.and_eq_true_iff.1 q1;have q2:=of_decide_eq_true q2;have q3:=of_decide_eq_true q3;unfold Mp.R at q3;have hp:0<m.cells.length:=by omega
   exact ⟨_,xZX hp⟩
  obtain ⟨v,h1,h2,h3,h4⟩:=(ha1.up (n:=m1) (by simp [Hp.new_n];omega)).row hl;have h1:=h1 .i64;simp only [Int.natCast_zero] at h1;have hll:=ha.lr l (xZW hl);have hC:m.C=l.length:=by
   simp only [Mp.C];cases hm:m.cells with
   |nil=>rw [hm] at hl;simp at hl
   |cons x y=>rw [hm] at hl;simp at hl;subst hl;rfl
  have hw2:IntKind.i64.wrap ((l.length:Int) - 1)=m.C - 1:=by rw [qF _ (by omega) (by omega),hC]
  simp only [sy.1,rE,reduceIte,rL,h1,h2,h4,hw2];refine cAS (pZ xt _ _ _ _ fun m2 hm2=> ?_);simp only [xZN] at hm2;simp only [sy.1,rE,reduceIte,rL,xZP];refine hn _ _ (qD (qK res153 ⟨?_,((xZV (xZY _)).new _).up (by simp [Hp.new_n];omega)⟩));simp [xZZ,Mp.inside,inB,q1]
def Mp.Rect (m:Mp):Prop:= ∀l∈m.cells,l.length=(m.cells.headD []).length
def Mp.kind (m:Mp) (r c:Int):Int:=(((m.cells[r.toNat]?).getD [])[c.toNat]?).getD 1
theorem xU {x lo hi:Int}:inB x lo hi=true↔lo<=x/\x<=hi:=by simp [inB]
theorem Mp.inside_iff {m:Mp} {r c:Int}:m.inside r c=true↔(0<=r/\r<m.R)/\0<=c/\c<m.C:=by
 simp only [Mp.inside,Bool.and_eq_true,xU];omega
theorem Mp.At.cell {m:Mp} {xt:Xt} {h:Hp} (a:m.At xt h) (hr:m.Rect) {r c:Int} (hi:m.inside r c=true): ∃(i j:Nat) (l:List Int) (v:AV),r=i/\c=j/\m.cells[i]? =some l/\l.length=m.C/\l[j]? =some (m.kind r c)/\qM tb 22 m.vc (.val (.int .i64 r))=some (elp m.vc i)/\qO tb xt h 114 (elp m.vc i)=some v/\qM tb 114 v (.val (.int .i64 c))=some (elp v j)/\qO tb xt h 155 (elp v j)=some (iv (m.kind r c)):=by
 obtain ⟨⟨r0,r1⟩,c0,c1⟩:=Mp.inside_iff.1 hi;obtain ⟨i,rfl⟩: ∃i:Nat,r=i:=⟨r.toNat,by omega⟩;obtain ⟨j,rfl⟩: ∃j:Nat,c=j:=⟨c.toNat,by omega⟩;unfold Mp.R at r1;have hi':i<m.cells.length:=by omega
 obtain ⟨l,hl⟩: ∃l,m.cells[i]? =some l:=⟨_,xZX hi'⟩;have hll:(l.length:Int)=m.C:=by rw [Mp.C,hr l (xZW hl)]
 have hj':j<l.length:=by omega
 obtain ⟨x,hx⟩: ∃x,l[j]? =some x:=⟨_,xZX hj'⟩;have hk:m.kind i j=x:=by simp [Mp.kind,hl,hx]
 obtain ⟨v,h1,h2,h3,_⟩:=a.row hl;refine ⟨i,j,l,v,rfl,rfl,hl,hll,by rw [hk];exact hx,h1 .i64,h2,?_,?_⟩
 ·have:=h3.idx gC rfl qBG rfl (i:=j) (by rw [List.length_map];exact hj') (k:= .i64)
  rwa [Nat.mul_one] at this
 ·have:=h3.load0 qBG rfl (i:=j) (c:=Go.Proofs.Kn.c1 x) (u:= .int .i64 x) (by simp [hx]) rfl;rw [Nat.mul_one] at this;rw [hk];exact this
theorem ft154 (xt:Xt):(SE xt).ft.get 111=some Tryz.f111:=by kernel_rfl
theorem res154:Tryz.f111.results.toList=[.tmp 8]:=by kernel_rfl
def Mp.is (m:Mp) (r c k:Int):Bool:=m.inside r c && decide (m.kind r c=k)
theorem is_c (xt:Xt) (h:Hp) (m:Mp) (ha:m.At xt h) (hr:m.Rect) (r c k:Int) {K:KP} (hk: ∀n,h.n<n->K (.ret (.val (.bool (m.is r c k)))) (h.up n)):FnA (SE xt) 111 [m.av,iv r,iv c,iv k] h K:=by
 refine xZS ?_ hk;clear hk K;refine xZT (sok xt) (ft154 xt) rfl 25 rfl ?_;have ha1:=ha.new (.cells m.cs 27);refine qA fun K hn hp=> ?_;simp only [sw.1,rE,reduceIte,rL,rA];apply hn;refine qA fun K1 hn hp=> ?_;simp only [sy.1,rE,reduceIte,rL,rA];refine cAS (qAG xt _ m ha1 r c fun m1 hm1=> ?_);simp only [Hp.new_n] at hm1;cases q1:m.inside r c
 ·simp only [sy.1,rE,reduceIte,rL];refine hn _ _ (qD (qK res154 ⟨?_,((xZV (xZY _)).new _).up (by simp [Hp.new_n];omega)⟩));simp [xZZ,Mp.is,q1]
 ·obtain ⟨i,j,l,v,e1,e2,_,_,_,h1,h2,h3,h4⟩:=(ha1.up (n:=m1) (by simp [Hp.new_n];omega)).cell hr q1;simp only [sy.1,rE,reduceIte,rL,h1,h2,h3,h4];refine hn _ _ (qD (qK res154 ⟨?_,((xZV (xZY _)).new _).up (by simp [Hp.new_n];omega)⟩));simp [xZZ,Mp.is,q1]
theorem ft150 (xt:Xt):(SE xt).ft.get 107=some Tryz.f107:=by kernel_rfl
theorem res150:Tryz.f107.results.toList=[.tmp 2]:=by kernel_rfl
def vE (x:Int):Bool:=decide (x<1) || decide (3<x)
theorem bkind_ok (xt:Xt) (h:Hp) (x:Int):FnA (SE xt) 107 [iv x] h (fun r h'=>r= .ret (.val (.bool (vE x)))/\Fr h.n h h'):=by
 refine xZT (sok xt) (ft150 xt) rfl 9 rfl ?_;refine qA fun K hn hp=> ?_;simp only [sw.1,rL];apply hn;cases c1:decide (x<1)
 ·refine qA fun K hn hp=> ?_;simp only [sy.1,rE,reduceIte,rL,c1];apply hn;refine qD (qK res150 ⟨?_,xZV (xZY _)⟩);simp [xZZ,vE,c1]
 ·refine qA fun K hn hp=> ?_;simp only [sy.1,rE,reduceIte,rL,c1];apply hn;refine qD (qK res150 ⟨?_,xZV (xZY _)⟩);simp [xZZ,vE,c1]
theorem bkind_c (xt:Xt) (h:Hp) (x:Int) {K:KP} (hk: ∀n,h.n<n->K (.ret (.val (.bool (vE x)))) (h.up n)):FnA (SE xt) 107 [iv x] h K:=xZS (bkind_ok xt h x) hk
theorem ft152 (xt:Xt):(SE xt).ft.get 109=some Tryz.f109:=by kernel_rfl
theorem qEi:Tryz.f109.results.toList=[.tmp 3]:=by kernel_rfl
def Mp.badG (m:Mp) (g:Int×Int×Int×Int):Bool:= !m.inside g.1 g.2.1 || (m.is g.1 g.2.1 1 || (!inB g.2.2.1 0 60 || !inB g.2.2.2 0 9))
theorem badG_ok (xt:Xt) (h:Hp) (m:Mp) (ha:m.At xt h) (hr:m.Rect) (b:Nat) (hb:b<h.n) (q0:h.t.get b=some (.cells m.cs 27)) (g:Int×Int×Int×Int):FnA (SE xt) 109 [.agg [iv g.1,iv g.2.1,iv g.2.2.1,iv g.2.2.2],.ptr b 0] h (fun r h'=>r= .ret (.val (.bool (m.badG g)))/\Fr h.n h h'):=by
 refine xZT (sok xt) (ft152 xt) rfl 31 rfl ?_;refine qA fun K hn hp=> ?_;simp only [sw.1,rE,reduceIte,rL];apply hn;obtain ⟨h1,hh1⟩: ∃h1:Hp,h1=h.new (.cells [iv g.1,iv g.2.1,iv g.2.2.1,iv g.2.2.2] 117):=⟨_,rfl⟩;rw [<-hh1];have ha1:m.At xt h1:=by rw [hh1];exact ha.new _
 have f1:Fr h.n h h1:=by rw [hh1];exact (xZV (xZY _)).new _
 have q1:h1.t.get b=some (.cells m.cs 27):=by rw [f1.at_ b (.inl hb)];exact q0
 have q2:h1.t.get h.n=some (.cells [iv g.1,iv g.2.1,iv g.2.2.1,iv g.2.2.2] 117):=by rw [hh1,Hp.new_t,xZZ,if_pos rfl]
 refine qA fun K1 hn hp=> ?_;simp only [sy.1,rE,reduceIte,rL,rA,q1,q2];refine cAS (qAG xt _ m ha1 _ _ fun m1 hm1=> ?_);have hm1:=xZU hm1;cases e1:m.inside g.1 g.2.1
 ·simp only [sy.1,rE,reduceIte,rL];refine hn _ _ (qD (qK qEi ⟨?_,f1.up hm1⟩));simp [xZZ,Mp.badG,e1]
 simp only [sy.1,rE,reduceIte,rL,rA,q1,q2];refine cAS (is_c xt _ m (ha1.up hm1) hr _ _ _ fun m2 hm2=> ?_);simp only [xZN] at hm2;cases e2:m.is g.1 g.2.1 1
 rotate_left
 ·simp only [sy.1,rE,reduceIte,rL,xZP];refine hn _ _ (qD (qK qEi ⟨?_,f1.up (by omega)⟩));simp [xZZ,Mp.badG,e1,e2]
 simp only [sy.1,rE,reduceIte,rL,q2,xZP];refine cAS (pZ xt _ _ _ _ fun m3 hm3=> ?_);simp only [xZN] at hm3;cases e3:(decide (0<=g.2.2.1) && decide (g.2.2.1<=60))
 ·simp only [sy.1,rE,reduceIte,rL,xZP];refine hn _ _ (qD (qK qEi ⟨?_,f1.up (by omega)⟩));simp [xZZ,Mp.badG,e1,e2,inB,e3]
 simp only [sy.1,rE,reduceIte,rL,q2,xZP];refine cAS (pZ xt _ _ _ _ fun m4 hm4=> ?_);simp only [xZN] at hm4;simp only [sy.1,rE,reduceIte,rL,xZP];refine hn _ _ (qD (qK qEi ⟨?_,f1.up (by omega)⟩));simp [xZZ,Mp.badG,e1,e2,inB,e3]
theorem badG_c (xt:Xt) (h:Hp) (m:Mp) (ha:m.At xt h) (hr:m.Rect) (b:Nat) (hb:b<h.n) (q0:h.t.get b=some (.cells m.cs 27)) (g:Int×Int×Int×Int) {K:KP} (hk: ∀n,h.n<n->K (.ret (.val (.bool (m.badG g)))) (h.up n)):FnA (SE xt) 109 [.agg [iv g.1,iv g.2.1,iv g.2.2.1,iv g.2.2.2],.ptr b 0] h K:=xZS (badG_ok xt h m ha hr b hb q0 g) hk
theorem ft157 (xt:Xt):(SE xt).ft.get 114=some Tryz.f114:=by kernel_rfl
theorem res157:Tryz.f114.results.toList=[.tmp 2,.tmp 3]:=by kernel_rfl
def bZ (k:Int×Int×Bool):Int:=if k.2.2 then IntKind.i64.wrap (k.1+1) else k.1
def b8 (k:Int×Int×Bool):Int:=if k.2.2 then k.2.1 else IntKind.i64.wrap (k.2.1+1)
theorem ex_tup0 (a b:AV):vQ (.tup [a,b]) 0=some a:=rfl
theorem ex_tup1 (a b:AV):vQ (.tup [a,b]) 1=some b:=rfl
theorem bey_ok (xt:Xt) (h:Hp) (k:Int×Int×Bool):FnA (SE xt) 114 [.agg [iv k.1,iv k.2.1,.val (.bool k.2.2)]] h (fun r h'=>r= .ret (.tup [iv (bZ k),iv (b8 k)])/\Fr h.n h h'):=by
 refine xZT (sok xt) (ft157 xt) rfl 16 rfl ?_;refine qA fun K hn hp=> ?_;simp only [sw.1,reduceIte,rL];apply hn;refine qB fun K hn hp=> ?_;simp only [sy.1,rE,reduceIte,rL];apply hn;cases e:k.2.2
 ·refine jL (by simp only [sy.1,rE,reduceIte]) ?_;refine jQ (sok xt) 7 (by kernel_rfl) fun K hn hp=> ?_;simp only [sy.1,rE,reduceIte,rL];apply hn;refine qD (wP res157 ⟨?_,(xZV (xZY _)).new _⟩);simp [xZZ,bZ,b8,e]
 ·refine qX (by simp only [sy.1,rE,reduceIte]) ?_;refine jP ?_;refine jQ (sok xt) 7 (by kernel_rfl) fun K hn hp=> ?_;simp only [sy.1,rE,reduceIte,rL];apply hn;refine qS (wP res157 ⟨?_,(xZV (xZY _)).new _⟩);simp [xZZ,bZ,b8,e]
theorem bey_c (xt:Xt) (h:Hp) (k:Int×Int×Bool) {K:KP} (hk: ∀n,h.n<n->K (.ret (.tup [iv (bZ k),iv (b8 k)])) (h.up n)):FnA (SE xt) 114 [.agg [iv k.1,iv k.2.1,.val (.bool k.2.2)]] h K:=xZS (bey_ok xt h k) hk
theorem ft156 (xt:Xt):(SE xt).ft.get 113=some Tryz.f113:=by kernel_rfl
theorem res156:Tryz.f113.results.toList=[.tmp 3]:=by kernel_rfl
def Mp.badK (m:Mp) (k:Int×Int×Bool):Bool:= !m.inside k.1 k.2.1 || !m.inside (bZ k) (b8 k)
theorem badK_ok (xt:Xt) (h:Hp) (m:Mp) (ha:m.At xt h) (b:Nat) (hb:b<h.n) (q0:h.t.get b=some (.cells m.cs 27)) (k:Int×Int×Bool):FnA (SE xt) 113 [.agg [iv k.1,iv k.2.1,.val (.bool k.2.2)],.ptr b 0] h (fun r h'=>r= .ret (.val (.bool (m.badK k)))/\Fr h.n h h'):=by
 refine xZT (sok xt) (ft156 xt) rfl 25 rfl ?_;refine qA fun K hn hp=> ?_;simp only [sw.1,rE,reduceIte,rL];apply hn;obtain ⟨h1,hh1⟩: ∃h1:Hp,h1=h.new (.cells [iv k.1,iv k.2.1,.val (.bool k.2.2)] 120):=⟨_,rfl⟩;rw [<-hh1];have ha1:m.At xt h1:=by rw [hh1];exact ha.new _
 have f1:Fr h.n h h1:=by rw [hh1];exact (xZV (xZY _)).new _
 have q1:h1.t.get b=some (.cells m.cs 27):=by rw [f1.at_ b (.inl hb)];exact q0
 have q2:h1.t.get h.n=some (.cells [iv k.1,iv k.2.1,.val (.bool k.2.2)] 120):=by rw [hh1,Hp.new_t,xZZ,if_pos rfl]
 refine qA fun K1 hn hp=> ?_;simp only [sy.1,rE,reduceIte,rL,rA,q2];refine cAS (bey_c xt _ k fun m0 hm0=> ?_);have hm0:=xZU hm0;simp only [sy.1,rE,reduceIte,rL,ex_tup0,ex_tup1];apply hn;clear hn hp K1;refine qA fun K1 hn hp=> ?_;simp only [sy.1,rE,reduceIte,rL,rA,q1,q2];refine cAS (qAG xt _ m (ha1.up hm0) _ _ fun m1 hm1=> ?_);simp only [xZN] at hm1;cases e1:m.inside k.1 k.2.1
 ·simp only [sy.1,rE,reduceIte,rL,xZP];refine hn _ _ (qD (qK res156 ⟨?_,f1.up (by omega)⟩));simp [xZZ,Mp.badK,e1]
 simp only [sy.1,rE,reduceIte,rL,rA,q1,xZP];refine cAS (qAG xt _ m (ha1.up (by omega)) _ _ fun m2 hm2=> ?_);simp only [xZN] at hm2;simp only [sy.1,rE,reduceIte,rL,xZP];refine hn _ _ (qD (qK res156 ⟨?_,f1.up (by omega)⟩));simp [xZZ,Mp.badK,e1]
theorem badK_c (xt:Xt) (h:Hp) (m:Mp) (ha:m.At xt h) (b:Nat) (hb:b<h.n) (q0:h.t.get b=some (.cells m.cs 27)) (k:Int×Int×Bool) {K:KP} (hk: ∀n,h.n<n->K (.ret (.val (.bool (m.badK k)))) (h.up n)):FnA (SE xt) 113 [.agg [iv k.1,iv k.2.1,.val (.bool k.2.2)],.ptr b 0] h K:=xZS (badK_ok xt h m ha b hb q0 k) hk
theorem ft158 (xt:Xt):(SE xt).ft.get 116=some Tryz.f116:=by kernel_rfl
theorem res158:Tryz.f116.results.toList=[.tmp 3]:=by kernel_rfl
theorem badP_ok (xt:Xt) (h:Hp) (m:Mp) (ha:m.At xt h) (hr:m.Rect) (b:Nat) (hb:b<h.n) (q0:h.t.get b=some (.cells m.cs 27)) (p:Int×Int):FnA (SE xt) 116 [.agg [iv p.1,iv p.2],.ptr b 0] h (fun r h'=>r= .ret (.val (.bool (!m.is p.1 p.2 2)))/\Fr h.n h h'):=by
 refine xZT (sok xt) (ft158 xt) rfl 11 rfl ?_;refine qA fun K hn hp=> ?_;simp only [sw.1,rE,reduceIte,rL];apply hn;obtain ⟨h1,hh1⟩: ∃h1:Hp,h1=h.new (.cells [iv p.1,iv p.2] 122):=⟨_,rfl⟩;rw [<-hh1];have ha1:m.At xt h1:=by rw [hh1];exact ha.new _
 have f1:Fr h.n h h1:=by rw [hh1];exact (xZV (xZY _)).new _
 have q1:h1.t.get b=some (.cells m.cs 27):=by rw [f1.at_ b (.inl hb)];exact q0
 have q2:h1.t.get h.n=some (.cells [iv p.1,iv p.2] 122):=by rw [hh1,Hp.new_t,xZZ,if_pos rfl]
 refine qA fun K1 hn hp=> ?_;simp only [sy.1,rE,reduceIte,rL,rA,q1,q2];refine cAS (is_c xt _ m ha1 hr _ _ _ fun m1 hm1=> ?_);have hm1:=xZU hm1;simp only [sy.1,rE,reduceIte,rL];refine hn _ _ (qD (qK res158 ⟨?_,f1.up hm1⟩));simp [xZZ]
theorem badP_c (xt:Xt) (h:Hp) (m:Mp) (ha:m.At xt h) (hr:m.Rect) (b:Nat) (hb:b<h.n) (q0:h.t.get b=some (.cells m.cs 27)) (p:Int×Int) {K:KP} (hk: ∀n,h.n<n->K (.ret (.val (.bool (!m.is p.1 p.2 2)))) (h.up n)):FnA (SE xt) 116 [.agg [iv p.1,iv p.2],.ptr b 0] h K:=xZS (badP_ok xt h m ha hr b hb q0 p) hk
end Go.Proofs.Kn
