/- MvW5, MvW6, MvW7, MvW8: texts in a row, joined by a program. -/
import Derived.Test.YtnmfblokfponlaaGreatDoorQW1
import Derived.Test.YtnmfblokfponlaaGreatDoorQY9
set_option linter.all false
open Nat renaming reduceEqDiff → rE, reduceLeDiff → rD, reduceAdd → rA, reduceMul → rM, reduceLT → rL
open Nat renaming le_refl → xZZ, ble_eq → xZR, le_of_lt → xZC
open Go.Ev.T renaming get_put → xZY
open List renaming length_take → xZX, length_map → xZW, mem_map → xZV, take_append_of_le_length → xZU, length_append → xZT, getElem?_eq_getElem → xZS, take_of_length_le → xZQ, drop_eq_nil_of_le → xZP, mem_of_getElem? → xZO, length_nil → xZI, getD_eq_getElem?_getD → xZH, getElem?_eq_some_iff → xZG, mem_cons → xZF, take_append_drop → xZD, filter_eq_self → xZB, filter_append → xYZ, length_cons → xYX, drop_append → xYW
open Go.Ev.Hp renaming up_n → xZN, up_up → xZM
open Go.Ev.FnA renaming walk → xZL, calm → xZE
open Go.Ev.Fr renaming refl → xZK
open Bool renaming and_eq_true → xZJ
open Option renaming getD_some → xZA, map_none → xYY
namespace Go.Proofs.Kn
open Go Go.Ev
set_option maxRecDepth 100000
set_option maxHeartbeats 4000000
theorem ft165 (xt:Addr->Option Value):(SE xt).ft.get 165=some Tryz.f165:=by kernel_rfl
theorem res165:Tryz.f165.results.toList=[.tmp 4]:=by kernel_rfl
theorem idx165_ok (xt:Addr->Option Value) (h:Hp) (v fv:AV) (cs:List (List Value)) (p:List Value->Bool) (hv:RowAt xt h 3 v cs) (hl:cs.length<=9223372036854775807) (hf:zT (SE xt) h fv (fun c=> .agg (c.map .val)) cs p):
  FnA (SE xt) 165 [v,fv] h (fun r h'=>r= .ret (iv (zR p cs 0))/\Fr h.n h h'):=by
 refine xZL (sok xt) (ft165 xt) rfl 19 rfl ?_;have hlen:=fun h'=>hv.len (h':=h') pL rfl;refine qA fun K hn hp=> ?_;simp only [sw.1,rL];apply hn;clear hn hp K;refine qE ?_;refine qA fun K hn hp=> ?_;simp only [sy.1,rE,reduceIte,rL,hlen];apply hn;clear hn hp K;refine qF fun K k1 k2 k3 k4 k5=> ?_;refine qS (sok xt) (fun st=> ∃(k n:Nat) (tm:T AV),st=⟨tm,19,h.up n,[]⟩/\h.n<=n/\k<=cs.length/\tm.get 0=some v/\tm.get 1=some fv/\tm.get 7=some (iv cs.length)/\tm.get 8=some (iv k)/\zR p cs 0=zR p (cs.drop k) k)
  (fun st=>cs.length - (match st.tm.get 8 with|some (.val (.int _ n))=>n.toNat|_=>0)) ?_ ?_
 ·rintro st ⟨k,n,tm,rfl,hn1,hk,g0,g1,g7,g8,hfi⟩;refine qA fun K hn hp=> ?_;simp only [sy.1,rL,g7,g8];apply hn;clear hn hp K;have ht:(decide ((k:Int)<(cs.length:Int)))=decide (k<cs.length):=by simp
  by_cases hlt:k<cs.length
  ·obtain ⟨c,hc⟩: ∃c,cs[k]? =some c:=⟨_,xZS hlt⟩;have hidx:=hv.idx pL rfl xQ rfl hlt (k:= .i64);have hld:qP tb xt (h.up n) 61 (elp v (k*3))=some (.agg (c.map .val)):=(hv.up hn1).loadA xQ rfl rfl hc;refine qC true (by simp only [sy.1,reduceIte,ht,hlt]) (fun _=> ?_) (fun hx=>by cases hx);refine qI ?_;refine qF fun K' k1' k2' k3' k4' k5'=> ?_;refine qA fun K hn hp=> ?_;simp only [sy.1,rE,reduceIte,rL,g8];apply hn;clear hn hp K;refine qA fun K hn hp=> ?_;simp only [sy.1,rE,reduceIte,rL,g0,g1,hidx,hld];refine hf n c _ hn1 (xZO hc) fun n1 hn1'=> ?_;have hn1':=xZC hn1';simp only [sy.1,rL];apply hn;clear hn hp;rw [yH p hc] at hfi;cases hp:p c with
   |true=>
    refine qH true (by simp only [sy.1,rE,reduceIte]) (fun _=> ?_) (fun hx=>by cases hx);refine qA fun K hn hp=> ?_;simp only [sy.1,rE,reduceIte,rL];apply hn;clear hn hp K;refine qD (k4' _ (k4 _ (qK res165 ⟨?_,(xZK (xZZ _)).up (Nat.le_trans hn1 hn1')⟩)));simp [xZY,hfi,hp]
   |false=>
    refine qH false (by simp only [sy.1,rE,reduceIte]) (fun hx=>by cases hx) (fun _=> ?_);refine qY (k1' _ ?_);refine reg fun K hn hp'=> ?_;have hw:IntKind.i64.wrap ((k:Int)+1)=((k+1:Nat):Int):=by rw [wrap_i64 _ (by omega) (by omega)];simp
    simp only [sy.1,rE,reduceIte,rL,g8,hw];apply hn;refine ⟨⟨k+1,n1,_,rfl,Nat.le_trans hn1 hn1',hlt,?_,?_,?_,?_,?_⟩,?_⟩
    ·simp [xZY,g0]
    ·simp [xZY,g1]
    ·simp [xZY,g7]
    ·simp [xZY]
    ·rw [hfi,hp];simp
    ·have hm:cs.length - (k+1)<cs.length - k:=by omega
     simpa [xZY,g8] using hm
  ·refine qC false (by simp only [sy.1,reduceIte,ht,hlt]) (fun hx=>by cases hx) (fun _=> ?_);refine qR (k2 _ ?_);refine qA fun K hn hp=> ?_;simp only [sy.1,rL];apply hn;clear hn hp K;refine qD (qK res165 ⟨?_,(xZK (xZZ _)).up hn1⟩);have:cs.drop k=[]:=xZP (by omega);simp [xZY,hfi,this,zR]
 ·refine ⟨0,h.n,_,rfl,xZZ _,Nat.zero_le _,?_,?_,?_,?_,?_⟩;all_goals simp [xZY]
theorem idx165_c (xt:Addr->Option Value) (h:Hp) (v fv:AV) (cs:List (List Value)) (p:List Value->Bool) (hv:RowAt xt h 3 v cs) (hl:cs.length<=9223372036854775807) (hf:zT (SE xt) h fv (fun c=> .agg (c.map .val)) cs p)
  {K:CR->Hp->Prop} (hk: ∀n,h.n<n->K (.ret (iv (zR p cs 0))) (h.up n)):FnA (SE xt) 165 [v,fv] h K:=xZE (idx165_ok xt h v fv cs p hv hl hf) hk
theorem ft93 (xt:Addr->Option Value):(SE xt).ft.get 93=some Tryz.f93:=by kernel_rfl
theorem res93:Tryz.f93.results.toList=[.tmp 3]:=by kernel_rfl
theorem nbare_ok (xt:Addr->Option Value) (h:Hp) (w:Wk) (ha:w.At xt h) (hr:w.m.Rect) (b:Nat) (hb:b<h.n) (q0:h.t.get b=some (.cells w.cs 30)) (p:Int×Int):FnA (SE xt) 93 [.agg [iv p.1,iv p.2],.ptr b 0] h (fun r h'=>r= .ret (.val (.bool (!w.m.bare p.1 p.2)))/\Fr h.n h h'):=by
 refine xZL (sok xt) (ft93 xt) rfl 12 rfl ?_;obtain ⟨o1,o2,o3,o4,o5⟩:=ha.ones;refine qA fun K hn hp=> ?_;simp only [sw.1,rE,reduceIte,rL];apply hn;obtain ⟨h1,hh1⟩: ∃h1:Hp,h1=h.new (.cells [iv p.1,iv p.2] 141):=⟨_,rfl⟩;rw [<-hh1];have nh1:h1.n=h.n+1:=by rw [hh1];rfl
 have sh1:h1.t.get h.n=some (.cells [iv p.1,iv p.2] 141):=by rw [hh1];exact qX _ _
 have kh1: ∀k,k<h.n->h1.t.get k=h.t.get k:=fun k hk=>by rw [hh1];exact qW _ _ hk
 have fbh1:Fr h.n h h1:=by rw [hh1];exact (xZK (xZZ _)).new _
 have fh1:=fbh1;have ha1:=ha.fr fh1 (xZZ _);have q1:=(fh1.at_ b (.inl hb)).trans q0;refine qA fun K hn hp=> ?_;simp only [sy.1,rE,reduceIte,rL,rA,rD,sh1,q1];refine qB (sok xt) (bare_c xt h1 w.m ha1.m hr p.1 p.2 fun n1 hn1=> ?_);simp only [sy.1,rE,reduceIte,rL];refine hn _ _ (qD (qK res93 ⟨?_,fh1.up (by omega)⟩));simp [xZY]
def onP (f:Int->Int->Bool):List Value->Bool
 |[.int _ x,.int _ y]=>f x y
 |_=>false
theorem ask93 (xt:Addr->Option Value) (h:Hp) (w:Wk) (ha:w.At xt h) (hr:w.m.Rect) (b:Nat) (hb:b<h.n) (q0:h.t.get b=some (.cells w.cs 30)) (l:List (Int×Int)):zT (SE xt) h (.fn (.func 93) [] [.ptr b 0]) (fun c=> .agg (c.map .val)) (l.map p2) (onP fun x y=> !w.m.bare x y):=by
 intro n c K hn hc hk;obtain ⟨p,_,rfl⟩:=xZV.1 hc;exact j7 (sok xt) (xZE (nbare_ok xt _ w (ha.up hn) hr b (by simp only [xZN];omega) q0 p) fun n' hn'=>by have:=hk n' hn';rw [xZM];exact this)
theorem ft98 (xt:Addr->Option Value):(SE xt).ft.get 98=some Tryz.f98:=by kernel_rfl
theorem res98:Tryz.f98.results.toList=[.tmp 4]:=by kernel_rfl
theorem hit1_ok (xt:Addr->Option Value) (h:Hp) (w:Wk) (ha:w.At xt h) (b bb:Nat) (hb:b<h.n) (hbb:bb<h.n) (q0:h.t.get b=some (.cells w.cs 30)) {q n:Nat} {th wo:Int} (ht:Tub w q n th wo) (r0 c0:Nat) (hr:r0<=100) (hc:c0<=100) (q00:h.t.get bb=some (.cells [iv r0,iv c0,iv q] 61)) (p:Int×Int):FnA (SE xt) 98 [.agg [iv p.1,iv p.2],.ptr b 0,.ptr bb 0] h (fun r h'=>r= .ret (.val (.bool (gP r0 c0 n p.1 p.2)))/\Fr h.n h h'):=by
 refine xZL (sok xt) (ft98 xt) rfl 12 rfl ?_;obtain ⟨o1,o2,o3,o4,o5⟩:=ha.ones;have n3:=ht.n3;refine qA fun K hn hp=> ?_;simp only [sw.1,rE,reduceIte,rL,rA];apply hn;obtain ⟨h1,hh1⟩: ∃h1:Hp,h1=h.new (.cells [iv p.1,iv p.2] 141):=⟨_,rfl⟩;rw [<-hh1];have nh1:h1.n=h.n+1:=by rw [hh1];rfl
 have sh1:h1.t.get h.n=some (.cells [iv p.1,iv p.2] 141):=by rw [hh1];exact qX _ _
 have kh1: ∀k,k<h.n->h1.t.get k=h.t.get k:=fun k hk=>by rw [hh1];exact qW _ _ hk
 have fbh1:Fr h.n h h1:=by rw [hh1];exact (xZK (xZZ _)).new _
 have fh1:=fbh1;have ha1:=ha.fr fh1 (xZZ _);have q1:=(fh1.at_ b (.inl hb)).trans q0;have q2:=(fh1.at_ bb (.inl hbb)).trans q00;refine qA fun K hn hp=> ?_;simp only [sy.1,rE,reduceIte,rL,rA,sh1,q1,q2];refine qB (sok xt) (has_c xt h1 w ha1 r0 c0 q n th wo ht.at_ hr hc (by omega) p.1 p.2 fun n1 hn1=> ?_);simp only [sy.1,rE,reduceIte,rL];refine hn _ _ (qD (qK res98 ⟨?_,fh1.up (by omega)⟩));simp [xZY]
theorem ft97 (xt:Addr->Option Value):(SE xt).ft.get 97=some Tryz.f97:=by kernel_rfl
theorem res97:Tryz.f97.results.toList=[.tmp 4]:=by kernel_rfl
theorem hit_c (xt:Addr->Option Value) (h:Hp) (w:Wk) (ha:w.At xt h) (u:AV) (hs:List (Int×Int)) (hu:Plc xt h u hs) (b bh:Nat) (hb:b<h.n) (hbh:bh<h.n) (q0:h.t.get b=some (.cells w.cs 30)) (q00:h.t.get bh=some (.cells [u] 25)) (s:Int×Int×Int) (hbs:w.Blk s) (h6:w.m.cells.length<=100) (h8:w.m.W<=100)
  {K:CR->Hp->Prop} (hk: ∀m,h.n<m->K (.ret (.val (.bool (w.hit hs s)))) (h.up m)):FnA (SE xt) 97 [wY s,.ptr bh 0,.ptr b 0] h K:=by
 refine xZE ?_ hk;clear hk K;obtain ⟨r0,c0,q,n,th,wo,rfl,ht,k1,k2⟩:=hbs;refine xZL (sok xt) (ft97 xt) rfl 8 rfl ?_;have onev:=hu.row.one;refine qA fun K hn hp=> ?_;simp only [sw.1,rE,reduceIte,rL,rA];apply hn;clear hn hp K;obtain ⟨h1,hh1⟩: ∃h1:Hp,h1=h.new (.cells [iv r0,iv c0,iv q] 61):=⟨_,rfl⟩;rw [<-hh1];have nh1:h1.n=h.n+1:=by rw [hh1];rfl
 have sh1:h1.t.get h.n=some (.cells [iv r0,iv c0,iv q] 61):=by rw [hh1];exact qX _ _
 have kh1: ∀k,k<h.n->h1.t.get k=h.t.get k:=fun k hk=>by rw [hh1];exact qW _ _ hk
 have fbh1:Fr h.n h h1:=by rw [hh1];exact (xZK (xZZ _)).new _
 have fh1:=fbh1;have ha1:=ha.fr fh1 (xZZ _);have q1:=(fh1.at_ b (.inl hb)).trans q0;have q2:=(fh1.at_ bh (.inl hbh)).trans q00;have hu1:=hu.fr fh1 (xZZ _);have ask:zT (SE xt) h1 (.fn (.func 98) [] [.ptr b 0,.ptr h.n 0]) (fun c=> .agg (c.map .val)) (hs.map p2) (fun c=>match c with|[.int _ x,.int _ y]=>gP r0 c0 n x y|_=>false):=by
  intro m c K hm hc hk;obtain ⟨p,_,rfl⟩:=xZV.1 hc;exact j7 (sok xt) (xZE (hit1_ok xt _ w (ha1.up hm) b h.n (by simp only [xZN];omega) (by simp only [xZN];omega) q1 ht r0 c0 (by omega) (by omega) sh1 p) fun n' hn'=>by have:=hk n' hn';rw [xZM];exact this)
 have ea:((hs.map p2).any fun c=>match c with|[.int _ x,.int _ y]=>gP r0 c0 n x y|_=>false)=w.hit hs ((r0:Int),(c0:Int),(q:Int)):=by
  rw [List.any_map];simp only [Wk.hit]
  congr 1
  funext p
  simp [Wk.hit1,ht.tb,p2]
 refine qA fun K hn hp=> ?_;simp only [sy.1,rE,reduceIte,rL,q2];refine qB (sok xt) (qDj xt h1 u _ _ _ hu1.row (by rw [xZW];exact hu.lt) ask fun n1 hn1=> ?_);rw [ea];simp only [sy.1,rE,reduceIte,rL];refine hn _ _ (qD (qK res97 ⟨?_,fh1.up (by omega)⟩));simp [xZY]
end Go.Proofs.Kn
namespace Go.Proofs.Kn
open Go Go.Ev
set_option maxRecDepth 100000
set_option maxHeartbeats 4000000
theorem nil33 {xt:Addr->Option Value} {h:Hp} {v:AV} {cs:List (List Value)} (r:RowAt xt h 3 v cs): ∃b,yW Tryz.prog tb .eql 33 (.tmp 3) (.const (.slice none 0 0)) v (.val (.slice none 0 0))=some (.val (.bool b))/\(b=true->cs=[]):=by
 obtain ⟨_,_,h3⟩:=r;rcases h3 with ⟨rfl,rfl⟩|⟨ad,cap,rfl,_⟩|⟨b,off,av,e,rfl,_⟩
 ·exact ⟨true,by kernel_rfl,fun _=>rfl⟩
 ·exact ⟨false,by kernel_rfl,fun h=>by cases h⟩
 ·exact ⟨false,by kernel_rfl,fun h=>by cases h⟩
theorem bs33z (h:Hp):j8 tb h 33 0 []=some (.sl h.n 0 0 3,h.new (.cells [] 61)):=by kernel_rfl
theorem ap33z {xt:Addr->Option Value} {h:Hp} {b:Nat} {v:AV} {ls:List (Int×Int×Int)} (hb:h.t.get b=some (.cells [] 61)) (hs:xL xt h 3 v=some (ls.length,jD ls)) (hl:ls.length<=1000000):qT Tryz.prog tb xt .append [33,33] [.sl b 0 0 3,v] h=some (.sl h.n 0 ls.length 3,(h.del b).new (.cells (jD ls) 61)):=by
 have b3:Nat.ble ((0+ls.length)*24) 140737488355328=true:=by rw [xZR];omega
 have b4:Nat.ble (0+ls.length) 9223372036854775807=true:=by rw [xZR];omega
 have:j5 tb xt h 33 33 (.sl b 0 0 3) v=some (.sl h.n 0 ls.length 3,(h.del b).new (.cells (jD ls) 61)):=by
  unfold j5;have d33:te33.d= .slice 61:=rfl;have z61:te61.size=3:=rfl;have hby:te61.bytes=24:=rfl;simp only [pL,d33,xQ,z61,hs,hb,hby,b3,b4];simp;rfl
 simp only [qT,this]
theorem cuts_src {xt:Addr->Option Value} {h:Hp} {v:AV} {ls:List (Int×Int×Int)} (a:Cuts xt h v ls):xL xt h 3 v=some (ls.length,jD ls):=by
 have:=row_srcX a.row (fun c hc u hu=>by
  obtain ⟨x,_,rfl⟩:=xZV.1 hc;simp only [Kn.t3,xZF,List.not_mem_nil,or_false] at hu;rcases hu with rfl|rfl|rfl<;>rfl)
 rw [xZW] at this;exact this
theorem ft96 (xt:Addr->Option Value):(SE xt).ft.get 96=some Tryz.f96:=by kernel_rfl
theorem res96:Tryz.f96.results.toList=[.tmp 2]:=by kernel_rfl
theorem clone_c (xt:Addr->Option Value) (h:Hp) (v:AV) (ls:List (Int×Int×Int)) (hl:Cuts xt h v ls) (hl2:ls.length<=1000000):FnA (SE xt) 96 [v] h (fun res h'=>Fr h.n h h'/\ ∃z,res= .ret z/\OwnSl h' h.n 3 61 z ls.length (jD ls)):=by
 refine xZL (sok xt) (ft96 xt) rfl 8 rfl ?_;have onev:=hl.row.one;obtain ⟨b,hb,hb2⟩:=nil33 hl.row;refine qA fun K hn hp=> ?_;simp only [sw.1,rL];apply hn;refine qE ?_;refine qA fun K hn hp=> ?_;simp only [sy.1,rE,reduceIte,rL,hb];apply hn;cases b
 ·refine qC false (by simp only [sy.1,rE,reduceIte]) (fun hx=>by cases hx) (fun _=> ?_);refine qI ?_;obtain ⟨h1,hh1,n1,s1,k1,f1⟩:=uO h (.cells [] 61);have p1:=ap33z s1 (cuts_src (hl.fr f1 (xZZ _))) hl2;refine qA fun K hn hp=> ?_;simp only [sy.1,rE,reduceIte,rL,vG,bs33z,<-hh1,p1];refine hn _ _ (qD (qK res96 ⟨((f1.del (xZZ _) (by omega)).new _),_,?_,.inr ⟨h1.n,rfl,by omega,by rw [Hp.new_n,Hp.del_n];omega,?_,vR ls⟩⟩))
  ·simp [xZY]
  ·rw [show h1.n=(h1.del h.n).n from rfl];exact qX _ _
 ·have:ls=[]:=by simpa using hb2 rfl
  subst this;refine qC true (by simp only [sy.1,rE,reduceIte]) (fun _=> ?_) (fun hx=>by cases hx);refine qA fun K hn hp=> ?_;simp only [sy.1,rL];apply hn;refine qU (qK res96 ⟨xZK (xZZ _),qAP,?_,OwnSl.nil⟩);simp [xZY]
end Go.Proofs.Kn
namespace Go.Proofs.Kn
open Go Go.Ev
set_option maxRecDepth 100000
set_option maxHeartbeats 4000000
theorem lo33 (h:Hp) (b n k:Nat) (hk:k<=n):zU tb h 33 (.sl b 0 n 3) (some (iv (k:Int))) none=some (.sl b (k*3) (n - k) 3):=by
 have:zU tb h 33 (.sl b 0 n 3) (some (iv (k:Int))) none=bif Nat.ble k n && (Nat.ble n n && Nat.beq 3 3) then some (.sl b (0+k*3) (n - k) 3) else none:=by kernel_rfl
 rw [this,show Nat.ble k n=true by rw [xZR];exact hk,show Nat.ble n n=true by rw [xZR];exact xZZ _];simp
theorem hi33 (h:Hp) (b n k:Nat) (hk:k<=n):zU tb h 33 (.sl b 0 n 3) none (some (iv (k:Int)))=some (.sl b 0 k 3):=by
 have:zU tb h 33 (.sl b 0 n 3) none (some (iv (k:Int)))=bif Nat.ble 0 k && (Nat.ble k n && Nat.beq 3 3) then some (.sl b (0+0*3) (k - 0) 3) else none:=by kernel_rfl
 rw [this,show Nat.ble k n=true by rw [xZR];exact hk,show Nat.ble 0 k=true by rw [xZR];omega];simp
theorem ix33 {b n j:Nat} (hj:j<n):qN tb 33 (.sl b 0 n 3) (iv (j:Int))=some (.ptr b (j*3)):=by
 have e1:qAl (iv (j:Int))=some (Int.ofNat j):=rfl;have e2:Nat.blt j n=true:=by rw [Nat.blt_eq];exact hj
 have d33:te33.d= .slice 61:=rfl;have s61:te61.size=3:=rfl;simp [qN,pL,e1,d33,xQ,e2,s61]
theorem clr33 (xt:Addr->Option Value) (h:Hp) (b k m:Nat) (cs:List AV) (hm:0<m) (hb:h.t.get b=some (.cells cs 61)) (hl:k+m*3<=cs.length):qT Tryz.prog tb xt .clear [33] [.sl b k m 3] h=some (.tup [],h.set b (.cells (cs.take k++jV [iv 0,iv 0,iv 0] m++cs.drop (k+m*3)) 61)):=by
 have d33:te33.d= .slice 61:=rfl;have s61:te61.size=3:=rfl;have z61:te61.zero=[.int .i64 0,.int .i64 0,.int .i64 0]:=rfl;have b1:Nat.blt 0 m=true:=by rw [Nat.blt_eq];exact hm
 have b2:Nat.ble (k+m*3) cs.length=true:=by rw [xZR];exact hl
 have b3:Value.oneCell' (.int .i64 0)=true:=rfl;have:pV tb h 33 (.sl b k m 3)=some (h.set b (.cells (cs.take k++jV [iv 0,iv 0,iv 0] m++cs.drop (k+m*3)) 61)):=by
  have b4:Nat.blt 0 3=true:=rfl;simp [pV,pL,d33,xQ,s61,z61,hb,b1,b2,b3,b4]
 simp only [qT,this]
theorem qBC {α:Type} (p:α->Bool): ∀(cs:List α) (k:Nat),(zR p cs k= -1/\ ∀c∈cs,p c=false)\/ ∃i,i<cs.length/\zR p cs k=((k+i:Nat):Int)/\(∀c∈cs.take i,p c=false)/\ ∃c,cs[i]? =some c/\p c=true
 |[],k=> .inl ⟨rfl,fun c hc=>by cases hc⟩
 |c::cs,k=>by
  by_cases hp:p c=true
  ·exact .inr ⟨0,by simp,by simp [zR,hp],fun c hc=>by simp at hc,c,rfl,hp⟩
  ·simp only [Bool.not_eq_true] at hp;rcases qBC p cs (k+1) with ⟨h1,h2⟩|⟨i,h1,h2,h3,h4⟩
   ·refine .inl ⟨by simp [zR,hp,h1],fun x hx=> ?_⟩;rcases xZF.1 hx with rfl|hx
    ·exact hp
    ·exact h2 x hx
   ·refine .inr ⟨i+1,by simp [h1],by simp [zR,hp,h2];omega,fun x hx=> ?_,by simpa using h4⟩;rw [List.take_succ_cons] at hx;rcases xZF.1 hx with rfl|hx
    ·exact hp
    ·exact h3 x hx
theorem qAG (s:Int×Int×Int) (l:List (Int×Int×Int)):jD (s::l)=[iv s.1,iv s.2.1,iv s.2.2]++jD l:=rfl
theorem qD8 (l:List (Int×Int×Int)) {k:Nat} (hk:k<=l.length):(jD l).take (k*3)=jD (l.take k):=by
 have e:jD l=jD (l.take k)++jD (l.drop k):=by rw [<-kS,xZD]
 have hl:(jD (l.take k)).length=k*3:=by rw [vR,xZX];omega
 rw [e,xZU (by omega),xZQ (by omega)]
theorem qD9 (l:List (Int×Int×Int)) {k:Nat} (hk:k<=l.length):(jD l).drop (k*3)=jD (l.drop k):=by
 have e:jD l=jD (l.take k)++jD (l.drop k):=by rw [<-kS,xZD]
 have hl:(jD (l.take k)).length=k*3:=by rw [vR,xZX];omega
 rw [e,xYW,xZP (by omega),hl,Nat.sub_self];rfl
theorem ft95 (xt:Addr->Option Value):(SE xt).ft.get 95=some Tryz.f95:=by kernel_rfl
theorem res95:Tryz.f95.results.toList=[.tmp 4]:=by kernel_rfl
theorem delf_c (xt:Addr->Option Value) (h0 h:Hp) (f0:Fr h0.n h0 h) (z fv:AV) (onef:Go.Ev.one fv=true) (ls:List (Int×Int×Int)) (p:Int×Int×Int->Bool) (own:OwnSl h h0.n 3 61 z ls.length (jD ls)) (hl2:ls.length<=1000000)
  (hf: ∀(hg:Hp) (s:Int×Int×Int),Fr h0.n h0 hg->s∈ls-> ∀K:CR->Hp->Prop,(∀m,hg.n<m->K (.ret (.val (.bool (p s)))) (hg.up m))->CallA (SE xt) fv [wY s] hg K):
  FnA (SE xt) 95 [z,fv] h (fun res h'=>Fr h0.n h0 h'/\ ∃z',res= .ret z'/\Cuts xt h' z' (ls.filter fun s=> !p s)):=by
 refine xZL (sok xt) (ft95 xt) rfl 42 rfl ?_;have onez:=own.one;have rowz:RowAt xt h 3 z (ls.map Kn.t3):=OwnSl.row (h:=h) (N:=h0.n) (e:=61) (fun x hx=>by obtain ⟨y,_,rfl⟩:=xZV.1 hx;rfl) (by omega) (by rw [xZW];exact own);have ask:zT (SE xt) h fv (fun c=> .agg (c.map .val)) (ls.map t3) (fun c=>match c with|[.int _ x,.int _ y,.int _ z]=>p (x,y,z)|_=>false):=by
  intro n c K hn hc hk;obtain ⟨s,hs,rfl⟩:=xZV.1 hc;exact hf (h.up n) s (f0.up hn) hs K fun m hm=>by have:=hk m hm;rw [xZM];exact this
 refine qA fun K hn hp=> ?_;simp only [sw.1,rL];apply hn;clear hn hp K;refine qA fun K hn hp=> ?_;simp only [sy.1,rE,reduceIte,rL];refine qB (sok xt) (idx165_c xt h z fv _ _ rowz (by rw [xZW];omega) ask fun n1 hn1=> ?_);simp only [sy.1,rE,reduceIte,rL];apply hn;clear hn hp K;refine qE ?_;rcases qBC (fun c=>match c with|[.int _ x,.int _ y,.int _ z]=>p (x,y,z)|_=>false) (ls.map t3) 0 with ⟨e1,e2⟩|⟨i0,e2,e1,e3,e4⟩
 ·rw [e1];refine qA fun K hn hp=> ?_;simp only [sy.1,rE,reduceIte,rL];apply hn;clear hn hp K;refine qC true (by simp only [sy.1,rE,reduceIte]) (fun _=> ?_) (fun hx=>by cases hx);refine qE ?_;refine qA fun K hn hp=> ?_;simp only [sy.1,rE,reduceIte,rL];apply hn;clear hn hp K;have hfil:(ls.filter fun s=> !p s)=ls:=xZB.2 fun s hs=>by
   have:=e2 _ (xZV.2 ⟨s,hs,rfl⟩);show (!p s)=true;rw [show p s=false from this];rfl
  refine qU (qK res95 ⟨f0.up (by omega),z,?_,?_⟩)
  ·simp [xZY]
  ·rw [hfil];refine ⟨rowz.up (by omega),by omega,fun ad n c e=> ?_⟩;rcases own with ⟨_,_,rfl⟩|⟨b,rfl,_⟩
   ·cases e;exact xZZ _
   ·cases e
 ·rw [xZW] at e2;obtain ⟨b,rfl,b1,b2,b3,b4⟩: ∃b,z= .sl b 0 ls.length 3/\h0.n<=b/\b<h.n/\h.t.get b=some (.cells (jD ls) 61)/\(jD ls).length=ls.length*3:=by
   rcases own with ⟨e,_,_⟩|q
   ·omega
   ·exact q
  rw [e1,Nat.zero_add];clear e1;obtain ⟨c0,hc0,hp0⟩:=e4;rw [List.getElem?_map,Option.map_eq_some_iff] at hc0;obtain ⟨s0,hs0,rfl⟩:=hc0;have hp0':p s0=true:=hp0;have tk:(ls.take (i0+1)).filter (fun s=> !p s)=ls.take i0:=by
   rw [List.take_succ,hs0,xYZ];have:(ls.take i0).filter (fun s=> !p s)=ls.take i0:=xZB.2 fun s hs=>by
    have:=e3 (Kn.t3 s) (by rw [<-List.map_take];exact xZV.2 ⟨s,hs,rfl⟩);show (!p s)=true;rw [show p s=false from this];rfl
   rw [this];simp [hp0']
  have dm:decide ((i0:Int)= -1)=false:=decide_eq_false (by omega);have w0:IntKind.i64.wrap ((i0:Int)+1)=((i0+1:Nat):Int):=by rw [wrap_i64 _ (by omega) (by omega)];simp
  refine qA fun K hn hp=> ?_;simp only [sy.1,rE,reduceIte,rL,dm];apply hn;clear hn hp K;refine qC false (by simp only [sy.1,rE,reduceIte]) (fun hx=>by cases hx) (fun _=> ?_);refine qI ?_;obtain ⟨i1,hi1⟩: ∃i1:Nat,i1=i0+1:=⟨_,rfl⟩;rw [<-hi1] at tk w0;have hlen: ∀h':Hp,vF tb h' 33 (.sl b 0 ls.length 3)=some ls.length:=fun h'=>by
   have:=rowz.len (h':=h') pL rfl;simpa using this
  have z1:(jD ls).take (i0*3)=jD ((ls.take i1).filter fun s=> !p s):=by rw [tk];exact qD8 _ (by omega)
  have z2:=qD9 ls (k:=i1) (by omega);have z3:i0=((ls.take i1).filter fun s=> !p s).length:=by rw [tk,xZX];omega
  refine qE ?_;refine qA fun K hn hp=> ?_;simp only [sy.1,rE,reduceIte,rL,w0];apply hn;clear hn hp K;refine qF fun KA A1 A2 A3 A4 A5=> ?_;refine qS (sok xt) (fun st=> ∃(j:Nat) (hg:Hp) (i:Nat) (arr:List AV) (tm:T AV),st=⟨tm,42,hg,[]⟩/\j<=ls.length/\tm.get 0=some (.sl b 0 ls.length 3)/\tm.get 1=some (fv)/\tm.get 5=some (iv i)/\tm.get 6=some (iv j)/\Fr h0.n h0 hg/\b<hg.n/\hg.t.get b=some (.cells arr 61)/\arr.length=ls.length*3/\i<j/\arr.take (i*3)=jD ((ls.take j).filter fun s=> !p s)/\arr.drop (j*3)=jD (ls.drop j)/\i=((ls.take j).filter fun s=> !p s).length) (fun st=>ls.length - (match st.tm.get 6 with|some (.val (.int _ n))=>n.toNat|_=>0)) ?_ ?_
  ·rintro st ⟨j,hg,i,arr,tm,rfl,hkA,g0,g1,g5,g6,fg,bg,ag,la,hij,ta,da,li⟩;have muA:=g6;refine qE ?_;refine qA fun K hn hp=> ?_;simp only [sy.1,rE,reduceIte,rL,syw.1,hlen,jR,g0,g6];apply hn;clear hn hp K;by_cases hj:j<ls.length
   ·refine qC true (by simp only [sy.1,rE,reduceIte,hj]) (fun _=> ?_) (fun hx=>by cases hx);refine qI ?_;obtain ⟨s,hs⟩: ∃s,ls[j]? =some s:=⟨_,xZS hj⟩;have dj:ls.drop j=s::ls.drop (j+1):=by
     rw [List.drop_eq_getElem_cons hj]
     congr 1
     have:=(xZG.1 hs).2;exact this
    have x1:=ix33 (b:=b) hj;have x2:j*3+3<=arr.length:=by omega
    have x3:(arr.drop (j*3)).take 3=[iv s.1,iv s.2.1,iv s.2.2]:=by rw [da,dj,qAG];rfl
    have dj1:arr.drop ((j+1)*3)=jD (ls.drop (j+1)):=by
     have:arr.drop ((j+1)*3)=(arr.drop (j*3)).drop 3:=by rw [List.drop_drop];congr 1;omega
     rw [this,da,dj,qAG];rfl
    have tj1:(ls.take (j+1)).filter (fun s=> !p s)=(ls.take j).filter (fun s=> !p s)++if p s=true then [] else [s]:=by
     rw [List.take_succ,hs,xYZ];cases hps:p s<;>simp [hps]
    refine qF fun KB B1 B2 B3 B4 B5=> ?_;refine qA fun K hn hp=> ?_;simp only [sw.1,rE,reduceIte,rL,rA,al61,g0,g6,x1,ag,x2,x3];obtain ⟨h4,hh4,n4,s4,k4,f4⟩:=nsE hg (.cells [iv 0,iv 0,iv 0] 61) (.cells [iv s.1,iv s.2.1,iv s.2.2] 61);rw [<-hh4];apply hn;clear hn hp K hh4;have fg4:=fg.trans f4 (by omega);have a4:=(k4 b (by omega)).trans ag;refine qA fun K hn hp=> ?_;simp only [sy.1,rE,reduceIte,rL,rA,g1,s4];refine hf h4 s fg4 (xZO hs) _ fun m5 hm5=> ?_;cases hps:p s
    ·simp only [sy.1,rE,reduceIte,rL];apply hn;clear hn hp K;refine qH true (by simp only [sy.1,rE,reduceIte]) (fun _=> ?_) (fun hx=>by cases hx);rw [hps,if_neg (by decide)] at tj1;have y1:=ix33 (b:=b) (show i<ls.length by omega);have y2:i*3+3<=arr.length:=by omega
     have w1:IntKind.i64.wrap ((i:Int)+1)=((i+1:Nat):Int):=by rw [wrap_i64 _ (by omega) (by omega)];simp
     refine qA fun K hn hp=> ?_;simp only [sw.1,rE,reduceIte,rL,rA,g0,g5,s4,y1,y2,a4];apply hn;clear hn hp K;obtain ⟨arr',ha'⟩: ∃arr',arr'=arr.take (i*3)++[iv s.1,iv s.2.1,iv s.2.2]++arr.drop (i*3+3):=⟨_,rfl⟩;have la':arr'.length=ls.length*3:=by
      rw [ha'];simp only [xZT,xZX,List.length_drop,xYX,xZI];omega
     have lt3:(arr.take (i*3)++[iv s.1,iv s.2.1,iv s.2.2]).length=(i+1)*3:=by
      simp only [xZT,xZX,xYX,xZI];omega
     have ta':arr'.take ((i+1)*3)=jD ((ls.take (j+1)).filter fun s=> !p s):=by
      rw [ha',xZU (by omega),xZQ (by omega),ta,tj1,kS];rfl
     have da':arr'.drop ((j+1)*3)=jD (ls.drop (j+1)):=by
      rw [ha',xYW,xZP (by omega),List.nil_append,lt3,List.drop_drop,<-dj1]
      congr 1
      omega
     obtain ⟨h7,hh7⟩: ∃h7:Hp,h7=(h4.up m5).set b (.cells arr' 61):=⟨_,rfl⟩;rw [<-ha',<-hh7];have a7:h7.t.get b=some (.cells arr' 61):=by rw [hh7,Hp.set_t,xZY,if_pos rfl]
     have n7:h7.n=m5:=by rw [hh7];rfl
     have fg7:Fr h0.n h0 h7:=by rw [hh7];exact (fg4.up (by omega)).set (by omega) (by simp only [xZN];omega) _
     clear hh7;refine reg fun K hn hp=> ?_;simp only [sy.1,rE,reduceIte,rL,g5,w1];refine hn _ _ (B1 _ ?_);clear hn hp K;refine reg fun K hn hp=> ?_;simp only [sy.1,rE,reduceIte,rL,g6,qQ hj (show ls.length<=9223372036854775807 by omega)];apply hn;clear hn hp K;refine ⟨⟨j+1,h7,i+1,arr',_,rfl,by omega,(by simp [xZY,g0]),(by simp [xZY,g1]),(by simp [xZY]),(by simp [xZY]),fg7,by omega,a7,la',by omega,ta',da',by rw [tj1,xZT,<-li];rfl⟩,by simpa [xZY,muA] using (by omega:ls.length - (j+1)<ls.length - j)⟩
    ·simp only [sy.1,rE,reduceIte,rL];apply hn;clear hn hp K;refine qH false (by simp only [sy.1,rE,reduceIte]) (fun hx=>by cases hx) (fun _=> ?_);refine qY (B1 _ ?_);refine reg fun K hn hp=> ?_;simp only [sy.1,rE,reduceIte,rL,g6,qQ hj (show ls.length<=9223372036854775807 by omega)];apply hn;clear hn hp K;rw [hps,if_pos rfl,List.append_nil] at tj1;refine ⟨⟨j+1,h4.up m5,i,arr,_,rfl,by omega,(by simp [xZY,g0]),(by simp [xZY,g1]),(by simp [xZY,g5]),(by simp [xZY]),fg4.up (by omega),by simp only [xZN];omega,a4,la,by omega,by rw [tj1];exact ta,dj1,by rw [tj1];exact li⟩,by simpa [xZY,muA] using (by omega:ls.length - (j+1)<ls.length - j)⟩
   ·refine qC false (by simp only [sy.1,rE,reduceIte,hj]) (fun hx=>by cases hx) (fun _=> ?_);refine qR (A2 _ ?_);obtain rfl:j=ls.length:=by omega
    rw [xZQ (xZZ _)] at ta li;have c1:=lo33 hg b ls.length i (by omega);have c2:=clr33 xt hg b (i*3) (ls.length - i) arr (by omega) ag (by omega);refine qA fun K hn hp=> ?_;simp only [sy.1,rE,reduceIte,rL,g0,g5,wW,xYY,c1,c2];apply hn;clear hn hp K;obtain ⟨h8,hh8⟩: ∃h8:Hp,h8=hg.set b (.cells (arr.take (i*3)++jV [iv 0,iv 0,iv 0] (ls.length - i)++arr.drop (i*3+(ls.length - i)*3)) 61):=⟨_,rfl⟩;rw [<-hh8];have f8:Fr h0.n h0 h8:=by rw [hh8];exact fg.set b1 bg _
    have a8:h8.t.get b=some (.cells (arr.take (i*3)++jV [iv 0,iv 0,iv 0] (ls.length - i)++arr.drop (i*3+(ls.length - i)*3)) 61):=by rw [hh8,Hp.set_t,xZY,if_pos rfl]
    have n8:h8.n=hg.n:=by rw [hh8];rfl
    clear hh8;have c3:=hi33 h8 b ls.length i (by omega);refine qA fun K hn hp=> ?_;simp only [sy.1,rE,reduceIte,rL,g0,g5,wW,xYY,c3];refine hn _ _ (qD (qK res95 ⟨f8,.sl b 0 i 3,?_,?_⟩))
    ·simp [xZY]
    ·have gr:GrowAt h8 h0.n (.sl b 0 i 3) (ls.filter fun s=> !p s):=by
      refine .inr ⟨b,_,by rw [<-li],b1,by omega,a8,?_,?_⟩
      ·rw [<-li];simp only [xZT,xZX];omega
      ·rw [<-li,List.append_assoc,xZU (by simp only [xZX];omega),List.take_take,Nat.min_self,ta]
     exact (gr.cuts (by have:=List.length_filter_le (fun s=> !p s) ls;omega)).1
  ·exact ⟨i1,h.up n1,i0,jD ls,_,rfl,(by omega),(by simp [xZY]),(by simp [xZY]),(by simp [xZY]),(by simp [xZY]),f0.up (by omega),by simp only [xZN];omega,b3,b4,by omega,z1,z2,z3⟩
end Go.Proofs.Kn
namespace Go.Proofs.Kn
open Go Go.Ev
set_option maxRecDepth 100000
set_option maxHeartbeats 4000000
def Wk.hok (w:Wk) (hs:List (Int×Int)):Bool:= !decide (w.m.H<(hs.length:Int)) && !(hs.any fun p=> !w.m.bare p.1 p.2)
theorem rc_is {m:Mp} (hr:m.Rect) (r c:Int):decide (m.rc r c=2)=m.is r c 2:=by
 rw [Bool.eq_iff_iff,decide_eq_true_eq,Mp.is,xZJ,decide_eq_true_eq,Mp.inside_iff,Mp.rc,Mp.kind];have e1:(m.cells.getD r.toNat [])=(m.cells[r.toNat]?).getD []:=xZH;rw [e1];cases q:m.cells[r.toNat]? with
 |none=>
  have:m.cells.length<=r.toNat:=List.getElem?_eq_none_iff.1 q;simp only [Option.getD_none,xZI,zC,xZJ];have hR:m.R=m.cells.length:=rfl;rw [if_neg (by omega)];simp
 |some l=>
  have hl:=hr l (xZO q);have hlt:=(xZG.1 q).1;have hR:m.R=m.cells.length:=rfl;have hC:m.C=(l.length:Int):=by rw [Mp.C,hl]
  simp only [xZA,zC,xZJ,hR,hC];rw [xZH];by_cases e:(0<=r/\r<=(m.cells.length:Int) - 1)/\0<=c/\c<=(l.length:Int) - 1
  ·rw [if_pos e];have hc:c.toNat<l.length:=by omega
   rw [xZS hc];simp only [xZA];exact ⟨fun h=>⟨⟨⟨e.1.1,by omega⟩,e.2.1,by omega⟩,h⟩,fun h=>h.2⟩
  ·rw [if_neg e];constructor
   ·intro h;simp at h
   ·rintro ⟨⟨h1,h2⟩,_⟩;exact absurd ⟨⟨h1.1,by omega⟩,h2.1,by omega⟩ e
theorem holes_hok {w:Wk} (hr:w.m.Rect) (hs:List (Int×Int)):w.m.holes hs=w.hok hs:=by
 rw [Mp.holes,Wk.hok];have e1:(hs.all fun p=>decide (w.m.rc p.1 p.2=2) && !uQ w.m.ps p.1 p.2)= !(hs.any fun p=> !w.m.bare p.1 p.2):=by
  rw [List.not_any_eq_all_not]
  congr 1
  funext p
  rw [rc_is hr,Bool.not_not,Mp.bare]
 rw [e1,Bool.and_comm]
 congr 1
 by_cases q:w.m.H<(hs.length:Int)
 ·rw [decide_eq_true q,decide_eq_false (by omega)];rfl
 ·rw [decide_eq_false q,decide_eq_true (by omega)];rfl
def Wk.pspoilt (w:Wk) (ls:List (Int×Int×Int)) (hs:List (Int×Int)):Int×Int:=
 if (w.ok && w.cut ls && w.hok hs)=true then
  match w.m.bnd with
  |none=>(0,7)
  |some G=>(w.V G (w.left hs ls),0)
 else (0,2)
theorem ft42 (xt:Addr->Option Value):(SE xt).ft.get 42=some Tryz.f42:=by kernel_rfl
theorem qCi:Tryz.f42.results.toList=[.tmp 6,.tmp 7]:=by kernel_rfl
theorem qBc (xt:Addr->Option Value) (h:Hp) (w:Wk) (ha:w.At xt h) (v0:AV) (ls:List (Int×Int×Int)) (hl:Cuts xt h v0 ls) (hl50:ls.length<=1000000) (u:AV) (hs:List (Int×Int)) (hu:Plc xt h u hs)
  {K:CR->Hp->Prop} (hk: ∀m,h.n<m->K (.ret (.tup [iv (w.pspoilt ls hs).1,iv (w.pspoilt ls hs).2])) (h.up m)):FnA (SE xt) 42 [w.av,v0,u] h K:=by
 refine xZE ?_ hk;clear hk K;refine xZL (sok xt) (ft42 xt) rfl 50 rfl ?_;obtain ⟨o1,o2,o3,o4,o5⟩:=ha.ones;have oneu:=hu.row.one;have hlenU:=hu.len;have cu:=hu.row.cells;refine qA fun K hn hp=> ?_;simp only [sw.1,rE,reduceIte,rL,rA,cu];apply hn;obtain ⟨h1,hh1⟩: ∃h1:Hp,h1=h.new (.cells w.cs 30):=⟨_,rfl⟩;rw [<-hh1];have nh1:h1.n=h.n+1:=by rw [hh1];rfl
 have sh1:h1.t.get h.n=some (.cells w.cs 30):=by rw [hh1];exact qX _ _
 have kh1: ∀k,k<h.n->h1.t.get k=h.t.get k:=fun k hk=>by rw [hh1];exact qW _ _ hk
 have fbh1:Fr h.n h h1:=by rw [hh1];exact (xZK (xZZ _)).new _
 have fh1:=fbh1;obtain ⟨h2,hh2⟩: ∃h2:Hp,h2=h1.new (.cells [u] 25):=⟨_,rfl⟩;rw [<-hh2];have nh2:h2.n=h1.n+1:=by rw [hh2];rfl
 have sh2:h2.t.get h1.n=some (.cells [u] 25):=by rw [hh2];exact qX _ _
 have kh2: ∀k,k<h1.n->h2.t.get k=h1.t.get k:=fun k hk=>by rw [hh2];exact qW _ _ hk
 have fbh2:Fr h1.n h1 h2:=by rw [hh2];exact (xZK (xZZ _)).new _
 have fh2:Fr h.n h h2:=fh1.trans fbh2 (by omega);simp only [nh1,Nat.add_assoc,rA] at nh2 sh2 kh2;have s1:=(kh2 h.n (by omega)).trans sh1;have ha2:=ha.fr fh2 (xZZ _);have hl2:=hl.fr fh2 (xZZ _);have hu2:=hu.fr fh2 (xZZ _);refine qE ?_;refine qA fun K hn hp=> ?_;simp only [sy.1,rE,reduceIte,rL,rA,s1];refine qB (sok xt) (gN xt _ w ha2 fun m1 hm1=> ?_);cases e1:w.ok
 ·simp only [sy.1,rE,reduceIte,rL];apply hn;refine qC true (by simp only [sy.1,rE,reduceIte]) (fun _=> ?_) (fun hx=>by cases hx);refine qE ?_;refine qA fun K hn hp=> ?_;simp only [sy.1,rL];apply hn;refine qU (wA qCi ⟨?_,fh2.up (by omega)⟩);simp [xZY,Wk.pspoilt,e1]
 have his:=Wk.ok_is e1;simp only [sy.1,rE,reduceIte,rL,rA,s1];refine qB (sok xt) (qCQ xt _ w (ha2.up (xZC hm1)) his v0 ls (hl2.up (xZC hm1)) fun m2 hm2=> ?_);simp only [xZN] at hm2;cases e2:w.cut ls
 ·simp only [sy.1,rE,reduceIte,rL,xZM];apply hn;refine qC true (by simp only [sy.1,rE,reduceIte]) (fun _=> ?_) (fun hx=>by cases hx);refine qE ?_;refine qA fun K hn hp=> ?_;simp only [sy.1,rL];apply hn;refine qU (wA qCi ⟨?_,fh2.up (by omega)⟩);simp [xZY,Wk.pspoilt,e1,e2]
 cases e3:decide (w.m.H<(hs.length:Int))
 case true=>
  simp only [sy.1,rE,reduceIte,rL,syw.1,hlenU,sh2,s1,e3,xZM];apply hn;refine qC true (by simp only [sy.1,rE,reduceIte]) (fun _=> ?_) (fun hx=>by cases hx);refine qE ?_;refine qA fun K hn hp=> ?_;simp only [sy.1,rL];apply hn;refine qU (wA qCi ⟨?_,fh2.up (by omega)⟩);simp [xZY,Wk.pspoilt,Wk.hok,e1,e2,e3]
 simp only [sy.1,rE,reduceIte,rL,syw.1,hlenU,sh2,s1,e3,xZM];have ea:(hs.map p2).any (onP fun x y=> !w.m.bare x y)=hs.any fun p=> !w.m.bare p.1 p.2:=by
  rw [List.any_map];rfl
 refine qB (sok xt) (qDj xt (h2.up m2) u _ _ _ (hu2.up (by omega)).row (by rw [xZW];exact hu.lt) (ask93 xt (h2.up m2) w (ha2.up (by omega)) his.rc h.n (by simp only [xZN];omega) s1 hs) fun m3 hm3=> ?_);simp only [xZN] at hm3;rw [ea];cases e4:(hs.any fun p=> !w.m.bare p.1 p.2)
 case true=>
  simp only [sy.1,rE,reduceIte,rL,xZM];apply hn;refine qC true (by simp only [sy.1,rE,reduceIte]) (fun _=> ?_) (fun hx=>by cases hx);refine qE ?_;refine qA fun K hn hp=> ?_;simp only [sy.1,rL];apply hn;refine qU (wA qCi ⟨?_,fh2.up (by omega)⟩);simp [xZY,Wk.pspoilt,Wk.hok,e1,e2,e3,e4]
 simp only [sy.1,rE,reduceIte,rL,xZM];apply hn;refine qC false (by simp only [sy.1,rE,reduceIte]) (fun hx=>by cases hx) (fun _=> ?_);refine qI ?_;have ehok:w.hok hs=true:=by rw [Wk.hok,e3,e4];rfl
 have hblk:=wP his e2;have hr6:=his.m.r6;have hc8:=his.m.c8;refine qA fun K hn hp=> ?_;simp only [sy.1,rE,reduceIte,rL,rA,s1];have ha3u:=ha2.up (n:=m3) (by omega);refine qB (sok xt) (FnA.mono (bH xt (h2.up m3) w ha3u _ _ his.m) fun res h4 hres=> ?_);obtain ⟨f4,hres⟩:=hres;have low4: ∀k,k<m3->h4.t.get k=h2.t.get k:=fun k hk=>f4.at_ k (.inl hk);have v1:=(low4 h.n (by omega)).trans s1;have v2:=(low4 (h.n+1) (by omega)).trans sh2;have n4:m3<=h4.n:=f4.lo;have f4h:Fr h.n h h4:=(fh2.up (m:=m3) (by omega)).trans f4 (by simp only [xZN];omega);change match w.m.bnd with|some G=>_|none=>_ at hres
 cases hb:w.m.bnd with
 |none=>
  rw [hb] at hres;subst hres;simp only [sw.1,rE,reduceIte,rL,rA,sv.1];obtain ⟨h5,hh5,n5,s5,k5,f5⟩:=nsE h4 (.cells yL 121) (.cells yL 121);rw [<-hh5];apply hn;clear hh5;refine qE ?_;refine qA fun K hn hp=> ?_;simp only [sy.1,rE,reduceIte,rL];apply hn;refine qC true (by simp only [sy.1,rE,reduceIte,d70]) (fun _=> ?_) (fun hx=>by cases hx);refine qE ?_;refine qA fun K hn hp=> ?_;simp only [sy.1,rE,reduceIte,rL];apply hn;refine qU (wA qCi ⟨?_,f4h.trans f5 (by omega)⟩);simp [xZY,Wk.pspoilt,e1,e2,ehok,hb]
 |some G=>
  rw [hb] at hres;obtain ⟨v,M,rfl,sg,m1',m2'⟩:=hres;have onev:=sg.one;simp only [sw.1,rE,reduceIte,rL,rA,sv.1,o1,o2,o3,o4,o5,onev];obtain ⟨h5,hh5,n5,s5,k5,f5⟩:=nsE h4 (.cells yL 121) (.cells (w.bc v) 121);rw [<-hh5];apply hn;clear hh5;have f5h:=f4h.trans f5 (by omega);have y1:=(k5 h.n (by omega)).trans v1;have y2:=(k5 (h.n+1) (by omega)).trans v2;have ha5:=ha.fr f5h (xZZ _);have hl5:=hl.fr f5h (xZZ _);have hu5:=hu.fr f5h (xZZ _);refine qE ?_;refine qA fun K hn hp=> ?_;simp only [sy.1,rE,reduceIte,rL];apply hn;refine qC false (by simp only [sy.1,rE,reduceIte]) (fun hx=>by cases hx) (fun _=> ?_);refine qI ?_;have sg5:SG h5 (h2.up m3).n M v _ _ G:=sg.keep fun k _ hk=>k5 k (by omega);have hpos:=bI his.m hb;refine qA fun K hn hp=> ?_;simp only [sy.1,rE,reduceIte,rL];refine qB (sok xt) (FnA.mono (clone_c xt h5 v0 ls hl5 hl50) fun res h6 hres=> ?_);obtain ⟨f6,z,rfl,own⟩:=hres;simp only [sy.1,rE,reduceIte,rL];refine qB (sok xt) (FnA.mono (delf_c xt h5 h6 f6 z (.fn (.func 97) [] [.ptr (h.n+1) 0,.ptr h.n 0]) rfl ls (w.hit hs) own hl50 (fun hg s fg hs' K hK=> ?_)) fun res h7 hres=> ?_)
  ·have lg:=fg.le;exact j7 (sok xt) (hit_c xt hg w (ha5.fr fg (xZZ _)) u hs (hu5.fr fg (xZZ _)) h.n (h.n+1) (by omega) (by omega) ((fg.at_ h.n (.inl (by omega))).trans y1) ((fg.at_ (h.n+1) (.inl (by omega))).trans y2) s (hblk s hs') (by omega) (by omega) hK)
  obtain ⟨f7,z',rfl,cz⟩:=hres;simp only [sy.1,rE,reduceIte,rL];apply hn;have l7:=f7.le;have s7:=(f7.at_ h4.n (.inl (by omega))).trans s5;have f7h:=f5h.trans f7 (by omega);have oz:=cz.row.one;have el:(ls.filter fun s=> !w.hit hs s)=w.left hs ls:=rfl;rw [el] at cz;have hbl: ∀s∈w.left hs ls,w.Blk s:=fun s hs'=>hblk s (List.mem_filter.1 hs').1;have sg7:SG h7 (h2.up m3).n M v _ _ G:=sg5.fr f7 (by omega);have ha7:=ha.fr f7h (xZZ _);refine qA fun K hn hp=> ?_;simp only [sy.1,rE,reduceIte,rL,rA,s7];refine qB (sok xt) (qAS xt h7 w ha7 his v onev z' (w.left hs ls) cz (fun s hs'=>(hbl s hs').isT) (by have:=left_len w hs ls;omega) _ (w.give (gLo G)) (fun s hs'=>wN his (fun r c _ _=>(hpos r c).1) (hbl s hs')) (fun h' s fr hs' K hK=> ?_) fun m8 hm8=> ?_)
  ·obtain ⟨r0,c0,q,n,th,wo,rfl,ht,hrn,hcn⟩:=hbl s hs';refine j7 (sok xt) (gL xt h' w (ha7.fr fr (xZZ _)) v G _ M _ _ (sg7.fr fr (by omega)) (by have:=fr.le;omega) r0 c0 q n th wo ht.at_ (by omega) (by omega) hrn hcn ht.n3 ht.n1 his.k0 his.k5 ht.h1 ht.h60 (fun i _ j _=>(hpos _ _).1) fun m4 hm4=> ?_);rw [<-Wk.give_q ht];exact hK m4 hm4
  rw [Wk.V_worth];simp only [sy.1,rE,reduceIte,rL];refine hn _ _ (qD (wA qCi ⟨?_,f7h.up (by omega)⟩));simp [xZY,Wk.pspoilt,e1,e2,ehok,hb]
end Go.Proofs.Kn
