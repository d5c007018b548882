/- MvU2, MvX1, MvX2, MvX3: texts in a row, joined by a program. -/
import Derived.Test.YtnmfblokfponlaaGreatDoorQN3
import Derived.Test.YtnmfblokfponlaaGreatDoorQY9
import Derived.Test.YtnmfblokfponlaaGreatDoorQO1
import Derived.Test.YtnmfblokfponlaaGreatDoorQU
set_option linter.all false
open Nat renaming reduceEqDiff → rE, reduceLeDiff → rD, reduceAdd → rA, reduceMul → rM, reduceLT → rL
open Go.Ev.T renaming get_put → xZZ
open Nat renaming le_refl → xZY, le_of_lt → xZX
open List renaming not_mem_nil → xZW, length_map → xZU, mem_cons → xZT, getElem?_eq_getElem → xZR, mem_map → xZP, length_singleton → xZO, length_append → xZM, all_eq_true → xZJ
open Go.Ev.Hp renaming set_t → xZV, up_n → xZS
open Go.Ev.FnA renaming mono → xZQ
open Go.Ev.Fr renaming refl → xZN
open Bool renaming false_eq_true → xZL, eq_false_iff → xZK, and_eq_true → xZI
noncomputable section
namespace Go.Proofs.Kn
open Go Go.Ev Go.RowKit Go.ChangeShapes Go.WideShapes Go.ChangeAt
set_option maxRecDepth 100000
section
variable {H:Type} {enc:TypeId×Value->H} {w:World} {base:Nat} {sp:Nat->Bool} {held:Bool}
theorem qEF {t:Value} {d:DataW H} {ps:List MemPlace} {r:Reach} {b0:Nat} (hval:Value.okWide Tryz.prog w r b0 48 t) (hd:DataW.Trod enc Tryz.prog w base sp held 48 t d ps):
  ∃s:Int×Int×Int×Int,∀c,R c (.agg [iv s.1,iv s.2.1,iv s.2.2.1,iv s.2.2.2]) t:=by
 obtain ⟨cs,rfl⟩: ∃cs,t= .agg cs:=by
  unfold Value.okWide at hval;rw [qCh] at hval;obtain ⟨cs,rfl,_⟩:=hval;exact ⟨cs,rfl⟩
 obtain ⟨fuel,hf⟩:=hd;change DataW.trod enc Tryz.prog w base sp held fuel 48 cs.toList=_ at hf;obtain ⟨s,hs⟩:=qCC hf;refine ⟨s,fun cx=> ?_⟩;have:cs=[.int .i64 s.1,.int .i64 s.2.1,.int .i64 s.2.2.1,.int .i64 s.2.2.2].toArray:=by apply Array.ext';exact hs
 subst this;simp only [R];exact ⟨_,rfl,by simp [RL,R]⟩
theorem qEG {t:Value} {d:DataW H} {ps:List MemPlace} {r:Reach} {b0:Nat} (hval:Value.okWide Tryz.prog w r b0 50 t) (hd:DataW.Trod enc Tryz.prog w base sp held 50 t d ps):
  ∃s:Int×Int×Bool,∀c,R c (.agg [iv s.1,iv s.2.1,.val (.bool s.2.2)]) t:=by
 obtain ⟨cs,rfl⟩: ∃cs,t= .agg cs:=by
  unfold Value.okWide at hval;rw [und50] at hval;obtain ⟨cs,rfl,_⟩:=hval;exact ⟨cs,rfl⟩
 obtain ⟨fuel,hf⟩:=hd;change DataW.trod enc Tryz.prog w base sp held fuel 50 cs.toList=_ at hf;obtain ⟨s,hs⟩:=qCD hf;refine ⟨s,fun cx=> ?_⟩;have:cs=[.int .i64 s.1,.int .i64 s.2.1,.bool s.2.2].toArray:=by apply Array.ext';exact hs
 subst this;simp only [R];exact ⟨_,rfl,by simp [RL,R]⟩
end
end Go.Proofs.Kn
end
namespace Go.Proofs.Kn
open Go Go.Ev
abbrev Wk.addG (w:Wk) (v:AV) (g:Int×Int×Int×Int):Wk:={w with m:={w.m with vg:=v,gs:=w.m.gs++[g]}}
abbrev Wk.addK (w:Wk) (v:AV) (k:Int×Int×Bool):Wk:={w with m:={w.m with vk:=v,ks:=w.m.ks++[k]}}
theorem addK_pcan {w:Wk} {v:AV} {k:Int×Int×Bool} {s:Int×Int×Int} (h:(w.addK v k).pcan s=true):w.pcan s=true:=by
 simp only [Wk.pcan,Mp.pcan,xZI,List.any_append,Bool.not_or,Bool.not_eq_true'] at h ⊢;exact ⟨h.1,h.2.1,h.2.2.1,h.2.2.2.1⟩
theorem addK_cut {w:Wk} {v:AV} {k:Int×Int×Bool} (his:(w.addK v k).Is) {ls:List (Int×Int×Int)} (h:(w.addK v k).cut ls=true):w.cut ls=true:=by
 have c:=Wk.CutL.of his h;exact Wk.CutL.cut (lo:=0) ⟨fun s hs=>⟨(c.all s hs).1,addK_pcan (c.all s hs).2.1,(c.all s hs).2.2⟩,c.pw⟩
theorem qEJ {w:Wk} {v:AV} {k:Int×Int×Bool} (h:w.ok=true) {G:Th.Grid} (hb:w.m.bnd=some G) (hy:(w.addK v k).ok=true):(w.addK v k).m.bnd=some G/\((w.addK v k).packP G w.m.cells.length).2<=(w.packP G w.m.cells.length).2:=by
 have his:=Wk.ok_is h;have hiy:=Wk.ok_is hy;refine ⟨hb,?_⟩;obtain ⟨c1,c2⟩:=hiy.pack_is G;have t:=his.pack_top G (addK_cut hiy c1);have e:w.worth (w.give (gLo G)) ((w.addK v k).packP G w.m.cells.length).1=((w.addK v k).packP G w.m.cells.length).2:=c2;rw [e,xZK] at t;refine Int.not_lt.1 fun hlt=>t ?_;rw [xM];exact .inl hlt
theorem qBW {w:Wk} {v:AV} {g:Int×Int×Int×Int} {R C:Nat} {t:Nat->Nat->Int} (h:(w.addG v g).m.Truth R C t):w.m.Truth R C t:=
 {h with gs:=fun x hx=>h.gs x (List.mem_append.2 (.inl hx))}
theorem qEI {w:Wk} {v:AV} {g:Int×Int×Int×Int} (h:w.ok=true) {G G':Th.Grid} (hb:w.m.bnd=some G) (hx:(w.addG v g).ok=true) (hb':(w.addG v g).m.bnd=some G'):(∀r,r<w.m.cells.length-> ∀c,c<w.m.W->(G r c).1<=(G' r c).1/\(G' r c).2<=(G r c).2)/\(w.packP G w.m.cells.length).2<=((w.addG v g).packP G' w.m.cells.length).2:=by
 have his:=Wk.ok_is h;have hix:=Wk.ok_is hx;obtain ⟨_,_,_,t1,t2⟩:=qBL hix.m hb';obtain ⟨G1,e1,b1⟩:=qCi his.m (qBW t1);obtain ⟨G2,e2,b2⟩:=qCi his.m (qBW t2);rw [hb] at e1 e2;cases e1;cases e2;have key: ∀r,r<w.m.cells.length-> ∀c,c<w.m.W->(G r c).1<=(G' r c).1/\(G' r c).2<=(G r c).2:=fun r hr c hc=>⟨(b1 r hr c hc).1,(b2 r hr c hc).2⟩;refine ⟨key,?_⟩;obtain ⟨c1,c2⟩:=his.pack_is G;have hc:(w.addG v g).cut (w.packP G w.m.cells.length).1=true:=c1;have t:=hix.pack_top G' hc;have hm:w.worth (w.give (gLo G)) (w.packP G w.m.cells.length).1<=w.worth (w.give (gLo G')) (w.packP G w.m.cells.length).1:=
  qEB (cut_blk his c1) fun s hs=>give_mono his (fun r c hr hc=>(qDl his.m hb r c).1) (fun r c hr hc=>(key r hr c hc).1) (cut_blk his c1 s hs)
 have e:(w.addG v g).worth ((w.addG v g).give (gLo G')) (w.packP G w.m.cells.length).1=w.worth (w.give (gLo G')) (w.packP G w.m.cells.length).1:=rfl;rw [e,xZK] at t;rw [c2] at hm;refine Int.not_lt.1 fun hlt=>t ?_;rw [xM];refine .inl ?_;show ((w.addG v g).packP G' w.m.cells.length).2<w.worth (w.give (gLo G')) (w.packP G w.m.cells.length).1;omega
end Go.Proofs.Kn
namespace Go.Proofs.Kn
open Go Go.Ev
set_option maxRecDepth 100000
set_option maxHeartbeats 4000000
theorem row_srcX {xt:Addr->Option Value} {h:Hp} {sz:Nat} {v:AV} {cs:List (List Value)} (r:RowAt xt h sz v cs) (ho: ∀c∈cs,∀u∈c,u.oneCell'=true):uD xt h sz v=some (cs.length,cs.flatten.map .val):=by
 have hall:cs.flatten.all Value.oneCell'=true:=by
  rw [xZJ];intro x hx;obtain ⟨c,hc,huc⟩:=List.mem_flatten.1 hx;exact ho c hc x huc
 by_cases hi:Inn v
 ·exact row_src r hi fun c hc u hu=>by have:=ho c hc u hu;exact this
 ·obtain ⟨h1,h2,h3⟩:=r;rcases h3 with ⟨rfl,rfl⟩|⟨ad,cap,rfl,hx⟩|⟨b,off,av,e',rfl,_⟩
  ·rfl
  ·have hfl:=wI cs h1;have hex:=xK (xt:=xt) (ad:=ad) (cs.length*sz) 0 cs.flatten hfl (fun p u hp=>by
    have hp':p<cs.length*sz:=by rw [<-hfl];exact (List.getElem?_eq_some_iff.1 hp).1
    have hi:p / sz<cs.length:=(Nat.div_lt_iff_lt_mul h2).2 hp';have hj:p % sz<sz:=Nat.mod_lt _ h2;have ep:p / sz*sz+p % sz=p:=by rw [Nat.mul_comm];exact Nat.div_add_mod p sz
    obtain ⟨c,hc⟩: ∃c,cs[p / sz]? =some c:=⟨_,xZR hi⟩;have hcl:=h1 c (List.mem_of_getElem? hc);obtain ⟨u',hu⟩: ∃u,c[p % sz]? =some u:=⟨_,xZR (by omega)⟩;have e1:=hx _ _ hc _ _ hu;have e2:=wJ cs _ _ _ _ h1 hc hu;rw [ep] at e1 e2;rw [hp] at e2;cases e2;rw [Nat.zero_add];exact e1)
   simp only [uD,hex,hall,cond_true]
  ·exact absurd (fun _ _ _ h=>by cases h) hi
theorem qEo {P:Program} {tb:T TE} {xt:Addr->Option Value} {h:Hp} {sz by_:Nat} {t e:TypeId} {te ee:TE} {v:AV} {cs:List (List Value)} {c:List Value} (ht:tb.get t=some te) (hd:te.d= .slice e) (he:tb.get e=some ee) (hs:ee.size=sz) (hby:ee.bytes=by_)
  (r:RowAt xt h sz v cs) (ho: ∀c∈cs,∀u∈c,u.oneCell'=true) (hc:c.length=sz) (hco: ∀u∈c,u.oneCell'=true) (hl:(cs.length+1)*by_<=140737488355328) (hl2:cs.length+1<=9223372036854775807):
  ∃v1 hA,qQ P tb xt .append [t,t] [.val (.slice none 0 0),v] h=some (v1,hA)/\Fr h.n h hA/\
   ∀hB,Fr hA.n hA hB->hA.n<hB.n->hB.t.get hA.n=some (.cells (c.map .val) e)->
    ∃v2 hC,qQ P tb xt .append [t,t] [v1,.sl hA.n 0 1 sz] hB=some (v2,hC)/\RowAt xt hC sz v2 (cs++[c])/\Fr h.n h hC/\hB.n<hC.n/\v2= .sl hB.n 0 (cs.length+1) sz:=by
 have hle:cs.length*by_<=140737488355328:=Nat.le_trans (Nat.mul_le_mul_right _ (Nat.le_succ _)) hl;obtain ⟨v1,hA,a1,o1,f1,_⟩:=qEn (P:=P) (N:=h.n) (xZY _) ht hd he hs hby ht hd (row_srcX r ho) r.1 hle (by omega);refine ⟨v1,hA,a1,f1,fun hB fB hlt hq=> ?_⟩;have o2:=o1.fr fB (xZY _);have hone:(c.map AV.val).all Go.Ev.one=true:=by
  rw [xZJ];intro x hx;obtain ⟨u,hu,rfl⟩:=xZP.1 hx;exact hco u hu
 have hsrc:=qAS (xt:=xt) (m:=1) (sz:=sz) hq (by simp [hc]) hone;have hlo:=f1.le;obtain ⟨hC,b1,b2,b3,b4,b5⟩:=o2.append2 (P:=P) (by omega) ht hd he hs hby ht hd hsrc (by omega) (by simp [hc]) hl hl2;refine ⟨_,hC,b1,OwnSl.row (fun x hx=> ?_) r.2.1 (h:=hC) (N:=h.n) (e:=e) ?_,(f1.trans fB (by omega)).trans b3 (by omega),by omega,rfl⟩
 ·rcases List.mem_append.1 hx with hx|hx
  ·exact r.1 x hx
  ·rw [List.mem_singleton.1 hx];exact hc
 ·simpa using b2
theorem bs23 (h:Hp) (a b c d:Int):jK tb h 23 1 [(0,.agg [iv a,iv b,iv c,iv d])]=some (.sl h.n 0 1 4,h.new (.cells [iv a,iv b,iv c,iv d] 48)):=by kernel_rfl
theorem bs24 (h:Hp) (a b:Int) (c:Bool):jK tb h 24 1 [(0,.agg [iv a,iv b,.val (.bool c)])]=some (.sl h.n 0 1 3,h.new (.cells [iv a,iv b,.val (.bool c)] 50)):=by kernel_rfl
end Go.Proofs.Kn
namespace Go.Proofs.Kn
open Go Go.Ev
set_option maxRecDepth 100000
set_option maxHeartbeats 4000000
theorem ft5 (xt:Addr->Option Value):(SE xt).ft.get 5=some Tryz.f5:=by kernel_rfl
theorem res5:Tryz.f5.results.toList=[.tmp 6]:=by kernel_rfl
theorem tm_any {E:Env} {r:Option Nat} {b:Code} {tm:T AV} {nt:Nat} {h:Hp} {mks:List Nat} {Q:Ex->St->Prop} (P:T AV->Prop) (hp:P tm) (hw: ∀tm,P tm->wpc E r b ⟨tm,nt,h,mks⟩ Q):wpc E r b ⟨tm,nt,h,mks⟩ Q:=hw tm hp
theorem qCj {w:Wk} (h:w.ok=true) {hK h5:Hp} {res:CR} (hr:ThkR hK w.m res h5):Fr hK.n hK h5/\ ∃v e L,res= .ret (.tup [v,iv e])/\Go.Ev.one v=true/\w.pkd=(L,e)/\(e=7\/(e=0/\ ∃G M,w.m.bnd=some G/\L=w.packP G w.m.cells.length/\SG h5 hK.n M v w.m.cells.length w.m.W G/\hK.n<=M/\M<=h5.n)):=by
 obtain ⟨f,hr⟩:=hr;refine ⟨f,?_⟩;have hm:w.m.ok=true:=(Bool.and_eq_true_iff.1 h).1;simp only [Wk.pkd,h,if_true];rw [hm] at hr;cases hb:w.m.bnd with
 |none=>rw [hb] at hr;exact ⟨_,_,_,hr,rfl,rfl,.inl rfl⟩
 |some G=>
  rw [hb] at hr;obtain ⟨v,M,hr,sg,h1,h2⟩:=hr;exact ⟨v,_,_,hr,sg.one,rfl,.inr ⟨rfl,G,M,rfl,rfl,sg,h1,h2⟩⟩
theorem bnd_box {m:Mp} (hm:m.Is m.cells.length m.W) {G:Th.Grid} (hb:m.bnd=some G): ∀r c,0<=(G r c).1/\(G r c).1<=(G r c).2/\(G r c).2<=60:=fun r c=>by
 obtain ⟨_,gok,gsub,_⟩:=qBL hm hb;have b1:=gok r c;have b2:=gsub r c;simp only [Mp.F0] at b2;split at b2<;>simp at b2<;>omega
theorem z30:te30.zero.map AV.val=[zX,iv 0,iv 0,zX,zX,zX,zX,iv 0]:=rfl
theorem more_true (xt:Addr->Option Value) (h:Hp) (w:Wk) (ha:w.At xt h) (g:Int×Int×Int×Int) (c:Int×Int×Bool):FnA (SE xt) 5 [w.av,.agg [iv g.1,iv g.2.1,iv g.2.2.1,iv g.2.2.2],.agg [iv c.1,iv c.2.1,.val (.bool c.2.2)]] h wG:=by
 refine FnA.walk (sok xt) (ft5 xt) rfl 185 rfl ?_;obtain ⟨o1,o2,o3,o4,o5⟩:=ha.ones;refine qA fun K hn hp=> ?_;simp only [sw.1,rE,reduceIte,rL,rA];apply hn;obtain ⟨h1,hh1⟩: ∃h1:Hp,h1=h.new (.cells w.cs 30):=⟨_,rfl⟩;rw [<-hh1];have nh1:h1.n=h.n+1:=by rw [hh1];rfl
 have sh1:h1.t.get h.n=some (.cells w.cs 30):=by rw [hh1];exact jG _ _
 have kh1: ∀k,k<h.n->h1.t.get k=h.t.get k:=fun k hk=>by rw [hh1];exact jF _ _ hk
 have fbh1:Fr h.n h h1:=by rw [hh1];exact (xZN (xZY _)).new _
 have fh1:=fbh1;obtain ⟨h2,hh2⟩: ∃h2:Hp,h2=h1.new (.cells [iv g.1,iv g.2.1,iv g.2.2.1,iv g.2.2.2] 48):=⟨_,rfl⟩;rw [<-hh2];have nh2:h2.n=h1.n+1:=by rw [hh2];rfl
 have sh2:h2.t.get h1.n=some (.cells [iv g.1,iv g.2.1,iv g.2.2.1,iv g.2.2.2] 48):=by rw [hh2];exact jG _ _
 have kh2: ∀k,k<h1.n->h2.t.get k=h1.t.get k:=fun k hk=>by rw [hh2];exact jF _ _ hk
 have fbh2:Fr h1.n h1 h2:=by rw [hh2];exact (xZN (xZY _)).new _
 have fh2:Fr h.n h h2:=fh1.trans fbh2 (by omega);simp only [nh1,Nat.add_assoc,rA] at nh2 sh2 kh2;obtain ⟨h3,hh3⟩: ∃h3:Hp,h3=h2.new (.cells [iv c.1,iv c.2.1,.val (.bool c.2.2)] 50):=⟨_,rfl⟩;rw [<-hh3];have nh3:h3.n=h2.n+1:=by rw [hh3];rfl
 have sh3:h3.t.get h2.n=some (.cells [iv c.1,iv c.2.1,.val (.bool c.2.2)] 50):=by rw [hh3];exact jG _ _
 have kh3: ∀k,k<h2.n->h3.t.get k=h2.t.get k:=fun k hk=>by rw [hh3];exact jF _ _ hk
 have fbh3:Fr h2.n h2 h3:=by rw [hh3];exact (xZN (xZY _)).new _
 have fh3:Fr h.n h h3:=fh2.trans fbh3 (by omega);simp only [nh2,Nat.add_assoc,rA] at nh3 sh3 kh3;have s1:=(kh3 h.n (by omega)).trans ((kh2 h.n (by omega)).trans sh1);have s2:=(kh3 (h.n+1) (by omega)).trans sh2;have ha3:=ha.fr fh3 (xZY _);refine qE ?_;refine qA fun K hn hp=> ?_;simp only [sy.1,rE,reduceIte,rL,rA,s1];refine qB (sok xt) (brief_c xt h3 w ha3 fun m1 hm1=> ?_);cases q1:w.brief
 ·simp only [sy.1,rE,reduceIte,rL];apply hn;refine qC true (by simp only [sy.1,rE,reduceIte]) (fun _=> ?_) (fun hx=>by cases hx);refine qE ?_;refine qA fun K hn hp=> ?_;simp only [sy.1];refine qB (sok xt) (wX xt _ fun m9 hm9=> ?_);simp only [sy.1,rE,reduceIte,rL];refine hn _ _ (jC (qM res5 ?_));simp [xZZ,wG]
 simp only [sy.1,rE,reduceIte,rL,rA,s1];refine qB (sok xt) (qCP xt (h3.up m1) w (ha3.up (xZX hm1)) fun m2 hm2=> ?_);simp only [xZS] at hm2;cases e1:w.ok
 ·simp only [sy.1,rE,reduceIte,rL,Hp.up_up];apply hn;refine qC true (by simp only [sy.1,rE,reduceIte]) (fun _=> ?_) (fun hx=>by cases hx);refine qE ?_;refine qA fun K hn hp=> ?_;simp only [sy.1];refine qB (sok xt) (wX xt _ fun m9 hm9=> ?_);simp only [sy.1,rE,reduceIte,rL];refine hn _ _ (jC (qM res5 ?_));simp [xZZ,wG]
 have his:=Wk.ok_is e1;simp only [sy.1,rE,reduceIte,rL,Hp.up_up];apply hn;refine qC false (by simp only [sy.1,rE,reduceIte]) (fun hx=>by cases hx) (fun _=> ?_);refine qI ?_;obtain ⟨hq,hhq⟩: ∃hq:Hp,hq=h3.up m2:=⟨_,rfl⟩;rw [<-hhq];have nq:h.n+3<hq.n:=by rw [hhq];simp only [xZS];omega
 have fq:Fr h.n h hq:=by rw [hhq];exact fh3.up (by omega)
 have u1:hq.t.get h.n=some (.cells w.cs 30):=by rw [hhq];exact s1
 have u2:hq.t.get (h.n+1)=some (.cells [iv g.1,iv g.2.1,iv g.2.2.1,iv g.2.2.2] 48):=by rw [hhq];exact s2
 have u3:hq.t.get (h.n+2)=some (.cells [iv c.1,iv c.2.1,.val (.bool c.2.2)] 50):=by rw [hhq];exact sh3
 clear hhq;refine kW (sok xt) 2 2 1 [(1,1)] (by kernel_rfl) fun K hn hp=> ?_;obtain ⟨hA,hhA⟩: ∃hA:Hp,hA={t:=j0 hq.t hq.n [.cells [zX,iv 0,iv 0,zX,zX,zX,zX,iv 0] 30,.cells [zX,iv 0,iv 0,zX,zX,zX,zX,iv 0] 30],n:=hq.n+2}:=⟨_,rfl⟩;have a1:j0 hq.t hq.n [.cells [zX,iv 0,iv 0,zX,zX,zX,zX,iv 0] 30,.cells [zX,iv 0,iv 0,zX,zX,zX,zX,iv 0] 30]=hA.t:=by rw [hhA]
 have a2:({t:=hA.t,n:=hq.n+2}:Hp)=hA:=by rw [hhA]
 have a3:hA.t.get hq.n=some (.cells [zX,iv 0,iv 0,zX,zX,zX,zX,iv 0] 30):=by rw [<-a1,kZ,xZZ,if_pos rfl]
 have a4:hA.t.get (hq.n+1)=some (.cells [zX,iv 0,iv 0,zX,zX,zX,zX,iv 0] 30):=by rw [<-a1,kZ,xZZ,if_neg (by omega),kZ,xZZ,if_pos rfl]
 have a5: ∀x,x≠hq.n->x≠hq.n+1->hA.t.get x=hq.t.get x:=fun x h1 h2=>by rw [<-a1,kZ,xZZ,if_neg h1,kZ,xZZ,if_neg h2];rfl
 have a6:hA.n=hq.n+2:=by rw [hhA]
 have y1:=(a5 h.n (by omega) (by omega)).trans u1;have x1: ¬hq.n+1=hq.n:=by omega
 have x2: ¬h.n=hq.n:=by omega
 simp only [sw.1,rE,reduceIte,rL,rA,syw.1,o1,o2,o3,o4,o5,u1,WOA_cons (E:=SE xt) tg30,z30,a1,a2,a3,a4,y1,x1,x2];apply hn;obtain ⟨hB,hhB⟩: ∃hB:Hp,hB=(hA.set hq.n (.cells w.cs 30)).set (hq.n+1) (.cells w.cs 30):=⟨_,rfl⟩;rw [<-hhB];have nB:hB.n=hq.n+2:=by rw [hhB];exact a6
 have b7:hB.t.get hq.n=some (.cells w.cs 30):=by rw [hhB,xZV,xZZ,if_neg (by omega),xZV,xZZ,if_pos rfl]
 have b8:hB.t.get (hq.n+1)=some (.cells w.cs 30):=by rw [hhB,xZV,xZZ,if_pos rfl]
 have fBq:Fr hq.n hq hB:=⟨by omega,by omega,fun x hx=>by
  rw [hhB,xZV,xZZ,if_neg (by omega),xZV,xZZ,if_neg (by omega)];exact a5 x (by omega) (by omega)⟩
 clear hhB a1 a2 a3 a4 a5 a6 y1 x1 x2 hhA hA;have fB:=fq.trans fBq (by omega);have haB:=ha.fr fB (xZY _);have b1:=(fBq.at_ h.n (.inl (by omega))).trans u1;have b2:=(fBq.at_ (h.n+1) (.inl (by omega))).trans u2;have b3:=(fBq.at_ (h.n+2) (.inl (by omega))).trans u3;have hsh:w.m.gs.length<=11/\w.m.ks.length<=11:=by
  simp only [Wk.brief,Mp.short,xZI,decide_eq_true_eq] at q1;omega
 obtain ⟨vg,hC,p1,fC,pc⟩:=qEo (P:=Tryz.prog) (tb:=tb) (by_:=32) (sz:=4) (c:=g4 g) tg23 rfl gH rfl rfl haB.m.gs (fun c hc u hu=>by
  obtain ⟨x,_,rfl⟩:=xZP.1 hc;simp only [g4,xZT,xZW,or_false] at hu;rcases hu with rfl|rfl|rfl|rfl<;>rfl) rfl (fun u hu=>by
  simp only [g4,xZT,xZW,or_false] at hu;rcases hu with rfl|rfl|rfl|rfl<;>rfl) (by rw [xZU];omega) (by rw [xZU];omega)
 have c2:=(fC.at_ (h.n+1) (.inl (by omega))).trans b2;have lC:=fC.le;obtain ⟨hD,hhD,nD,sD,kD,fD⟩:=xE hC (.cells [iv g.1,iv g.2.1,iv g.2.2.1,iv g.2.2.2] 48);have ek:({t:=hC.t.put (some (.cells [iv g.1,iv g.2.1,iv g.2.2.1,iv g.2.2.2] 48)) hC.n,n:=hC.n+1}:Hp)=hD:=hhD.symm;clear hhD;obtain ⟨vg2,hE,p2,rwE,fE,lE,vE⟩:=pc hD fD (by omega) sD;have og:=rwE.one;have cg:=rwE.cells;have e7:=(fE.at_ hq.n (.inl (by omega))).trans b7;have efc:=fun (N:T AV->Hp->Prop) (tm:T AV) (d:Tmp)=>efK_ap (nt:=185) (tm:=tm) (n:=hB.n) (d:=d) (N:=N) (v:=vg) (h':=hC) lC;refine qBg (sok xt) 6 [5] [] [(4,0)] (by kernel_rfl) fun K hn hp=> ?_;simp only [sw.1,rE,reduceIte,rL,rA,rD,syw.1,b1,b2,c2,syg.1,xZL,p1,efc,jN,bs23,ek,p2,e7,og,cg];apply hn;obtain ⟨hF,hhF⟩: ∃hF:Hp,hF=hE.set hq.n (.cells [w.m.vc,iv w.m.T,iv w.m.H,vg2,w.m.vk,w.m.vp,w.vt,iv w.kerf] 30):=⟨_,rfl⟩;rw [<-hhF];have nF:hF.n=hE.n:=by rw [hhF];rfl
 have f7:hF.t.get hq.n=some (.cells [w.m.vc,iv w.m.T,iv w.m.H,vg2,w.m.vk,w.m.vp,w.vt,iv w.kerf] 30):=by rw [hhF,xZV,xZZ,if_pos rfl]
 have kF: ∀x,x≠hq.n->hF.t.get x=hE.t.get x:=fun x hx=>by rw [hhF,xZV,xZZ,if_neg hx]
 have f8:=((kF (hq.n+1) (by omega)).trans (fE.at_ _ (.inl (by omega)))).trans b8;have f1:=((kF h.n (by omega)).trans (fE.at_ _ (.inl (by omega)))).trans b1;have f3:=((kF (h.n+2) (by omega)).trans (fE.at_ _ (.inl (by omega)))).trans b3;have fFh:Fr h.n h hF:=by rw [hhF];exact (fB.trans fE (by omega)).set (by omega) (by omega) _
 have rF:RowAt xt hF 4 vg2 (w.m.gs.map g4++[g4 g]):=by
  rw [hhF];refine rwE.set (fun off n s e=> ?_) _;rw [vE] at e;have:=(AV.sl.inj e).1;omega
 clear hhF;have haF:=ha.fr fFh (xZY _);obtain ⟨vk,hG,p1,fG,pc⟩:=qEo (P:=Tryz.prog) (tb:=tb) (by_:=24) (sz:=3) (c:=k3 c) tg24 rfl tg50 rfl rfl haF.m.ks (fun c hc u hu=>by
  obtain ⟨x,_,rfl⟩:=xZP.1 hc;simp only [k3,xZT,xZW,or_false] at hu;rcases hu with rfl|rfl|rfl<;>rfl) rfl (fun u hu=>by
  simp only [k3,xZT,xZW,or_false] at hu;rcases hu with rfl|rfl|rfl<;>rfl) (by rw [xZU];omega) (by rw [xZU];omega)
 have c3:=(fG.at_ (h.n+2) (.inl (by omega))).trans f3;have lG:=fG.le;obtain ⟨hI,hhI,nI,sI,kI,fI⟩:=xE hG (.cells [iv c.1,iv c.2.1,.val (.bool c.2.2)] 50);have ek:({t:=hG.t.put (some (.cells [iv c.1,iv c.2.1,.val (.bool c.2.2)] 50)) hG.n,n:=hG.n+1}:Hp)=hI:=hhI.symm;clear hhI;obtain ⟨vk2,hJ,p2,rJ,fJ,lJ,vJ⟩:=pc hI fI (by omega) sI;have ok_:=rJ.one;have ck:=rJ.cells;have j8:=(fJ.at_ (hq.n+1) (.inl (by omega))).trans f8;have efc:=fun (N:T AV->Hp->Prop) (tm:T AV) (d:Tmp)=>efK_ap (nt:=185) (tm:=tm) (n:=hF.n) (d:=d) (N:=N) (v:=vk) (h':=hG) lG;refine qBg (sok xt) 6 [5] [] [(4,0)] (by kernel_rfl) fun K hn hp=> ?_;simp only [sw.1,rE,reduceIte,rL,rA,rD,syw.1,f1,f3,c3,syg.1,xZL,p1,efc,jN,bs24,ek,p2,j8,ok_,ck];apply hn;obtain ⟨hK,hhK⟩: ∃hK:Hp,hK=hJ.set (hq.n+1) (.cells [w.m.vc,iv w.m.T,iv w.m.H,w.m.vg,vk2,w.m.vp,w.vt,iv w.kerf] 30):=⟨_,rfl⟩;rw [<-hhK];have nK:hK.n=hJ.n:=by rw [hhK];rfl
 have kK: ∀x,x≠hq.n+1->hK.t.get x=hJ.t.get x:=fun x hx=>by rw [hhK,xZV,xZZ,if_neg hx]
 have z8:hK.t.get (hq.n+1)=some (.cells (w.addK vk2 c).cs 30):=by rw [hhK,xZV,xZZ,if_pos rfl]
 have z7:hK.t.get hq.n=some (.cells (w.addG vg2 g).cs 30):=((kK hq.n (by omega)).trans (fJ.at_ _ (.inl (by omega)))).trans f7;have z1:=((kK h.n (by omega)).trans (fJ.at_ _ (.inl (by omega)))).trans f1;have fKh:Fr h.n h hK:=by rw [hhK];exact (fFh.trans fJ (by omega)).set (by omega) (by omega) _
 have rK:RowAt xt hK 3 vk2 (w.m.ks.map k3++[k3 c]):=by
  rw [hhK];refine rJ.set (fun off n s e=> ?_) _;rw [vJ] at e;have:=(AV.sl.inj e).1;omega
 have rG:RowAt xt hK 4 vg2 (w.m.gs.map g4++[g4 g]):=by
  refine rF.keepB (by omega) fun b off n s e hb=> ?_;rw [vE] at e;have:=(AV.sl.inj e).1;exact (kK b (by omega)).trans (fJ.at_ b (.inl (by omega)))
 clear hhK;have haK:=ha.fr fKh (xZY _);have hxK:(w.addG vg2 g).At xt hK:=⟨⟨haK.m.cells,by rw [List.map_append];exact rG,haK.m.ks,haK.m.ps,haK.m.lc,haK.m.lr,by rw [xZM,xZO];omega,haK.m.lk,haK.m.lp⟩,haK.ts,haK.lt⟩;have hyK:(w.addK vk2 c).At xt hK:=⟨⟨haK.m.cells,haK.m.gs,by rw [List.map_append];exact rK,haK.m.ps,haK.m.lc,haK.m.lr,haK.m.lg,by rw [xZM,xZO];omega,haK.m.lp⟩,haK.ts,haK.lt⟩;have hK1:h.n+3<hq.n:=nq;have hK2:hq.n+1<hK.n:=by omega
 refine tm_any (fun tm=>tm.get 3=some (.ptr h.n 0)/\tm.get 7=some (.ptr hq.n 0)/\tm.get 8=some (.ptr (hq.n+1) 0)) ⟨by simp [xZZ],by simp [xZZ],by simp [xZZ]⟩ fun tm ht=> ?_;obtain ⟨g3,g7,g8⟩:=ht;clear haF haB p1 p2 ek efc c2 c3 f1 f3 f7 f8 rF rwE rJ rK rG fJ fI sI kI fG lG fE lE fD sD kD fC pc fB fBq b1 b2 b3 b7 b8 e7 j8 kF kK;clear fq u1 u2 u3 ha3 s1 s2;obtain ⟨x,hx⟩: ∃x,x=w.addG vg2 g:=⟨_,rfl⟩;obtain ⟨y,hy⟩: ∃y,y=w.addK vk2 c:=⟨_,rfl⟩;have oxy:=hxK.ones;have oyy:=hyK.ones;rw [<-hx] at z7 hxK oxy;rw [<-hy] at z8 hyK oyy;obtain ⟨p1,p2,p3,p4,p5⟩:=oxy;obtain ⟨r1,r2,r3,r4,r5⟩:=oyy;refine qA fun K hn hp=> ?_;simp only [sy.1,rE,reduceIte,rL,rA,rD,z1,g3];refine qB (sok xt) (xZQ (thick_c xt hK w.m haK.m) fun res h5 hres=> ?_);obtain ⟨f5,v,e,L,rfl,ov,hpk,hcase⟩:=qCj e1 hres;simp only [sy.1,rE,reduceIte,rL,sv.1];apply hn;clear hres;have f5h:=fKh.trans f5 (by omega);have l5:=f5.le;have y1:=(f5.at_ h.n (.inl (by omega))).trans z1;have y7:=(f5.at_ hq.n (.inl (by omega))).trans z7;have y8:=(f5.at_ (hq.n+1) (.inl (by omega))).trans z8;refine qA fun K hn hp=> ?_;simp only [sy.1,rE,reduceIte,rL,rA,g3,y1];refine qB (sok xt) (xZQ (qCT xt h5 w (ha.fr f5h (xZY _))) fun res h6 hres=> ?_);obtain ⟨f6,z,rfl,cz⟩:=hres;rw [hpk] at cz;rw [hpk];have oz:=cz.one;obtain ⟨w0,w1,w2⟩:=qDd z (iv L.2) (iv e);simp only [sy.1,rE,reduceIte,rL,w0,w1,w2];apply hn;clear w0 w1 w2;have f56:=f5.trans f6 (by omega);have f6h:=f5h.trans f6 (by omega);have l6:=f6.le;have x1:=(f6.at_ h.n (.inl (by omega))).trans y1;have x7:=(f6.at_ hq.n (.inl (by omega))).trans y7;have x8:=(f6.at_ (hq.n+1) (.inl (by omega))).trans y8;refine qE ?_;refine qA fun K hn hp=> ?_;simp only [sy.1,rE,reduceIte,rL];apply hn;refine qC false (by simp only [sy.1,rE,reduceIte]) (fun hx=>by cases hx) (fun _=> ?_);refine qI ?_;refine qE ?_;rcases hcase with rfl|⟨rfl,G,M,hb,rfl,sg,m1',m2'⟩
 ·refine qA fun K hn hp=> ?_;simp only [sy.1,rE,reduceIte,rL,d70];apply hn;refine qC true (by simp only [sy.1,rE,reduceIte]) (fun _=> ?_) (fun hx=>by cases hx);refine qE ?_;refine qA fun K hn hp=> ?_;simp only [sy.1,rE,reduceIte,rL];refine qB (sok xt) (wX xt _ fun m9 hm9=> ?_);simp only [sy.1,rE,reduceIte,rL];refine hn _ _ (jC (qM res5 ?_));simp [xZZ,wG]
 refine qA fun K hn hp=> ?_;simp only [sy.1,rE,reduceIte,rL];apply hn;refine qC false (by simp only [sy.1,rE,reduceIte]) (fun hx=>by cases hx) (fun _=> ?_);refine qI ?_;have xc:x.m.cells.length=w.m.cells.length:=by rw [hx]
 have xW:x.m.W=w.m.W:=by rw [hx]
 have yc:y.m.cells.length=w.m.cells.length:=by rw [hy]
 refine tm_any (fun tm=>tm.get 3=some (.ptr h.n 0)/\tm.get 7=some (.ptr hq.n 0)/\tm.get 8=some (.ptr (hq.n+1) 0)/\tm.get 9=some v/\tm.get 12=some (iv (w.packP G w.m.cells.length).2)) ⟨by simp [xZZ,g3],by simp [xZZ,g7],by simp [xZZ,g8],by simp [xZZ],by simp [xZZ]⟩ fun tm ht=> ?_;clear g3 g7 g8;obtain ⟨g3,g7,g8,g9,g12⟩:=ht;refine seq_any fun KK hKK hX=> ?_;have rest: ∀(tm:T AV) (hz:Hp),Fr h6.n h6 hz->tm.get 3=some (.ptr h.n 0)->tm.get 7=some (.ptr hq.n 0)->tm.get 9=some v->tm.get 12=some (iv (w.packP G w.m.cells.length).2)->KK .normal ⟨tm,185,hz,[]⟩:=by
  clear g3 g7 g8 g9 g12;intro tm hz fz g3 g7 g9 g12;refine hKK _ ?_;clear hX hKK KK;have lz:=fz.le;have q1:=(fz.at_ h.n (.inl (by omega))).trans x1;have q7:=(fz.at_ hq.n (.inl (by omega))).trans x7;have f5z:=f56.trans fz (by omega);have hxz:=hxK.fr f5z (xZY _);refine qE ?_;refine qA fun K hn hp=> ?_;simp only [sy.1,reduceIte,rL,rA,g7,q7];refine qB (sok xt) (qCP xt hz x hxz fun m3 hm3=> ?_);cases ex:x.ok
  ·simp only [sy.1,rE,reduceIte,rL];apply hn;refine qC true (by simp only [sy.1,rE,reduceIte]) (fun _=> ?_) (fun hx=>by cases hx);refine qE ?_;refine qA fun K hn hp=> ?_;simp only [sy.1];refine qB (sok xt) (wX xt _ fun m9 hm9=> ?_);simp only [sy.1,rE,reduceIte,rL];refine hn _ _ (jC (qM res5 ?_));simp [xZZ,wG]
  simp only [sy.1,rE,reduceIte,rL];apply hn;refine qC false (by simp only [sy.1,rE,reduceIte]) (fun hx=>by cases hx) (fun _=> ?_);refine qI ?_;refine qA fun K hn hp=> ?_;simp only [sy.1,rE,reduceIte,rL,rA,rD,g7,q7];refine qB (sok xt) (xZQ (thick_c xt (hz.up m3) x.m (hxz.up (xZX hm3)).m) fun res h8 hres=> ?_);obtain ⟨f8,v',e,L,rfl,ov',hpx,hcase⟩:=qCj ex hres;simp only [sy.1,rE,reduceIte,rL,sv.1];apply hn;clear hres;have f8z:=((xZN (xZY _)).up (xZX hm3)).trans f8 (by simp only [xZS];omega);have l8:=f8.le;simp only [xZS] at l8;have q1':=(f8z.at_ h.n (.inl (by omega))).trans q1;have q7':=(f8z.at_ hq.n (.inl (by omega))).trans q7;refine qA fun K hn hp=> ?_;simp only [sy.1,rE,reduceIte,rL,rA,g7,q7'];refine qB (sok xt) (xZQ (qCT xt h8 x (hxz.fr f8z (xZY _))) fun res h9 hres=> ?_);obtain ⟨f9,z',rfl,cz'⟩:=hres;rw [hpx] at cz';rw [hpx];have oz':=cz'.one;obtain ⟨w0,w1,w2⟩:=qDd z' (iv L.2) (iv e);simp only [sy.1,rE,reduceIte,rL,w0,w1,w2];apply hn;clear w0 w1 w2;have f9z:=f8z.trans f9 (by omega);have l9:=f9.le;have q1'':=(f9.at_ h.n (.inl (by omega))).trans q1';refine qE ?_;refine qA fun K hn hp=> ?_;simp only [sy.1,rE,reduceIte,rL];apply hn;refine qC false (by simp only [sy.1,rE,reduceIte]) (fun hx=>by cases hx) (fun _=> ?_);refine qI ?_;refine qE ?_;rcases hcase with rfl|⟨rfl,G',M',hb',rfl,sg',n1',n2'⟩
  ·refine qA fun K hn hp=> ?_;simp only [sy.1,rE,reduceIte,rL,d70];apply hn;refine qC true (by simp only [sy.1,rE,reduceIte]) (fun _=> ?_) (fun hx=>by cases hx);refine qE ?_;refine qA fun K hn hp=> ?_;simp only [sy.1,rE,reduceIte,rL];refine qB (sok xt) (wX xt _ fun m9 hm9=> ?_);simp only [sy.1,rE,reduceIte,rL];refine hn _ _ (jC (qM res5 ?_));simp [xZZ,wG]
  refine qA fun K hn hp=> ?_;simp only [sy.1,rE,reduceIte,rL];apply hn;refine qC false (by simp only [sy.1,rE,reduceIte]) (fun hx=>by cases hx) (fun _=> ?_);refine qI ?_;have hix:=Wk.ok_is ex;have box:=bnd_box his.m hb;have box':=bnd_box hix.m hb';rw [xc,xW] at sg';rw [xc];obtain ⟨key,hle⟩:=qEI (v:=vg2) (g:=g) e1 hb (by rw [<-hx];exact ex) (by rw [<-hx];exact hb');rw [<-hx] at hle;have dle:decide ((x.packP G' w.m.cells.length).2<(w.packP G w.m.cells.length).2)=false:=decide_eq_false (by omega);have f69:=fz.trans f9z (by omega);have f59:=f6.trans f69 (by omega);have sg9:=sg.fr f59 m2';have sg9':=sg'.fr f9 n2';have ha9:=(ha.fr f6h (xZY _)).fr f69 (xZY _);simp only [xZS] at n1';refine qE ?_;refine qA fun K hn hp=> ?_;simp only [sy.1,rE,reduceIte,rL,rA,rD,g3,g9,q1''];refine qB (sok xt) (plain_c xt h9 w.m ha9.m w.m.cells.length w.m.W his.m rfl _ M v G sg9 (by omega) box fun m4 hm4=> ?_);simp only [sy.1,rE,reduceIte,rL,rA,rD,g3,q1''];refine qB (sok xt) (plain_c xt (h9.up m4) w.m (ha9.up (xZX hm4)).m w.m.cells.length w.m.W his.m rfl _ M' v' G' (sg9'.up _) (by simp only [xZS];omega) box' fun m5 hm5=> ?_);simp only [xZS] at hm5;simp only [sy.1,rE,reduceIte,rL,g12,dle,Hp.up_up];apply hn;refine qC false (by simp only [sy.1,rE,reduceIte]) (fun hx=>by cases hx) (fun _=> ?_);refine qI ?_;obtain ⟨h10,hh10⟩: ∃h10:Hp,h10=h9.up m5:=⟨_,rfl⟩;rw [<-hh10];have sgA:SG h10 hK.n M v w.m.cells.length w.m.W G:=by rw [hh10];exact sg9.up _
  have sgB:SG h10 m3 M' v' w.m.cells.length w.m.W G':=by rw [hh10];exact sg9'.up _
  have lt10:h.n<h10.n:=by rw [hh10,xZS];omega
  clear hh10;refine tm_any (fun tm=>tm.get 9=some v/\tm.get 17=some v') ⟨by simp [xZZ,g9],by simp [xZZ]⟩ fun tm ht=> ?_;clear g3 g7 g9 g12;obtain ⟨g9,g17⟩:=ht;have hlen:=sgA.len;have hr6:=his.m.r6;have hc8:=his.m.c8;refine qE ?_;refine qA fun K hn hp=> ?_;simp only [sy.1,rL];apply hn;refine qG fun KA A1 A2 A3 A4 A5=> ?_;refine qV (sok xt) (fun st=> ∃(r:Nat) (tm:T AV),st=⟨tm,185,h10,[]⟩/\r<=w.m.cells.length/\tm.get 9=some (v)/\tm.get 17=some (v')/\tm.get 22=some (iv r)/\h.n<h10.n) (fun st=>w.m.cells.length - (match st.tm.get 22 with|some (.val (.int _ n))=>n.toNat|_=>0)) ?_ ?_
  ·rintro st ⟨r,tm,rfl,hkA,g9,g17,g22,_hh⟩;have muA:=g22;refine qE ?_;by_cases hr:r<w.m.cells.length
   ·refine qA fun K hn hp=> ?_;simp only [sy.1,rE,reduceIte,rL,syw.1,g9,hlen,jP,g22,hr];apply hn;refine qC true (by simp only [sy.1,rE,reduceIte]) (fun _=> ?_) (fun hx=>by cases hx);obtain ⟨B,b,rws,za1,za2,za3,za4,za5,za6,za7,za8,za9,_⟩:=sgA.at_ hr;have za10:=fun h'=>sgl55 (C:=w.m.W) b h';obtain ⟨B',b',rws',zb1,zb2,zb3,zb4,zb5,zb6,zb7,zb8,zb9,_⟩:=sgB.at_ hr;have zb10:=fun h'=>sgl55 (C:=w.m.W) b' h';refine qI ?_;refine qG fun KB B1 B2 B3 B4 B5=> ?_;refine qA fun K hn hp=> ?_;simp only [sy.1,rL];apply hn;refine jT fun KD D1 D2 D3 D4 D5=> ?_;refine qV (sok xt) (fun st=> ∃(c:Nat) (tm:T AV),st=⟨tm,185,h10,[]⟩/\c<=w.m.W/\tm.get 9=some (v)/\tm.get 17=some (v')/\tm.get 22=some (iv r)/\tm.get 23=some (iv c)/\h.n<h10.n) (fun st=>w.m.W - (match st.tm.get 23 with|some (.val (.int _ n))=>n.toNat|_=>0)) ?_ ?_
    ·rintro st ⟨c,tm,rfl,hkD,g9,g17,g22,g23,_hh2⟩;have muD:=g23;refine qE ?_;refine qA fun K hn hp=> ?_;simp only [sy.1,rE,reduceIte,rL,syw.1,g9,jP,g22,za1,za2,za3,za10,g23];apply hn;by_cases hc:c<w.m.W
     ·refine qC true (by simp only [sy.1,rE,reduceIte,hc]) (fun _=> ?_) (fun hx=>by cases hx);have x1:=sl55 (C:=w.m.W) (b:=b) hc;have x2:=kG (G r) hc;have x3:=yZ (G r) hc;have x4:=sl55 (C:=w.m.W) (b:=b') hc;have x5:=kG (G' r) hc;have x6:=yZ (G' r) hc;have hk:=key r hr c hc;have e2:decide ((G' r c).1<(G r c).1)=false:=decide_eq_false (by omega);have e3:decide ((G r c).2<(G' r c).2)=false:=decide_eq_false (by omega);refine qI ?_;refine qG fun KE E1 E2 E3 E4 E5=> ?_;refine zR (sok xt) 36 (by kernel_rfl) fun K hn hp=> ?_;simp only [sy.1,rE,reduceIte,rL,g9,g17,g22,za1,za2,za3,za4,zb1,zb2,zb3,zb4,g23,x1,x2,x3,x4,x5,x6,e2,e3];apply hn;refine qH false (by simp only [sy.1,rE,reduceIte]) (fun hx=>by cases hx) (fun _=> ?_);refine qW (E1 _ ?_);refine reg fun K hn hp=> ?_;simp only [sy.1,rE,reduceIte,rL,g23,qO hc (show w.m.W<=9223372036854775807 by omega)];apply hn;refine ⟨⟨c+1,_,rfl,by omega,(by simp [xZZ,g9]),(by simp [xZZ,g17]),(by simp [xZZ,g22]),(by simp [xZZ]),lt10⟩,by simpa [xZZ,muD] using (by omega:w.m.W - (c+1)<w.m.W - c)⟩
     ·refine qC false (by simp only [sy.1,rE,reduceIte,hc]) (fun hx=>by cases hx) (fun _=> ?_);refine qS (D2 _ ?_);refine B1 _ ?_;refine reg fun K hn hp=> ?_;simp only [sy.1,rE,reduceIte,rL,g22,qO hr (show w.m.cells.length<=9223372036854775807 by omega)];apply hn;refine ⟨⟨r+1,_,rfl,by omega,(by simp [xZZ,g9]),(by simp [xZZ,g17]),(by simp [xZZ]),lt10⟩,by simpa [xZZ,muA] using (by omega:w.m.cells.length - (r+1)<w.m.cells.length - r)⟩
    ·exact ⟨0,_,rfl,(by omega),(by simp [xZZ,g9]),(by simp [xZZ,g17]),(by simp [xZZ,g22]),(by simp [xZZ]),lt10⟩
   ·refine qA fun K hn hp=> ?_;simp only [sy.1,rE,reduceIte,rL,syw.1,g9,hlen,jP,g22,hr];apply hn;refine qC false (by simp only [sy.1,rE,reduceIte]) (fun hx=>by cases hx) (fun _=> ?_);refine qS (A2 _ ?_);refine qA fun K hn hp=> ?_;simp only [sy.1];refine qB (sok xt) (wX xt _ fun n7 hn7=> ?_);simp only [sy.1,rE,reduceIte,rL];refine hn _ _ (qD (qM res5 ?_));simp [xZZ,wG]
  ·exact ⟨0,_,rfl,(by omega),(by simp [xZZ,g9]),(by simp [xZZ,g17]),(by simp [xZZ]),lt10⟩
 refine qA fun K hn hp=> ?_;simp only [sy.1,reduceIte,rL,rA,g8,x8];refine qB (sok xt) (qCP xt h6 y (hyK.fr f56 (xZY _)) fun m3 hm3=> ?_);cases ey:y.ok
 ·simp only [sy.1,rL];apply hn;refine qH false (by simp only [sy.1,rE,reduceIte]) (fun hx=>by cases hx) (fun _=> ?_);refine qW (rest _ (h6.up m3) ((xZN (xZY _)).up (xZX hm3)) ?_ ?_ ?_ ?_);all_goals simp [xZZ,g3,g7,g9,g12]
 ·simp only [sy.1,rL];apply hn;refine qH true (by simp only [sy.1,rE,reduceIte]) (fun _=> ?_) (fun hx=>by cases hx);obtain ⟨hby,hle⟩:=qEJ (v:=vk2) (k:=c) e1 hb (by rw [<-hy];exact ey);rw [<-hy] at hby hle;have hpy:y.pkd=(y.packP G w.m.cells.length,0):=by simp only [Wk.pkd,ey,if_true,hby,yc]
  have dle:decide ((w.packP G w.m.cells.length).2<(y.packP G w.m.cells.length).2)=false:=decide_eq_false (by omega);refine qA fun K hn hp=> ?_;simp only [sy.1,rE,reduceIte,rL,rA,g8,x8];refine qB (sok xt) (xZQ (qCT xt (h6.up m3) y ((hyK.fr f56 (xZY _)).up (xZX hm3))) fun res h7 hres=> ?_);obtain ⟨f7,z',rfl,cz'⟩:=hres;rw [hpy] at cz';rw [hpy];have oz':=cz'.one;obtain ⟨w0,w1,w2⟩:=qDd z' (iv (y.packP G w.m.cells.length).2) (iv 0);simp only [sy.1,rE,reduceIte,rL,w0,w1,w2];apply hn;clear w0 w1 w2;refine qA fun K hn hp=> ?_;simp only [sy.1,rE,reduceIte,rL,g12,dle];apply hn;refine qH false (by simp only [sy.1,rE,reduceIte]) (fun hx=>by cases hx) (fun _=> ?_);refine qW (rest _ h7 (((xZN (xZY _)).up (xZX hm3)).trans f7 (by simp only [xZS];omega)) ?_ ?_ ?_ ?_);all_goals simp [xZZ,g3,g7,g9,g12]
end Go.Proofs.Kn
