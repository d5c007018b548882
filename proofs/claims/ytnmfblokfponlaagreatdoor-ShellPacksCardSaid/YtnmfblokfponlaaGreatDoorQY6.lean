/- MvR2, MvR3, MvR4: texts in a row, joined by a program. -/
import Derived.Test.YtnmfblokfponlaaGreatDoorQXMvR1
set_option linter.all false
open Nat renaming reduceEqDiff → rE, reduceLeDiff → rD, reduceAdd → rA, reduceMul → rM, reduceLT → rL
open Nat renaming le_refl → xZZ, le_succ → xZX, le_of_lt → xZV
open Go.Ev.T renaming get_put → xZY
open List renaming length_map → xZW, mem_singleton → xZT, map_cons → xZR, map_nil → xZQ, length_filter_le → xZP, length_take → xZM, length_cons → xZL, filter_cons → xZK
open Go.Ev.FnA renaming mono → xZU
open Go.Ev.Hp renaming up_n → xZS
open Go.Ev.Fr renaming refl → xZO
open Bool renaming false_eq_true → xZN
namespace Go.Proofs.Kn
open Go Go.Ev
set_option maxRecDepth 100000
set_option maxHeartbeats 4000000
theorem ft145 (xt:Addr->Option Value):(SE xt).ft.get 145=some Tryz.f145:=by kernel_rfl
theorem res145:Tryz.f145.results.toList=[.cell 6 125]:=by kernel_rfl
def CgR (xt:Addr->Option Value) (h:Hp) (c:Cg) (res:CR) (h':Hp):Prop:=Fr h.n h h'/\ ∃z,res= .ret (.agg [z,iv c.2])/\NewC xt h.n h' z c.1
theorem band_c (xt:Addr->Option Value) (h:Hp) (w:Wk) (his:w.Is) (N M:Nat) (v:AV) (G:Th.Grid) (hbd:w.Bd xt h N M v G) (hbn:w.m.bnd=some G) (row wd:Nat) (hwd1:1<=wd) (hwd3:wd<=3):
  FnA (SE xt) 145 [.agg (w.bc v),iv (row:Int),iv (wd:Int)] h (CgR xt h (w.bandP G row wd w.m.W)):=by
 refine FnA.walk (sok xt) (ft145 xt) rfl 13 rfl ?_;obtain ⟨o1,o2,o3,o4,o5⟩:=hbd.at_.ones;have onev:=hbd.sg.one;refine qA fun K hn hp=> ?_;simp only [sw.1,rE,reduceIte,rL,rA,syp.1];apply hn;obtain ⟨h1,hh1,n1,s1,k1,f1⟩:=yX h (.cells (w.bc v) 121);obtain ⟨h2,hh2,n2,s2,k2,f2⟩:=uL f1 n1 (.cells [iv (row:Int)] 3);obtain ⟨h3,hh3,n3,s3,k3,f3⟩:=uL f2 n2 (.cells [iv (wd:Int)] 3);obtain ⟨h4,hh4,n4,s4,k4,f4⟩:=uL f3 n3 (.cells [.val (.slice none 0 0),iv 0] 125);simp only [<-hh1,<-hh2,<-hh3,<-hh4];clear hh1 hh2 hh3 hh4;simp only [rA] at n2 n3 n4 s3 s4;refine qA fun K hn hp=> ?_;have cm: ∀b,cellsOf (.mp b)=[.mp b]:=fun _=>rfl;have om: ∀b,Go.Ev.one (.mp b)=true:=fun _=>rfl;have cf: ∀f a b,cellsOf (.fn f a b)=[.fn f a b]:=fun _ _ _=>rfl;have of': ∀f a b,Go.Ev.one (.fn f a b)=true:=fun _ _ _=>rfl;have ll: ∀a:AV,([a]:List AV).length=1:=fun _=>rfl;have al: ∀a:AV,([a]:List AV).all Go.Ev.one=Go.Ev.one a:=fun _=>by simp
 simp only [sw.1,rE,reduceIte,rL,syp.1,cm,om,WOp_map];obtain ⟨h5,hh5,n5,s5,k5,f5⟩:=uL f4 n4 (.map []);obtain ⟨h6,hh6,n6,s6,k6,f6⟩:=nsF f5 n5 (.cells [.val (.map none)] 240) (.cells [.mp (h.n+4)] 240);simp only [rA] at n5 n6 s5 s6 k6;rw [n5] at hh6;simp only [sy.1,<-hh5,n4];rw [<-hh6];apply hn;clear hh5 hh6;refine qA fun K hn hp=> ?_;simp only [sy.1,rL,syp.1,n6];obtain ⟨h7,hh7,n7,s7,k7,f7⟩:=uL f6 n6 (.cells [.val .nilFunc] 126);simp only [rA] at n7 s7 k7;rw [<-hh7];apply hn;clear hh7;refine qA fun K hn hp=> ?_;simp only [sw.1,rE,reduceIte,rL,syp.1,s7];apply hn;obtain ⟨h8,hh8⟩: ∃h8:Hp,h8=h7.set (h.n+6) (.cells [slv h.n] 126):=⟨_,rfl⟩;rw [<-hh8];have n8:h8.n=h.n+7:=by rw [hh8,Hp.set_n,n7]
 have k8: ∀b,b<h.n+6->h8.t.get b=h7.t.get b:=fun b hb=>by rw [hh8,Hp.set_t,xZY,if_neg (by omega)]
 have s8:h8.t.get (h.n+6)=some (.cells [slv h.n] 126):=by rw [hh8,Hp.set_t,xZY,if_pos rfl]
 have f8:Fr h.n h h8:=by rw [hh8];exact f7.set (by omega) (by omega) _
 clear hh8;have t5:=(k8 (h.n+5) (by omega)).trans ((k7 _ (by omega)).trans s6);have t4:=(k8 (h.n+4) (by omega)).trans ((k7 _ (by omega)).trans ((k6 _ (by omega)).trans s5));have t3:=(k8 (h.n+3) (by omega)).trans ((k7 _ (by omega)).trans ((k6 _ (by omega)).trans ((k5 _ (by omega)).trans s4)));have t2:=(k8 (h.n+2) (by omega)).trans ((k7 _ (by omega)).trans ((k6 _ (by omega)).trans ((k5 _ (by omega)).trans ((k4 _ (by omega)).trans s3))));have t1:=(k8 (h.n+1) (by omega)).trans ((k7 _ (by omega)).trans ((k6 _ (by omega)).trans ((k5 _ (by omega)).trans ((k4 _ (by omega)).trans ((k3 _ (by omega)).trans s2)))));have t0:=(k8 h.n (by omega)).trans ((k7 _ (by omega)).trans ((k6 _ (by omega)).trans ((k5 _ (by omega)).trans ((k4 _ (by omega)).trans ((k3 _ (by omega)).trans ((k2 _ (by omega)).trans s1))))));have be:BEnv w h v row wd h8:=⟨f8,t0,t1,t2,t5,s8,by omega⟩;refine qA fun K hn hp=> ?_;simp only [sy.1,rE,reduceIte,rL,syp.1,s8];have bb:=band1_c xt w his h N M v G hbd hbn row wd hwd1 hwd3 w.m.W (xZZ _) h8 [] (fun b=>b<h8.n) be t4 (fun e he=>(by cases he)) (fun b q=>q) (by omega);rw [Nat.sub_self] at bb;refine kB (sok xt) (xZU bb fun res h9 hres=> ?_);obtain ⟨f9,z,l',rfl,m9,mi9,cg9⟩:=hres;have oz:=cg9.cuts.one;have cz:=cg9.cuts.cells;have u3:=(f9.get (k:=h.n+3) (by omega) (by omega)).trans t3;have f9h:Fr h.n h h9:=f9.toFr f8 (by omega) fun k e=>by omega
 have l9:=f9.le;simp only [sw.1,rE,reduceIte,rL,rA,syp.1,oz,u3];refine hn _ _ (qE (gR (v:= .agg [z,iv (w.bandP G row wd w.m.W).2]) res145 ?_ ⟨f9h.set (by omega) (by omega) _,z,rfl,?_⟩))
 ·simp only [sy.1,rE,reduceIte,rA,syp.1]
 ·exact (NewC.set (N:=h8.n) ⟨cg9.cuts,cg9.inn,fun b off n s e=>by have:=cg9.av b off n s e;omega⟩ (by omega) _).lower (by omega)
end Go.Proofs.Kn
namespace Go.Proofs.Kn
open Go Go.Ev
set_option maxRecDepth 100000
set_option maxHeartbeats 4000000
def Wk.packP (w:Wk) (G:Th.Grid):Nat->Cg
 |0=>([],0)
 |m+1=>kH (Wk.packP w G m) (Wk.packP w G m::(w.ws.filter fun x=>decide (x<=((m+1:Nat):Int))).map fun x=>((w.bandP G (w.m.cells.length - (m+1)) x.toNat w.m.W).1++(Wk.packP w G (m - (x.toNat - 1))).1,(w.bandP G (w.m.cells.length - (m+1)) x.toNat w.m.W).2+(Wk.packP w G (m - (x.toNat - 1))).2))
termination_by m=>m
decreasing_by all_goals omega
def Wk.pone (w:Wk) (G:Th.Grid) (m:Nat) (x:Int):Cg:=((w.bandP G (w.m.cells.length - (m+1)) x.toNat w.m.W).1++(w.packP G (m - (x.toNat - 1))).1,(w.bandP G (w.m.cells.length - (m+1)) x.toNat w.m.W).2+(w.packP G (m - (x.toNat - 1))).2)
def Wk.pcnd (w:Wk) (G:Th.Grid) (m k:Nat):List Cg:=w.packP G m::((w.ws.take k).filter fun x=>decide (x<=((m+1:Nat):Int))).map (w.pone G m)
theorem Wk.packP_zero (w:Wk) (G:Th.Grid):w.packP G 0=([],0):=by rw [Wk.packP]
theorem Wk.packP_succ (w:Wk) (G:Th.Grid) (m:Nat):w.packP G (m+1)=kH (w.packP G m) (w.pcnd G m w.ws.length):=by rw [Wk.packP,Wk.pcnd,List.take_length];rfl
theorem Wk.pcnd_succ (w:Wk) (G:Th.Grid) (m k:Nat) {x:Int} (hx:w.ws[k]? =some x):w.pcnd G m (k+1)=w.pcnd G m k++if x<=((m+1:Nat):Int) then [w.pone G m x] else []:=by
 simp only [Wk.pcnd,List.take_succ,hx,Option.toList_some,List.filter_append,List.map_append,List.cons_append];by_cases q:x<=((m+1:Nat):Int)
 ·simp only [if_pos q,xZK,decide_eq_true q,List.filter_nil,if_true,xZR,xZQ]
 ·simp only [if_neg q,xZK,decide_eq_false q,List.filter_nil,xZN,if_false,xZQ]
theorem Wk.Is.packP_bd {w:Wk} (his:w.Is) {G:Th.Grid} (hb:w.m.bnd=some G): ∀m,(w.packP G m).1.length<=8*m/\0<=(w.packP G m).2/\(w.packP G m).2<=52000*m:=by
 intro m;induction m using Nat.strongRecOn with
 |ind m ih=>
 cases m with
 |zero=>rw [Wk.packP_zero];simp
 |succ m=>
  have i1:=ih m (by omega);have c8:=his.m.c8;have key: ∀c∈w.pcnd G m w.ws.length,c.1.length<=8*(m+1)/\0<=c.2/\c.2<=52000*((m+1:Nat):Int):=by
   intro c hc;rcases List.mem_cons.1 hc with rfl|hc
   ·omega
   ·obtain ⟨x,hx,rfl⟩:=List.mem_map.1 hc;obtain ⟨hx1,hx2⟩:=List.mem_filter.1 hx;have hx2:x<=((m+1:Nat):Int):=of_decide_eq_true hx2;have hw:=Wk.ws_mem his (List.mem_of_mem_take hx1);have i2:=ih (m - (x.toNat - 1)) (by omega);have i3:=his.bandP_bd hb (w.m.cells.length - (m+1)) x.toNat w.m.W;simp only [Wk.pone,List.length_append];omega
  rw [Wk.packP_succ];rcases qED (c0:=w.packP G m) (l:=w.pcnd G m w.ws.length) with e|e
  ·rw [e];omega
  ·exact key _ e
abbrev CgL:=List (AV×Cg)
theorem ft73 (xt:Addr->Option Value):(SE xt).ft.get 73=some Tryz.f73:=by kernel_rfl
theorem res73:Tryz.f73.results.toList=[.cell 4 125]:=by kernel_rfl
theorem pack1_c (xt:Addr->Option Value) (w:Wk) (his:w.Is) (N M:Nat) (v:AV) (G:Th.Grid) (hbn:w.m.bnd=some G): ∀m,m<=w.m.cells.length-> ∀h:Hp,w.Bd xt h N M v G->
  FnA (SE xt) 73 [.agg (w.bc v),iv ((w.m.cells.length - m:Nat):Int)] h (CgR xt h (w.packP G m)):=by
 intro m;induction m using Nat.strongRecOn with
 |ind m ih=>
 intro hm h hbd;refine FnA.walk (sok xt) (ft73 xt) rfl 47 rfl ?_;have c8:=his.m.c8;have r6:=his.m.r6;have w3:=Wk.ws_len his;obtain ⟨o1,o2,o3,o4,o5⟩:=hbd.at_.ones;have onev:=hbd.sg.one;obtain ⟨fr0,hfr0⟩: ∃fr0:Nat,fr0=w.m.cells.length - m:=⟨_,rfl⟩;rw [<-hfr0];refine qA fun K hn hp=> ?_;simp only [sw.1,rE,reduceIte,rL,syp.1];apply hn;obtain ⟨h1,hh1,n1,s1,k1,f1⟩:=yX h (.cells (w.bc v) 121);obtain ⟨h2,hh2,n2,s2,k2,f2⟩:=uL f1 n1 (.cells [.val (.slice none 0 0),iv 0] 125);simp only [<-hh1,<-hh2];clear hh1 hh2;have u0:=(k2 h.n (by omega)).trans s1;simp only [rA] at n2;have b2:=hbd.fr f2 (xZZ _);refine qD ?_;refine qA fun K hn hp=> ?_;simp only [sy.1,rE,reduceIte,rL,rA,u0];refine qB (sok xt) (brows_c xt h2 w b2.at_ v onev fun m3 hm3=> ?_);simp only [sy.1,rE,reduceIte,rL];apply hn;obtain ⟨h3,hh3⟩: ∃h3,h3=h2.up m3:=⟨_,rfl⟩;rw [<-hh3];have n3:h.n+2<h3.n:=by rw [hh3,xZS];omega
 have f3:Fr h.n h h3:=by rw [hh3];exact f2.up (xZV hm3)
 have s3:h3.t.get (h.n+1)=some (.cells [.val (.slice none 0 0),iv 0] 125):=by rw [hh3];exact s2
 have u3:h3.t.get h.n=some (.cells (w.bc v) 121):=by rw [hh3];exact u0
 have b3:=hbd.fr f3 (xZZ _);clear hh3;cases m with
 |zero=>
  have d:decide ((w.m.cells.length:Int)<=(fr0:Int))=true:=decide_eq_true (by omega);refine qC true (by simp only [sy.1,rE,reduceIte,d]) (fun _=> ?_) (fun hx=>by cases hx);refine qD ?_;refine qA fun K hn hp=> ?_;simp only [sw.1,rE,reduceIte,rL,rA,syp.1,s3,bd125z];apply hn;refine qX (gR (v:= .agg [.val (.slice none 0 0),iv 0]) res73 ?_ ⟨f3.set (by omega) (by omega) _,.val (.slice none 0 0),?_,?_⟩)
  ·simp only [sy.1,rE,reduceIte,rA,syp.1,s3]
  ·rw [Wk.packP_zero]
  ·rw [Wk.packP_zero];exact ⟨Cuts.nil,fun _ _ _ e=>(by cases e),fun _ _ _ _ e=>(by cases e)⟩
 |succ m=>
  have d:decide ((w.m.cells.length:Int)<=(fr0:Int))=false:=decide_eq_false (by omega);refine qC false (by simp only [sy.1,rE,reduceIte,d]) (fun hx=>by cases hx) (fun _=> ?_);refine qG ?_;have w1:IntKind.i64.wrap ((fr0:Int)+1)=((w.m.cells.length - m:Nat):Int):=by rw [qK _ (by omega) (by omega)];omega
  refine qA fun K hn hp=> ?_;simp only [sy.1,rE,reduceIte,rL,rA,u3,w1];refine qB (sok xt) (xZU (ih m (by omega) (by omega) h3 b3) fun res h5 hres=> ?_);obtain ⟨f5,z1,rfl,nc5⟩:=hres;have oz1:=nc5.cuts.one;have cz1:=nc5.cuts.cells;simp only [sy.1,rE,reduceIte,rL,cz1,jK,bs192];obtain ⟨h6,hh6,n6,s6,k6,f6⟩:=yX h5 (.cells [z1,iv (w.packP G m).2] 125);rw [<-hh6];apply hn;clear hh6;have l5:=f5.le;have f6h:Fr h.n h h6:=(f3.trans f5 (by omega)).trans f6 (by omega);have b6:=hbd.fr f6h (xZZ _);have u6:=(k6 h.n (by omega)).trans ((f5.at_ _ (.inl (by omega))).trans u3);have v6:=(k6 (h.n+1) (by omega)).trans ((f5.at_ _ (.inl (by omega))).trans s3);refine qD ?_;refine qA fun K hn hp=> ?_;simp only [sy.1,rE,reduceIte,rL,rA,u6];refine qB (sok xt) (xZU (widths_c xt h6 w b6.at_ his v onev) fun res h7 hres=> ?_);obtain ⟨f7,zw,rfl,rw7,low⟩:=hres;have ozw:=rw7.one;have lzw: ∀h',vC tb h' 75 zw=some w.ws.length:=fun h'=>by have:=rw7.len (h':=h') uC rfl;simpa using this
  simp only [sy.1,rE,reduceIte,rL,syw.1,lzw];apply hn;have l7:=f7.le;have f57:Fr h5.n h5 h7:=f6.trans f7 (by omega);have cr7:CRows xt h7 h5.n (.sl h5.n 0 1 2) [(z1,w.packP G m)]:=by
   refine ⟨.inr ⟨h5.n,rfl,xZZ _,by omega,?_,rfl⟩,fun e he=> ?_⟩
   ·rw [f7.at_ h5.n (.inl (by omega)),s6];rfl
   ·rw [xZT] at he;subst he;exact ⟨nc5.cuts.fr f57 (xZZ _),fun b off n s e off' n' s' e'=>by cases e';have:=nc5.cuts.row.lt e;omega⟩
  have f7h:Fr h.n h h7:=f6h.trans f7 (by omega);have u7:=(f7.at_ h.n (.inl (by omega))).trans u6;have v7:=(f7.at_ (h.n+1) (.inl (by omega))).trans v6;refine qF fun KA A1 A2 A3 A4 A5=> ?_;refine qQ (sok xt) (fun st=> ∃(k:Nat) (av:AV) (es:CgL) (hg:Hp) (tm:T AV),st=⟨tm,47,hg,[]⟩/\k<=w.ws.length/\tm.get 1=some (iv (fr0:Int))/\tm.get 2=some (.ptr h.n 0)/\tm.get 4=some (.ptr (h.n+1) 0)/\tm.get 5=some (av)/\tm.get 19=some (zw)/\tm.get 20=some (iv (w.ws.length:Int))/\tm.get 21=some (iv k)/\Fr h5.n h7 hg/\RowAt xt hg 1 zw (w.ws.map c1)/\pO av zw/\CRows xt hg h5.n av es/\es.map Prod.snd=w.pcnd G m k/\(∀e∈es,Inn e.1/\ ∀b off n s,e.1= .sl b off n s->h.n+2<=b)) (fun st=>w.ws.length - (match st.tm.get 21 with|some (.val (.int _ n))=>n.toNat|_=>0)) ?_ ?_
  ·rintro st ⟨k,av,es,hg,tm,rfl,hkA,g1,g2,g4,g5,g19,g20,g21,fg,rwg,apg,crg,mpg,ing⟩;have muA:=g21;have fgh:Fr h.n h hg:=f7h.trans fg (by omega);have lg:=fg.le;have ug:=(fg.at_ h.n (.inl (by omega))).trans u7;have vg:=(fg.at_ (h.n+1) (.inl (by omega))).trans v7;refine qA fun K hn hp=> ?_;simp only [sy.1,rL,qZ,g20,g21];apply hn;by_cases hk:k<w.ws.length
   ·refine qC true (by simp only [sy.1,reduceIte,hk]) (fun _=> ?_) (fun hx=>by cases hx);refine qG ?_;obtain ⟨x,hx⟩: ∃x,w.ws[k]? =some x:=⟨_,List.getElem?_eq_getElem hk⟩;have hxm:=List.mem_of_getElem? hx;have hx13:=Wk.ws_mem his hxm;obtain ⟨xn,rfl⟩: ∃xn:Nat,x=(xn:Int):=⟨x.toNat,by omega⟩;have i1:=rwg.idx uC rfl tg3 rfl (i:=k) (by simpa using hk) (k:= .i64);have i2:=rwg.load0 tg3 rfl (i:=k) (c:=c1 (xn:Int)) (by rw [List.getElem?_map,hx];rfl) rfl;simp only [Nat.mul_one] at i1 i2;refine qF fun KB B1 B2 B3 B4 B5=> ?_;refine qA fun K hn hp=> ?_;simp only [sy.1,rE,reduceIte,rL,g19,g21,i1,i2];apply hn;have w2:IntKind.i64.wrap ((fr0:Int)+(xn:Int))=((fr0+xn:Nat):Int):=by rw [qK _ (by omega) (by omega)];omega
    have bg:=hbd.fr fgh (xZZ _);refine qA fun K hn hp=> ?_;simp only [sy.1,rE,reduceIte,rL,rA,g1,g2,ug,w2];refine qB (sok xt) (brows_c xt hg w bg.at_ v onev fun m8 hm8=> ?_);simp only [sy.1,rE,reduceIte,rL];apply hn;obtain ⟨hA,hhA⟩: ∃hA,hA=hg.up m8:=⟨_,rfl⟩;rw [<-hhA];have fA:Fr hg.n hg hA:=by rw [hhA];exact (xZO (xZZ _)).up (xZV hm8)
    have uA:hA.t.get h.n=some (.cells (w.bc v) 121):=by rw [hhA];exact ug
    have nA:hg.n<hA.n:=by rw [hhA,xZS];exact hm8
    have bA:=bg.fr fA (xZZ _);have crA:=crg.fr fA (xZZ _);have rwA:=rwg.fr fA (xZZ _);clear hhA;by_cases q:fr0+xn<=w.m.cells.length
    ·have dq:decide (((fr0+xn:Nat):Int)<=(w.m.cells.length:Int))=true:=decide_eq_true (by omega);refine qH true (by simp only [sy.1,rE,reduceIte,dq]) (fun _=> ?_) (fun hx=>by cases hx);have em:(w.m.cells.length - (m - (xn - 1)):Nat)=fr0+xn:=by omega
     have onea:=crA.one;refine regG (sok xt) 12 [11] [] [(5,0)] (by kernel_rfl) fun K hn hp=> ?_;simp only [sy.1,rE,reduceIte,rL,rA,syw.1,g1,g2,g5,uA,syg.1,xZN,jK];refine qB (sok xt) (FnA.inc (xZU (band_c xt hA w his N M v G bA hbn fr0 xn (by omega) (by omega)) fun res hB0 hres=> ?_));obtain ⟨fB0,zB,rfl,ncB0⟩:=hres;obtain ⟨hB,hhB⟩: ∃hB,hB=hB0.up (hB0.n+1):=⟨_,rfl⟩;have fB:Fr hA.n hA hB:=by rw [hhB];exact fB0.up (xZX _)
     have ltB:hA.n<hB.n:=by have:=fB0.lo;rw [hhB,xZS];omega
     have ncB:NewC xt hA.n hB zB (w.bandP G fr0 xn w.m.W).1:=by rw [hhB];exact ncB0.fr ((xZO (xZZ _)).up (xZX _)) (xZZ _)
     rw [<-hhB];clear hhB fB0 ncB0;have uB:=(fB.at_ h.n (.inl (by omega))).trans uA;have bB:=bA.fr fB (xZZ _);simp only [sy.1,rE,reduceIte,rL,rA,g1,g2,uA,uB,syg.1,uR ltB,w2];rw [<-em];refine qB (sok xt) (FnA.inc (xZU (ih (m - (xn - 1)) (by omega) (by omega) hB bB) fun res hC0 hres=> ?_));obtain ⟨fC0,zC,rfl,ncC0⟩:=hres;obtain ⟨hC,hhC⟩: ∃hC,hC=hC0.up (hC0.n+1):=⟨_,rfl⟩;have fC:Fr hB.n hB hC:=by rw [hhC];exact fC0.up (xZX _)
     have ltC:hB.n<hC.n:=by have:=fC0.lo;rw [hhC,xZS];omega
     have ncC:NewC xt hB.n hC zC (w.packP G (m - (xn - 1))).1:=by rw [hhC];exact ncC0.fr ((xZO (xZZ _)).up (xZX _)) (xZZ _)
     rw [<-hhC];clear hhC fC0 ncC0;simp only [sy.1,rE,reduceIte,rL,uR ltC];have bd1:=his.bandP_bd hbn fr0 xn w.m.W;have bd2:=his.packP_bd hbn (m - (xn - 1));refine qB (sok xt) (FnA.inc (xZU (then_c xt hC zB zC (w.bandP G fr0 xn w.m.W) (w.packP G (m - (xn - 1))) (ncB.fr fC (xZZ _)).cuts ncC.cuts ncB.inn ncC.inn (by omega) bd1.2.1 (by omega) bd2.2.1 (by omega)) fun res hD0 hres=> ?_));obtain ⟨fD0,zD,rfl,ncD0⟩:=hres;obtain ⟨hD,hhD⟩: ∃hD,hD=hD0.up (hD0.n+1):=⟨_,rfl⟩;have fD:Fr hC.n hC hD:=by rw [hhD];exact fD0.up (xZX _)
     have ltD:hC.n<hD.n:=by have:=fD0.lo;rw [hhD,xZS];omega
     have ncD:NewC xt hC.n hD zD ((w.bandP G fr0 xn w.m.W).1++(w.packP G (m - (xn - 1))).1):=by rw [hhD];exact ncD0.fr ((xZO (xZZ _)).up (xZX _)) (xZZ _)
     rw [<-hhD];clear hhD fD0 ncD0;have czD:=ncD.cuts.cells;have ozD:=ncD.cuts.one;have fAD:Fr hA.n hA hD:=(fB.trans fC (by omega)).trans fD (by omega);have crD:=crA.fr fAD (xZZ _);have rwD:=rwA.fr fAD (xZZ _);have les:es.length<=1000000:=by
      have e1:es.length=(w.pcnd G m k).length:=by rw [<-mpg,xZW]
      rw [e1,Wk.pcnd,xZL,xZW];have:=xZP (fun x=>decide (x<=((m+1:Nat):Int))) (w.ws.take k);rw [xZM] at this;omega
     obtain ⟨v',hE,p1,p2,p3,p4,p5,p6⟩:=crD.append (by omega) (z:=zD) (c:=((w.bandP G fr0 xn w.m.W).1++(w.packP G (m - (xn - 1))).1,(w.bandP G fr0 xn w.m.W).2+(w.packP G (m - (xn - 1))).2)) ncD.cuts (fun b off n s e off' n' s' e'=>by
      have:=ncD.lo b off n s e;rcases crA.own with ⟨_,_,o⟩|⟨b',o,_,o2,_⟩
      ·rw [o] at e';cases e'
      ·rw [o] at e';cases e';omega) (by omega)
     have p1':qV Tryz.prog tb xt .append [192,192] [av,.sl hD.n 0 1 2] {t:=hD.t.put (some (.cells [zD,iv ((w.bandP G fr0 xn w.m.W).2+(w.packP G (m - (xn - 1))).2)] 125)) hD.n,n:=hD.n+1}=some (v',hE):=p1;simp only [sy.1,rE,reduceIte,rL,czD,syg.1,uR ltD,bs192,p1'];refine hn _ _ (B1 _ ?_);refine reg fun K hn hp=> ?_;simp only [sy.1,rE,reduceIte,rL,g21,qL hk (show w.ws.length<=9223372036854775807 by omega)];apply hn;refine ⟨⟨k+1,v',es++[(zD,_)],hE,_,rfl,by omega,(by simp [xZY,g1]),(by simp [xZY,g2]),(by simp [xZY,g4]),(by simp [xZY]),(by simp [xZY,g19]),(by simp [xZY,g20]),(by simp [xZY]),((fg.trans fA (by omega)).trans fAD (by omega)).trans p3 (by omega),?_,?_,p2,?_,?_⟩,by simpa [xZY,muA] using (by omega:w.ws.length - (k+1)<w.ws.length - k)⟩
     ·exact rwD.keepB p3.le fun b off n s e hb=>p5 b hb fun off' n' s' e'=>apg b off n s e off' n' s' e'
     ·intro b off n s e off' n' s' e';have:=rwD.lt e;rw [p4] at e';cases e';omega
     ·rw [Wk.pcnd_succ w G m k hx,if_pos (by omega),List.map_append,mpg];simp only [Wk.pone,xZR,xZQ,Int.toNat_natCast,<-hfr0]
     ·intro e he;rcases List.mem_append.1 he with he|he
      ·exact ing e he
      ·rw [xZT] at he;subst he;exact ⟨ncD.inn,fun b off n s e=>by have:=ncD.lo b off n s e;omega⟩
    ·have dq:decide (((fr0+xn:Nat):Int)<=(w.m.cells.length:Int))=false:=decide_eq_false (by omega);refine qH false (by simp only [sy.1,rE,reduceIte,dq]) (fun hx=>by cases hx) (fun _=> ?_);refine qU (B1 _ ?_);refine reg fun K hn hp=> ?_;simp only [sy.1,rE,reduceIte,rL,g21,qL hk (show w.ws.length<=9223372036854775807 by omega)];apply hn;refine ⟨⟨k+1,av,es,hA,_,rfl,by omega,(by simp [xZY,g1]),(by simp [xZY,g2]),(by simp [xZY,g4]),(by simp [xZY,g5]),(by simp [xZY,g19]),(by simp [xZY,g20]),(by simp [xZY]),fg.trans fA (by omega),rwA,apg,crA,?_,ing⟩,by simpa [xZY,muA] using (by omega:w.ws.length - (k+1)<w.ws.length - k)⟩;rw [Wk.pcnd_succ w G m k hx,if_neg (by omega),List.append_nil];exact mpg
   ·refine qC false (by simp only [sy.1,reduceIte,hk]) (fun hx=>by cases hx) (fun _=> ?_);refine qO (A2 _ ?_);obtain rfl:k=w.ws.length:=by omega
    obtain ⟨e0,es',hes⟩: ∃e0 es',es=e0::es':=by
     cases es with
     |nil=>simp [Wk.pcnd] at mpg
     |cons e0 es'=>exact ⟨e0,es',rfl⟩
    have he0:e0.2=w.packP G m:=by
     rw [hes] at mpg;simp only [xZR,Wk.pcnd,List.cons.injEq] at mpg;exact mpg.1
    have hbst:(yZ e0 es).2=w.packP G (m+1):=by rw [qEC,mpg,he0,Wk.packP_succ]
    have les:es.length<=1000000:=by
     have e1:es.length=(w.pcnd G m w.ws.length).length:=by rw [<-mpg,xZW]
     rw [e1,Wk.pcnd,xZL,xZW];have:=xZP (fun x=>decide (x<=((m+1:Nat):Int))) (w.ws.take w.ws.length);rw [xZM] at this;omega
    have onea:=crg.one;refine qA fun K hn hp=> ?_;simp only [sy.1,rE,reduceIte,rL,g5];refine qB (sok xt) (best_c xt hg h5.n av es crg e0 (by rw [hes];rfl) les fun m9 hm9=> ?_);obtain ⟨zb,hzb⟩: ∃zb,zb=(yZ e0 es).1:=⟨_,rfl⟩;have cgb:NewC xt (h.n+2) hg zb (w.packP G (m+1)).1:=by
     rw [hzb,<-hbst];have key: ∀e∈es,NewC xt (h.n+2) hg e.1 e.2.1:=fun e he=>⟨(crg.at_ e he).1,(ing e he).1,(ing e he).2⟩;rcases qB7 (e0:=e0) es with e|e
     ·rw [e];exact key _ (by rw [hes];exact List.mem_cons_self)
     ·exact key _ e
    rw [<-hzb,hbst];have ozb:=cgb.cuts.one;have czb:=cgb.cuts.cells;simp only [sw.1,rE,reduceIte,rL,rA,syp.1,g4,vg,ozb];refine hn _ _ (qE (gR (v:= .agg [zb,iv (w.packP G (m+1)).2]) res73 ?_ ⟨(fgh.up (xZV hm9)).set (by omega) (by simp only [xZS];omega) _,zb,rfl,?_⟩))
    ·simp only [sy.1,rE,reduceIte,rA,syp.1,g4,vg]
    ·exact (NewC.set (N:=h.n+2) (cgb.fr ((xZO (xZZ _)).up (xZV hm9)) (xZZ _)) (by omega) _).lower (by omega)
  ·have ap0:pO (.sl h5.n 0 1 2) zw:=fun b off n s e off' n' s' e'=>by cases e';have:=low _ _ _ _ e;omega
   have mp0:([(z1,w.packP G m)]:CgL).map Prod.snd=w.pcnd G m 0:=by simp [Wk.pcnd]
   have in0: ∀e∈([(z1,w.packP G m)]:CgL),Inn e.1/\ ∀b off n s,e.1= .sl b off n s->h.n+2<=b:=fun e he=>by
    rw [xZT] at he;subst he;exact ⟨nc5.inn,fun b off n s e=>by have:=nc5.lo b off n s e;omega⟩
   exact ⟨0,_,_,h7,_,rfl,(by omega),(by simp [xZY]),(by simp [xZY]),(by simp [xZY]),(by simp [xZY]),(by simp [xZY]),(by simp [xZY]),(by simp [xZY]),xZO (by omega),rw7,ap0,cr7,mp0,in0⟩
end Go.Proofs.Kn
namespace Go.Proofs.Kn
open Go Go.Ev
set_option maxRecDepth 100000
set_option maxHeartbeats 4000000
def Wk.pkd (w:Wk):Cg×Int:=
 if w.ok=true then
  match w.m.bnd with
  |none=>(([],0),7)
  |some G=>(w.packP G w.m.cells.length,0)
 else (([],0),2)
theorem ft17 (xt:Addr->Option Value):(SE xt).ft.get 17=some Tryz.f17:=by kernel_rfl
theorem res17:Tryz.f17.results.toList=[.tmp 2,.tmp 3,.tmp 4]:=by kernel_rfl
theorem end_3 {E:Env} {fn:Func} {K:CR->Hp->Prop} {tm:T AV} {nt:Nat} {h:Hp} {a b c:Tmp} (h1:fn.results.toList=[.tmp a,.tmp b,.tmp c]) (h3:K (.ret (.tup [(tm.get a).getD default,(tm.get b).getD default,(tm.get c).getD default])) h):pG E fn K .ret ⟨tm,nt,h,[]⟩:=by
 refine ⟨h,_,rfl,by rw [h1];rfl,?_⟩;have e1:(match tm.get a with|some a=>a|none=>default)=(tm.get a).getD default:=by cases tm.get a<;>rfl
 have e2:(match tm.get b with|some a=>a|none=>default)=(tm.get b).getD default:=by cases tm.get b<;>rfl
 have e3:(match tm.get c with|some a=>a|none=>default)=(tm.get c).getD default:=by cases tm.get c<;>rfl
 show K (.ret (.tup [match tm.get a with|some a=>a|none=>default,match tm.get b with|some a=>a|none=>default,match tm.get c with|some a=>a|none=>default])) h;rw [e1,e2,e3];exact h3
theorem packd_c (xt:Addr->Option Value) (h:Hp) (w:Wk) (ha:w.At xt h):
  FnA (SE xt) 17 [w.av] h (fun res h'=>Fr h.n h h'/\ ∃z,res= .ret (.tup [z,iv w.pkd.1.2,iv w.pkd.2])/\Cuts xt h' z w.pkd.1.1):=by
 refine FnA.walk (sok xt) (ft17 xt) rfl 25 rfl ?_;obtain ⟨o1,o2,o3,o4,o5⟩:=ha.ones;refine qA fun K hn hp=> ?_;simp only [sw.1,reduceIte,rL];apply hn;obtain ⟨h1,hh1,n1,s1,k1,f1⟩:=yX h (.cells w.cs 30);rw [<-hh1];clear hh1;have ha1:=ha.fr f1 (xZZ _);refine qD ?_;refine qA fun K hn hp=> ?_;simp only [sy.1,rE,reduceIte,rL,rA,s1];refine qB (sok xt) (isWork_c xt _ w ha1 fun m1 hm1=> ?_);cases e1:w.ok
 ·simp only [sy.1,rE,reduceIte,rL];apply hn;refine qC true (by simp only [sy.1,rE,reduceIte]) (fun _=> ?_) (fun hx=>by cases hx);refine qD ?_;refine qA fun K hn hp=> ?_;simp only [sy.1,rL];apply hn;refine qX (end_3 res17 ⟨f1.up (xZV hm1),.val (.slice none 0 0),?_,?_⟩)
  ·simp [xZY,Wk.pkd,e1]
  ·simp only [Wk.pkd,e1];exact Cuts.nil
 have his:=Wk.ok_is e1;simp only [sy.1,rE,reduceIte,rL];apply hn;refine qC false (by simp only [sy.1,rE,reduceIte]) (fun hx=>by cases hx) (fun _=> ?_);refine qG ?_;refine qA fun K hn hp=> ?_;simp only [sy.1,rE,reduceIte,rL,rA,s1];have ha2:=ha1.up (n:=m1) (by omega);refine qB (sok xt) (xZU (bounds_c xt (h1.up m1) w ha2 _ _ his.m) fun res h4 hres=> ?_);obtain ⟨f4,hres⟩:=hres;have n4:m1<=h4.n:=f4.lo;have f4h:Fr h.n h h4:=(f1.up (m:=m1) (by omega)).trans f4 (by simp only [xZS];omega);change match w.m.bnd with|some G=>_|none=>_ at hres
 cases hb:w.m.bnd with
 |none=>
  rw [hb] at hres;subst hres;simp only [sw.1,rE,reduceIte,rL,rA,sv.1];obtain ⟨h5,hh5,n5,s5,k5,f5⟩:=nsE h4 (.cells bJ 121) (.cells bJ 121);rw [<-hh5];apply hn;clear hh5;refine qD ?_;refine qA fun K hn hp=> ?_;simp only [sy.1,rE,reduceIte,rL];apply hn;refine qC true (by simp only [sy.1,rE,reduceIte,d70]) (fun _=> ?_) (fun hx=>by cases hx);refine qD ?_;refine qA fun K hn hp=> ?_;simp only [sy.1,rE,reduceIte,rL];apply hn;refine qX (end_3 res17 ⟨f4h.trans f5 (by omega),.val (.slice none 0 0),?_,?_⟩)
  ·simp [xZY,Wk.pkd,e1,hb]
  ·simp only [Wk.pkd,e1,hb];exact Cuts.nil
 |some G=>
  rw [hb] at hres;obtain ⟨v,M,rfl,sg,m1',m2'⟩:=hres;have onev:=sg.one;simp only [sw.1,rE,reduceIte,rL,rA,sv.1,o1,o2,o3,o4,o5,onev];obtain ⟨h5,hh5,n5,s5,k5,f5⟩:=nsE h4 (.cells bJ 121) (.cells (w.bc v) 121);rw [<-hh5];apply hn;clear hh5;have f5h:=f4h.trans f5 (by omega);have ha5:=ha.fr f5h (xZZ _);refine qD ?_;refine qA fun K hn hp=> ?_;simp only [sy.1,rE,reduceIte,rL];apply hn;refine qC false (by simp only [sy.1,rE,reduceIte]) (fun hx=>by cases hx) (fun _=> ?_);refine qG ?_;have sg5:SG h5 (h1.up m1).n M v _ _ G:=sg.keep fun k _ hk=>k5 k (by omega);have bd5:w.Bd xt h5 (h1.up m1).n M v G:=⟨ha5,sg5,by omega⟩;have pk:=pack1_c xt w his _ M v G hb w.m.cells.length (xZZ _) h5 bd5;rw [Nat.sub_self] at pk;refine qA fun K hn hp=> ?_;simp only [sy.1,rE,reduceIte,rL,rA,s5];refine qB (sok xt) (xZU pk fun res h6 hres=> ?_);obtain ⟨f6,z,rfl,nc⟩:=hres;have oz:=nc.cuts.one;have cz:=nc.cuts.cells;simp only [sw.1,rE,reduceIte,rL,rA,syp.1,oz];obtain ⟨h7,hh7,n7,s7,k7,f7⟩:=nsE h6 (.cells [.val (.slice none 0 0),iv 0] 125) (.cells [z,iv (w.packP G w.m.cells.length).2] 125);rw [<-hh7];apply hn;clear hh7;refine jR (sok xt) 5 (by kernel_rfl) fun K hn hp=> ?_;simp only [sy.1,rE,reduceIte,rL,syp.1,s7];refine hn _ _ (qE (end_3 res17 ⟨(f5h.trans f6 (by omega)).trans f7 (by have:=f6.lo;omega),z,?_,?_⟩))
  ·simp [xZY,Wk.pkd,e1,hb]
  ·simp only [Wk.pkd,e1,hb];exact nc.cuts.fr f7 (xZZ _)
end Go.Proofs.Kn
