/- MvH7: texts in a row, joined by a program. -/
import Derived.Test.YtnmfblokfponlaaGreatDoorQP
set_option linter.all false
open Nat renaming reduceEqDiff → rE, reduceLeDiff → rD, reduceAdd → rA, reduceMul → rM, reduceLT → rL
open Go.Ev.T renaming get_put → xZZ
open Nat renaming le_refl → xZY, le_of_lt → xZX, not_lt_zero → xZS
open Go.Ev.Hp renaming set_t → xZW, up_n → xZT, up_up → xZR
open Go.Ev.Fr renaming refl → xZV
open Int renaming toNat_natCast → xZU
namespace Go.Proofs.Kn
open Go Go.Ev
set_option maxRecDepth 100000
set_option maxHeartbeats 4000000
theorem ft34 (xt:Addr->Option Value):(SE xt).ft.get 34=some Tryz.f34:=by kernel_rfl
theorem res34:Tryz.f34.results.toList=[.tmp 2]:=by kernel_rfl
def Bw (F:Nat->Nat->Int×Int):Prop:= ∀r c,(0<=(F r c).1/\(F r c).1<=60)/\0<=(F r c).2/\(F r c).2<=60
theorem Bw.F0 (m:Mp):Bw m.F0:=fun r c=>by simp only [Mp.F0];split<;>simp
theorem Bw.put {F:Nat->Nat->Int×Int} (h:Bw F) {r c:Nat} {s:Int×Int} (h1:s.1<=60) (h2:0<=s.2):Bw (Th.putRow F r (Th.put (F r) c (Th.nar (F r c) s))):=fun x y=>by
 have h0:=h r c;by_cases e:x=r
 ·subst e;rw [Th.putRow_at];by_cases e:y=c
  ·subst e;rw [Th.put_at];simp only [Th.nar];omega
  ·rw [Th.put_ne _ _ e];exact h x y
 ·rw [Th.putRow_ne _ _ e];exact h x y
structure TInv (h:Hp) (m:Mp) (C:Nat) (hc:Hp) (v:AV) (M R:Nat) (F:Nat->Nat->Int×Int):Prop where
 fr:Fr h.n h hc
 b0:hc.t.get h.n=some (.cells m.cs 27)
 sg:SG hc (h.n+1) M v R C F
 le:h.n+1<=M
 hi:M<=hc.n
theorem TInv.keep {h hc hd:Hp} {m:Mp} {C:Nat} {v:AV} {M R:Nat} {F:Nat->Nat->Int×Int} (b:TInv h m C hc v M R F) {n:Nat} (f:Fr n hc hd) (hn:M<=n):TInv h m C hd v M R F:=by
 have h1:=b.le;have h2:=b.hi;have h3:=f.le;exact ⟨b.fr.trans f (by omega),by rw [f.at_ _ (by omega)];exact b.b0,b.sg.fr f hn,b.le,by omega⟩
theorem TInv.frR {h hc hd:Hp} {m:Mp} {C:Nat} {v:AV} {M R:Nat} {F G:Nat->Nat->Int×Int} (b:TInv h m C hc v M R F) (f:FrR (h.n+1) M hc hd) (hs:SG hd (h.n+1) M v R C G):TInv h m C hd v M R G:=by
 have h1:=b.le;have h2:=b.hi;have h3:=f.le;exact ⟨b.fr.trans (f.fr (by omega)) (by omega),by rw [f.at_ _ (by omega)];exact b.b0,hs,b.le,by omega⟩
def RThkR (h:Hp) (m:Mp) (R C:Nat) (res:CR) (h':Hp):Prop:= ∃v M,res= .ret v/\Fr h.n h h'/\SG h' (h.n+1) M v R C (Th.thickR m.T m.J (C - 1) m.F0 (m.gs.map gg) R (C+1))/\h.n+1<=M/\M<=h'.n
def yY (T:Int) (J:Nat->Nat->Bool) (n:Nat) (G:Th.Grid) (R k r:Nat):Th.Grid:=fun x=>if x<R then (if x<r then Th.rounds T (J x) (G x) n (k+1) else Th.rounds T (J x) (G x) n k) else G x
theorem qEZ (T:Int) (J:Nat->Nat->Bool) (n:Nat) (G:Th.Grid) (R:Nat):yY T J n G R 0 0=G:=by
 funext x;simp only [yY,xZS,if_false];split<;>rfl
theorem midR_row (T:Int) (J:Nat->Nat->Bool) (n:Nat) (G:Th.Grid) (R k r:Nat) (hr:r<R):yY T J n G R k r r=Th.rounds T (J r) (G r) n k:=by
 simp only [yY,hr,if_true,Nat.lt_irrefl,if_false]
theorem midR_next (T:Int) (J:Nat->Nat->Bool) (n:Nat) (G:Th.Grid) (R k r:Nat) (hr:r<R):Th.putRow (yY T J n G R k r) r (Th.round T (J r) (Th.rounds T (J r) (G r) n k) n)=yY T J n G R k (r+1):=by
 funext x
 by_cases e:x=r
 ·subst e;rw [Th.putRow_at];simp only [yY,hr,if_true,Nat.lt_succ_self];rfl
 ·rw [Th.putRow_ne _ _ e];have:(x<r+1)=(x<r):=by apply propext;omega
  simp only [yY,this]
theorem midR_all (T:Int) (J:Nat->Nat->Bool) (n:Nat) (G:Th.Grid) (R k:Nat):yY T J n G R k R=yY T J n G R (k+1) 0:=by
 funext x;simp only [yY,xZS,if_false]
 split<;>rfl
theorem hP (g:Th.Gg): ∀(l:List Th.Gg) (G:Th.Grid),Th.gaugesR G (l++[g])=Th.putRow (Th.gaugesR G l) g.r (Th.put (Th.gaugesR G l g.r) g.c (Th.nar (Th.gaugesR G l g.r g.c) g.span))
 |[],G=>rfl
 |x::l,G=>hP g l _
theorem le_dec (a b:Nat):decide ((a:Int)<=(b:Int))=decide (a<=b):=by simp
theorem z43:te43.zero.map AV.val=[iv 0,iv 0]:=rfl
theorem vW {t:T AO} {n:Nat} {o:AO} {os:List AO}:zI t n (o::os)=(zI t (n+1) os).put (some o) n:=rfl
theorem qD0 (xt:Addr->Option Value) (h:Hp) (m:Mp) (ha:m.At xt h) (R C:Nat) (hm:m.Is R C) (hW:m.W=C):FnA (SE xt) 34 [m.av] h (RThkR h m R C):=by
 refine FnA.walk (sok xt) (ft34 xt) rfl 178 rfl ?_;obtain ⟨o1,o2,o3,o4,o5⟩:=ha.wk.ones;have hR:=hm.hR;have hR0:=hm.r0;have hC0:=hm.c0;have hR6:=hm.r6;have hC8:=hm.c8;have hT:=hm.T;refine qA fun K hn hp=> ?_;simp only [sw.1,reduceIte,rL];apply hn;obtain ⟨h1,hh1⟩: ∃h1:Hp,h1=h.new (.cells m.cs 27):=⟨_,rfl⟩;rw [<-hh1];have nh1:h1.n=h.n+1:=by rw [hh1];rfl
 have sh1:h1.t.get h.n=some (.cells m.cs 27):=by rw [hh1];exact qY _ _
 have kh1: ∀k,k<h.n->h1.t.get k=h.t.get k:=fun k hk=>by rw [hh1];exact jA _ _ hk
 have fbh1:Fr h.n h h1:=by rw [hh1];exact (xZV (xZY _)).new _
 have fh1:=fbh1;have B0:TInv h m C h1 (.val (.slice none 0 0)) h1.n 0 m.F0:=⟨fh1,sh1,SG.nil _ _ _ _ _,by omega,xZY _⟩;refine qA fun K hn hp=> ?_;simp only [sy.1,rL];apply hn;refine qD ?_;refine qA fun K hn hp=> ?_;simp only [sy.1,rL];apply hn;refine qF fun KA A1 A2 A3 A4 A5=> ?_;refine qQ (sok xt) (fun st=> ∃(k:Nat) (v:AV) (hc:Hp) (tm:T AV),st=⟨tm,178,hc,[]⟩/\k<=R/\tm.get 1=some (.ptr h.n 0)/\tm.get 3=some (v)/\tm.get 4=some (iv k)/\TInv h m C hc v hc.n k m.F0) (fun st=>R - (match st.tm.get 4 with|some (.val (.int _ n))=>n.toNat|_=>0)) ?_ ?_
 ·rintro st ⟨k,v,hc,tm,rfl,hkA,g1,g3,g4,bi⟩;have muA:=g4;have hac:=ha.fr bi.fr (xZY _);have b0:=bi.b0;refine qD ?_;refine qA fun K hn hp=> ?_;simp only [sy.1,rE,reduceIte,rL,rA,g1,g4,b0];refine qB (sok xt) (uD xt _ m hac fun n2 hn2=> ?_);simp only [sy.1,rE,reduceIte,rL,qZ,hR];apply hn;by_cases hk:k<R
  ·refine qC true (by simp only [sy.1,rE,reduceIte,hk]) (fun _=> ?_) (fun hx=>by cases hx);refine qG ?_;refine qF fun KB B1 B2 B3 B4 B5=> ?_;refine qA fun K hn hp=> ?_;simp only [sy.1,rE,reduceIte,rL,rA,g1,b0];refine qB (sok xt) (xR xt _ m (hac.up (xZX hn2)) fun n3 hn3=> ?_);simp only [xZT] at hn3;have mk:=mk55 (hc.up n3) (C:=C) (by omega);simp only [sy.1,rE,reduceIte,rL,hW,xZR,vP,mk];apply hn;obtain ⟨hd,hhd⟩: ∃hd:Hp,hd=(hc.up n3).new (.cells (jY (fun _=>(0,0)) C) 43):=⟨_,rfl⟩;rw [<-hhd];have nd:hd.n=n3+1:=by rw [hhd];rfl
   have sd:hd.t.get n3=some (.cells (jY (fun _=>(0,0)) C) 43):=by rw [hhd];exact qY _ _
   have kd: ∀x,x≠n3->hd.t.get x=hc.t.get x:=fun x hx=>by rw [hhd,Hp.new_t,xZT,xZZ,if_neg hx];rfl
   refine qD ?_;refine qA fun K hn hp=> ?_;simp only [sy.1,rL];apply hn;refine qF fun KD D1 D2 D3 D4 D5=> ?_;refine qQ (sok xt) (fun st=> ∃(c:Nat) (he:Hp) (tm:T AV),st=⟨tm,178,he,[]⟩/\c<=C/\tm.get 1=some (.ptr h.n 0)/\tm.get 3=some (v)/\tm.get 4=some (iv k)/\tm.get 5=some (.sl n3 0 C 2)/\tm.get 6=some (iv c)/\hd.n<=he.n/\(∀x,x≠n3->he.t.get x=hc.t.get x)/\he.t.get n3=some (.cells (jY (kK m k c) C) 43)) (fun st=>C - (match st.tm.get 6 with|some (.val (.int _ n))=>n.toNat|_=>0)) ?_ ?_
   ·rintro st ⟨c,he,tm,rfl,hkD,g1,g3,g4,g5,g6,e1,e2,e3⟩;have muD:=g6;have fhe:Fr hc.n hc he:=⟨by omega,by omega,fun x hx=>e2 x (by omega)⟩;have hae:=hac.fr fhe (xZY _);have b0e:he.t.get h.n=some (.cells m.cs 27):=by rw [e2 _ (by have:=bi.le;have:=bi.hi;omega)];exact b0
    refine qD ?_;refine qA fun K hn hp=> ?_;simp only [sy.1,rE,reduceIte,rL,rA,g1,g6,b0e];refine qB (sok xt) (xR xt _ m hae fun n4 hn4=> ?_);simp only [sy.1,rE,reduceIte,rL,qZ,hW];apply hn;by_cases hc':c<C
    ·refine qC true (by simp only [sy.1,rE,reduceIte,hc']) (fun _=> ?_) (fun hx=>by cases hx);refine qG ?_;refine qF fun KE E1 E2 E3 E4 E5=> ?_;refine qA fun K hn hp=> ?_;simp only [sy.1,rE,reduceIte,rL,rA,g1,g4,g6,b0e];refine qB (sok xt) (rc_c xt _ m (hae.up (xZX hn4)) k c fun n5 hn5=> ?_);simp only [xZT] at hn5;have hrc:m.rc k c=m.cell k c:=by rw [qCP hm hk,if_pos hc']
     simp only [sy.1,rE,reduceIte,rL,xZR,hrc];apply hn;cases q:decide (m.cell k c=1)
     ·refine qH true (by simp only [sy.1,rE,reduceIte]) (fun _=> ?_) (fun hx=>by cases hx);have x3:=qAw (C:=C) (b:=n3) hc';have hlf:=zS (kK m k c) C;have p1:=xD (h:=he.up n5) (b:=n3) (off:=c*2) (x:=iv 0) (y:=iv 60) (cs:=jY (kK m k c) C) (e:=43) rfl rfl (by omega);refine reg fun K hn hp=> ?_;simp only [sy.1,rE,reduceIte,rL,g5,g6,x3,p1,e3,bd43];refine hn _ _ (E1 _ ?_);refine reg fun K hn hp=> ?_;simp only [sy.1,rE,reduceIte,rL,g6,qL hc' (show C<=9223372036854775807 by omega)];apply hn;refine ⟨⟨c+1,_,_,rfl,by omega,(by simp [xZZ,g1]),(by simp [xZZ,g3]),(by simp [xZZ,g4]),(by simp [xZZ,g5]),(by simp [xZZ]),by simp only [Hp.set_n,xZT];omega,fun x hx=> ?_,?_⟩,by simpa [xZZ,muD] using (by omega:C - (c+1)<C - c)⟩
      ·rw [xZW,xZZ,if_neg hx];exact e2 x hx
      ·rw [xZW,xZZ,if_pos rfl,yI _ hc',qCJ (of_decide_eq_false q)]
     ·refine qH false (by simp only [sy.1,rE,reduceIte]) (fun hx=>by cases hx) (fun _=> ?_);refine qU (E1 _ ?_);refine reg fun K hn hp=> ?_;simp only [sy.1,rE,reduceIte,rL,g6,qL hc' (show C<=9223372036854775807 by omega)];apply hn;refine ⟨⟨c+1,he.up n5,_,rfl,by omega,(by simp [xZZ,g1]),(by simp [xZZ,g3]),(by simp [xZZ,g4]),(by simp [xZZ,g5]),(by simp [xZZ]),by simp only [xZT];omega,e2,by rw [Hp.up_t,e3,qD4 (of_decide_eq_true q)]⟩,by simpa [xZZ,muD] using (by omega:C - (c+1)<C - c)⟩
    ·refine qC false (by simp only [sy.1,rE,reduceIte,hc']) (fun hx=>by cases hx) (fun _=> ?_);have hcC:c=C:=by omega
     refine qO (D2 _ ?_);rw [hcC] at e3;have e3:he.t.get n3=some (.cells (jY (m.F0 k) C) 43):=by rw [e3,qA1 fun x hx=>qCK hx]
     have hle:=bi.le;have hhi:=bi.hi;have bs:=bs51 (he.up n4) n3 C;refine reg fun K hn hp=> ?_;obtain ⟨h6,hh6⟩: ∃h6,h6=(he.up n4).new (.cells [.sl n3 0 C 2] 55):=⟨_,rfl⟩;have n6:h6.n=n4+1:=by rw [hh6];rfl
     have s6:h6.t.get n4=some (.cells [.sl n3 0 C 2] 55):=by rw [hh6];exact qY _ _
     have k6: ∀x,x≠n4->h6.t.get x=he.t.get x:=fun x hx=>by rw [hh6,Hp.new_t,xZT,xZZ,if_neg hx];rfl
     obtain ⟨h7,p1,p2,p3,p4,p5⟩:=SG.append (P:=Tryz.prog) (xt:=xt) (h:=h6) (N:=h.n+1) (M:=hc.n) (R:=k) (C:=C) (v:=v) (F:=m.F0) (x:= .sl n4 0 1 1) (b:=n3) (bi.sg.keep fun x _ hx=>by rw [k6 x (by omega),e2 x (by omega)]) hle (by omega) (by omega) (by omega) (by rw [k6 _ (by omega)];exact e3) (pQ s6 rfl rfl) (by omega);simp only [sy.1,rE,reduceIte,rL,g3,g5,jK,bs,<-hh6,p1];refine hn _ _ (B1 _ ?_);have B8:TInv h m C h7 (.sl h6.n 0 (k+1) 1) h7.n (k+1) m.F0:=by
      have hfr:=bi.fr;refine ⟨⟨by omega,by omega,fun x hx=> ?_⟩,?_,p2,by omega,xZY _⟩
      ·rcases hx with hx|hx
       ·rw [p4 x (by omega),k6 x (by omega),e2 x (by omega)];exact hfr.at_ x (.inl hx)
       ·rw [p5 x (by omega),k6 x (by omega),e2 x (by omega)];exact hfr.at_ x (.inr (by omega))
      ·rw [p4 _ (by omega),k6 _ (by omega),e2 _ (by omega)];exact b0
     refine reg fun K hn hp=> ?_;simp only [sy.1,rE,reduceIte,rL,g4,qL hk (show R<=9223372036854775807 by omega)];apply hn;refine ⟨⟨k+1,_,h7,_,rfl,by omega,(by simp [xZZ,g1]),(by simp [xZZ]),(by simp [xZZ]),B8⟩,by simpa [xZZ,muA] using (by omega:R - (k+1)<R - k)⟩
   ·exact ⟨0,hd,_,rfl,(by omega),(by simp [xZZ,g1]),(by simp [xZZ,g3]),(by simp [xZZ,g4]),(by simp [xZZ]),(by simp [xZZ]),xZY _,kd,by rw [qBC];exact sd⟩
  ·refine qC false (by simp only [sy.1,rE,reduceIte,hk]) (fun hx=>by cases hx) (fun _=> ?_);have hkR:k=R:=by omega
   rw [hkR] at bi;clear hkR;obtain ⟨M,hM⟩: ∃M,M=hc.n:=⟨_,rfl⟩;rw [<-hM] at bi;refine qO (A2 _ ?_);refine qD ?_;refine qA fun K hn hp=> ?_;simp only [sy.1,rL];apply hn;have hgl:=fun h':Hp=>(ha.gs).len (h':=h') bL rfl;simp only [List.length_map] at hgl;refine qF fun KG G1 G2 G3 G4 G5=> ?_;refine qQ (sok xt) (fun st=> ∃(i:Nat) (hg:Hp) (F:Nat->Nat->Int×Int) (tm:T AV),st=⟨tm,178,hg,[]⟩/\i<=m.gs.length/\tm.get 1=some (.ptr h.n 0)/\tm.get 3=some (v)/\tm.get 7=some (iv i)/\TInv h m C hg v M R F/\Bw F/\Th.gaugesR m.F0 ((m.gs.take i).map gg)=F) (fun st=>m.gs.length - (match st.tm.get 7 with|some (.val (.int _ n))=>n.toNat|_=>0)) ?_ ?_
   ·rintro st ⟨i,hg,F,tm,rfl,hkG,g1,g3,g7,bg,bw,hga⟩;have muG:=g7;have b0:=bg.b0;refine qD ?_;refine qA fun K hn hp=> ?_;simp only [sy.1,rE,reduceIte,rL,syw.1,qZ,g1,g7,b0,hgl];apply hn;by_cases hi:i<m.gs.length
    ·refine qC true (by simp only [sy.1,rE,reduceIte,hi]) (fun _=> ?_) (fun hx=>by cases hx);have hag:=ha.fr bg.fr (xZY _);obtain ⟨x,hx⟩: ∃x,m.gs[i]? =some x:=⟨_,List.getElem?_eq_getElem hi⟩;obtain ⟨y1,y2,y3,y4⟩:=hm.gs x (List.mem_of_getElem? hx);have i1:=hag.gs.idx bL rfl wU rfl (i:=i) (by simpa using hi) (k:= .i64);have i2:=hag.gs.loadA wU rfl rfl (i:=i) (c:=Kn.g4 x) (by rw [List.getElem?_map,hx];rfl);have esn:=hP (gg x) ((m.gs.take i).map gg) m.F0;rw [<-qCD gg hx,hga] at esn;obtain ⟨xr,xc,xs,xo⟩:=x;simp only [Kn.g4,List.map_cons,List.map_nil] at i2 y1 y2 y3 y4;obtain ⟨r',rfl⟩: ∃r':Nat,xr=r':=⟨xr.toNat,by omega⟩;obtain ⟨c',rfl⟩: ∃c':Nat,xc=c':=⟨xc.toNat,by omega⟩;simp only [xZU] at y1 y2;have e5:(gg ((r':Int),(c':Int),xs,xo)).span=(xs - xo,xs+xo):=rfl;have e6:(gg ((r':Int),(c':Int),xs,xo)).r=r':=xZU _;have e7:(gg ((r':Int),(c':Int),xs,xo)).c=c':=xZU _;rw [e5,e6,e7] at esn;have hr':r'<R:=by omega
     have hc':c'<C:=by have:=hm.hC r' hr';omega
     refine qG ?_;refine qF fun KH H1 H2 H3 H4 H5=> ?_;have hle:=bg.le;have hhi:=bg.hi;refine qA fun K hn hp=> ?_;simp only [sw.1,rE,reduceIte,rL,rA,al48,g1,g7,b0,i1,i2];apply hn;obtain ⟨h9,hh9⟩: ∃h9:Hp,h9=(hg.new (.cells [iv 0,iv 0,iv 0,iv 0] 48)).set hg.n (.cells [iv (r':Int),iv (c':Int),iv xs,iv xo] 48):=⟨_,rfl⟩;have nh9:h9.n=hg.n+1:=by rw [hh9];rfl
     have sh9:h9.t.get hg.n=some (.cells [iv (r':Int),iv (c':Int),iv xs,iv xo] 48):=by rw [hh9,xZW,xZZ,if_pos rfl]
     have kh9: ∀k,k<hg.n->h9.t.get k=hg.t.get k:=fun k hk=>by rw [hh9];exact zJ _ _ _ hk
     have fbh9:Fr hg.n hg h9:=by rw [hh9];exact zK _ _ _
     have fh9:=fbh9;rw [<-hh9];have bg9:=bg.keep fbh9 hhi;obtain ⟨B,b,rws,z1,z2,z3,z4,z5,z6,z7,z8,z9,hset⟩:=bg9.sg.at_ hr';have z10:=qAw (C:=C) (b:=b) hc';have z11:=pK (f:=F r') hc';refine seq_regDA (sok xt) 9 (by kernel_rfl) fun K hn hp=> ?_;simp only [sw.1,rE,reduceIte,rL,rA,g3,sh9,z1,z2,z3,z4,z10,z11];apply hn;obtain ⟨h10,hh10⟩: ∃h10:Hp,h10=(h9.new (.cells [iv 0,iv 0] 43)).set h9.n (.cells [iv (F r' c').1,iv (F r' c').2] 43):=⟨_,rfl⟩;have nh10:h10.n=h9.n+1:=by rw [hh10];rfl
     have sh10:h10.t.get h9.n=some (.cells [iv (F r' c').1,iv (F r' c').2] 43):=by rw [hh10,xZW,xZZ,if_pos rfl]
     have kh10: ∀k,k<h9.n->h10.t.get k=h9.t.get k:=fun k hk=>by rw [hh10];exact zJ _ _ _ hk
     have fbh10:Fr h9.n h9 h10:=by rw [hh10];exact zK _ _ _
     have fh10:Fr hg.n hg h10:=fh9.trans fbh10 (by omega);rw [<-hh10];have b10:=bg9.keep fbh10 bg9.hi;obtain ⟨B,b,rws,z1,z2,z3,z4,z5,z6,z7,z8,z9,hset⟩:=b10.sg.at_ hr';have z10:=qAw (C:=C) (b:=b) hc';have s9:h10.t.get hg.n=some (.cells [iv (r':Int),iv (c':Int),iv xs,iv xo] 48):=by rw [kh10 _ (by omega)];exact sh9
     have w1:IntKind.i64.wrap (xs - xo)=xs - xo:=qK _ (by omega) (by omega);have w2:IntKind.i64.wrap (xs+xo)=xs+xo:=qK _ (by omega) (by omega);have hlf:=zS (F r') C;obtain ⟨A1,hA1⟩: ∃A1,A1=max (F r' c').1 (xs - xo):=⟨_,rfl⟩;obtain ⟨A2,hA2⟩: ∃A2,A2=min (F r' c').2 (xs+xo):=⟨_,rfl⟩;have p1:=xD (h:=h10) (b:=b) (off:=c'*2) (x:=iv A1) (y:=iv A2) (cs:=jY (F r') C) (e:=43) rfl rfl (by omega);refine regD (sok xt) 25 (by kernel_rfl) fun K hn hp=> ?_;simp only [sy.1,rE,reduceIte,rL,g3,sh10,s9,z1,z2,z3,z4,z10,w1,w2,bd43,<-hA1,<-hA2,p1];refine hn _ _ (H1 _ ?_);have hnar:Th.nar (F r' c') (xs - xo,xs+xo)=(A1,A2):=by rw [hA1,hA2];rfl
     have fset:FrR (h.n+1) M h10 (h10.set b (.cells (((jY (F r') C).set (c'*2) (iv A1)).set (c'*2+1) (iv A2)) 43)):=(FrR.refl h10).set z5 z6 b10.hi _;have B8:=b10.frR fset (by rw [yI _ hc'];exact hset _);have bw':=bw.put (r:=r') (c:=c') (s:=(xs - xo,xs+xo)) (by simp only;omega) (by simp only;omega);rw [hnar] at bw' esn;refine reg fun K hn hp=> ?_;simp only [sy.1,rE,reduceIte,rL,g7,qL hi ha.lg];apply hn;refine ⟨⟨i+1,_,_,_,rfl,by omega,(by simp [xZZ,g1]),(by simp [xZZ,g3]),(by simp [xZZ]),B8,bw',esn⟩,by simpa [xZZ,muG] using (by omega:m.gs.length - (i+1)<m.gs.length - i)⟩
    ·refine qC false (by simp only [sy.1,rE,reduceIte,hi]) (fun hx=>by cases hx) (fun _=> ?_);have hiN:i=m.gs.length:=by omega
     rw [hiN,List.take_length] at hga;clear hiN;refine qO (G2 _ ?_);refine qD ?_;refine qA fun K hn hp=> ?_;simp only [sy.1,rL];apply hn;obtain ⟨G0,hG0⟩: ∃G0,G0=F:=⟨_,rfl⟩;have hs0:F=yY m.T m.J (C - 1) G0 R 0 0:=by rw [qEZ,hG0]
     rw [hs0] at bg bw;refine qF fun KI I1 I2 I3 I4 I5=> ?_;refine qQ (sok xt) (fun st=> ∃(k:Nat) (hk:Hp) (tm:T AV),st=⟨tm,178,hk,[]⟩/\k<=(C+1)/\tm.get 1=some (.ptr h.n 0)/\tm.get 3=some (v)/\tm.get 10=some (iv k)/\TInv h m C hk v M R (yY m.T m.J (C - 1) G0 R k 0)/\Bw (yY m.T m.J (C - 1) G0 R k 0)) (fun st=>(C+1) - (match st.tm.get 10 with|some (.val (.int _ n))=>n.toNat|_=>0)) ?_ ?_
     ·rintro st ⟨k,hk,tm,rfl,hkI,g1,g3,g10,bk,bwk⟩;have muI:=g10;have b0:=bk.b0;have hak:=ha.fr bk.fr (xZY _);refine qD ?_;refine qA fun K hn hp=> ?_;simp only [sy.1,rE,reduceIte,rL,rA,g1,g10,b0];refine qB (sok xt) (xR xt _ m hak fun n4 hn4=> ?_);simp only [sy.1,rE,reduceIte,rL,hW,le_dec];apply hn;by_cases hk:k<C+1
      ·refine qC true (by simp only [sy.1,rE,reduceIte,decide_eq_true (show k<=C by omega)]) (fun _=> ?_) (fun hx=>by cases hx);refine qG ?_;refine qF fun KJ J1 J2 J3 J4 J5=> ?_;refine qA fun K hn hp=> ?_;simp only [sy.1,rL];apply hn;refine jO fun KL L1 L2 L3 L4 L5=> ?_;refine qQ (sok xt) (fun st=> ∃(r:Nat) (hr:Hp) (tm:T AV),st=⟨tm,178,hr,[]⟩/\r<=R/\tm.get 1=some (.ptr h.n 0)/\tm.get 3=some (v)/\tm.get 10=some (iv k)/\tm.get 11=some (iv r)/\TInv h m C hr v M R (yY m.T m.J (C - 1) G0 R k r)/\Bw (yY m.T m.J (C - 1) G0 R k r)) (fun st=>R - (match st.tm.get 11 with|some (.val (.int _ n))=>n.toNat|_=>0)) ?_ ?_
       ·rintro st ⟨r,hr,tm,rfl,hkL,g1,g3,g10,g11,br,bwr⟩;have muL:=g11;have b0:=br.b0;have har:=ha.fr br.fr (xZY _);refine qD ?_;refine qA fun K hn hp=> ?_;simp only [sy.1,rE,reduceIte,rL,rA,g1,g11,b0];refine qB (sok xt) (uD xt _ m har fun n5 hn5=> ?_);simp only [sy.1,rE,reduceIte,rL,qZ,hR];apply hn;by_cases hr':r<R
        ·refine qC true (by simp only [sy.1,rE,reduceIte,hr']) (fun _=> ?_) (fun hx=>by cases hx);refine qG ?_;refine qF fun KN N1 N2 N3 N4 N5=> ?_;refine qA fun K hn hp=> ?_;simp only [sy.1,rL];apply hn;have hrow0:Th.putRow (yY m.T m.J (C - 1) G0 R k r) r (Th.round m.T (m.J r) (Th.rounds m.T (m.J r) (G0 r) (C - 1) k) 0)=yY m.T m.J (C - 1) G0 R k r:=by
          rw [<-midR_row m.T m.J (C - 1) G0 R k r hr'];exact wZ _ _
         refine jO fun KP P1 P2 P3 P4 P5=> ?_;refine qQ (sok xt) (fun st=> ∃(c:Nat) (hpp:Hp) (f:Nat->Int×Int) (tm:T AV),st=⟨tm,178,hpp,[]⟩/\c<=(C - 1)/\tm.get 1=some (.ptr h.n 0)/\tm.get 3=some (v)/\tm.get 10=some (iv k)/\tm.get 11=some (iv r)/\tm.get 12=some (iv c)/\TInv h m C hpp v M R (Th.putRow (yY m.T m.J (C - 1) G0 R k r) r f)/\Bw (Th.putRow (yY m.T m.J (C - 1) G0 R k r) r f)/\Th.round m.T (m.J r) (Th.rounds m.T (m.J r) (G0 r) (C - 1) k) c=f) (fun st=>(C - 1) - (match st.tm.get 12 with|some (.val (.int _ n))=>n.toNat|_=>0)) ?_ ?_
         ·rintro st ⟨c,hpp,f,tm,rfl,hkP,g1,g3,g10,g11,g12,bp,bwp,hf⟩;have muP:=g12;have b0:=bp.b0;have hap:=ha.fr bp.fr (xZY _);have wc:=qL (k:=c) (n:=C) (by omega) (by omega);have hcd:decide ((((c+1:Nat)):Int)<(C:Int))=decide (c<C - 1):=by
           by_cases q:c<C - 1
           ·rw [decide_eq_true q];exact decide_eq_true (by omega)
           ·rw [decide_eq_false q];exact decide_eq_false (by omega)
          refine qD ?_;refine qA fun K hn hp=> ?_;simp only [sy.1,rE,reduceIte,rL,rA,g1,g12,b0,wc];refine qB (sok xt) (xR xt _ m hap fun n6 hn6=> ?_);simp only [sy.1,rE,reduceIte,rL,hW,hcd];apply hn;by_cases hc':c<C - 1
          ·refine qC true (by simp only [sy.1,rE,reduceIte,hc']) (fun _=> ?_) (fun hx=>by cases hx);refine qG ?_;refine qF fun KS S1 S2 S3 S4 S5=> ?_;have hrc1:m.rc r c=m.cell r c:=by rw [qCP hm hr',if_pos (by omega)]
           have hrc2:m.rc r (c+1:Nat)=m.cell r (c+1):=by rw [qCP hm hr',if_pos (by omega)]
           have hpr:=show Th.round m.T (m.J r) (Th.rounds m.T (m.J r) (G0 r) (C - 1) k) (c+1)=Th.pair m.T (m.J r) f c by rw [<-hf];rfl
           refine qD ?_;refine qA fun K hn hp=> ?_;simp only [sy.1,rE,reduceIte,rL,rA,g1,g11,g12,b0];refine qB (sok xt) (rc_c xt _ m (hap.up (xZX hn6)) r c fun n7 hn7=> ?_);simp only [xZT] at hn7;have bp7:=bp.keep ((xZV (xZY _)).up (show hpp.n<=n7 by omega)) bp.hi;have same:m.J r c=false-> ∀n8,n7<=n8-> ∀tm:T AV,tm.get 1=some (.ptr h.n 0)->tm.get 3=some v->tm.get 10=some (iv k)->tm.get 11=some (iv r)->tm.get 12=some (iv c)->KS (.exit 11) ⟨tm,178,hpp.up n8,[]⟩:=by
            intro hJ n8 hn8 tm g1 g3 g10 g11 g12;have bp8:=bp.keep ((xZV (xZY _)).up (show hpp.n<=n8 by omega)) bp.hi;refine S2 _ ?_;refine reg fun K hn hp=> ?_;simp only [sy.1,rE,reduceIte,rL,g12,wc];apply hn;refine ⟨⟨c+1,_,f,_,rfl,by omega,(by simp [xZZ,g1]),(by simp [xZZ,g3]),(by simp [xZZ,g10]),(by simp [xZZ,g11]),(by simp [xZZ]),bp8,bwp,by rw [hpr];simp only [Th.pair,hJ,Bool.false_eq_true,if_false]⟩,by simpa [xZZ,muP] using (by omega:(C - 1) - (c+1)<(C - 1) - c)⟩
           cases q1:decide (m.cell r c=1)
           rotate_left
           ·simp only [sy.1,rE,reduceIte,rL,hrc1,q1,xZR];apply hn;refine qC true (by simp only [sy.1,rE,reduceIte]) (fun _=> ?_) (fun hx=>by cases hx);refine qO (same (by simp only [Mp.J,q1];rfl) n7 (xZY _) _ ?_ ?_ ?_ ?_ ?_);all_goals simp [xZZ,g1,g3,g10,g11,g12]
           simp only [sy.1,rE,reduceIte,rL,rA,g1,g11,g12,hrc1,q1,xZR,b0,wc];refine qB (sok xt) (rc_c xt (hpp.up n7) m (hap.up (by omega)) r (c+1:Nat) fun n8 hn8=> ?_);simp only [xZT] at hn8;cases q2:decide (m.cell r (c+1)=1)
           rotate_left
           ·simp only [sy.1,rE,reduceIte,rL,hrc2,q2,xZR];apply hn;refine qC true (by simp only [sy.1,rE,reduceIte]) (fun _=> ?_) (fun hx=>by cases hx);refine qO (same (by simp only [Mp.J,q1,q2];rfl) n8 (by omega) _ ?_ ?_ ?_ ?_ ?_);all_goals simp [xZZ,g1,g3,g10,g11,g12]
           simp only [sy.1,rE,reduceIte,rL,hrc2,q2,xZR];apply hn;refine qC false (by simp only [sy.1,rE,reduceIte]) (fun hx=>by cases hx) (fun _=> ?_);refine qG ?_;have hJ:m.J r c=true:=by simp only [Mp.J,q1,q2];rfl
           obtain ⟨hq,hhq⟩: ∃hq,hq=hpp.up n8:=⟨_,rfl⟩;rw [<-hhq];have bq:TInv h m C hq v M R (Th.putRow (yY m.T m.J (C - 1) G0 R k r) r f):=by
            rw [hhq];exact bp.keep ((xZV (xZY _)).up (show hpp.n<=n8 by omega)) bp.hi
           have hqM:=bq.hi;obtain ⟨B,b,rws,z1,z2,z3,z4,z5,z6,z7,z8,z9,_⟩:=bq.sg.at_ hr';rw [Th.putRow_at] at z4;have z10:=qAw (C:=C) (b:=b) (show c<C by omega);have z11:=pK (f:=f) (show c<C by omega);have z12:=qAw (C:=C) (b:=b) (show c+1<C by omega);have z13:=pK (f:=f) (show c+1<C by omega);refine zG (sok xt) 15 2 1 [(10,1),(14,1)] (by kernel_rfl) fun K hn hp=> ?_;obtain ⟨hA,hhA⟩: ∃hA:Hp,hA={t:=zI hq.t hq.n [.cells [iv 0,iv 0] 43,.cells [iv 0,iv 0] 43],n:=hq.n+2}:=⟨_,rfl⟩;have a1:zI hq.t hq.n [.cells [iv 0,iv 0] 43,.cells [iv 0,iv 0] 43]=hA.t:=by rw [hhA]
           have a2:({t:=hA.t,n:=hq.n+2}:Hp)=hA:=by rw [hhA]
           have a3:hA.t.get hq.n=some (.cells [iv 0,iv 0] 43):=by rw [<-a1,vW,xZZ,if_pos rfl]
           have a4:hA.t.get (hq.n+1)=some (.cells [iv 0,iv 0] 43):=by rw [<-a1,vW,xZZ,if_neg (by omega),vW,xZZ,if_pos rfl]
           have a5: ∀x,x≠hq.n->x≠hq.n+1->hA.t.get x=hq.t.get x:=fun x h1 h2=>by rw [<-a1,vW,xZZ,if_neg h1,vW,xZZ,if_neg h2];rfl
           have a6:hA.n=hq.n+2:=by rw [hhA]
           have y2:=(a5 B (by omega) (by omega)).trans z2;have y4:=(a5 b (by omega) (by omega)).trans z4;have n1: ¬hq.n+1=hq.n:=by omega
           have n2: ¬b=hq.n:=by omega
           have n3: ¬B=hq.n:=by omega
           simp only [sw.1,rE,reduceIte,rL,rA,syw.1,g3,g11,g12,z1,z2,z3,z4,z10,z11,z12,z13,wc,qER (E:=SE xt) tg43,z43,a1,a2,a3,a4,y2,y4,n1,n2,n3];apply hn;obtain ⟨h12,hh12⟩: ∃h12:Hp,h12=(hA.set hq.n (.cells [iv (f c).1,iv (f c).2] 43)).set (hq.n+1) (.cells [iv (f (c+1)).1,iv (f (c+1)).2] 43):=⟨_,rfl⟩;rw [<-hh12];have s12:h12.t.get hq.n=some (.cells [iv (f c).1,iv (f c).2] 43):=by rw [hh12,xZW,xZZ,if_neg (by omega),xZW,xZZ,if_pos rfl]
           have s12':h12.t.get (hq.n+1)=some (.cells [iv (f (c+1)).1,iv (f (c+1)).2] 43):=by rw [hh12,xZW,xZZ,if_pos rfl]
           have n12:h12.n=hq.n+2:=by rw [hh12];exact a6
           have f12:Fr hq.n hq h12:=⟨by omega,by omega,fun x hx=>by
            rw [hh12,xZW,xZZ,if_neg (by omega),xZW,xZZ,if_neg (by omega)];exact a5 x (by omega) (by omega)⟩
           have b12:=bq.keep f12 hqM;have hW12:=bwp r c;have hW12':=bwp r (c+1);rw [Th.putRow_at] at hW12 hW12';have b0':=b12.b0;obtain ⟨B,b,rws,z1,z2,z3,z4,z5,z6,z7,z8,z9,hset⟩:=b12.sg.at_ hr';rw [Th.putRow_at] at z4;simp only [vO] at hset;have z10:=qAw (C:=C) (b:=b) (show c<C by omega);have hlf:=zS f C;have w1:IntKind.i64.wrap ((f (c+1)).2+m.T)=(f (c+1)).2+m.T:=qK _ (by omega) (by omega);have w2:IntKind.i64.wrap ((f c).1 - m.T)=(f c).1 - m.T:=qK _ (by omega) (by omega);obtain ⟨A1,hA1⟩: ∃A1,A1=max (f c).1 (f (c+1)).1:=⟨_,rfl⟩;obtain ⟨A2,hA2⟩: ∃A2,A2=min (f c).2 ((f (c+1)).2+m.T):=⟨_,rfl⟩;obtain ⟨A3,hA3⟩: ∃A3,A3=max (f (c+1)).1 ((f c).1 - m.T):=⟨_,rfl⟩;obtain ⟨A4,hA4⟩: ∃A4,A4=min (f (c+1)).2 (f c).2:=⟨_,rfl⟩;have p1:=xD (h:=h12) (b:=b) (off:=c*2) (x:=iv A1) (y:=iv A2) (cs:=jY f C) (e:=43) rfl rfl (by omega);refine jR (sok xt) 20 (by kernel_rfl) fun K hn hp=> ?_;simp only [sy.1,rE,reduceIte,rL,g1,g3,g11,g12,b0',s12,s12',z1,z2,z3,z4,z10,w1,bd43,<-hA1,<-hA2,p1];apply hn;obtain ⟨h13,hh13⟩: ∃h13:Hp,h13=h12.set b (.cells (((jY f C).set (c*2) (iv A1)).set (c*2+1) (iv A2)) 43):=⟨_,rfl⟩;rw [<-hh13];have hfr13:FrR (h.n+1) M h12 h13:=by rw [hh13];exact (FrR.refl h12).set z5 z6 b12.hi _
           have b13:TInv h m C h13 v M R (Th.putRow (yY m.T m.J (C - 1) G0 R k r) r (Th.put f c (A1,A2))):=b12.frR hfr13 (by rw [hh13,yI _ (show c<C by omega)];exact hset _);have n13:h13.n=h12.n:=by rw [hh13];rfl
           have t12:h13.t.get hq.n=some (.cells [iv (f c).1,iv (f c).2] 43):=by rw [hfr13.at_ _ (by omega)];exact s12
           have t12':h13.t.get (hq.n+1)=some (.cells [iv (f (c+1)).1,iv (f (c+1)).2] 43):=by rw [hfr13.at_ _ (by omega)];exact s12'
           have b0'':=b13.b0;obtain ⟨B,b,rws,z1,z2,z3,z4,z5,z6,z7,z8,z9,hset⟩:=b13.sg.at_ hr';rw [Th.putRow_at] at z4;simp only [vO] at hset;have z10:=qAw (C:=C) (b:=b) (show c+1<C by omega);have hlf:=zS (Th.put f c (A1,A2)) C;have p2:=xD (h:=h13) (b:=b) (off:=(c+1)*2) (x:=iv A3) (y:=iv A4) (cs:=jY (Th.put f c (A1,A2)) C) (e:=43) rfl rfl (by omega);refine regD (sok xt) 21 (by kernel_rfl) fun K hn hp=> ?_;simp only [sy.1,rE,reduceIte,rL,g1,g3,g11,g12,b0'',t12,t12',z1,z2,z3,z4,z10,w2,wc,bd43,<-hA3,<-hA4,p2];refine hn _ _ (S1 _ ?_);have fr14:FrR (h.n+1) M h13 (h13.set b (.cells (((jY (Th.put f c (A1,A2)) C).set ((c+1)*2) (iv A3)).set ((c+1)*2+1) (iv A4)) 43)):=(FrR.refl h13).set z5 z6 b13.hi _;have b14:=b13.frR fr14 (by rw [yI _ (show c+1<C by omega)];exact hset _);have hpair:Th.put (Th.put f c (A1,A2)) (c+1) (A3,A4)=Th.pair m.T (m.J r) f c:=by
            simp only [Th.pair,hJ,if_true,Th.nar,Th.toL,Th.toR,<-hA1,<-hA2,<-hA3,<-hA4]
           have hbw:Bw (Th.putRow (yY m.T m.J (C - 1) G0 R k r) r (Th.put (Th.put f c (A1,A2)) (c+1) (A3,A4))):=fun x y=>by
            by_cases e:x=r
            ·subst e;rw [Th.putRow_at];by_cases e1:y=c+1
             ·subst e1;rw [Th.put_at];simp only;omega
             ·rw [Th.put_ne _ _ e1];by_cases e2:y=c
              ·subst e2;rw [Th.put_at];simp only;omega
              ·rw [Th.put_ne _ _ e2];have:=bwp x y
               rwa [Th.putRow_at] at this
            ·rw [Th.putRow_ne _ _ e];have:=bwp x y
             rwa [Th.putRow_ne _ _ e] at this
           refine reg fun K hn hp=> ?_;simp only [sy.1,rE,reduceIte,rL,g12,wc];apply hn;refine ⟨⟨c+1,_,_,_,rfl,by omega,(by simp [xZZ,g1]),(by simp [xZZ,g3]),(by simp [xZZ,g10]),(by simp [xZZ,g11]),(by simp [xZZ]),b14,hbw,by rw [hpr,hpair]⟩,by simpa [xZZ,muP] using (by omega:(C - 1) - (c+1)<(C - 1) - c)⟩
          ·refine qC false (by simp only [sy.1,rE,reduceIte,hc']) (fun hx=>by cases hx) (fun _=> ?_);have hcC:c=C - 1:=by omega
           refine qO (P2 _ (N1 _ ?_));have hnx:=midR_next m.T m.J (C - 1) G0 R k r hr';rw [hcC] at hf;rw [hf] at hnx;rw [hnx] at bp bwp;refine reg fun K hn hp=> ?_;simp only [sy.1,rE,reduceIte,rL,g11,qL hr' (show R<=9223372036854775807 by omega)];apply hn;refine ⟨⟨r+1,_,_,rfl,by omega,(by simp [xZZ,g1]),(by simp [xZZ,g3]),(by simp [xZZ,g10]),(by simp [xZZ]),bp.keep ((xZV (xZY _)).up (xZX hn6)) bp.hi,bwp⟩,by simpa [xZZ,muL] using (by omega:R - (r+1)<R - r)⟩
         ·exact ⟨0,_,_,_,rfl,(by omega),(by simp [xZZ,g1]),(by simp [xZZ,g3]),(by simp [xZZ,g10]),(by simp [xZZ,g11]),(by simp [xZZ]),by rw [hrow0];exact br.keep ((xZV (xZY _)).up (xZX hn5)) br.hi,by rw [hrow0];exact bwr,rfl⟩
        ·refine qC false (by simp only [sy.1,rE,reduceIte,hr']) (fun hx=>by cases hx) (fun _=> ?_);have hrR:r=R:=by omega
         rw [hrR,midR_all] at br bwr;refine qO (L2 _ (J1 _ ?_));refine reg fun K hn hp=> ?_;simp only [sy.1,rE,reduceIte,rL,g10,qL hk (show C+1<=9223372036854775807 by omega)];apply hn;refine ⟨⟨k+1,_,_,rfl,by omega,(by simp [xZZ,g1]),(by simp [xZZ,g3]),(by simp [xZZ]),br.keep ((xZV (xZY _)).up (xZX hn5)) br.hi,bwr⟩,by simpa [xZZ,muI] using (by omega:(C+1) - (k+1)<(C+1) - k)⟩
       ·exact ⟨0,_,_,rfl,(by omega),(by simp [xZZ,g1]),(by simp [xZZ,g3]),(by simp [xZZ,g10]),(by simp [xZZ]),bk.keep ((xZV (xZY _)).up (xZX hn4)) bk.hi,bwk⟩
      ·refine qC false (by simp only [sy.1,rE,reduceIte,decide_eq_false (show¬k<=C by omega)]) (fun hx=>by cases hx) (fun _=> ?_);have hkC:k=C+1:=by omega
       rw [hkC] at bk;refine qO (I2 _ ?_);refine qA fun K hn hp=> ?_;simp only [sy.1,rE,reduceIte,rL,g3];apply hn;have hth:yY m.T m.J (C - 1) G0 R (C+1) 0=Th.thickR m.T m.J (C - 1) m.F0 (m.gs.map gg) R (C+1):=by
        funext x
        simp only [yY,Th.thickR,xZS,if_false,hG0,<-hga]
       rw [hth] at bk;have bk':=bk.keep ((xZV (xZY _)).up (xZX hn4)) bk.hi;refine qE (qN res34 ⟨v,M,?_,bk'.fr,bk'.sg,bk'.le,bk'.hi⟩);simp [xZZ]
     ·exact ⟨0,_,_,rfl,(by omega),(by simp [xZZ,g1]),(by simp [xZZ,g3]),(by simp [xZZ]),bg,bw⟩
   ·exact ⟨0,_,m.F0,_,rfl,(by omega),(by simp [xZZ,g1]),(by simp [xZZ,g3]),(by simp [xZZ]),bi.keep ((xZV (xZY _)).up (xZX hn2)) bi.hi,Bw.F0 _,rfl⟩
 ·exact ⟨0,_,h1,_,rfl,(by omega),(by simp [xZZ]),(by simp [xZZ]),(by simp [xZZ]),B0⟩
end Go.Proofs.Kn
