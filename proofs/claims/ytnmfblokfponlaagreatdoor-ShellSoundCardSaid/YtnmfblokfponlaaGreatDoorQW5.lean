/- MvW12, MvW16: texts in a row, joined by a program. -/
import Derived.Test.YtnmfblokfponlaaGreatDoorQW3
import Derived.Test.YtnmfblokfponlaaGreatDoorQY9
import Derived.Test.YtnmfblokfponlaaGreatDoorQW4
set_option linter.all false
open Nat renaming reduceEqDiff → rE, reduceLeDiff → rD, reduceAdd → rA, reduceMul → rM, reduceLT → rL
open Go.Ev.T renaming get_put → xZZ
open Nat renaming le_refl → xZY, le_of_lt → xZW
open Go.Ev.Hp renaming set_t → xZX, up_n → xZV, up_up → xZU
open List renaming mem_of_getElem? → xZT, length_take → xZR
open Bool renaming and_eq_true_iff → xZS, and_eq_true → xZQ
namespace Go.Proofs.Kn
open Go Go.Ev
set_option maxRecDepth 100000
set_option maxHeartbeats 4000000
theorem al75n (h:Hp):jI Kn.tb h 75=some (.ptr h.n 0,h.new (.cells (([(.slice none 0 0)]:List Value).map .val) 75)):=kJ qAJ rfl
theorem ft43 (xt:Addr->Option Value):(SE xt).ft.get 43=some Tryz.f43:=by kernel_rfl
theorem res43:Tryz.f43.results.toList=[.tmp 4,.tmp 5]:=by kernel_rfl
theorem ft102 (xt:Addr->Option Value):(SE xt).ft.get 102=some Tryz.f102:=by kernel_rfl
theorem sound_c (xt:Addr->Option Value) (h:Hp) (w:Wk) (ha:w.At xt h) (v0:AV) (ls:List (Int×Int×Int)) (hl:Cuts xt h v0 ls) (hl50:ls.length<=1000000)
  {K:CR->Hp->Prop} (hk: ∀m,h.n<m->K (.ret (.tup [iv (w.psound ls).1,iv (w.psound ls).2])) (h.up m)):FnA (SE xt) 43 [w.av,v0] h K:=by
 refine FnA.calm ?_ hk;clear hk K;refine FnA.walk (sok xt) (ft43 xt) rfl 75 rfl ?_;obtain ⟨o1,o2,o3,o4,o5⟩:=ha.ones;have onev0:=hl.one;have hlen:=hl.len;refine qA fun K hn hp=> ?_;simp only [sw.1,rE,reduceIte,rL];apply hn;clear hn hp K;obtain ⟨h2,hh2⟩: ∃h2:Hp,h2=h.new (.cells w.cs 30):=⟨_,rfl⟩;rw [<-hh2];have nh2:h2.n=h.n+1:=by rw [hh2];rfl
 have sh2:h2.t.get h.n=some (.cells w.cs 30):=by rw [hh2];exact qX _ _
 have kh2: ∀k,k<h.n->h2.t.get k=h.t.get k:=fun k hk=>by rw [hh2];exact qW _ _ hk
 have fbh2:Fr h.n h h2:=by rw [hh2];exact (Fr.refl (xZY _)).new _
 have fh2:=fbh2;have ha2:=ha.fr fh2 (xZY _);have hl2:=hl.fr fh2 (xZY _);refine qE ?_;refine qA fun K hn hp=> ?_;simp only [sy.1,rE,reduceIte,rL,rA,sh2];refine qB (sok xt) (gN xt _ w ha2 fun m1 hm1=> ?_);cases e1:w.ok
 ·simp only [sy.1,rE,reduceIte,rL];apply hn;clear hn hp K;refine qC true (by simp only [sy.1,rE,reduceIte]) (fun _=> ?_) (fun hx=>by cases hx);refine qE ?_;refine qA fun K hn hp=> ?_;simp only [sy.1,rL];apply hn;clear hn hp K;refine qU (wA res43 ⟨?_,fh2.up (by omega)⟩);simp [xZZ,Wk.psound,e1]
 have his:=Wk.ok_is e1;simp only [sy.1,rE,reduceIte,rL,rA,sh2];refine qB (sok xt) (qCQ xt _ w (ha2.up (xZW hm1)) his v0 ls (hl2.up (xZW hm1)) fun m3 hm3=> ?_);simp only [xZV] at hm3;cases e2:w.cut ls
 ·simp only [sy.1,rE,reduceIte,rL,xZU];apply hn;clear hn hp K;refine qC true (by simp only [sy.1,rE,reduceIte]) (fun _=> ?_) (fun hx=>by cases hx);refine qE ?_;refine qA fun K hn hp=> ?_;simp only [sy.1,rL];apply hn;clear hn hp K;refine qU (wA res43 ⟨?_,fh2.up (by omega)⟩);simp [xZZ,Wk.psound,e1,e2]
 simp only [sy.1,rE,reduceIte,rL,xZU];apply hn;clear hn hp K;refine qC false (by simp only [sy.1,rE,reduceIte]) (fun hx=>by cases hx) (fun _=> ?_);refine qI ?_;have hblk:=wP his e2;have hr6:=his.m.r6;have hc8:=his.m.c8;refine qA fun K hn hp=> ?_;simp only [sy.1,rE,reduceIte,rL,rA,sh2];have ha3u:=ha2.up (n:=m3) (by omega);refine qB (sok xt) (FnA.mono (bH xt (h2.up m3) w ha3u _ _ his.m) fun res h4 hres=> ?_);obtain ⟨f4,hres⟩:=hres;have low4: ∀k,k<m3->h4.t.get k=h2.t.get k:=fun k hk=>f4.at_ k (.inl hk);have v1:=(low4 h.n (by omega)).trans sh2;have n4:m3<=h4.n:=f4.lo;have f4h:Fr h.n h h4:=(fh2.up (m:=m3) (by omega)).trans f4 (by simp only [xZV];omega);change match w.m.bnd with|some G=>_|none=>_ at hres
 cases hb:w.m.bnd with
 |none=>
  rw [hb] at hres;subst hres;simp only [sw.1,rE,reduceIte,rL,rA,sv.1];obtain ⟨h5,hh5,n5,s5,k5,f5⟩:=nsE h4 (.cells yL 121) (.cells yL 121);rw [<-hh5];apply hn;clear hn hp K hh5;refine qE ?_;refine qA fun K hn hp=> ?_;simp only [sy.1,rE,reduceIte,rL];apply hn;clear hn hp K;refine qC true (by simp only [sy.1,rE,reduceIte,d70]) (fun _=> ?_) (fun hx=>by cases hx);refine qE ?_;refine qA fun K hn hp=> ?_;simp only [sy.1,rE,reduceIte,rL];apply hn;clear hn hp K;refine qU (wA res43 ⟨?_,f4h.trans f5 (by omega)⟩);simp [xZZ,Wk.psound,e1,e2,hb]
 |some G=>
  rw [hb] at hres;obtain ⟨v,M,rfl,sg,m1',m2'⟩:=hres;have onev:=sg.one;simp only [sw.1,rE,reduceIte,rL,rA,sv.1,o1,o2,o3,o4,o5,onev];obtain ⟨h5,hh5,n5,s5,k5,f5⟩:=nsE h4 (.cells yL 121) (.cells (w.bc v) 121);rw [<-hh5];apply hn;clear hn hp K hh5;have f5h:=f4h.trans f5 (by omega);have y1:=(k5 h.n (by omega)).trans v1;have hpos:=bI his.m hb;have sg5:SG h5 (h2.up m3).n M v _ _ G:=sg.keep fun k _ hk=>k5 k (by omega);refine qE ?_;refine qA fun K hn hp=> ?_;simp only [sy.1,rE,reduceIte,rL];apply hn;clear hn hp K;refine qC false (by simp only [sy.1,rE,reduceIte]) (fun hx=>by cases hx) (fun _=> ?_);refine qI ?_;obtain ⟨hB,hhB,nB,sB,kB,fB⟩:=uO h5 (.cells [qAP] 75);refine qA fun K hn hp=> ?_;simp only [sy.1,rL,al75n];rw [<-hhB];apply hn;clear hn hp K hhB;obtain ⟨p,hp⟩: ∃p,p=h5.n:=⟨_,rfl⟩;rw [<-hp] at nB sB ⊢;have hp1:h.n<p:=by omega
  have hp2:h4.n<p:=by omega
  have hpB:p<hB.n:=by omega
  have hnB:h.n<=hB.n:=by omega
  have fBh:Fr h.n h hB:=f5h.trans fB (by omega);have x1:=(kB h.n (by omega)).trans y1;have x6:=(kB h4.n (by omega)).trans s5;have sgB:SG hB (h2.up m3).n M v _ _ G:=sg5.keep fun k _ hk=>kB k (by omega);have hMB:M<=h4.n:=by omega
  have S0:SInv h hB p hB [] qAP []:=⟨fBh,xZY _,fun _ _ _=>rfl,sB,.inl ⟨rfl,rfl,rfl⟩,List.nodup_nil,(fun d hd=>by cases hd),fun _=>rfl⟩;have lt7:=hl.lt;refine bR (fun tm=>tm.get 1=some v0/\tm.get 2=some (.ptr h.n 0)/\tm.get 6=some (.ptr h4.n 0)/\tm.get 8=some (.ptr p 0)) ⟨by simp [xZZ],by simp [xZZ],by simp [xZZ],by simp [xZZ]⟩ fun tm ht=> ?_;obtain ⟨g1,g2,g6,g8⟩:=ht;have hlt: ∀i:Nat,decide ((i:Int)<(ls.length:Int))=decide (i<ls.length):=fun i=>decide_eq_decide.2 (by omega);refine qE ?_;refine qA fun K hn hp=> ?_;simp only [sy.1,reduceIte,rL,syw.1,hlen,g1];apply hn;clear hn hp K;refine qF fun KA A1 A2 A3 A4 A5=> ?_;refine qS (sok xt) (fun st=> ∃(i:Nat) (hg:Hp) (mks:List Nat) (vz:AV) (tm:T AV),st=⟨tm,75,hg,mks⟩/\i<=ls.length/\tm.get 1=some (v0)/\tm.get 2=some (.ptr h.n 0)/\tm.get 6=some (.ptr h4.n 0)/\tm.get 8=some (.ptr p 0)/\tm.get 31=some (v0)/\tm.get 32=some (iv (ls.length:Int))/\tm.get 33=some (iv i)/\SInv h hB p hg mks vz (w.lvs G (ls.take i))) (fun st=>ls.length - (match st.tm.get 33 with|some (.val (.int _ n))=>n.toNat|_=>0)) ?_ ?_
  ·rintro st ⟨i,hg,mks,vz,tm,rfl,hkA,g1,g2,g6,g8,g31,g32,g33,si⟩;have muA:=g33;have hgle:=si.le;have u1:=(si.low h.n (by omega) (by omega)).trans x1;have u6:=(si.low h4.n (by omega) (by omega)).trans x6;have hlL:(w.lvs G (ls.take i)).length<=1000000:=by
    simp only [Wk.lvs,List.length_map];have a:=List.length_filter_le w.bar (ls.take i);have b:=List.length_take_le' i ls;omega
   refine qA fun K hn hp=> ?_;simp only [sy.1,rL,hlt,g32,g33];apply hn;clear hn hp K;by_cases hi:i<ls.length
   ·refine qC true (by simp only [sy.1,reduceIte,hi]) (fun _=> ?_) (fun hx=>by cases hx);refine qI ?_;obtain ⟨s,hx⟩: ∃s,ls[i]? =some s:=⟨_,List.getElem?_eq_getElem hi⟩;have hbs:=hblk s (xZT hx);have hlg:=hl.fr si.fr (xZY _);have hag:=ha.fr si.fr (xZY _);obtain ⟨i1,i2,_,_⟩:=hlg.at_ hx;have lsx:=lvs_succ w G hx;refine qF fun KB B1 B2 B3 B4 B5=> ?_;refine qA fun K hn hp=> ?_;simp only [sw.1,rE,reduceIte,rL,rA,al61,g31,g33,i1,i2];obtain ⟨hc,hhc,nc,sc,kc,fc⟩:=nsE hg (.cells [iv 0,iv 0,iv 0] 61) (.cells [iv s.1,iv s.2.1,iv s.2.2] 61);rw [<-hhc];apply hn;clear hn hp K hhc;have uc:=(kc h.n (by omega)).trans u1;have hac:=hag.fr fc (xZY _);refine qA fun K hn hp=> ?_;simp only [sy.1,rE,reduceIte,rL,rA,g2,uc,sc];refine qB (sok xt) (qA3 xt hc w hac s ?_);obtain ⟨hd,hhd,nd,sd,kd,fd⟩:=uO hc (.cells w.cs 30);obtain ⟨he,hhe,ne,se,ke,fe⟩:=uO hd (.cells [iv s.1,iv s.2.1,iv s.2.2] 61);simp only [sy.1,rL,<-hhd,<-hhe];apply hn;clear hn hp K hhd hhe;obtain ⟨r0,c0,q,n,th,wo,hs0,ht,kr,kcc⟩:=hbs;subst hs0;have n3:=ht.n3;have n1:=ht.n1;have fce:Fr hc.n hc he:=fd.trans fe (by omega);have fge:Fr hg.n hg he:=fc.trans fce (by omega);have vh:=(fce.at_ h.n (.inl (by omega))).trans uc;have vs:=(fce.at_ hg.n (.inl (by omega))).trans sc;have vw:=(ke hc.n (by omega)).trans sd;rw [nd] at se ne;have sie:=si.keep hpB hnB fge (xZY _);have hgm: ∀d∈mks,d<hg.n:=fun d hd=>(si.mrk d hd).2.1;have hvz: ∀k off n' e,vz= .sl k off n' e->k<hg.n:=fun k off n' e e'=>by
     rcases si.own with ⟨_,_,q1⟩|⟨b,q1,_,q2,_⟩
     ·rw [q1] at e';cases e'
     ·rw [q1] at e';have:=(AV.sl.inj e').1;omega
    refine bR (fun tm=>tm.get 1=some v0/\tm.get 2=some (.ptr h.n 0)/\tm.get 6=some (.ptr h4.n 0)/\tm.get 8=some (.ptr p 0)/\tm.get 10=some (.ptr hg.n 0)/\tm.get 31=some v0/\tm.get 32=some (iv (ls.length:Int))/\tm.get 33=some (iv i)/\tm.get 39=some (.fn (.func 166) [] [.ptr hc.n 0,.ptr (hc.n+1) 0])) ⟨by simp [xZZ,g1],by simp [xZZ,g2],by simp [xZZ,g6],by simp [xZZ,g8],by simp [xZZ],by simp [xZZ,g31],by simp [xZZ,g32],by simp [xZZ,g33],by simp [xZZ]⟩ fun tm ht'=> ?_;clear g1 g2 g6 g8 g31 g32 g33;obtain ⟨g1,g2,g6,g8,g10,g31,g32,g33,g39⟩:=ht';have next: ∀(h8:Hp) (vz':AV),SInv h hB p h8 (he.n::mks) vz' (w.lvs G (ls.take (i+1)))->KB .normal ⟨tm,75,h8,he.n::mks⟩:=by
     intro h8 vz' s8;refine B1 _ ?_;refine reg fun K hn hp=> ?_;simp only [sy.1,reduceIte,rL,g33,qQ hi lt7];apply hn;clear hn hp K;refine ⟨⟨i+1,h8,he.n::mks,vz',_,rfl,by omega,(by simp [xZZ,g1]),(by simp [xZZ,g2]),(by simp [xZZ,g6]),(by simp [xZZ,g8]),(by simp [xZZ,g31]),(by simp [xZZ,g32]),(by simp [xZZ]),s8⟩,by simpa [xZZ,muA] using (by omega:ls.length - (i+1)<ls.length - i)⟩
    let I:ALoop->Nat->Nat->Hp->Prop:=fun rc a b h'=>FrM (fun k=>k=he.n+1) (he.n+2) (LH he rc) h'/\h'.t.get (he.n+1)=some (.loop rc)/\ ∀a' b',a'<n->b'<n->(a'<a\/(a'=a/\b'<b))->w.m.bare ((r0+a':Nat):Int) ((c0+b':Nat):Int)=false
    let S:ALoop->Ex->Hp->Prop:=fun rc x h'=>x= .exit 2/\h'.t.get (he.n+1)=some (.loop (rc.left (.exit 2)))/\h'.t.get he.n=some .deferred/\he.n+2<=h'.n/\w.bar ((r0:Int),(c0:Int),(q:Int))=true/\ ∃vz',SInv h hB p h' mks vz' (w.lvs G (ls.take i)++[w.lv G ((r0:Int),(c0:Int),(q:Int))])/\ ∀off n' e,vz'≠ .sl (he.n+1) off n' e
    have nHL: ∀rc,(LH he rc).n=he.n+2:=fun rc=>rfl;refine jU fun KD D1 D2 D3 D4 D5=> ?_;refine y7 (sok xt) (g:=166) (xs:=[.yld (he.n+1),.ptr hc.n 0,.ptr (hc.n+1) 0]) (S:=S) (Z:=fun rc h'=>I rc n 0 h') (by simp only [sy.1,g39];rfl) (fun rc c1 c2 c3 c4 c5 c6 c7=> ?_) ?_ ?_
    ·have haL:=ha.fr (sie.fr.trans (qCB he rc) (by omega)) (xZY _);refine bF xt _ w haL (he.n+1) hc.n (hc.n+1) r0 c0 q n th wo ht.at_ (by omega) (by omega) n3 ((kP he rc (by omega)).trans vw) (I rc) _ ⟨FrM.refl (xZY _),LH_l he rc,fun a' b' _ _ h3=>by omega⟩ ?_ ?_ ?_
     ·rintro a b h' ⟨z1,_⟩;rw [z1.get (by omega) (by omega)];exact (kP he rc (by omega)).trans se
     ·rintro a h' ha' ⟨z1,z2,z3⟩;exact ⟨z1,z2,fun a' b' h1 h2 h3=>z3 a' b' h1 h2 (by omega)⟩
     ·intro a b hia hib;refine yY (sok xt) (S:=S rc) c1 c2 c3 c4 c5 c6 c7 (fun h' hA=>hA.2.1) (fun h' hA=>⟨_,rfl,?_⟩);obtain ⟨z1,z2,z3⟩:=hA;refine qA fun K hn hp=> ?_;simp only [sy.1,rE,reduceIte,rL];apply hn;clear hn hp K;refine reg fun K hn hp=> ?_;simp only [sy.1,rE,reduceIte,rL];apply hn;clear hn hp K;refine ⟨rfl,rfl,rfl,?_⟩;dsimp only;obtain ⟨h7,hh7⟩: ∃h7:Hp,h7=h'.set (he.n+1) (.loop rc.busy):=⟨_,rfl⟩;rw [<-hh7];have z5:FrM (fun k=>k=he.n+1) (he.n+2) (LH he rc) h7:=by rw [hh7];exact z1.set (.inr rfl) _
      have z6:h7.t.get (he.n+1)=some (.loop rc.busy):=by rw [hh7,xZX,xZZ,if_pos rfl]
      clear hh7;have nn:=nHL rc;have l7:=z5.le;have f7:Fr he.n he h7:=z5.toFr (qCB he rc) (by omega) (fun k hk=>by omega);have s7:=sie.keep hpB hnB f7 (xZY _);have x7:=(f7.at_ h.n (.inl (by omega))).trans vh;have ha7:=ha.fr s7.fr (xZY _);refine jU fun K' k1' k2' k3' k4' k5'=> ?_;refine qA fun K hn hp=> ?_;simp only [sy.1,rE,reduceIte,rL,rA,rD,g2,x7];refine qB (sok xt) (bare_c xt h7 w.m ha7.m his.rc ((r0+a:Nat):Int) ((c0+b:Nat):Int) fun m6 hm6=> ?_);cases cb:w.m.bare ((r0+a:Nat):Int) ((c0+b:Nat):Int)
      ·simp only [sy.1,rL];apply hn;clear hn hp K;refine qH false (by simp only [sy.1,rE,reduceIte]) (fun hx=>by cases hx) (fun _=> ?_);refine qY (k1' _ ⟨rfl,?_,.inl ⟨rfl,?_,?_,fun a' b' h1 h2 h3=> ?_⟩⟩)
       ·exact z6
       ·exact (z5.up (xZW hm6)).set (.inr rfl) _
       ·simp only [xZX];rw [xZZ,if_pos rfl]
       ·by_cases e:a'=a/\b'=b
        ·rw [e.1,e.2];exact cb
        ·exact z3 a' b' h1 h2 (by omega)
      ·simp only [sy.1,rL];apply hn;clear hn hp K;refine qH true (by simp only [sy.1,rE,reduceIte]) (fun _=> ?_) (fun hx=>by cases hx);have hlv:w.lv G ((r0:Int),(c0:Int),(q:Int))=wo*((zG (gLo G) r0 c0 n n+w.kerf).tdiv (th+w.kerf)):=by simp [Wk.lv,Wk.give,ht.tb]
       have hlvb:=his.lv_bd hb (hblk _ (xZT hx));have x6':=(f7.at_ h4.n (.inl (by omega))).trans ((fge.at_ h4.n (.inl (by omega))).trans u6);have x10:=(f7.at_ hg.n (.inl (by omega))).trans vs;have xp:=s7.pz;have onevz:=s7.own.one;have sg7:=sgB.keep (h':=h7) fun k _ hk=>s7.low k (by omega) (by omega);refine seq_regG (sok xt) 8 [7] [] [(0,1),(0,2),(1,1),(2,1)] (by kernel_rfl) fun K hn hp=> ?_;simp only [sy.1,rE,reduceIte,rL,rA,syw.1,g6,g8,g10,x6',x10,xp,syg.1,Bool.false_eq_true];refine qB (sok xt) (gL xt (h7.up m6) w (ha7.up (xZW hm6)) v G _ M _ _ (sg7.up _) (by simp only [xZV];omega) r0 c0 q n th wo ht.at_ (by omega) (by omega) kr kcc ht.n3 ht.n1 his.k0 his.k5 ht.h1 ht.h60 (fun i _ j _=>(hpos _ _).1) fun m8 hm8=> ?_);simp only [xZV] at hm8;have lt8:m6<(h7.up m8).n:=hm8;simp only [sy.1,rE,reduceIte,rL,rA,x6',x10,xp,xZU,qDT lt8];refine qB (sok xt) (value_c xt (h7.up m8) w (ha7.up (by omega)) v onev r0 c0 q n th wo ht.at_ _ (by rw [<-hlv];omega) (by rw [<-hlv];omega) fun m9 hm9=> ?_);simp only [xZV] at hm9;rw [<-hlv];have lt9:m8<(h7.up m9).n:=hm9;have s9:=s7.keep hpB hnB ((Fr.refl (xZY _)).up (m:=m9) (by omega)) (xZY _);obtain ⟨vz',hz,p1,p2,p3,p4,p5,p6,p7,p8⟩:=s9.add (xt:=xt) hpB (by omega) (w.lv G ((r0:Int),(c0:Int),(q:Int))) hlL;have ek:({t:=h7.t.put (some (.cells [iv (w.lv G ((r0:Int),(c0:Int),(q:Int)))] 3)) m9,n:=m9+1}:Hp)=(h7.up m9).new (.cells [iv (w.lv G ((r0:Int),(c0:Int),(q:Int)))] 3):=rfl;simp only [xZV] at p1 p5 p6 p8;simp only [sw.1,rE,reduceIte,rL,g8,xp,syg.1,xZU,qDT lt9,vG,bs75',ek,p1,p2,p3,p4];have kz: ∀k,k<m9->hg.n<=k->hz.t.get k=h7.t.get k:=fun k hk hk2=>p6 k hk fun off n' e e'=>by have:=hvz k off n' e e';omega
       refine hn _ _ (wpc_exit (k3' 2 _ (by decide) ⟨rfl,?_,.inr ⟨.exit 2,rfl,rfl,?_,?_,?_,bar_yes ht hia hib cb,vz',?_,fun off n' e e'=> ?_⟩⟩))
       ·rw [xZX,xZZ,if_neg (by omega)];exact (kz _ (by omega) (by omega)).trans z6
       ·rw [xZX,xZZ,if_pos rfl]
       ·rw [xZX,xZZ,if_neg (by omega),xZX,xZZ,if_neg (by omega)];exact (kz _ (by omega) (by omega)).trans ((z5.get (by omega) (by omega)).trans (LH_d he rc))
       ·simp only [Hp.set_n];omega
       ·exact p7.setB hnB hpB (by omega) (by simp only [Hp.set_n];omega) (fun hm=>by have:=hgm _ hm;omega) (fun off n' e e'=>by rw [p8] at e';have:=(AV.sl.inj e').1;omega) _
       ·rw [p8] at e';have:=(AV.sl.inj e').1;omega
    ·rintro rc h' c1 c2 ⟨z1,z2,z3⟩;refine ⟨z2,D1 _ (next _ vz ?_)⟩;obtain ⟨h8,hh8⟩: ∃h8:Hp,h8=h'.set (he.n+1) (.loop {rc with state:= .exhausted}):=⟨_,rfl⟩;rw [<-hh8];have z5:FrM (fun k=>k=he.n+1) (he.n+2) (LH he rc) h8:=by rw [hh8];exact z1.set (.inr rfl) _
     have nn:=nHL rc;have l8:=z5.le;have f8:Fr he.n he h8:=z5.toFr (qCB he rc) (by omega) (fun k hk=>by omega);have x9:h8.t.get he.n=some .deferred:=(z5.get (by omega) (by omega)).trans (LH_d he rc);have hbar:=bar_no ht (r0:=r0) (c0:=c0) fun a' ha' b' hb'=>z3 a' b' ha' hb' (.inl ha');rw [lsx,hbar,if_neg (by decide),List.append_nil];exact (sie.keep hpB hnB f8 (xZY _)).mark (by omega) (by omega) x9 fun hm=>by have:=hgm _ hm;omega
    ·rintro rc x h' ⟨rfl,q1,q2,q3,q4,vz',q5,q6⟩;refine ⟨.exit 2,rfl,q1,D2 _ (next _ vz' ?_)⟩;rw [lsx,q4,if_pos rfl];have q7:=q5.setB hnB hpB (k:=he.n+1) (by omega) (by omega) (fun hm=>by have:=hgm _ hm;omega) q6 (.loop {rc.left (.exit 2) with state:= .exhausted});exact q7.mark (by omega) (by simp only [Hp.set_n];omega) (by rw [xZX,xZZ,if_neg (by omega)];exact q2) fun hm=>by have:=hgm _ hm;omega
   ·refine qC false (by simp only [sy.1,reduceIte,hi]) (fun hx=>by cases hx) (fun _=> ?_);refine qR (A2 _ ?_);obtain rfl:i=ls.length:=by omega
    rw [List.take_of_length_le (xZY _)] at si hlL;clear hi;have hLb: ∀x∈w.lvs G ls,0<=x/\x<=6500:=fun x hx=>by
     obtain ⟨s,hs,rfl⟩:=List.mem_map.1 hx;exact his.lv_bd hb (hblk s (List.mem_filter.1 hs).1)
    have sortL:FnA (SE xt) 102 [vz,.val (.func (.func 103) #[] #[])] hg (fun res h9=>res= .ret (.tup [])/\SInv h hB p h9 mks vz (dsc (w.lvs G ls))):=by
     by_cases hL:w.lvs G ls=[]
     ·have e:=si.nz hL;subst e;refine sort0_c xt isSort (ft102 xt) rfl hg ⟨rfl,?_⟩;rw [hL] at si ⊢;rw [show dsc []=[] by simp [dsc]];exact si
     ·rcases si.own with ⟨q1,_,_⟩|⟨b,rfl,q1,q2,q3,q4⟩
      ·exact absurd (List.length_eq_zero_iff.1 q1) hL
      ·exact sortf_c xt isSort (ft102 xt) rfl hg b (w.lvs G ls) (List.length_pos_iff.2 hL) hlL q2 hLb q3 ⟨rfl,si.put hnB hpB rfl hL (qA2 _)⟩
    obtain ⟨H,hH⟩: ∃H:Nat,w.m.H=(H:Int)/\H<=3:=by
     have hok:=(xZS.1 e1).1;simp only [Mp.ok,Mp.restOk,xZQ,zC] at hok;have:=hok.2.2.2.1;exact ⟨w.m.H.toNat,by omega,by omega⟩
    have pz:=si.pz;have onevz:=si.own.one;refine qA fun K hn hp=> ?_;simp only [sy.1,rE,reduceIte,rL,g8,pz];refine qB (sok xt) (FnA.mono sortL fun res h9 hres=> ?_);obtain ⟨rfl,s9⟩:=hres;simp only [sy.1,rL];apply hn;clear hn hp K;have u9:=(s9.low h.n (by omega) (by omega)).trans x1;have w9:=(s9.low h4.n (by omega) (by omega)).trans x6;have pz9:=s9.pz;have hln9:=fun h'=>s9.own.len (h':=h') qAJ rfl;obtain ⟨L',hL'⟩: ∃L',L'=dsc (w.lvs G ls):=⟨_,rfl⟩;rw [<-hL'] at s9 hln9;have hL1:L'.length=(w.lvs G ls).length:=by rw [hL'];exact qA2 _
    obtain ⟨k,hkm⟩: ∃k,k=min L'.length H:=⟨_,rfl⟩;have hmin:min (L'.length:Int) w.m.H=(k:Int):=by omega
    obtain ⟨vs,sl1,sl2⟩: ∃vs,zU tb h9 75 vz none (some (iv (k:Int)))=some vs/\RowAt xt h9 1 vs ((L'.take k).map Kn.c1):=by
     rcases s9.own with ⟨q1,_,rfl⟩|⟨b,rfl,q1,q2,q3,q4⟩
     ·have:k=0:=by omega
      subst this;exact ⟨qAP,by kernel_rfl,⟨by simp,by omega,.inl ⟨rfl,by simp⟩⟩⟩
     ·exact ⟨_,hi75 h9 b L'.length k (by omega),row_take q3 q2 (by rw [xZR];omega) (by rw [gM];omega) (by rw [ivs,ivs,List.map_take])⟩
    have onevs:=sl2.one;refine qA fun K hn hp=> ?_;simp only [sy.1,rE,reduceIte,rL,syw.1,g2,g8,u9,pz9,hln9,hmin,wW,Option.map_none,sl1];apply hn;clear hn hp K;have hbl:=fun s hs=>hblk s hs;have ha9:=ha.fr s9.fr (xZY _);have hl9:=hl.fr s9.fr (xZY _);have sg9:=sgB.keep (h':=h9) fun k _ hk=>s9.low k (by omega) (by omega);have hle9:=s9.le;refine qA fun K hn hp=> ?_;simp only [sy.1,rE,reduceIte,rL,rA,g1,g6,w9];refine qB (sok xt) (qAS xt h9 w ha9 his v onev v0 ls hl9 (fun s hs'=>(hblk s hs').isT) hl50 _ (w.give (gLo G)) (fun s hs'=>wN his (fun r c _ _=>(hpos r c).1) (hblk s hs')) (fun h' s fr hs' K hK=> ?_) fun m8 hm8=> ?_)
    ·obtain ⟨r0,c0,q,n,th,wo,rfl,ht,hrn,hcn⟩:=hblk s hs';refine j7 (sok xt) (gL xt h' w (ha9.fr fr (xZY _)) v G _ M _ _ (sg9.fr fr (by omega)) (by have:=fr.le;omega) r0 c0 q n th wo ht.at_ (by omega) (by omega) hrn hcn ht.n3 ht.n1 his.k0 his.k5 ht.h1 ht.h60 (fun i _ j _=>(hpos _ _).1) fun m4 hm4=> ?_);rw [<-Wk.give_q ht];exact hK m4 hm4
    rw [Wk.V_worth];have hLb': ∀x∈L'.take k,0<=x/\x<=6500:=fun x hx=>hLb x (by
     have:=List.mem_of_mem_take hx;rw [hL'] at this;exact (List.mergeSort_perm _ _).mem_iff.1 this)
    have hlk:(L'.take k).length=k:=by rw [xZR];omega
    have hsb:=fun j=>qBa (B:=6500) (by omega) hLb' j;have hVb:=V_bd his hb ls hblk;simp only [sy.1,rE,reduceIte,rL];refine qB (sok xt) (sum_c xt (h9.up m8) vs (L'.take k) (sl2.up (by omega)) (by omega) (fun j hj=>by have:=hsb j;omega) fun m9 hm9=> ?_);simp only [xZV] at hm9;rw [hlk];have hsk:=hsb k;have wS:IntKind.i64.wrap (w.V G ls - vK (L'.take k) k)=w.V G ls - vK (L'.take k) k:=wrap_i64 _ (by omega) (by omega);simp only [sy.1,rE,reduceIte,rL,xZU,wS];refine hn _ _ (qD ?_);clear hn hp K;have s9u:=s9.keep hpB hnB ((Fr.refl (xZY _)).up (m:=m9) (by omega)) (xZY _);obtain ⟨hE,hE1,hE2⟩:=qCs (N:=h.n) (h:=h) mks (h9.up m9) (fun d hd=>by obtain ⟨a1,a2,a3⟩:=s9u.mrk d hd;exact ⟨by omega,a2,a3⟩) s9u.nd s9u.fr;refine end_2m res43 hE1 ⟨?_,hE2⟩;have hts:p9 (w.lvs G ls) w.m.H=vK (L'.take k) k:=by
     have:min (w.lvs G ls).length w.m.H.toNat=k:=by omega
     rw [p9,this,hL']
    simp [xZZ,Wk.psound,e1,e2,hb,hts]
  ·exact ⟨0,hB,[],qAP,_,rfl,(by omega),(by simp [xZZ,g1]),(by simp [xZZ,g2]),(by simp [xZZ,g6]),(by simp [xZZ,g8]),(by simp [xZZ]),(by simp [xZZ]),(by simp [xZZ]),S0⟩
end Go.Proofs.Kn
namespace Go.Proofs.Kn
open Go Go.Ev
set_option maxRecDepth 100000
set_option maxHeartbeats 4000000
theorem Wk.ok_H {w:Wk} (h:w.ok=true):0<=w.m.H/\w.m.H<=3:=by
 have hok:=(xZS.1 h).1;simp only [Mp.ok,Mp.restOk,xZQ,zC] at hok;exact hok.2.2.2.1
end Go.Proofs.Kn
