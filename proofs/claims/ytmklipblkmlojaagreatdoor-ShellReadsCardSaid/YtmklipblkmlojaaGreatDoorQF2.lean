/- Parts of the proof, joined by a program. -/
import Derived.Test.YtmklipblkmlojaaGreatDoorQF1
import Derived.Test.YtmklipblkmlojaaGreatDoorQE8
import Derived.Test.YtmklipblkmlojaaGreatDoorQE6
set_option linter.all false
open Nat renaming reduceEqDiff → rE, reduceLeDiff → rD, reduceAdd → rA, reduceMul → rM, reduceLT → rL
open Go.Ev.T renaming get_put → xZZ
open Nat renaming le_refl → xZY, le_trans → xZP, le_succ → xZO
open List renaming map_append → xZX, getElem?_eq_getElem → xZW, mem_of_getElem? → xZV, length_append → xZU, getElem?_map → xZS, length_map → xZQ, length_take → xZN
open Bool renaming false_eq_true → xZT
open Go.Ev.Hp renaming set_t → xZR, set_n → xZM
namespace Go.Ev
theorem FnA.grown {E:Env} {f:FuncId} {xs:List AV} {h:Hp} {K:CR->Hp->Prop} (hc:FnA E f xs h K):FnA E f xs h (fun r h'=> ∃h0,K r h0/\h'=h0.up (h0.n+1)):=by
 obtain ⟨r,h0,hs,hk⟩:=hc;exact ⟨r,_,hs.bump (xZO _),h0,hk,rfl⟩
theorem OwnSl.part {xt:Addr->Option Value} {h:Hp} {N sz n:Nat} {e:TypeId} {v:AV} {cs:List AV} (o:OwnSl h N sz e v n cs) (hn:0<n) {i j:Nat} (hi:i<=j) (hj:j<=n) {cl:List (List Value)} (h0:0<sz) (hsz: ∀c∈cl,c.length=sz) (hl:cl.length=j - i) (hc: ∀(k:Nat) (c:List Value),cl[k]? =some c-> ∀(q:Nat) (u:Value),c[q]? =some u->cs[i*sz+(k*sz+q)]? =some (.val u)) {tb:T TE} {t:TypeId} {te ee:TE} (ht:tb.get t=some te) (hd:te.d= .slice e) (he:tb.get e=some ee) (hs:ee.size=sz):
  ∃b,v= .sl b 0 n sz/\b<h.n/\N<=b/\RowAt xt h sz (.sl b (i*sz) (j - i) sz) cl:=by
 rcases o with ⟨rfl,_,_⟩|⟨b,rfl,h1,h2,h3,h4⟩
 ·exact absurd hn (by omega)
 ·refine ⟨b,rfl,h2,h1,hsz,h0,.inr (.inr ⟨b,i*sz,cs,e,by rw [hl],⟨h2,?_,h3⟩,fun k c q j' u hu=>hc k c q j' u hu⟩)⟩;rw [hl,h4,<-Nat.add_mul];exact Nat.mul_le_mul_right _ (by omega)
end Go.Ev
namespace Go.Proofs.Kn
open Go Go.Ev
set_option maxRecDepth 100000
set_option maxHeartbeats 4000000
theorem ft13s (xt:Addr->Option Value):(SE xt).ft.get 13=some Tryz.f13:=by kernel_rfl
theorem res13s:Tryz.f13.results.toList=[.cell 2 27,.tmp 3]:=by kernel_rfl
def xY (b:UInt8):Int:=if b=111 then 3 else if b=35 then 2 else 1
def xP (l:List UInt8):List Int:=l.map xY
def vK (b:Int):List (List UInt8)->Option (List (List Int))
 |[]=>some []
 |l::ls=>if (l.length:Int)=b then (vK b ls).map (xP l:: ·) else none
def kD (l:List UInt8) (r:Rs):Option Rs:=
 if (spl 32 l).headD []=zL then
  match zE ((spl 32 l).drop 1) with
  |some [a,b,c,d]=>some {r with gs:=r.gs++[(a,b,c,d)]}
  |_=>none
 else if (spl 32 l).headD []=zB then
  if (spl 32 l).length=4 then
   match zE (((spl 32 l).take 3).drop 1) with
   |some [a,b]=>some {r with ks:=r.ks++[(a,b,decide ((spl 32 l).getD 3 []=[100,111,119,110]))]}
   |_=>none
  else none
 else if (spl 32 l).headD []=kB then
  match zE ((spl 32 l).drop 1) with
  |some [a,b]=>some {r with ps:=r.ps++[(a,b)]}
  |_=>none
 else none
def zF:List (List UInt8)->Rs->Option Rs
 |[],r=>some r
 |l::ls,r=>match kD l r with
  |none=>none
  |some r=>zF ls r
def uQ (hw:List (List UInt8)):Option (List Int):=if hw.length=7 then zE [hw.getD 1 [],hw.getD 2 [],hw.getD 4 [],hw.getD 6 []] else none
def vO (s:List UInt8):Option Md:=
 match uQ (spl 32 ((spl 10 s).headD [])) with
 |some [a,b,c,d]=>
  if a+3<=((spl 10 s).length:Int) then
   match vK b (((spl 10 s).drop 1).take a.toNat) with
   |none=>none
   |some cells=>
    match zF (((spl 10 s).drop (a.toNat+1)).take ((spl 10 s).length - 2 - (a.toNat+1))) ⟨[],[],[]⟩ with
    |none=>none
    |some r=>some ⟨cells,c,d,r.gs,r.ks,r.ps⟩
  else none
 |_=>none
def yT (s:List UInt8):Option Md:=(vO s).bind fun d=>if d.textB=s then some d else none
theorem yV: ∀{ws:List (List UInt8)} {ns:List Int},zE ws=some ns->ns.length=ws.length/\ ∀n∈ns,jK n
 |[],ns,h=>by simp only [zE] at h;cases h;simp
 |x::xs,ns,h=>by
  simp only [zE] at h;cases hx:xS x with
  |none=>rw [hx] at h;cases h
  |some n=>
   rw [hx] at h;simp only [Option.map_eq_some_iff] at h;obtain ⟨ms,h1,rfl⟩:=h;obtain ⟨i1,i2⟩:=yV h1;have hl:=numP_lt hx;refine ⟨by simp [i1],fun m hm=> ?_⟩;rcases List.mem_cons.1 hm with rfl|hm
   ·exact ⟨by omega,by omega⟩
   ·exact i2 m hm
theorem numsP_4 {ws:List (List UInt8)} {ns:List Int} (h:zE ws=some ns) (hw:ws.length=4): ∃a b c d,ns=[a,b,c,d]/\jK a/\jK b/\jK c/\jK d:=by
 obtain ⟨h2,h1⟩:=yV h;rw [hw] at h2
 match ns,h1,h2 with
 |[a,b,c,d],h1,_=>exact ⟨a,b,c,d,rfl,h1 a (by simp),h1 b (by simp),h1 c (by simp),h1 d (by simp)⟩
def RfR (xt:Addr->Option Value) (h:Hp) (o:Option Md) (res:CR) (h':Hp):Prop:=Fr h.n h h'/\match o with
 |some d=> ∃a b c e,res= .ret (.tup [(d.mp a b c e).av,.val (.bool true)])/\(d.mp a b c e).At xt h'
 |none=>res= .ret (.tup [.agg z27,.val (.bool false)])
def Q13 (xt:Addr->Option Value) (h:Hp) (s:List UInt8):Ex->St->Prop:=wU (SE xt) Tryz.f13 (RfR xt h (yT s))
theorem wE:kO tb 27 []=some (.agg z27):=by kernel_rfl
theorem Q13.no {xt:Addr->Option Value} {h hg:Hp} {s:List UInt8} {tm:T AV} {nt:Nat} (hn:yT s=none) (f:Fr h.n h hg) (hr:hg.t.get h.n=some (.cells z27 27)) (g2:tm.get 2=some (.ptr h.n 0)) (g3:tm.get 3=some (.val (.bool false))):Q13 xt h s .ret ⟨tm,nt,hg,[]⟩:=by
 refine qAa (v:= .agg z27) res13s ?_ ⟨f,?_⟩
 ·simp only [sw.1,rE,reduceIte,rL,rA,rM,rD,svn.down,syw.1,qB,qD,qC,g2,hr]
 ·rw [hn,g3];rfl
theorem Q13.nos {xt:Addr->Option Value} {h hg:Hp} {s:List UInt8} {tm:T AV} {nt:Nat} (hn:yT s=none) (f:Fr h.n h hg) (hl:h.n<hg.n) (g2:tm.get 2=some (.ptr h.n 0)) (g3:tm.get 3=some (.val (.bool false))):Q13 xt h s .ret ⟨tm,nt,hg.set h.n (.cells z27 27),[]⟩:=
 Q13.no hn (f.set (xZY _) hl _) (by rw [xZR,xZZ,if_pos rfl]) g2 g3
theorem flat_s (ws:List (List UInt8)):(ws.map fun x=>[Value.string (bs x)]).flatten.map AV.val=ws.map sv:=by
 induction ws with
 |nil=>rfl
 |cons x l ih=>simp only [List.map_cons,List.flatten_cons,xZX,ih];rfl
theorem row_s {xt:Addr->Option Value} {h:Hp} {N:Nat} {v:AV} {ws:List (List UInt8)} (o:OwnSl h N 1 9 v ws.length (ws.map sv)):RowAt xt h 1 v (ws.map fun x=>[.string (bs x)]):=
 OwnSl.row (cl:=ws.map fun x=>[.string (bs x)]) (fun c hc=>by obtain ⟨x,_,rfl⟩:=List.mem_map.1 hc;rfl) (by omega) (by rw [xZQ,flat_s];exact o)
structure SB (h hg:Hp) (ls:List (List UInt8)) (ns:List Int) (v5 v7:AV) (vs:List AV):Prop where
 fr:Fr h.n h hg
 r:hg.t.get h.n=some (.cells z27 27)
 m:hg.t.get (h.n+1)=some (.cells vs 27)
 l:OwnSl hg (h.n+2) 1 9 v5 ls.length (ls.map sv)
 u:OwnSl hg (h.n+2) 1 3 v7 ns.length (ns.map iv)
 lt:h.n+2<=hg.n
noncomputable def b13:Code:=qAf Tryz.f13.body
noncomputable def c13a:Code:=zR (zR (zR (zR (zR (zR (zR (zR b13)))))))
theorem head_R (xt:Addr->Option Value) (h:Hp) (s:List UInt8) (hs:s.length<=1000000)
  (next: ∀tm hg v5 v7 a b c d,uQ (spl 32 ((spl 10 s).headD []))=some [a,b,c,d]->jK a->jK b->jK c->jK d->a+3<=((spl 10 s).length:Int)->tm.get 0=some (sv s)->tm.get 2=some (.ptr h.n 0)->tm.get 4=some (.ptr (h.n+1) 0)->tm.get 5=some v5->tm.get 7=some v7->SB h hg (spl 10 s) [a,b,c,d] v5 v7 [jE,iv c,iv d,jE,jE,jE]->wpc (SE xt) none c13a ⟨tm,234,hg,[]⟩ (Q13 xt h s)):
  FnA (SE xt) 13 [sv s] h (RfR xt h (yT s)):=by
 refine FnA.walk (sok xt) (ft13s xt) rfl 234 rfl ?_;show wpc _ _ _ _ (Q13 xt h s);obtain ⟨ls,hls⟩: ∃ls,ls=spl 10 s:=⟨_,rfl⟩;have hll:ls.length<=1000001:=by rw [hls];have:=yY 10 s;omega
 have hl0:0<ls.length:=by rw [hls];exact List.length_pos_iff.2 (bQ 10 s)
 obtain ⟨l0,hl00⟩: ∃l0,ls[0]? =some l0:=⟨_,xZW hl0⟩;have hhd:(spl 10 s).headD []=l0:=by
  rw [<-hls];cases q:ls with
  |nil=>rw [q] at hl0;simp at hl0
  |cons x r=>rw [q] at hl00;simpa using hl00
 have hl0l:l0.length<=1000000:=xZP (kU 10 s l0 (by rw [<-hls];exact xZV hl00)) hs;rw [hhd,<-hls] at next;refine qA fun K hn hp=> ?_;simp only [sw.1,rE,reduceIte,rL,rA,rM,rD,svn.down,syw.1,qB,qD,qC];apply hn;obtain ⟨h1,hh1⟩: ∃h1:Hp,h1=h.new (.cells z27 27):=⟨_,rfl⟩;rw [<-hh1];have nh1:h1.n=h.n+1:=by rw [hh1];rfl
 have sh1:h1.t.get h.n=some (.cells z27 27):=by rw [hh1];exact jG _ _
 have kh1: ∀k,k<h.n->h1.t.get k=h.t.get k:=fun k hk=>by rw [hh1];exact zW _ _ hk
 have fbh1:Fr h.n h h1:=by rw [hh1];exact (Fr.refl (xZY _)).new _
 have fh1:=fbh1;refine qA fun K hn hp=> ?_;simp only [sw.1,rE,reduceIte,rL,rA,rM,rD,svn.down,syw.1,qB,qD,qC,sh1,nh1];apply hn;obtain ⟨h2,hh2⟩: ∃h2:Hp,h2=h1.new (.cells z27 27):=⟨_,rfl⟩;rw [<-hh2];have nh2:h2.n=h1.n+1:=by rw [hh2];rfl
 have sh2:h2.t.get h1.n=some (.cells z27 27):=by rw [hh2];exact jG _ _
 have kh2: ∀k,k<h1.n->h2.t.get k=h1.t.get k:=fun k hk=>by rw [hh2];exact zW _ _ hk
 have fbh2:Fr h1.n h1 h2:=by rw [hh2];exact (Fr.refl (xZY _)).new _
 have fh2:Fr h.n h h2:=fh1.trans fbh2 (by omega);simp only [nh1,Nat.add_assoc,rA] at nh2 sh2 kh2;have r2:=(kh2 h.n (by omega)).trans sh1;have m2:h2.t.get (h.n+1)=some (.cells z27 27):=sh2;refine qA fun K hn hp=> ?_;simp only [sw.1,rE,reduceIte,rL,rA,rM,rD,svn.down,syw.1,qB,qD,qC,sh1,nh1,sh2,nh2];refine qE (sok xt) (FnA.mono (qCq xt h2 s hs 10) fun res h3 hres=> ?_);obtain ⟨f3,v5,rfl,o5⟩:=hres;rw [<-hls] at o5;simp only [sw.1,rE,reduceIte,rL,rA,rM,rD,svn.down,syw.1,qB,qD,qC,sh1,nh1,sh2,nh2];apply hn;have r3:=(f3.at_ h.n (.inl (by omega))).trans r2;have m3:=(f3.at_ (h.n+1) (.inl (by omega))).trans m2;have f3h:=fh2.trans f3 (by omega);have f3l:=f3.le;obtain ⟨b5,i1,_,_,i4,_⟩:=o5.idx (i:=0) vN t96 tg9 rfl hl0 (k:= .i64);have i1:qK tb 96 v5 (iv 0)=some (.ptr b5 0):=i1;have ld0:(ls.map sv)[0]? =some (sv l0):=by rw [xZS,hl00];rfl
 have one5:=o5.one;refine qA fun K hn hp=> ?_;simp only [sw.1,rE,reduceIte,rL,rA,rM,rD,svn.down,syw.1,qB,qD,qC,sh1,nh1,sh2,nh2,i1,i4,ld0];refine qE (sok xt) (FnA.mono (qCq xt h3 l0 hl0l 32) fun res h4 hres=> ?_);obtain ⟨f4,v6,rfl,o6⟩:=hres;obtain ⟨hw,hhw⟩: ∃hw,hw=spl 32 l0:=⟨_,rfl⟩;rw [<-hhw] at o6 next;have hwl:hw.length<=1000001:=by rw [hhw];have:=yY 32 l0;omega
 simp only [sw.1,rE,reduceIte,rL,rA,rM,rD,svn.down,syw.1,qB,qD,qC,sh1,nh1,sh2,nh2];apply hn;have r4:=(f4.at_ h.n (.inl (by omega))).trans r3;have m4:=(f4.at_ (h.n+1) (.inl (by omega))).trans m3;have f4h:=f3h.trans f4 (by omega);have f4l:=f4.le;have o5':=o5.fr f4 (xZY _);have one6:=o6.one;have len6:=fun h'=>o6.len (h':=h') (tb:=tb) vN t96;have len5:=fun h'=>o5.len (h':=h') (tb:=tb) vN t96;have hpz:yT s=(vO s).bind fun d=>if d.textB=s then some d else none:=rfl
 refine qG ?_;have d7:decide ((hw.length:Int)=7)=decide (hw.length=7):=decide_eq_decide.2 ⟨fun h=>by omega,fun h=>by omega⟩;by_cases h7:hw.length=7
 rotate_left
 ·refine qA fun K hn hp=> ?_;simp only [sw.1,rE,reduceIte,rL,rA,rM,rD,svn.down,syw.1,qB,qD,qC,sh1,nh1,sh2,nh2,len6,d7,decide_eq_false h7,Bool.not_false];apply hn;refine qF true (by simp only [sw.1,rE,reduceIte,rL,rA,rM,rD,svn.down,syw.1,qB,qD,qC,sh1,nh1,sh2,nh2]) (fun _=> ?_) (fun hx=>by cases hx);refine qG ?_;have hn0:yT s=none:=by
   rw [yT,vO,hhd,<-hhw,uQ,if_neg h7];rfl
  refine qA fun K hn hp=> ?_;simp only [sw.1,rE,reduceIte,rL,rA,rM,rD,svn.down,syw.1,qB,qD,qC,sh1,nh1,sh2,nh2,r4,wE];apply hn;exact jI (Q13.nos hn0 f4h (by omega) (by simp [xZZ]) (by simp [xZZ]))
 refine qA fun K hn hp=> ?_;simp only [sw.1,rE,reduceIte,rL,rA,rM,rD,svn.down,syw.1,qB,qD,qC,sh1,nh1,sh2,nh2,len6,d7,decide_eq_true h7,Bool.not_true];apply hn;refine qF false (by simp only [sw.1,rE,reduceIte,rL,rA,rM,rD,svn.down,syw.1,qB,qD,qC,sh1,nh1,sh2,nh2]) (fun hx=>by cases hx) (fun _=> ?_);refine qN ?_;have one5':=o5'.one;obtain ⟨c1,a1,_,_,a4,_⟩:=o6.idx (i:=1) vN t96 tg9 rfl (by omega) (k:= .i64);obtain ⟨c2,b1,_,_,b4,_⟩:=o6.idx (i:=2) vN t96 tg9 rfl (by omega) (k:= .i64);obtain ⟨c3,x1,_,_,x4,_⟩:=o6.idx (i:=4) vN t96 tg9 rfl (by omega) (k:= .i64);obtain ⟨c4,y1,_,_,y4,_⟩:=o6.idx (i:=6) vN t96 tg9 rfl (by omega) (k:= .i64);have a1:qK tb 96 v6 (iv 1)=some (.ptr c1 1):=a1;have b1:qK tb 96 v6 (iv 2)=some (.ptr c2 2):=b1;have x1:qK tb 96 v6 (iv 4)=some (.ptr c3 4):=x1;have y1:qK tb 96 v6 (iv 6)=some (.ptr c4 6):=y1;have ldw: ∀i,i<7->(hw.map sv)[i]? =some (sv (hw.getD i [])):=fun i hi=>by
  rw [xZS,getD_some [] (by omega)];rfl
 have l1:=ldw 1 (by omega);have l2:=ldw 2 (by omega);have l4:=ldw 4 (by omega);have l6:=ldw 6 (by omega);obtain ⟨w1,hw1⟩: ∃w,w=hw.getD 1 []:=⟨_,rfl⟩;obtain ⟨w2,hw2⟩: ∃w,w=hw.getD 2 []:=⟨_,rfl⟩;obtain ⟨w4,hw4⟩: ∃w,w=hw.getD 4 []:=⟨_,rfl⟩;obtain ⟨w6,hw6⟩: ∃w,w=hw.getD 6 []:=⟨_,rfl⟩;have hwle: ∀i,(hw.getD i []).length<=1000000:=fun i=>by
  by_cases hi:i<hw.length
  ·exact xZP (kU 32 l0 _ (by rw [<-hhw];exact xZV (getD_some [] hi))) hl0l
  ·rw [List.getD_eq_getElem?_getD,List.getElem?_eq_none (by omega)];simp
 have hhead:uQ hw=zE [w1,w2,w4,w6]:=by rw [uQ,if_pos h7,hw1,hw2,hw4,hw6]
 have e1:=hwle 1;have e2:=hwle 2;have e4:=hwle 4;have e6:=hwle 6;rw [<-hw1] at l1 e1;rw [<-hw2] at l2 e2;rw [<-hw4] at l4 e4;rw [<-hw6] at l6 e6;refine gO (sok xt) 18 [12] [(13,[12])] [] (by kernel_rfl) fun K hn hp=> ?_;simp only [sw.1,rE,reduceIte,rL,rA,rM,rD,svn.down,syw.1,qB,qD,qC,sh1,nh1,sh2,nh2,syg.1,xZT,a1,a4,b1,b4,x1,x4,y1,y4,l1,l2,l4,l6,qH,b96_4];obtain ⟨h5,hh5,n5,s5,k5,f5⟩:=gA h4 (.cells [sv w1,sv w2,sv w4,sv w6] 9);have e5:({t:=h4.t.put (some (.cells [sv w1,sv w2,sv w4,sv w6] 9)) h4.n,n:=h4.n+1}:Hp)=h5:=by rw [hh5];rfl
 rw [e5];refine qE (sok xt) (FnA.mono (FnA.grown (pE xt h5 _ h4.n [w1,w2,w4,w6] (row_s (j6 (cs:=[sv w1,sv w2,sv w4,sv w6]) s5 (by omega))) (by simp) (by intro x hx;simp only [List.mem_cons,List.mem_nil_iff,or_false] at hx;rcases hx with rfl|rfl|rfl|rfl<;>assumption))) fun res h6 hres=> ?_)
 obtain ⟨h0,⟨f0,hres⟩,hh6⟩:=hres;have f6:Fr h5.n h5 h6:=by rw [hh6];exact f0.up (xZO _)
 have lt6':h5.n<h6.n:=by rw [hh6,Hp.up_n];have:=f0.le;omega
 have f6l:=f6.le;have r6:=(f6.at_ h.n (.inl (by omega))).trans ((k5 h.n (by omega)).trans r4);have m6:=(f6.at_ (h.n+1) (.inl (by omega))).trans ((k5 (h.n+1) (by omega)).trans m4);have lt6:h4.n+1<h6.n:=by omega
 have f6h:=(f4h.trans f5 (by omega)).trans f6 (by omega);have o56:=(o5'.fr f5 (xZY _)).fr f6 (xZY _);cases hnum:zE [w1,w2,w4,w6] with
 |none=>
  have hn0:yT s=none:=by rw [yT,vO,hhd,<-hhw,hhead,hnum];rfl
  rw [hnum] at hres;subst hres;simp only [sw.1,rE,reduceIte,rL,rA,rM,rD,svn.down,syw.1,qB,qD,qC,sh1,nh1,sh2,nh2,syg.1,xZT,zS lt6,qD,qC];apply hn;refine qG ?_;refine qA fun K hn hp=> ?_;simp only [sw.1,rE,reduceIte,rL,rA,rM,rD,svn.down,syw.1,qB,qD,qC,sh1,nh1,sh2,nh2];apply hn;refine qF true (by simp only [sw.1,rE,reduceIte,rL,rA,rM,rD,svn.down,syw.1,qB,qD,qC,sh1,nh1,sh2,nh2]) (fun _=> ?_) (fun hx=>by cases hx);refine qG ?_;refine qA fun K hn hp=> ?_;simp only [sw.1,rE,reduceIte,rL,rA,rM,rD,svn.down,syw.1,qB,qD,qC,sh1,nh1,sh2,nh2,r6,wE];apply hn;exact jI (Q13.nos hn0 f6h (show h.n<h6.n by omega) (by simp [xZZ]) (by simp [xZZ]))
 |some ns=>
  obtain ⟨a,b,c,d,rfl,na,nb,nc,nd⟩:=numsP_4 hnum rfl;rw [hnum] at hres;obtain ⟨u,rfl,ou⟩:=hres;have ou:OwnSl h6 h5.n 1 3 u 4 [iv a,iv b,iv c,iv d]:=by rw [hh6];exact ou.up (xZO _)
  have ouo:=ou.one;simp only [sw.1,rE,reduceIte,rL,rA,rM,rD,svn.down,syw.1,qB,qD,qC,sh1,nh1,sh2,nh2,syg.1,xZT,zS lt6,qD,qC];apply hn;refine qG ?_;obtain ⟨q0,x1,_,_,x4,_⟩:=ou.idx (i:=0) vJ rfl tg3 rfl (by simp) (k:= .i64);obtain ⟨q2,y1,_,_,y4,_⟩:=ou.idx (i:=2) vJ rfl tg3 rfl (by simp) (k:= .i64);obtain ⟨q3,z1,_,_,z4,_⟩:=ou.idx (i:=3) vJ rfl tg3 rfl (by simp) (k:= .i64);have x1:qK tb 65 u (iv 0)=some (.ptr q0 0):=x1;have y1:qK tb 65 u (iv 2)=some (.ptr q2 2):=y1;have z1:qK tb 65 u (iv 3)=some (.ptr q3 3):=z1;have w1:IntKind.i64.wrap (a+3)=a+3:=jA _ (by have:=na.1;omega) (by have:=na.2;omega);by_cases hge:a+3<=(ls.length:Int)
  rotate_left
  ·have hn0:yT s=none:=by
    have:vO s=none:=by
     rw [vO,hhd,<-hhw,hhead,hnum];show (if a+3<=((spl 10 s).length:Int) then _ else none)=none;rw [<-hls];exact if_neg hge
    rw [yT,this];rfl
   have dl:decide ((ls.length:Int)<a+3)=true:=decide_eq_true (by omega);refine qA fun K hn hp=> ?_;simp only [sw.1,rE,reduceIte,rL,rA,rM,rD,svn.down,syw.1,qB,qD,qC,sh1,nh1,sh2,nh2,len5,x1,x4,w1,dl];apply hn;refine qF true (by simp only [sw.1,rE,reduceIte,rL,rA,rM,rD,svn.down,syw.1,qB,qD,qC,sh1,nh1,sh2,nh2]) (fun _=> ?_) (fun hx=>by cases hx);refine qG ?_;refine qA fun K hn hp=> ?_;simp only [sw.1,rE,reduceIte,rL,rA,rM,rD,svn.down,syw.1,qB,qD,qC,sh1,nh1,sh2,nh2,r6,wE];apply hn;exact jI (Q13.nos hn0 f6h (show h.n<h6.n by omega) (by simp [xZZ]) (by simp [xZZ]))
  have dl:decide ((ls.length:Int)<a+3)=false:=decide_eq_false (by omega);refine qA fun K hn hp=> ?_;simp only [sw.1,rE,reduceIte,rL,rA,rM,rD,svn.down,syw.1,qB,qD,qC,sh1,nh1,sh2,nh2,len5,x1,x4,w1,dl];apply hn;refine qF false (by simp only [sw.1,rE,reduceIte,rL,rA,rM,rD,svn.down,syw.1,qB,qD,qC,sh1,nh1,sh2,nh2]) (fun hx=>by cases hx) (fun _=> ?_);refine qN ?_;refine qDh (sok xt) 0 0 8 [(5,1)] (by kernel_rfl) fun K hn hp=> ?_;have nq2: ¬q2=h.n+1:=by omega
  have nq3: ¬q3=h.n+1:=by omega
  simp only [sw.1,rE,reduceIte,rL,rA,rM,rD,svn.down,syw.1,qB,qD,qC,sh1,nh1,sh2,nh2,m6,y1,y4,z1,z4,nq2,nq3,xZR];apply hn;obtain ⟨h7,hh7⟩: ∃h7:Hp,h7=(({t:=h6.t,n:=h6.n}:Hp).set (h.n+1) (.cells [jE,iv c,iv 0,jE,jE,jE] 27)).set (h.n+1) (.cells [jE,iv c,iv d,jE,jE,jE] 27):=⟨_,rfl⟩;rw [<-hh7];have g7: ∀k,k≠h.n+1->h7.t.get k=h6.t.get k:=fun k hk=>by rw [hh7,xZR,xZZ,if_neg hk,xZR,xZZ,if_neg hk]
  have n7:h7.n=h6.n:=by rw [hh7];rfl
  refine next _ h7 v5 u a b c d (by rw [hhead,hnum]) na nb nc nd hge (by simp [xZZ]) (by simp [xZZ]) (by simp [xZZ]) (by simp [xZZ]) (by simp [xZZ]) ⟨?_,?_,?_,?_,?_,by omega⟩
  ·rw [hh7];exact ((show Fr h.n h {t:=h6.t,n:=h6.n} from f6h).set (by omega) (show h.n+1<h6.n by omega) _).set (by omega) (by rw [xZM];show h.n+1<h6.n;omega) _
  ·rw [g7 _ (by omega)];exact r6
  ·rw [hh7,xZR,xZZ,if_pos rfl]
  ·refine (o56.lower (by omega)).keepT (by omega) fun k cs h1 h2 h3=> ?_;rw [g7 k (by omega)];exact h3
  ·refine (ou.lower (by omega)).keepT (by omega) fun k cs h1 h2 h3=> ?_;rw [g7 k (by omega)];exact h3
end Go.Proofs.Kn
namespace Go.Proofs.Kn
open Go Go.Ev
set_option maxRecDepth 100000
set_option maxHeartbeats 4000000
theorem SB.keep {h hg h':Hp} {ls:List (List UInt8)} {ns:List Int} {v5 v7:AV} {vs:List AV} (r:SB h hg ls ns v5 v7 vs) (f:Fr hg.n hg h'):SB h h' ls ns v5 v7 vs:=by
 have h1:=r.fr.le;have h2:=r.lt;have h4:=f.le;exact ⟨r.fr.trans f h1,(f.at_ _ (.inl (by omega))).trans r.r,(f.at_ _ (.inl (by omega))).trans r.m,r.l.fr f (xZY _),r.u.fr f (xZY _),by omega⟩
theorem SB.step {h hg h':Hp} {ls:List (List UInt8)} {ns:List Int} {v5 v7:AV} {e:Nat} {vs vs':List AV} (r:SB h hg ls ns v5 v7 vs) (f:Fr (h.n+2) hg h') (hp: ∀k cs' e',e'≠e->k<hg.n->hg.t.get k=some (.cells cs' e')->h'.t.get k=some (.cells cs' e')) (he:e≠27/\e≠9/\e≠3):SB h (h'.set (h.n+1) (.cells vs' 27)) ls ns v5 v7 vs':=by
 have h1:=r.fr.le;have h2:=r.lt;have h4:=f.le;have gs: ∀k,k≠h.n+1->(h'.set (h.n+1) (.cells vs' 27)).t.get k=h'.t.get k:=fun k hk=>by rw [xZR,xZZ,if_neg hk]
 refine ⟨(r.fr.trans f (by omega)).set (by omega) (by omega) _,?_,?_,?_,?_,by rw [xZM];omega⟩
 ·rw [gs _ (by omega)];exact hp _ _ _ (Ne.symm he.1) (by omega) r.r
 ·rw [xZR,xZZ,if_pos rfl]
 ·refine r.l.keepT (by rw [xZM];omega) fun k cs q1 q2 q3=> ?_;rw [gs _ (by omega)];exact hp _ _ _ (Ne.symm he.2.1) q1 q3
 ·refine r.u.keepT (by rw [xZM];omega) fun k cs q1 q2 q3=> ?_;rw [gs _ (by omega)];exact hp _ _ _ (Ne.symm he.2.2) q1 q3
theorem qA4 (b:Int): ∀{ls:List (List UInt8)} {k:Nat} {l:List UInt8},ls[k]? =some l-> ¬(l.length:Int)=b->vK b ls=none
 |[],k,l,h,_=>by simp at h
 |x::ls,0,l,h,hb=>by
  simp only [List.getElem?_cons_zero,Option.some.injEq] at h;subst h;simp only [vK,if_neg hb]
 |x::ls,k+1,l,h,hb=>by
  have ih:=qA4 b (ls:=ls) (k:=k) (l:=l) (by simpa using h) hb;simp only [vK,ih];split<;>simp
theorem qBQ {s:List UInt8} {a b c d:Int} (ht:uQ (spl 32 ((spl 10 s).headD []))=some [a,b,c,d]) (hge:a+3<=((spl 10 s).length:Int)) (hr:vK b (((spl 10 s).drop 1).take a.toNat)=none):yT s=none:=by
 have:vO s=none:=by
  rw [vO,ht];show (if a+3<=((spl 10 s).length:Int) then _ else none)=none;rw [if_pos hge,hr]
 rw [yT,this];rfl
theorem rowR_snoc {l:List UInt8} {c:Nat} (hc:c<l.length):xP (l.take (c+1))=xP (l.take c)++[xY l[c]]:=by
 rw [xP,xP,List.take_succ,xZW hc,xZX];rfl
noncomputable def c13b:Code:=zR c13a
theorem rows_R (xt:Addr->Option Value) (h:Hp) (s:List UInt8) (hs:s.length<=1000000) (tm:T AV) (hg:Hp) (v5 v7:AV) (a b c d:Int) (ht:uQ (spl 32 ((spl 10 s).headD []))=some [a,b,c,d]) (na:jK a) (nb:jK b) (hge:a+3<=((spl 10 s).length:Int))
  (g0:tm.get 0=some (sv s)) (g2:tm.get 2=some (.ptr h.n 0)) (g4:tm.get 4=some (.ptr (h.n+1) 0)) (g5:tm.get 5=some v5) (g7:tm.get 7=some v7) (sb:SB h hg (spl 10 s) [a,b,c,d] v5 v7 [jE,iv c,iv d,jE,jE,jE])
  (next: ∀tm hg vc rows,vK b (((spl 10 s).drop 1).take a.toNat)=some rows->tm.get 0=some (sv s)->tm.get 2=some (.ptr h.n 0)->tm.get 4=some (.ptr (h.n+1) 0)->tm.get 5=some v5->tm.get 7=some v7->SB h hg (spl 10 s) [a,b,c,d] v5 v7 [vc,iv c,iv d,jE,jE,jE]->GR hg (h.n+2) vc rows->wpc (SE xt) none c13b ⟨tm,234,hg,[]⟩ (Q13 xt h s)):
  wpc (SE xt) none c13a ⟨tm,234,hg,[]⟩ (Q13 xt h s):=by
 refine vC rfl ?_;obtain ⟨ls,hls⟩: ∃ls,ls=spl 10 s:=⟨_,rfl⟩;obtain ⟨A,hA⟩: ∃A,A=a.toNat:=⟨_,rfl⟩;have haA:a=(A:Int):=by rw [hA];have:=na.1;omega
 have hbad:=qBQ ht hge;rw [<-hls,<-hA] at hbad next;rw [<-hls] at sb hge;obtain ⟨rl,hrl⟩: ∃rl,rl=(ls.drop 1).take A:=⟨_,rfl⟩;rw [<-hrl] at hbad next;have hrlen:rl.length=A:=by rw [hrl,xZN,List.length_drop];omega
 have hlpart: ∀l∈rl,l.length<=1000000:=fun l hl=>xZP (kU 10 s l (by rw [<-hls];rw [hrl] at hl;exact List.mem_of_mem_drop (List.mem_of_mem_take hl))) hs;have hA3:A<1000:=by have:=na.2;omega
 have one5:=sb.l.one;have one7:=sb.u.one;subst haA;refine qG ?_;refine qA fun K hn hp=> ?_;simp only [sw.1,rE,reduceIte,rL,rA,rM,rD,svn.down,syw.1,qB];apply hn;refine qI fun KA A1 A2 A3 A4 A5=> ?_;refine qY (sok xt) (fun st=> ∃(k:Nat) (hk:Hp) (vc:AV) (rows:List (List Int)) (tm:T AV),st=⟨tm,234,hk,[]⟩/\k<=A+1/\tm.get 0=some (sv s)/\tm.get 2=some (.ptr h.n 0)/\tm.get 4=some (.ptr (h.n+1) 0)/\tm.get 5=some (v5)/\tm.get 7=some (v7)/\tm.get 9=some (iv k)/\SB h hk ls [(A:Int),b,c,d] v5 v7 [vc,iv c,iv d,jE,jE,jE]/\GR hk (h.n+2) vc rows/\rows.length+1=k/\vK b rl=(vK b (rl.drop (k - 1))).map (rows++ ·)) (fun st=>A+1 - (match st.tm.get 9 with|some (.val (.int _ n))=>n.toNat|_=>0)) ?_ ?_
 ·rintro st ⟨k,hk,vc,rows,tm,rfl,hkA,g0,g2,g4,g5,g7,g9,sk,gr,hrk,hrp⟩;have muA:=g9;have q:decide ((k:Int)<=(A:Int))=decide (k<=A):=decide_eq_decide.2 ⟨fun h=>by omega,fun h=>by omega⟩;obtain ⟨q0,x1,_,_,x4,_⟩:=sk.u.idx (i:=0) vJ rfl tg3 rfl (by simp) (k:= .i64);have x1:qK tb 65 v7 (iv 0)=some (.ptr q0 0):=x1;refine qG ?_;refine qA fun K hn hp=> ?_;simp only [sw.1,rE,reduceIte,rL,rA,rM,rD,svn.down,syw.1,qB,g0,g2,g4,g5,g7,g9,x1,x4,q];apply hn;by_cases hlt:k<=A
  ·refine qF true (by simp only [sw.1,rE,reduceIte,rL,rA,rM,rD,svn.down,syw.1,qB,g0,g2,g4,g5,g7,g9,hlt]) (fun _=> ?_) (fun hx=>by cases hx);refine qN ?_;refine qI fun K2 e1 e2 e3 e4 e5=> ?_;obtain ⟨l,hl⟩: ∃l,l=rl[k - 1]'(by omega):=⟨_,rfl⟩;have hlk:rl[k - 1]? =some l:=by rw [hl];exact xZW (by omega)
   have hll:l.length<=1000000:=hlpart l (xZV hlk);have hlls:ls[k]? =some l:=by
    rw [hrl,List.getElem?_take,if_pos (by omega),List.getElem?_drop,show 1+(k - 1)=k by omega] at hlk;exact hlk
   have hgrow:=sk.fr.le;have hskl:=sk.lt;refine qA fun K hn hp=> ?_;simp only [sw.1,rE,reduceIte,rL,rA,rM,rD,svn.down,syw.1,qB,g0,g2,g4,g5,g7,g9];apply hn;refine qG ?_;refine qA fun K hn hp=> ?_;simp only [sw.1,rE,reduceIte,rL,rA,rM,rD,svn.down,syw.1,qB,g0,g2,g4,g5,g7,g9];apply hn;refine qI fun KD D1 D2 D3 D4 D5=> ?_;refine qY (sok xt) (fun st=> ∃(j:Nat) (hr:Hp) (w:AV) (tm:T AV),st=⟨tm,234,hr,[]⟩/\j<=l.length/\tm.get 0=some (sv s)/\tm.get 2=some (.ptr h.n 0)/\tm.get 4=some (.ptr (h.n+1) 0)/\tm.get 5=some (v5)/\tm.get 7=some (v7)/\tm.get 9=some (iv k)/\tm.get 10=some (w)/\tm.get 11=some (iv j)/\Fr hk.n hk hr/\OwnSl hr hk.n 1 85 w (xP (l.take j)).length ((xP (l.take j)).map iv)) (fun st=>l.length - (match st.tm.get 11 with|some (.val (.int _ n))=>n.toNat|_=>0)) ?_ ?_
   ·rintro st ⟨j,hr,w,tm,rfl,hkD,g0,g2,g4,g5,g7,g9,g10,g11,fr,ow⟩;have muD:=g11;have q2:decide ((j:Int)<(l.length:Int))=decide (j<l.length):=qJ _ _;have sr:=sk.keep fr;obtain ⟨b5,i1,_,_,i4,_⟩:=sr.l.idx (i:=k) vN t96 tg9 rfl (by omega) (k:= .i64);have hld:jV (hr.t.get b5) (k*1)=some (sv l):=by
     rw [i4,zC,Nat.mul_one,xZS,hlls];rfl
    refine qG ?_;refine qA fun K hn hp=> ?_;simp only [sw.1,rE,reduceIte,rL,rA,rM,rD,svn.down,syw.1,qB,g0,g2,g4,g5,g7,g9,g10,g11,i1,hld,q2];apply hn;by_cases hj:j<l.length
    ·refine qF true (by simp only [sw.1,rE,reduceIte,rL,rA,rM,rD,svn.down,syw.1,qB,g0,g2,g4,g5,g7,g9,g10,g11,hj]) (fun _=> ?_) (fun hx=>by cases hx);refine qN ?_;refine qI fun K3 f1 f2 f3 f4 f5=> ?_;have ix:=ix9 l hj;have hrj:(xP (l.take j)).length=j:=by rw [xP,xZQ,xZN];omega
     obtain ⟨h',p1,p2,p3,p4⟩:=wY (P:=Tryz.prog) (xt:=xt) (sz:=1) (by_:=8) (c:=[iv (xY l[j])]) (ee:=te85) (te:=te42) wH rfl gN rfl rfl ow fr.le (fbn hr [iv (xY l[j])] 85) rfl (jG _ _) rfl rfl (by omega) (by omega);have oww:=ow.one;have hs2:=rowR_snoc hj;have w3:=qW hj (by omega);have d35:decide (((l[j]).toNat:Int)=35)=decide (l[j]=35):=decide_eq_decide.2 ⟨fun h=>UInt8.toNat_inj.1 (by rw [show (35:UInt8).toNat=35 from rfl];omega),fun h=>by rw [h];rfl⟩;have d111:decide (((l[j]).toNat:Int)=111)=decide (l[j]=111):=decide_eq_decide.2 ⟨fun h=>UInt8.toNat_inj.1 (by rw [show (111:UInt8).toNat=111 from rfl];omega),fun h=>by rw [h];rfl⟩;refine qA fun K hn hp=> ?_;simp only [sw.1,rE,reduceIte,rL,rA,rM,rD,svn.down,syw.1,qB,g0,g2,g4,g5,g7,g9,g10,g11];apply hn;refine qG ?_;by_cases b35:l[j]=35
     ·have b111: ¬l[j]=111:=by rw [b35];decide
      have hcr:xY l[j]=2:=by rw [xY,if_neg b111,if_pos b35]
      refine qA fun K hn hp=> ?_;simp only [sw.1,rE,reduceIte,rL,rA,rM,rD,svn.down,syw.1,qB,g0,g2,g4,g5,g7,g9,g10,g11,i1,hld,ix,d35,decide_eq_true b35];apply hn;refine qQ true (by simp only [sw.1,rE,reduceIte,rL,rA,rM,rD,svn.down,syw.1,qB,g0,g2,g4,g5,g7,g9,g10,g11]) (fun _=> ?_) (fun hx=>by cases hx);refine qA fun K hn hp=> ?_;simp only [sw.1,rE,reduceIte,rL,rA,rM,rD,svn.down,syw.1,qB,g0,g2,g4,g5,g7,g9,g10,g11];apply hn;refine qG ?_;refine qA fun K hn hp=> ?_;simp only [sw.1,rE,reduceIte,rL,rA,rM,rD,svn.down,syw.1,qB,g0,g2,g4,g5,g7,g9,g10,g11,i1,hld,ix,d111,decide_eq_false b111];apply hn;refine qQ false (by simp only [sw.1,rE,reduceIte,rL,rA,rM,rD,svn.down,syw.1,qB,g0,g2,g4,g5,g7,g9,g10,g11]) (fun hx=>by cases hx) (fun _=> ?_);refine jO ?_;rw [hcr] at p1;refine reg fun K hn hp=> ?_;simp only [sw.1,rE,reduceIte,rL,rA,rM,rD,svn.down,syw.1,qB,g0,g2,g4,g5,g7,g9,g10,g11,qH,b42_1,p1];apply hn;refine f1 _ ?_;refine reg fun K hn hp=> ?_;simp only [sw.1,rE,reduceIte,rL,rA,rM,rD,svn.down,syw.1,qB,g0,g2,g4,g5,g7,g9,g10,g11,w3];apply hn;refine ⟨⟨j+1,h',.sl (hr.n+1) 0 ((xP (l.take j)).length+1) 1,_,rfl,by omega,(by simp [xZZ,g0,g2,g4,g5,g7,g9,g10,g11]),(by simp [xZZ,g0,g2,g4,g5,g7,g9,g10,g11]),(by simp [xZZ,g0,g2,g4,g5,g7,g9,g10,g11]),(by simp [xZZ,g0,g2,g4,g5,g7,g9,g10,g11]),(by simp [xZZ,g0,g2,g4,g5,g7,g9,g10,g11]),(by simp [xZZ,g0,g2,g4,g5,g7,g9,g10,g11]),(by simp [xZZ,g0,g2,g4,g5,g7,g9,g10,g11]),(by simp [xZZ,g0,g2,g4,g5,g7,g9,g10,g11]),fr.trans p3 (xZY _),by rw [hs2,xZU,xZX];exact p2⟩,by simpa [xZZ,muD] using (by omega:l.length - (j+1)<l.length - j)⟩
     by_cases b111:l[j]=111
     ·have hcr:xY l[j]=3:=by rw [xY,if_pos b111]
      refine qA fun K hn hp=> ?_;simp only [sw.1,rE,reduceIte,rL,rA,rM,rD,svn.down,syw.1,qB,g0,g2,g4,g5,g7,g9,g10,g11,i1,hld,ix,d35,decide_eq_false b35];apply hn;refine qQ false (by simp only [sw.1,rE,reduceIte,rL,rA,rM,rD,svn.down,syw.1,qB,g0,g2,g4,g5,g7,g9,g10,g11]) (fun hx=>by cases hx) (fun _=> ?_);refine jO ?_;refine qG ?_;refine qA fun K hn hp=> ?_;simp only [sw.1,rE,reduceIte,rL,rA,rM,rD,svn.down,syw.1,qB,g0,g2,g4,g5,g7,g9,g10,g11,i1,hld,ix,d111,decide_eq_true b111];apply hn;refine qQ true (by simp only [sw.1,rE,reduceIte,rL,rA,rM,rD,svn.down,syw.1,qB,g0,g2,g4,g5,g7,g9,g10,g11]) (fun _=> ?_) (fun hx=>by cases hx);refine qA fun K hn hp=> ?_;simp only [sw.1,rE,reduceIte,rL,rA,rM,rD,svn.down,syw.1,qB,g0,g2,g4,g5,g7,g9,g10,g11];apply hn;rw [hcr] at p1;refine reg fun K hn hp=> ?_;simp only [sw.1,rE,reduceIte,rL,rA,rM,rD,svn.down,syw.1,qB,g0,g2,g4,g5,g7,g9,g10,g11,qH,b42_1,p1];apply hn;refine f1 _ ?_;refine reg fun K hn hp=> ?_;simp only [sw.1,rE,reduceIte,rL,rA,rM,rD,svn.down,syw.1,qB,g0,g2,g4,g5,g7,g9,g10,g11,w3];apply hn;refine ⟨⟨j+1,h',.sl (hr.n+1) 0 ((xP (l.take j)).length+1) 1,_,rfl,by omega,(by simp [xZZ,g0,g2,g4,g5,g7,g9,g10,g11]),(by simp [xZZ,g0,g2,g4,g5,g7,g9,g10,g11]),(by simp [xZZ,g0,g2,g4,g5,g7,g9,g10,g11]),(by simp [xZZ,g0,g2,g4,g5,g7,g9,g10,g11]),(by simp [xZZ,g0,g2,g4,g5,g7,g9,g10,g11]),(by simp [xZZ,g0,g2,g4,g5,g7,g9,g10,g11]),(by simp [xZZ,g0,g2,g4,g5,g7,g9,g10,g11]),(by simp [xZZ,g0,g2,g4,g5,g7,g9,g10,g11]),fr.trans p3 (xZY _),by rw [hs2,xZU,xZX];exact p2⟩,by simpa [xZZ,muD] using (by omega:l.length - (j+1)<l.length - j)⟩
     ·have hcr:xY l[j]=1:=by rw [xY,if_neg b111,if_neg b35]
      refine qA fun K hn hp=> ?_;simp only [sw.1,rE,reduceIte,rL,rA,rM,rD,svn.down,syw.1,qB,g0,g2,g4,g5,g7,g9,g10,g11,i1,hld,ix,d35,decide_eq_false b35];apply hn;refine qQ false (by simp only [sw.1,rE,reduceIte,rL,rA,rM,rD,svn.down,syw.1,qB,g0,g2,g4,g5,g7,g9,g10,g11]) (fun hx=>by cases hx) (fun _=> ?_);refine jO ?_;refine qG ?_;refine qA fun K hn hp=> ?_;simp only [sw.1,rE,reduceIte,rL,rA,rM,rD,svn.down,syw.1,qB,g0,g2,g4,g5,g7,g9,g10,g11,i1,hld,ix,d111,decide_eq_false b111];apply hn;refine qQ false (by simp only [sw.1,rE,reduceIte,rL,rA,rM,rD,svn.down,syw.1,qB,g0,g2,g4,g5,g7,g9,g10,g11]) (fun hx=>by cases hx) (fun _=> ?_);refine jO ?_;rw [hcr] at p1;refine reg fun K hn hp=> ?_;simp only [sw.1,rE,reduceIte,rL,rA,rM,rD,svn.down,syw.1,qB,g0,g2,g4,g5,g7,g9,g10,g11,qH,b42_1,p1];apply hn;refine f1 _ ?_;refine reg fun K hn hp=> ?_;simp only [sw.1,rE,reduceIte,rL,rA,rM,rD,svn.down,syw.1,qB,g0,g2,g4,g5,g7,g9,g10,g11,w3];apply hn;refine ⟨⟨j+1,h',.sl (hr.n+1) 0 ((xP (l.take j)).length+1) 1,_,rfl,by omega,(by simp [xZZ,g0,g2,g4,g5,g7,g9,g10,g11]),(by simp [xZZ,g0,g2,g4,g5,g7,g9,g10,g11]),(by simp [xZZ,g0,g2,g4,g5,g7,g9,g10,g11]),(by simp [xZZ,g0,g2,g4,g5,g7,g9,g10,g11]),(by simp [xZZ,g0,g2,g4,g5,g7,g9,g10,g11]),(by simp [xZZ,g0,g2,g4,g5,g7,g9,g10,g11]),(by simp [xZZ,g0,g2,g4,g5,g7,g9,g10,g11]),(by simp [xZZ,g0,g2,g4,g5,g7,g9,g10,g11]),fr.trans p3 (xZY _),by rw [hs2,xZU,xZX];exact p2⟩,by simpa [xZZ,muD] using (by omega:l.length - (j+1)<l.length - j)⟩
    ·have hjl:j=l.length:=by omega
     subst hjl;rw [List.take_length] at ow;have hrl2:(xP l).length=l.length:=by rw [xP,xZQ]
     refine qF false (by simp only [sw.1,rE,reduceIte,rL,rA,rM,rD,svn.down,syw.1,qB,g0,g2,g4,g5,g7,g9,g10,g11,hj]) (fun hx=>by cases hx) (fun _=> ?_);refine qX (D2 _ ?_);obtain ⟨q1,y1,_,_,y4,_⟩:=sr.u.idx (i:=1) vJ rfl tg3 rfl (by simp) (k:= .i64);have y1:qK tb 65 v7 (iv 1)=some (.ptr q1 1):=y1;have hlw: ∀h',vX tb h' 42 w=some (xP l).length:=fun h'=>ow.len (tb:=tb) wH rfl;have cw:=ow.cells;have oww:=ow.one;refine qG ?_;by_cases hb:(l.length:Int)=b
     rotate_left
     ·have hb': ¬((xP l).length:Int)=b:=by rw [hrl2];exact hb
      refine qA fun K hn hp=> ?_;simp only [sw.1,rE,reduceIte,rL,rA,rM,rD,svn.down,syw.1,qB,g0,g2,g4,g5,g7,g9,g10,g11,hlw,y1,y4,decide_eq_false hb',Bool.not_false];apply hn;refine qF true (by simp only [sw.1,rE,reduceIte,rL,rA,rM,rD,svn.down,syw.1,qB,g0,g2,g4,g5,g7,g9,g10,g11]) (fun _=> ?_) (fun hx=>by cases hx);refine qG ?_;refine qA fun K hn hp=> ?_;simp only [sw.1,rE,reduceIte,rL,rA,rM,rD,svn.down,syw.1,qB,g0,g2,g4,g5,g7,g9,g10,g11,sr.r,wE];apply hn;exact jI (e4 _ (A4 _ (Q13.nos (hbad (qA4 b hlk hb)) (sr.fr) (show h.n<hr.n by have:=sr.lt;omega) (by simp [xZZ,g2]) (by simp [xZZ]))))
     have hb':((xP l).length:Int)=b:=by rw [hrl2];exact hb
     refine qA fun K hn hp=> ?_;simp only [sw.1,rE,reduceIte,rL,rA,rM,rD,svn.down,syw.1,qB,g0,g2,g4,g5,g7,g9,g10,g11,hlw,y1,y4,decide_eq_true hb',Bool.not_true];apply hn;refine qF false (by simp only [sw.1,rE,reduceIte,rL,rA,rM,rD,svn.down,syw.1,qB,g0,g2,g4,g5,g7,g9,g10,g11]) (fun hx=>by cases hx) (fun _=> ?_);refine qN ?_;have grC:GR hr (h.n+2) vc rows:=gr.keepT fr.le (fun k cs h1 _ h3=>by rw [fr.at_ k (.inl h1)];exact h3) (fun k cs h1 _ h3=>by rw [fr.at_ k (.inl h1)];exact h3);obtain ⟨h',p1,p2,p3,p4,p5⟩:=grC.snoc (xt:=xt) (ow.lower (by omega)) (by have:=sr.lt;omega) (by omega);have qM:=sr.m;have qM':=p5 _ _ _ (by decide) (by have:=sr.lt;omega) qM;have ovc:Go.Ev.one vc=true:=by obtain ⟨_,o,_⟩:=gr;exact o.one
     refine reg fun K hn hp=> ?_;simp only [sw.1,rE,reduceIte,rL,rA,rM,rD,svn.down,syw.1,qB,g0,g2,g4,g5,g7,g9,g10,g11,qM,qH,b22_1,cw,p1,qM'];apply hn;refine e1 _ ?_;have w3:=qW (n:=A+1) (k:=k) (by omega) (by omega);refine reg fun K hn hp=> ?_;simp only [sw.1,rE,reduceIte,rL,rA,rM,rD,svn.down,syw.1,qB,g0,g2,g4,g5,g7,g9,g10,g11,w3];apply hn;have hrp2:vK b rl=(vK b (rl.drop (k+1 - 1))).map ((rows++[xP l])++ ·):=by
      rw [hrp,List.drop_eq_getElem_cons (by omega),<-hl,vK,if_pos hb,show k - 1+1=k+1 - 1 by omega];cases vK b (rl.drop (k+1 - 1))<;>simp
     refine ⟨⟨k+1,h'.set (h.n+1) (.cells [.sl (hr.n+1) 0 (rows.length+1) 1,iv c,iv d,jE,jE,jE] 27),.sl (hr.n+1) 0 (rows.length+1) 1,rows++[xP l],_,rfl,by omega,(by simp [xZZ,g0,g2,g4,g5,g7,g9]),(by simp [xZZ,g0,g2,g4,g5,g7,g9]),(by simp [xZZ,g0,g2,g4,g5,g7,g9]),(by simp [xZZ,g0,g2,g4,g5,g7,g9]),(by simp [xZZ,g0,g2,g4,g5,g7,g9]),(by simp [xZZ,g0,g2,g4,g5,g7,g9]),sr.step p3 p5 (by decide),p2.set (by omega) _,by simp;omega,hrp2⟩,by simpa [xZZ,muA] using (by omega:A+1 - (k+1)<A+1 - k)⟩
   ·exact ⟨0,hk,jE,_,rfl,by omega,by simp [xZZ,g0],by simp [xZZ,g2],by simp [xZZ,g4],by simp [xZZ,g5],by simp [xZZ,g7],by simp [xZZ,g9],by simp [xZZ],by simp [xZZ],Fr.refl (xZY _),by simpa [xP] using OwnSl.nil⟩
  ·have hkA:k=A+1:=by omega
   subst hkA;have hrows:vK b rl=some rows:=by rw [hrp,Nat.add_sub_cancel,<-hrlen,List.drop_length];simp [vK]
   refine qF false (by simp only [sw.1,rE,reduceIte,rL,rA,rM,rD,svn.down,syw.1,qB,g0,g2,g4,g5,g7,g9,hlt]) (fun hx=>by cases hx) (fun _=> ?_);refine qX (A2 _ (next _ hk vc rows hrows (by simp [xZZ,g0]) (by simp [xZZ,g2]) (by simp [xZZ,g4]) (by simp [xZZ,g5]) (by simp [xZZ,g7]) sk gr))
 ·exact ⟨1,hg,jE,[],_,rfl,by omega,by simp [xZZ,g0],by simp [xZZ,g2],by simp [xZZ,g4],by simp [xZZ,g5],by simp [xZZ,g7],by simp [xZZ],sb,GR.nil _ _,rfl,by simp⟩
end Go.Proofs.Kn
