/- Parts of the proof, joined by a program. -/
import Derived.Test.YtmklipblkmlojaaGreatDoorQE6
import Derived.Test.YtmklipblkmlojaaGreatDoorQM
import Derived.Test.YtmklipblkmlojaaGreatDoorQK
set_option linter.all false
open Nat renaming reduceEqDiff → rE, reduceLeDiff → rD, reduceAdd → rA, reduceMul → rM, reduceLT → rL
open Go.Ev.T renaming get_put → xZZ
open Nat renaming le_refl → xZY, le_of_lt → xZQ
open List renaming any_eq_false → xZX
open Bool renaming not_eq_true' → xZW, and_eq_true → xZV, or_eq_false_iff → xZU, not_eq_true → xZS, not_eq_false' → xZP
open Go.Ev.Hp renaming set_t → xZT, set_n → xZR
namespace Go.Ev
theorem FnA.dfr2 {E:Env} (ok:SyOk E) {f:FuncId} {D:Dfr} (hD:IsDfr E.P f D) {fn fng:Func} (hft:E.ft.get f=some fn) (hfn:D.fn=fn) (hfng:D.fng=fng) {a c rest:Code} {id idr:Nat} {o1 o2 orr:Oper} (hb:fn.body=some (.seq a (.seq (.region id #[o1,o2] false) c))) (hbg:fng.body=some (.seq (.region idr #[orr] false) rest)) (hne:c≠a) {args:List AV} (nt ng d rd g:Nat) (caps:List Operand) (hdd:D.d=d) (hrr:D.rd=rd) (hgg:D.g=g) (hcc:D.caps.toList=caps) (hnt:args.length+(fn.ntmps - args.length)=nt) (hng:caps.length+(fng.ntmps - caps.length)=ng) (hd:d<nt) (hrd:rd<ng) {h:Hp} {K:CR->Hp->Prop}
  (hw:wpc E none a ⟨argsTo args 0 .e,nt,h,[]⟩ (fun x sA=>x= .normal/\sA.mks=[]/\sA.nt=nt/\wpc E none c ⟨sA.tm.put (some (.fn (.func g) [] (caps.map (qH sA.tm)))) d,nt,sA.h,[]⟩ (fun x sC=>sC.mks=[]/\ ∃v,rcv x=some v/\
   wpc E none rest ⟨(argsTo (caps.map (qH sA.tm)) 0 .e).put (some v) rd,ng,sC.h,[]⟩ (fun y sE=>(y= .normal\/y= .ret)/\sE.mks=[]/\ ∃vs,vE E sC.tm sE.h fn.results.toList=some vs/\K (.ret (zB vs)) sE.h)))):FnA E f args h K:=by
 have h1:=hD.fb;have h2:=hD.gb;rw [hfn,hb] at h1;rw [hfng,hbg] at h2;simp only [Option.some.injEq,Code.seq.injEq,Code.region.injEq] at h1 h2;obtain ⟨q1,_,q2⟩:=h1;obtain ⟨_,q3⟩:=h2;subst hfn hfng hdd hrr hgg hcc;exact FnA.dfr ok hD hft (by rw [<-q1,<-q2];exact hne) nt ng hnt hng hd hrd (by rw [<-q1,<-q2,<-q3];exact hw)
end Go.Ev
namespace Go.Proofs.Kn
open Go Go.Ev
set_option maxRecDepth 100000
set_option maxHeartbeats 4000000
theorem tg162:tb.get 162=some te162:=by kernel_rfl
theorem kD (h:Hp) (b off:Nat) (v:AV):jP tb h 162 (.ptr b off) v=jL 1 h b off v (h.t.get b):=zS tg162 rfl
theorem kH (h:Hp):j7 tb h 162=some (.ptr h.n 0,h.new (.cells [sv []] 162)):=yH (zs:=[.string (bs [])]) tg162 rfl
theorem ft135 (xt:Addr->Option Value):(SE xt).ft.get 37=some Tryz.f37:=by kernel_rfl
theorem ty_nil:vO Tryz.prog tb .eql 20 (.tmp 5) (.const .nilIface) (.val .nilIface) (.val .nilIface)=some (.val (.bool true)):=by kernel_rfl
theorem resOf_c {E:Env} {tm:T AV} {h:Hp} {t:Tmp} {ty:TypeId} {v:AV} (h2:qW E.tb E.xt h ty ((tm.get t).getD default)=some v):vE E tm h [.cell t ty]=some [v]:=by
 have e1:(match tm.get t with|some a=>a|none=>default)=(tm.get t).getD default:=by cases tm.get t<;>rfl
 show (match qW E.tb E.xt h ty (match tm.get t with|some a=>a|none=>default) with|none=>none|some v=>match vE E tm h [] with|none=>none|some l=>some (v::l))=_;rw [e1,h2];rfl
theorem res135:Tryz.f37.results.toList=[.cell 2 30]:=by kernel_rfl
theorem ty_no (y:List UInt8):vO Tryz.prog tb .eql 20 (.tmp 5) (.const .nilIface) (.ifc 162 (.agg [sv y])) (.val .nilIface)=some (.val (.bool false)):=by kernel_rfl
theorem as_no (v:AV):vL tb (.ifc 162 v) 160 true=some (.tup [.val te160.zv,.val (.bool false)]):=by kernel_rfl
theorem as_n (v:AV):vL tb (.ifc 162 v) 162 true=some (.tup [v,.val (.bool true)]):=by kernel_rfl
theorem try_n (xt:Addr->Option Value) (h:Hp) (fv:AV) {KK:CR->Hp->Prop} (hdo:CallA (SE xt) fv [] (h.new (.cells [iv 0] 30)) (fun res h'=>h'.t.get h.n=some (.cells [iv 0] 30)/\h.n<h'.n/\((∃x,res= .ret x)\/ ∃y,res= .pan (kQ y))/\KK res h')):
  FnA (SE xt) 37 [fv] h (fun r h''=> ∃res h',KK res h'/\(∀k,k≠h.n->k<h'.n\/h''.n<=k->h''.t.get k=h'.t.get k)/\h'.n<=h''.n/\(((∃x,res= .ret x)/\r= .ret (iv 0))\/(∃y,res= .pan (kQ y))/\r= .ret (iv 4))):=by
 refine FnA.dfr2 (sok xt) (D:=D135) (fng:=Tryz.f90) d135_is (ft135 xt) (by kernel_rfl) (by kernel_rfl) rfl rfl (fun h=>by cases h) 6 14 3 5 90 [.tmp 2] (by kernel_rfl) (by kernel_rfl) (by kernel_rfl) (by kernel_rfl) rfl rfl (by omega) (by omega) ?_;refine reg fun K hn hp=> ?_;simp only [sw.1,rE,reduceIte,rL,rA,rM,rD,svn.down,syw.1,qE,qD,qC,kD,kH];refine hn _ _ ⟨rfl,rfl,rfl,?_⟩;refine qA fun K hn hp=> ?_;simp only [sw.1,rE,reduceIte,rL,rA,rM,rD,svn.down,syw.1,qE,qD,qC,kD,kH,List.map];refine hdo.mono fun res h' hres=> ?_;obtain ⟨q1,q2,q3,q4⟩:=hres;rcases q3 with ⟨x,rfl⟩|⟨y,rfl⟩
 ·simp only [sw.1,rE,reduceIte,rL,rA,rM,rD,svn.down,syw.1,qE,qD,qC,kD,kH];apply hn;refine qA fun K hn hp=> ?_;simp only [sw.1,rE,reduceIte,rL,rA,rM,rD,svn.down,syw.1,qE,qD,qC,kD,kH,q1];apply hn;refine qJ ⟨rfl,_,rfl,?_⟩;simp only [sw.1,rE,reduceIte,rL,rA,rM,rD,svn.down,syw.1,qE,qD,qC,kD,kH,List.map];refine zQ fun K k1 k2 k3 k4 k5=> ?_;refine qA fun K hn hp=> ?_;simp only [sw.1,rE,reduceIte,rL,rA,rM,rD,svn.down,syw.1,qE,qD,qC,kD,kH,ty_nil];apply hn;refine qT true (by simp only [sw.1,rE,reduceIte,rL,rA,rM,rD,svn.down,syw.1,qE,qD,qC,kD,kH]) (fun _=> ?_) (fun hx=>by cases hx);refine reg fun K hn hp=> ?_;simp only [sw.1,rE,reduceIte,rL,rA,rM,rD,svn.down,syw.1,qE,qD,qC,kD,kH];apply hn;refine k1 _ ⟨.inl rfl,rfl,[iv 0],?_,_,h',q4,fun k hk _=> ?_,xZY _,.inl ⟨⟨_,rfl⟩,rfl⟩⟩
  ·rw [res135];refine resOf_c ?_;simp only [sw.1,rE,reduceIte,rL,rA,rM,rD,svn.down,syw.1,qE,qD,qC,kD,kH]
  ·rw [xZT,xZZ,if_neg hk]
 ·simp only [sw.1,rE,reduceIte,rL,rA,rM,rD,svn.down,syw.1,qE,qD,qC,kD,kH,kQ];refine hp _ _ _ ⟨rfl,_,rfl,?_⟩;simp only [sw.1,rE,reduceIte,rL,rA,rM,rD,svn.down,syw.1,qE,qD,qC,kD,kH,List.map];refine zQ fun K k1 k2 k3 k4 k5=> ?_;refine qA fun K hn hp=> ?_;simp only [sw.1,rE,reduceIte,rL,rA,rM,rD,svn.down,syw.1,qE,qD,qC,kD,kH,ty_no];apply hn;refine qT false (by simp only [sw.1,rE,reduceIte,rL,rA,rM,rD,svn.down,syw.1,qE,qD,qC,kD,kH]) (fun hx=>by cases hx) (fun _=> ?_);refine qA fun K hn hp=> ?_;simp only [sw.1,rE,reduceIte,rL,rA,rM,rD,svn.down,syw.1,qE,qD,qC,kD,kH,as_no,u6,qD,qC];apply hn;refine qT false (by simp only [sw.1,rE,reduceIte,rL,rA,rM,rD,svn.down,syw.1,qE,qD,qC,kD,kH]) (fun hx=>by cases hx) (fun _=> ?_);refine qA fun K hn hp=> ?_;simp only [sw.1,rE,reduceIte,rL,rA,rM,rD,svn.down,syw.1,qE,qD,qC,kD,kH,as_n,u6,qD,qC];apply hn;refine qT true (by simp only [sw.1,rE,reduceIte,rL,rA,rM,rD,svn.down,syw.1,qE,qD,qC,kD,kH]) (fun _=> ?_) (fun hx=>by cases hx);refine qA fun K hn hp=> ?_;simp only [sw.1,rE,reduceIte,rL,rA,rM,rD,svn.down,syw.1,qE,qD,qC,kD,kH];apply hn;obtain ⟨h2,hh2⟩: ∃h2:Hp,h2=(h'.new (.cells [sv []] 162)).set h'.n (.cells [sv y] 162):=⟨_,rfl⟩;have nh2:h2.n=h'.n+1:=by rw [hh2];rfl
  have sh2:h2.t.get h'.n=some (.cells [sv y] 162):=by rw [hh2,xZT,xZZ,if_pos rfl]
  have kh2: ∀k,k<h'.n->h2.t.get k=h'.t.get k:=fun k hk=>by rw [hh2];exact yM _ _ _ hk
  have fbh2:Fr h'.n h' h2:=by rw [hh2];exact yN _ _ _
  have fh2:=fbh2;rw [<-hh2];have q5:=(kh2 h.n q2).trans q1;refine reg fun K hn hp=> ?_;simp only [sw.1,rE,reduceIte,rL,rA,rM,rD,svn.down,syw.1,qE,qD,qC,kD,kH,sh2,nh2,q5];apply hn;refine k1 _ ⟨.inl rfl,rfl,[iv 4],?_,_,h',q4,fun k hk hk2=> ?_,?_,.inr ⟨⟨_,rfl⟩,rfl⟩⟩
  ·rw [res135];refine resOf_c ?_;simp only [sw.1,rE,reduceIte,rL,rA,rM,rD,svn.down,syw.1,qE,qD,qC,kD,kH,sh2,nh2,q5]
  ·simp only [xZR] at hk2;rw [xZT,xZZ,if_neg hk];exact fbh2.at_ k hk2
  ·simp only [xZR];omega
end Go.Proofs.Kn
namespace Go.Proofs.Kn
open Go Go.Ev
set_option maxRecDepth 100000
set_option maxHeartbeats 4000000
theorem ft38s (xt:Addr->Option Value):(SE xt).ft.get 38=some Tryz.f38:=by kernel_rfl
def R1R (xt:Addr->Option Value) (h:Hp) (Bm:Nat) (o:Option Md) (res:CR) (h':Hp):Prop:=
 (∀k,k≠Bm->(k<h.n\/h'.n<=k)->h'.t.get k=h.t.get k)/\h.n<=h'.n/\match o with
 |some d=> ∃a b c e,res= .ret (.tup [])/\h'.t.get Bm=some (.cells (d.mp a b c e).cs 27)/\AtF xt h' (h.n+1) (d.mp a b c e)
 |none=> ∃y,res= .pan (kQ y)
theorem rd1_c (xt:Addr->Option Value) (hx:Lx xt) (h:Hp) (s:List UInt8) (hs:s.length<=900) (B1 Bm:Nat) (q1:h.t.get B1=some (.cells [sv s] 9)) (qm:h.t.get Bm=some (.cells z27 27)) (hB:Bm<h.n):FnA (SE xt) 38 [.ptr B1 0,.ptr Bm 0] h (R1R xt h Bm (j9 s)):=by
 refine FnA.walk (sok xt) (ft38s xt) rfl 4 rfl ?_;refine reg fun K hn hp=> ?_;simp only [sw.1,rE,reduceIte,rL,rA,rM,rD,svn.down,syw.1,qE,qD,qC,q1];refine qB (sok xt) (FnA.mono (read_c xt hx h s hs) fun res h1 hres=> ?_);obtain ⟨f1,hr⟩:=hres;cases hread:j9 s with
 |none=>
  rw [hread] at hr;obtain ⟨y,rfl⟩:=hr;simp only [sw.1,rE,reduceIte,rL,rA,rM,rD,svn.down,syw.1,qE,qD,qC,kQ];refine hp _ _ _ ⟨h1,rfl,fun k _ hk=>f1.at_ k hk,f1.le,?_⟩;rw [hread];exact ⟨y,rfl⟩
 |some d=>
  rw [hread] at hr;obtain ⟨a,b,c,e,rfl,ha⟩:=hr;obtain ⟨o1,o2,o3,o4⟩:=ha.at_.ones;have qm1:=(f1.at_ Bm (.inl hB)).trans qm;have hle:=f1.le;simp only [sw.1,rE,reduceIte,rL,rA,rM,rD,svn.down,syw.1,qE,qD,qC,qm1,o1,o2,o3,o4];refine hn _ _ ⟨_,[],rfl,rfl,fun k hk1 hk2=> ?_,by rw [xZR];exact hle,?_⟩
  ·rw [xZT,xZZ,if_neg hk1];exact f1.at_ k hk2
  ·rw [hread];refine ⟨a,b,c,e,rfl,by rw [xZT,xZZ,if_pos rfl],fun h'' h2 h3=>ha h'' (by rw [xZR] at h2;exact h2) fun k k1 k2=> ?_⟩;rw [h3 k k1 (by rw [xZR];exact k2),xZT,xZZ,if_neg (by omega)]
end Go.Proofs.Kn
namespace Go.Proofs.Kn
open Go Go.Ev
set_option maxRecDepth 100000
set_option maxHeartbeats 4000000
theorem ft10s (xt:Addr->Option Value):(SE xt).ft.get 10=some Tryz.f10:=by kernel_rfl
theorem qBM:Tryz.f10.results.toList=[.cell 2 27,.tmp 3]:=by kernel_rfl
theorem ft8s (xt:Addr->Option Value):(SE xt).ft.get 8=some Tryz.f8:=by kernel_rfl
theorem res8s:Tryz.f8.results.toList=[.tmp 2,.tmp 3]:=by kernel_rfl
def Md.ok (d:Md):Bool:=(d.mp jU jU jU jU).ok
theorem vU {x a b:Int} (h:inB x a b=true):a<=x/\x<=b:=by
 simp only [inB,xZV,decide_eq_true_eq] at h;exact h
theorem Mp.ok_txt {m:Mp} (h:m.ok=true):Txt m:=by
 simp only [Mp.ok,Mp.restOk,xZV] at h;obtain ⟨hR,hrow,hT,hH,g8,k8,p12,hg,hk,hp⟩:=h;have hR:=vU hR;have hT:=vU hT;have hH:=vU hH;have g8:=of_decide_eq_true g8;have k8:=of_decide_eq_true k8;have p12:=of_decide_eq_true p12;have hRR:m.R=m.cells.length:=rfl;have hrow': ∀l∈m.cells,(l.length:Int)=m.C/\(1<=(l.length:Int)/\(l.length:Int)<=8)/\ ∀x∈l,1<=x/\x<=3:=fun l hl=>by
  have:=List.all_eq_true.1 hrow l hl;simp only [Mp.rowOk,xZV] at this;obtain ⟨q1,q2,q3⟩:=this;refine ⟨of_decide_eq_true q1,vU q2,fun x hx=> ?_⟩;simp only [xZW,xZX] at q3;have:=q3 x hx;simp only [zK,xZS,xZU,decide_eq_false_iff_not] at this;omega
 have hC:m.C<=8/\0<=m.C:=by
  have hne:0<m.cells.length:=by omega
  obtain ⟨l,hl⟩: ∃l,m.cells[0]? =some l:=⟨_,List.getElem?_eq_getElem hne⟩;obtain ⟨q1,q2,_⟩:=hrow' l (List.mem_of_getElem? hl);omega
 have hins: ∀r c:Int,m.inside r c=true->zJ r/\zJ c:=fun r c hi=>by
  simp only [Mp.inside,xZV] at hi;have h1:=vU hi.1;have h2:=vU hi.2;exact ⟨⟨by omega,by omega⟩,⟨by omega,by omega⟩⟩
 refine ⟨fun l hl x hx=>(hrow' l hl).2.2 x hx,by omega,fun l hl=>by have:=(hrow' l hl).2.1;omega,⟨by omega,by omega⟩,⟨by omega,by omega⟩,fun g hgm=> ?_,fun k hkm=> ?_,fun p hpm=> ?_,by omega,by omega,by omega⟩
 ·simp only [xZW,xZX] at hg;have:=hg g hgm;simp only [Mp.badG,xZS,xZU,xZP] at this;obtain ⟨q1,_,q3,q4⟩:=this;obtain ⟨i1,i2⟩:=hins _ _ q1;have q3:=vU q3;have q4:=vU q4;exact ⟨i1,i2,⟨by omega,by omega⟩,⟨by omega,by omega⟩⟩
 ·simp only [xZW,xZX] at hk;have:=hk k hkm;simp only [Mp.badK,xZS,xZU,xZP] at this;exact hins _ _ this.1
 ·simp only [xZW,xZX] at hp;have:=hp p hpm;have hi:m.inside p.1 p.2=true:=by
   cases hh:m.inside p.1 p.2 with
   |true=>rfl
   |false=>simp [Mp.is,hh] at this
  exact hins _ _ hi
theorem print_c (xt:Addr->Option Value) (hx:Lx xt) (h:Hp) (m:Mp) (ha:m.At xt h) {K:CR->Hp->Prop} (hk: ∀n,h.n<n->K (.ret (.tup (if m.ok then [sv m.textB,iv 0] else [sv [],iv 2]))) (h.up n)):FnA (SE xt) 8 [m.av] h K:=by
 refine FnA.calm ?_ hk;clear hk K;refine FnA.walk (sok xt) (ft8s xt) rfl 9 rfl ?_;obtain ⟨o1,o2,o3,o4⟩:=ha.ones;refine qA fun K hn hp=> ?_;simp only [sw.1,rE,reduceIte,rL,rA,rM,rD,svn.down,syw.1,qE,qD,qC,o1,o2,o3,o4];apply hn;obtain ⟨h1,hh1⟩: ∃h1:Hp,h1=h.new (.cells m.cs 27):=⟨_,rfl⟩;rw [<-hh1];have nh1:h1.n=h.n+1:=by rw [hh1];rfl
 have sh1:h1.t.get h.n=some (.cells m.cs 27):=by rw [hh1];exact jO _ _
 have kh1: ∀k,k<h.n->h1.t.get k=h.t.get k:=fun k hk=>by rw [hh1];exact zW _ _ hk
 have fbh1:Fr h.n h h1:=by rw [hh1];exact (Fr.refl (xZY _)).new _
 have fh1:=fbh1;have ha1:=ha.fr fh1 (xZY _);refine qL ?_;refine qA fun K hn hp=> ?_;simp only [sw.1,rE,reduceIte,rL,rA,rM,rD,svn.down,syw.1,qE,qD,qC,o1,o2,o3,o4,sh1,nh1];refine qB (sok xt) (isMap_c xt h1 m ha1 fun n1 hn1=> ?_);cases q:m.ok
 ·simp only [sw.1,rE,reduceIte,rL,rA,rM,rD,svn.down,syw.1,qE,qD,qC,o1,o2,o3,o4,sh1,nh1,q];apply hn;refine qF true (by simp only [sw.1,rE,reduceIte,rL,rA,rM,rD,svn.down,syw.1,qE,qD,qC,o1,o2,o3,o4,sh1,nh1]) (fun _=> ?_) (fun hx=>by cases hx);refine qL ?_;refine qA fun K hn hp=> ?_;simp only [sw.1,rE,reduceIte,rL,rA,rM,rD,svn.down,syw.1,qE,qD,qC,o1,o2,o3,o4,sh1,nh1];apply hn;refine zF (qBz res8s ⟨?_,fh1.up (xZQ hn1)⟩);simp [xZZ,q]
 ·simp only [sw.1,rE,reduceIte,rL,rA,rM,rD,svn.down,syw.1,qE,qD,qC,o1,o2,o3,o4,sh1,nh1,q];apply hn;refine qF false (by simp only [sw.1,rE,reduceIte,rL,rA,rM,rD,svn.down,syw.1,qE,qD,qC,o1,o2,o3,o4,sh1,nh1]) (fun hx=>by cases hx) (fun _=> ?_);refine qV ?_;refine qA fun K hn hp=> ?_;simp only [sw.1,rE,reduceIte,rL,rA,rM,rD,svn.down,syw.1,qE,qD,qC,o1,o2,o3,o4,sh1,nh1];refine qB (sok xt) (text_c xt hx _ m (ha1.up (xZQ hn1)) (Mp.ok_txt q) fun n2 hn2=> ?_);simp only [Hp.up_n] at hn2;simp only [sw.1,rE,reduceIte,rL,rA,rM,rD,svn.down,syw.1,qE,qD,qC,o1,o2,o3,o4,sh1,nh1,Hp.up_up];refine hn _ _ (qJ (qBz res8s ⟨?_,fh1.up (by omega)⟩));simp [xZZ,q]
def RdR (xt:Addr->Option Value) (h:Hp) (s:List UInt8) (res:CR) (h':Hp):Prop:=Fr h.n h h'/\
 if 600<s.length then res= .ret (.tup [.agg z27,iv 3]) else match j9 s with
  |none=>res= .ret (.tup [.agg z27,iv 4])
  |some d=>if d.ok then∃a b c e,res= .ret (.tup [(d.mp a b c e).av,iv 0])/\(d.mp a b c e).At xt h' else res= .ret (.tup [.agg z27,iv 2])
theorem bd27z:vZ tb 27 []=some (.agg z27):=by kernel_rfl
theorem Read_c (xt:Addr->Option Value) (hx:Lx xt) (h:Hp) (s:List UInt8) (hs:s.length<=900):FnA (SE xt) 10 [sv s] h (RdR xt h s):=by
 refine FnA.walk (sok xt) (ft10s xt) rfl 21 rfl ?_;refine qA fun K hn hp=> ?_;simp only [sw.1,rE,reduceIte,rL,rA,rM,rD,svn.down,syw.1,qE,qD,qC];apply hn;obtain ⟨h1,hh1⟩: ∃h1:Hp,h1=h.new (.cells [sv s] 9):=⟨_,rfl⟩;rw [<-hh1];have nh1:h1.n=h.n+1:=by rw [hh1];rfl
 have sh1:h1.t.get h.n=some (.cells [sv s] 9):=by rw [hh1];exact jO _ _
 have kh1: ∀k,k<h.n->h1.t.get k=h.t.get k:=fun k hk=>by rw [hh1];exact zW _ _ hk
 have fbh1:Fr h.n h h1:=by rw [hh1];exact (Fr.refl (xZY _)).new _
 have fh1:=fbh1;obtain ⟨h2,hh2⟩: ∃h2:Hp,h2=h1.new (.cells z27 27):=⟨_,rfl⟩;rw [<-hh2];have nh2:h2.n=h1.n+1:=by rw [hh2];rfl
 have sh2:h2.t.get h1.n=some (.cells z27 27):=by rw [hh2];exact jO _ _
 have kh2: ∀k,k<h1.n->h2.t.get k=h1.t.get k:=fun k hk=>by rw [hh2];exact zW _ _ hk
 have fbh2:Fr h1.n h1 h2:=by rw [hh2];exact (Fr.refl (xZY _)).new _
 have fh2:Fr h.n h h2:=fh1.trans fbh2 (by omega);simp only [nh1,Nat.add_assoc,rA] at nh2 sh2 kh2;have s1:=(kh2 h.n (by omega)).trans sh1;refine qL ?_;refine qA fun K hn hp=> ?_;simp only [sw.1,rE,reduceIte,rL,rA,rM,rD,svn.down,syw.1,qE,qD,qC,sh1,nh1,sh2,nh2,s1];apply hn;by_cases hl:600<s.length
 ·have hl':decide ((600:Int)<(s.length:Int))=true:=decide_eq_true (by omega);refine qF true (by simp only [sw.1,rE,reduceIte,rL,rA,rM,rD,svn.down,syw.1,qE,qD,qC,sh1,nh1,sh2,nh2,hl']) (fun _=> ?_) (fun hx=>by cases hx);refine qL ?_;refine qA fun K hn hp=> ?_;simp only [sw.1,rE,reduceIte,rL,rA,rM,rD,svn.down,syw.1,qE,qD,qC,sh1,nh1,sh2,nh2,s1,bd27z];apply hn;refine zF (qAO (v:= .agg z27) qBM (by simp only [sw.1,rE,reduceIte,rL,rA,rM,rD,svn.down,syw.1,qE,qD,qC,sh1,nh1,sh2,nh2]) ⟨fh2.set (by omega) (by omega) _,?_⟩);rw [if_pos hl];simp [xZZ]
 ·have hl':decide ((600:Int)<(s.length:Int))=false:=decide_eq_false (by omega);refine qF false (by simp only [sw.1,rE,reduceIte,rL,rA,rM,rD,svn.down,syw.1,qE,qD,qC,sh1,nh1,sh2,nh2,hl']) (fun hx=>by cases hx) (fun _=> ?_);refine qV ?_;refine qA fun K hn hp=> ?_;simp only [sw.1,rE,reduceIte,rL,rA,rM,rD,svn.down,syw.1,qE,qD,qC,sh1,nh1,sh2,nh2];apply hn;obtain ⟨h3,hh3⟩: ∃h3:Hp,h3=h2.new (.cells z27 27):=⟨_,rfl⟩;rw [<-hh3];have nh3:h3.n=h2.n+1:=by rw [hh3];rfl
  have sh3:h3.t.get h2.n=some (.cells z27 27):=by rw [hh3];exact jO _ _
  have kh3: ∀k,k<h2.n->h3.t.get k=h2.t.get k:=fun k hk=>by rw [hh3];exact zW _ _ hk
  have fbh3:Fr h2.n h2 h3:=by rw [hh3];exact (Fr.refl (xZY _)).new _
  have fh3:Fr h.n h h3:=fh2.trans fbh3 (by omega);simp only [nh2,Nat.add_assoc,rA] at nh3 sh3 kh3;have s31:=(kh3 h.n (by omega)).trans s1;have s32:=(kh3 (h.n+1) (by omega)).trans sh2;refine qL ?_;refine qA fun K hn hp=> ?_;simp only [sw.1,rE,reduceIte,rL,rA,rM,rD,svn.down,syw.1,qE,qD,qC,sh1,nh1,sh2,nh2,sh3,nh3,List.map];obtain ⟨h4,hh4,n4,s4,k4,f4⟩:=newE h3 (.cells [iv 0] 30);refine qB (sok xt) (FnA.mono (try_n xt h3 (.fn (.func 38) [] [.ptr h.n 0,.ptr (h.n+2) 0]) (KK:=R1R xt h4 (h.n+2) (j9 s)) ?_) fun res h7 hres=> ?_)
  ·rw [<-hh4];refine gD (sok xt) (FnA.mono (rd1_c xt hx h4 s hs h.n (h.n+2) ((k4 _ (by omega)).trans s31) ((k4 _ (by omega)).trans sh3) (by omega)) fun res h5 hres=> ?_);obtain ⟨r1,r2,r3⟩:=hres;refine ⟨(r1 _ (by omega) (.inl (by omega))).trans s4,by omega,?_,r1,r2,r3⟩;cases hr:j9 s with
   |none=>rw [hr] at r3;exact .inr r3
   |some d=>rw [hr] at r3;obtain ⟨a,b,c,e,q,_⟩:=r3;exact .inl ⟨_,q⟩
  obtain ⟨res5,h5,⟨r1,r2,r3⟩,t1,t2,t3⟩:=hres;have low: ∀k,k<h.n+3->k≠h.n+2->h7.t.get k=h3.t.get k:=fun k hk hk2=>by
   rw [t1 k (by omega) (.inl (by omega)),r1 k hk2 (.inl (by omega)),k4 k (by omega)]
  have f7:Fr h.n h h7:=⟨by omega,by omega,fun k hk=>by
   rcases hk with hk|hk
   ·rw [low k (by omega) (by omega)];exact fh3.at_ k (.inl hk)
   ·rw [t1 k (by omega) (.inr hk),r1 k (by omega) (.inr (by omega)),f4.at_ k (.inr (by omega))];exact fh3.at_ k (.inr (by omega))⟩
  have qr:=(low (h.n+1) (by omega) (by omega)).trans s32;rcases t3 with ⟨⟨x,hx1⟩,rfl⟩|⟨⟨y,hy1⟩,rfl⟩
  rotate_left
  ·have hn0:j9 s=none:=by
    cases hr:j9 s with
    |none=>rfl
    |some d=>rw [hr] at r3;obtain ⟨_,_,_,_,q,_⟩:=r3;rw [hy1] at q;cases q
   simp only [sw.1,rE,reduceIte,rL,rA,rM,rD,svn.down,syw.1,qE,qD,qC,sh1,nh1,sh2,nh2,sh3,nh3];apply hn;refine qL ?_;refine qA fun K hn hp=> ?_;simp only [sw.1,rE,reduceIte,rL,rA,rM,rD,svn.down,syw.1,qE,qD,qC,sh1,nh1,sh2,nh2,sh3,nh3];apply hn;refine qF true (by simp only [sw.1,rE,reduceIte,rL,rA,rM,rD,svn.down,syw.1,qE,qD,qC,sh1,nh1,sh2,nh2,sh3,nh3,show (!decide ((4:Int)=0))=true from rfl]) (fun _=> ?_) (fun hx=>by cases hx);refine qL ?_;refine qA fun K hn hp=> ?_;simp only [sw.1,rE,reduceIte,rL,rA,rM,rD,svn.down,syw.1,qE,qD,qC,sh1,nh1,sh2,nh2,sh3,nh3,qr,bd27z];apply hn;refine zF (qAO (v:= .agg z27) qBM (by simp only [sw.1,rE,reduceIte,rL,rA,rM,rD,svn.down,syw.1,qE,qD,qC,sh1,nh1,sh2,nh2,sh3,nh3]) ⟨f7.set (by omega) (by omega) _,?_⟩);rw [if_neg hl,hn0];simp [xZZ]
  obtain ⟨d,hr⟩: ∃d,j9 s=some d:=by
   cases hr:j9 s with
   |none=>rw [hr] at r3;obtain ⟨y,q⟩:=r3;rw [hx1] at q;cases q
   |some d=>exact ⟨d,rfl⟩
  rw [hr] at r3;obtain ⟨a,b,c,e,_,qm5,ha5⟩:=r3;have qm7:h7.t.get (h.n+2)=some (.cells (d.mp a b c e).cs 27):=by rw [t1 _ (by omega) (.inl (by omega))];exact qm5
  have ha7: ∀h'':Hp,h7.n<=h''.n->(∀k,h4.n+1<=k->k<h7.n->h''.t.get k=h7.t.get k)->(d.mp a b c e).At xt h'':=fun h'' g1 g2=>ha5 h'' (by omega) fun k k1 k2=>by
   rw [g2 k k1 (by omega),t1 k (by omega) (.inl k2)]
  have ham:=ha7 h7 (xZY _) fun _ _ _=>rfl;obtain ⟨o1,o2,o3,o4⟩:=ham.ones;simp only [sw.1,rE,reduceIte,rL,rA,rM,rD,svn.down,syw.1,qE,qD,qC,sh1,nh1,sh2,nh2,sh3,nh3];apply hn;refine qL ?_;refine qA fun K hn hp=> ?_;simp only [sw.1,rE,reduceIte,rL,rA,rM,rD,svn.down,syw.1,qE,qD,qC,sh1,nh1,sh2,nh2,sh3,nh3];apply hn;refine qF false (by simp only [sw.1,rE,reduceIte,rL,rA,rM,rD,svn.down,syw.1,qE,qD,qC,sh1,nh1,sh2,nh2,sh3,nh3,show (!decide ((0:Int)=0))=false from rfl]) (fun hx=>by cases hx) (fun _=> ?_);refine qV ?_;refine qL ?_;refine qA fun K hn hp=> ?_;simp only [sw.1,rE,reduceIte,rL,rA,rM,rD,svn.down,syw.1,qE,qD,qC,sh1,nh1,sh2,nh2,sh3,nh3,qm7];refine qB (sok xt) (isMap_c xt h7 _ ham fun n1 hn1=> ?_);have f8:=f7.up (xZQ hn1);have hok:(d.mp a b c e).ok=d.ok:=rfl;rw [hok];cases q:d.ok
  ·simp only [sw.1,rE,reduceIte,rL,rA,rM,rD,svn.down,syw.1,qE,qD,qC,sh1,nh1,sh2,nh2,sh3,nh3];apply hn;refine qF true (by simp only [sw.1,rE,reduceIte,rL,rA,rM,rD,svn.down,syw.1,qE,qD,qC,sh1,nh1,sh2,nh2,sh3,nh3]) (fun _=> ?_) (fun hx=>by cases hx);refine qL ?_;refine qA fun K hn hp=> ?_;simp only [sw.1,rE,reduceIte,rL,rA,rM,rD,svn.down,syw.1,qE,qD,qC,sh1,nh1,sh2,nh2,sh3,nh3,qr,bd27z];apply hn;refine zF (qAO (v:= .agg z27) qBM (by simp only [sw.1,rE,reduceIte,rL,rA,rM,rD,svn.down,syw.1,qE,qD,qC,sh1,nh1,sh2,nh2,sh3,nh3]) ⟨f8.set (by omega) (by rw [Hp.up_n];omega) _,?_⟩);rw [if_neg hl,hr];simp [xZZ,q]
  ·simp only [sw.1,rE,reduceIte,rL,rA,rM,rD,svn.down,syw.1,qE,qD,qC,sh1,nh1,sh2,nh2,sh3,nh3];apply hn;refine qF false (by simp only [sw.1,rE,reduceIte,rL,rA,rM,rD,svn.down,syw.1,qE,qD,qC,sh1,nh1,sh2,nh2,sh3,nh3]) (fun hx=>by cases hx) (fun _=> ?_);refine qV ?_;refine qA fun K hn hp=> ?_;simp only [sw.1,rE,reduceIte,rL,rA,rM,rD,svn.down,syw.1,qE,qD,qC,sh1,nh1,sh2,nh2,sh3,nh3,qr,qm7,o1,o2,o3,o4];apply hn;refine qJ (qAO (v:=(d.mp a b c e).av) qBM (by simp only [sw.1,rE,reduceIte,rL,rA,rM,rD,svn.down,syw.1,qE,qD,qC,sh1,nh1,sh2,nh2,sh3,nh3]) ⟨f8.set (by omega) (by rw [Hp.up_n];omega) _,?_⟩);rw [if_neg hl,hr];simp only [q,if_true];refine ⟨a,b,c,e,by simp [xZZ],ha7 _ (by rw [xZR,Hp.up_n];omega) fun k k1 _=> ?_⟩;rw [xZT,xZZ,if_neg (by omega)];rfl
end Go.Proofs.Kn
