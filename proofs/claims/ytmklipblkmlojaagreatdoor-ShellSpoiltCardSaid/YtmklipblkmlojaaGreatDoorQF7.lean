/- Parts of the proof, joined by a program. -/
import Derived.Lib.ConvBytes
import Derived.Test.YtmklipblkmlojaaGreatDoorQC
import Derived.Test.YtmklipblkmlojaaGreatDoorQF6
set_option linter.all false
open Nat renaming reduceEqDiff → rE, reduceLeDiff → rD, reduceAdd → rA, reduceMul → rM, reduceLT → rL
open Go.Ev.T renaming get_put → xZZ
open List renaming map_cons → xZY, length_set → xZW
open Nat renaming le_trans → xZX, le_refl → xZV, blt_eq → xZT
open Array renaming getElem?_push → xZU
noncomputable section
namespace Go.Ev
open Go
set_option maxRecDepth 100000
def u8v (b:UInt8):Value:= .int .u8 (b.toNat:Int)
section
variable {P:Program} {tb:T TE} {lim:Nat} {c:Ctx} {h:Hp} {w:World}
theorem Good.fz (g:Good lim c h w) {b:Nat} {bs:List UInt8} {e:TypeId} (hb:h.t.get b=some (.fz bs e)):
  ∃(xs:Array Value) (z:Nat×Nat),w.heap[c.ρ b]? =some (.cells xs e z)/\xs.size=c.sz b/\xs.size<=z.1/\bs.length<=xs.size/\xs.toList.take bs.length=bs.map u8v:=by
 obtain ⟨_,o',h1,h2⟩:=g.live b _ hb;simp only [RO] at h2;obtain ⟨xs,z,rfl,h3⟩:=h2;exact ⟨xs,z,h1,h3⟩
theorem qBf (w:World) (e:TypeId) (s:ByteArray):Lib.bytesWorld w e s={w.drew with heap:=w.drew.heap.push (.cells (Lib.bytesCells w e s) e ((Lib.bytesCells w e s).size,(Lib.bytesCells w e s).size+1))}:=by
 have key: ∀(hp:Array Obj) (n:Nat) (xs:Array Value),n=hp.size->(hp.push (.cells xs e)).modify n (fun
   | .cells c elem (lo,hi)=> .cells c elem (if lo==hi then (xs.size,xs.size+1) else (min lo xs.size,max hi (xs.size+1)))
   |o=>o)=hp.push (.cells xs e (xs.size,xs.size+1)):=by
  intro hp n xs hn;subst hn;apply Array.ext_getElem?
  intro j;rw [Array.getElem?_modify,xZU,xZU];by_cases hj:hp.size=j
  ·subst hj;simp
  ·simp only [hj,if_false];rw [if_neg (Ne.symm hj)];rw [if_neg (Ne.symm hj)]
 have h1:=key w.drew.heap w.heap.size (Lib.bytesCells w e s) rfl;show ({w.drew.alloc (.cells (Lib.bytesCells w e s) e) with heap:=_}:World)=_;exact congrArg (fun hp:Array Obj=>({w.drew with heap:=hp}:World)) h1
theorem conv_ok (htb:Tb P tb) (g:Good lim c h w) (hlim:h.n<lim) {s d e:TypeId} {se de ee:TE} (hs:tb.get s=some se) (hsd:se.d= .str) (hd:tb.get d=some de) (hdd:de.d= .slice e) (he:tb.get e=some ee) (hed:ee.d= .int .u8) (a:List UInt8):
  VOK P lim c h w (convert s d (.string (bs a))) (.sl h.n 0 a.length 1) (h.new (.fz a e)):=by
 obtain ⟨is,us,zs,ts⟩:=htb s se hs;obtain ⟨idd,ud,zd,td⟩:=htb d de hd;obtain ⟨ie,ue,ze,te⟩:=htb e ee he;have hu1:=ts.d;rw [hsd] at hu1;simp only [zO] at hu1;subst hu1;have hu2:=td.d;rw [hdd] at hu2;simp only [zO] at hu2;subst hu2;have hu3:=te.d;rw [hed] at hu3;simp only [zO] at hu3;subst hu3;have hrun:=Lib.run_convert_string_bytes (P:=P) w s d e (bs a) ts.under td.under te.under;rw [qBf,y9] at hrun;have gd:Good lim c h w.drew:=(Stp.drawn g _).good;have hsz:w.drew.heap.size=w.heap.size:=rfl;have hcap:a.length<=grownCap w a.length 0 e:=grownCap_ge w a.length 0 e;have hxs:(Lib.bytesCells w e (bs a)).size=grownCap w a.length 0 e:=by
  simp only [Lib.bytesCells,y9,Array.size_append,Array.size_map,Array.size_replicate];have:(bs a).data.size=a.length:=by simp [bs]
  omega
 have htk:(Lib.bytesCells w e (bs a)).toList.take a.length=a.map u8v:=by
  simp [Lib.bytesCells,bs,u8v,Function.comp_def]
 have st:=Stp.alloc gd hlim (.fz a e) (.cells (Lib.bytesCells w e (bs a)) e ((Lib.bytesCells w e (bs a)).size,(Lib.bytesCells w e (bs a)).size+1)) (grownCap w a.length 0 e) (by
  simp only [RO];exact ⟨_,_,rfl,by rw [hxs];simp [Ctx.new],xZV _,by rw [hxs];exact hcap,htk⟩)
 refine ⟨_,_,c.new h.n w.drew.heap.size (grownCap w a.length 0 e),hrun,?_,(Stp.drawn g _).trans st⟩;simp only [R];exact ⟨.inr rfl,_,_,rfl,hcap,fun _=>by simp [Ctx.new,hsz],by simp [Ctx.new]⟩
theorem stfz_ok (htb:Tb P tb) (g:Good lim c h w) {t e:TypeId} {te:TE} (ht:tb.get t=some te) (hsz:te.size=1) {b i:Nat} {a:List UInt8} (hb:h.t.get b=some (.fz a e)) (hi:i<a.length) (y:UInt8) {x:Value} (hx:R c (.ptr b i) x):
  ∃w',(Instr.storeAt t x (u8v y)).run P w= .ok () w'/\Stp lim c h w c (h.set b (.fz (a.set i y) e)) w':=by
 obtain ⟨it,ut,zt,tt⟩:=htb t te ht;simp only [R] at hx;obtain ⟨_,rfl⟩:=hx;obtain ⟨xs,z,h1,h2,h3,h4,h5⟩:=g.fz hb;have hix:i<xs.size:=by omega
 have hcell:w.cell? ⟨c.ρ b,i,none⟩=some xs[i]:=by simp [World.cell?,h1,hix]
 have hfro:w.frozen? ⟨c.ρ b,i,none⟩=false:=by
  obtain ⟨lo,hi'⟩:=z;have h3:xs.size<=lo:=h3;simp [World.frozen?,h1];omega
 have hone:(u8v y).oneCell'=true:=rfl;refine ⟨w.setRow (c.ρ b) (xs.setIfInBounds i (u8v y)),?_,Stp.write g _ hb (.cells (xs.setIfInBounds i (u8v y)) e z) ?_ ?_⟩
 ·have hst:(store ((⟨c.ρ b,i,none⟩:Addr).add 0) (u8v y)).run P w= .ok () (w.setRow (c.ρ b) (xs.setIfInBounds i (u8v y))):=by
   rw [uZ,Nat.add_zero,run_store P w _ _ _ hone,hcell];simp [hfro,setCell_eq_setRow w (c.ρ b) i xs e z (u8v y) h1]
  have hcs:(u8v y).cells= #[u8v y]:=rfl;simp only [Instr.storeAt,Instr.sureAddr,storeVar,Sem.run_bind,Sem.run_pure,Result.andThen_ok,tt.run_size,hsz,hcs];simp only [List.size_toArray,List.length_cons,List.length_nil,ne_eq,not_true_eq_false,if_false,storeCells,Sem.run_bind,hst,Result.andThen_ok];rfl
 ·simp only [RO];refine ⟨_,z,rfl,by simpa using h2,by simpa using h3,by simpa using h4,?_⟩;rw [xZW,Array.toList_setIfInBounds,List.take_set,h5,List.map_set];rfl
 ·rw [xI h1]
theorem back_ok (htb:Tb P tb) (g:Good lim c h w) {s d e:TypeId} {se de ee:TE} (hs:tb.get s=some se) (hsd:se.d= .slice e) (hd:tb.get d=some de) (hdd:de.d= .str) (he:tb.get e=some ee) (hed:ee.d= .int .u8) {b:Nat} {a:List UInt8} (hb:h.t.get b=some (.fz a e)) {x:Value} (hx:R c (.sl b 0 a.length 1) x):
  VOK P lim c h w (convert s d x) (sv a) h:=by
 obtain ⟨is,us,zs,ts⟩:=htb s se hs;obtain ⟨idd,ud,zd,td⟩:=htb d de hd;obtain ⟨ie,ue,ze,te⟩:=htb e ee he;have hu1:=ts.d;rw [hsd] at hu1;simp only [zO] at hu1;subst hu1;have hu2:=td.d;rw [hdd] at hu2;simp only [zO] at hu2;subst hu2;have hu3:=te.d;rw [hed] at hu3;simp only [zO] at hu3;subst hu3;simp only [R] at hx;obtain ⟨_,ad,cap,rfl,hlc,had,_⟩:=hx;obtain ⟨xs,z,h1,h2,h3,h4,h5⟩:=g.fz hb;have hns:a.map u8v=(a.map fun b=>(b.toNat:Int)).map (Value.int .u8):=by rw [List.map_map];rfl
 have hld:(loadCells ad a.length).run P w= .ok ((a.map fun b=>(b.toNat:Int)).map (Value.int .u8)).toArray w:=by
  rw [<-hns];rcases Nat.eq_zero_or_pos a.length with h0|h0
  ·have:a=[]:=List.length_eq_zero_iff.1 h0;subst this;simp [loadCells,loadCellsFrom]
  ·rw [had (by omega)];have:=run_loadCells_list (P:=P) w ⟨c.ρ b,0,none⟩ (a.map u8v) (fun j v hj=>by
    rw [uZ,Nat.zero_add,qCc h1];rw [<-h5,List.getElem?_take] at hj;split at hj
    ·simpa using hj
    ·cases hj)
   rwa [List.length_map] at this
 refine VOK.here g (v:= .string (bs a)) ?_ (by simp only [sv,R]);rw [run_convert_bytes_string w s d e _ _ _ ts.under te.under td.under,run_bytesToString w ad a.length cap _ hld,pE];have:(fun n:Int=>UInt8.ofNat n.toNat)∘(fun x:UInt8=>(x.toNat:Int))=id:=by funext x;simp
 rw [List.map_map,this];simp [bs]
end
theorem OpsS.ook {E:Env} {nt:Nat} {ops:Array Oper} {o:Oper} {ol:List Oper} {tm tm1 tm':T AV} {h h1 h':Hp} {v:AV} {x:Ex} (hgo:jI nt ops o=true) (haw:qS ops o tm=true) (hdf: ∀q,o.op≠ .defer q) (hn:h.n<=h1.n)
  (hop: ∀lim,h1.n<=lim-> ∀(c:Ctx) (w:World) (ρ:Operand->Value),Good lim c h w->(∀y,R c (qH tm y) (ρ y))->OOK E.P lim c h w (execOp ρ o) v h1) (hp:gS nt tm o.dst v=some tm1) (hs2:OpsS E nt ops ol tm1 h1 x tm' h'):OpsS E nt ops (o::ol) tm h x tm' h':=by
 refine ⟨xZX hn hs2.1,fun lim hlim l r hm c a w g hxt ht Q hQ=> ?_⟩;cases l with
 |nil=>simp at hm
 |cons i l=>
  simp only [xZY,List.cons.injEq] at hm;obtain ⟨hi,hl⟩:=hm;have hw:=zZ ht ops o (vI hgo);simp only [wpOpsIn,hi,hw,haw,if_true];refine uG hdf (hop lim (xZX hs2.1 hlim) c w a.eval g fun y=>yW (a:=a) ht y) fun v' w' c' hr hst=> ?_;refine hs2.2 lim hlim l r hl c' _ w' hst.good (fun b v hb=>hst.e.ext _ _ (hxt b v hb)) (xV (ht.mono hst.e) hr hp) Q ?_;intro e a' w'' hpost;rw [vH] at hpost;exact hQ e a' w'' (hpost.trans hst)
theorem W.seq {E:Env} {r:Option Nat} {a b:Code} {st:St} {Q:Ex->St->Prop} (h:W E r a st (wI (fun s=>W E r b s Q) Q)):W E r (.seq a b) st Q:=by
 obtain ⟨x,s,h1,h2⟩:=h;cases x with
 |normal=>obtain ⟨y,s',h3,h4⟩:=h2;exact ⟨y,s',h1.seq h3,h4⟩
 |exit id=>exact ⟨_,_,h1.seqOut (by simp),h2⟩
 |goto id=>exact ⟨_,_,h1.seqOut (by simp),h2⟩
 |ret=>exact ⟨_,_,h1.seqOut (by simp),h2⟩
 |panic v=>exact ⟨_,_,h1.seqOut (by simp),h2⟩
theorem W.ops {E:Env} {r:Option Nat} {id:Nat} {ops:Array Oper} {st:St} {Q:Ex->St->Prop} (h: ∃x tm' h',OpsS E st.nt ops ops.toList st.tm st.h x tm' h'/\regK st Q x tm' h'):W E r (.region id ops false) st Q:=by
 obtain ⟨x,tm',h',h1,h2⟩:=h;exact ⟨_,_,.region h1,h2⟩
def OW (E:Env) (nt:Nat) (ops:Array Oper) (ol:List Oper) (tm:T AV) (h:Hp) (Q:Ex->T AV->Hp->Prop):Prop:= ∃x tm' h',OpsS E nt ops ol tm h x tm' h'/\Q x tm' h'
theorem OW.of {E:Env} (htb:Tb E.P E.tb) {nt:Nat} {ops:Array Oper} {ol:List Oper} {tm:T AV} {h:Hp} {Q:Ex->T AV->Hp->Prop} (hw:WO E nt ops ol tm h Q):OW E nt ops ol tm h Q:=WO.ok htb ol tm h Q hw
theorem OW.nil {E:Env} (htb:Tb E.P E.tb) {nt:Nat} {ops:Array Oper} {tm:T AV} {h:Hp} {Q:Ex->T AV->Hp->Prop} (hq:Q .normal tm h):OW E nt ops [] tm h Q:=OW.of htb hq
def oneK (E:Env) (nt:Nat) (ops:Array Oper) (ol:List Oper) (Q:Ex->T AV->Hp->Prop):Ex->T AV->Hp->Prop
 | .normal,tm,h=>OW E nt ops ol tm h Q
 |x,tm,h=>Q x tm h
theorem OW.one {E:Env} (htb:Tb E.P E.tb) {nt:Nat} {ops:Array Oper} {o:Oper} {ol:List Oper} {tm:T AV} {h:Hp} {Q:Ex->T AV->Hp->Prop} (hw: ∀K:Ex->T AV->Hp->Prop,(∀tm h,OW E nt ops ol tm h Q->K .normal tm h)->WO E nt ops [o] tm h K):OW E nt ops (o::ol) tm h Q:=by
 have hw:=hw (oneK E nt ops ol Q) (fun tm h hh=>hh);simp only [WO] at hw;obtain ⟨hgo,hw⟩:=hw;cases haw:qS ops o tm with
 |false=>
  rw [haw] at hw;simp only [cond_false] at hw;obtain ⟨tm1,hp,x,tm',h',hs,hq⟩:=hw.get;refine ⟨x,tm',h',⟨hs.1,fun lim hlim l r hm c a w g hxt ht Q hQ=> ?_⟩,hq⟩;cases l with
  |nil=>simp at hm
  |cons i l=>
   simp only [xZY,List.cons.injEq] at hm;obtain ⟨hi,hl⟩:=hm;have hw:=zZ ht ops o (vI hgo);simp only [wpOpsIn,hi,hw,haw,Bool.false_eq_true,if_false];refine ⟨fun _ _=>trivial,?_⟩;refine hs.2 lim hlim l r hl c _ w g hxt (xV ht (xQ c) hp) Q ?_;intro e a' w' hpost;rw [vH] at hpost;exact hQ e a' w' hpost
 |true=>
  rw [haw] at hw;simp only [cond_true] at hw;obtain ⟨call,res,hs,hop,hk⟩:=hw.ev;have hn1:=pF hs hop;cases res with
  |pan v h1=>
   refine ⟨.panic v,tm,h1,⟨hn1,fun lim hlim l r hm c a w g hxt ht Q hQ=> ?_⟩,hk⟩;cases l with
   |nil=>simp at hm
   |cons i l=>
    simp only [xZY,List.cons.injEq] at hm;obtain ⟨hi,hl⟩:=hm;have hw:=zZ ht ops o (vI hgo);simp only [wpOpsIn,hi,hw,haw,if_true];refine xZ htb hs hop hlim g hxt ht (fun _ _ _ _ _ e=>by cases e) (fun v' h'' y w' c' e hr hst=> ?_);cases e;exact hQ _ _ _ ⟨c',hst,⟨y,rfl,hr⟩,ht.mono hst.e,rfl⟩
  |ok v h1=>
   obtain ⟨tm1,hp,x,tm',h',hs2,hq⟩:=putK.get (show putK nt tm o.dst v (fun tm'=>OW E nt ops ol tm' h1 Q) from hk);refine ⟨x,tm',h',⟨xZX hn1 hs2.1,fun lim hlim l r hm c a w g hxt ht Q hQ=> ?_⟩,hq⟩;cases l with
   |nil=>simp at hm
   |cons i l=>
    simp only [xZY,List.cons.injEq] at hm;obtain ⟨hi,hl⟩:=hm;have hw:=zZ ht ops o (vI hgo);simp only [wpOpsIn,hi,hw,haw,if_true];refine xZ htb hs hop (xZX hs2.1 hlim) g hxt ht (fun v' h'' y w' c' e hr hst=> ?_) (fun _ _ _ _ _ e=>by cases e);cases e;refine hs2.2 lim hlim l r hl c' _ w' hst.good (fun b v hb=>hst.e.ext _ _ (hxt b v hb)) (xV (ht.mono hst.e) hr hp) Q ?_;intro e a' w'' hpost;rw [vH] at hpost;exact hQ e a' w'' (hpost.trans hst)
theorem OW.ook {E:Env} {nt:Nat} {ops:Array Oper} {o:Oper} {ol:List Oper} {tm tm1:T AV} {h h1:Hp} {v:AV} {Q:Ex->T AV->Hp->Prop} (hgo:jI nt ops o=true) (haw:qS ops o tm=true) (hdf: ∀q,o.op≠ .defer q) (hn:h.n<=h1.n)
  (hop: ∀lim,h1.n<=lim-> ∀(c:Ctx) (w:World) (ρ:Operand->Value),Good lim c h w->(∀y,R c (qH tm y) (ρ y))->OOK E.P lim c h w (execOp ρ o) v h1) (hp:gS nt tm o.dst v=some tm1) (hs:OW E nt ops ol tm1 h1 Q):OW E nt ops (o::ol) tm h Q:=by
 obtain ⟨x,tm',h',h1,h2⟩:=hs;exact ⟨x,tm',h',OpsS.ook hgo haw hdf hn hop hp h1,h2⟩
theorem W.ow {E:Env} {r:Option Nat} {id:Nat} {ops:Array Oper} {nt:Nat} {tm:T AV} {h:Hp} {mks:List Nat} {Q:Ex->St->Prop} (hw: ∀K:Ex->T AV->Hp->Prop,(∀tm h,Q .normal ⟨tm,nt,h,mks⟩->K .normal tm h)->(∀v tm h,Q (.panic v) ⟨tm,nt,h,mks⟩->K (.panic v) tm h)->OW E nt ops ops.toList tm h K):W E r (.region id ops false) ⟨tm,nt,h,mks⟩ Q:=
 W.ops (hw (regK ⟨tm,nt,h,mks⟩ Q) (fun tm h hh=>hh) (fun v tm h hh=>hh))
theorem W.step {E:Env} (ok:SyOk E) {r:Option Nat} {a b:Code} {st:St} {Q:Ex->St->Prop} (h:wpc E r a st (wI (fun s=>W E r b s Q) Q)):W E r (.seq a b) st Q:=W.seq (wpc.ok ok.tb _ _ _ h)
theorem OW.conv {E:Env} (ok:SyOk E) {nt:Nat} {ops:Array Oper} {s d e:TypeId} {x:Operand} {dst:Tmp} {ty:TypeId} {ps:String} {af:Array Edge} {ol:List Oper} {tm:T AV} {h:Hp} {Q:Ex->T AV->Hp->Prop} {se de ee:TE} (hs:E.tb.get s=some se) (hsd:se.d= .str) (hd:E.tb.get d=some de) (hdd:de.d= .slice e) (he:E.tb.get e=some ee) (hed:ee.d= .int .u8) {a:List UInt8} (hx:qH tm x=sv a) (hlt:dst<nt)
  (hk:OW E nt ops ol (tm.put (some (.sl h.n 0 a.length 1)) dst) (h.new (.fz a e)) Q):OW E nt ops (⟨some dst,.convert s d x,ty,ps,af,none⟩::ol) tm h Q:=by
 refine OW.ook (o:=⟨some dst,.convert s d x,ty,ps,af,none⟩) rfl rfl (fun q hq=>by cases hq) (by rw [Hp.new_n];omega) (fun lim hl c w ρ g hev=> ?_) (v:= .sl h.n 0 a.length 1) (tm1:=tm.put (some (.sl h.n 0 a.length 1)) dst) ?_ hk
 ·have h1:=hev x;rw [hx] at h1;simp only [sv,R] at h1;show OOK _ _ _ _ _ (do pure (.value (<-convert s d (ρ x)))) _ _;rw [h1];exact (conv_ok ok.tb g (by rw [Hp.new_n] at hl;omega) hs hsd hd hdd he hed a).op
 ·have hb:Nat.blt dst nt=true:=by rw [xZT];exact hlt
  simp [gS,hb]
theorem OW.stfz {E:Env} (ok:SyOk E) {nt:Nat} {ops:Array Oper} {t e:TypeId} {x y:Operand} {ty:TypeId} {ps:String} {af:Array Edge} {ol:List Oper} {tm:T AV} {h:Hp} {Q:Ex->T AV->Hp->Prop} {te:TE} (ht:E.tb.get t=some te) (hsz:te.size=1) {b i:Nat} {a:List UInt8} (hb:h.t.get b=some (.fz a e)) (hi:i<a.length) {z:UInt8} (hx:qH tm x= .ptr b i) (hy:qH tm y= .val (u8v z))
  (hk:OW E nt ops ol tm (h.set b (.fz (a.set i z) e)) Q):OW E nt ops (⟨none,.store t x y,ty,ps,af,none⟩::ol) tm h Q:=by
 refine OW.ook (o:=⟨none,.store t x y,ty,ps,af,none⟩) (v:=default) rfl rfl (fun q hq=>by cases hq) (by rw [Hp.set_n];omega) (fun lim hl c w ρ g hev=> ?_) (tm1:=tm) rfl hk;have h1:=hev x;have h2:=hev y;rw [hx] at h1;rw [hy] at h2;have h2:ρ y=u8v z:=by simpa [R] using h2
 obtain ⟨w',hr,hst⟩:=stfz_ok ok.tb g ht hsz hb hi z h1;show OOK _ _ _ _ _ (do Instr.storeAt t (ρ x) (ρ y);pure .skip) _ _;rw [h2];exact ⟨.skip,undef,w',c,by simp [hr],.inr ⟨rfl,rfl⟩,xQ c,hst⟩
theorem OW.back {E:Env} (ok:SyOk E) {nt:Nat} {ops:Array Oper} {s d e:TypeId} {x:Operand} {dst:Tmp} {ty:TypeId} {ps:String} {af:Array Edge} {ol:List Oper} {tm:T AV} {h:Hp} {Q:Ex->T AV->Hp->Prop} {se de ee:TE} (hs:E.tb.get s=some se) (hsd:se.d= .slice e) (hd:E.tb.get d=some de) (hdd:de.d= .str) (he:E.tb.get e=some ee) (hed:ee.d= .int .u8) {b:Nat} {a:List UInt8} (hb:h.t.get b=some (.fz a e)) (hx:qH tm x= .sl b 0 a.length 1) (hlt:dst<nt)
  (hk:OW E nt ops ol (tm.put (some (sv a)) dst) h Q):OW E nt ops (⟨some dst,.convert s d x,ty,ps,af,none⟩::ol) tm h Q:=by
 refine OW.ook (o:=⟨some dst,.convert s d x,ty,ps,af,none⟩) rfl rfl (fun q hq=>by cases hq) (xZV _) (fun lim hl c w ρ g hev=> ?_) (v:=sv a) (tm1:=tm.put (some (sv a)) dst) ?_ hk
 ·have h1:=hev x;rw [hx] at h1;show OOK _ _ _ _ _ (do pure (.value (<-convert s d (ρ x)))) _ _;exact (back_ok ok.tb g hs hsd hd hdd he hed hb h1).op
 ·have hb:Nat.blt dst nt=true:=by rw [xZT];exact hlt
  simp [gS,hb]
end Go.Ev
end
namespace Go.Proofs.Kn
open Go Go.Ev
set_option maxRecDepth 100000
set_option maxHeartbeats 4000000
theorem ft5s (xt:Addr->Option Value):(SE xt).ft.get 5=some Tryz.f5:=by kernel_rfl
theorem res5s:Tryz.f5.results.toList=[.tmp 6]:=by kernel_rfl
noncomputable def c5a:Code:=vT (vT (vT (vT (qAT Tryz.f5.body))))
theorem W_at {E:Env} {r:Option Nat} {c c':Code} {st:St} {Q:Ex->St->Prop} (h:c=c') (hw:W E r c' st Q):W E r c st Q:=by rw [h];exact hw
theorem qCx (xt:Addr->Option Value) (hx:Lx xt) (m:Mp) (q:m.ok=true) (s:List UInt8) (hs:s=m.textB) (dg_ at_:Int) (d0: ¬dg_<0) (d9: ¬9<dg_) (tm:T AV) (hg:Hp) (g1:tm.get 1=some (iv at_)) (g2:tm.get 2=some (iv dg_)) (g7:tm.get 7=some (sv s)):
  W (SE xt) none c5a ⟨tm,90,hg,[]⟩ (uU (SE xt) Tryz.f5 uQ):=by
 refine W_at rfl ?_;have hlen:=Mp.text_600 q;rw [<-hs] at hlen;refine W.step (sok xt) ?_;refine qA fun K hn hp=> ?_;have finK: ∀(hg:Hp) (tm:T AV),tm.get 64=some (.val (.bool true))->K .normal tm hg:=by
  intro hg tm g64;apply hn;refine qT true (by simp only [sw.1,rE,reduceIte,rL,rA,rM,rD,svn.down,syw.1,qE,qD,qC,g1,g2,g7,g64]) (fun _=> ?_) (fun hx=>by cases hx);refine qA fun K hn hp=> ?_;simp only [sw.1,rE,reduceIte,rL,rA,rM,rD,svn.down,syw.1,qE,qD,qC];refine qB (sok xt) (qBU xt _ fun n2 hn2=> ?_);simp only [sw.1,rE,reduceIte,rL,rA,rM,rD,svn.down,syw.1,qE,qD,qC];refine hn _ _ (qJ (jB (K:=uQ) res5s ?_));simp [xZZ,uQ]
 by_cases a0:at_<0
 ·simp only [sw.1,rE,reduceIte,rL,rA,rM,rD,svn.down,syw.1,qE,qD,qC,g1,g2,g7,decide_eq_true a0];exact finK _ _ (by simp [xZZ])
 obtain ⟨i,rfl⟩: ∃i:Nat,at_=(i:Int):=⟨at_.toNat,by omega⟩;by_cases hi:s.length<=i
 ·simp only [sw.1,rE,reduceIte,rL,rA,rM,rD,svn.down,syw.1,qE,qD,qC,g1,g2,g7,decide_eq_false a0,decide_eq_true (show (s.length:Int)<=(i:Int) by omega)];exact finK _ _ (by simp [xZZ])
 have hi2:i<s.length:=by omega
 have ix:=ix9 s hi2;obtain ⟨b,hb⟩: ∃b,b=s[i]:=⟨_,rfl⟩;rw [<-hb] at ix;by_cases b0:b.toNat<48
 ·simp only [sw.1,rE,reduceIte,rL,rA,rM,rD,svn.down,syw.1,qE,qD,qC,g1,g2,g7,decide_eq_false a0,decide_eq_false (show¬(s.length:Int)<=(i:Int) by omega),ix,decide_eq_true (show (b.toNat:Int)<48 by omega)];exact finK _ _ (by simp [xZZ])
 by_cases b9:57<b.toNat
 ·simp only [sw.1,rE,reduceIte,rL,rA,rM,rD,svn.down,syw.1,qE,qD,qC,g1,g2,g7,decide_eq_false a0,decide_eq_false (show¬(s.length:Int)<=(i:Int) by omega),ix,decide_eq_false (show¬(b.toNat:Int)<48 by omega),decide_eq_true (show (57:Int)<(b.toNat:Int) by omega)];exact finK _ _ (by simp [xZZ])
 have w8:IntKind.u8.wrap ((b.toNat:Int) - 48)=(b.toNat:Int) - 48:=wrap_u8 _ (by omega) (by omega);have w64:IntKind.i64.wrap ((b.toNat:Int) - 48)=(b.toNat:Int) - 48:=jF _ (by omega) (by omega);by_cases be:(b.toNat:Int) - 48=dg_
 ·simp only [sw.1,rE,reduceIte,rL,rA,rM,rD,svn.down,syw.1,qE,qD,qC,g1,g2,g7,decide_eq_false a0,decide_eq_false (show¬(s.length:Int)<=(i:Int) by omega),ix,decide_eq_false (show¬(b.toNat:Int)<48 by omega),decide_eq_false (show¬(57:Int)<(b.toNat:Int) by omega),w8,cv53,w64,decide_eq_true be];exact finK _ _ (by simp [xZZ])
 simp only [sw.1,rE,reduceIte,rL,rA,rM,rD,svn.down,syw.1,qE,qD,qC,g1,g2,g7,decide_eq_false a0,decide_eq_false (show¬(s.length:Int)<=(i:Int) by omega),ix,decide_eq_false (show¬(b.toNat:Int)<48 by omega),decide_eq_false (show¬(57:Int)<(b.toNat:Int) by omega),w8,cv53,w64,decide_eq_false be];apply hn;clear finK hn hp K;refine qT false (by simp only [sw.1,rE,reduceIte,rL,rA,rM,rD,svn.down,syw.1,qE,qD,qC,g1,g2,g7]) (fun hx=>by cases hx) (fun _=> ?_);refine jY ?_;show W _ _ _ _ _;obtain ⟨y,hy⟩: ∃y:UInt8,(y.toNat:Int)=48+dg_:=⟨UInt8.ofNat (48+dg_.toNat),by rw [UInt8.toNat_ofNat'];omega⟩;have hne:b≠y:=fun e=>be (by rw [e];omega);have hsp:j9 (s.set i y)=none:=by
  rw [hs];exact Mp.spoilt q (x:=b) (by rw [<-hs,hb];exact List.getElem?_eq_getElem hi2) ⟨by omega,by omega⟩ ⟨by omega,by omega⟩ hne
 refine W.seq (W.ow fun K hn hp=> ?_);refine OW.one (sok xt).tb fun K2 hn2=> ?_;simp only [sw.1,rE,reduceIte,rL,rA,rM,rD,svn.down,syw.1,qE,qD,qC,g1,g2,g7];refine hn2 _ _ ?_;clear hn2 K2;refine OW.conv (sok xt) tg9 rfl tg40 rfl tg5 rfl (a:=s) (by simp only [sw.1,rE,reduceIte,rL,rA,rM,rD,svn.down,syw.1,qE,qD,qC,g1,g2,g7]) (by decide) ?_;refine OW.one (sok xt).tb fun K2 hn2=> ?_;simp only [sw.1,rE,reduceIte,rL,rA,rM,rD,svn.down,syw.1,qE,qD,qC,g1,g2,g7];refine hn2 _ _ (OW.nil (sok xt).tb (hn _ _ ?_));clear hn hp K hn2 K2;show W _ _ _ _ _;obtain ⟨hA,hhA⟩: ∃hA:Hp,hA=hg.new (.fz s 5):=⟨_,rfl⟩;have nA:hA.n=hg.n+1:=by rw [hhA];rfl
 have sA:hA.t.get hg.n=some (.fz s 5):=by rw [hhA,Hp.new_t,xZZ,if_pos rfl]
 rw [<-hhA];have ia:qK tb 40 (.sl hg.n 0 s.length 1) (iv (i:Int))=some (.ptr hg.n i):=by
  have e1:gI (iv (i:Int))=some (Int.ofNat i):=rfl;have b1:Nat.blt i s.length=true:=by rw [xZT];exact hi2
  simp [qK,tg40,te40,e1,b1,tg5,te5]
 have w1:IntKind.i64.wrap (48+dg_)=48+dg_:=jF _ (by omega) (by omega);have w2:IntKind.u8.wrap (48+dg_)=(y.toNat:Int):=by rw [wrap_u8 _ (by omega) (by omega),hy]
 refine W.seq (W.ow fun K hn hp=> ?_);refine OW.one (sok xt).tb fun K2 hn2=> ?_;simp only [sw.1,rE,reduceIte,rL,rA,rM,rD,svn.down,syw.1,qE,qD,qC,g1,g2,g7];refine hn2 _ _ ?_;clear hn2 K2;refine OW.one (sok xt).tb fun K2 hn2=> ?_;simp only [sw.1,rE,reduceIte,rL,rA,rM,rD,svn.down,syw.1,qE,qD,qC,g1,g2,g7];refine hn2 _ _ ?_;clear hn2 K2;refine OW.one (sok xt).tb fun K2 hn2=> ?_;simp only [sw.1,rE,reduceIte,rL,rA,rM,rD,svn.down,syw.1,qE,qD,qC,g1,g2,g7];refine hn2 _ _ ?_;clear hn2 K2;refine OW.one (sok xt).tb fun K2 hn2=> ?_;simp only [sw.1,rE,reduceIte,rL,rA,rM,rD,svn.down,syw.1,qE,qD,qC,g1,g2,g7,w1];refine hn2 _ _ ?_;clear hn2 K2;refine OW.one (sok xt).tb fun K2 hn2=> ?_;simp only [sw.1,rE,reduceIte,rL,rA,rM,rD,svn.down,syw.1,qE,qD,qC,g1,g2,g7,cv35,w2];refine hn2 _ _ ?_;clear hn2 K2;refine OW.one (sok xt).tb fun K2 hn2=> ?_;simp only [sw.1,rE,reduceIte,rL,rA,rM,rD,svn.down,syw.1,qE,qD,qC,g1,g2,g7,ia];refine hn2 _ _ ?_;clear hn2 K2;refine OW.stfz (sok xt) tg5 rfl sA hi2 (z:=y) (by simp only [sw.1,rE,reduceIte,rL,rA,rM,rD,svn.down,syw.1,qE,qD,qC,g1,g2,g7]) (by simp only [sw.1,rE,reduceIte,rL,rA,rM,rD,svn.down,syw.1,qE,qD,qC,g1,g2,g7,u8v]) (OW.nil (sok xt).tb (hn _ _ ?_));clear hn hp K;show W _ _ _ _ _;obtain ⟨hB,hhB⟩: ∃hB:Hp,hB=hA.set hg.n (.fz (s.set i y) 5):=⟨_,rfl⟩;have sB:hB.t.get hg.n=some (.fz (s.set i y) 5):=by rw [hhB,Hp.set_t,xZZ,if_pos rfl]
 rw [<-hhB];clear hhA hhB;refine W.seq (W.ow fun K hn hp=> ?_);refine OW.one (sok xt).tb fun K2 hn2=> ?_;simp only [sw.1,rE,reduceIte,rL,rA,rM,rD,svn.down,syw.1,qE,qD,qC,g1,g2,g7];refine hn2 _ _ ?_;clear hn2 K2;refine OW.back (sok xt) tg40 rfl tg9 rfl tg5 rfl sB (by simp only [sw.1,rE,reduceIte,rL,rA,rM,rD,svn.down,syw.1,qE,qD,qC,g1,g2,g7,xZW]) (by decide) ?_;refine OW.of (sok xt).tb ?_;simp only [sw.1,rE,reduceIte,rL,rA,rM,rD,svn.down,syw.1,qE,qD,qC,g1,g2,g7];have hl2:(s.set i y).length=s.length:=xZW;refine qB (sok xt) (FnA.mono (Read_c xt hx hB (s.set i y) (by omega)) fun res h5 hres=> ?_);obtain ⟨f5,hres⟩:=hres;rw [if_neg (by omega),hsp] at hres;have hres:res= .ret (.tup [.agg z27,iv 4]):=hres;subst hres;simp only [sw.1,rE,reduceIte,rL,rA,rM,rD,svn.down,syw.1,qE,qD,qC,g1,g2,g7];apply hn;clear hn hp K;show W _ _ _ _ _;refine wpc.ok (sok xt).tb _ _ _ ?_;refine qA fun K hn hp=> ?_;simp only [sw.1,rE,reduceIte,rL,rA,rM,rD,svn.down,syw.1,qE,qD,qC,g1,g2,g7,ey44,bd27z];refine qB (sok xt) (same_c xt _ zM zM (zM_at _ _) (zM_at _ _) rfl rfl rfl rfl rfl rfl fun n8 hn8=> ?_);simp only [sw.1,rE,reduceIte,rL,rA,rM,rD,svn.down,syw.1,qE,qD,qC,g1,g2,g7];refine qB (sok xt) (qBU xt _ fun n9 hn9=> ?_);simp only [sw.1,rE,reduceIte,rL,rA,rM,rD,svn.down,syw.1,qE,qD,qC,g1,g2,g7];refine hn _ _ (qJ (jB res5s ?_));simp [xZZ,uQ]
theorem qCw (xt:Addr->Option Value) (hx:Lx xt) (h:Hp) (m:Mp) (ha:m.At xt h) (at_ dg_:Int):FnA (SE xt) 5 [m.av,iv at_,iv dg_] h uQ:=by
 refine FnA.enter (sok xt).ft (sok xt).tb (ft5s xt) rfl ?_;show W (SE xt) none _ ⟨_,90,h,[]⟩ _;obtain ⟨o1,o2,o3,o4⟩:=ha.ones;refine W.step (sok xt) ?_;refine reg fun K hn hp=> ?_;simp only [sw.1,rE,reduceIte,rL,rA,rM,rD,svn.down,syw.1,qE,qD,qC,o1,o2,o3,o4];apply hn;clear hn hp K;show W _ _ _ _ _;obtain ⟨h1,hh1⟩: ∃h1:Hp,h1=h.new (.cells m.cs 27):=⟨_,rfl⟩;rw [<-hh1];have nh1:h1.n=h.n+1:=by rw [hh1];rfl
 have sh1:h1.t.get h.n=some (.cells m.cs 27):=by rw [hh1];exact jO _ _
 have kh1: ∀k,k<h.n->h1.t.get k=h.t.get k:=fun k hk=>by rw [hh1];exact zW _ _ hk
 have fbh1:Fr h.n h h1:=by rw [hh1];exact (Fr.refl (xZV _)).new _
 have fh1:=fbh1;have ha1:=ha.fr fh1 (xZV _);refine W.step (sok xt) ?_;refine qA fun K hn hp=> ?_;have finK: ∀(hg:Hp) (tm:T AV),tm.get 27=some (.val (.bool true))->K .normal tm hg:=by
  intro hg tm g27;apply hn;refine qT true (by simp only [sw.1,rE,reduceIte,rL,rA,rM,rD,svn.down,syw.1,qE,qD,qC,o1,o2,o3,o4,sh1,nh1,g27]) (fun _=> ?_) (fun hx=>by cases hx);refine qA fun K hn hp=> ?_;simp only [sw.1,rE,reduceIte,rL,rA,rM,rD,svn.down,syw.1,qE,qD,qC,o1,o2,o3,o4,sh1,nh1,g27];refine qB (sok xt) (qBU xt _ fun n2 hn2=> ?_);simp only [sw.1,rE,reduceIte,rL,rA,rM,rD,svn.down,syw.1,qE,qD,qC,o1,o2,o3,o4,sh1,nh1,g27];refine hn _ _ (qJ (jB (K:=uQ) res5s ?_));simp [xZZ,uQ]
 simp only [sw.1,rE,reduceIte,rL,rA,rM,rD,svn.down,syw.1,qE,qD,qC,o1,o2,o3,o4,sh1,nh1];refine qB (sok xt) (short_c xt h1 m ha1 fun n1 hn1=> ?_);cases q1:m.short
 ·simp only [sw.1,rE,reduceIte,rL,rA,rM,rD,svn.down,syw.1,qE,qD,qC,o1,o2,o3,o4,sh1,nh1,q1];exact finK _ _ (by simp [xZZ])
 simp only [sw.1,rE,reduceIte,rL,rA,rM,rD,svn.down,syw.1,qE,qD,qC,o1,o2,o3,o4,sh1,nh1,q1];refine qB (sok xt) (rmap_c xt _ m (ha1.up (by omega)) fun n2 hn2=> ?_);simp only [Hp.up_n] at hn2;cases q:m.ok
 ·simp only [sw.1,rE,reduceIte,rL,rA,rM,rD,svn.down,syw.1,qE,qD,qC,o1,o2,o3,o4,sh1,nh1,q];exact finK _ _ (by simp [xZZ])
 by_cases d0:dg_<0
 ·simp only [sw.1,rE,reduceIte,rL,rA,rM,rD,svn.down,syw.1,qE,qD,qC,o1,o2,o3,o4,sh1,nh1,q,decide_eq_true d0];exact finK _ _ (by simp [xZZ])
 by_cases d9:9<dg_
 ·simp only [sw.1,rE,reduceIte,rL,rA,rM,rD,svn.down,syw.1,qE,qD,qC,o1,o2,o3,o4,sh1,nh1,q,decide_eq_false d0,decide_eq_true d9];exact finK _ _ (by simp [xZZ])
 simp only [sw.1,rE,reduceIte,rL,rA,rM,rD,svn.down,syw.1,qE,qD,qC,o1,o2,o3,o4,sh1,nh1,q,decide_eq_false d0,decide_eq_false d9,Hp.up_up];apply hn;clear finK hn hp K;refine qT false (by simp only [sw.1,rE,reduceIte,rL,rA,rM,rD,svn.down,syw.1,qE,qD,qC,o1,o2,o3,o4,sh1,nh1]) (fun hx=>by cases hx) (fun _=> ?_);refine jY ?_;show W _ _ _ _ _;refine W.step (sok xt) ?_;refine reg fun K hn hp=> ?_;simp only [sw.1,rE,reduceIte,rL,rA,rM,rD,svn.down,syw.1,qE,qD,qC,o1,o2,o3,o4,sh1,nh1];refine qB (sok xt) (print_c xt hx _ m (ha1.up (by omega)) fun n3 hn3=> ?_);simp only [Hp.up_n] at hn3;simp only [sw.1,rE,reduceIte,rL,rA,rM,rD,svn.down,syw.1,qE,qD,qC,o1,o2,o3,o4,sh1,nh1,q,Hp.up_up];apply hn;clear hn hp K;show W _ _ _ _ _;refine W.step (sok xt) ?_;refine qA fun K hn hp=> ?_;simp only [sw.1,rE,reduceIte,rL,rA,rM,rD,svn.down,syw.1,qE,qD,qC,o1,o2,o3,o4,sh1,nh1,ey00];apply hn;clear hn hp K;refine qT false (by simp only [sw.1,rE,reduceIte,rL,rA,rM,rD,svn.down,syw.1,qE,qD,qC,o1,o2,o3,o4,sh1,nh1]) (fun hx=>by cases hx) (fun _=> ?_);refine jY ?_;show W _ _ _ _ _;exact qCx xt hx m q m.textB rfl dg_ at_ d0 d9 _ _ (by simp [xZZ,argsTo]) (by simp [xZZ,argsTo]) (by simp [xZZ])
end Go.Proofs.Kn
