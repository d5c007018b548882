/- Parts. -/
import Derived.Test.YthimlgffanlomaaGreatDoorQY5
set_option linter.all false
open List renaming filter_cons → xZZ
namespace Go.Proofs.Kn
open Go Go.Ev
set_option maxRecDepth 100000
set_option maxHeartbeats 4000000
theorem FrM.join {M M':Nat->Prop} {n m:Nat} {h h1 h2:Hp} (f:FrM M n h h1) (g:FrM M' m h1 h2) (hn:n<=m) (hM: ∀k,M' k->M k\/(n<=k/\k<h1.n)):FrM M n h h2:=by
 refine ⟨Nat.le_trans hn g.lo,Nat.le_trans f.le g.le,fun k hk hk2=> ?_⟩;have:=f.lo;have:=g.le;have:=g.lo;rw [g.at_ k (by omega) (fun q=>by rcases hM k q with q|q;exact hk2 q;omega),f.at_ k (by omega) hk2]
theorem MI.fr {xt:Xt} {Own:Nat->Prop} {h h':Hp} {P:Int->Cg} {l:Mem} (a:MI xt Own h P l) {n:Nat} (f:Fr n h h') (hn:h.n<=n):MI xt Own h' P l:=a.keep f.le fun b hb _=>f.at_ b (.inl (by omega))
theorem CgAt.fr {xt:Xt} {Own:Nat->Prop} {h h':Hp} {z:AV} {l:List (Int×Int×Int)} (a:CgAt xt Own h z l) {n:Nat} (f:Fr n h h') (hn:h.n<=n):CgAt xt Own h' z l:=a.keep f.le fun b hb _=>f.at_ b (.inl (by omega))
theorem MI.frM {xt:Xt} {Own:Nat->Prop} {h h':Hp} {P:Int->Cg} {l:Mem} (a:MI xt Own h P l) {n:Nat} {M:Nat->Prop} (f:FrM M n h h') (hn:h.n<=n) (hM: ∀k,M k->k<h.n->Own k):MI xt Own h' P l:=a.keep f.le fun b hb ho=>f.get (by omega) fun q=>ho (hM b q hb)
theorem CgAt.frM {xt:Xt} {Own:Nat->Prop} {h h':Hp} {z:AV} {l:List (Int×Int×Int)} (a:CgAt xt Own h z l) {n:Nat} {M:Nat->Prop} (f:FrM M n h h') (hn:h.n<=n) (hM: ∀k,M k->k<h.n->Own k):CgAt xt Own h' z l:=a.keep f.le fun b hb ho=>f.get (by omega) fun q=>ho (hM b q hb)
theorem bs33 (h:Hp) (a b c:Int):j0 tb h 65 1 [(0,.agg [iv a,iv b,iv c])]=some (.sl h.n 0 1 3,h.new (.cells [iv a,iv b,iv c] 63)):=by kernel_rfl
set_option maxHeartbeats 4000000
def Wk.packP (w:Wk) (G:Th.Grid):Nat->Cg
 |0=>([],0)
 |m+1=>vM (Wk.packP w G m) (Wk.packP w G m::(w.ws.filter fun x=>decide (x<=((m+1:Nat):Int))).map fun x=>((w.bandP G (w.m.cells.length - (m+1)) x.toNat w.m.W).1++(Wk.packP w G (m - (x.toNat - 1))).1,(w.bandP G (w.m.cells.length - (m+1)) x.toNat w.m.W).2+(Wk.packP w G (m - (x.toNat - 1))).2))
termination_by m=>m
decreasing_by all_goals omega
def Wk.pone (w:Wk) (G:Th.Grid) (m:Nat) (x:Int):Cg:=((w.bandP G (w.m.cells.length - (m+1)) x.toNat w.m.W).1++(w.packP G (m - (x.toNat - 1))).1,(w.bandP G (w.m.cells.length - (m+1)) x.toNat w.m.W).2+(w.packP G (m - (x.toNat - 1))).2)
def Wk.pcnd (w:Wk) (G:Th.Grid) (m k:Nat):List Cg:=w.packP G m::((w.ws.take k).filter fun x=>decide (x<=((m+1:Nat):Int))).map (w.pone G m)
theorem Wk.packP_zero (w:Wk) (G:Th.Grid):w.packP G 0=([],0):=by rw [Wk.packP]
theorem Wk.packP_succ (w:Wk) (G:Th.Grid) (m:Nat):w.packP G (m+1)=vM (w.packP G m) (w.pcnd G m w.ws.length):=by rw [Wk.packP,Wk.pcnd,List.take_length];rfl
theorem Wk.pcnd_succ (w:Wk) (G:Th.Grid) (m k:Nat) {x:Int} (hx:w.ws[k]? =some x):w.pcnd G m (k+1)=w.pcnd G m k++if x<=((m+1:Nat):Int) then [w.pone G m x] else []:=by
 simp only [Wk.pcnd,List.take_succ,hx,Option.toList_some,List.filter_append,List.map_append,List.cons_append];by_cases q:x<=((m+1:Nat):Int)
 ·simp only [if_pos q,xZZ,decide_eq_true q,List.filter_nil,if_true,List.map_cons,List.map_nil]
 ·simp only [if_neg q,xZZ,decide_eq_false q,List.filter_nil,Bool.false_eq_true,if_false,List.map_nil]
theorem Wk.Is.packP_bd {w:Wk} (his:w.Is) {G:Th.Grid} (hb:w.m.bnd=some G): ∀m,(w.packP G m).1.length<=8*m/\0<=(w.packP G m).2/\(w.packP G m).2<=52000*m:=by
 intro m;induction m using Nat.strongRecOn with
 |ind m ih=>
 cases m with
 |zero=>rw [Wk.packP_zero];simp
 |succ m=>
  have i1:=ih m (by omega);have c8:=his.m.c8;have key: ∀c∈w.pcnd G m w.ws.length,c.1.length<=8*(m+1)/\0<=c.2/\c.2<=52000*((m+1:Nat):Int):=by
   intro c hc;rcases List.mem_cons.1 hc with rfl|hc
   ·omega
   ·obtain ⟨x,hx,rfl⟩:=List.mem_map.1 hc;obtain ⟨hx1,hx2⟩:=List.mem_filter.1 hx;have i2:=ih (m - (x.toNat - 1)) (by omega);have i3:=his.bandP_bd hb (w.m.cells.length - (m+1)) x.toNat w.m.W;simp only [Wk.pone,List.length_append];omega
  rw [Wk.packP_succ];rcases qA0 (c0:=w.packP G m) (l:=w.pcnd G m w.ws.length) with e|e
  ·rw [e];omega
  ·exact key _ e
def Wk.pkd (w:Wk):Cg×Int:=
 if w.ok=true then
  match w.m.bnd with
  |none=>(([],0),7)
  |some G=>(w.packP G w.m.cells.length,0)
 else (([],0),2)
end Go.Proofs.Kn
