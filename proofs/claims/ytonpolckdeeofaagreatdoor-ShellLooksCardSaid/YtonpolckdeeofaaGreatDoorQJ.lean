/-
  Texts in a row, joined by a program: SyH1, SyMap, SyDraw3, SyH2, SyH3, SyH4, SyH5, SyH6.
-/
import Derived.Test.YtonpolckdeeofaaGreatDoorQF
import Derived.Test.YtonpolckdeeofaaGreatDoorQC
import Derived.Test.YtonpolckdeeofaaGreatDoorQI
set_option linter.all false
/-
  The looks that are needed: as the program counts them, in plain words.
-/
namespace Go.Proofs.Kn
open Go Go.Ev
def bump (seen : Nat → Int) (i : Nat) : Nat → Int := updN seen i (wr (seen i + 1))
def Sk.lookStep (s : Sk) (L : (Nat → Int) → Int) (seen : Nat → Int) (out : Int) (i : Nat) : Int := if s.truths (bump seen i) = [] then out else max out (wr (L (bump seen i) + 1))
def Sk.lookAt (s : Sk) (B : Int) (L : (Nat → Int) → Int) (seen : Nat → Int) : Int :=
  if (endsOf s.blanks (s.truths seen)).1 < B ∧ B ≤ (endsOf s.blanks (s.truths seen)).2 then (List.range s.sorts.length).foldl (s.lookStep L seen) 0 else 0
def Sk.look (s : Sk) (B : Int) : Nat → (Nat → Int) → Int
  | 0, _ => 0
  | d + 1, seen => s.lookAt B (s.look B d) seen
def Sk.LK (s : Sk) (B : Int) : (Nat → Int) → Int := s.look B 11
/-- What was seen, as it comes to be asked. -/
structure Sk.Sn (s : Sk) (seen : Nat → Int) : Prop where
  nn : ∀ j, 0 ≤ seen j
  hi : ∀ j, 3 ≤ j → seen j = 0
  some_ : s.truths seen ≠ []
theorem Sk.sum_le {s : Sk} {seen : Nat → Int} (hn : ∀ j, 0 ≤ seen j) (h : s.truths seen ≠ []) : sumF seen 0 s.sorts.length ≤ s.sh := by
  obtain ⟨n, hn'⟩ := List.exists_mem_of_ne_nil _ h
  obtain ⟨_, h2, h3, _⟩ := (Sk.mem_truths hn).1 hn'
  rw [← h3]
  exact sumF_mono _ _ fun j _ hj => h2 j (by omega)
theorem Sk.Sn.le {s : Sk} {seen : Nat → Int} (k : s.Sn seen) {i : Nat} (hi : i < s.sorts.length) : seen i ≤ s.sh :=
  Int.le_trans (sumF_one _ _ _ (fun j _ _ => k.nn j) (Nat.zero_le _) (by omega)) (Sk.sum_le k.nn k.some_)
theorem bump_at {s : Sk} (g : s.Good) {seen : Nat → Int} (k : s.Sn seen) {i : Nat} (hi : i < s.sorts.length) (j : Nat) : bump seen i j = if j = i then seen i + 1 else seen j := by
  have h1 := k.le hi
  have h2 := g.sh2
  have h3 := k.nn i
  simp only [bump, updN]
  rw [wr_id (by omega) (by omega)]
theorem sumF_upd {n m : Nat → Int} {i : Nat} {x : Int} : ∀ (d k : Nat), (∀ j, m j = if j = i then n i + x else n j) → sumF m k d = sumF n k d + (if k ≤ i ∧ i < k + d then x else 0)
  | 0, k, _ => by simp [sumF]; omega
  | d + 1, k, h => by
    simp only [sumF]
    rw [sumF_upd d (k + 1) h, h k]
    by_cases hk : k = i
    · subst hk
      rw [if_pos rfl, if_neg (by omega), if_pos (by omega)]; omega
    · rw [if_neg hk]
      by_cases hq : k ≤ i ∧ i < k + (d + 1)
      · rw [if_pos hq, if_pos (by omega)]; omega
      · rw [if_neg hq, if_neg (by omega)]; omega
theorem bump_sum {s : Sk} (g : s.Good) {seen : Nat → Int} (k : s.Sn seen) {i : Nat} (hi : i < s.sorts.length) : sumF (bump seen i) 0 s.sorts.length = sumF seen 0 s.sorts.length + 1 := by
  rw [sumF_upd _ _ (bump_at g k hi), if_pos (by omega)]
theorem bump_sn {s : Sk} (g : s.Good) {seen : Nat → Int} (k : s.Sn seen) {i : Nat} (hi : i < s.sorts.length) (h : s.truths (bump seen i) ≠ []) : s.Sn (bump seen i) := by
  have gl := g.l2
  refine ⟨fun j => ?_, fun j hj => ?_, h⟩
  · rw [bump_at g k hi]; split
    · have := k.nn i; omega
    · exact k.nn j
  · rw [bump_at g k hi, if_neg (by omega)]; exact k.hi j hj
theorem foldl_congr' {α β : Type} {f g : β → α → β} : ∀ (l : List α) (a : β), (∀ x ∈ l, ∀ b, f b x = g b x) → l.foldl f a = l.foldl g a
  | [], _, _ => rfl
  | x :: l, a, h => by
    rw [List.foldl_cons, List.foldl_cons, h x List.mem_cons_self]
    exact foldl_congr' l _ fun y hy b => h y (List.mem_cons_of_mem _ hy) b
theorem lookAt_congr {s : Sk} {B : Int} {L L' : (Nat → Int) → Int} {seen : Nat → Int} (h : ∀ i, i < s.sorts.length → s.truths (bump seen i) ≠ [] → L (bump seen i) = L' (bump seen i)) : s.lookAt B L seen = s.lookAt B L' seen := by
  simp only [Sk.lookAt]
  split
  · refine foldl_congr' _ _ fun i hi b => ?_
    simp only [Sk.lookStep]
    split
    · rfl
    · rename_i hq; rw [h i (List.mem_range.1 hi) hq]
  · rfl
theorem look_fuel {s : Sk} (g : s.Good) {B : Int} : ∀ (d d' : Nat) (seen : Nat → Int), s.Sn seen → s.sh - sumF seen 0 s.sorts.length < d → s.sh - sumF seen 0 s.sorts.length < d' → s.look B d seen = s.look B d' seen
  | 0, _, seen, k, h, _ => by have := Sk.sum_le k.nn k.some_; omega
  | _ + 1, 0, seen, k, _, h => by have := Sk.sum_le k.nn k.some_; omega
  | d + 1, d' + 1, seen, k, h, h' => by
    simp only [Sk.look]
    refine lookAt_congr fun i hi hq => ?_
    have := bump_sum g k hi
    exact look_fuel g d d' _ (bump_sn g k hi hq) (by omega) (by omega)
theorem Sk.LK_eq {s : Sk} (g : s.Good) {B : Int} {seen : Nat → Int} (k : s.Sn seen) : s.LK B seen = s.lookAt B (s.LK B) seen := by
  have h1 := g.sh2
  refine lookAt_congr fun i hi hq => ?_
  have h2 := bump_sum g k hi
  have h3 := sumF_nn (n := seen) s.sorts.length 0 fun j _ _ => k.nn j
  exact look_fuel g 10 11 _ (bump_sn g k hi hq) (by omega) (by omega)
end Go.Proofs.Kn
/-
  A map whose keys are arrays of three numbers.
-/
noncomputable section
namespace Go.Proofs.Kn
open Go Go.Ev
set_option maxRecDepth 100000
abbrev kv (x : Int × Int × Int) : Value := .agg #[.int .i64 x.1, .int .i64 x.2.1, .int .i64 x.2.2]
theorem und95 : pureRun Tryz.prog (underlying 95) = some (.array 3 3) := by kernel_rfl
theorem szo3 : pureRun Tryz.prog (sizeOf 3) = some 1 := by kernel_rfl
theorem eqi3 (d : Nat) (a b : Int) : pureRun Tryz.prog (Op.equalIn (d + 1) 3 (.int .i64 a) (.int .i64 b)) = some (a == b) := by
  have : pureRun Tryz.prog (underlying 3) = some (.int .i64) := by kernel_rfl
  rw [Op.equalIn]
  simp only [pRun_bind, this, Option.bind_some, if_true, pureRun_pure]
theorem part0 (a b c : Int) : pureRun Tryz.prog (part 3 #[.int .i64 a, .int .i64 b, .int .i64 c] 0) = some (.int .i64 a) := by kernel_rfl
theorem part1 (a b c : Int) : pureRun Tryz.prog (part 3 #[.int .i64 a, .int .i64 b, .int .i64 c] 1) = some (.int .i64 b) := by kernel_rfl
theorem part2 (a b c : Int) : pureRun Tryz.prog (part 3 #[.int .i64 a, .int .i64 b, .int .i64 c] 2) = some (.int .i64 c) := by kernel_rfl
theorem eqi95 (d : Nat) (x y : Int × Int × Int) : pureRun Tryz.prog (Op.equalIn (d + 1 + 1) 95 (kv x) (kv y)) = some (decide (x = y)) := by
  rw [Op.equalIn]
  simp only [pRun_bind, und95, szo3, Option.bind_some]
  rw [Std.Legacy.Range.forIn_eq_forIn_range']
  simp only [Std.Legacy.Range.size, List.range', List.forIn_cons, List.forIn_nil]
  obtain ⟨a, b, c⟩ := x
  obtain ⟨a', b', c'⟩ := y
  simp only [Nat.zero_add, Nat.mul_one, pRun_bind, part0, part1, part2, Nat.reduceAdd, Option.bind_some, eqi3, pureRun_ite, pureRun_pure]
  by_cases q1 : a = a'
  · by_cases q2 : b = b'
    · by_cases q3 : c = c'
      · simp [q1, q2, q3, pureRun_pure, pRun_bind, pureRun_ite, part1, part2, eqi3]
      · simp [q1, q2, q3, pureRun_pure, pRun_bind, pureRun_ite, part1, part2, eqi3]
    · simp [q1, q2, pureRun_pure, pRun_bind, pureRun_ite, part1, part2, eqi3]
  · simp [q1, pureRun_pure, pRun_bind, pureRun_ite, part1, part2, eqi3]
/-- The place of a key. -/
def keyAt (x : Int × Int × Int) : List (Int × Int × Int) → Nat → Option Nat
  | [], _ => none
  | y :: l, i => if x = y then some i else keyAt x l (i + 1)
theorem asking (x : Int × Int × Int) : ∀ (l : List (Int × Int × Int)) (i : Nat), pureRun Tryz.prog (Instr.findAsking 95 (kv x) (dummies (l.map kv)) i) = some ((keyAt x l i).map fun j => (j, .bool false))
  | [], i => rfl
  | y :: l, i => by
    show pureRun Tryz.prog (Op.equal 95 (kv x) (kv y) >>= fun b => if b = true then pure (some (i, Value.bool false)) else Instr.findAsking 95 (kv x) (dummies (l.map kv)) (i + 1)) = _
    have hq : pureRun Tryz.prog (Op.equal 95 (kv x) (kv y)) = some (decide (x = y)) := eqi95 9998 x y
    rw [pRun_bind, hq, Option.bind_some, pureRun_ite, asking x l (i + 1)]
    by_cases h : x = y
    · simp [h, keyAt, pureRun_pure]
    · simp [h, keyAt]
theorem afind95 (x : Int × Int × Int) (l : List (Int × Int × Int)) : afind Tryz.prog 95 (kv x) (l.map kv) = some (keyAt x l 0) := by
  have key : pureRun Tryz.prog (Instr.findKey 95 (kv x) (dummies (l.map kv))) = some ((keyAt x l 0).map fun j => (j, .bool false)) := by
    unfold Instr.findKey
    rw [pRun_bind, und95, Option.bind_some]
    cases l with
    | nil => rfl
    | cons y l =>
      show pureRun Tryz.prog (Instr.findAsking 95 (kv x) (dummies ((y :: l).map kv)) 0) = _
      exact asking x (y :: l) 0
  unfold afind
  rw [key]
  cases keyAt x l 0 <;> rfl
theorem check95 (e : Bool) (x : Int × Int × Int) : pureRun Tryz.prog (Instr.checkKey e 10000 95 (kv x)) = some () := by
  have c3 : ∀ n (a : Int), pureRun Tryz.prog (Instr.checkKey e (n + 1) 3 (.int .i64 a)) = some () := fun n a => by
    have : pureRun Tryz.prog (underlying 3) = some (.int .i64) := by kernel_rfl
    rw [Instr.checkKey]
    simp only [pRun_bind, this, Option.bind_some, pureRun_pure]
  rw [Instr.checkKey]
  simp only [pRun_bind, und95, Option.bind_some]
  rw [Std.Legacy.Range.forIn_eq_forIn_range']
  simp only [Std.Legacy.Range.size, List.range', List.forIn_cons, List.forIn_nil]
  obtain ⟨a, b, c⟩ := x
  simp [pRun_bind, szo3, part0, part1, part2, c3, pureRun_pure]
end Go.Proofs.Kn
end
/-
  A region that draws its order, in the midst of which something is made that is not looked at before its end.
-/
noncomputable section
namespace Go.Ev
section
variable {E : Env} {nt : Nat} {ops : Array Oper}
theorem ovl_off {q : Nat → Bool} : ∀ (fs : List FE) (b : T AO), (∀ e ∈ fs, q e.f = false) → ovl q fs b = b
  | [], _, _ => rfl
  | e :: fs, b, h => by
    simp only [ovl, h e List.mem_cons_self, cond_false]
    exact ovl_off fs b fun e' he' => h e' (List.mem_cons_of_mem _ he')
/-- The calls. -/
def csOf : List Oper → Nat → List Nat → List Nat
  | [], _, cs => cs
  | o :: ol, i, cs => csOf ol (i + 1) (bif calm o.op then cs else i :: cs)
structure SInv3 (P : Program) (tb : T TE) (xt : Addr → Option Value) (t0 : T AO) (PM PRm PR PC : Nat → Prop) (fs0 : List FE) (bs0 : List BE) (rs0 : List RE) (cs : List Nat) (st : DS) : Prop where
  mj : PM st.mj
  rs : ∀ r ∈ st.rs, r ∈ rs0 ∨ (PRm r.m ∧ PR r.i ∧ ∀ call, evOp P tb xt call r.o r.tm { t := t0, n := r.n } = some (.ok r.v { t := t0, n := r.n }))
  fs : st.fs = fs0
  b : st.b = t0
  bs : ∀ e ∈ st.bs, e ∈ bs0 ∨ (e.b = t0 ∧ PM e.mj ∧ PC e.nx)
  dl : st.ne = 0 ∨ (st.dl ∈ cs ∧ PC st.dl)

theorem woc_drun3 {t0 : T AO} {PM PRm PR PC : Nat → Prop} {fs0 : List FE} {bs0 : List BE} {rs0 : List RE} : ∀ (ol : List Oper) (ms : List Nat) (i : Nat) (cs : List Nat) (tm : T AV) (h : Hp) (Q : T AV → Hp → Prop) (st : DS), WOC E nt ops ol tm h Q → chainOk ol ms i cs = true →
    (∀ (k : Nat) (o : Oper) (m : Nat), ol[k]? = some o → ms[k]? = some m → (kindOf o.op = .read → PRm m ∧ PR (i + k)) ∧ (calm o.op = false → PM m ∧ PC (i + k))) → (∀ (k : Nat) (o : Oper) (m : Nat), ol[k]? = some o → ms[k]? = some m → kindOf o.op ≠ .new → ∀ e ∈ fs0, bt m e.f = false) → st.i = i → st.tm = tm → st.n = h.n → h.t = t0 → SInv3 E.P E.tb E.xt t0 PM PRm PR PC fs0 bs0 rs0 cs st →
    ∃ call st' h', Sound E.P E.xt call ∧ ((∀ fv args k r, call fv args k = some r → h.n ≤ k.n ∧ k.n < h'.n) ∧ h.n ≤ h'.n) ∧ drun E.P E.tb E.xt call ops ol ms st = some st' ∧ SInv3 E.P E.tb E.xt t0 PM PRm PR PC fs0 bs0 rs0 (csOf ol i cs) st' ∧ st'.n = h'.n ∧ h'.t = t0 ∧ Q st'.tm h'
  | [], ms, i, cs, tm, h, Q, st, hw, hc, hpr, hfo, hi, htm, hn, ht, hI => ⟨ncall, st, h, ncall_ok _ _, ⟨(fun _ _ _ _ hx => by cases hx), Nat.le_refl _⟩, rfl, hI, hn, ht, by rw [htm]; exact hw⟩
  | o :: ol, [], i, cs, tm, h, Q, st, hw, hc, hpr, hfo, hi, htm, hn, ht, hI => by simp [chainOk] at hc
  | o :: ol, m :: ms, i, cs, tm, h, Q, st, hw, hc, hpr, hfo, hi, htm, hn, ht, hI => by
    simp only [WOC] at hw
    obtain ⟨_, hw⟩ := hw
    obtain ⟨I0, I4, I1, I2, I3, I5⟩ := hI
    have hpr' : ∀ (k : Nat) (o : Oper) (m : Nat), ol[k]? = some o → ms[k]? = some m → (kindOf o.op = .read → PRm m ∧ PR (i + 1 + k)) ∧ (calm o.op = false → PM m ∧ PC (i + 1 + k)) := fun k o' m' ho hm => by have := hpr (k + 1) o' m' (by simpa using ho) (by simpa using hm); rwa [show i + (k + 1) = i + 1 + k by omega] at this
    have hfo' : ∀ (k : Nat) (o : Oper) (m : Nat), ol[k]? = some o → ms[k]? = some m → kindOf o.op ≠ .new → ∀ e ∈ fs0, bt m e.f = false := fun k o' m' ho hm => hfo (k + 1) o' m' (by simpa using ho) (by simpa using hm)
    have hput : ∀ {v : AV} {N : T AV → Prop}, putK nt tm o.dst v N → N (putT tm o.dst v) := fun {v N} hp => by
      unfold putK at hp
      unfold putT
      split at hp
      · rename_i hd; rw [hd]; exact hp
      · rename_i d hd; rw [hd]; exact hp.2
    have heta : ({ t := t0, n := h.n } : Hp) = h := by rw [← ht]
    simp only [chainOk] at hc
    cases haw : awanted ops o tm with
    | false =>
      rw [haw] at hw; simp only [cond_false] at hw
      have hw := hput hw
      have hd : ∀ call, dstep E.P E.tb E.xt call ops o m st = some (upd o m st default { t := .e, n := st.n } .new) := fun call => by
        unfold dstep dres
        rw [htm, haw]; rfl
      have hc2 : chainOk ol ms (i + 1) (bif calm o.op then cs else i :: cs) = true := by
        cases hcal : calm o.op with
        | true => rw [hcal] at hc; exact hc
        | false =>
          rw [hcal] at hc
          simp only [cond_false, Bool.and_eq_true] at hc
          exact hc.2.2
      have hsub : ∀ x ∈ cs, x ∈ (bif calm o.op then cs else i :: cs) := fun x hx => by
        cases calm o.op with
        | true => exact hx
        | false => exact List.mem_cons_of_mem _ hx
      obtain ⟨call, st', h', r1, r2, r3, r4, r5, r6, r7⟩ := woc_drun3 (t0 := t0) ol ms (i + 1) _ _ h Q (upd o m st default { t := .e, n := st.n } .new) hw hc2 hpr' hfo' (by simp [upd, hi]) (by simp [upd, htm]) (by simp [upd, hn]) ht
        ⟨by simpa [upd] using I0, by simpa [upd] using I4, by simp [upd, I1], by simp [upd, I2], by simpa [upd] using I3, by rcases I5 with h1 | h1; exact .inl (by simp [upd, h1]); exact .inr ⟨by simpa [upd] using hsub _ h1.1, by simpa [upd] using h1.2⟩⟩
      exact ⟨call, st', h', r1, r2, by rw [drun_cons, hd]; exact r3, by simpa [csOf] using r4, r5, r6, r7⟩
    | true =>
      rw [haw] at hw; simp only [cond_true] at hw
      cases hcal : calm o.op with
      | true =>
        rw [hcal] at hc; simp only [cond_true] at hc
        have hcsf : csOf (o :: ol) i cs = csOf ol (i + 1) cs := by simp only [csOf, hcal, cond_true]
        rw [hcsf]
        obtain ⟨call0, res, _, hop, hk⟩ := hw.ev
        rw [calm_evOp rfl hcal] at hop
        cases ha : aop E.P E.tb E.xt (aeval tm) o.op h with
        | none => rw [ha] at hop; cases hop
        | some p =>
          obtain ⟨v, h1⟩ := p
          rw [ha] at hop
          simp only [orOk, Option.some.injEq] at hop
          subst hop
          obtain ⟨_, hk⟩ := hk
          have hk := hput hk
          rcases calm_kind hcal with hkd | hkd
          · obtain ⟨e1, e2⟩ := calm_new hcal hkd ha
            subst e1
            have hd : ∀ call, dstep E.P E.tb E.xt call ops o m st = some (upd o m st v { t := .e, n := st.n } .new) := fun call => by
              unfold dstep dres
              rw [htm, haw, hkd]
              simp only [cond_true]
              rw [calm_evOp rfl hcal, e2]; rfl
            obtain ⟨call, st', h', r1, r2, r3, r4, r5, r6, r7⟩ := woc_drun3 (t0 := t0) ol ms (i + 1) cs _ h1 Q (upd o m st v { t := .e, n := st.n } .new) hk hc hpr' hfo' (by simp [upd, hi]) (by simp [upd, htm]) (by simp [upd, hn]) ht
              ⟨by simpa [upd] using I0, by simpa [upd] using I4, by simp [upd, I1], by simp [upd, I2], by simpa [upd] using I3, by simpa [upd] using I5⟩
            exact ⟨call, st', h', r1, r2, by rw [drun_cons, hd]; exact r3, r4, r5, r6, r7⟩
          · obtain ⟨e1, e2⟩ := calm_read hcal hkd ha
            subst e1
            have hov : ({ t := ovl (fun f => bt m f && !bt st.mj f) st.fs st.b, n := st.n } : Hp) = h1 := by rw [I1, ovl_off _ _ (fun e he => by rw [hfo 0 o m rfl rfl (by rw [hkd]; simp) e he]; rfl), I2, hn]; exact heta
            have hd : ∀ call, dstep E.P E.tb E.xt call ops o m st = some (upd o m st v h1 .read) := fun call => by
              unfold dstep dres
              rw [htm, haw, hkd]
              simp only [cond_true]
              rw [hov, calm_evOp rfl hcal, ha]; rfl
            obtain ⟨call, st', h', r1, r2, r3, r4, r5, r6, r7⟩ := woc_drun3 (t0 := t0) ol ms (i + 1) cs _ h1 Q (upd o m st v h1 .read) hk hc hpr' hfo' (by simp [upd, hi]) (by simp [upd, htm]) (by simp [upd, hn]) ht
              ⟨by simpa [upd] using I0, fun r hr => by
                simp only [upd, List.mem_cons] at hr
                rcases hr with rfl | hr
                · have hp := (hpr 0 o m rfl rfl).1 hkd
                  refine .inr ⟨hp.1, by have := hp.2; simpa [hi] using this, fun call => ?_⟩
                  simp only
                  rw [calm_evOp rfl hcal, htm, hn, ← ht, e2]; rfl
                · exact I4 r hr, by simp [upd, I1], by simp [upd, I2], by simpa [upd] using I3, by simpa [upd] using I5⟩
            exact ⟨call, st', h', r1, r2, by rw [drun_cons, hd]; exact r3, by simpa [csOf] using r4, r5, r6, r7⟩
      | false =>
        rw [hcal] at hc
        simp only [cond_false, Bool.and_eq_true] at hc
        have hcsf : csOf (o :: ol) i cs = csOf ol (i + 1) (i :: cs) := by simp only [csOf, hcal, cond_false]
        rw [hcsf]
        obtain ⟨hc1, hc2, hc3⟩ := hc
        unfold isCall at hc1
        split at hc1
        · rename_i q hq
          split at hc1
          · rename_i f hf
            unfold WOp at hw
            simp only [hq, calK, hf] at hw
            obtain ⟨res, h1, hcs, hk⟩ := hw
            cases res with
            | pan v => exact hk.elim
            | ret v =>
              obtain ⟨⟨n, hlt, hnn, rfl⟩, hk⟩ := hk
              have hlt : h.n < n := hlt (by simp [isCall, hq, hf])
              have hk := hput hk
              have hkd : kindOf o.op = .eff := by simp [hq, kindOf, hf]
              have hp := (hpr 0 o m rfl rfl).2 hcal
              simp only [Nat.add_zero] at hp
              obtain ⟨call, st', h', r1, r2, r3, r4, r5, r6, r7⟩ := woc_drun3 (t0 := t0) ol ms (i + 1) (i :: cs) _ (h.up n) Q (upd o m st v (h.up n) .eff) hk hc3 hpr' hfo' (by simp [upd, hi]) (by simp [upd, htm]) (by simp [upd]) ht
                ⟨by simpa [upd] using hp.1, by simpa [upd] using I4, by simp [upd, I1], by simp [upd, ht], fun e he => by
                  simp only [upd, List.mem_cons] at he
                  rcases he with rfl | he
                  · exact .inr ⟨I2, I0, by simpa [hi] using hp.2⟩
                  · exact I3 e he, .inr ⟨by simp [upd, hi], by simpa [upd, hi] using hp.2⟩⟩
              have hsd : Sound E.P E.xt (ocall (aeval tm f) (q.args.toList.map (aeval tm)) h (.ret v) (h.up n) call) := by
                intro fv a k r k' he
                unfold ocall at he
                split at he
                · rename_i hq
                  obtain ⟨rfl, rfl, rfl⟩ := hq
                  cases he
                  exact hcs
                · exact r1 _ _ _ _ _ he
              refine ⟨ocall (aeval tm f) (q.args.toList.map (aeval tm)) h (.ret v) (h.up n) call, st', h', hsd, ⟨fun fv a k r he => ?_, Nat.le_trans hnn r2.2⟩, ?_, r4, r5, r6, r7⟩
              · unfold ocall at he
                split at he
                · rename_i hq
                  rw [hq.2.2]
                  have := r2.2
                  simp only [Hp.up_n] at this
                  exact ⟨Nat.le_refl _, by omega⟩
                · have := r2.1 _ _ _ _ he
                  simp only [Hp.up_n] at this; omega
              · have hov : ({ t := ovl (fun f => bt m f && !bt st.mj f) st.fs st.b, n := st.n } : Hp) = h := by rw [I1, ovl_off _ _ (fun e he => by rw [hfo 0 o m rfl rfl (by rw [hkd]; simp) e he]; rfl), I2, hn]; exact heta
                have hch : (Nat.beq st.ne 0 || bt m st.dl) = true := by
                  rcases I5 with h1 | h1
                  · rw [h1]; rfl
                  · rw [List.all_eq_true.1 hc2 _ h1.1]; simp
                have hev : evOp E.P E.tb E.xt (ocall (aeval tm f) (q.args.toList.map (aeval tm)) h (.ret v) (h.up n) call) o tm h = some (.ok v (h.up n)) := by
                  simp [evOp, hq, evOpCall, hf, ocall, orCall]
                rw [drun_cons]
                have hd : dstep E.P E.tb E.xt (ocall (aeval tm f) (q.args.toList.map (aeval tm)) h (.ret v) (h.up n) call) ops o m st = some (upd o m st v (h.up n) .eff) := by
                  unfold dstep dres
                  rw [htm, haw, hkd]
                  simp only [cond_true]
                  rw [hch]
                  simp only [cond_true]
                  rw [hov, hev]
                rw [hd]
                simp only
                refine drun_later r1 ol ms _ _ (fun fv a k r hk hr => ?_) r3
                unfold ocall
                rw [if_neg (fun hq => ?_)]
                · exact hr
                · simp only [upd, Hp.up_n] at hk
                  rw [hq.2.2] at hk; omega
          · cases hc1
        · cases hc1


def isNew (op : Op) : Bool := match kindOf op with
  | .new => true
  | _ => false
theorem isNew_ok {op : Op} (h : isNew op = true) : kindOf op = .new := by
  unfold isNew at h
  split at h
  · assumption
  · cases h
def calmOkN (nt : Nat) (l : List Oper) (z : Oper) (l2 : List Oper) : Bool :=
  match sta ⟨l ++ z :: l2⟩ with
  | none => false
  | some s => Nat.ble s.mx nt && (isNew z.op && (chainOk l s.ms 0 [] && (chainOk l2 (s.ms.drop (l.length + 1)) (l.length + 1) (csOf l 0 []) && (Nat.blt l.length s.ms.length && ((actM l s.ms).all (fun m => !bt m l.length) && (actM l2 (s.ms.drop (l.length + 1))).all fun m => !bt m l.length)))))
def newK (E : Env) (nt : Nat) (ops : Array Oper) (l2 : List Oper) (Q : T AV → Hp → Prop) (z : Oper) (tm1 : T AV) (h1 : Hp) : Prop :=
  awanted ops z tm1 = true ∧ ∃ v o, (∀ call (t : T AO), evOp E.P E.tb E.xt call z tm1 { t := t, n := h1.n } = some (.ok v (({ t := t, n := h1.n } : Hp).new o))) ∧ putK nt tm1 z.dst v (fun tm2 => WOC E nt ops l2 tm2 (h1.up (h1.n + 1)) (fun tm3 h3 => Q tm3 { t := h3.t.put (some o) h1.n, n := h3.n }))
theorem WOC.okN {E : Env} {nt : Nat} (htb : Tb E.P E.tb) {l : List Oper} {z : Oper} {l2 : List Oper} {ops : Array Oper} (hops : ops = ⟨l ++ z :: l2⟩) (hst : calmOkN nt l z l2 = true) {tm : T AV} {h : Hp} {Q : T AV → Hp → Prop}
    (hw : WOC E nt ops l tm h (newK E nt ops l2 Q z)) : ∃ tm' h', DrX E nt ops tm h .normal tm' h' ∧ Q tm' h' := by
  have hol : ops.toList = l ++ z :: l2 := by rw [hops]
  unfold calmOkN at hst
  rw [← hops] at hst
  split at hst
  · cases hst
  rename_i s hs
  simp only [Bool.and_eq_true, Nat.blt_eq] at hst
  obtain ⟨hmx, hnew, hch, hch2, hlen, hM1, hM2⟩ := hst
  have hkz := isNew_ok hnew
  have off1 : ∀ (k : Nat) (o : Oper) (m : Nat), l[k]? = some o → s.ms[k]? = some m → kindOf o.op ≠ .new → bt m l.length = false := fun k o m ho hm hk => by
    have := List.all_eq_true.1 hM1 m (actM_mem _ _ k o m ho hm hk); simpa using this
  have off2 : ∀ (k : Nat) (o : Oper) (m : Nat), l2[k]? = some o → (s.ms.drop (l.length + 1))[k]? = some m → kindOf o.op ≠ .new → bt m l.length = false := fun k o m ho hm hk => by
    have := List.all_eq_true.1 hM2 m (actM_mem _ _ k o m ho hm hk); simpa using this
  have rdn : ∀ {o : Oper}, kindOf o.op = .read → kindOf o.op ≠ .new := fun h => by rw [h]; simp
  obtain ⟨call, st, h1, r1, r2, r3, I, r5, r6, hz⟩ := woc_drun3 (t0 := h.t) (fs0 := []) (bs0 := []) (rs0 := []) (PM := fun m => bt m l.length = false) (PRm := fun m => bt m l.length = false) (PR := fun _ => True) (PC := fun _ => True) l s.ms 0 [] tm h _ { i := 0, tm := tm, n := h.n, b := h.t, mj := 0, dl := 0, ne := 0, fs := [], bs := [], rs := [] } hw hch
    (fun k o m ho hm => ⟨fun hk => ⟨off1 k o m ho hm (rdn hk), trivial⟩, fun hk => ⟨off1 k o m ho hm (chain_calls l _ _ _ hch k o ho hk), trivial⟩⟩) (fun _ _ _ _ _ _ e he => by cases he) rfl rfl rfl rfl ⟨by simp [bt_eq], by simp, rfl, rfl, by simp, .inl rfl⟩
  obtain ⟨I0, I4, I1, I2, I3, I5⟩ := I
  have hi : st.i = l.length := by have := drun_i _ _ _ _ r3; simpa using this
  obtain ⟨m, hm⟩ : ∃ m, s.ms.drop l.length = m :: s.ms.drop (l.length + 1) := ⟨_, List.drop_eq_getElem_cons hlen⟩
  obtain ⟨haw, v, o, hev, hk⟩ := hz
  have hput : ∀ {v : AV} {N : T AV → Prop}, putK nt st.tm z.dst v N → N (putT st.tm z.dst v) := fun {v N} hp => by
    unfold putK at hp
    unfold putT
    split at hp
    · rename_i hd; rw [hd]; exact hp
    · rename_i d hd; rw [hd]; exact hp.2
  have hk := hput hk
  rw [← r5] at hev
  have hd : ∀ call, dstep E.P E.tb E.xt call ops z m st = some (upd z m st v (({ t := .e, n := st.n } : Hp).new o) .new) := fun call => by
    unfold dstep dres
    rw [haw]
    simp only [cond_true, hkz]
    rw [hev]
  obtain ⟨st2, hst2⟩ : ∃ st2, st2 = upd z m st v (({ t := .e, n := st.n } : Hp).new o) .new := ⟨_, rfl⟩
  obtain ⟨en, hen⟩ : ∃ en : FE, en = { f := l.length, s := st.n, cnt := 1, os := T.put .e (some o) st.n } := ⟨_, rfl⟩
  have hfs : st2.fs = [en] := by
    rw [hst2, hen]
    have hb : Nat.beq (st.n + 1) st.n = false := by
      cases hq : Nat.beq (st.n + 1) st.n with
      | false => rfl
      | true => have := Nat.eq_of_beq_eq_true hq; omega
    simp [upd, Hp.new, hb, I1, hi]
  have hef : en.f = l.length := by rw [hen]
  obtain ⟨call2, st3, h3, p1, p2, p3, J, p5, p6, hQ⟩ := woc_drun3 (t0 := h.t) (fs0 := [en]) (bs0 := []) (rs0 := []) (PM := fun m => bt m l.length = false) (PRm := fun m => bt m l.length = false) (PR := fun _ => True) (PC := fun _ => True) l2 (s.ms.drop (l.length + 1)) (l.length + 1) (csOf l 0 []) _ (h1.up (h1.n + 1)) _ st2 hk hch2
    (fun k o m ho hm => ⟨fun hk => ⟨off2 k o m ho hm (rdn hk), trivial⟩, fun hk => ⟨off2 k o m ho hm (chain_calls l2 _ _ _ hch2 k o ho hk), trivial⟩⟩) (fun k o m ho hm hk e he => by rw [List.mem_singleton] at he; subst he; rw [hef]; exact off2 k o m ho hm hk)
    (by rw [hst2]; simp [upd, hi]) (by rw [hst2]; rfl) (by rw [hst2]; simp [upd, Hp.new, r5]) r6
    ⟨by rw [hst2]; simpa [upd] using I0, by rw [hst2]; simpa [upd] using I4, hfs, by rw [hst2]; simpa [upd] using I2, by rw [hst2]; simpa [upd] using I3, by rw [hst2]; simpa [upd] using I5⟩
  obtain ⟨J0, J4, J1, J2, J3, _⟩ := J
  -- the calls before, and those behind
  obtain ⟨cl, hcl⟩ : ∃ cl : CallF, cl = fun fv a k => if k.n < h1.n then call fv a k else call2 fv a k := ⟨_, rfl⟩
  have hcls : Sound E.P E.xt cl := by
    intro fv a k r k' he
    rw [hcl] at he
    simp only at he
    split at he
    · exact r1 _ _ _ _ _ he
    · exact p1 _ _ _ _ _ he
  have r3' := drun_later (call' := cl) r1 l s.ms _ _ (fun fv a k r _ hr => by
    rw [hcl]
    simp only
    rw [if_pos (r2.1 _ _ _ _ hr).2]
    exact hr) r3
  have p3' := drun_later (call' := cl) p1 l2 _ _ _ (fun fv a k r hk hr => by
    have hb := p2.1 _ _ _ _ hr
    simp only [Hp.up_n] at hb
    rw [hcl]
    simp only
    rw [if_neg (by omega)]
    exact hr) p3
  have hrun : drun E.P E.tb E.xt cl ops ops.toList s.ms { i := 0, tm := tm, n := h.n, b := h.t, mj := 0, dl := 0, ne := 0, fs := [], bs := [], rs := [] } = some st3 := by
    rw [hol, drun_append _ _ _ _ _ r3', hm, drun_cons, hd, ← hst2]; exact p3'
  have hchk : DChk E.P E.tb E.xt cl st3 ops.size := by
    intro r hr e' he'
    rcases J4 r hr with h0 | ⟨hrm, _, hrv⟩
    · cases h0
    refine .inr (.inr (.inr ⟨{ t := h.t, n := r.n }, ?_⟩))
    have hb : e'.b = h.t := by
      rcases List.mem_cons.1 he' with rfl | he'
      · exact J2
      · rcases J3 e' he' with h0 | h0
        · cases h0
        · exact h0.1
    rw [J1, ovl_off _ _ (fun e he => by rw [List.mem_singleton] at he; subst he; rw [hef, hrm]; rfl), hb]
    exact hrv cl
  obtain ⟨n1, s1⟩ := drun_okP htb hcls hs (Nat.le_of_ble_eq_true hmx) hrun hchk
  have f1 : ({ t := ovl (fun f => !bt st3.mj f) st3.fs st3.b, n := st3.n } : Hp) = { t := h3.t.put (some o) h1.n, n := h3.n } := by
    rw [J1]
    simp only [ovl, hef, J0, Bool.not_false, cond_true]
    rw [hen]
    simp only [mrg]
    rw [T.get_put, if_pos rfl, J2, p5, r5, ← p6]
  rw [f1] at s1
  rw [p5] at n1 s1
  exact ⟨_, { t := h3.t.put (some o) h1.n, n := h3.n }, ⟨n1, s1⟩, hQ⟩
def drawOkN (nt : Nat) (ops : Array Oper) (k j : Nat) : Bool :=
  match ops.toList.drop k with
  | [] => false
  | z :: zs => calmOkN nt (ops.toList.take k) z (zs.take j) && (lastsOk (ops.toList.take k ++ z :: zs.take j) (zs.drop j) && ((ops.toList.take k).all (guardLt k) && ((zs.take j).all (guardLt (k + 1 + j)) && (guardLt k z && Nat.ble (k + 1 + j) ops.size))))
theorem SemC.drawnN {E : Env} {nt : Nat} (htb : Tb E.P E.tb) (hm : E.P.follows .mixedOrders = true) {r : Option Nat} {id : Nat} {ops : Array Oper} (k j : Nat) (hst : drawOkN nt ops k j = true) {tm : T AV} {h : Hp} {mks : List Nat} {Q : Ex → St → Prop}
    (hw : WOC E nt ops (ops.toList.take k) tm h (fun tm1 h1 => ∀ z, ops.toList[k]? = some z → newK E nt ops ((ops.toList.drop (k + 1)).take j) (fun tm2 h2 => WO E nt ops (ops.toList.drop (k + 1 + j)) tm2 h2 (regK ⟨tm, nt, h, mks⟩ Q)) z tm1 h1)) : W E r (.region id ops true) ⟨tm, nt, h, mks⟩ Q := by
  unfold drawOkN at hst
  split at hst
  · cases hst
  rename_i z zs hz
  simp only [Bool.and_eq_true, Nat.ble_eq] at hst
  obtain ⟨hca, hla, hgd, hg2, hgz, hsz⟩ := hst
  have hzk : ops.toList[k]? = some z := by
    have := congrArg List.head? hz
    rwa [List.head?_drop] at this
  have hdr : ops.toList.drop (k + 1) = zs := by rw [← List.drop_drop, hz]; rfl
  have hdr2 : ops.toList.drop (k + 1 + j) = zs.drop j := by rw [← List.drop_drop, hdr]
  have hall : ops.toList.take k ++ z :: zs = ops.toList := by rw [← hz]; exact List.take_append_drop _ _
  have hall2 : (ops.toList.take k ++ z :: zs.take j) ++ zs.drop j = ops.toList := by
    rw [List.append_assoc, List.cons_append, List.take_append_drop]; exact hall
  have hlen : (ops.toList.take k).length = k := by
    have h1 : 0 < (ops.toList.drop k).length := by rw [hz]; simp
    rw [List.length_drop] at h1
    rw [List.length_take]; omega
  have hzl : (zs.take j).length = j := by
    have : zs.length = ops.toList.length - (k + 1) := by rw [← hdr, List.length_drop]
    have e : ops.toList.length = ops.size := by simp
    rw [List.length_take]; omega
  have hat : ∀ i, i < k + 1 + j → (⟨ops.toList.take k ++ z :: zs.take j⟩ : Array Oper)[i]? = ops[i]? := fun i hi => by
    simp only [List.getElem?_toArray]
    rw [← Array.getElem?_toList]
    have hlt : i < (ops.toList.take k ++ z :: zs.take j).length := by simp only [List.length_append, List.length_cons, hlen, hzl]; omega
    conv => rhs; rw [← hall2]
    rw [List.getElem?_append_left hlt]
  have gl : ∀ {n : Nat} {o : Oper}, guardLt n o = true → ∀ i w, o.guard = some (i, w) → i < n := fun {n o} hg i w hgu => by
    unfold guardLt at hg
    rw [hgu] at hg
    simpa [Nat.blt_eq] using hg
  have hw1 := WOC_prefix (ops' := ⟨ops.toList.take k ++ z :: zs.take j⟩) _ _ _ _ (fun o ho i w hg => hat i (by have := gl (List.all_eq_true.1 hgd o ho) i w hg; omega)) hw
  have haw : ∀ tm1, awanted ⟨ops.toList.take k ++ z :: zs.take j⟩ z tm1 = awanted ops z tm1 := fun tm1 => by
    simp only [awanted]
    cases hg : z.guard with
    | none => rfl
    | some p =>
      obtain ⟨i, w⟩ := p
      simp only
      rw [hat i (by have := gl hgz i w hg; omega)]
  have hw2 := WOC_mono (Q' := newK E nt ⟨ops.toList.take k ++ z :: zs.take j⟩ (zs.take j) (fun tm2 h2 => WO E nt ops (zs.drop j) tm2 h2 (regK ⟨tm, nt, h, mks⟩ Q)) z) _ _ _ hw1 (fun tm1 h1 hx => by
    obtain ⟨x1, v, o, x2, x3⟩ := hx z hzk
    refine ⟨by rw [haw]; exact x1, v, o, x2, ?_⟩
    have key : ∀ tm2 h2, WOC E nt ops ((ops.toList.drop (k + 1)).take j) tm2 h2 (fun tm3 h3 => WO E nt ops (ops.toList.drop (k + 1 + j)) tm3 { t := h3.t.put (some o) h1.n, n := h3.n } (regK ⟨tm, nt, h, mks⟩ Q)) → WOC E nt ⟨ops.toList.take k ++ z :: zs.take j⟩ (zs.take j) tm2 h2 (fun tm3 h3 => WO E nt ops (zs.drop j) tm3 { t := h3.t.put (some o) h1.n, n := h3.n } (regK ⟨tm, nt, h, mks⟩ Q)) := fun tm2 h2 hy => by
      rw [hdr, hdr2] at hy
      exact WOC_prefix (ops' := ⟨ops.toList.take k ++ z :: zs.take j⟩) _ _ _ _ (fun o ho i w hg => hat i (gl (List.all_eq_true.1 hg2 o ho) i w hg)) hy
    unfold putK at x3 ⊢
    split at x3
    · exact key _ _ x3
    · exact ⟨x3.1, key _ _ x3.2⟩)
  obtain ⟨tm1, h1, hd, hq⟩ := WOC.okN htb rfl hca hw2
  obtain ⟨x, tm2, h2, hd2, hq2⟩ := DrX.lasts htb _ _ tm1 h1 hla (fun i hi => by rw [hall2, Array.getElem?_toList]) hd hq
  rw [hall2] at hd2
  have lift : ∀ {a : Act} {w : World} {r : Option Nat} {id : Nat} {Q : Exit → Act → World → Prop}, (∀ t, wpOpsIn (Wd r) 0 E.P ops Q (Region.linearise .any ops t) a { w with drawn := w.drawn + 1 }) → (Code.region id ops true).wpIn (Wd r) 0 E.P Q a w := fun hh => by
    refine wpIn_region_draw fun t => ?_
    simp only [Region.schedule, hm, Bool.true_or, if_true]
    exact hh t
  have hds : DrwS E nt ops tm h x tm2 h2 := ⟨hd2.1, fun lim hl c a w r id g hxt ht Q hQ => lift fun t => hd2.2 lim hl c a w r t g hxt ht Q hQ⟩
  exact ⟨_, _, .regionD (st := ⟨tm, nt, h, mks⟩) hds, hq2⟩
end
section
variable {E : Env} {nt : Nat} {ops : Array Oper} {tm : T AV} {h : Hp} {mks : List Nat} {r : Option Nat} {id : Nat} {b : Code} {Q : Ex → St → Prop}
theorem seq_regDN (ok : SyOk E) (k j : Nat) (hst : drawOkN nt ops k j = true) {z : Oper} (hz : ops.toList[k]? = some z) (hw : ∀ K : Ex → T AV → Hp → Prop, (∀ tm h, wpc E r b ⟨tm, nt, h, mks⟩ Q → K .normal tm h) → (∀ v tm h, Q (.panic v) ⟨tm, nt, h, mks⟩ → K (.panic v) tm h) → WOC E nt ops (ops.toList.take k) tm h (newK E nt ops ((ops.toList.drop (k + 1)).take j) (fun tm2 h2 => WO E nt ops (ops.toList.drop (k + 1 + j)) tm2 h2 K) z)) :
    wpc E r (.seq (.region id ops true) b) ⟨tm, nt, h, mks⟩ Q := by
  show W E r (.region id ops true) ⟨tm, nt, h, mks⟩ (seqK (fun s => wpc E r b s Q) Q)
  refine SemC.drawnN ok.tb ok.mixed k j hst (WOC_mono _ _ _ (hw (regK ⟨tm, nt, h, mks⟩ (seqK (fun s => wpc E r b s Q) Q)) (fun tm h hh => hh) (fun v tm h hh => hh)) fun tm1 h1 hx z' hz' => ?_)
  rw [hz] at hz'
  cases hz'
  exact hx
/-- A map, made in the midst. -/
theorem newK_map {ops : Array Oper} {l2 : List Oper} {Q : T AV → Hp → Prop} {d : Tmp} {t : TypeId} {ty : TypeId} {ps : String} {af : Array Edge} {tm1 : T AV} {h1 : Hp} (hd : d < nt)
    (hw : WOC E nt ops l2 (tm1.put (some (.mp h1.n)) d) (h1.up (h1.n + 1)) (fun tm3 h3 => Q tm3 { t := h3.t.put (some (.map [])) h1.n, n := h3.n })) : newK E nt ops l2 Q ⟨some d, .makeMap t none, ty, ps, af, none⟩ tm1 h1 :=
  ⟨rfl, .mp h1.n, .map [], fun call t => rfl, hd, hw⟩
end
end Go.Ev
end
namespace Go.Proofs.Kn
open Go Go.Ev
set_option maxRecDepth 100000
theorem tg92 : tb.get 92 = some te92 := by kernel_rfl
theorem tg90 : tb.get 90 = some te90 := by kernel_rfl
theorem ld92 (xt : Addr → Option Value) (h : Hp) (b off : Nat) : aload tb xt h 92 (.ptr b off) = cellAgg 7 (h.t.get b) off := lda_of tg92 rfl rfl
theorem ld90 (xt : Addr → Option Value) (h : Hp) (b off : Nat) : aload tb xt h 90 (.ptr b off) = cellGet (h.t.get b) off := ld_of tg90 rfl
theorem fa92_0 (b off : Nat) : afieldAddr tb 92 (.ptr b off) 0 = some (.ptr b (off + 0)) := fa_of tg92 rfl rfl
theorem fa92_1 (b off : Nat) : afieldAddr tb 92 (.ptr b off) 1 = some (.ptr b (off + 5)) := fa_of tg92 rfl rfl
theorem fa92_2 (b off : Nat) : afieldAddr tb 92 (.ptr b off) 2 = some (.ptr b (off + 6)) := fa_of tg92 rfl rfl
abbrev lkc (s : Sk) (B : Int) (mb : Nat) : List AV := [iv s.sh, s.vs, s.ve, iv s.wt, iv s.off, iv B, .mp mb]
/-! ### the map of what was found -/
def k3 (n : Nat → Int) : Int × Int × Int := (n 0, n 1, n 2)
def fn3 (x : Int × Int × Int) : Nat → Int
  | 0 => x.1
  | 1 => x.2.1
  | 2 => x.2.2
  | _ => 0
theorem fn3_k3 {n : Nat → Int} (h : ∀ j, 3 ≤ j → n j = 0) : fn3 (k3 n) = n := by
  funext j
  match j with
  | 0 => rfl
  | 1 => rfl
  | 2 => rfl
  | j + 3 => exact (h (j + 3) (by omega)).symm
abbrev ka (x : Int × Int × Int) : AV := .agg [iv x.1, iv x.2.1, iv x.2.2]
def ents (l : List ((Int × Int × Int) × Int)) : List (AV × AV) := l.map fun p => (ka p.1, iv p.2)
theorem keys_ents : ∀ (l : List ((Int × Int × Int) × Int)), keysOf (ents l) = some ((l.map Prod.fst).map kv)
  | [] => rfl
  | p :: l => by
    show (match toVal (ka p.1) with | none => none | some v => match keysOf (ents l) with | none => none | some l => some (v :: l)) = _
    rw [keys_ents l]; rfl
theorem keyAt_some {x : Int × Int × Int} : ∀ {l : List (Int × Int × Int)} {i j : Nat}, keyAt x l i = some j → ∃ k, j = i + k ∧ l[k]? = some x
  | [], i, j, h => by simp [keyAt] at h
  | y :: l, i, j, h => by
    simp only [keyAt] at h
    split at h
    · rename_i hq; cases h; exact ⟨0, rfl, by simp [hq]⟩
    · obtain ⟨k, h1, h2⟩ := keyAt_some h; exact ⟨k + 1, by omega, by simpa using h2⟩
/-- What was found is right. -/
def EntOk (L : (Nat → Int) → Int) (l : List ((Int × Int × Int) × Int)) : Prop := ∀ p ∈ l, p.2 = L (fn3 p.1)
theorem look_up (h : Hp) (mb : Nat) (l : List ((Int × Int × Int) × Int)) (hm : h.t.get mb = some (.map (ents l))) (n : Nat → Int) :
    (alookup Tryz.prog tb h 90 (.mp mb) (sh3 n) true = some (.tup [iv 0, .val (.bool false)])) ∨ (∃ v, (k3 n, v) ∈ l ∧ alookup Tryz.prog tb h 90 (.mp mb) (sh3 n) true = some (.tup [iv v, .val (.bool true)])) := by
  have e1 : te90.d = .map 95 3 := rfl
  have e2 : te3.zv = .int .i64 0 := rfl
  have e3 : toVal (sh3 n) = some (kv (k3 n)) := rfl
  have base : ∀ r, afind Tryz.prog 95 (kv (k3 n)) ((l.map Prod.fst).map kv) = some r → alookup Tryz.prog tb h 90 (.mp mb) (sh3 n) true = (match r with | none => some (.tup [iv 0, .val (.bool false)]) | some i => match (ents l)[i]? with | none => none | some (_, v) => some (.tup [v, .val (.bool true)])) := fun r hr => by
    unfold alookup
    simp only [tg90, e1, tg3, e3, aentries, hm, keys_ents, check95, hr, e2]
    cases r with
    | none => rfl
    | some i =>
      simp only [cond_true]
      generalize (ents l)[i]? = o
      cases o <;> rfl
  have hf := afind95 (k3 n) (l.map Prod.fst)
  have hb := base _ hf
  cases hk : keyAt (k3 n) (l.map Prod.fst) 0 with
  | none => rw [hk] at hb; exact .inl hb
  | some i =>
    rw [hk] at hb
    obtain ⟨k, rfl, h2⟩ := keyAt_some hk
    rw [Nat.zero_add] at hb
    rw [List.getElem?_map, Option.map_eq_some_iff] at h2
    obtain ⟨p, hp, hp2⟩ := h2
    have : (ents l)[k]? = some (ka p.1, iv p.2) := by simp [ents, hp]
    simp only [this] at hb
    refine .inr ⟨p.2, ?_, hb⟩
    rw [← hp2]
    exact List.mem_of_getElem? hp
theorem up_date (h : Hp) (mb : Nat) (l : List ((Int × Int × Int) × Int)) (hm : h.t.get mb = some (.map (ents l))) (n : Nat → Int) (v : Int) {L : (Nat → Int) → Int} (hl : EntOk L l) (hn : ∀ j, 3 ≤ j → n j = 0) (hv : v = L n) :
    ∃ l', amapUpdate Tryz.prog tb h 90 (.mp mb) (sh3 n) (iv v) = some (h.set mb (.map (ents l'))) ∧ EntOk L l' := by
  have e1 : te90.d = .map 95 3 := rfl
  have e3 : toVal (sh3 n) = some (kv (k3 n)) := rfl
  have hnew : (fun p : (Int × Int × Int) × Int => p.2 = L (fn3 p.1)) (k3 n, v) := by show v = L (fn3 (k3 n)); rw [fn3_k3 hn]; exact hv
  have hf := afind95 (k3 n) (l.map Prod.fst)
  cases hk : keyAt (k3 n) (l.map Prod.fst) 0 with
  | none =>
    rw [hk] at hf
    refine ⟨l ++ [(k3 n, v)], ?_, fun p hp => ?_⟩
    · unfold amapUpdate
      simp only [tg90, e1, e3, hm, keys_ents, check95, hf]
      simp [ents, k3]
    · rcases List.mem_append.1 hp with hp | hp
      · exact hl p hp
      · rw [List.mem_singleton] at hp; subst hp; exact hnew
  | some i =>
    rw [hk] at hf
    obtain ⟨k, rfl, h2⟩ := keyAt_some hk
    rw [Nat.zero_add] at hf
    have hkv : ((l.map Prod.fst).map kv)[k]? = some (kv (k3 n)) := by rw [List.getElem?_map, h2]; rfl
    have hsb : Instr.sameBits 10000 (kv (k3 n)) (kv (k3 n)) = true := by simp [Instr.sameBits]
    refine ⟨l.set k (k3 n, v), ?_, fun p hp => ?_⟩
    · unfold amapUpdate
      simp only [tg90, e1, e3, hm, keys_ents, check95, hf, hkv, hsb]
      simp [ents, k3, List.map_set]
    · rcases List.mem_or_eq_of_mem_set hp with hp | rfl
      · exact hl p hp
      · exact hnew
/-! ### blanks, told of a looker -/
theorem ft88 (xt : Addr → Option Value) : (SE xt).ft.get 88 = some Tryz.f88 := by kernel_rfl
theorem res88 : Tryz.f88.results.toList = [.tmp 3] := by kernel_rfl
theorem look1_tells (xt : Addr → Option Value) (h : Hp) (s : Sk) (B : Int) (mb : Nat) (ha : s.At xt h) (h3 : s.sorts.length ≤ 3) (b N : Nat) (hb : b < N) (hN : N ≤ h.n) (hlow : s.Low N) (q : h.t.get b = some (.cells (lkc s B mb) 92)) : Tells (SE xt) (.fn (.func 88) [] [.ptr b 0]) N h s.blanks := by
  refine ⟨fun h' now K hn' hsame hk => ?_, rfl, rfl⟩
  have q' : h'.t.get b = some (.cells (lkc s B mb) 92) := by rw [hsame b hb]; exact q
  have ha' : s.At xt h' := by
    have key : ∀ {sz : Nat} {v : AV} {cs : List (List Value)}, RowAt xt h sz v cs → (∀ b off n e, v = .sl b off n e → b < N) → RowAt xt h' sz v cs := by
      rintro sz v cs ⟨h1, h2, h3⟩ hv
      refine ⟨h1, h2, ?_⟩
      rcases h3 with h3 | h3 | ⟨b, off, av, e, he, ⟨hlt, hle, hb⟩, hc⟩
      · exact .inl h3
      · exact .inr (.inl h3)
      · have := hv _ _ _ _ he
        exact .inr (.inr ⟨b, off, av, e, he, ⟨by omega, hle, by rw [hsame b this]; exact hb⟩, hc⟩)
    exact ⟨key ha.sorts hlow.1, key ha.seen hlow.2, ha.ls, ha.le⟩
  have n1 : (b = h'.n) = False := by simp; omega
  refine callA_fn (sok xt) ?_
  simp only [List.nil_append, List.cons_append]
  refine FnA.calm ?_ hk
  refine FnA.walk (sok xt) (ft88 xt) rfl 8 rfl ?_
  refine seq_reg fun K hn hp => ?_
  simp only [sy.down, argsTo, cellPut_some, Nat.reduceEqDiff, reduceIte, Nat.reduceLT, Nat.reduceAdd, Nat.reduceMul, Nat.reduceLeDiff]
  refine hn _ _ ?_
  clear hn hp K
  refine seq_reg fun K1 hn hp => ?_
  simp only [sy.down, argsTo, cellPut_some, Nat.reduceEqDiff, reduceIte, Nat.reduceLT, Nat.reduceAdd, Nat.reduceMul, Nat.reduceLeDiff, n1, q', fa92_0]
  refine callA_func (sok xt) (blanks_c xt _ s (ha'.new _) h3 now fun m1 hm1 => ?_)
  simp only [Hp.new_n] at hm1
  simp only [sy.down, argsTo, cellPut_some, Nat.reduceEqDiff, reduceIte, Nat.reduceLT, Nat.reduceAdd, Nat.reduceMul, Nat.reduceLeDiff]
  refine hn _ _ (wpc_ret (end_1 res88 ⟨?_, ((Fr.refl (Nat.le_refl _)).new _).up (Nat.le_of_lt hm1)⟩))
  simp [T.get_put]
end Go.Proofs.Kn
namespace Go.Proofs.Kn
open Go Go.Ev
set_option maxRecDepth 100000
theorem ft43 (xt : Addr → Option Value) : (SE xt).ft.get 43 = some Tryz.f43 := by kernel_rfl
theorem res43 : Tryz.f43.results.toList = [.tmp 4] := by kernel_rfl
/-- What 'needs' comes to. -/
def NeedsR (s : Sk) (B : Int) (mb : Nat) (seen : Nat → Int) (h : Hp) (r : CR) (h' : Hp) : Prop := ∃ l', r = .ret (iv (s.LK B seen)) ∧ FrM (· = mb) h.n h h' ∧ h'.t.get mb = some (.map (ents l')) ∧ EntOk (s.LK B) l'
theorem Sk.Low.mono {s : Sk} {n m : Nat} (h : s.Low n) (hm : n ≤ m) : s.Low m := ⟨fun b off k e hv => by have := h.1 b off k e hv; omega, fun b off k e hv => by have := h.2 b off k e hv; omega⟩
noncomputable def tail43 : Code := tl (tl (tl (tl (tl (bdOf Tryz.f43)))))
theorem needs_tail (xt : Addr → Option Value) (s : Sk) (B : Int) (mb : Nat) (seen : Nat → Int) (hs : s.Sn seen) (h hX : Hp) (tm : T AV) (l : List ((Int × Int × Int) × Int)) (hmb : mb < h.n) (f : FrM (· = mb) h.n h hX) (q1 : hX.t.get h.n = some (.cells (lkc s B mb) 92)) (q2 : hX.t.get (h.n + 1) = some (.cells [iv (seen 0), iv (seen 1), iv (seen 2)] 95))
    (qm : hX.t.get mb = some (.map (ents l))) (hl : EntOk (s.LK B) l) (g2 : tm.get 2 = some (.ptr h.n 0)) (g3 : tm.get 3 = some (.ptr (h.n + 1) 0)) (g7 : tm.get 7 = some (iv (s.LK B seen))) : wpc (SE xt) none tail43 ⟨tm, 68, hX, []⟩ (endK (SE xt) Tryz.f43 (NeedsR s B mb seen h)) := by
  obtain ⟨l', e, hl'⟩ := up_date hX mb l qm seen (s.LK B seen) hl hs.hi rfl
  refine seq_reg fun K1 hn hp => ?_
  simp only [sy.down, argsTo, cellPut_some, Nat.reduceEqDiff, reduceIte, Nat.reduceLT, Nat.reduceAdd, Nat.reduceMul, Nat.reduceLeDiff, g2, g3, g7, fa92_2, ld90, q1, q2, WOp_mapUpdate, e, optH_some]
  refine hn _ _ ?_
  clear hn hp K1
  refine seq_reg fun K hn hp => ?_
  simp only [sy.down, argsTo, cellPut_some, Nat.reduceEqDiff, reduceIte, Nat.reduceLT, Nat.reduceAdd, Nat.reduceMul, Nat.reduceLeDiff, g7]
  refine hn _ _ ?_
  clear hn hp K
  refine wpc_ret (end_1 res43 ⟨l', ?_, f.set (.inr rfl) _, by rw [Hp.set_t, T.get_put, if_pos rfl], hl'⟩)
  simp [T.get_put]
theorem needs_ok (xt : Addr → Option Value) (s : Sk) (B : Int) (hok : s.ok = true) (mb : Nat) (hlow : s.Low mb) : ∀ (d : Nat) (seen : Nat → Int), s.Sn seen → s.sh - sumF seen 0 s.sorts.length < d → ∀ (h : Hp) (l : List ((Int × Int × Int) × Int)), s.At xt h → mb < h.n → h.t.get mb = some (.map (ents l)) → EntOk (s.LK B) l →
    FnA (SE xt) 43 [.agg (lkc s B mb), sh3 seen] h (NeedsR s B mb seen h) := by
  have g := Sk.good hok
  have gl2 := g.l2
  have gs1 := g.sh1
  have gs2 := g.sh2
  intro d
  induction d with
  | zero => intro seen hs hd; have := Sk.sum_le hs.nn hs.some_; omega
  | succ d ih =>
    intro seen hs hd h l ha hmb hm hl
    refine FnA.walk (sok xt) (ft43 xt) rfl 68 rfl ?_
    refine seq_reg fun K hn hp => ?_
    simp only [sy.down, argsTo, cellPut_some, Nat.reduceEqDiff, reduceIte, Nat.reduceLT, Nat.reduceAdd, Nat.reduceMul, Nat.reduceLeDiff]
    refine hn _ _ ?_
    clear hn hp K
    obtain ⟨h1, hh1⟩ : ∃ h1 : Hp, h1 = (h.new (.cells (lkc s B mb) 92)).new (.cells [iv (seen 0), iv (seen 1), iv (seen 2)] 95) := ⟨_, rfl⟩
    rw [← hh1]
    have n1 : h1.n = h.n + 2 := by rw [hh1]; rfl
    have f1 : Fr h.n h h1 := by rw [hh1]; exact ((Fr.refl (Nat.le_refl _)).new _).new _
    have q1 : h1.t.get h.n = some (.cells (lkc s B mb) 92) := by rw [hh1]; simp [Hp.new_t, Hp.new_n, T.get_put]
    have q2 : h1.t.get (h.n + 1) = some (.cells [iv (seen 0), iv (seen 1), iv (seen 2)] 95) := by rw [hh1]; simp [Hp.new_t, Hp.new_n, T.get_put]
    have hm1 : h1.t.get mb = some (.map (ents l)) := by rw [f1.at_ _ (.inl hmb)]; exact hm
    have ha1 := ha.fr f1 (Nat.le_refl _)
    refine seq_seq ?_
    rcases look_up h1 mb l hm1 seen with hq | ⟨v, hv, hq⟩
    rotate_left
    · refine seq_reg fun K hn hp => ?_
      simp only [sy.down, argsTo, cellPut_some, Nat.reduceEqDiff, reduceIte, Nat.reduceLT, Nat.reduceAdd, Nat.reduceMul, Nat.reduceLeDiff, fa92_2, ld90, q1, q2, WOp_lookup, hq, ex_tup0, ex_tup1]
      refine hn _ _ ?_
      clear hn hp K
      refine seq_seq ?_
      refine seq_reg fun K hn hp => ?_
      simp only [sy.down, argsTo, cellPut_some, Nat.reduceEqDiff, reduceIte, Nat.reduceLT, Nat.reduceAdd, Nat.reduceMul, Nat.reduceLeDiff]
      refine hn _ _ ?_
      clear hn hp K
      refine seq_cond true (by simp only [sy.down, argsTo, cellPut_some, Nat.reduceEqDiff, reduceIte, Nat.reduceLT, Nat.reduceAdd, Nat.reduceMul, Nat.reduceLeDiff]) (fun _ => ?_) (fun hx => by cases hx)
      refine seq_seq ?_
      refine seq_reg fun K hn hp => ?_
      simp only [sy.down, argsTo, cellPut_some, Nat.reduceEqDiff, reduceIte, Nat.reduceLT, Nat.reduceAdd, Nat.reduceMul, Nat.reduceLeDiff]
      refine hn _ _ ?_
      clear hn hp K
      have ev : v = s.LK B seen := by have := hl _ hv; simpa [fn3_k3 hs.hi] using this
      refine seq_ret (end_1 res43 ⟨l, ?_, FrM.of f1, hm1, hl⟩)
      simp [T.get_put, ev]
    refine seq_reg fun K hn hp => ?_
    simp only [sy.down, argsTo, cellPut_some, Nat.reduceEqDiff, reduceIte, Nat.reduceLT, Nat.reduceAdd, Nat.reduceMul, Nat.reduceLeDiff, fa92_2, ld90, q1, q2, WOp_lookup, hq, ex_tup0, ex_tup1]
    refine hn _ _ ?_
    clear hn hp K
    refine seq_seq ?_
    refine seq_reg fun K hn hp => ?_
    simp only [sy.down, argsTo, cellPut_some, Nat.reduceEqDiff, reduceIte, Nat.reduceLT, Nat.reduceAdd, Nat.reduceMul, Nat.reduceLeDiff]
    refine hn _ _ ?_
    clear hn hp K
    refine seq_cond false (by simp only [sy.down, argsTo, cellPut_some, Nat.reduceEqDiff, reduceIte, Nat.reduceLT, Nat.reduceAdd, Nat.reduceMul, Nat.reduceLeDiff]) (fun hx => by cases hx) (fun _ => ?_)
    refine seq_skip ?_
    refine seq_reg fun K hn hp => ?_
    simp only [sy.down, argsTo, cellPut_some, Nat.reduceEqDiff, reduceIte, Nat.reduceLT, Nat.reduceAdd, Nat.reduceMul, Nat.reduceLeDiff]
    refine hn _ _ ?_
    clear hn hp K
    refine seq_reg fun K1 hn hp => ?_
    simp only [sy.down, argsTo, cellPut_some, Nat.reduceEqDiff, reduceIte, Nat.reduceLT, Nat.reduceAdd, Nat.reduceMul, Nat.reduceLeDiff, fa92_0, q1, q2]
    refine callA_func (sok xt) (ends_c xt _ s seen _ s.blanks (look1_tells xt h1 s B mb ha1 gl2 h.n h1.n (by omega) (Nat.le_refl _) (hlow.mono (by omega)) q1) ha1 gl2 hs.nn (by omega) (by omega) fun m1 hm1' => ?_)
    simp only [sy.down, argsTo, cellPut_some, Nat.reduceEqDiff, reduceIte, Nat.reduceLT, Nat.reduceAdd, Nat.reduceMul, Nat.reduceLeDiff]
    refine hn _ _ ?_
    clear hn hp K1
    obtain ⟨E2, hE2⟩ : ∃ E2 : Int × Int, E2 = endsOf s.blanks (s.truths seen) := ⟨_, rfl⟩
    rw [← hE2]
    obtain ⟨h2, hh2⟩ : ∃ h2 : Hp, h2 = ((h1.up m1).new (.cells [iv 0, iv 0] 36)).set m1 (.cells [iv E2.1, iv E2.2] 36) := ⟨_, rfl⟩
    rw [← hh2]
    have n2 : h2.n = m1 + 1 := by rw [hh2]; rfl
    have f2 : Fr h1.n h1 h2 := by rw [hh2]; exact (((Fr.refl (Nat.le_refl _)).up (Nat.le_of_lt hm1')).new _).set (by omega) (by simp [Hp.new_n]) _
    have f12 : Fr h.n h h2 := f1.trans f2 (by omega)
    have q12 : h2.t.get h.n = some (.cells (lkc s B mb) 92) := by rw [f2.at_ _ (by omega)]; exact q1
    have q22 : h2.t.get (h.n + 1) = some (.cells [iv (seen 0), iv (seen 1), iv (seen 2)] 95) := by rw [f2.at_ _ (by omega)]; exact q2
    have qm2 : h2.t.get mb = some (.map (ents l)) := by rw [f2.at_ _ (by omega)]; exact hm1
    have qe2 : h2.t.get m1 = some (.cells [iv E2.1, iv E2.2] 36) := by rw [hh2, Hp.set_t, T.get_put, if_pos rfl]
    have ha2 := ha1.fr f2 (Nat.le_refl _)
    refine gen_st (fun tm => tm.get 2 = some (.ptr h.n 0) ∧ tm.get 3 = some (.ptr (h.n + 1) 0) ∧ tm.get 7 = some (iv 0) ∧ tm.get 8 = some (.ptr m1 0)) (by simp [T.get_put]) ?_
    rintro tm ⟨g2, g3, g7, g8⟩
    refine seq_seq ?_
    by_cases hc1 : E2.1 < B
    rotate_left
    · have e0 : s.LK B seen = 0 := by rw [Sk.LK_eq g hs, Sk.lookAt, ← hE2, if_neg (fun q => hc1 q.1)]
      refine seq_reg fun K hn hp => ?_
      simp only [sy.down, argsTo, cellPut_some, Nat.reduceEqDiff, reduceIte, Nat.reduceLT, Nat.reduceAdd, Nat.reduceMul, Nat.reduceLeDiff, g2, g8, q12, qe2, fa92_1, decide_eq_false hc1]
      refine hn _ _ ?_
      clear hn hp K
      refine seq_cond false (by simp only [sy.down, argsTo, cellPut_some, Nat.reduceEqDiff, reduceIte, Nat.reduceLT, Nat.reduceAdd, Nat.reduceMul, Nat.reduceLeDiff]) (fun hx => by cases hx) (fun _ => ?_)
      refine seq_skip ?_
      exact needs_tail xt s B mb seen hs h h2 _ l hmb (FrM.of f12) q12 q22 qm2 hl (by simp [T.get_put, g2]) (by simp [T.get_put, g3]) (by simp [T.get_put, g7, e0])
    by_cases hc2 : B ≤ E2.2
    rotate_left
    · have e0 : s.LK B seen = 0 := by rw [Sk.LK_eq g hs, Sk.lookAt, ← hE2, if_neg (fun q => hc2 q.2)]
      refine seq_reg fun K hn hp => ?_
      simp only [sy.down, argsTo, cellPut_some, Nat.reduceEqDiff, reduceIte, Nat.reduceLT, Nat.reduceAdd, Nat.reduceMul, Nat.reduceLeDiff, g2, g8, q12, qe2, fa92_1, decide_eq_true hc1, decide_eq_false hc2]
      refine hn _ _ ?_
      clear hn hp K
      refine seq_cond false (by simp only [sy.down, argsTo, cellPut_some, Nat.reduceEqDiff, reduceIte, Nat.reduceLT, Nat.reduceAdd, Nat.reduceMul, Nat.reduceLeDiff]) (fun hx => by cases hx) (fun _ => ?_)
      refine seq_skip ?_
      exact needs_tail xt s B mb seen hs h h2 _ l hmb (FrM.of f12) q12 q22 qm2 hl (by simp [T.get_put, g2]) (by simp [T.get_put, g3]) (by simp [T.get_put, g7, e0])
    have e0 : s.LK B seen = (List.range s.sorts.length).foldl (s.lookStep (s.LK B) seen) 0 := by rw [Sk.LK_eq g hs, Sk.lookAt, ← hE2, if_pos ⟨hc1, hc2⟩]
    have hlenS := fun h' => ha.sorts.len (h' := h') tg22 rfl
    simp only [List.length_map] at hlenS
    refine seq_reg fun K hn hp => ?_
    simp only [sy.down, argsTo, cellPut_some, Nat.reduceEqDiff, reduceIte, Nat.reduceLT, Nat.reduceAdd, Nat.reduceMul, Nat.reduceLeDiff, g2, g8, q12, qe2, fa92_1, decide_eq_true hc1, decide_eq_true hc2]
    refine hn _ _ ?_
    clear hn hp K
    refine seq_cond true (by simp only [sy.down, argsTo, cellPut_some, Nat.reduceEqDiff, reduceIte, Nat.reduceLT, Nat.reduceAdd, Nat.reduceMul, Nat.reduceLeDiff]) (fun _ => ?_) (fun hx => by cases hx)
    refine seq_seq ?_
    refine seq_reg fun K hn hp => ?_
    simp only [sy.down, argsTo, cellPut_some, Nat.reduceEqDiff, reduceIte, Nat.reduceLT, Nat.reduceAdd, Nat.reduceMul, Nat.reduceLeDiff, g2, q12, fa92_0, hlenS]
    refine hn _ _ ?_
    clear hn hp K
    refine seq_block fun K k1 k2 k3 k4 k5 => ?_
    refine wpc_loop (sok xt) (fun st => ∃ (i : Nat) (l' : List ((Int × Int × Int) × Int)) (tm : T AV) (hd : Hp), st = ⟨tm, 68, hd, []⟩ ∧ FrM (· = mb) h.n h hd ∧ h.n + 2 ≤ hd.n ∧ i ≤ s.sorts.length ∧ hd.t.get h.n = some (.cells (lkc s B mb) 92) ∧ hd.t.get (h.n + 1) = some (.cells [iv (seen 0), iv (seen 1), iv (seen 2)] 95) ∧ hd.t.get mb = some (.map (ents l')) ∧ EntOk (s.LK B) l' ∧
        tm.get 2 = some (.ptr h.n 0) ∧ tm.get 3 = some (.ptr (h.n + 1) 0) ∧ tm.get 7 = some (iv ((List.range i).foldl (s.lookStep (s.LK B) seen) 0)) ∧ tm.get 41 = some (iv s.sorts.length) ∧ tm.get 42 = some (iv i))
      (fun st => s.sorts.length - (match st.tm.get 42 with | some (.val (.int _ n)) => n.toNat | _ => 0)) ?_ ?_
    · rintro st ⟨i, l', tm, hd', rfl, fr, hn2, hi, r1, r2, rm, hl', g2, g3, g7, g41, g42⟩
      refine seq_reg fun K hn hp => ?_
      simp only [sy.down, argsTo, cellPut_some, Nat.reduceEqDiff, reduceIte, Nat.reduceLT, Nat.reduceAdd, Nat.reduceMul, Nat.reduceLeDiff, g41, g42]
      refine hn _ _ ?_
      clear hn hp K
      have ht : (decide ((i : Int) < (s.sorts.length : Int))) = decide (i < s.sorts.length) := by simp
      by_cases hlt : i < s.sorts.length
      · refine seq_cond true (by simp only [sy.down, argsTo, cellPut_some, Nat.reduceEqDiff, reduceIte, Nat.reduceLT, Nat.reduceAdd, Nat.reduceMul, Nat.reduceLeDiff, ht, hlt]) (fun _ => ?_) (fun hx => by cases hx)
        refine seq_skip ?_
        refine seq_block fun K' k1' k2' k3' k4' k5' => ?_
        have hi3 : i < 3 := by omega
        have hia := ia95 hd'.n 0 i hi3
        have hsg := sh3_get seen hi3
        have had : s.At xt hd' := ha.frM fr (fun k hk => by rw [hk]; exact Nat.le_refl _) hlow (by omega)
        have hput : ∀ hq : Hp, cellPut 1 hq hd'.n i (iv (wr (seen i + 1))) (some (.cells [iv (seen 0), iv (seen 1), iv (seen 2)] 95)) = some (hq.set hd'.n (.cells [iv (bump seen i 0), iv (bump seen i 1), iv (bump seen i 2)] 95)) := fun hq => by
          have := sh3_upd (m := seen) (now := seen) hi3 (fun _ _ => rfl) (wr (seen i + 1))
          rw [cellPut_some, if_pos ⟨rfl, by simp; omega, rfl⟩]
          show some (hq.set hd'.n (.cells ([iv (seen 0), iv (seen 1), iv (seen 2)].take i ++ [iv (wr (seen i + 1))] ++ [iv (seen 0), iv (seen 1), iv (seen 2)].drop (i + 1)) 95)) = _
          rw [this]; rfl
        have x1 : (h.n = hd'.n) = False := by simp; omega
        have x2 : (h.n + 1 = hd'.n) = False := by simp; omega
        refine seq_reg fun K hn hp => ?_
        simp only [sy.down, argsTo, cellPut_some, Nat.reduceEqDiff, reduceIte, Nat.reduceLT, Nat.reduceAdd, Nat.reduceMul, Nat.reduceLeDiff, g42]
        refine hn _ _ ?_
        clear hn hp K
        refine seq_reg fun K hn hp => ?_
        simp only [sy.down, argsTo, cellPut_some, Nat.reduceEqDiff, reduceIte, Nat.reduceLT, Nat.reduceAdd, Nat.reduceMul, Nat.reduceLeDiff, g3, r2]
        refine hn _ _ ?_
        clear hn hp K
        refine seq_reg fun K1 hn hp => ?_
        simp only [sy.down, argsTo, Nat.reduceEqDiff, reduceIte, Nat.reduceLT, Nat.reduceAdd, Nat.reduceMul, Nat.reduceLeDiff, g42, hia, Nat.mul_one, hsg, hput]
        refine hn _ _ ?_
        clear hn hp K1
        obtain ⟨hf, hhf⟩ : ∃ hf : Hp, hf = (((hd'.new (.cells [iv 0, iv 0, iv 0] 95)).set hd'.n (.cells [iv (seen 0), iv (seen 1), iv (seen 2)] 95)).set hd'.n (.cells [iv (bump seen i 0), iv (bump seen i 1), iv (bump seen i 2)] 95)) := ⟨_, rfl⟩
        rw [← hhf]
        have nf : hf.n = hd'.n + 1 := by rw [hhf]; rfl
        have ff : Fr hd'.n hd' hf := by rw [hhf]; exact (((Fr.refl (Nat.le_refl _)).new _).set (Nat.le_refl _) (by simp [Hp.new_n]) _).set (Nat.le_refl _) (by simp [Hp.new_n, Hp.set_n]) _
        have s1 : hf.t.get h.n = some (.cells (lkc s B mb) 92) := by rw [ff.at_ _ (by omega)]; exact r1
        have s2 : hf.t.get (h.n + 1) = some (.cells [iv (seen 0), iv (seen 1), iv (seen 2)] 95) := by rw [ff.at_ _ (by omega)]; exact r2
        have sm : hf.t.get mb = some (.map (ents l')) := by rw [ff.at_ _ (by omega)]; exact rm
        have sb : hf.t.get hd'.n = some (.cells [iv (bump seen i 0), iv (bump seen i 1), iv (bump seen i 2)] 95) := by rw [hhf, Hp.set_t, T.get_put, if_pos rfl]
        have haf := had.fr ff (Nat.le_refl _)
        have hbn : ∀ j, 0 ≤ bump seen i j := fun j => by
          rw [bump_at g hs hlt]; split
          · have := hs.nn i; omega
          · exact hs.nn j
        have frf : FrM (· = mb) h.n h hf := fr.trans (FrM.of ff) (by omega)
        refine seq_reg fun K1 hn hp => ?_
        simp only [sy.down, argsTo, cellPut_some, Nat.reduceEqDiff, reduceIte, Nat.reduceLT, Nat.reduceAdd, Nat.reduceMul, Nat.reduceLeDiff, g2, s1, sb, fa92_0]
        refine callA_func (sok xt) (possible_c xt _ s (bump seen i) haf gl2 hbn (by omega) (by omega) fun m3 hm3 => ?_)
        simp only [sy.down, argsTo, cellPut_some, Nat.reduceEqDiff, reduceIte, Nat.reduceLT, Nat.reduceAdd, Nat.reduceMul, Nat.reduceLeDiff]
        refine hn _ _ ?_
        clear hn hp K1
        have hw : IntKind.i64.wrap ((i : Int) + 1) = ((i + 1 : Nat) : Int) := by rw [wrap_i64 _ (by omega) (by omega)]; simp
        by_cases hp0 : s.truths (bump seen i) = []
        · refine wpc_cond false (by simp only [sy.down, argsTo, cellPut_some, Nat.reduceEqDiff, reduceIte, Nat.reduceLT, Nat.reduceAdd, Nat.reduceMul, Nat.reduceLeDiff, hp0]) (fun hx => by cases hx) (fun _ => ?_)
          refine wpc_skip (k1' _ ?_)
          refine reg fun K1 hn hp => ?_
          simp only [sy.down, argsTo, cellPut_some, Nat.reduceEqDiff, reduceIte, Nat.reduceLT, Nat.reduceAdd, Nat.reduceMul, Nat.reduceLeDiff, g42, hw]
          refine hn _ _ ?_
          refine ⟨⟨i + 1, l', _, hf.up m3, rfl, frf.trans (FrM.of ((Fr.refl (Nat.le_refl _)).up (Nat.le_of_lt hm3))) (by omega), by simp; omega, hlt, s1, s2, sm, hl', ?_, ?_, ?_, ?_, ?_⟩, ?_⟩
          · simp [T.get_put, g2]
          · simp [T.get_put, g3]
          · rw [List.range_succ, List.foldl_append]
            simp only [List.foldl_cons, List.foldl_nil, Sk.lookStep, hp0, if_true]
            simp [T.get_put, g7]
          · simp [T.get_put, g41]
          · simp [T.get_put]
          · have hm : s.sorts.length - (i + 1) < s.sorts.length - i := by omega
            simpa [T.get_put, g42] using hm
        · refine wpc_cond true (by simp only [sy.down, argsTo, cellPut_some, Nat.reduceEqDiff, reduceIte, Nat.reduceLT, Nat.reduceAdd, Nat.reduceMul, Nat.reduceLeDiff, hp0]) (fun _ => ?_) (fun hx => by cases hx)
          have hsum := bump_sum g hs hlt
          refine seq_reg fun K1 hn hp => ?_
          simp only [sy.down, argsTo, cellPut_some, Nat.reduceEqDiff, reduceIte, Nat.reduceLT, Nat.reduceAdd, Nat.reduceMul, Nat.reduceLeDiff, g2, s1, sb, ld92]
          refine callA_func (sok xt) ((ih (bump seen i) (bump_sn g hs hlt hp0) (by omega) (hf.up m3) l' (haf.up (Nat.le_of_lt hm3)) (by simp; omega) sm hl').mono ?_)
          rintro r h9 ⟨l9, rfl, fr9, qm9, hl9⟩
          simp only [Hp.up_n] at fr9
          have hlo9 := fr9.lo
          simp only [sy.down, argsTo, cellPut_some, Nat.reduceEqDiff, reduceIte, Nat.reduceLT, Nat.reduceAdd, Nat.reduceMul, Nat.reduceLeDiff]
          refine hn _ _ ?_
          clear hn hp K1
          have u1 : h9.t.get h.n = some (.cells (lkc s B mb) 92) := by rw [fr9.at_ _ (by omega) (by omega)]; exact s1
          have u2 : h9.t.get (h.n + 1) = some (.cells [iv (seen 0), iv (seen 1), iv (seen 2)] 95) := by rw [fr9.at_ _ (by omega) (by omega)]; exact s2
          refine reg fun K1 hn hp => ?_
          simp only [sy.down, argsTo, cellPut_some, Nat.reduceEqDiff, reduceIte, Nat.reduceLT, Nat.reduceAdd, Nat.reduceMul, Nat.reduceLeDiff, g7]
          refine hn _ _ (k1' _ ?_)
          clear hn hp K1
          refine reg fun K1 hn hp => ?_
          simp only [sy.down, argsTo, cellPut_some, Nat.reduceEqDiff, reduceIte, Nat.reduceLT, Nat.reduceAdd, Nat.reduceMul, Nat.reduceLeDiff, g42, hw]
          refine hn _ _ ?_
          refine ⟨⟨i + 1, l9, _, h9, rfl, (frf.trans (FrM.of ((Fr.refl (Nat.le_refl _)).up (Nat.le_of_lt hm3))) (by omega)).trans fr9 (by omega), by omega, hlt, u1, u2, qm9, hl9, ?_, ?_, ?_, ?_, ?_⟩, ?_⟩
          · simp [T.get_put, g2]
          · simp [T.get_put, g3]
          · rw [List.range_succ, List.foldl_append]
            simp only [List.foldl_cons, List.foldl_nil, Sk.lookStep, hp0, if_false]
            simp [T.get_put]
          · simp [T.get_put, g41]
          · simp [T.get_put]
          · have hm : s.sorts.length - (i + 1) < s.sorts.length - i := by omega
            simpa [T.get_put, g42] using hm
      · refine seq_cond false (by simp only [sy.down, argsTo, cellPut_some, Nat.reduceEqDiff, reduceIte, Nat.reduceLT, Nat.reduceAdd, Nat.reduceMul, Nat.reduceLeDiff, ht, hlt]) (fun hx => by cases hx) (fun _ => ?_)
        refine seq_exit (k2 _ ?_)
        have hii : i = s.sorts.length := by omega
        subst hii
        exact needs_tail xt s B mb seen hs h hd' _ l' hmb fr r1 r2 rm hl' (by simp [T.get_put, g2]) (by simp [T.get_put, g3]) (by simp [T.get_put, g7, e0])
    · refine ⟨0, l, _, h2, rfl, FrM.of f12, by omega, Nat.zero_le _, q12, q22, qm2, hl, ?_, ?_, ?_, ?_, ?_⟩
      all_goals simp [T.get_put, g2, g3, g7]
end Go.Proofs.Kn
namespace Go.Proofs.Kn
open Go Go.Ev
set_option maxRecDepth 100000
theorem ft9 (xt : Addr → Option Value) : (SE xt).ft.get 9 = some Tryz.f9 := by kernel_rfl
theorem res9 : Tryz.f9.results.toList = [.tmp 4, .tmp 5] := by kernel_rfl
/-- How many looks are needed; the error. -/
def Sk.looksE (s : Sk) (B : Int) : Int := if s.ok = true then (if (decide (0 ≤ B) && decide (B ≤ 200)) = true then s.err else 2) else 2
def Sk.looks (s : Sk) (B : Int) : Int := if s.looksE B = 0 then s.LK B s.seenF else 0
theorem looks_c (xt : Addr → Option Value) (h : Hp) (s : Sk) (ha : s.At xt h) (B : Int) {K : CR → Hp → Prop} (hk : ∀ n, h.n < n → K (.ret (.tup [iv (s.looks B), iv (s.looksE B)])) (h.up n)) : FnA (SE xt) 9 [s.av, iv B] h K := by
  refine FnA.calm ?_ hk
  clear hk K
  refine FnA.walk (sok xt) (ft9 xt) rfl 28 rfl ?_
  have ha1 := ha.new (.cells s.cells 25)
  have hfr : ∀ n, h.n + 1 ≤ n → Fr h.n h ((h.new (.cells s.cells 25)).up n) := fun n hn => ((Fr.refl (Nat.le_refl _)).new _).up hn
  refine seq_reg fun K hn hp => ?_
  simp only [sy.down, argsTo, cellPut_some, Nat.reduceEqDiff, reduceIte, Nat.reduceLT, Nat.reduceAdd, Nat.reduceMul, Nat.reduceLeDiff]
  refine hn _ _ ?_
  clear hn hp K
  refine seq_seq ?_
  refine seq_reg fun K1 hn hp => ?_
  simp only [sy.down, argsTo, cellPut_some, Nat.reduceEqDiff, reduceIte, Nat.reduceLT, Nat.reduceAdd, Nat.reduceMul, Nat.reduceLeDiff]
  refine callA_func (sok xt) (isSack_c xt _ s ha1 fun m1 hm1 => ?_)
  simp only [Hp.new_n] at hm1
  cases q1 : s.ok
  · simp only [sy.down, argsTo, cellPut_some, Nat.reduceEqDiff, reduceIte, Nat.reduceLT, Nat.reduceAdd, Nat.reduceMul, Nat.reduceLeDiff, q1, wnt_d]
    refine hn _ _ ?_
    clear hn hp K1
    refine seq_cond true (by simp only [sy.down, argsTo, cellPut_some, Nat.reduceEqDiff, reduceIte, Nat.reduceLT, Nat.reduceAdd, Nat.reduceMul, Nat.reduceLeDiff]) (fun _ => ?_) (fun hx => by cases hx)
    refine seq_seq ?_
    refine seq_reg fun K hn hp => ?_
    simp only [sy.down, argsTo, cellPut_some, Nat.reduceEqDiff, reduceIte, Nat.reduceLT, Nat.reduceAdd, Nat.reduceMul, Nat.reduceLeDiff]
    refine hn _ _ ?_
    clear hn hp K
    refine seq_ret (end_2 res9 ⟨?_, hfr _ (by omega)⟩)
    simp [T.get_put, Sk.looks, Sk.looksE, q1]
  simp only [sy.down, argsTo, cellPut_some, Nat.reduceEqDiff, reduceIte, Nat.reduceLT, Nat.reduceAdd, Nat.reduceMul, Nat.reduceLeDiff, q1]
  refine callA_func (sok xt) (in_c xt _ _ _ _ fun m2 hm2 => ?_)
  simp only [Hp.up_n] at hm2
  cases q2 : (decide (0 ≤ B) && decide (B ≤ 200))
  · simp only [sy.down, argsTo, cellPut_some, Nat.reduceEqDiff, reduceIte, Nat.reduceLT, Nat.reduceAdd, Nat.reduceMul, Nat.reduceLeDiff, q2, Hp.up_up]
    refine hn _ _ ?_
    clear hn hp K1
    refine seq_cond true (by simp only [sy.down, argsTo, cellPut_some, Nat.reduceEqDiff, reduceIte, Nat.reduceLT, Nat.reduceAdd, Nat.reduceMul, Nat.reduceLeDiff]) (fun _ => ?_) (fun hx => by cases hx)
    refine seq_seq ?_
    refine seq_reg fun K hn hp => ?_
    simp only [sy.down, argsTo, cellPut_some, Nat.reduceEqDiff, reduceIte, Nat.reduceLT, Nat.reduceAdd, Nat.reduceMul, Nat.reduceLeDiff]
    refine hn _ _ ?_
    clear hn hp K
    refine seq_ret (end_2 res9 ⟨?_, hfr _ (by omega)⟩)
    simp [T.get_put, Sk.looks, Sk.looksE, q1, q2]
  have eE : s.looksE B = s.err := by simp [Sk.looksE, q1, q2]
  simp only [sy.down, argsTo, cellPut_some, Nat.reduceEqDiff, reduceIte, Nat.reduceLT, Nat.reduceAdd, Nat.reduceMul, Nat.reduceLeDiff, q2, Hp.up_up]
  refine hn _ _ ?_
  clear hn hp K1
  refine seq_cond false (by simp only [sy.down, argsTo, cellPut_some, Nat.reduceEqDiff, reduceIte, Nat.reduceLT, Nat.reduceAdd, Nat.reduceMul, Nat.reduceLeDiff]) (fun hx => by cases hx) (fun _ => ?_)
  refine seq_skip ?_
  have ha2 := ha1.up (n := m2) (by simp [Hp.new_n]; omega)
  refine seq_seq ?_
  refine seq_reg fun K1 hn hp => ?_
  simp only [sy.down, argsTo, cellPut_some, Nat.reduceEqDiff, reduceIte, Nat.reduceLT, Nat.reduceAdd, Nat.reduceMul, Nat.reduceLeDiff]
  refine callA_func (sok xt) (asked_c xt _ s ha2 fun m3 hm3 => ?_)
  simp only [Hp.up_n] at hm3
  simp only [sy.down, argsTo, cellPut_some, Nat.reduceEqDiff, reduceIte, Nat.reduceLT, Nat.reduceAdd, Nat.reduceMul, Nat.reduceLeDiff, Hp.up_up]
  refine hn _ _ ?_
  clear hn hp K1
  refine seq_seq ?_
  by_cases he : s.err = 0
  rotate_left
  · refine seq_reg fun K hn hp => ?_
    simp only [sy.down, argsTo, cellPut_some, Nat.reduceEqDiff, reduceIte, Nat.reduceLT, Nat.reduceAdd, Nat.reduceMul, Nat.reduceLeDiff, decide_eq_false he]
    refine hn _ _ ?_
    clear hn hp K
    refine seq_cond true (by simp only [sy.down, argsTo, cellPut_some, Nat.reduceEqDiff, reduceIte, Nat.reduceLT, Nat.reduceAdd, Nat.reduceMul, Nat.reduceLeDiff]) (fun _ => ?_) (fun hx => by cases hx)
    refine seq_seq ?_
    refine seq_reg fun K hn hp => ?_
    simp only [sy.down, argsTo, cellPut_some, Nat.reduceEqDiff, reduceIte, Nat.reduceLT, Nat.reduceAdd, Nat.reduceMul, Nat.reduceLeDiff]
    refine hn _ _ ?_
    clear hn hp K
    refine seq_ret (end_2 res9 ⟨?_, hfr _ (by omega)⟩)
    simp [T.get_put, Sk.looks, eE, he]
  refine seq_reg fun K hn hp => ?_
  simp only [sy.down, argsTo, cellPut_some, Nat.reduceEqDiff, reduceIte, Nat.reduceLT, Nat.reduceAdd, Nat.reduceMul, Nat.reduceLeDiff, decide_eq_true he]
  refine hn _ _ ?_
  clear hn hp K
  refine seq_cond false (by simp only [sy.down, argsTo, cellPut_some, Nat.reduceEqDiff, reduceIte, Nat.reduceLT, Nat.reduceAdd, Nat.reduceMul, Nat.reduceLeDiff]) (fun hx => by cases hx) (fun _ => ?_)
  refine seq_skip ?_
  obtain ⟨hok, htr⟩ := Sk.err_0.1 he
  have g := Sk.good hok
  obtain ⟨f1, f2, f3, f4, f5⟩ := Sk.facts hok
  have ha3 := ha1.up (n := m3) (by simp [Hp.new_n]; omega)
  have hsn : s.Sn s.seenF := ⟨g.seen, fun j hj => by
    show s.seen.getD j 0 = 0
    have hlen : s.seen[j]? = none := List.getElem?_eq_none (by omega)
    rw [List.getD_eq_getElem?_getD, hlen]; rfl, htr⟩
  refine seq_regDN (sok xt) 2 4 (by kernel_rfl) rfl fun K1 hn hp => ?_
  simp only [sy.down, argsTo, cellPut_some, Nat.reduceEqDiff, reduceIte, Nat.reduceLT, Nat.reduceAdd, Nat.reduceMul, Nat.reduceLeDiff]
  refine newK_map (by decide) ?_
  have bd92 : abuildA tb 92 [(0, s.av), (1, iv B), (2, .mp m3)] = some (.agg (lkc s B m3)) := by kernel_rfl
  simp only [sy.down, argsTo, cellPut_some, Nat.reduceEqDiff, reduceIte, Nat.reduceLT, Nat.reduceAdd, Nat.reduceMul, Nat.reduceLeDiff, bd92]
  refine callA_func (sok xt) (list_c xt _ s.ve s.seen (ha3.seen.up (n := m3 + 1) (by simp)) f2 fun m4 hm4 => ?_)
  simp only [Hp.up_n] at hm4
  simp only [sy.down, argsTo, cellPut_some, Nat.reduceEqDiff, reduceIte, Nat.reduceLT, Nat.reduceAdd, Nat.reduceMul, Nat.reduceLeDiff, WOCn_t (h := ((h.new (.cells s.cells 25)).up m3).up (m3 + 1)) hm4]
  obtain ⟨hL, hhL⟩ : ∃ hL : Hp, hL = { t := (h.new (.cells s.cells 25)).t.put (some (.map [])) m3, n := m4 } := ⟨_, rfl⟩
  have hLe : ({ t := (h.t.put (some (.cells s.cells 25)) h.n).put (some (.map [])) m3, n := m4 } : Hp) = hL := hhL.symm
  rw [hLe]
  have nL : hL.n = m4 := by rw [hhL]
  have fL : Fr h.n h hL := by
    refine ⟨by omega, by omega, fun k hk => ?_⟩
    rw [hhL]
    show ((h.t.put (some (.cells s.cells 25)) h.n).put (some (.map [])) m3).get k = _
    rw [T.get_put, if_neg (by omega), T.get_put, if_neg (by omega)]
  have qmL : hL.t.get m3 = some (.map (ents [])) := by
    rw [hhL]
    show ((h.t.put (some (.cells s.cells 25)) h.n).put (some (.map [])) m3).get m3 = _
    rw [T.get_put, if_pos rfl]; rfl
  have haL : s.At xt hL := ha.fr fL (Nat.le_refl _)
  have hlow : s.Low m3 := ha.low.mono (by omega)
  refine callA_func (sok xt) ((needs_ok xt s B hok m3 hlow 11 s.seenF hsn (by have := g.sh2; have := sumF_nn (n := s.seenF) s.sorts.length 0 fun j _ _ => g.seen j; omega) hL [] haL (by omega) qmL (fun p hp => by cases hp)).mono ?_)
  rintro r h9 ⟨l9, rfl, fr9, _, _⟩
  simp only [sy.down, argsTo, cellPut_some, Nat.reduceEqDiff, reduceIte, Nat.reduceLT, Nat.reduceAdd, Nat.reduceMul, Nat.reduceLeDiff]
  refine hn _ _ ?_
  clear hn hp K1
  refine wpc_ret (end_2 res9 ⟨?_, Fr.ofM fL fr9 (by omega) (fun k hk => by rw [hk]; omega)⟩)
  simp [T.get_put, Sk.looks, eE, he]
end Go.Proofs.Kn
/-
  The looks that are needed: what is true of them, in plain words.
-/
namespace Go.Proofs.Kn
open Go Go.Ev
theorem fold_ge {s : Sk} {L : (Nat → Int) → Int} {seen : Nat → Int} : ∀ (l : List Nat) (a : Int), a ≤ l.foldl (s.lookStep L seen) a
  | [], a => Int.le_refl _
  | i :: l, a => by
    refine Int.le_trans ?_ (fold_ge l _)
    simp only [Sk.lookStep]; split <;> omega
theorem fold_mem {s : Sk} {L : (Nat → Int) → Int} {seen : Nat → Int} : ∀ (l : List Nat) (a : Int) (i : Nat), i ∈ l → s.truths (bump seen i) ≠ [] → wr (L (bump seen i) + 1) ≤ l.foldl (s.lookStep L seen) a
  | [], a, i, h, _ => by cases h
  | k :: l, a, i, h, hq => by
    rw [List.foldl_cons]
    rcases List.mem_cons.1 h with rfl | h
    · refine Int.le_trans ?_ (fold_ge l _)
      simp only [Sk.lookStep, if_neg hq]; omega
    · exact fold_mem l _ i h hq
theorem fold_le {s : Sk} {L : (Nat → Int) → Int} {seen : Nat → Int} {b : Int} : ∀ (l : List Nat) (a : Int), a ≤ b → (∀ i ∈ l, s.truths (bump seen i) ≠ [] → wr (L (bump seen i) + 1) ≤ b) → l.foldl (s.lookStep L seen) a ≤ b
  | [], a, h, _ => h
  | i :: l, a, h, hb => by
    rw [List.foldl_cons]
    refine fold_le l _ ?_ fun k hk => hb k (List.mem_cons_of_mem _ hk)
    simp only [Sk.lookStep]
    split
    · exact h
    · rename_i hq; have := hb i List.mem_cons_self hq; omega
theorem look_bound {s : Sk} (g : s.Good) {B : Int} : ∀ (d : Nat) (seen : Nat → Int), s.Sn seen → 0 ≤ s.look B d seen ∧ s.look B d seen ≤ s.sh - sumF seen 0 s.sorts.length
  | 0, seen, k => ⟨Int.le_refl _, by have := Sk.sum_le k.nn k.some_; simp only [Sk.look]; omega⟩
  | d + 1, seen, k => by
    have h0 := Sk.sum_le k.nn k.some_
    have h1 := g.sh2
    have h2 := sumF_nn (n := seen) s.sorts.length 0 fun j _ _ => k.nn j
    simp only [Sk.look, Sk.lookAt]
    split
    · refine ⟨fold_ge _ _, fold_le _ _ (by omega) fun i hi hq => ?_⟩
      have hi := List.mem_range.1 hi
      have hb := bump_sum g k hi
      obtain ⟨a1, a2⟩ := look_bound g (B := B) d _ (bump_sn g k hi hq)
      rw [wr_id (by omega) (by omega)]; omega
    · exact ⟨Int.le_refl _, by omega⟩
theorem LK_bound {s : Sk} (g : s.Good) {B : Int} {seen : Nat → Int} (k : s.Sn seen) : 0 ≤ s.LK B seen ∧ s.LK B seen ≤ s.sh - sumF seen 0 s.sorts.length := look_bound g 11 seen k
theorem LK_le {s : Sk} (g : s.Good) {B : Int} {seen : Nat → Int} (k : s.Sn seen) : s.LK B seen ≤ s.sh := by
  have := LK_bound g (B := B) k
  have h2 := sumF_nn (n := seen) s.sorts.length 0 fun j _ _ => k.nn j
  omega
theorem LK_wr {s : Sk} (g : s.Good) {B : Int} {seen : Nat → Int} (k : s.Sn seen) : wr (s.LK B seen + 1) = s.LK B seen + 1 := by
  have h1 := LK_bound g (B := B) k
  have h2 := LK_le g (B := B) k
  have h3 := g.sh2
  exact wr_id (by omega) (by omega)
/-- It is open still whether there are so many blanks. -/
def Sk.open_ (s : Sk) (B : Int) (seen : Nat → Int) : Prop := (endsOf s.blanks (s.truths seen)).1 < B ∧ B ≤ (endsOf s.blanks (s.truths seen)).2
theorem lookAt_open {s : Sk} {B : Int} {L : (Nat → Int) → Int} {seen : Nat → Int} (h : s.open_ B seen) : s.lookAt B L seen = (List.range s.sorts.length).foldl (s.lookStep L seen) 0 := if_pos h
theorem lookAt_shut {s : Sk} {B : Int} {L : (Nat → Int) → Int} {seen : Nat → Int} (h : ¬ s.open_ B seen) : s.lookAt B L seen = 0 := if_neg h
theorem truth_nn {s : Sk} {seen : Nat → Int} (k : s.Sn seen) {n : Nat → Int} (h : n ∈ s.truths seen) (j : Nat) : 0 ≤ n j := by
  obtain ⟨h1, h2, _⟩ := (Sk.mem_truths k.nn).1 h
  by_cases hj : j < s.sorts.length
  · have := h2 j hj; have := k.nn j; omega
  · rw [h1 j (by omega)]; exact Int.le_refl _
theorem blanks_nn {s : Sk} (g : s.Good) {seen : Nat → Int} (k : s.Sn seen) {n : Nat → Int} (h : n ∈ s.truths seen) : 0 ≤ s.blanks n := by
  obtain ⟨_, _, h3, _⟩ := (Sk.mem_truths k.nn).1 h
  have := blanks_bound (fun j => truth_nn k h j) s.sorts 0 0 g.bl (Int.le_refl _) (by rw [h3]; have := g.sh2; omega)
  simp only [Sk.blanks]; omega
theorem ends_at {s : Sk} (g : s.Good) {seen : Nat → Int} (k : s.Sn seen) : IsEnds (s.truths seen) s.blanks (endsOf s.blanks (s.truths seen)) := endsOf_is k.some_ fun n hn => blanks_nn g k hn
theorem open_iff {s : Sk} (g : s.Good) {B : Int} {seen : Nat → Int} (k : s.Sn seen) : s.open_ B seen ↔ (∃ n ∈ s.truths seen, s.blanks n < B) ∧ ∃ n ∈ s.truths seen, B ≤ s.blanks n := by
  obtain ⟨⟨n1, h1, e1⟩, ⟨n2, h2, e2⟩, h3⟩ := ends_at g k
  constructor
  · rintro ⟨a, b⟩; exact ⟨⟨n1, h1, by omega⟩, ⟨n2, h2, by omega⟩⟩
  · rintro ⟨⟨m1, c1, d1⟩, ⟨m2, c2, d2⟩⟩
    have := h3 m1 c1; have := h3 m2 c2
    exact ⟨by omega, by omega⟩
theorem sumF_eq_of_le {n m : Nat → Int} : ∀ (d i : Nat), (∀ j, i ≤ j → j < i + d → n j ≤ m j) → sumF n i d = sumF m i d → ∀ j, i ≤ j → j < i + d → n j = m j
  | 0, i, _, _, j, h1, h2 => by omega
  | d + 1, i, h, he, j, h1, h2 => by
    have a1 := h i (Nat.le_refl _) (by omega)
    have a2 := sumF_mono d (i + 1) fun j a b => h j (by omega) (by omega)
    simp only [sumF] at he
    by_cases hj : j = i
    · subst hj; omega
    · exact sumF_eq_of_le d (i + 1) (fun j a b => h j (by omega) (by omega)) (by omega) j (by omega) (by omega)
theorem bump_mem {s : Sk} (g : s.Good) {seen : Nat → Int} (k : s.Sn seen) {i : Nat} (hi : i < s.sorts.length) {n : Nat → Int} : n ∈ s.truths (bump seen i) ↔ n ∈ s.truths seen ∧ seen i < n i := by
  have hb := bump_at g k hi
  have hbn : ∀ j, 0 ≤ bump seen i j := fun j => by
    rw [hb]; split
    · have := k.nn i; omega
    · exact k.nn j
  rw [Sk.mem_truths hbn, Sk.mem_truths k.nn]
  constructor
  · rintro ⟨h1, h2, h3⟩
    refine ⟨⟨h1, fun j hj => ?_, h3⟩, ?_⟩
    · have := h2 j hj; rw [hb] at this; split at this
      · rename_i hq; subst hq; omega
      · exact this
    · have := h2 i hi; rw [hb, if_pos rfl] at this; omega
  · rintro ⟨⟨h1, h2, h3⟩, h4⟩
    refine ⟨h1, fun j hj => ?_, h3⟩
    rw [hb]; split
    · rename_i hq; subst hq; omega
    · exact h2 j hj
/-- If it is open, some look is possible. -/
theorem open_bump {s : Sk} (g : s.Good) {B : Int} {seen : Nat → Int} (k : s.Sn seen) (h : s.open_ B seen) : ∃ i, i < s.sorts.length ∧ s.truths (bump seen i) ≠ [] := by
  obtain ⟨⟨n1, h1, e1⟩, ⟨n2, h2, e2⟩⟩ := (open_iff g k).1 h
  apply Classical.byContradiction
  intro hno
  have key : ∀ n, n ∈ s.truths seen → ∀ j, n j = if j < s.sorts.length then seen j else 0 := fun n hn j => by
    obtain ⟨a1, a2, _⟩ := (Sk.mem_truths k.nn).1 hn
    split
    · rename_i hj
      apply Classical.byContradiction
      intro hne
      have := a2 j hj
      exact hno ⟨j, hj, List.ne_nil_of_mem ((bump_mem g k hj).2 ⟨hn, by omega⟩)⟩
    · rename_i hj; exact a1 j (by omega)
  have : n1 = n2 := funext fun j => by rw [key n1 h1 j, key n2 h2 j]
  rw [this] at e1
  omega
theorem LK_zero {s : Sk} (g : s.Good) {B : Int} {seen : Nat → Int} (k : s.Sn seen) : s.LK B seen = 0 ↔ ¬ s.open_ B seen := by
  constructor
  · intro h ho
    obtain ⟨i, hi, hq⟩ := open_bump g k ho
    rw [Sk.LK_eq g k, lookAt_open ho] at h
    have h1 := fold_mem (L := s.LK B) (List.range s.sorts.length) 0 i (List.mem_range.2 hi) hq
    have hk := bump_sn g k hi hq
    rw [LK_wr g hk] at h1
    have := (LK_bound g (B := B) hk).1
    omega
  · intro h
    rw [Sk.LK_eq g k, lookAt_shut h]
/-- A look leaves one less that is needed, at most; and none, if none is. -/
theorem LK_step {s : Sk} (g : s.Good) {B : Int} {seen : Nat → Int} (k : s.Sn seen) {i : Nat} (hi : i < s.sorts.length) (hq : s.truths (bump seen i) ≠ []) : s.LK B (bump seen i) ≤ s.LK B seen - 1 ∨ s.LK B (bump seen i) = 0 := by
  have hk := bump_sn g k hi hq
  by_cases ho : s.open_ B seen
  · left
    rw [Sk.LK_eq g k, lookAt_open ho]
    have h1 := fold_mem (L := s.LK B) (List.range s.sorts.length) 0 i (List.mem_range.2 hi) hq
    rw [LK_wr g hk] at h1
    omega
  · right
    rw [LK_zero g hk]
    intro ho2
    obtain ⟨⟨n1, h1, e1⟩, ⟨n2, h2, e2⟩⟩ := (open_iff g hk).1 ho2
    exact ho ((open_iff g k).2 ⟨⟨n1, ((bump_mem g k hi).1 h1).1, e1⟩, ⟨n2, ((bump_mem g k hi).1 h2).1, e2⟩⟩)
/-- The most looks that one look leaves. -/
def mostStep (s : Sk) (L : (Nat → Int) → Int) (seen : Nat → Int) (a : Int) (i : Nat) : Int := if s.truths (bump seen i) = [] then a else max a (L (bump seen i))
theorem most_fold {s : Sk} (g : s.Good) {B : Int} {seen : Nat → Int} (k : s.Sn seen) : ∀ (l : List Nat) (a : Int), (∀ i ∈ l, i < s.sorts.length) → l.foldl (s.lookStep (s.LK B) seen) (a + 1) = l.foldl (mostStep s (s.LK B) seen) a + 1
  | [], a, _ => rfl
  | i :: l, a, h => by
    rw [List.foldl_cons, List.foldl_cons]
    by_cases hq : s.truths (bump seen i) = []
    · simp only [Sk.lookStep, mostStep, if_pos hq]
      exact most_fold g k l a fun j hj => h j (List.mem_cons_of_mem _ hj)
    · have hk := bump_sn g k (h i List.mem_cons_self) hq
      simp only [Sk.lookStep, mostStep, if_neg hq]
      rw [LK_wr g hk, show max (a + 1) (s.LK B (bump seen i) + 1) = max a (s.LK B (bump seen i)) + 1 by omega]
      exact most_fold g k l _ fun j hj => h j (List.mem_cons_of_mem _ hj)
theorem most_is {s : Sk} (g : s.Good) {B : Int} {seen : Nat → Int} (k : s.Sn seen) (h : 0 < s.LK B seen) : (List.range s.sorts.length).foldl (mostStep s (s.LK B) seen) (-1) = s.LK B seen - 1 := by
  have ho : s.open_ B seen := by
    apply Classical.byContradiction
    intro hn
    have := (LK_zero g k).2 hn
    omega
  have h1 : s.LK B seen = (List.range s.sorts.length).foldl (s.lookStep (s.LK B) seen) 0 := by
    rw [Sk.LK_eq g k, lookAt_open ho]
  have := most_fold g (B := B) k (List.range s.sorts.length) (-1) fun i hi => List.mem_range.1 hi
  rw [show (-1 : Int) + 1 = 0 by omega, ← h1] at this
  omega
/-! ### sacks that were looked at -/
theorem Sk.Like.srch {s t : Sk} (k : s.Like t) (seen : Nat → Int) : ∀ (d : Nat) (now : Nat → Int) (i : Nat) (left : Int), t.srch seen d now i left = s.srch seen d now i left
  | 0, now, i, left => by simp only [Sk.srch, k.weighs]
  | d + 1, now, i, left => by
    simp only [Sk.srch]
    congr 1
    funext n
    exact Sk.Like.srch k seen d _ _ _
theorem Sk.Like.truthsF {s t : Sk} (k : s.Like t) (seen : Nat → Int) : t.truths seen = s.truths seen := by
  simp only [Sk.truths, k.sorts, k.sh]; exact k.srch seen _ _ _ _
theorem Sk.Like.blanksF {s t : Sk} (k : s.Like t) : t.blanks = s.blanks := by
  funext n; simp only [Sk.blanks, k.sorts]
theorem Sk.Like.look {s t : Sk} (k : s.Like t) (B : Int) : ∀ (d : Nat) (seen : Nat → Int), t.look B d seen = s.look B d seen
  | 0, _ => rfl
  | d + 1, seen => by
    simp only [Sk.look, Sk.lookAt, k.truthsF, k.blanksF, k.sorts]
    have : t.lookStep (t.look B d) seen = s.lookStep (s.look B d) seen := by
      funext a i
      simp only [Sk.lookStep, k.truthsF, k.look B d]
    rw [this]
theorem Sk.Like.LK {s t : Sk} (k : s.Like t) (B : Int) (seen : Nat → Int) : t.LK B seen = s.LK B seen := k.look B 11 seen
theorem Sk.Like.symm {s t : Sk} (k : s.Like t) : t.Like s := ⟨k.sh.symm, k.wt.symm, k.off.symm, k.sorts.symm⟩
theorem Sk.Like.trans {s t u : Sk} (k : s.Like t) (l : t.Like u) : s.Like u := ⟨l.sh.trans k.sh, l.wt.trans k.wt, l.off.trans k.off, l.sorts.trans k.sorts⟩
theorem Sk.sn {s : Sk} (h : s.err = 0) : s.Sn s.seenF := by
  obtain ⟨h1, h2⟩ := Sk.err_0.1 h
  have g := Sk.good h1
  have := g.l2
  have := g.le
  refine ⟨g.seen, fun j hj => ?_, h2⟩
  have hlen : s.seen[j]? = none := List.getElem?_eq_none (by omega)
  show s.seen.getD j 0 = 0
  rw [List.getD_eq_getElem?_getD, hlen]; rfl
theorem Sk.open_total {s : Sk} (h : s.err = 0) (B : Int) : s.open_ B s.seenF ↔ s.total.1 < B ∧ B ≤ s.total.2 := by
  rw [Sk.total, if_pos h]; rfl
/-- A look at a shell: it is possible just if the sack is possible still. -/
theorem looked_err {s t : Sk} (k : s.Like t) (h : s.err = 0) {i : Nat} (hi : i < s.sorts.length) (ht : t.seenF = bump s.seenF i) (hl : t.seen.length = s.seen.length) : t.err = 0 ↔ s.truths (bump s.seenF i) ≠ [] := by
  obtain ⟨h1, h2⟩ := Sk.err_0.1 h
  have g := Sk.good h1
  have hs := Sk.sn h
  have hb := bump_at g hs hi
  rw [Sk.err_0, k.truthsF, ht]
  constructor
  · exact fun q => q.2
  · intro q
    refine ⟨(k.ok h1).2 ⟨by rw [hl, g.le], fun x hx => ?_, ?_⟩, q⟩
    · obtain ⟨j, hj, rfl⟩ := List.mem_iff_getElem.1 hx
      have e : t.seenF j = t.seen[j] := by simp [Sk.seenF, List.getD_eq_getElem?_getD, hj]
      rw [← e, ht, hb]; split
      · have := hs.nn i; omega
      · exact hs.nn j
    · have e : t.seen.sum = sumF t.seenF 0 s.sorts.length := by rw [sum_fn, hl, g.le]; rfl
      rw [e, ht]
      exact Sk.sum_le (bump_sn g hs hi q).nn q
end Go.Proofs.Kn
namespace Go.Proofs.Kn
open Go Go.Ev
set_option maxRecDepth 100000
theorem ft4 (xt : Addr → Option Value) : (SE xt).ft.get 4 = some Tryz.f4 := by kernel_rfl
theorem res4 : Tryz.f4.results.toList = [.tmp 6] := by kernel_rfl
/-- A look, and where what was seen lies behind it. -/
def LookedR2 (xt : Addr → Option Value) (s : Sk) (i : Nat) (h : Hp) (r : CR) (h' : Hp) : Prop := ∃ t, r = .ret t.av ∧ Fr h.n h h' ∧ s.Lookd t xt h' i ∧ t.vs = s.vs ∧ ∀ b off k e, t.ve = .sl b off k e → h.n ≤ b
theorem looked_c2 (xt : Addr → Option Value) (h : Hp) (s : Sk) (ha : s.At xt h) (i : Nat) (hi : i < s.seen.length) (hl : s.seen.length ≤ 1000) : FnA (SE xt) 14 [s.av, iv i] h (LookedR2 xt s i h) := by
  refine FnA.walk (sok xt) (ft14 xt) rfl 22 rfl ?_
  have n01 : (h.n = h.n + 1) = False := by simp
  have n02 : (h.n = h.n + 2) = False := by simp
  have n12 : (h.n + 1 = h.n + 2) = False := by simp
  have n10 : (h.n + 1 = h.n) = False := by simp
  have n20 : (h.n + 2 = h.n) = False := by simp
  have n21 : (h.n + 2 = h.n + 1) = False := by simp
  have hov := ha.sorts.one
  have hoe := ha.seen.one
  refine seq_reg fun K hn hp => ?_
  simp only [sy.down, argsTo, cellPut_some, Nat.reduceEqDiff, reduceIte, Nat.reduceLT, Nat.reduceAdd, Nat.reduceMul, Nat.reduceLeDiff]
  refine hn _ _ ?_
  clear hn hp K
  refine seq_reg fun K hn hp => ?_
  simp only [sy.down, argsTo, cellPut_some, Nat.reduceEqDiff, reduceIte, Nat.reduceLT, Nat.reduceAdd, Nat.reduceMul, Nat.reduceLeDiff, n01, n10, n02, n20, n12, n21, hov, hoe]
  refine hn _ _ ?_
  clear hn hp K
  obtain ⟨hz, hhz⟩ : ∃ hz : Hp, hz = ((((h.new (.cells s.cells 25)).new (.cells [iv 0, .val (.slice none 0 0), .val (.slice none 0 0), iv 0, iv 0] 25)).new (.cells [iv 0, .val (.slice none 0 0), .val (.slice none 0 0), iv 0, iv 0] 25)).set (h.n + 2) (.cells s.cells 25)) := ⟨_, rfl⟩
  have hnz : hz.n = h.n + 3 := by rw [hhz]; rfl
  have fz : Fr h.n h hz := by rw [hhz]; exact ((((Fr.refl (Nat.le_refl _)).new _).new _).new _).set (by omega) (by simp [Hp.new_n]) _
  have q0 : hz.t.get h.n = some (.cells s.cells 25) := by rw [hhz]; simp [Hp.set_t, Hp.new_t, Hp.new_n, T.get_put]; intro hq; omega
  have q1 : hz.t.get (h.n + 1) = some (.cells [iv 0, .val (.slice none 0 0), .val (.slice none 0 0), iv 0, iv 0] 25) := by rw [hhz]; simp [Hp.set_t, Hp.new_t, Hp.new_n, T.get_put]
  have q2 : hz.t.get (h.n + 2) = some (.cells s.cells 25) := by rw [hhz]; simp [Hp.set_t, Hp.new_t, Hp.new_n, T.get_put]
  rw [← hhz]
  have haz := ha.fr fz (Nat.le_refl _)
  have hne : s.seen ≠ [] := by rintro hq; rw [hq] at hi; simp at hi
  obtain ⟨b, h1, p1, p2, p3, p4, p5⟩ := copy_ints xt hz s.ve s.seen haz.seen hne hl
  have q01 : h1.t.get h.n = some (.cells s.cells 25) := by rw [p5.at_ _ (by omega)]; exact q0
  have q11 : h1.t.get (h.n + 1) = some (.cells [iv 0, .val (.slice none 0 0), .val (.slice none 0 0), iv 0, iv 0] 25) := by rw [p5.at_ _ (by omega)]; exact q1
  have q21 : h1.t.get (h.n + 2) = some (.cells s.cells 25) := by rw [p5.at_ _ (by omega)]; exact q2
  refine seq_reg fun K hn hp => ?_
  simp only [sy.down, argsTo, cellPut_some, Nat.reduceEqDiff, reduceIte, Nat.reduceLT, Nat.reduceAdd, Nat.reduceMul, Nat.reduceLeDiff, q0, p1, q21, n02, n20, n12, n21]
  refine hn _ _ ?_
  clear hn hp K
  obtain ⟨hy, hhy⟩ : ∃ hy : Hp, hy = h1.set (h.n + 2) (.cells [iv s.sh, s.vs, .sl b 0 s.seen.length 1, iv s.wt, iv s.off] 25) := ⟨_, rfl⟩
  have hny : hy.n = h1.n := by rw [hhy]; rfl
  have fy : Fr h.n h hy := by rw [hhy]; exact (fz.trans p5 (by omega)).set (by omega) (by omega) _
  have r2 : hy.t.get (h.n + 2) = some (.cells [iv s.sh, s.vs, .sl b 0 s.seen.length 1, iv s.wt, iv s.off] 25) := by rw [hhy, Hp.set_t, T.get_put, if_pos rfl]
  have r1 : hy.t.get (h.n + 1) = some (.cells [iv 0, .val (.slice none 0 0), .val (.slice none 0 0), iv 0, iv 0] 25) := by rw [hhy, Hp.set_t, T.get_put, if_neg (by omega)]; exact q11
  have rb : hy.t.get b = some (.cells (s.seen.map iv) 3) := by rw [hhy, Hp.set_t, T.get_put, if_neg (by omega)]; exact p4
  rw [← hhy]
  have hidx := idx_sl b s.seen.length i hi
  have hgt : (s.seen.map iv)[i]? = some (iv (s.seen.getD i 0)) := by
    rw [List.getElem?_map, List.getD_eq_getElem?_getD, List.getElem?_eq_getElem hi]; rfl
  have hput := put_int hy b i s.seen (wr (s.seen.getD i 0 + 1)) hi
  refine seq_regD (sok xt) 10 (by kernel_rfl) fun K hn hp => ?_
  simp only [sy.down, argsTo, Nat.reduceEqDiff, reduceIte, Nat.reduceLT, Nat.reduceAdd, Nat.reduceMul, Nat.reduceLeDiff, r2, hidx, rb, hgt, hput]
  refine hn _ _ ?_
  clear hn hp K
  obtain ⟨hw, hhw⟩ : ∃ hw : Hp, hw = hy.set b (.cells ((s.seen.set i (wr (s.seen.getD i 0 + 1))).map iv) 3) := ⟨_, rfl⟩
  rw [← hhw]
  have hnw : hw.n = h1.n := by rw [hhw, ← hny]; rfl
  have s2 : hw.t.get (h.n + 2) = some (.cells [iv s.sh, s.vs, .sl b 0 s.seen.length 1, iv s.wt, iv s.off] 25) := by rw [hhw, Hp.set_t, T.get_put, if_neg (by omega)]; exact r2
  have s1 : hw.t.get (h.n + 1) = some (.cells [iv 0, .val (.slice none 0 0), .val (.slice none 0 0), iv 0, iv 0] 25) := by rw [hhw, Hp.set_t, T.get_put, if_neg (by omega)]; exact r1
  have sb : hw.t.get b = some (.cells ((s.seen.set i (wr (s.seen.getD i 0 + 1))).map iv) 3) := by rw [hhw, Hp.set_t, T.get_put, if_pos rfl]
  have fw : Fr h.n h hw := by rw [hhw]; exact fy.set (by omega) (by omega) _
  refine seq_reg fun K hn hp => ?_
  simp only [sy.down, argsTo, cellPut_some, Nat.reduceEqDiff, reduceIte, Nat.reduceLT, Nat.reduceAdd, Nat.reduceMul, Nat.reduceLeDiff, s2, s1, hov]
  refine hn _ _ ?_
  clear hn hp K
  have hlen : s.seen.length = (s.seen.set i (wr (s.seen.getD i 0 + 1))).length := by rw [List.length_set]
  refine wpc_ret (end_c res14 (by simp only [sy.down, argsTo, cellPut_some, Nat.reduceEqDiff, reduceIte, Nat.reduceLT, Nat.reduceAdd, Nat.reduceMul, Nat.reduceLeDiff]) ⟨{ s with ve := .sl b 0 s.seen.length 1, seen := s.seen.set i (wr (s.seen.getD i 0 + 1)) }, rfl, fw.set (by omega) (by omega) _, ⟨⟨?_, ?_, ha.ls, ?_⟩, ⟨rfl, rfl, rfl, rfl⟩, rfl⟩, rfl, fun b' off k e hv => by cases hv; omega⟩)
  · exact ha.sorts.fr (fw.set (by omega) (by omega) _) (Nat.le_refl _)
  · show RowAt xt _ 1 (.sl b 0 s.seen.length 1) _
    rw [hlen]
    exact row_of_cells xt _ b _ (by simp [Hp.set_n]; omega) (by rw [Hp.set_t, T.get_put, if_neg (by omega)]; exact sb)
  · show (s.seen.set i _).length ≤ _
    rw [List.length_set]; exact ha.le
theorem Sk.Lookd.seenF {s t : Sk} {xt : Addr → Option Value} {h : Hp} {i : Nat} (k : s.Lookd t xt h i) (hi : i < s.seen.length) : t.seenF = bump s.seenF i := by
  funext j
  show t.seen.getD j 0 = _
  rw [k.seen, set_getD _ _ _ _ hi]
  rfl
theorem looksE_in {t : Sk} {B : Int} (h1 : 0 ≤ B) (h2 : B ≤ 200) : t.looksE B = t.err := by
  simp only [Sk.looksE, decide_eq_true h1, decide_eq_true h2, Bool.and_self, if_true, Sk.err]
  split
  · rfl
  · rfl
theorem knows_zero {s : Sk} (h : s.err = 0) (B : Int) : decide (s.LK B s.seenF = 0) = s.knows B := by
  have g := Sk.good (Sk.err_0.1 h).1
  have hz := LK_zero g (B := B) (Sk.sn h)
  rw [Sk.open_total h] at hz
  rw [Bool.eq_iff_iff]
  simp only [decide_eq_true_eq, Sk.knows, h, decide_true, Bool.true_and, Bool.or_eq_true, hz]
  omega
theorem known_if {nt r : Nat} (xt : Addr → Option Value) {Q : Ex → St → Prop} {hx : Hp} {tm : T AV} {t : Tmp} {id d : Nat} {p1 p2 : String} {a1 a2 : Array Edge} {at1 : Array TypeId} (hQ : ∀ tm' hx', tm'.get r = some (.val (.bool true)) → Q .ret ⟨tm', nt, hx', []⟩) (hd : d < nt) (hrn : r < nt) (ht : tm.get t = some (.val (.bool true))) :
    wpc (SE xt) none (.cond (.tmp t) (.seq (.region id #[⟨some d, .call ⟨.value (.func 8), #[], at1⟩, 4, p1, a1, none⟩, ⟨some r, .assign (.tmp d), 4, p2, a2, none⟩] false) .ret) .skip) ⟨tm, nt, hx, []⟩ Q := by
  refine wpc_cond true (by simp only [sy.down, argsTo, cellPut_some, Nat.reduceEqDiff, reduceIte, Nat.reduceLT, Nat.reduceAdd, Nat.reduceMul, Nat.reduceLeDiff, ht]) (fun _ => ?_) (fun hx => by cases hx)
  refine seq_reg fun K1 hn hp => ?_
  simp only [sy.down, argsTo, cellPut_some, Nat.reduceEqDiff, reduceIte, Nat.reduceLT, Nat.reduceAdd, Nat.reduceMul, Nat.reduceLeDiff, hd, hrn]
  refine callA_func (sok xt) (known_c xt _ fun m2 hm2 => ?_)
  simp only [sy.down, argsTo, cellPut_some, Nat.reduceEqDiff, reduceIte, Nat.reduceLT, Nat.reduceAdd, Nat.reduceMul, Nat.reduceLeDiff, hd, hrn]
  refine hn _ _ ?_
  refine wpc_ret (hQ _ _ ?_)
  simp [T.get_put]
theorem known_seq {nt r : Nat} (xt : Addr → Option Value) {Q : Ex → St → Prop} {hx : Hp} {tm : T AV} {t : Tmp} {id d : Nat} {rest : Code} {p1 p2 : String} {a1 a2 : Array Edge} {at1 : Array TypeId} (hQ : ∀ tm' hx', tm'.get r = some (.val (.bool true)) → Q .ret ⟨tm', nt, hx', []⟩) (hd : d < nt) (hrn : r < nt) (ht : tm.get t = some (.val (.bool true))) :
    wpc (SE xt) none (.seq (.cond (.tmp t) (.seq (.region id #[⟨some d, .call ⟨.value (.func 8), #[], at1⟩, 4, p1, a1, none⟩, ⟨some r, .assign (.tmp d), 4, p2, a2, none⟩] false) .ret) .skip) rest) ⟨tm, nt, hx, []⟩ Q := by
  refine seq_any fun K hN hO => ?_
  exact known_if xt (fun tm' hx' h => hO _ _ (by simp) (hQ tm' hx' h)) hd hrn ht
noncomputable def tail4 : Code := tl (tl (tl (tl (tl (tl (bdOf Tryz.f4))))))
set_option maxHeartbeats 1000000 in
theorem looked_tail (xt : Addr → Option Value) (h0 : Nat) (hX : Hp) (s : Sk) (ha : s.At xt hX) (he : s.err = 0) (B : Int) (v : AV) (L : List Int) (hv : RowAt xt hX 1 v (L.map c1)) (hl : L.length ≤ 9223372036854775807) (tm : T AV) (hlt0 : h0 < hX.n) (q0 : hX.t.get h0 = some (.cells s.cells 25))
    (g1 : tm.get 1 = some (iv B)) (g2 : tm.get 2 = some v) (g3 : tm.get 3 = some (.ptr h0 0)) (g7 : tm.get 7 = some (iv (s.LK B s.seenF))) : wpc (SE xt) none tail4 ⟨tm, 142, hX, []⟩ (endK (SE xt) Tryz.f4 isTrue) := by
  have g := Sk.good (Sk.err_0.1 he).1
  have gl2 := g.l2
  have gle := g.le
  have gs2 := g.sh2
  have hov := ha.sorts.one
  have hoe := ha.seen.one
  obtain ⟨n, hn⟩ : ∃ n : Nat, (n : Int) = s.LK B s.seenF := ⟨(s.LK B s.seenF).toNat, by have := (LK_bound g (B := B) (Sk.sn he)).1; omega⟩
  have hn10 : n ≤ 10 := by have := LK_le g (B := B) (Sk.sn he); omega
  rw [← hn] at g7
  have hlenL := fun h' => hv.len (h' := h') tg23 rfl
  have hlenS := fun h' => ha.sorts.len (h' := h') tg22 rfl
  simp only [List.length_map] at hlenL hlenS
  refine seq_reg fun K hn hp => ?_
  simp only [sy.down, argsTo, cellPut_some, Nat.reduceEqDiff, reduceIte, Nat.reduceLT, Nat.reduceAdd, Nat.reduceMul, Nat.reduceLeDiff, g3, q0, hov, hoe]
  refine hn _ _ ?_
  clear hn hp K
  obtain ⟨h1, hh1⟩ : ∃ h1 : Hp, h1 = (hX.new (.cells [iv 0, .val (.slice none 0 0), .val (.slice none 0 0), iv 0, iv 0] 25)).set hX.n (.cells s.cells 25) := ⟨_, rfl⟩
  rw [← hh1]
  have n1 : h1.n = hX.n + 1 := by rw [hh1]; rfl
  have f1 : Fr hX.n hX h1 := by rw [hh1]; exact ((Fr.refl (Nat.le_refl _)).new _).set (Nat.le_refl _) (by simp [Hp.new_n]) _
  have qX1 : h1.t.get hX.n = some (.cells s.cells 25) := by rw [hh1, Hp.set_t, T.get_put, if_pos rfl]
  refine seq_seq ?_
  refine seq_reg fun K hn hp => ?_
  simp only [sy.down, argsTo, cellPut_some, Nat.reduceEqDiff, reduceIte, Nat.reduceLT, Nat.reduceAdd, Nat.reduceMul, Nat.reduceLeDiff]
  refine hn _ _ ?_
  clear hn hp K
  refine seq_block fun K k1 k2 k3 k4 k5 => ?_
  refine wpc_loop (sok xt) (fun st => ∃ (i : Nat) (X : Sk) (tm : T AV) (hd : Hp), st = ⟨tm, 142, hd, []⟩ ∧ Fr hX.n hX hd ∧ hX.n < hd.n ∧ i ≤ n ∧ s.Like X ∧ X.err = 0 ∧ X.At xt hd ∧ X.vs = s.vs ∧ hd.t.get hX.n = some (.cells X.cells 25) ∧ s.LK B X.seenF ≤ n - i ∧ tm.get 1 = some (iv B) ∧ tm.get 2 = some v ∧ tm.get 3 = some (.ptr h0 0) ∧ tm.get 7 = some (iv n) ∧ tm.get 13 = some (.ptr hX.n 0) ∧ tm.get 14 = some (iv i))
    (fun st => n - (match st.tm.get 14 with | some (.val (.int _ n)) => n.toNat | _ => 0)) ?_ ?_
  · rintro st ⟨i, X, tm, hd, rfl, fr, hnd, hi, hlk, hXe, hXa, hXv, qX, hLX, g1, g2, g3, g7, g13, g14⟩
    have q0d : hd.t.get h0 = some (.cells s.cells 25) := by rw [fr.at_ _ (by omega)]; exact q0
    have hvd := hv.fr fr (Nat.le_refl _)
    refine seq_seq ?_
    refine seq_reg fun K hn hp => ?_
    simp only [sy.down, argsTo, cellPut_some, Nat.reduceEqDiff, reduceIte, Nat.reduceLT, Nat.reduceAdd, Nat.reduceMul, Nat.reduceLeDiff, g7, g14]
    refine hn _ _ ?_
    clear hn hp K
    have ht : (decide ((i : Int) < (n : Int))) = decide (i < n) := by simp
    by_cases hlt : i < n
    · refine seq_cond true (by simp only [sy.down, argsTo, cellPut_some, Nat.reduceEqDiff, reduceIte, Nat.reduceLT, Nat.reduceAdd, Nat.reduceMul, Nat.reduceLeDiff, ht, hlt]) (fun _ => ?_) (fun hx => by cases hx)
      refine seq_skip ?_
      refine seq_block fun K' k1' k2' k3' k4' k5' => ?_
      refine seq_seq ?_
      have hret : ∀ tm' hx', tm'.get 6 = some (.val (.bool true)) → K' .ret ⟨tm', 142, hx', []⟩ := fun tm' hx' h6 => k4' _ (k4 _ (end_1 res4 (by simp [h6, isTrue])))
      by_cases hl1 : L.length ≤ i
      · have d1 : decide ((L.length : Int) ≤ (i : Int)) = true := decide_eq_true (by omega)
        refine seq_regD (sok xt) 21 (by kernel_rfl) fun K1 hn' hp => ?_
        simp only [sy.down, argsTo, cellPut_some, Nat.reduceEqDiff, reduceIte, Nat.reduceLT, Nat.reduceAdd, Nat.reduceMul, Nat.reduceLeDiff, g2, g14, hlenL, d1, wnt_d]
        refine hn' _ _ ?_
        exact known_seq xt hret (by omega) (by omega) (by simp [T.get_put])
      have d1 : decide ((L.length : Int) ≤ (i : Int)) = false := decide_eq_false (by omega)
      obtain ⟨x, hx⟩ : ∃ x, L[i]? = some x := ⟨_, List.getElem?_eq_getElem (by omega)⟩
      have hidx := hvd.idx tg23 rfl tg3 rfl (by simp; omega) (k := .i64) (i := i)
      have hld : aload tb xt hd 3 (elp v (i * 1)) = some (iv x) := hvd.load0 tg3 rfl (c := c1 x) (by simp [hx]) rfl
      by_cases hx0 : x < 0
      · refine seq_regD (sok xt) 21 (by kernel_rfl) fun K1 hn' hp => ?_
        simp only [sy.down, argsTo, cellPut_some, Nat.reduceEqDiff, reduceIte, Nat.reduceLT, Nat.reduceAdd, Nat.reduceMul, Nat.reduceLeDiff, g2, g14, hlenL, d1, hidx, hld, decide_eq_true hx0, wnt_d]
        refine hn' _ _ ?_
        exact known_seq xt hret (by omega) (by omega) (by simp [T.get_put])
      by_cases hx1 : (s.sorts.length : Int) ≤ x
      · refine seq_regD (sok xt) 21 (by kernel_rfl) fun K1 hn' hp => ?_
        simp only [sy.down, argsTo, cellPut_some, Nat.reduceEqDiff, reduceIte, Nat.reduceLT, Nat.reduceAdd, Nat.reduceMul, Nat.reduceLeDiff, g2, g3, g14, hlenL, hlenS, q0d, d1, hidx, hld, decide_eq_false hx0, decide_eq_true hx1]
        refine hn' _ _ ?_
        exact known_seq xt hret (by omega) (by omega) (by simp [T.get_put])
      refine seq_regD (sok xt) 21 (by kernel_rfl) fun K1 hn' hp => ?_
      simp only [sy.down, argsTo, cellPut_some, Nat.reduceEqDiff, reduceIte, Nat.reduceLT, Nat.reduceAdd, Nat.reduceMul, Nat.reduceLeDiff, g2, g3, g14, hlenL, hlenS, q0d, d1, hidx, hld, decide_eq_false hx0, decide_eq_false hx1]
      refine hn' _ _ ?_
      clear hn' hp K1
      refine seq_cond false (by simp only [sy.down, argsTo, cellPut_some, Nat.reduceEqDiff, reduceIte, Nat.reduceLT, Nat.reduceAdd, Nat.reduceMul, Nat.reduceLeDiff]) (fun hx => by cases hx) (fun _ => ?_)
      refine seq_skip ?_
      obtain ⟨j, rfl⟩ : ∃ j : Nat, x = j := ⟨x.toNat, by omega⟩
      have hj : j < s.sorts.length := by omega
      have gX := Sk.good (Sk.err_0.1 hXe).1
      have hXl : X.seen.length = s.sorts.length := by rw [gX.le, hlk.sorts]
      refine seq_regDM (sok xt) 5 0 (by kernel_rfl) rfl fun K1 hn' hp => ?_
      simp only [sy.down, argsTo, cellPut_some, Nat.reduceEqDiff, reduceIte, Nat.reduceLT, Nat.reduceAdd, Nat.reduceMul, Nat.reduceLeDiff, g2, g13, g14, qX, hidx, hld, midZ_none]
      refine callA_func (sok xt) ((looked_c2 xt _ X hXa j (by omega) (by omega)).bumped.mono ?_)
      rintro r _ ⟨hb, ⟨Y, rfl, frb, hY, hYv, hYb⟩, rfl⟩
      have hYov := hY.at_.sorts.one
      have hYoe := hY.at_.seen.one
      have hltb : hd.n < (hb.up (hb.n + 1)).n := by have := frb.lo; simp; omega
      have qXb : hb.t.get hX.n = some (.cells X.cells 25) := by rw [frb.at_ _ (by omega)]; exact qX
      simp only [sy.down, argsTo, cellPut_some, Nat.reduceEqDiff, reduceIte, Nat.reduceLT, Nat.reduceAdd, Nat.reduceMul, Nat.reduceLeDiff, midK_some hltb, g13, hYov, hYoe, qXb]
      refine hn' _ _ ?_
      clear hn' hp K1
      have hlob := frb.lo
      obtain ⟨hc, hhc⟩ : ∃ hc : Hp, hc = (hb.up (hb.n + 1)).set hX.n (.cells Y.cells 25) := ⟨_, rfl⟩
      rw [← hhc]
      have nc : hc.n = hb.n + 1 := by rw [hhc]; rfl
      have fc : Fr hX.n hX hc := by rw [hhc]; exact ((fr.trans frb (by omega)).up (Nat.le_succ _)).set (Nat.le_refl _) (by simp; omega) _
      have qYc : hc.t.get hX.n = some (.cells Y.cells 25) := by rw [hhc, Hp.set_t, T.get_put, if_pos rfl]
      have hsl := ha.low
      have hYc : Y.At xt hc := by
        rw [hhc]
        refine ⟨(hY.at_.sorts.up (Nat.le_succ _)).set (fun off k e hq => ?_) _, (hY.at_.seen.up (Nat.le_succ _)).set (fun off k e hq => ?_) _, hY.at_.ls, hY.at_.le⟩
        · rw [hYv, hXv] at hq
          have := hsl.1 _ _ _ _ hq; omega
        · have := hYb _ _ _ _ hq; omega
      have hYl : s.Like Y := hlk.trans hY.like
      have hYs : Y.seenF = bump X.seenF j := hY.seenF (by omega)
      refine seq_reg fun K1 hn' hp => ?_
      simp only [sy.down, argsTo, cellPut_some, Nat.reduceEqDiff, reduceIte, Nat.reduceLT, Nat.reduceAdd, Nat.reduceMul, Nat.reduceLeDiff, g13, qYc]
      refine callA_func (sok xt) (total_c xt _ Y hYc fun m8 hm8 => ?_)
      simp only [sy.down, argsTo, cellPut_some, Nat.reduceEqDiff, reduceIte, Nat.reduceLT, Nat.reduceAdd, Nat.reduceMul, Nat.reduceLeDiff, ex_tup0, ex_tup1]
      refine hn' _ _ ?_
      clear hn' hp K1
      obtain ⟨he', hhe⟩ : ∃ he' : Hp, he' = ((hc.up m8).new (.cells [iv 0, iv 0] 36)).set m8 (.cells [iv Y.total.1, iv Y.total.2] 36) := ⟨_, rfl⟩
      rw [← hhe]
      have fe : Fr hc.n hc he' := by rw [hhe]; exact (((Fr.refl (Nat.le_refl _)).up (Nat.le_of_lt hm8)).new _).set (by omega) (by simp [Hp.new_n]) _
      have ne : he'.n = m8 + 1 := by rw [hhe]; rfl
      by_cases hYe : Y.err = 0
      rotate_left
      · refine seq_reg fun K hn hp => ?_
        simp only [sy.down, argsTo, cellPut_some, Nat.reduceEqDiff, reduceIte, Nat.reduceLT, Nat.reduceAdd, Nat.reduceMul, Nat.reduceLeDiff, decide_eq_false hYe]
        refine hn _ _ ?_
        clear hn hp K
        exact known_if xt hret (by omega) (by omega) (by simp [T.get_put])
      refine seq_reg fun K hn hp => ?_
      simp only [sy.down, argsTo, cellPut_some, Nat.reduceEqDiff, reduceIte, Nat.reduceLT, Nat.reduceAdd, Nat.reduceMul, Nat.reduceLeDiff, decide_eq_true hYe]
      refine hn _ _ ?_
      clear hn hp K
      refine wpc_cond false (by simp only [sy.down, argsTo, cellPut_some, Nat.reduceEqDiff, reduceIte, Nat.reduceLT, Nat.reduceAdd, Nat.reduceMul, Nat.reduceLeDiff]) (fun hx => by cases hx) (fun _ => ?_)
      refine wpc_skip (k1' _ ?_)
      refine reg fun K1 hn' hp => ?_
      have hw : IntKind.i64.wrap ((i : Int) + 1) = ((i + 1 : Nat) : Int) := by rw [wrap_i64 _ (by omega) (by omega)]; simp
      simp only [sy.down, argsTo, cellPut_some, Nat.reduceEqDiff, reduceIte, Nat.reduceLT, Nat.reduceAdd, Nat.reduceMul, Nat.reduceLeDiff, g14, hw]
      refine hn' _ _ ?_
      have hstep : s.LK B Y.seenF ≤ n - (i + 1 : Nat) := by
        have hXn := Sk.sn hXe
        have hq : X.truths (bump X.seenF j) ≠ [] := by
          have := Sk.sn hYe
          have h9 := this.some_
          rw [hYs, hY.like.truthsF] at h9
          exact h9
        have := LK_step gX (B := B) hXn (i := j) (by rw [hlk.sorts]; exact hj) hq
        rw [hlk.LK, hlk.LK, ← hYs] at this
        rcases this with h1 | h1 <;> omega
      refine ⟨⟨i + 1, Y, _, he', rfl, fc.trans fe (by omega), by omega, hlt, hYl, hYe, hYc.fr fe (Nat.le_refl _), hYv.trans hXv, by rw [fe.at_ _ (by omega)]; exact qYc, hstep, ?_, ?_, ?_, ?_, ?_, ?_⟩, ?_⟩
      · simp [T.get_put, g1]
      · simp [T.get_put, g2]
      · simp [T.get_put, g3]
      · simp [T.get_put, g7]
      · simp [T.get_put, g13]
      · simp [T.get_put]
      · have hm : n - (i + 1) < n - i := by omega
        simpa [T.get_put, g14] using hm
    · refine seq_cond false (by simp only [sy.down, argsTo, cellPut_some, Nat.reduceEqDiff, reduceIte, Nat.reduceLT, Nat.reduceAdd, Nat.reduceMul, Nat.reduceLeDiff, ht, hlt]) (fun hx => by cases hx) (fun _ => ?_)
      refine seq_exit (k2 _ ?_)
      have hin : i = n := by omega
      subst hin
      have hXn := Sk.sn hXe
      have gX := Sk.good (Sk.err_0.1 hXe).1
      have hz : s.LK B X.seenF = 0 := by
        have h1 := (LK_bound gX (B := B) hXn).1
        rw [hlk.LK] at h1
        omega
      have hkn : X.knows B = true := by
        rw [← knows_zero hXe, hlk.LK, hz]; rfl
      refine seq_reg fun K1 hn' hp => ?_
      simp only [sy.down, argsTo, cellPut_some, Nat.reduceEqDiff, reduceIte, Nat.reduceLT, Nat.reduceAdd, Nat.reduceMul, Nat.reduceLeDiff, g1, g13, qX]
      refine callA_func (sok xt) (knows_c xt _ X hXa B fun m8 hm8 => ?_)
      simp only [sy.down, argsTo, cellPut_some, Nat.reduceEqDiff, reduceIte, Nat.reduceLT, Nat.reduceAdd, Nat.reduceMul, Nat.reduceLeDiff, hkn]
      refine callA_func (sok xt) (known_c xt _ fun m9 hm9 => ?_)
      simp only [sy.down, argsTo, cellPut_some, Nat.reduceEqDiff, reduceIte, Nat.reduceLT, Nat.reduceAdd, Nat.reduceMul, Nat.reduceLeDiff]
      refine hn' _ _ ?_
      refine wpc_ret (end_1 res4 ?_)
      simp [T.get_put, isTrue]
  · refine ⟨0, s, _, h1, rfl, f1, by omega, Nat.zero_le _, ⟨rfl, rfl, rfl, rfl⟩, he, ha.fr f1 (Nat.le_refl _), rfl, qX1, by omega, ?_, ?_, ?_, ?_, ?_, ?_⟩
    all_goals simp [T.get_put, g1, g2, g3, g7]
end Go.Proofs.Kn
