/-
  Texts in a row, joined by a program: SyR4, SyR5, SyR6, SyR7, KnShelf.
-/
import Derived.Shelf.Strings.OnBuilder
import Derived.Test.YtonpolckdeeofaaGreatDoorProg
import Derived.Test.YtonpolckdeeofaaGreatDoorQ06
import Derived.Test.YtonpolckdeeofaaGreatDoorQ02
namespace Go.Proofs.Kn
open Go Go.Ev
set_option maxRecDepth 100000
theorem _root_.Go.Ev.LRows.lt {xt : Addr → Option Value} {h : Hp} {N isz : Nat} {e : TypeId} {v : AV} {ll : List (List (List Value))} (r : LRows xt h N isz e v ll) {b off n s : Nat} (hv : v = .sl b off n s) : N ≤ b ∧ b < h.n := by
  obtain ⟨_, h1, _⟩ := r
  rcases h1 with ⟨_, _, rfl⟩ | ⟨b', rfl, h2, h3, _⟩
  · cases hv
  · cases hv; exact ⟨h2, h3⟩
theorem _root_.Go.Ev.Fr.lower {n m : Nat} {h h' : Hp} (f : Fr n h h') (hm : m ≤ n) : Fr m h h' := ⟨Nat.le_trans hm f.lo, f.le, fun k hk => f.at_ k (by omega)⟩
abbrev cc (ll : List (List Int)) : List (List (List Value)) := ll.map (List.map c1)
theorem bs97 (h : Hp) {a : AV} (hc : cellsOf a = [a]) : aoBuildSlice tb h 97 1 [(0, a)] = some (.sl h.n 0 1 1, h.new (.cells [a] 23)) :=
  bs_of tg97 rfl tg23 rfl rfl (by omega) (by omega) (by simp [fillA, hc, repl, te23]; rfl)
theorem bs97n (h : Hp) : aoBuildSlice tb h 97 1 [(0, .val (.slice none 0 0))] = some (.sl h.n 0 1 1, h.new (.cells [.val (.slice none 0 0)] 23)) := bs97 h rfl
theorem bs97s (h : Hp) (b o n z : Nat) : aoBuildSlice tb h 97 1 [(0, .sl b o n z)] = some (.sl h.n 0 1 1, h.new (.cells [.sl b o n z] 23)) := bs97 h rfl
theorem bs23 (h : Hp) (n : Int) : aoBuildSlice tb h 23 1 [(0, iv n)] = some (.sl h.n 0 1 1, h.new (.cells [iv n] 3)) := by kernel_rfl
theorem c1_sz {l : List Int} : ∀ c ∈ l.map c1, c.length = 1 := by
  intro c hc; obtain ⟨x, _, rfl⟩ := List.mem_map.1 hc; rfl
theorem c1_flat : ∀ (l : List Int), (l.map c1).flatten.map AV.val = l.map iv
  | [] => rfl
  | x :: l => by rw [List.map_cons, List.flatten_cons, List.map_append, c1_flat l]; rfl
theorem extL_succ (sh : Int) (ll : List (List Int)) {j : Nat} {l : List Int} (hl : ll[j]? = some l) : extL sh (ll.take (j + 1)) = extL sh (ll.take j) ++ (rngI 0 sh).map fun n => l ++ [n] := by
  rw [List.take_add_one, hl]
  simp [extL, List.flatMap_append]
theorem len_ext (sh : Int) (hs : 0 ≤ sh) (hs2 : sh ≤ 10) : ∀ (ll : List (List Int)), (extL sh ll).length = ll.length * (sh + 1).toNat
  | [] => by simp [extL]
  | l :: ll => by
    have := len_ext sh hs hs2 ll
    simp only [extL] at this
    simp only [extL, List.flatMap_cons, List.length_append, this, List.length_map, List.length_cons, Nat.add_mul]
    simp [rngI]; omega
theorem len_all (sh : Int) (hs : 0 ≤ sh) (hs2 : sh ≤ 10) : ∀ (k : Nat), k ≤ 3 → (allL sh k).length ≤ 1331
  | 0, _ => by simp [allL]
  | 1, _ => by simp only [allL, len_ext sh hs hs2, List.length_cons, List.length_nil]; omega
  | 2, _ => by
    have h : (sh + 1).toNat ≤ 11 := by omega
    have : (sh + 1).toNat * (sh + 1).toNat ≤ 11 * 11 := Nat.mul_le_mul h h
    simp only [allL, len_ext sh hs hs2, List.length_cons, List.length_nil, Nat.zero_add, Nat.one_mul]; omega
  | 3, _ => by
    have h : (sh + 1).toNat ≤ 11 := by omega
    have h1 : (sh + 1).toNat * (sh + 1).toNat ≤ 11 * 11 := Nat.mul_le_mul h h
    have : (sh + 1).toNat * (sh + 1).toNat * (sh + 1).toNat ≤ 11 * 11 * 11 := Nat.mul_le_mul h1 h
    simp only [allL, len_ext sh hs hs2, List.length_cons, List.length_nil, Nat.zero_add, Nat.one_mul]; omega
  | k + 4, h => by omega
/-- One list more, made of a copy. -/
theorem ext_step (xt : Addr → Option Value) (h : Hp) (N j : Nat) (a v : AV) (l : List Int) (ll : List (List Int)) (n : Int) (hN : N ≤ h.n) (ha : RowAt xt h 1 a (l.map c1)) (hl : l.length ≤ 3) (hr : LRows xt h N 1 23 v (cc ll)) (hll : ll.length ≤ 100000) :
    ∃ v1 h1 h2 v3 h3, abuiltin Tryz.prog tb xt .append [23, 23] [.val (.slice none 0 0), a] h = some (v1, h1) ∧ abuiltin Tryz.prog tb xt .append [23, 23] [v1, .sl h1.n 0 1 1] (h1.new (.cells [iv n] 3)) = some (.sl (h1.n + 1) 0 (l.length + 1) 1, h2) ∧
      abuiltin Tryz.prog tb xt .append [97, 97] [v, .sl h2.n 0 1 1] (h2.new (.cells [.sl (h1.n + 1) 0 (l.length + 1) 1] 23)) = some (v3, h3) ∧ LRows xt h3 N 1 23 v3 (cc (ll ++ [l ++ [n]])) ∧ Fr N h h3 := by
  have hsrc := ha.src
  obtain ⟨v1, h1, p1, p2, p3, p4⟩ := append_copy (P := Tryz.prog) (xt := xt) (h := h) (x := a) (l := l.map c1) (N := h.n) (Nat.le_refl _) tg23 rfl tg3 rfl rfl tg23 rfl (by rw [c1_flat, List.length_map]; exact hsrc) c1_sz (by simp [te3]; omega) (by simp; omega)
  have p2' := p2.new (.cells [iv n] 3)
  rw [List.length_map] at p2'
  obtain ⟨h2, q1, q2, q3, q4, q5⟩ := p2'.append2 (P := Tryz.prog) (xt := xt) (x := .sl h1.n 0 1 1) (m := 1) (cz := [iv n]) (by simp [Hp.new_n]; have := p3.le; omega) tg23 rfl tg3 rfl rfl tg23 rfl (src_own (e := 3) (by simp [Hp.new_t, T.get_put]) rfl rfl) (by omega) rfl (by simp [te3]; omega) (by omega)
  have e2 : (h1.new (.cells [iv n] 3)).n = h1.n + 1 := rfl
  rw [e2] at q1 q2 q5
  have f1 : Fr h.n h h2 := p3.trans (((Fr.refl p3.lo).new (.cells [iv n] 3)).trans q3 (Nat.le_refl _)) (Nat.le_refl _)
  have f2 := f1.new (.cells [.sl (h1.n + 1) 0 (l.length + 1) 1] 23)
  have row : RowAt xt h2 1 (.sl (h1.n + 1) 0 (l.length + 1) 1) ((l ++ [n]).map c1) := by
    refine OwnSl.row (N := h.n) (e := 3) c1_sz (by omega) ?_
    rw [c1_flat, List.length_map, List.length_append, List.map_append]
    rw [c1_flat] at q2
    exact q2
  obtain ⟨v3, h3, r1, r2, r3, _⟩ := (hr.fr f2 (Nat.le_refl _)).append (P := Tryz.prog) (a := .sl (h1.n + 1) 0 (l.length + 1) 1) (x := .sl h2.n 0 1 1) (l := (l ++ [n]).map c1) (by simp [Hp.new_n]; have := f1.le; omega) tg97 rfl tg23 rfl rfl tg97 rfl
    (src_own (e := 23) (by simp [Hp.new_t, T.get_put]) rfl rfl) (row.new _) (fun b off k s hb off' k' s' hq => by
      have := hr.lt hq
      cases hb
      have := p3.le
      omega) (by simp [te23, cc]; omega) (by simp [cc]; omega)
  refine ⟨v1, h1, h2, v3, h3, p1, q1, r1, ?_, ((f2.lower hN).trans r3 (Nat.le_refl _))⟩
  simpa [cc] using r2
end Go.Proofs.Kn
namespace Go.Proofs.Kn
open Go Go.Ev
set_option maxRecDepth 100000
theorem ft45 (xt : Addr → Option Value) : (SE xt).ft.get 45 = some Tryz.f45 := by kernel_rfl
theorem res45 : Tryz.f45.results.toList = [.tmp 2] := by kernel_rfl
/-- What 'Truths' of the reference comes to. -/
def TruthsR (xt : Addr → Option Value) (s : Sk) (h : Hp) (r : CR) (h' : Hp) : Prop := ∃ v, r = .ret v ∧ Fr h.n h h' ∧ LRows xt h' h.n 1 23 v (cc s.rtruths)
theorem cc_get {ll : List (List Int)} {i : Nat} {l : List Int} (h : ll[i]? = some l) : (cc ll)[i]? = some (l.map c1) := by simp [cc, h]
theorem rtruths_c (xt : Addr → Option Value) (h : Hp) (s : Sk) (ha : s.At xt h) (hok : s.rok = true) : FnA (SE xt) 45 [s.av] h (TruthsR xt s h) := by
  have g := Sk.good (by rw [← Sk.rok_ok]; exact hok)
  have gs1 := g.sh1
  have gs2 := g.sh2
  have gl1 := g.l1
  have gl2 := g.l2
  have gle := g.le
  refine FnA.walk (sok xt) (ft45 xt) rfl 62 rfl ?_
  have ha1 := ha.new (.cells s.cells 25)
  have hlenS := fun h' => ha.sorts.len (h' := h') tg22 rfl
  simp only [List.length_map] at hlenS
  refine seq_reg fun K hn hp => ?_
  simp only [sy, argsTo, cellPut_some, Nat.reduceEqDiff, reduceIte, Nat.reduceLT, Nat.reduceAdd, Nat.reduceMul, Nat.reduceLeDiff]
  refine hn _ _ ?_
  clear hn hp K
  refine seq_reg fun K hn hp => ?_
  simp only [sy, argsTo, cellPut_some, Nat.reduceEqDiff, reduceIte, Nat.reduceLT, Nat.reduceAdd, Nat.reduceMul, Nat.reduceLeDiff, WOp_buildSlice, bs97n]
  refine hn _ _ ?_
  clear hn hp K
  refine seq_seq ?_
  refine seq_reg fun K hn hp => ?_
  simp only [sy, argsTo, cellPut_some, Nat.reduceEqDiff, reduceIte, Nat.reduceLT, Nat.reduceAdd, Nat.reduceMul, Nat.reduceLeDiff]
  refine hn _ _ ?_
  clear hn hp K
  refine seq_block fun K k1 k2 k3 k4 k5 => ?_
  obtain ⟨hb, hhb⟩ : ∃ hb : Hp, hb = (h.new (.cells s.cells 25)).new (.cells [.val (.slice none 0 0)] 23) := ⟨_, rfl⟩
  rw [← hhb]
  have hbn : hb.n = h.n + 2 := by rw [hhb]; rfl
  have qb0 : hb.t.get h.n = some (.cells s.cells 25) := by rw [hhb]; simp [Hp.new_t, Hp.new_n, T.get_put]
  have hab : s.At xt hb := by rw [hhb]; exact ha1.new _
  have frb : Fr h.n h hb := by rw [hhb]; exact ((Fr.refl (Nat.le_refl _)).new _).new _
  refine wpc_loop (sok xt) (fun st => ∃ (k : Nat) (v : AV) (tm : T AV) (hc : Hp), st = ⟨tm, 62, hc, []⟩ ∧ Fr (h.n + 1) hb hc ∧ k ≤ s.sorts.length ∧ tm.get 1 = some (.ptr h.n 0) ∧ tm.get 3 = some v ∧ tm.get 4 = some (iv k) ∧ LRows xt hc (h.n + 1) 1 23 v (cc (allL s.sh k)))
    (fun st => s.sorts.length - (match st.tm.get 4 with | some (.val (.int _ n)) => n.toNat | _ => 0)) ?_ ?_
  · rintro st ⟨k, v, tm, hc, rfl, fr, hk, g1, g3, g4, rows⟩
    have hlo := fr.lo
    have hle := fr.le
    have q0 : hc.t.get h.n = some (.cells s.cells 25) := by rw [fr.at_ _ (by omega)]; exact qb0
    have hac : s.At xt hc := by
      have : s.At xt h := ha
      exact ⟨this.sorts.fr (frb.trans (fr.lower (Nat.le_succ _)) (Nat.le_refl _)) (Nat.le_refl _), this.seen.fr (frb.trans (fr.lower (Nat.le_succ _)) (Nat.le_refl _)) (Nat.le_refl _), this.ls, this.le⟩
    refine seq_seq ?_
    refine seq_reg fun K hn hp => ?_
    simp only [sy, argsTo, cellPut_some, Nat.reduceEqDiff, reduceIte, Nat.reduceLT, Nat.reduceAdd, Nat.reduceMul, Nat.reduceLeDiff, g1, g4, q0, hlenS]
    refine hn _ _ ?_
    clear hn hp K
    have ht : (decide ((k : Int) < (s.sorts.length : Int))) = decide (k < s.sorts.length) := by simp
    by_cases hlt : k < s.sorts.length
    · refine seq_cond true (by simp only [sy, argsTo, cellPut_some, Nat.reduceEqDiff, reduceIte, Nat.reduceLT, Nat.reduceAdd, Nat.reduceMul, Nat.reduceLeDiff, ht, hlt]) (fun _ => ?_) (fun hx => by cases hx)
      refine seq_skip ?_
      refine seq_block fun K' k1' k2' k3' k4' k5' => ?_
      refine seq_reg fun K hn hp => ?_
      simp only [sy, argsTo, cellPut_some, Nat.reduceEqDiff, reduceIte, Nat.reduceLT, Nat.reduceAdd, Nat.reduceMul, Nat.reduceLeDiff]
      refine hn _ _ ?_
      clear hn hp K
      refine seq_seq ?_
      refine seq_reg fun K hn hp => ?_
      simp only [sy, argsTo, cellPut_some, Nat.reduceEqDiff, reduceIte, Nat.reduceLT, Nat.reduceAdd, Nat.reduceMul, Nat.reduceLeDiff]
      refine hn _ _ ?_
      clear hn hp K
      refine seq_block fun Kb kb1 kb2 kb3 kb4 kb5 => ?_
      obtain ⟨AL, hAL⟩ : ∃ AL, AL = allL s.sh k := ⟨_, rfl⟩
      rw [← hAL] at rows
      have hALl : AL.length ≤ 1331 := by rw [hAL]; exact len_all s.sh (by omega) (by omega) k (by omega)
      have hALe : (extL s.sh AL).length ≤ 1331 := by
        have := len_all s.sh (by omega) (by omega) (k + 1) (by omega)
        rw [hAL]; exact this
      have hALm : ∀ l ∈ AL, l.length = k := fun l hl => by rw [hAL] at hl; exact (mem_allL.1 hl).1
      refine wpc_loop (sok xt) (fun st => ∃ (j : Nat) (v5 : AV) (tm : T AV) (hd : Hp), st = ⟨tm, 62, hd, []⟩ ∧ Fr hc.n hc hd ∧ j ≤ AL.length ∧ tm.get 1 = some (.ptr h.n 0) ∧ tm.get 3 = some v ∧ tm.get 4 = some (iv k) ∧ tm.get 5 = some v5 ∧ tm.get 6 = some (iv j) ∧ LRows xt hd hc.n 1 23 v5 (cc (extL s.sh (AL.take j))))
        (fun st => AL.length - (match st.tm.get 6 with | some (.val (.int _ n)) => n.toNat | _ => 0)) ?_ ?_
      · rintro st ⟨j, v5, tmj, hd, rfl, frd, hj, j1, j3, j4, j5, j6, rows5⟩
        have hlod := frd.lo
        have rowsd := rows.fr frd (Nat.le_refl _)
        have hlenA := fun h' => rowsd.len (h' := h') tg97 rfl
        simp only [cc, List.length_map] at hlenA
        have q0d : hd.t.get h.n = some (.cells s.cells 25) := by rw [frd.at_ _ (by omega)]; exact q0
        refine seq_seq ?_
        refine seq_reg fun K hn hp => ?_
        simp only [sy, argsTo, cellPut_some, Nat.reduceEqDiff, reduceIte, Nat.reduceLT, Nat.reduceAdd, Nat.reduceMul, Nat.reduceLeDiff, j3, j6, hlenA]
        refine hn _ _ ?_
        clear hn hp K
        have htj : (decide ((j : Int) < (AL.length : Int))) = decide (j < AL.length) := by simp
        by_cases hjt : j < AL.length
        · obtain ⟨l, hl⟩ : ∃ l, AL[j]? = some l := ⟨_, List.getElem?_eq_getElem hjt⟩
          have hll := hALm l (List.mem_of_getElem? hl)
          refine seq_cond true (by simp only [sy, argsTo, cellPut_some, Nat.reduceEqDiff, reduceIte, Nat.reduceLT, Nat.reduceAdd, Nat.reduceMul, Nat.reduceLeDiff, htj, hjt]) (fun _ => ?_) (fun hx => by cases hx)
          refine seq_skip ?_
          refine seq_block fun Kc kc1 kc2 kc3 kc4 kc5 => ?_
          refine seq_reg fun K hn hp => ?_
          simp only [sy, argsTo, cellPut_some, Nat.reduceEqDiff, reduceIte, Nat.reduceLT, Nat.reduceAdd, Nat.reduceMul, Nat.reduceLeDiff]
          refine hn _ _ ?_
          clear hn hp K
          refine wpc_block fun Kd kd1 kd2 kd3 kd4 kd5 => ?_
          refine wpc_loop (sok xt) (fun st => ∃ (n : Nat) (v5 : AV) (tm : T AV) (he : Hp), st = ⟨tm, 62, he, []⟩ ∧ Fr hc.n hc he ∧ (n : Int) ≤ s.sh + 1 ∧ tm.get 1 = some (.ptr h.n 0) ∧ tm.get 3 = some v ∧ tm.get 4 = some (iv k) ∧ tm.get 5 = some v5 ∧ tm.get 6 = some (iv j) ∧ tm.get 7 = some (iv n) ∧
              LRows xt he hc.n 1 23 v5 (cc (extL s.sh (AL.take j) ++ (List.range n).map fun (m : Nat) => l ++ [(m : Int)])))
            (fun st => (s.sh + 1).toNat - (match st.tm.get 7 with | some (.val (.int _ n)) => n.toNat | _ => 0)) ?_ ?_
          · rintro st ⟨n, v5, tmn, he, rfl, fre, hn1, n1, n3, n4, n5, n6, n7, rowse⟩
            have hloe := fre.lo
            have q0e : he.t.get h.n = some (.cells s.cells 25) := by rw [fre.at_ _ (by omega)]; exact q0
            refine seq_seq ?_
            refine seq_reg fun K hn hp => ?_
            simp only [sy, argsTo, cellPut_some, Nat.reduceEqDiff, reduceIte, Nat.reduceLT, Nat.reduceAdd, Nat.reduceMul, Nat.reduceLeDiff, n1, n7, q0e]
            refine hn _ _ ?_
            clear hn hp K
            by_cases hnt : (n : Int) ≤ s.sh
            · refine seq_cond true (by simp only [sy, argsTo, cellPut_some, Nat.reduceEqDiff, reduceIte, Nat.reduceLT, Nat.reduceAdd, Nat.reduceMul, Nat.reduceLeDiff, hnt]) (fun _ => ?_) (fun hx => by cases hx)
              refine seq_skip ?_
              refine seq_block fun Ke ke1 ke2 ke3 ke4 ke5 => ?_
              obtain ⟨b, a, cs, z1, z2, z3, z4, z5, _, _⟩ := (rows.fr fre (Nat.le_refl _)).at_ tg97 rfl tg23 rfl (cc_get hl) (k := .i64)
              have hlenr : (extL s.sh (AL.take j) ++ (List.range n).map fun (m : Nat) => l ++ [(m : Int)]).length ≤ 2000 := by
                have e1 : (extL s.sh (AL.take j)).length ≤ 1331 := by
                  rw [len_ext s.sh (by omega) (by omega)] at hALe ⊢
                  refine Nat.le_trans (Nat.mul_le_mul_right _ ?_) hALe
                  rw [List.length_take]; omega
                simp only [List.length_append, List.length_map, List.length_range]; omega
              obtain ⟨v1, h1, h2, v3, h3, p1, p2, p3, p4, p5⟩ := ext_step xt he hc.n j a v5 l _ n fre.lo z4 (by omega) rowse (by omega)
              refine reg fun K1 hn hp => ?_
              simp only [sy, argsTo, cellPut_some, Nat.reduceEqDiff, reduceIte, Nat.reduceLT, Nat.reduceAdd, Nat.reduceMul, Nat.reduceLeDiff, n1, n3, n5, n6, n7, z1, z2, z3, WOp_buildSlice, p1, bs23, p2, bs97s, p3]
              refine hn _ _ (ke1 _ ?_)
              clear hn hp K1
              refine reg fun K1 hn hp => ?_
              have hw : IntKind.i64.wrap ((n : Int) + 1) = ((n + 1 : Nat) : Int) := by rw [wrap_i64 _ (by omega) (by omega)]; simp
              simp only [sy, argsTo, cellPut_some, Nat.reduceEqDiff, reduceIte, Nat.reduceLT, Nat.reduceAdd, Nat.reduceMul, Nat.reduceLeDiff, n7, hw]
              refine hn _ _ ?_
              refine ⟨⟨n + 1, v3, _, h3, rfl, fre.trans p5 (Nat.le_refl _), by omega, ?_, ?_, ?_, ?_, ?_, ?_, ?_⟩, ?_⟩
              · simp [T.get_put, n1]
              · simp [T.get_put, n3]
              · simp [T.get_put, n4]
              · simp [T.get_put]
              · simp [T.get_put, n6]
              · simp [T.get_put]
              · rw [List.range_succ, List.map_append, ← List.append_assoc]; exact p4
              · have hm : (s.sh + 1).toNat - (n + 1) < (s.sh + 1).toNat - n := by omega
                simpa [T.get_put, n7] using hm
            · refine seq_cond false (by simp only [sy, argsTo, cellPut_some, Nat.reduceEqDiff, reduceIte, Nat.reduceLT, Nat.reduceAdd, Nat.reduceMul, Nat.reduceLeDiff, hnt]) (fun hx => by cases hx) (fun _ => ?_)
              refine seq_exit (kd2 _ (kc1 _ ?_))
              have hnn : n = (s.sh + 1).toNat := by omega
              refine reg fun K1 hn hp => ?_
              have hw : IntKind.i64.wrap ((j : Int) + 1) = ((j + 1 : Nat) : Int) := by rw [wrap_i64 _ (by omega) (by omega)]; simp
              simp only [sy, argsTo, cellPut_some, Nat.reduceEqDiff, reduceIte, Nat.reduceLT, Nat.reduceAdd, Nat.reduceMul, Nat.reduceLeDiff, n6, hw]
              refine hn _ _ ?_
              refine ⟨⟨j + 1, v5, _, he, rfl, fre, hjt, ?_, ?_, ?_, ?_, ?_, ?_⟩, ?_⟩
              · simp [T.get_put, n1]
              · simp [T.get_put, n3]
              · simp [T.get_put, n4]
              · simp [T.get_put, n5]
              · simp [T.get_put]
              · have e : extL s.sh (AL.take (j + 1)) = extL s.sh (AL.take j) ++ (List.range n).map fun (m : Nat) => l ++ [(m : Int)] := by
                  rw [extL_succ s.sh AL hl, hnn]
                  simp [rngI]
                rw [e]; exact rowse
              · have hm : AL.length - (j + 1) < AL.length - j := by omega
                simpa [T.get_put, j6] using hm
          · refine ⟨0, v5, _, hd, rfl, frd, by omega, ?_, ?_, ?_, ?_, ?_, ?_, ?_⟩
            · simp [T.get_put, j1]
            · simp [T.get_put, j3]
            · simp [T.get_put, j4]
            · simp [T.get_put, j5]
            · simp [T.get_put, j6]
            · simp [T.get_put]
            · simpa using rows5
        · refine seq_cond false (by simp only [sy, argsTo, cellPut_some, Nat.reduceEqDiff, reduceIte, Nat.reduceLT, Nat.reduceAdd, Nat.reduceMul, Nat.reduceLeDiff, htj, hjt]) (fun hx => by cases hx) (fun _ => ?_)
          refine seq_exit (kb2 _ ?_)
          have hjj : j = AL.length := by omega
          subst hjj
          rw [List.take_length] at rows5
          refine reg fun K1 hn hp => ?_
          simp only [sy, argsTo, cellPut_some, Nat.reduceEqDiff, reduceIte, Nat.reduceLT, Nat.reduceAdd, Nat.reduceMul, Nat.reduceLeDiff, j5]
          refine hn _ _ (k1' _ ?_)
          clear hn hp K1
          refine reg fun K1 hn hp => ?_
          have hw : IntKind.i64.wrap ((k : Int) + 1) = ((k + 1 : Nat) : Int) := by rw [wrap_i64 _ (by omega) (by omega)]; simp
          simp only [sy, argsTo, cellPut_some, Nat.reduceEqDiff, reduceIte, Nat.reduceLT, Nat.reduceAdd, Nat.reduceMul, Nat.reduceLeDiff, j4, hw]
          refine hn _ _ ?_
          refine ⟨⟨k + 1, v5, _, hd, rfl, fr.trans frd (by omega), hlt, ?_, ?_, ?_, ?_⟩, ?_⟩
          · simp [T.get_put, j1]
          · simp [T.get_put]
          · simp [T.get_put]
          · have e : allL s.sh (k + 1) = extL s.sh AL := by rw [hAL]; rfl
            rw [e]; exact rows5.weaken (by omega)
          · have hm : s.sorts.length - (k + 1) < s.sorts.length - k := by omega
            simpa [T.get_put, g4] using hm
      · refine ⟨0, .val (.slice none 0 0), _, hc, rfl, Fr.refl (Nat.le_refl _), Nat.zero_le _, ?_, ?_, ?_, ?_, ?_, ?_⟩
        · simp [T.get_put, g1]
        · simp [T.get_put, g3]
        · simp [T.get_put, g4]
        · simp [T.get_put]
        · simp [T.get_put]
        · exact LRows.nil
    · refine seq_cond false (by simp only [sy, argsTo, cellPut_some, Nat.reduceEqDiff, reduceIte, Nat.reduceLT, Nat.reduceAdd, Nat.reduceMul, Nat.reduceLeDiff, ht, hlt]) (fun hx => by cases hx) (fun _ => ?_)
      refine seq_exit (k2 _ ?_)
      have hkk : k = s.sorts.length := by omega
      subst hkk
      obtain ⟨AL, hAL⟩ : ∃ AL, AL = allL s.sh s.sorts.length := ⟨_, rfl⟩
      rw [← hAL] at rows
      have hALl : AL.length ≤ 1331 := by rw [hAL]; exact len_all s.sh (by omega) (by omega) _ (by omega)
      have hALm : ∀ l ∈ AL, l.length = s.sorts.length := fun l hl => by rw [hAL] at hl; exact (mem_allL.1 hl).1
      refine seq_reg fun K hn hp => ?_
      simp only [sy, argsTo, cellPut_some, Nat.reduceEqDiff, reduceIte, Nat.reduceLT, Nat.reduceAdd, Nat.reduceMul, Nat.reduceLeDiff]
      refine hn _ _ ?_
      clear hn hp K
      refine seq_seq ?_
      refine seq_reg fun K hn hp => ?_
      simp only [sy, argsTo, cellPut_some, Nat.reduceEqDiff, reduceIte, Nat.reduceLT, Nat.reduceAdd, Nat.reduceMul, Nat.reduceLeDiff]
      refine hn _ _ ?_
      clear hn hp K
      refine seq_block fun K' k1' k2' k3' k4' k5' => ?_
      refine wpc_loop (sok xt) (fun st => ∃ (j : Nat) (v8 : AV) (tm : T AV) (hd : Hp), st = ⟨tm, 62, hd, []⟩ ∧ Fr hc.n hc hd ∧ j ≤ AL.length ∧ tm.get 1 = some (.ptr h.n 0) ∧ tm.get 3 = some v ∧ tm.get 8 = some v8 ∧ tm.get 9 = some (iv j) ∧ LRows xt hd hc.n 1 23 v8 (cc ((AL.take j).filter s.rholds)))
        (fun st => AL.length - (match st.tm.get 9 with | some (.val (.int _ n)) => n.toNat | _ => 0)) ?_ ?_
      · rintro st ⟨j, v8, tmj, hd, rfl, frd, hj, j1, j3, j8, j9, rows8⟩
        have hlod := frd.lo
        have rowsd := rows.fr frd (Nat.le_refl _)
        have hlenA := fun h' => rowsd.len (h' := h') tg97 rfl
        simp only [cc, List.length_map] at hlenA
        have q0d : hd.t.get h.n = some (.cells s.cells 25) := by rw [frd.at_ _ (by omega)]; exact q0
        have had : s.At xt hd := hac.fr frd (Nat.le_refl _)
        refine seq_seq ?_
        refine seq_reg fun K hn hp => ?_
        simp only [sy, argsTo, cellPut_some, Nat.reduceEqDiff, reduceIte, Nat.reduceLT, Nat.reduceAdd, Nat.reduceMul, Nat.reduceLeDiff, j3, j9, hlenA]
        refine hn _ _ ?_
        clear hn hp K
        have htj : (decide ((j : Int) < (AL.length : Int))) = decide (j < AL.length) := by simp
        by_cases hjt : j < AL.length
        · obtain ⟨l, hl⟩ : ∃ l, AL[j]? = some l := ⟨_, List.getElem?_eq_getElem hjt⟩
          have hll := hALm l (List.mem_of_getElem? hl)
          obtain ⟨b, a, cs, z1, z2, z3, z4, z5, z6, z7⟩ := rowsd.at_ tg97 rfl tg23 rfl (cc_get hl) (k := .i64)
          refine seq_cond true (by simp only [sy, argsTo, cellPut_some, Nat.reduceEqDiff, reduceIte, Nat.reduceLT, Nat.reduceAdd, Nat.reduceMul, Nat.reduceLeDiff, htj, hjt]) (fun _ => ?_) (fun hx => by cases hx)
          refine seq_skip ?_
          refine seq_block fun Kc kc1 kc2 kc3 kc4 kc5 => ?_
          refine seq_regD (sok xt) 6 (by kernel_rfl) fun K1 hn hp => ?_
          simp only [sy, argsTo, cellPut_some, Nat.reduceEqDiff, reduceIte, Nat.reduceLT, Nat.reduceAdd, Nat.reduceMul, Nat.reduceLeDiff, j1, j3, j9, q0d, z1, z2, z3]
          refine callA_func (sok xt) (rholds_c xt _ s had a l z4 (by omega) (by omega) fun m1 hm1 => ?_)
          simp only [sy, argsTo, cellPut_some, Nat.reduceEqDiff, reduceIte, Nat.reduceLT, Nat.reduceAdd, Nat.reduceMul, Nat.reduceLeDiff, WOCn_t (h := hd) hm1]
          refine hn _ _ ?_
          clear hn hp K1
          have htk : AL.take (j + 1) = AL.take j ++ [l] := by rw [List.take_add_one, hl]; rfl
          have hw : IntKind.i64.wrap ((j : Int) + 1) = ((j + 1 : Nat) : Int) := by rw [wrap_i64 _ (by omega) (by omega)]; simp
          cases hq : s.rholds l
          · refine wpc_cond false (by simp only [sy, argsTo, cellPut_some, Nat.reduceEqDiff, reduceIte, Nat.reduceLT, Nat.reduceAdd, Nat.reduceMul, Nat.reduceLeDiff]) (fun hx => by cases hx) (fun _ => ?_)
            refine wpc_skip (kc1 _ ?_)
            refine reg fun K1 hn hp => ?_
            simp only [sy, argsTo, cellPut_some, Nat.reduceEqDiff, reduceIte, Nat.reduceLT, Nat.reduceAdd, Nat.reduceMul, Nat.reduceLeDiff, j9, hw]
            refine hn _ _ ?_
            refine ⟨⟨j + 1, v8, _, hd.up m1, rfl, frd.up (Nat.le_of_lt hm1), hjt, ?_, ?_, ?_, ?_, ?_⟩, ?_⟩
            · simp [T.get_put, j1]
            · simp [T.get_put, j3]
            · simp [T.get_put, j8]
            · simp [T.get_put]
            · rw [htk, List.filter_append]
              simp only [List.filter_cons, hq, List.filter_nil, Bool.false_eq_true, if_false, List.append_nil]
              exact rows8.up (Nat.le_of_lt hm1)
            · have hm : AL.length - (j + 1) < AL.length - j := by omega
              simpa [T.get_put, j9] using hm
          · refine wpc_cond true (by simp only [sy, argsTo, cellPut_some, Nat.reduceEqDiff, reduceIte, Nat.reduceLT, Nat.reduceAdd, Nat.reduceMul, Nat.reduceLeDiff]) (fun _ => ?_) (fun hx => by cases hx)
            have hfl : ((AL.take j).filter s.rholds).length ≤ 1331 := by
              refine Nat.le_trans (List.length_filter_le _ _) ?_
              rw [List.length_take]; omega
            obtain ⟨v', h', y1, y2, y3, y4, _⟩ := ((rows8.up (Nat.le_of_lt hm1)).new (.cells [a] 23)).append (P := Tryz.prog) (a := a) (x := .sl m1 0 1 1) (l := l.map c1) (by simp [Hp.new_n]; omega) tg97 rfl tg23 rfl rfl tg97 rfl
              (src_own (e := 23) (by simp [Hp.new_t, T.get_put]) rfl (by simp [z4.one])) ((z4.up (Nat.le_of_lt hm1)).new _) (fun b' off k' s' hb off' k'' s'' hq' => by
                have e1 := (rows.at_ tg97 rfl tg23 rfl (cc_get hl) (k := .i64))
                obtain ⟨b2, a2, cs2, w1, w2, w3, w4, w5, _, w7⟩ := e1
                have hbb : b2 = b := by rw [z1] at w1; simpa using w1.symm
                subst hbb
                rw [frd.at_ _ (.inl w5), w2] at z2
                cases z2
                rw [w3] at z3
                cases z3
                have := w4.lt hb
                have := rows8.lt hq'
                omega) (by simp [te23, cc]; omega) (by simp [cc]; omega)
            refine reg fun K1 hn hp => ?_
            simp only [sy, argsTo, cellPut_some, Nat.reduceEqDiff, reduceIte, Nat.reduceLT, Nat.reduceAdd, Nat.reduceMul, Nat.reduceLeDiff, j3, j8, j9, z1, z2, z3, WOp_buildSlice, bs97 _ z4.cells, y1]
            refine hn _ _ (kc1 _ ?_)
            clear hn hp K1
            refine reg fun K1 hn hp => ?_
            simp only [sy, argsTo, cellPut_some, Nat.reduceEqDiff, reduceIte, Nat.reduceLT, Nat.reduceAdd, Nat.reduceMul, Nat.reduceLeDiff, j9, hw]
            refine hn _ _ ?_
            refine ⟨⟨j + 1, v', _, h', rfl, ((frd.up (Nat.le_of_lt hm1)).new _).trans y3 (Nat.le_refl _), hjt, ?_, ?_, ?_, ?_, ?_⟩, ?_⟩
            · simp [T.get_put, j1]
            · simp [T.get_put, j3]
            · simp [T.get_put]
            · simp [T.get_put]
            · rw [htk, List.filter_append]
              simp only [List.filter_cons, hq, List.filter_nil, if_true]
              simpa [cc] using y2
            · have hm : AL.length - (j + 1) < AL.length - j := by omega
              simpa [T.get_put, j9] using hm
        · refine seq_cond false (by simp only [sy, argsTo, cellPut_some, Nat.reduceEqDiff, reduceIte, Nat.reduceLT, Nat.reduceAdd, Nat.reduceMul, Nat.reduceLeDiff, htj, hjt]) (fun hx => by cases hx) (fun _ => ?_)
          refine seq_exit (k2' _ ?_)
          refine seq_reg fun K hn hp => ?_
          simp only [sy, argsTo, cellPut_some, Nat.reduceEqDiff, reduceIte, Nat.reduceLT, Nat.reduceAdd, Nat.reduceMul, Nat.reduceLeDiff, j8]
          refine hn _ _ ?_
          clear hn hp K
          have hjj : j = AL.length := by omega
          subst hjj
          rw [List.take_length] at rows8
          refine wpc_ret (end_1 res45 ⟨v8, ?_, (frb.trans (fr.lower (Nat.le_succ _)) (Nat.le_refl _)).trans frd (by omega), ?_⟩)
          · simp [T.get_put]
          · have e : s.rtruths = AL.filter s.rholds := by rw [hAL]; rfl
            rw [e]; exact rows8.weaken (by omega)
      · refine ⟨0, .val (.slice none 0 0), _, hc, rfl, Fr.refl (Nat.le_refl _), Nat.zero_le _, ?_, ?_, ?_, ?_, ?_⟩
        · simp [T.get_put, g1]
        · simp [T.get_put, g3]
        · simp [T.get_put]
        · simp [T.get_put]
        · exact LRows.nil
  · refine ⟨0, .sl (h.n + 1) 0 1 1, _, hb, rfl, Fr.refl (by omega), Nat.zero_le _, ?_, ?_, ?_, ?_⟩
    · simp [T.get_put]
    · simp [T.get_put, Hp.new_n]
    · simp [T.get_put]
    · refine ⟨[.val (.slice none 0 0)], .inr ⟨h.n + 1, rfl, by omega, by omega, by rw [hhb]; simp [Hp.new_t, Hp.new_n, T.get_put], rfl⟩, fun i l hl => ?_⟩
      cases i with
      | zero =>
        simp [allL, cc] at hl
        subst hl
        exact ⟨_, rfl, ⟨by simp, by omega, .inl ⟨rfl, rfl⟩⟩, fun b off n s hq => by cases hq⟩
      | succ i => simp [allL, cc] at hl
end Go.Proofs.Kn
namespace Go.Proofs.Kn
open Go Go.Ev
set_option maxRecDepth 100000
theorem ft24 (xt : Addr → Option Value) : (SE xt).ft.get 24 = some Tryz.f24 := by kernel_rfl
theorem res24 : Tryz.f24.results.toList = [.cell 2 36] := by kernel_rfl
theorem fold_drop {α β : Type} {f : β → α → β} {l : List α} {k : Nat} {x : α} (hx : l[k]? = some x) (a : β) : (l.drop k).foldl f a = (l.drop (k + 1)).foldl f (f a x) := by
  obtain ⟨h1, rfl⟩ := List.getElem?_eq_some_iff.1 hx
  rw [List.drop_eq_getElem_cons h1]; rfl
theorem rends_drop (g : List Int → Int) {ll : List (List Int)} {l : List Int} (h : ll[0]? = some l) : rends g ll = (ll.drop 1).foldl (fun a l => rendStep a (g l)) (g l, g l) := by
  cases ll with
  | nil => simp at h
  | cons x ll => simp only [List.getElem?_cons_zero, Option.some.injEq] at h; subst h; rfl
theorem len_rtruths {s : Sk} (g : s.Good) : s.rtruths.length ≤ 1331 := by
  have h1 := g.sh1
  refine Nat.le_trans (List.length_filter_le _ _) (len_all s.sh (by omega) g.sh2 _ g.l2)
/-- A row of some lists, at index 0. -/
theorem rtotal_c (xt : Addr → Option Value) (h : Hp) (s : Sk) (ha : s.At xt h) (hok : s.rok = true) (hne : s.rtruths ≠ []) {K : CR → Hp → Prop} (hk : ∀ n, h.n < n → K (.ret (.agg [iv (rends (fun l => s.blanks (fnOf l)) s.rtruths).1, iv (rends (fun l => s.blanks (fnOf l)) s.rtruths).2])) (h.up n)) : FnA (SE xt) 24 [s.av] h K := by
  refine FnA.calm ?_ hk
  clear hk K
  have g := Sk.good (by rw [← Sk.rok_ok]; exact hok)
  refine FnA.walk (sok xt) (ft24 xt) rfl 42 rfl ?_
  have hm0 : ∀ l ∈ s.rtruths, l.length = s.sorts.length := fun l hl => (Sk.mem_rtruths.1 hl).1
  have hlen0 := len_rtruths g
  obtain ⟨ll, hll⟩ : ∃ ll, ll = s.rtruths := ⟨_, rfl⟩
  rw [← hll] at hne hm0 hlen0 ⊢
  obtain ⟨l0, hl0⟩ : ∃ l, ll[0]? = some l := ⟨_, List.getElem?_eq_getElem (by cases ll with | nil => exact absurd rfl hne | cons x l => simp)⟩
  have hl0m := hm0 l0 (List.mem_of_getElem? hl0)
  have ha1 := (ha.new (.cells s.cells 25)).new (.cells [iv 0, iv 0] 36)
  refine seq_reg fun K hn hp => ?_
  simp only [sy, argsTo, cellPut_some, Nat.reduceEqDiff, reduceIte, Nat.reduceLT, Nat.reduceAdd, Nat.reduceMul, Nat.reduceLeDiff]
  refine hn _ _ ?_
  clear hn hp K
  obtain ⟨h1, hh1⟩ : ∃ h1 : Hp, h1 = (h.new (.cells s.cells 25)).new (.cells [iv 0, iv 0] 36) := ⟨_, rfl⟩
  rw [← hh1] at ha1 ⊢
  have n1 : h1.n = h.n + 2 := by rw [hh1]; rfl
  have q0 : h1.t.get h.n = some (.cells s.cells 25) := by rw [hh1]; simp [Hp.new_t, Hp.new_n, T.get_put]
  have q1 : h1.t.get (h.n + 1) = some (.cells [iv 0, iv 0] 36) := by rw [hh1]; simp [Hp.new_t, Hp.new_n, T.get_put]
  have fr1 : Fr h.n h h1 := by rw [hh1]; exact ((Fr.refl (Nat.le_refl _)).new _).new _
  refine seq_reg fun K1 hn hp => ?_
  simp only [sy, argsTo, cellPut_some, Nat.reduceEqDiff, reduceIte, Nat.reduceLT, Nat.reduceAdd, Nat.reduceMul, Nat.reduceLeDiff, q0]
  refine callA_func (sok xt) ((rtruths_c xt _ s ha1 hok).mono ?_)
  rintro r h2 ⟨v, rfl, fr2, rows⟩
  rw [← hll] at rows
  simp only [sy, argsTo, cellPut_some, Nat.reduceEqDiff, reduceIte, Nat.reduceLT, Nat.reduceAdd, Nat.reduceMul, Nat.reduceLeDiff]
  refine hn _ _ ?_
  clear hn hp K1
  have hlo2 := fr2.lo
  have q02 : h2.t.get h.n = some (.cells s.cells 25) := by rw [fr2.at_ _ (by omega)]; exact q0
  have q12 : h2.t.get (h.n + 1) = some (.cells [iv 0, iv 0] 36) := by rw [fr2.at_ _ (by omega)]; exact q1
  have ha2 := ha1.fr fr2 (Nat.le_refl _)
  obtain ⟨b, a, cs, z1, z2, z3, z4, z5, z6, z7⟩ := rows.at_ tg97 rfl tg23 rfl (cc_get hl0) (k := .i64)
  have z1 : aindexAddr tb 97 v (.val (.int .i64 0)) = some (.ptr b 0) := z1
  refine seq_regDA (sok xt) 11 (by kernel_rfl) fun K1 hn hp => ?_
  simp only [sy, argsTo, cellPut_some, Nat.reduceEqDiff, reduceIte, Nat.reduceLT, Nat.reduceAdd, Nat.reduceMul, Nat.reduceLeDiff, q02, z1, z2, z3]
  refine callA_func (sok xt) (rblanks_c xt _ s ha2 a l0 z4 hl0m fun m1 hm1 => ?_)
  simp only [sy, argsTo, cellPut_some, Nat.reduceEqDiff, reduceIte, Nat.reduceLT, Nat.reduceAdd, Nat.reduceMul, Nat.reduceLeDiff, WOCn_t (h := h2) hm1, q02, z1, z2, z3]
  refine callA_func (sok xt) (rblanks_c xt _ s (ha2.up (Nat.le_of_lt hm1)) a l0 (z4.up (Nat.le_of_lt hm1)) hl0m fun m2 hm2 => ?_)
  simp only [Hp.up_n] at hm2
  simp only [sy, argsTo, cellPut_some, Nat.reduceEqDiff, reduceIte, Nat.reduceLT, Nat.reduceAdd, Nat.reduceMul, Nat.reduceLeDiff, WOCn_t (h := h2.up m1) hm2, bd36b]
  simp only [Hp.up_up]
  refine hn _ _ ?_
  clear hn hp K1
  refine seq_seq ?_
  refine seq_reg fun K hn hp => ?_
  simp only [sy, argsTo, cellPut_some, Nat.reduceEqDiff, reduceIte, Nat.reduceLT, Nat.reduceAdd, Nat.reduceMul, Nat.reduceLeDiff]
  refine hn _ _ ?_
  clear hn hp K
  refine seq_block fun K k1 k2 k3 k4 k5 => ?_
  obtain ⟨B, hB⟩ : ∃ B : Int, B = s.blanks (fun i => l0.getD i 0) := ⟨_, rfl⟩
  rw [← hB]
  have hfin : rends (fun l => s.blanks (fnOf l)) ll = (ll.drop 1).foldl (fun a l => rendStep a (s.blanks (fnOf l))) (B, B) := by rw [rends_drop _ hl0, hB]
  refine wpc_loop (sok xt) (fun st => ∃ (k : Nat) (p : Int × Int) (tm : T AV) (hd : Hp), st = ⟨tm, 42, hd, []⟩ ∧ Fr h2.n h2 hd ∧ 1 ≤ k ∧ k ≤ ll.length ∧ m2 < hd.n ∧ hd.t.get m2 = some (.cells [iv p.1, iv p.2] 36) ∧ tm.get 1 = some (.ptr h.n 0) ∧ tm.get 2 = some (.ptr (h.n + 1) 0) ∧ tm.get 3 = some v ∧ tm.get 4 = some (.ptr m2 0) ∧ tm.get 5 = some (iv k) ∧
      rends (fun l => s.blanks (fnOf l)) ll = (ll.drop k).foldl (fun a l => rendStep a (s.blanks (fnOf l))) p)
    (fun st => ll.length - (match st.tm.get 5 with | some (.val (.int _ n)) => n.toNat | _ => 0)) ?_ ?_
  · rintro st ⟨k, p, tm, hd, rfl, frd, hk1, hk, hmd, qm, g1, g2, g3, g4, g5, hfi⟩
    have hlod := frd.lo
    have rowsd := rows.fr frd (Nat.le_refl _)
    have hlenA := fun h' => rowsd.len (h' := h') tg97 rfl
    simp only [cc, List.length_map] at hlenA
    have q0d : hd.t.get h.n = some (.cells s.cells 25) := by rw [frd.at_ _ (by omega)]; exact q02
    have q1d : hd.t.get (h.n + 1) = some (.cells [iv 0, iv 0] 36) := by rw [frd.at_ _ (by omega)]; exact q12
    have had := ha2.fr frd (Nat.le_refl _)
    refine seq_seq ?_
    refine seq_reg fun K hn hp => ?_
    simp only [sy, argsTo, cellPut_some, Nat.reduceEqDiff, reduceIte, Nat.reduceLT, Nat.reduceAdd, Nat.reduceMul, Nat.reduceLeDiff, g3, g5, hlenA]
    refine hn _ _ ?_
    clear hn hp K
    have ht : (decide ((k : Int) < (ll.length : Int))) = decide (k < ll.length) := by simp
    by_cases hlt : k < ll.length
    · obtain ⟨l, hl⟩ : ∃ l, ll[k]? = some l := ⟨_, List.getElem?_eq_getElem hlt⟩
      have hlm := hm0 l (List.mem_of_getElem? hl)
      obtain ⟨b, a, cs, z1, z2, z3, z4, z5, z6, z7⟩ := rowsd.at_ tg97 rfl tg23 rfl (cc_get hl) (k := .i64)
      refine seq_cond true (by simp only [sy, argsTo, cellPut_some, Nat.reduceEqDiff, reduceIte, Nat.reduceLT, Nat.reduceAdd, Nat.reduceMul, Nat.reduceLeDiff, ht, hlt]) (fun _ => ?_) (fun hx => by cases hx)
      refine seq_skip ?_
      refine seq_block fun K' k1' k2' k3' k4' k5' => ?_
      refine seq_regD (sok xt) 7 (by kernel_rfl) fun K1 hn hp => ?_
      simp only [sy, argsTo, cellPut_some, Nat.reduceEqDiff, reduceIte, Nat.reduceLT, Nat.reduceAdd, Nat.reduceMul, Nat.reduceLeDiff, g1, g3, g5, q0d, z1, z2, z3]
      refine callA_func (sok xt) (rblanks_c xt _ s had a l z4 hlm fun m3 hm3 => ?_)
      simp only [sy, argsTo, cellPut_some, Nat.reduceEqDiff, reduceIte, Nat.reduceLT, Nat.reduceAdd, Nat.reduceMul, Nat.reduceLeDiff, WOCn_t (h := hd) hm3]
      refine hn _ _ ?_
      clear hn hp K1
      refine reg fun K1 hn hp => ?_
      simp only [sy, argsTo, cellPut_some, Nat.reduceEqDiff, reduceIte, Nat.reduceLT, Nat.reduceAdd, Nat.reduceMul, Nat.reduceLeDiff, g4, qm, bd36b]
      refine hn _ _ (k1' _ ?_)
      clear hn hp K1
      refine reg fun K1 hn hp => ?_
      have hw : IntKind.i64.wrap ((k : Int) + 1) = ((k + 1 : Nat) : Int) := by rw [wrap_i64 _ (by omega) (by omega)]; simp
      simp only [sy, argsTo, cellPut_some, Nat.reduceEqDiff, reduceIte, Nat.reduceLT, Nat.reduceAdd, Nat.reduceMul, Nat.reduceLeDiff, g5, hw]
      refine hn _ _ ?_
      have hmn : h2.n ≤ m2 := by omega
      refine ⟨⟨k + 1, rendStep p (s.blanks (fnOf l)), _, _, rfl, (frd.up (Nat.le_of_lt hm3)).set hmn (by simp; omega) _, by omega, hlt, by simp [Hp.set_n]; omega, by rw [Hp.set_t, T.get_put, if_pos rfl]; rfl, ?_, ?_, ?_, ?_, ?_, by rw [hfi, fold_drop hl]⟩, ?_⟩
      · simp [T.get_put, g1]
      · simp [T.get_put, g2]
      · simp [T.get_put, g3]
      · simp [T.get_put, g4]
      · simp [T.get_put]
      · have hm : ll.length - (k + 1) < ll.length - k := by omega
        simpa [T.get_put, g5] using hm
    · refine seq_cond false (by simp only [sy, argsTo, cellPut_some, Nat.reduceEqDiff, reduceIte, Nat.reduceLT, Nat.reduceAdd, Nat.reduceMul, Nat.reduceLeDiff, ht, hlt]) (fun hx => by cases hx) (fun _ => ?_)
      refine seq_exit (k2 _ ?_)
      have hnil : ll.drop k = [] := List.drop_eq_nil_of_le (by omega)
      rw [hnil] at hfi
      simp only [List.foldl_nil] at hfi
      rw [hfi]
      refine seq_reg fun K hn hp => ?_
      simp only [sy, argsTo, cellPut_some, Nat.reduceEqDiff, reduceIte, Nat.reduceLT, Nat.reduceAdd, Nat.reduceMul, Nat.reduceLeDiff, g2, g4, qm, q1d]
      refine hn _ _ ?_
      clear hn hp K
      refine wpc_ret (end_c res24 (by simp only [sy, argsTo, cellPut_some, Nat.reduceEqDiff, reduceIte, Nat.reduceLT, Nat.reduceAdd, Nat.reduceMul, Nat.reduceLeDiff, g2]) ⟨rfl, ?_⟩)
      exact ((fr1.trans fr2 (by omega)).trans frd (by omega)).set (by omega) (by omega) _
  · refine ⟨1, (B, B), _, _, rfl, ((Fr.refl (Nat.le_refl _)).up (by omega)).new _ |>.set (by omega) (by simp [Hp.new_n]) _, Nat.le_refl _, ?_, by simp [Hp.new_n, Hp.set_n], by simp [Hp.set_t, T.get_put], ?_, ?_, ?_, ?_, ?_, hfin⟩
    · cases ll with
      | nil => exact absurd rfl hne
      | cons x l => simp
    all_goals simp [T.get_put]
end Go.Proofs.Kn
namespace Go.Proofs.Kn
open Go Go.Ev
set_option maxRecDepth 100000
theorem ft23 (xt : Addr → Option Value) : (SE xt).ft.get 23 = some Tryz.f23 := by kernel_rfl
theorem res23 : Tryz.f23.results.toList = [.tmp 2] := by kernel_rfl
def Sk.rspans (s : Sk) : List (Int × Int) := (List.range s.sorts.length).map fun i => rends (fun l => l.getD i 0) s.rtruths
/-- What 'Sorts' of the reference comes to. -/
def RSortsR (xt : Addr → Option Value) (s : Sk) (h : Hp) (r : CR) (h' : Hp) : Prop := ∃ v, r = .ret v ∧ Fr h.n h h' ∧ RowAt xt h' 2 v (s.rspans.map c2)
theorem rsorts_c (xt : Addr → Option Value) (h : Hp) (s : Sk) (ha : s.At xt h) (hok : s.rok = true) (hne : s.rtruths ≠ []) : FnA (SE xt) 23 [s.av] h (RSortsR xt s h) := by
  have g := Sk.good (by rw [← Sk.rok_ok]; exact hok)
  have gl2 := g.l2
  refine FnA.walk (sok xt) (ft23 xt) rfl 62 rfl ?_
  have hm0 : ∀ l ∈ s.rtruths, l.length = s.sorts.length := fun l hl => (Sk.mem_rtruths.1 hl).1
  have hlen0 := len_rtruths g
  have hsp : s.rspans.map c2 = spK (fun i => rends (fun l => l.getD i 0) s.rtruths) s.sorts.length := by simp [Sk.rspans, spK]
  unfold RSortsR
  rw [hsp]
  obtain ⟨ll, hll⟩ : ∃ ll, ll = s.rtruths := ⟨_, rfl⟩
  rw [← hll] at hne hm0 hlen0 ⊢
  obtain ⟨l0, hl0⟩ : ∃ l, ll[0]? = some l := ⟨_, List.getElem?_eq_getElem (by cases ll with | nil => exact absurd rfl hne | cons x l => simp)⟩
  have hl0m := hm0 l0 (List.mem_of_getElem? hl0)
  have ha1 := ha.new (.cells s.cells 25)
  have hlenS := fun h' => ha.sorts.len (h' := h') tg22 rfl
  simp only [List.length_map] at hlenS
  refine seq_reg fun K hn hp => ?_
  simp only [sy, argsTo, cellPut_some, Nat.reduceEqDiff, reduceIte, Nat.reduceLT, Nat.reduceAdd, Nat.reduceMul, Nat.reduceLeDiff]
  refine hn _ _ ?_
  clear hn hp K
  obtain ⟨h1, hh1⟩ : ∃ h1 : Hp, h1 = h.new (.cells s.cells 25) := ⟨_, rfl⟩
  rw [← hh1] at ha1 ⊢
  have n1 : h1.n = h.n + 1 := by rw [hh1]; rfl
  have q0 : h1.t.get h.n = some (.cells s.cells 25) := by rw [hh1]; simp [Hp.new_t, T.get_put]
  have fr1 : Fr h.n h h1 := by rw [hh1]; exact (Fr.refl (Nat.le_refl _)).new _
  refine seq_reg fun K1 hn hp => ?_
  simp only [sy, argsTo, cellPut_some, Nat.reduceEqDiff, reduceIte, Nat.reduceLT, Nat.reduceAdd, Nat.reduceMul, Nat.reduceLeDiff, q0]
  refine callA_func (sok xt) ((rtruths_c xt _ s ha1 hok).mono ?_)
  rintro r h2 ⟨v, rfl, fr2, rows⟩
  rw [← hll] at rows
  simp only [sy, argsTo, cellPut_some, Nat.reduceEqDiff, reduceIte, Nat.reduceLT, Nat.reduceAdd, Nat.reduceMul, Nat.reduceLeDiff]
  refine hn _ _ ?_
  clear hn hp K1
  have hlo2 := fr2.lo
  have q02 : h2.t.get h.n = some (.cells s.cells 25) := by rw [fr2.at_ _ (by omega)]; exact q0
  refine seq_reg fun K hn hp => ?_
  simp only [sy, argsTo, cellPut_some, Nat.reduceEqDiff, reduceIte, Nat.reduceLT, Nat.reduceAdd, Nat.reduceMul, Nat.reduceLeDiff]
  refine hn _ _ ?_
  clear hn hp K
  refine seq_seq ?_
  refine seq_reg fun K hn hp => ?_
  simp only [sy, argsTo, cellPut_some, Nat.reduceEqDiff, reduceIte, Nat.reduceLT, Nat.reduceAdd, Nat.reduceMul, Nat.reduceLeDiff]
  refine hn _ _ ?_
  clear hn hp K
  refine seq_block fun K k1 k2 k3 k4 k5 => ?_
  refine wpc_loop (sok xt) (fun st => ∃ (k : Nat) (u : AV) (tm : T AV) (hd : Hp), st = ⟨tm, 62, hd, []⟩ ∧ Fr h2.n h2 hd ∧ k ≤ s.sorts.length ∧ tm.get 1 = some (.ptr h.n 0) ∧ tm.get 3 = some v ∧ tm.get 4 = some u ∧ tm.get 5 = some (iv k) ∧
      OwnSl hd h2.n 2 36 u k ((spK (fun i => rends (fun l => l.getD i 0) ll) k).flatten.map .val))
    (fun st => s.sorts.length - (match st.tm.get 5 with | some (.val (.int _ n)) => n.toNat | _ => 0)) ?_ ?_
  · rintro st ⟨k, u, tm, hd, rfl, frd, hk, g1, g3, g4, g5, ow⟩
    have hlod := frd.lo
    have rowsd := rows.fr frd (Nat.le_refl _)
    have q0d : hd.t.get h.n = some (.cells s.cells 25) := by rw [frd.at_ _ (by omega)]; exact q02
    refine seq_seq ?_
    refine seq_reg fun K hn hp => ?_
    simp only [sy, argsTo, cellPut_some, Nat.reduceEqDiff, reduceIte, Nat.reduceLT, Nat.reduceAdd, Nat.reduceMul, Nat.reduceLeDiff, g1, g5, q0d, hlenS]
    refine hn _ _ ?_
    clear hn hp K
    have ht : (decide ((k : Int) < (s.sorts.length : Int))) = decide (k < s.sorts.length) := by simp
    by_cases hlt : k < s.sorts.length
    · refine seq_cond true (by simp only [sy, argsTo, cellPut_some, Nat.reduceEqDiff, reduceIte, Nat.reduceLT, Nat.reduceAdd, Nat.reduceMul, Nat.reduceLeDiff, ht, hlt]) (fun _ => ?_) (fun hx => by cases hx)
      refine seq_skip ?_
      refine seq_block fun K' k1' k2' k3' k4' k5' => ?_
      obtain ⟨b, a, cs, z1, z2, z3, z4, z5, z6, z7⟩ := rowsd.at_ tg97 rfl tg23 rfl (cc_get hl0) (k := .i64)
      have z1 : aindexAddr tb 97 v (.val (.int .i64 0)) = some (.ptr b 0) := z1
      have hx0 : l0[k]? = some (l0.getD k 0) := by rw [List.getD_eq_getElem?_getD, List.getElem?_eq_getElem (by omega)]; rfl
      have hidx := z4.idx tg23 rfl tg3 rfl (by simp; omega) (k := .i64) (i := k)
      have hld : aload tb xt hd 3 (elp a (k * 1)) = some (iv (l0.getD k 0)) := z4.load0 tg3 rfl (c := c1 (l0.getD k 0)) (by simp only [List.getElem?_map, hx0]; rfl) rfl
      obtain ⟨B, hB⟩ : ∃ B : Int, B = l0.getD k 0 := ⟨_, rfl⟩
      rw [← hB] at hld
      refine seq_regDA (sok xt) 13 (by kernel_rfl) fun K1 hn hp => ?_
      simp only [sy, argsTo, cellPut_some, Nat.reduceEqDiff, reduceIte, Nat.reduceLT, Nat.reduceAdd, Nat.reduceMul, Nat.reduceLeDiff, g3, g5, z1, z2, z3, hidx, hld, bd36b]
      refine hn _ _ ?_
      clear hn hp K1
      refine seq_seq ?_
      refine seq_reg fun K hn hp => ?_
      simp only [sy, argsTo, cellPut_some, Nat.reduceEqDiff, reduceIte, Nat.reduceLT, Nat.reduceAdd, Nat.reduceMul, Nat.reduceLeDiff]
      refine hn _ _ ?_
      clear hn hp K
      refine seq_block fun Kb kb1 kb2 kb3 kb4 kb5 => ?_
      have hfin : rends (fun l => l.getD k 0) ll = (ll.drop 1).foldl (fun a l => rendStep a (l.getD k 0)) (B, B) := by rw [rends_drop _ hl0, hB]
      refine wpc_loop (sok xt) (fun st => ∃ (j : Nat) (p : Int × Int) (tm : T AV) (he : Hp), st = ⟨tm, 62, he, []⟩ ∧ Fr hd.n hd he ∧ 1 ≤ j ∧ j ≤ ll.length ∧ hd.n < he.n ∧ he.t.get hd.n = some (.cells [iv p.1, iv p.2] 36) ∧ tm.get 1 = some (.ptr h.n 0) ∧ tm.get 3 = some v ∧ tm.get 4 = some u ∧ tm.get 5 = some (iv k) ∧ tm.get 6 = some (.ptr hd.n 0) ∧ tm.get 7 = some (iv j) ∧
          rends (fun l => l.getD k 0) ll = (ll.drop j).foldl (fun a l => rendStep a (l.getD k 0)) p)
        (fun st => ll.length - (match st.tm.get 7 with | some (.val (.int _ n)) => n.toNat | _ => 0)) ?_ ?_
      · rintro st ⟨j, p, tmj, he, rfl, fre, hj1, hj, hme, qm, j1, j3, j4, j5, j6, j7, hfi⟩
        have hloe := fre.lo
        have rowse := rowsd.fr fre (Nat.le_refl _)
        have hlenA := fun h' => rowse.len (h' := h') tg97 rfl
        simp only [cc, List.length_map] at hlenA
        refine seq_seq ?_
        refine seq_reg fun K hn hp => ?_
        simp only [sy, argsTo, cellPut_some, Nat.reduceEqDiff, reduceIte, Nat.reduceLT, Nat.reduceAdd, Nat.reduceMul, Nat.reduceLeDiff, j3, j7, hlenA]
        refine hn _ _ ?_
        clear hn hp K
        have htj : (decide ((j : Int) < (ll.length : Int))) = decide (j < ll.length) := by simp
        by_cases hjt : j < ll.length
        · obtain ⟨l, hl⟩ : ∃ l, ll[j]? = some l := ⟨_, List.getElem?_eq_getElem hjt⟩
          have hlm := hm0 l (List.mem_of_getElem? hl)
          obtain ⟨b', a', cs', w1, w2, w3, w4, w5, w6, w7⟩ := rowse.at_ tg97 rfl tg23 rfl (cc_get hl) (k := .i64)
          have hx1 : l[k]? = some (l.getD k 0) := by rw [List.getD_eq_getElem?_getD, List.getElem?_eq_getElem (by omega)]; rfl
          have hidx' := w4.idx tg23 rfl tg3 rfl (by simp; omega) (k := .i64) (i := k)
          have hld' : aload tb xt he 3 (elp a' (k * 1)) = some (iv (l.getD k 0)) := w4.load0 tg3 rfl (c := c1 (l.getD k 0)) (by simp only [List.getElem?_map, hx1]; rfl) rfl
          refine seq_cond true (by simp only [sy, argsTo, cellPut_some, Nat.reduceEqDiff, reduceIte, Nat.reduceLT, Nat.reduceAdd, Nat.reduceMul, Nat.reduceLeDiff, htj, hjt]) (fun _ => ?_) (fun hx => by cases hx)
          refine seq_skip ?_
          refine seq_block fun Kc kc1 kc2 kc3 kc4 kc5 => ?_
          refine regD (sok xt) 21 (by kernel_rfl) fun K1 hn hp => ?_
          simp only [sy, argsTo, cellPut_some, Nat.reduceEqDiff, reduceIte, Nat.reduceLT, Nat.reduceAdd, Nat.reduceMul, Nat.reduceLeDiff, j3, j5, j6, j7, qm, w1, w2, w3, hidx', hld', bd36b]
          refine hn _ _ (kc1 _ ?_)
          clear hn hp K1
          refine reg fun K1 hn hp => ?_
          have hw : IntKind.i64.wrap ((j : Int) + 1) = ((j + 1 : Nat) : Int) := by rw [wrap_i64 _ (by omega) (by omega)]; simp
          simp only [sy, argsTo, cellPut_some, Nat.reduceEqDiff, reduceIte, Nat.reduceLT, Nat.reduceAdd, Nat.reduceMul, Nat.reduceLeDiff, j7, hw]
          refine hn _ _ ?_
          refine ⟨⟨j + 1, rendStep p (l.getD k 0), _, _, rfl, fre.set (Nat.le_refl _) hme _, by omega, hjt, hme, by rw [Hp.set_t, T.get_put, if_pos rfl]; rfl, ?_, ?_, ?_, ?_, ?_, ?_, by rw [hfi, fold_drop hl]⟩, ?_⟩
          · simp [T.get_put, j1]
          · simp [T.get_put, j3]
          · simp [T.get_put, j4]
          · simp [T.get_put, j5]
          · simp [T.get_put, j6]
          · simp [T.get_put]
          · have hm : ll.length - (j + 1) < ll.length - j := by omega
            simpa [T.get_put, j7] using hm
        · refine seq_cond false (by simp only [sy, argsTo, cellPut_some, Nat.reduceEqDiff, reduceIte, Nat.reduceLT, Nat.reduceAdd, Nat.reduceMul, Nat.reduceLeDiff, htj, hjt]) (fun hx => by cases hx) (fun _ => ?_)
          refine seq_exit (kb2 _ ?_)
          have hnil : ll.drop j = [] := List.drop_eq_nil_of_le (by omega)
          rw [hnil] at hfi
          simp only [List.foldl_nil] at hfi
          have ow2 := (ow.fr fre (Nat.le_refl _)).new (.cells [iv p.1, iv p.2] 36)
          obtain ⟨u', h', ha', ow', fr', hn'⟩ := ow2.append (P := Tryz.prog) (xt := xt) (x := .sl he.n 0 1 2) (m := 1) (cz := [iv p.1, iv p.2]) (by simp [Hp.new_n]; omega) tg43 rfl tg36 rfl rfl tg43 rfl (src_own (e := 36) (by simp [Hp.new_t, T.get_put]) rfl rfl) (by omega) rfl (by simp [te36]; omega) (by omega)
          refine reg fun K1 hn hp => ?_
          simp only [sy, argsTo, cellPut_some, Nat.reduceEqDiff, reduceIte, Nat.reduceLT, Nat.reduceAdd, Nat.reduceMul, Nat.reduceLeDiff, WOp_buildSlice, bs43, j4, j6, qm, ha']
          refine hn _ _ (k1' _ ?_)
          clear hn hp K1
          refine reg fun K1 hn hp => ?_
          have hw : IntKind.i64.wrap ((k : Int) + 1) = ((k + 1 : Nat) : Int) := by rw [wrap_i64 _ (by omega) (by omega)]; simp
          simp only [sy, argsTo, cellPut_some, Nat.reduceEqDiff, reduceIte, Nat.reduceLT, Nat.reduceAdd, Nat.reduceMul, Nat.reduceLeDiff, j5, hw]
          refine hn _ _ ?_
          refine ⟨⟨k + 1, u', _, h', rfl, ((frd.trans fre (by omega)).new _).trans fr' (Nat.le_refl _), hlt, ?_, ?_, ?_, ?_, ?_⟩, ?_⟩
          · simp [T.get_put, j1]
          · simp [T.get_put, j3]
          · simp [T.get_put]
          · simp [T.get_put]
          · rw [spK_succ, hfi]; exact ow'
          · have hm : s.sorts.length - (k + 1) < s.sorts.length - k := by omega
            simpa [T.get_put, g5] using hm
      · refine ⟨1, (B, B), _, _, rfl, ((Fr.refl (Nat.le_refl _)).new _).set (Nat.le_refl _) (by simp [Hp.new_n]) _, Nat.le_refl _, ?_, by simp [Hp.new_n, Hp.set_n], by simp [Hp.set_t, T.get_put], ?_, ?_, ?_, ?_, ?_, ?_, hfin⟩
        · cases ll with
          | nil => exact absurd rfl hne
          | cons x l => simp
        · simp [T.get_put, g1]
        · simp [T.get_put, g3]
        · simp [T.get_put, g4]
        · simp [T.get_put, g5]
        · simp [T.get_put]
        · simp [T.get_put]
    · refine seq_cond false (by simp only [sy, argsTo, cellPut_some, Nat.reduceEqDiff, reduceIte, Nat.reduceLT, Nat.reduceAdd, Nat.reduceMul, Nat.reduceLeDiff, ht, hlt]) (fun hx => by cases hx) (fun _ => ?_)
      refine seq_exit (k2 _ ?_)
      refine seq_reg fun K hn hp => ?_
      simp only [sy, argsTo, cellPut_some, Nat.reduceEqDiff, reduceIte, Nat.reduceLT, Nat.reduceAdd, Nat.reduceMul, Nat.reduceLeDiff, g4]
      refine hn _ _ ?_
      clear hn hp K
      refine wpc_ret (end_1 res23 ⟨u, ?_, (fr1.trans fr2 (by omega)).trans frd (by omega), ?_⟩)
      · simp [T.get_put]
      · have hkk : k = s.sorts.length := by omega
        subst hkk
        refine OwnSl.row (N := h2.n) (e := 36) ?_ (by omega) ?_
        · intro c hc'; simp only [spK, List.mem_map] at hc'; obtain ⟨i, _, rfl⟩ := hc'; rfl
        · have e2 : (spK (fun i => rends (fun l => l.getD i 0) ll) s.sorts.length).length = s.sorts.length := by simp [spK]
          rw [e2]; exact ow
  · refine ⟨0, .val (.slice none 0 0), _, _, rfl, Fr.refl (Nat.le_refl _), Nat.zero_le _, ?_, ?_, ?_, ?_, OwnSl.nil⟩
    all_goals simp [T.get_put]
end Go.Proofs.Kn
/-
  DERIVED: THE SHELF's CONTRACTS AT THIS DUMP, IN PLAIN WORDS (tools/lay-plain.mjs out of 'TryzShelf.lean', which tools/lay-shelf.mjs wrote): THE SAME DECLARATIONS UNDER THE SAME NAMES: 'import', 'namespace', 'open', 'def', 'theorem' AND NOTHING ELSE: no command of the shelf's: FOR A HAND-IN. Each laying: the table of numbers ('.._ren') and one theorem, a field a fact of the dump's own or the kernel's comparison; each contract: ONE APPLICATION.
-/
namespace Go.Proofs
open Go.Shelf
def Tryz.lays156_ren : Go.Shelf.Ren := ⟨fun | 156 => 167 | 165 => 181 | 166 => 182 | 169 => 183 | 240 => 202 | 241 => 203 | 276 => 214 | 277 => 215 | n => n, fun | 31 => 150 | 9 => 9 | 3 => 3 | 4 => 4 | 0 => 0 | 20 => 20 | 72 => 250 | 76 => 254 | 70 => 248 | 37 => 151 | 75 => 253 | 127 => 269 | 164 => 278 | 5 => 5 | 80 => 256 | n => n, fun | n => n⟩
theorem Tryz.lays156 : Go.Proofs.Lays.n156 Tryz.prog Tryz.lays156_ren := {
  mixed := by kernel_rfl
  f156 := Tryz.func167.trans (congrArg some (by kernel_rfl))
  f165 := Tryz.func181.trans (congrArg some (by kernel_rfl))
  f166 := Tryz.func182.trans (congrArg some (by kernel_rfl))
  f169 := Tryz.func183.trans (congrArg some (by kernel_rfl))
  f240 := Tryz.func202.trans (congrArg some (by kernel_rfl))
  f241 := Tryz.func203.trans (congrArg some (by kernel_rfl))
  f276 := Tryz.func214.trans (congrArg some (by kernel_rfl))
  f277 := Tryz.func215.trans (congrArg some (by kernel_rfl))
  t0 := Tryz.underlying0
  a0 := Tryz.isAgg0
  z0 := Tryz.sizeOf0
  v0 := Tryz.zeroValue0
  t3 := Tryz.underlying3
  a3 := Tryz.isAgg3
  z3 := Tryz.sizeOf3
  v3 := Tryz.zeroValue3
  t4 := Tryz.underlying4
  a4 := Tryz.isAgg4
  z4 := Tryz.sizeOf4
  v4 := Tryz.zeroValue4
  t9 := Tryz.underlying9
  a9 := Tryz.isAgg9
  z9 := Tryz.sizeOf9
  v9 := Tryz.zeroValue9
  t20 := Tryz.underlying20
  a20 := Tryz.isAgg20
  z20 := Tryz.sizeOf20
  v20 := Tryz.zeroValue20
  t31 := Tryz.underlying150
  a31 := Tryz.isAgg150
  z31 := Tryz.sizeOf150
  v31 := Tryz.zeroValue150
  t37 := Tryz.underlying151
  a37 := Tryz.isAgg151
  z37 := Tryz.sizeOf151
  v37 := Tryz.zeroValue151
  t70 := Tryz.underlying248
  a70 := Tryz.isAgg248
  z70 := Tryz.sizeOf248
  v70 := Tryz.zeroValue248
  t72 := Tryz.underlying250
  a72 := Tryz.isAgg250
  z72 := Tryz.sizeOf250
  v72 := Tryz.zeroValue250
  t75 := Tryz.underlying253
  a75 := Tryz.isAgg253
  z75 := Tryz.sizeOf253
  v75 := Tryz.zeroValue253
  t76 := Tryz.underlying254
  a76 := Tryz.isAgg254
  z76 := Tryz.sizeOf254
  v76 := Tryz.zeroValue254
  t127 := Tryz.underlying269
  a127 := Tryz.isAgg269
  z127 := Tryz.sizeOf269
  v127 := Tryz.zeroValue269
  t164 := Tryz.underlying278
  a164 := Tryz.isAgg278
  z164 := Tryz.sizeOf278
  v164 := Tryz.zeroValue278 }
theorem Tryz.Builder_Extra_156 : Builder.Extra Tryz.prog Tryz.lays156_ren := {
  sizeBuilder := by kernel_rfl
  liesBuilder := by kernel_rfl
  t5 := Tryz.underlying5
  a5 := Tryz.isAgg5
  z5 := Tryz.sizeOf5
  v5 := Tryz.zeroValue5
  infoByte := by kernel_rfl
  cellsByte := by kernel_rfl
  sizeByte := by kernel_rfl
  neB5 := by decide }
open Go.RowKit in
/-- No element: the empty string; the world is as it was. (Whatever the slice's address and capacity: a nil slice too.) (LAID: no walk: one application.) -/
theorem Tryz.strings_Join_none (a : Option Addr) (c : Nat) (sep : ByteArray) (w : World) :
    Calls Tryz.prog 167 #[.slice a 0 c, .string sep] w fun e w' => e = .returned (.string ⟨#[]⟩) ∧ w' = w := Any.strings_Join_none Tryz.lays156 Tryz.Builder_Extra_156 a c sep w
open Go.RowKit in
/-- strings.Join: "Join concatenates the elements of its first argument to create a single string. The separator string sep is placed between elements in the resulting string.": HOWEVER MANY ELEMENTS. Below the heap's end the world is as it was. (LAID: no walk: one application.) -/
theorem Tryz.strings_Join (bk o c : Nat) (xs : List ByteArray) (sep : ByteArray) (w : World) (hcells : ∀ (j : Nat) x, xs[j]? = some x → w.cell? ⟨bk, o + j, none⟩ = some (.string x)) (hbk : bk < w.heap.size) (hN : xs.length ≤ 140737488355328) (hcap : xs.length ≤ c) (hlen : (Lib.join (xs.map (·.data.toList)) sep.data.toList).length ≤ 140737488355328) :
    Calls Tryz.prog 167 #[.slice (some ⟨bk, o, none⟩) xs.length c, .string sep] w fun e w' => e = .returned (.string ⟨(Lib.join (xs.map (·.data.toList)) sep.data.toList).toArray⟩) ∧ Below w.heap.size w w' := Any.strings_Join Tryz.lays156 Tryz.Builder_Extra_156 bk o c xs sep w hcells hbk hN hcap hlen
end Go.Proofs
