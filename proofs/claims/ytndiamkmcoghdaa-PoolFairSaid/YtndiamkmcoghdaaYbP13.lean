/-
  Lemmas for the statement at the top.
-/
import Derived.Test.YtndiamkmcoghdaaYbP12
import Derived.Test.YtndiamkmcoghdaaYbP9
import Derived.Test.YtndiamkmcoghdaaYaFw5
set_option linter.all false
namespace Go.Proofs.Ytndiamkmcoghdaa
open Go.RowKit Go.Ab
attribute [local irreducible] AWP Go.Ab.Sub Means MeansH CallK CallG CallT CallGT CallU
theorem amount_m (n : Int) : Means true Try.prog 25 [ii n] (bb (amt n)) := by
  refine means_fn true 9 [.tmp 2] Try.func25 rfl rfl rfl (by simp) (by decide) rfl fun X hX => ?_
  (repeat (refine awp_stepG [0, 2] hX mixed rfl ?_; (simp [go_sem]; try (refine ⟨by kernel_rfl, ?_⟩))))
  try simp [amt]
set_option maxHeartbeats 2000000 in
set_option maxRecDepth 20000 in
theorem own_m (f : Fd) (hl : f.claims.length ≤ 9223372036854775807) : Means true Try.prog 24 [fo f] (.tup [ii (if okCl f.claims then sumI (nums f.claims) else 0), bb (okCl f.claims)]) := by
  obtain ⟨h, r, i, C, S⟩ := f
  simp only at hl ⊢
  refine means_fn true 32 [.tmp 2, .tmp 3] Try.func24 rfl rfl rfl (by simp) (by decide) rfl fun X hX => ?_
  (repeat (refine awp_stepG [0, 1, 2, 3, 4, 6, 8, 9, 10, 11, 25] hX mixed rfl ?_; (simp [go_sem]; try (refine ⟨by kernel_rfl, ?_⟩))))
  refine awp_loop (fun k : Nat => ⟨mkE [(2, ii 0), (3, bb false), (4, ii (sumI (nums (C.take k)))), (8, awl C), (9, ii C.length), (10, ii k)], []⟩) (fun k => k ≤ C.length ∧ okCl (C.take k) = true) (fun k => C.length - k) 0 ?_ ?_ ?_
  · refine sub_of _ [] (by simp [go_sem]) ?_
    simp [go_sem, nums, sumI]
  · exact ⟨Nat.zero_le _, by simp [okCl, nums, sumI]⟩
  · rintro k ⟨hk, hok⟩
    (repeat (refine awp_stepG [0, 1, 2, 3, 4, 6, 8, 9, 10, 11, 25] hX mixed rfl ?_; (simp [go_sem]; try (refine ⟨by kernel_rfl, ?_⟩))))
    refine awp_cond (b := decide (k < C.length)) (by simp [go_sem]) (fun hb => ?_) (fun hb => ?_)
    · simp at hb
      have hn := okCl_bd hok
      by_cases ha : amt C[k].2 = true
      · have hc := amt_bd ha
        have hw := w64 (x := sumI (nums (C.take k)) + C[k].2) (by omega) (by omega)
        (repeat (refine awp_stepG [0, 1, 2, 3, 4, 6, 8, 9, 10, 11, 25] hX mixed rfl ?_; (simp [go_sem, hb, hw]; try (refine ⟨by kernel_rfl, ?_⟩))))
        first | refine callKa (amount_m C[k].2) ?_ | refine callTa (amount_m C[k].2) ?_
        try (simp [go_sem, ha, hw]; try (refine ⟨by kernel_rfl, ?_⟩))
        first | refine callGa (fun hg => amount_m (sumI (nums (C.take k)) + C[k].2)) ?_ | refine callGTa (fun hg => amount_m (sumI (nums (C.take k)) + C[k].2)) ?_
        try (simp [go_sem, ha, hw]; try (refine ⟨by kernel_rfl, ?_⟩))
        by_cases ha2 : amt (sumI (nums (C.take k)) + C[k].2) = true
        · refine awp_cond (b := false) (by simp [go_sem, ha, ha2]) (fun h => by cases h) (fun _ => ?_)
          (repeat (refine awp_stepG [0, 1, 2, 3, 4, 6, 8, 9, 10, 11, 25] hX mixed rfl ?_; (simp [go_sem, hb, hw]; (try simp (disch := omega) only [w64, td, tm]); try (refine ⟨by kernel_rfl, ?_⟩))))
          refine ⟨k + 1, ⟨by omega, okCl_next hb hok ha ha2⟩, by omega, ?_⟩
          refine sub_of _ [] (by simp [go_sem]) ?_
          simp [go_sem, nums_next hb, sumI_snoc, hw]
        · have ha2 : amt (sumI (nums (C.take k)) + C[k].2) = false := by simpa using ha2
          refine awp_cond (b := true) (by simp [go_sem, ha, ha2]) (fun _ => ?_) (fun h => by cases h)
          (repeat (refine awp_stepG [0, 1, 2, 3, 4, 6, 8, 9, 10, 11, 25] hX mixed rfl ?_; (simp [go_sem]; try (refine ⟨by kernel_rfl, ?_⟩))))
          simp [okCl_no2 hb hok ha ha2]
      · have ha : amt C[k].2 = false := by simpa using ha
        (repeat (refine awp_stepG [0, 1, 2, 3, 4, 6, 8, 9, 10, 11, 25] hX mixed rfl ?_; (simp [go_sem, hb]; try (refine ⟨by kernel_rfl, ?_⟩))))
        first | refine callKa (amount_m C[k].2) ?_ | refine callTa (amount_m C[k].2) ?_
        try (simp [go_sem, ha]; try (refine ⟨by kernel_rfl, ?_⟩))
        first | refine callG_skip rfl ?_ | refine callGT_skip rfl ?_
        try (simp [go_sem, ha]; try (refine ⟨by kernel_rfl, ?_⟩))
        refine awp_cond (b := true) (by simp [go_sem, ha]) (fun _ => ?_) (fun h => by cases h)
        (repeat (refine awp_stepG [0, 1, 2, 3, 4, 6, 8, 9, 10, 11, 25] hX mixed rfl ?_; (simp [go_sem]; try (refine ⟨by kernel_rfl, ?_⟩))))
        simp [okCl_no1 hb ha]
    · have hkl : k = C.length := by simp at hb; omega
      subst hkl
      rw [List.take_length] at hok ⊢
      (repeat (refine awp_stepG [0, 1, 2, 3, 4, 6, 8, 9, 10, 11, 25] hX mixed rfl ?_; (simp [go_sem]; try (refine ⟨by kernel_rfl, ?_⟩))))
      simp [hok]
theorem many_bd {F : List Fd} (h : fewV F = true) : ∀ k, k ≤ F.length → manyC (F.take k) ≤ 8 * k
  | 0, _ => by simp [manyC]
  | k + 1, hk => by
    rw [manyC_next (by omega)]
    have := many_bd h k (by omega)
    have := (few_at h (List.getElem_mem (show k < F.length by omega))).1
    omega
theorem nth_outI (l : List Int) {k : Nat} (h : l.length ≤ k) : nth (l.map ii) k = .bad := by
  unfold nth; rw [List.getD_eq_getElem?_getD, List.getElem?_eq_none (by simpa using h)]; rfl
set_option maxHeartbeats 8000000 in
set_option maxRecDepth 20000 in
theorem pright_m (F : List Fd) (hf : fewV F = true) : Means true Try.prog 9 [.sl (F.map fo)] (bb (rightV F)) := by
  have h5 := few_5 hf
  refine means_fn true 98 [.tmp 2] Try.func9 rfl rfl rfl (by simp) (by decide) rfl fun X hX => ?_
  (repeat (refine awp_stepG [0, 2, 3, 4, 5, 6, 8, 10, 11, 12, 13, 14, 19, 20, 21, 22, 30, 79] hX mixed rfl ?_; (simp [go_sem]; try (refine ⟨by kernel_rfl, ?_⟩))))
  refine awp_loop (fun k : Nat => ⟨mkE [(0, .sl (F.map fo)), (2, bb false), (3, ii (manyC (F.take k))), (11, .sl (F.map fo)), (12, ii F.length), (13, ii k)], []⟩) (fun k => k ≤ F.length ∧ okUp F k) (fun k => F.length - k) 0 ?_ ?_ ?_
  · refine sub_of _ [] (by simp [go_sem]) ?_
    simp [go_sem, manyC]
  · exact ⟨Nat.zero_le _, fun i _ h => absurd h (Nat.not_lt_zero _)⟩
  · rintro k ⟨hk, hok⟩
    have hm := many_bd hf k hk
    (repeat (refine awp_stepG [0, 2, 3, 4, 5, 6, 8, 10, 11, 12, 13, 14, 19, 20, 21, 22, 30, 79] hX mixed rfl ?_; (simp [go_sem]; try (refine ⟨by kernel_rfl, ?_⟩))))
    refine awp_cond (b := decide (k < F.length)) (by simp [go_sem]) (fun hb => ?_) (fun hb => ?_)
    · simp at hb
      obtain ⟨hcl, hce⟩ := few_at hf (List.getElem_mem hb)
      have hon := own_m F[k] (by omega)
      have hmk := manyC_next hb
      have hno := fun h1 => right_no (k := k) hb h1
      have hye := fun h1 => okUp_next (k := k) hb hok h1
      rw [okP] at hno hye
      (repeat (refine awp_stepG [0, 2, 3, 4, 5, 6, 8, 10, 11, 12, 13, 14, 19, 20, 21, 22, 30, 79] hX mixed rfl ?_; (simp [go_sem, hb]; try (refine ⟨by kernel_rfl, ?_⟩))))
      generalize F[k] = f at *
      obtain ⟨h, r, i, C, S⟩ := f
      simp only at hcl hce hno hye hmk hon ⊢
      refine awp_loop (fun j : Nat => ⟨mkE [(0, .sl (F.map fo)), (2, bb false), (3, ii (manyC (F.take k))), (11, .sl (F.map fo)), (12, ii F.length), (13, ii k), (4, ii k), (5, .el 0 5 0 0), (6, ii (sumI (S.take j))), (19, il S), (20, ii S.length), (21, ii j)], [.row ⟨36, 5, [fo ⟨h, r, i, C, S⟩]⟩]⟩) (fun j => j ≤ S.length ∧ okS1 (S.take j) = true) (fun j => S.length - j) 0 ?_ ?_ ?_
      · refine sub_of _ [.old 0 ⟨36, 5, [fo ⟨h, r, i, C, S⟩]⟩] (by simp [go_sem]) ?_
        simp [go_sem, sumI]
      · exact ⟨Nat.zero_le _, by simp [okS1]⟩
      · rintro j ⟨hj, hos⟩
        have hsb := okS1_bd hos
        rw [List.length_take] at hsb
        (repeat (refine awp_stepG [0, 2, 3, 4, 5, 6, 8, 10, 11, 12, 13, 14, 19, 20, 21, 22, 30, 79] hX mixed rfl ?_; (simp [go_sem]; try (refine ⟨by kernel_rfl, ?_⟩))))
        refine awp_cond (b := decide (j < S.length)) (by simp [go_sem]) (fun hc => ?_) (fun hc => ?_)
        · simp at hc
          (repeat (refine awp_stepG [0, 2, 3, 4, 5, 6, 8, 10, 11, 12, 13, 14, 19, 20, 21, 22, 30, 79] hX mixed rfl ?_; (simp [go_sem, hc]; try (refine ⟨by kernel_rfl, ?_⟩))))
          by_cases hs : inS S[j] = true
          · have hs2 := inS_bd hs
            refine awp_cond (b := false) (by simp [go_sem]; omega) (fun h => by cases h) (fun _ => ?_)
            have hw := w64 (x := sumI (S.take j) + S[j]) (by omega) (by omega)
            (repeat (refine awp_stepG [0, 2, 3, 4, 5, 6, 8, 10, 11, 12, 13, 14, 19, 20, 21, 22, 30, 79] hX mixed rfl ?_; (simp [go_sem, hc, hw]; (try simp (disch := omega) only [w64, td, tm]); try (refine ⟨by kernel_rfl, ?_⟩))))
            refine ⟨j + 1, ⟨by omega, okS1_next hc hos hs⟩, by omega, ?_⟩
            refine sub_of _ [.old 0 ⟨36, 5, [fo ⟨h, r, i, C, S⟩]⟩] (by simp [go_sem]) ?_
            simp [go_sem, sumI_next hc, hw]
          · have hs : inS S[j] = false := by simpa using hs
            refine awp_cond (b := true) (by simp [inS] at hs; simp [go_sem]; omega) (fun _ => ?_) (fun h => by cases h)
            (repeat (refine awp_stepG [0, 2, 3, 4, 5, 6, 8, 10, 11, 12, 13, 14, 19, 20, 21, 22, 30, 79] hX mixed rfl ?_; (simp [go_sem]; try (refine ⟨by kernel_rfl, ?_⟩))))
            have hS0 := okS1_no hc hs
            rw [hno (by simp [hS0])]
        · have hjl : j = S.length := by simp at hc; omega
          subst hjl
          rw [List.take_length] at hos hsb ⊢
          simp only [hos, Bool.true_and] at hno hye
          (repeat (refine awp_stepG [0, 2, 3, 4, 5, 6, 8, 10, 11, 12, 13, 14, 19, 20, 21, 22, 30, 79] hX mixed rfl ?_; (simp [go_sem]; try (refine ⟨by kernel_rfl, ?_⟩))))
          first | refine callKa (hon) ?_ | refine callTa (hon) ?_
          try (simp [go_sem]; try (refine ⟨by kernel_rfl, ?_⟩))
          (repeat (refine awp_stepG [0, 2, 3, 4, 5, 6, 8, 10, 11, 12, 13, 14, 19, 20, 21, 22, 30, 79] hX mixed rfl ?_; (simp [go_sem]; try (refine ⟨by kernel_rfl, ?_⟩))))
          first | refine callGa (fun hg => amount_m h) ?_ | refine callGTa (fun hg => amount_m h) ?_
          try (simp [go_sem]; try (refine ⟨by kernel_rfl, ?_⟩))
          first | refine callGa (fun hg => amount_m r) ?_ | refine callGTa (fun hg => amount_m r) ?_
          try (simp [go_sem]; try (refine ⟨by kernel_rfl, ?_⟩))
          first | refine callGa (fun hg => amount_m i) ?_ | refine callGTa (fun hg => amount_m i) ?_
          by_cases hkS : k < S.length
          · have hgk : S.getD k 0 = S[k] := getD_at hkS
            rw [hgk] at hno hye
            try (simp [go_sem, hkS]; try (refine ⟨by kernel_rfl, ?_⟩))
            (repeat refine And.intro (by first | omega | (unfold maxLen; omega) | kernel_rfl | (refine ⟨by first | omega | (unfold maxLen; omega), by first | omega | (unfold maxLen; omega)⟩) | grind) ?_)
            have key : (!okCl C || !amt h || !amt r || !amt i || !decide ((S.length : Int) = F.length) || !decide (S[k] = 0) || decide (1000 ≤ sumI S)) = !(okCl C && amt h && amt r && amt i && decide (S.length = F.length) && decide (S[k] = 0) && decide (sumI S < 1000)) := by
              rw [show decide ((S.length : Int) = F.length) = decide (S.length = F.length) by rw [decide_eq_decide]; omega, show decide (1000 ≤ sumI S) = !decide (sumI S < 1000) by rw [← decide_not, decide_eq_decide]; omega]
              simp only [Bool.not_and]
            cases hB : (okCl C && amt h && amt r && amt i && decide (S.length = F.length) && decide (S[k] = 0) && decide (sumI S < 1000)) with
            | false =>
              rw [hB] at key
              refine awp_cond (b := true) (by rw [← show (!false) = true from rfl, ← key]; simp [go_sem]) (fun _ => ?_) (fun h => by cases h)
              rw [hno hB]
              (repeat (refine awp_stepG [0, 2, 3, 4, 5, 6, 8, 10, 11, 12, 13, 14, 19, 20, 21, 22, 30, 79] hX mixed rfl ?_; (simp [go_sem]; try (refine ⟨by kernel_rfl, ?_⟩))))
            | true =>
              rw [hB] at key
              refine awp_cond (b := false) (by rw [← show (!true) = false from rfl, ← key]; simp [go_sem]) (fun h => by cases h) (fun _ => ?_)
              have hw := w64 (x := (manyC (F.take k) : Int) + C.length) (by omega) (by omega)
              (repeat (refine awp_stepG [0, 2, 3, 4, 5, 6, 8, 10, 11, 12, 13, 14, 19, 20, 21, 22, 30, 79] hX mixed rfl ?_; (simp [go_sem, hw]; (try simp (disch := omega) only [w64, td, tm]); try (refine ⟨by kernel_rfl, ?_⟩))))
              refine ⟨k + 1, ⟨by omega, hye hB⟩, by omega, ?_⟩
              refine sub_of _ [] (by simp [go_sem]) ?_
              simp [go_sem, hmk, hw]
          · have hno' := nth_outI S (k := k) (by omega)
            have hSn : ¬ (S.length : Int) = F.length := by omega
            have hSn2 : ¬ S.length = F.length := by omega
            have hR := hno (by simp [hSn2])
            try (simp [go_sem, hkS, hno', hSn]; try (refine ⟨by kernel_rfl, ?_⟩))
            (repeat refine And.intro (by first | omega | (unfold maxLen; omega) | kernel_rfl | (refine ⟨by first | omega | (unfold maxLen; omega), by first | omega | (unfold maxLen; omega)⟩) | grind) ?_)
            refine awp_cond (b := true) (by simp [go_sem]) (fun _ => ?_) (fun h => by cases h)
            rw [hR]
            (repeat (refine awp_stepG [0, 2, 3, 4, 5, 6, 8, 10, 11, 12, 13, 14, 19, 20, 21, 22, 30, 79] hX mixed rfl ?_; (simp [go_sem]; try (refine ⟨by kernel_rfl, ?_⟩))))
    · have hkl : k = F.length := by simp at hb; omega
      subst hkl
      rw [List.take_length] at hm ⊢
      (repeat (refine awp_stepG [0, 2, 3, 4, 5, 6, 8, 10, 11, 12, 13, 14, 19, 20, 21, 22, 30, 79] hX mixed rfl ?_; (simp [go_sem]; try (refine ⟨by kernel_rfl, ?_⟩))))
      rw [right_yes hok]
      have a1 : decide ((F.length : Int) ≤ 12) = decide (F.length ≤ 12) := by rw [decide_eq_decide]; omega
      have a2 : decide ((manyC F : Int) ≤ 400) = decide (manyC F ≤ 400) := by rw [decide_eq_decide]; omega
      rw [a1, a2]
end Go.Proofs.Ytndiamkmcoghdaa

namespace Go.Ab
open Go.RowKit
section
variable {P : Program} {M : Nat → Prop} {loc : Nat → Value} {w : World}
theorem NmOK.none {X : Ctx} {st : St} {a : Act} {C : Nat → Prop} (h : R X st a w) (hC : ∀ c, ¬ C c) : NmOK st.heap.length st C := by
  obtain ⟨M, loc, hr⟩ := h
  refine ⟨fun s id hid => ⟨(idLt_iff _ _).1 (hr.ids s) id hid, hC _⟩, fun i o ho e he id hid => ?_, fun c hc => absurd hc (hC c), fun c hc => absurd hc (hC c), Nat.le_refl _⟩
  obtain ⟨xs, _, g2⟩ := (hr.obj i o ho).own
  obtain ⟨j, hj, rfl⟩ := List.getElem_of_mem he
  obtain ⟨x, _, hx⟩ := g2 j _ (List.getElem?_eq_getElem hj)
  exact ⟨(idLt_iff _ _).1 hx.2.1 id hid, hC _⟩
def okId (H : List Cell) (T : List Nat) (L0 id : Nat) : Prop := id ∈ T ∨ id < L0 ∨ ∃ j ∈ T, ∃ o, H[j]? = some (.row o) ∧ id ∈ cellIds (.row o)
theorem okId.congr {H H1 : List Cell} {T : List Nat} {L0 id : Nat} (h : okId H T L0 id) (hh : ∀ i ∈ T, H1[i]? = H[i]?) : okId H1 T L0 id := by
  rcases h with h | h | ⟨j, hj, o, ho, h⟩
  · exact .inl h
  · exact .inr (.inl h)
  · exact .inr (.inr ⟨j, hj, o, (hh j hj).trans ho, h⟩)
theorem NmOK.okId {L0 : Nat} {st : St} {C : Nat → Prop} {T : List Nat} (h : NmOK L0 st C) (ht : ∀ {id}, id ∈ T → id < st.heap.length ∧ ¬ C id) {id : Nat} (hi : okId st.heap T L0 id) : id < st.heap.length ∧ ¬ C id := by
  rcases hi with hi | hi | ⟨j, _, o, ho, hi⟩
  · exact ht hi
  · exact ⟨Nat.lt_of_lt_of_le hi h.len, fun e => by have := h.low _ e; omega⟩
  · have hm : ∃ e ∈ o.es.flatMap AV.flat, id ∈ e.ids := by
      cases hz : zoneEs o.es with
      | true => rw [cellIds_zone hz] at hi; cases hi
      | false =>
        have hi2 : id ∈ (bif zoneEs o.es then [] else (o.es.flatMap AV.flat).flatMap AV.ids) := hi
        rw [hz] at hi2
        simpa using hi2
    obtain ⟨e, he, hid⟩ := hm
    exact h.row j o ho e he id hid
def StepV (P : Program) (n L0 : Nat) (o : Oper) (t : TagU) (st st' : St) : Prop :=
  (∀ d, o.dst = some d → d < n) ∧ o.guard = none ∧ t.t = tch (ev st.env) o.op ∧
  ((∃ r, DoesX P st.heap (ev st.env) o.op r ∧ (∀ id ∈ r.ids, id ∈ t.t ∨ id < L0) ∧ st' = ⟨putE st.env o.dst r, st.heap⟩ ∧ t.w = [] ∧ t.nw = false) ∨
   (∃ p r upd nw, effA P st.heap (ev st.env) o.op = some (p, r, setU st.heap upd ++ nw) ∧ p ∧ r.effR = true ∧ (∀ id ∈ r.ids, id ∈ t.t ∨ id < L0 ∨ (id = st.heap.length ∧ nw ≠ [])) ∧ nw.length ≤ 1 ∧
      (∀ H1 : List Cell, H1.length = st.heap.length → (∀ id ∈ t.t, H1[id]? = st.heap[id]?) → effA P H1 (ev st.env) o.op = some (p, r, setU H1 upd ++ nw)) ∧
      (∀ q ∈ upd, q.1 ∈ t.w ∧ q.1 ∈ t.t ∧ ∀ id ∈ cellIds q.2, okId st.heap t.t L0 id) ∧ (∀ c ∈ nw, t.c ∈ t.w ∧ ∀ id ∈ cellIds c, okId st.heap t.t L0 id) ∧ t.nw = !nw.isEmpty ∧ (∀ id ∈ t.w, id ∈ t.t ∨ (id = t.c ∧ t.nw = true)) ∧
      st' = ⟨putE st.env o.dst (plc st.heap.length t.c r), setU st.heap (upd ++ nw.map fun c => (t.c, c))⟩) ∨
   (∃ ob, NewC P st.heap (ev st.env) o.op ob ∧ t.w = [t.c] ∧ t.nw = true ∧ st' = ⟨putE st.env o.dst (.ow t.c), setU st.heap [(t.c, .row ob)]⟩))
theorem StepV.nm {n L0 : Nat} {o : Oper} {t : TagU} {st st' : St} {C : Nat → Prop} (h : StepV P n L0 o t st st') (hn : NmOK L0 st C) (hC : t.nw = true → C t.c) : NmOK L0 st' (fun c => C c ∧ (t.nw = true → c ≠ t.c)) := by
  obtain ⟨hd, hg, htt, hs⟩ := h
  have htc : ∀ {id}, id ∈ t.t → id < st.heap.length ∧ ¬ C id := fun {id} hid => hn.tch (by rw [← htt]; exact hid)
  have hok : ∀ id, (id ∈ t.t ∨ id < L0) → id < st.heap.length ∧ ¬ C id := fun id hid => by
    rcases hid with q | q
    · exact htc q
    · exact ⟨Nat.lt_of_lt_of_le q hn.len, fun e => by have := hn.low _ e; omega⟩
  have putEnv : ∀ (r : AV) (N : Nat), st.heap.length = N → (∀ id ∈ r.ids, id < st.heap.length ∧ ¬ (C id ∧ (t.nw = true → id ≠ t.c))) → ∀ s, ∀ id ∈ (putE st.env o.dst r s).ids, id < N ∧ ¬ (C id ∧ (t.nw = true → id ≠ t.c)) := fun r N hN hr s id hid => by
    have old : id ∈ (st.env s).ids → id < N ∧ ¬ (C id ∧ (t.nw = true → id ≠ t.c)) := fun hid => by
      obtain ⟨q1, q2⟩ := hn.env s id hid
      exact ⟨hN ▸ q1, fun e => q2 e.1⟩
    cases hdd : o.dst with
    | none => rw [hdd] at hid; exact old hid
    | some d =>
      rw [hdd] at hid
      simp only [putE, upd] at hid
      split at hid
      · obtain ⟨q1, q2⟩ := hr id hid
        exact ⟨hN ▸ q1, q2⟩
      · exact old hid
  rcases hs with ⟨r, hdo, hi, rfl, e1, e2⟩ | ⟨p, r, upd, nw, he, hp, hf, hri, hnl, hloc, hupd, hnw, hnwb, htw, rfl⟩ | ⟨ob, hnc, htw, hnwb, rfl⟩
  · refine ⟨putEnv r _ rfl fun id hid => ?_, fun i ob ho e he id hid => ⟨(hn.row i ob ho e he id hid).1, fun q => (hn.row i ob ho e he id hid).2 q.1⟩, fun c q => hn.dead c q.1, fun c q => hn.low c q.1, hn.len⟩
    obtain ⟨q1, q2⟩ := hok id (hi id hid)
    exact ⟨q1, fun e => q2 e.1⟩
  · have hlen : (setU st.heap (upd ++ nw.map fun c => (t.c, c))).length = st.heap.length := setU_len _ _
    refine ⟨putEnv _ _ hlen.symm fun id hid => ?_, fun i ob ho e he id hid => ?_, fun c q => ?_, fun c q => hn.low c q.1, by rw [hlen]; exact hn.len⟩
    · rcases plc_ids hf hid with q | ⟨q, qn⟩
      · cases hb : t.nw with
        | true =>
          have hcC := hC hb
          exact ⟨by rw [q]; exact (List.getElem?_eq_some_iff.1 (hn.dead _ hcC)).1, fun e => e.2 rfl q⟩
        | false =>
          have hne : nw = [] := by rw [hb] at hnwb; simpa using hnwb.symm
          by_cases hL : ∀ id ∈ r.ids, id ≠ st.heap.length
          · rw [plc_same hL] at hid
            rcases hri id hid with q2 | q2 | ⟨_, q2⟩
            · obtain ⟨g1, g2⟩ := hok id (.inl q2); exact ⟨g1, fun e => g2 e.1⟩
            · obtain ⟨g1, g2⟩ := hok id (.inr q2); exact ⟨g1, fun e => g2 e.1⟩
            · exact absurd hne q2
          · exfalso
            apply hL
            intro id2 h2 e2
            rcases hri id2 h2 with q2 | q2 | ⟨_, q2⟩
            · have := (htc q2).1; omega
            · have := hn.len; omega
            · exact q2 hne
      · rcases hri id q with q2 | q2 | ⟨q2, _⟩
        · obtain ⟨g1, g2⟩ := hok id (.inl q2); exact ⟨g1, fun e => g2 e.1⟩
        · obtain ⟨g1, g2⟩ := hok id (.inr q2); exact ⟨g1, fun e => g2 e.1⟩
        · exact absurd q2 qn
    · show id < (setU st.heap (upd ++ nw.map fun c => (t.c, c))).length ∧ _
      rw [hlen]
      rcases setU_cell _ _ _ _ ho with q | ⟨q, hq, hq2⟩
      · obtain ⟨g1, g2⟩ := hn.row i ob q e he id hid
        exact ⟨g1, fun e => g2 e.1⟩
      · have hid2 : id ∈ cellIds q.2 := by rw [hq2]; exact cellIds_spec he hid
        have : okId st.heap t.t L0 id := by
          rcases List.mem_append.1 hq with hq | hq
          · exact (hupd q hq).2.2 id hid2
          · obtain ⟨c, hc, rfl⟩ := List.mem_map.1 hq
            exact (hnw c hc).2 id hid2
        obtain ⟨g1, g2⟩ := hn.okId htc this
        exact ⟨g1, fun e => g2 e.1⟩
    · show (setU st.heap (upd ++ nw.map fun c => (t.c, c)))[c]? = some .dead
      rw [setU_out _ _ _ fun x hx e => ?_]
      · exact hn.dead c q.1
      · rcases List.mem_append.1 hx with hx | hx
        · exact (htc (hupd x hx).2.1).2 (by rw [e]; exact q.1)
        · obtain ⟨c2, hc2, rfl⟩ := List.mem_map.1 hx
          refine q.2 ?_ e.symm
          rw [hnwb]
          cases nw with
          | nil => cases hc2
          | cons _ _ => rfl
  · have hz : zoneEs ob.es = true := by obtain ⟨_, _, _, _, _, _, _, _, _, h4, _⟩ := hnc; exact h4
    have hcC := hC hnwb
    have hcl : t.c < st.heap.length := (List.getElem?_eq_some_iff.1 (hn.dead _ hcC)).1
    have hlen : (setU st.heap [(t.c, .row ob)]).length = st.heap.length := setU_len _ _
    refine ⟨putEnv _ _ hlen.symm fun id hid => ?_, fun i o2 ho e he id hid => ?_, fun c q => ?_, fun c q => hn.low c q.1, by rw [hlen]; exact hn.len⟩
    · simp only [AV.ids, List.mem_singleton] at hid
      rw [hid]
      exact ⟨hcl, fun e => e.2 hnwb rfl⟩
    · show id < (setU st.heap [(t.c, .row ob)]).length ∧ _
      rw [hlen]
      rcases setU_cell _ _ _ _ ho with q | ⟨q, hq, hq2⟩
      · obtain ⟨g1, g2⟩ := hn.row i o2 q e he id hid
        exact ⟨g1, fun e => g2 e.1⟩
      · simp at hq
        rw [hq] at hq2
        have hq3 : Cell.row ob = Cell.row o2 := hq2
        have hid2 : id ∈ cellIds (.row ob) := by rw [hq3]; exact cellIds_spec he hid
        rw [cellIds_zone hz] at hid2; cases hid2
    · show (setU st.heap [(t.c, .row ob)])[c]? = some .dead
      rw [setU_out _ _ _ fun x hx e => ?_]
      · exact hn.dead c q.1
      · simp at hx
        rw [hx] at e
        exact q.2 hnwb e.symm
def runV (P : Program) (n L0 : Nat) : List Oper → Bool → Nat → List TagU → (St → List TagU → Prop) → St → Prop
  | [], _, _, acc, K, st => K st acc
  | _ :: _, false, _, _, _, _ => False
  | o :: l, true, k, acc, K, st => dOK n o.dst ∧ o.guard = none ∧
    match isCall o.op with
    | true => match tgt (ev st.env) (argsOf o.op).1 with
      | some (f, first, cap) => callable P f = true ∧
          CallU P f (first ++ (argsOf o.op).2.map (fun x => argA st.heap (ev st.env x)) ++ cap) ((argsOf o.op).2.any fun x => (ev st.env x).isOw) ((first ++ (argsOf o.op).2.map (fun x => argA st.heap (ev st.env x)) ++ cap).all AV.argOK)
            st.heap.length (first ++ (argsOf o.op).2.map (ev st.env) ++ cap)
            (fun z r => runV P n L0 l z k (acc ++ [⟨tch (ev st.env) o.op, [], L0 + k, false⟩]) K ⟨putE st.env o.dst r, st.heap⟩)
            (fun z ob => runV P n L0 l z (k + 1) (acc ++ [⟨tch (ev st.env) o.op, [L0 + k], L0 + k, true⟩]) K ⟨putE st.env o.dst (.ow (L0 + k)), st.heap.set (L0 + k) (.row ob)⟩)
      | none => False
    | false => match isEff o.op with
      | true => match effA P st.heap (ev st.env) o.op with
        | some (p, r, H) => p ∧ r.effR = true ∧ (∀ id ∈ r.ids, id ∈ tch (ev st.env) o.op ∨ id < L0 ∨ (id = st.heap.length ∧ (H.length != st.heap.length) = true)) ∧
            (∀ i ∈ wrOf (ev st.env) o.op, ∀ id ∈ cellIds (H.getD i .dead), okId st.heap (tch (ev st.env) o.op) L0 id) ∧ (∀ c ∈ H.drop st.heap.length, ∀ id ∈ cellIds c, okId st.heap (tch (ev st.env) o.op) L0 id) ∧
            runV P n L0 l true (bif H.length != st.heap.length then k + 1 else k) (acc ++ [⟨tch (ev st.env) o.op, wrOf (ev st.env) o.op ++ (bif H.length != st.heap.length then [L0 + k] else []), L0 + k, H.length != st.heap.length⟩]) K
              ⟨putE st.env o.dst (plc st.heap.length (L0 + k) r), placeU st.heap.length (L0 + k) H⟩
        | none => False
      | false => match doF P false st.heap (ev st.env) o.op with
        | some (p, r, _) => p ∧ (∀ id ∈ r.ids, id ∈ tch (ev st.env) o.op ∨ id < L0) ∧ runV P n L0 l true k (acc ++ [⟨tch (ev st.env) o.op, [], L0 + k, false⟩]) K ⟨putE st.env o.dst r, st.heap⟩
        | none => False
def BarK (P : Program) (X : Ctx) (N : Nat) (rest : List Oper) (K : St → List TagU → Prop) (s : St) (ts : List TagU) : Prop := ∃ s2 : St, Sub X s2 s ∧ runV P N s2.heap.length rest true 0 ts K s2
theorem BarK_congr {P : Program} {X : Ctx} {N : Nat} {rest : List Oper} {K : St → List TagU → Prop} {s s' : St} {ts ts' : List TagU} (h : s = s') (ht : ts = ts') : BarK P X N rest K s ts = BarK P X N rest K s' ts' := by rw [h, ht]
attribute [congr] BarK_congr
end
attribute [go_sem] runV okId
end Go.Ab

namespace Go.Proofs.Ytndiamkmcoghdaa
open Go.RowKit Go.Ab
structure CoinsOk (own : List Int) (S : List (List Int)) : Prop where
  len : (coinL (keptQ own S)).length = own.length
  sum : sumI (coinL (keptQ own S)) = sumI own
  one : ∀ (i : Nat) (hi : i < own.length) (hi' : i < (coinL (keptQ own S)).length), (coinL (keptQ own S))[i] = fl (keptX own S i) ∨ ((coinL (keptQ own S))[i] = fl (keptX own S i) + 1 ∧ 0 < rs (keptX own S i))
  bd : ∀ x ∈ coinL (keptQ own S), 0 ≤ x ∧ x ≤ 6597069766657
theorem coins_go {own : List Int} {S : List (List Int)} (hv : PV own S) (h6 : own.length ≤ 6) : CoinsOk own S ∧ Means false Try.prog 26 [fql (keptQ own S)] (.tup [il (coinL (keptQ own S)), ii 0]) := by
  have hsum : sumR (fun t => (keptQ own S).getD t 0) (keptQ own S).length = ((sumI own : Int) : Rat) := by
    rw [keptQ_len, ← kept_sum hv]
    exact sumR_congr fun t ht => keptQ_at ht
  have hri := rsum_int hsum
  have hkb := keptQ_mem hv h6
  have hKl : (keptQ own S).length = own.length := keptQ_len _ _
  have hK0 : ∀ x ∈ keptQ own S, 0 ≤ x ∧ x ≤ ((6597069766656 : Int) : Rat) := fun x hx => by
    obtain ⟨k, hk, rfl⟩ := List.mem_map.1 hx
    have hk : k < own.length := by simpa using hk
    exact ⟨kept_nonneg hv hk, kept_most hv h6 hk⟩
  have hmost : ((6597069766656 : Int) : Rat) ≤ most := Rat.intCast_le_intCast.2 (by decide)
  have hnn : 0 ≤ sumI own - sumI ((keptQ own S).map fl) := by
    have := (rsum_bd (keptQ own S) (keptQ own S).length).1
    rw [hri] at this
    exact Rat.intCast_le_intCast.1 (show ((0 : Int) : Rat) ≤ _ from this)
  obtain ⟨m, hm⟩ : ∃ m : Nat, (m : Int) = sumI own - sumI ((keptQ own S).map fl) := ⟨(sumI own - sumI ((keptQ own S).map fl)).toNat, by omega⟩
  rw [← hm] at hri
  have c2 := Coins_t (ks := keptQ own S) (fun k hk => ⟨⟨(hK0 k hk).1, Rat.le_trans (hK0 k hk).2 hmost⟩, hkb k hk⟩) (by rw [hKl]; exact hv.pos) (by rw [hKl]; omega) (by rw [hri, fl_int])
  obtain ⟨s1, s2, s3⟩ := coin_spec hri
  refine ⟨⟨by omega, by omega, fun i hi hi' => ?_, fun x hx => ?_⟩, c2⟩
  · have := s3 i (by omega) hi'
    rwa [show (keptQ own S)[i]'(by omega) = keptX own S i by simp [keptQ]] at this
  · obtain ⟨k, hk, rfl⟩ := List.getElem_of_mem hx
    have h1 := s3 k (by omega) hk
    have h2 := hK0 _ (List.getElem_mem (show k < (keptQ own S).length by omega))
    have h3 := fl_bd h2.1 h2.2
    omega
attribute [-simp] List.map_take
attribute [local irreducible] AWP Go.Ab.Sub Means MeansH CallK CallG CallT CallGT CallU
variable {F : List Fd}
theorem owned (h : RV F) (h5 : F.length ≤ 5) : CoinsOk (ownL F) (cedL F) := (coins_go (pv_of h) (by rw [ownL_len]; omega)).1
theorem ownL_next {k : Nat} (h : k < F.length) : (ownL F).take (k + 1) = (ownL F).take k ++ [sumI (nums F[k].claims)] := by
  rw [List.take_succ_eq_append_getElem (by rw [ownL_len]; exact h)]; simp [ownL]
theorem cedL_next {k : Nat} (h : k < F.length) : (cedL F).take (k + 1) = (cedL F).take k ++ [F[k].cedes] := by
  rw [List.take_succ_eq_append_getElem (by rw [cedL_len]; exact h)]; simp [cedL]
set_option maxHeartbeats 4000000 in
set_option maxRecDepth 20000 in
theorem owed_m (F : List Fd) (hf : fewV F = true) (hr : rightV F = true) : Means false Try.prog 10 [.sl (F.map fo)] (.tup [il (owedL F), ii 0]) := by
  have c1 := pright_m F hf
  have h5 := few_5 hf
  have hv := rv_of hr
  have hp := pv_of hv
  have c2 := Solve_q hp (by rw [ownL_len]; omega)
  have c3 := (coins_go hp (by rw [ownL_len]; omega)).2
  have hoL := ownL_len F
  have hcL := cedL_len F
  refine means_fn false 51 [.tmp 2, .tmp 3] Try.func10 rfl rfl rfl (by simp) (by decide) rfl fun X hX => ?_
  (repeat (refine awp_stepG [0, 2, 3, 4, 5, 7, 8, 11, 12, 15, 16, 17, 18, 19, 45] hX mixed rfl ?_; (simp [go_sem]; try (refine ⟨by kernel_rfl, ?_⟩))))
  first | refine callKa (c1) ?_ | refine callTa (c1) ?_
  try (simp [go_sem]; try (refine ⟨by kernel_rfl, ?_⟩))
  refine awp_cond (b := false) (by simp [go_sem, hr]) (fun h => by cases h) (fun _ => ?_)
  (repeat (refine awp_stepG [0, 2, 3, 4, 5, 7, 8, 11, 12, 15, 16, 17, 18, 19, 45] hX mixed rfl ?_; (simp [go_sem]; try (refine ⟨by kernel_rfl, ?_⟩))))
  refine awp_loop (fun k : Nat => ⟨mkE [(16, .sl (F.map fo)), (17, ii F.length), (18, ii k), (4, .ow 0), (5, .ow 1)], [.row ⟨3, 1, ((ownL F).take k).map ii⟩, .row ⟨25, 1, ((cedL F).take k).map il⟩]⟩) (fun k => k ≤ F.length) (fun k => F.length - k) 0 ?_ ?_ ?_
  · refine sub_of _ [.birth 3 1, .birth 25 1] (by simp [go_sem]) ?_
    simp [go_sem]
  · omega
  · intro k hk
    have l1 : ((ownL F).take k).length = k := by rw [List.length_take]; omega
    have l2 : ((cedL F).take k).length = k := by rw [List.length_take]; omega
    (repeat (refine awp_stepG [0, 2, 3, 4, 5, 7, 8, 11, 12, 15, 16, 17, 18, 19, 45] hX mixed rfl ?_; (simp [go_sem]; try (refine ⟨by kernel_rfl, ?_⟩))))
    refine awp_cond (b := decide (k < F.length)) (by simp [go_sem]) (fun hb => ?_) (fun hb => ?_)
    · simp at hb
      have hon := own_m F[k] (by have := (few_at hf (List.getElem_mem hb)).1; omega)
      rw [(hv.at' k hb).cla] at hon
      have e1 := ownL_next hb
      have e2 := cedL_next hb
      (repeat (refine awp_stepG [0, 2, 3, 4, 5, 7, 8, 11, 12, 15, 16, 17, 18, 19, 45] hX mixed rfl ?_; (simp [go_sem, hb]; try (refine ⟨by kernel_rfl, ?_⟩))))
      generalize F[k] = f at *
      obtain ⟨h, r, i, C, S⟩ := f
      simp only [if_true] at hon e1 e2 ⊢
      first | refine callKa (hon) ?_ | refine callTa (hon) ?_
      try (simp [go_sem]; try (refine ⟨by kernel_rfl, ?_⟩))
      (repeat (first | refine awp_seq ?_ | refine awp_block ?_ | ((first | refine awp_runG [0, 2, 3, 4, 5, 7, 8, 11, 12, 15, 16, 17, 18, 19, 45] hX ?_ | refine awp_skip ?_ | refine awp_exit ?_); (simp [go_sem, l1, l2]; try (refine ⟨by kernel_rfl, ?_⟩)))))
      refine awp_drawUG [0, 2, 3, 4, 5, 7, 8, 11, 12, 15, 16, 17, 18, 19, 45] 4 hX mixed ?_; (simp [go_sem, l1, l2]; try (refine ⟨by kernel_rfl, ?_⟩))
      (repeat refine And.intro (by first | omega | (unfold maxLen; omega) | kernel_rfl | (refine ⟨by first | omega | (unfold maxLen; omega), by first | omega | (unfold maxLen; omega)⟩) | grind) ?_)
      refine ⟨⟨by kernel_rfl, by kernel_rfl⟩, ?_⟩
      (repeat (refine awp_stepG [0, 2, 3, 4, 5, 7, 8, 11, 12, 15, 16, 17, 18, 19, 45] hX mixed rfl ?_; (simp [go_sem]; (try simp (disch := omega) only [w64, td, tm]); try (refine ⟨by kernel_rfl, ?_⟩))))
      refine ⟨k + 1, by omega, by omega, ?_⟩
      refine sub_of _ [.old 4 ⟨3, 1, ((ownL F).take (k + 1)).map ii⟩, .old 6 ⟨25, 1, ((cedL F).take (k + 1)).map il⟩] (by simp [go_sem, e1, e2]) ?_
      simp [go_sem]
    · have hkl : k = F.length := by simp at hb; omega
      subst hkl
      rw [List.take_of_length_le (by omega), List.take_of_length_le (by omega)]
      (repeat (refine awp_stepG [0, 2, 3, 4, 5, 7, 8, 11, 12, 15, 16, 17, 18, 19, 45] hX mixed rfl ?_; (simp [go_sem]; try (refine ⟨by kernel_rfl, ?_⟩))))
      refine callKk_intro (c2) rfl rfl ?_
      try (simp [go_sem]; try (refine ⟨by kernel_rfl, ?_⟩))
      (repeat (refine awp_stepG [0, 2, 3, 4, 5, 7, 8, 11, 12, 15, 16, 17, 18, 19, 45] hX mixed rfl ?_; (simp [go_sem]; try (refine ⟨by kernel_rfl, ?_⟩))))
      refine awp_cond (b := false) (by simp [go_sem]) (fun h => by cases h) (fun _ => ?_)
      (repeat (refine awp_stepG [0, 2, 3, 4, 5, 7, 8, 11, 12, 15, 16, 17, 18, 19, 45] hX mixed rfl ?_; (simp [go_sem]; try (refine ⟨by kernel_rfl, ?_⟩))))
      first | refine callKa (c3) ?_ | refine callTa (c3) ?_
      try (simp [go_sem]; try (refine ⟨by kernel_rfl, ?_⟩))
      (repeat (refine awp_stepG [0, 2, 3, 4, 5, 7, 8, 11, 12, 15, 16, 17, 18, 19, 45] hX mixed rfl ?_; (simp [go_sem]; try (refine ⟨by kernel_rfl, ?_⟩))))
      try rfl
end Go.Proofs.Ytndiamkmcoghdaa

namespace Go.Proofs.Ytndiamkmcoghdaa
open Go.RowKit Go.Ab
theorem okEs_app2 {HS : List Src} {H : List Cell} : ∀ {A B C D : List AV}, okEs HS H A B → okEs HS H C D → okEs HS H (A ++ C) (B ++ D)
  | [], [], _, _, _, h' => h'
  | [], _ :: _, _, _, h, _ => h.elim
  | _ :: _, [], _, _, h, _ => h.elim
  | _ :: _, _ :: _, _, _, h, h' => ⟨h.1, okEs_app2 h.2 h'⟩
def slN (X : List AV) : Prop := ∀ e ∈ X, (∃ es, e = .sl es) ∨ e = .nil
theorem okEs_id {HS : List Src} {H : List Cell} : ∀ {X : List AV}, slN X → okEs HS H X X
  | [], _ => trivial
  | e :: X, h => by
    refine ⟨?_, okEs_id fun x hx => h x (by simp [hx])⟩
    rcases h e (by simp) with ⟨es, rfl⟩ | rfl
    · exact .inl rfl
    · rfl
theorem okEs_fo {HS : List Src} {H : List Cell} : ∀ (L : List Fd), okEs HS H (L.map fo) (L.map fo)
  | [] => trivial
  | f :: L => ⟨⟨rfl, rfl, rfl, .inl rfl, .inl rfl, trivial⟩, okEs_fo L⟩
theorem okEs_out {HS : List Src} {H : List Cell} (L : List Fd) (f : Fd) (hc : f.claims = []) : okEs HS H (L.map fo ++ [.agg [ii f.holds, ii f.reserve, ii f.income, .nil, il f.cedes]]) (L.map fo ++ [fo f]) :=
  okEs_app2 (okEs_fo L) ⟨⟨rfl, rfl, rfl, .inr (.inl ⟨rfl, by simp [awl, hc]⟩), .inl rfl, trivial⟩, trivial⟩
def rowA (F : List Fd) (G : List Int) (n i : Nat) (x : AV) : List AV := (awAll F G i).map awl ++ x :: List.replicate (n - i - 1) .nil
def rowB (F : List Fd) (G : List Int) (n i : Nat) : List AV := (awAll F G i).map awl ++ List.replicate (n - i) .nil
variable {F : List Fd} {G : List Int} {n i : Nat}
theorem rowA_len (x : AV) (h : i < n) : (rowA F G n i x).length = n := by simp [rowA]; omega
theorem rowA_nth (x : AV) : nth (rowA F G n i x) i = x := nth_end (by simp)
theorem rowA_set (x y : AV) : (rowA F G n i x).set i y = rowA F G n i y := by
  unfold rowA
  rw [List.set_append_right _ _ (by simp)]
  simp
theorem rowB_A (h : i < n) : rowB F G n i = rowA F G n i .nil := by
  unfold rowB rowA
  rw [show n - i = (n - i - 1) + 1 by omega, List.replicate_succ]; rfl
theorem rowA_B (h : i < F.length) : rowA F G n i (awl (awK F G i F[i].claims.length)) = rowB F G n (i + 1) := by
  unfold rowB rowA
  rw [awAll_next h, List.map_append, List.map_cons, List.map_nil, List.append_assoc, show n - (i + 1) = n - i - 1 by omega]; rfl
theorem rowB_0 : rowB F G n 0 = List.replicate n .nil := by simp [rowB, awAll]
theorem rowB_n : rowB F G n n = (awAll F G n).map awl := by simp [rowB]
theorem slN_aw (L : List (List (Int × Int))) : slN (L.map awl) := fun e he => by
  obtain ⟨l, _, rfl⟩ := List.mem_map.1 he
  exact .inl ⟨_, rfl⟩
theorem slN_nil (k : Nat) : slN (List.replicate k .nil) := fun e he => .inr (List.eq_of_mem_replicate he)
theorem okEs_A {HS : List Src} {H : List Cell} {x y : AV} (h : okF HS H x y) : okEs HS H (rowA F G n i x) (rowA F G n i y) :=
  okEs_app2 (okEs_id (slN_aw _)) ⟨h, okEs_id (slN_nil _)⟩
theorem zone_awl (L : List (List (Int × Int))) : zoneEs (L.map awl) = true := zoneEs_map _ _ fun _ => rfl
theorem zone_cl (L : List (Int × Int)) : zoneEs (L.map cl) = true := zoneEs_map _ _ fun _ => rfl
theorem zone_fo (L : List Fd) : zoneEs (L.map fo) = true := zoneEs_map _ _ fun _ => rfl
def restG (G : List Int) (m : Nat) : List Int := G.drop m
theorem restG_0 (G : List Int) : restG G 0 = G := rfl
theorem restG_len (G : List Int) (m : Nat) : (restG G m).length = G.length - m := by simp [restG]
theorem restG_hd {m : Nat} (h : m < G.length) : nth ((restG G m).map ii) 0 = ii G[m] := by
  unfold restG; rw [List.drop_eq_getElem_cons h]; rfl
theorem restG_tl (G : List Int) (m : Nat) : ((restG G m).map ii).tail = (restG G (m + 1)).map ii := by
  unfold restG; rw [← List.map_tail, List.tail_drop]
theorem pay_bd {f : Fd} {q : Int} (h1 : 0 ≤ f.holds ∧ f.holds ≤ 1099511627776) (h2 : 0 ≤ f.reserve ∧ f.reserve ≤ 1099511627776) (h3 : 0 ≤ f.income ∧ f.income ≤ 1099511627776) (hq : 0 ≤ q) : 0 ≤ payV f q ∧ payV f q ≤ 3298534883328 ∧ payV f q ≤ q := by
  simp only [payV, freeV]; omega
theorem paid_bd {o : List Int} (hv : RV F) (ho : o.length = F.length) (hq : ∀ x ∈ o, 0 ≤ x) : ∀ k, k ≤ F.length → 0 ≤ paidK F o k ∧ paidK F o k ≤ 3298534883328 * k
  | 0, _ => by simp [paidK, sumI]
  | k + 1, hk => by
    have hk' : k < F.length := by omega
    rw [paidK_next hk' (by omega)]
    have := paid_bd hv ho hq k (by omega)
    have h := hv.at' k hk'
    have := pay_bd h.hol h.res h.inc (hq o[k] (List.getElem_mem (by omega)))
    omega
theorem asks_mem (hv : RV F) {x : Int} {k : Nat} (hx : x ∈ asksK F k) : 0 ≤ x ∧ x ≤ 1099511627776 := by
  obtain ⟨f, hf, h⟩ := List.mem_flatMap.1 hx
  obtain ⟨i, hi, rfl⟩ := List.getElem_of_mem (List.mem_of_mem_take hf)
  exact okCl_mem (hv.at' i hi).cla h
theorem asks_ok (hv : RV F) (k : Nat) : okC' (asksK F k) = true := List.all_eq_true.2 fun x hx => by
  have := asks_mem hv hx
  simp [inC, this.1, this.2]
noncomputable def gets (F : List Fd) : List Int := share (asksK F F.length) (paidK F (owedL F) F.length)
attribute [-simp] List.map_take
attribute [local irreducible] AWP Go.Ab.Sub Means MeansH CallK CallG CallT CallGT CallU
set_option maxHeartbeats 8000000 in
set_option maxRecDepth 20000 in
theorem year_m (F : List Fd) (hf : fewV F = true) (hr : rightV F = true) : Means false Try.prog 11 [.sl (F.map fo)] (.tup [.sl ((outK F (owedL F) F.length).map fo), .sl ((awAll F (gets F) F.length).map awl), ii 0]) := by
  have h5 := few_5 hf
  have hv := rv_of hr
  have c1 := owed_m F hf hr
  have hc := owned hv h5
  have hoL := ownL_len F
  have hol : (owedL F).length = F.length := by have := hc.len; unfold owedL; omega
  have hob : ∀ x ∈ owedL F, 0 ≤ x ∧ x ≤ 6597069766657 := hc.bd
  have hpb := paid_bd hv hol fun x hx => (hob x hx).1
  have ham := many_bd hf F.length (Nat.le_refl _)
  have hal : (asksK F F.length).length ≤ 40 := by rw [asksK_len F F.length (Nat.le_refl _)]; omega
  have hpn := hpb F.length (Nat.le_refl _)
  have hok : okC' (asksK F F.length) = true := asks_ok hv _
  have hrc : rightC (asksK F F.length) (paidK F (owedL F) F.length) = true := by
    simp only [rightC, hok, okH, Bool.true_and, Bool.and_eq_true, decide_eq_true_eq]
    omega
  have c2 := share_m (asksK F F.length) (by omega) (paidK F (owedL F) F.length)
  rw [if_pos hrc, if_pos hrc] at c2
  have hGl : (gets F).length = (asksK F F.length).length := share_len hok hpn.1
  have hG : share (asksK F F.length) (paidK F (owedL F) F.length) = gets F := rfl
  rw [hG] at c2
  generalize gets F = G at *
  generalize owedL F = o at *
  have hak := asksK_len F
  refine means_fn false 135 [.tmp 2, .tmp 3, .tmp 4] Try.func11 rfl rfl rfl (by simp) (by decide) rfl fun X hX => ?_
  (repeat (refine awp_stepG [0, 2, 3, 4, 5, 6, 7, 8, 9, 10, 11, 12, 13, 15, 16, 17, 18, 19, 21, 28, 30, 31, 32, 33, 75, 76, 77, 78, 95, 100, 101, 102, 103, 108, 109, 110, 111] hX mixed rfl ?_; (simp [go_sem]; try (refine ⟨by kernel_rfl, ?_⟩))))
  first | refine callKa (c1) ?_ | refine callTa (c1) ?_
  try (simp [go_sem]; try (refine ⟨by kernel_rfl, ?_⟩))
  (repeat (refine awp_stepG [0, 2, 3, 4, 5, 6, 7, 8, 9, 10, 11, 12, 13, 15, 16, 17, 18, 19, 21, 28, 30, 31, 32, 33, 75, 76, 77, 78, 95, 100, 101, 102, 103, 108, 109, 110, 111] hX mixed rfl ?_; (simp [go_sem]; try (refine ⟨by kernel_rfl, ?_⟩))))
  refine awp_cond (b := false) (by simp [go_sem]) (fun h => by cases h) (fun _ => ?_)
  (repeat (refine awp_stepG [0, 2, 3, 4, 5, 6, 7, 8, 9, 10, 11, 12, 13, 15, 16, 17, 18, 19, 21, 28, 30, 31, 32, 33, 75, 76, 77, 78, 95, 100, 101, 102, 103, 108, 109, 110, 111] hX mixed rfl ?_; (simp [go_sem]; try (refine ⟨by kernel_rfl, ?_⟩))))
  refine awp_loop (fun k : Nat => ⟨mkE [(0, .sl (F.map fo)), (5, il o), (7, .ow 0), (8, .ow 1), (9, ii (paidK F o k)), (30, .sl (F.map fo)), (31, ii F.length), (32, ii k)], [.row ⟨36, 5, (outK F o k).map fo⟩, .row ⟨3, 1, (asksK F k).map ii⟩]⟩) (fun k => k ≤ F.length) (fun k => F.length - k) 0 ?_ ?_ ?_
  · refine sub_of _ [.birth 36 5, .birth 3 1] (by simp [go_sem]) ?_
    simp [go_sem, outK, asksK, paidK, sumI]
  · omega
  · intro k hk
    have hpk := hpb k hk
    have hmk := many_bd hf k hk
    have hakl := hak k hk
    (repeat (refine awp_stepG [0, 2, 3, 4, 5, 6, 7, 8, 9, 10, 11, 12, 13, 15, 16, 17, 18, 19, 21, 28, 30, 31, 32, 33, 75, 76, 77, 78, 95, 100, 101, 102, 103, 108, 109, 110, 111] hX mixed rfl ?_; (simp [go_sem]; try (refine ⟨by kernel_rfl, ?_⟩))))
    refine awp_cond (b := decide (k < F.length)) (by simp [go_sem]) (fun hb => ?_) (fun hb => ?_)
    · simp at hb
      have hko : k < o.length := by omega
      have hcl := few_at hf (List.getElem_mem hb)
      have hat := hv.at' k hb
      have e1 := outK_next (o := o) hb hko
      have e2 := paidK_next (o := o) hb hko
      have e3 := asksK_next hb
      have hpk1 := hpb (k + 1) (by omega)
      have hq := hob o[k] (List.getElem_mem hko)
      have hpp := pay_bd hat.hol hat.res hat.inc hq.1
      have hw1 := w64 (x := F[k].income + F[k].holds) (by have := hat.inc; have := hat.hol; omega) (by have := hat.inc; have := hat.hol; omega)
      have hw2 := w64 (x := F[k].income + F[k].holds + F[k].reserve) (by have := hat.inc; have := hat.hol; have := hat.res; omega) (by have := hat.inc; have := hat.hol; have := hat.res; omega)
      simp only [payV, freeV] at hpp e2
      have hw3 := w64 (x := paidK F o k + min o[k] (F[k].income + F[k].holds + F[k].reserve)) (by omega) (by omega)
      have hw4 := w64 (x := F[k].income + F[k].holds - min o[k] (min (F[k].income + F[k].holds + F[k].reserve) (F[k].income + F[k].holds))) (by have := hat.inc; have := hat.hol; have := hat.res; omega) (by have := hat.inc; have := hat.hol; have := hat.res; omega)
      have hw5 := w64 (x := min o[k] (F[k].income + F[k].holds + F[k].reserve) - min o[k] (min (F[k].income + F[k].holds + F[k].reserve) (F[k].income + F[k].holds))) (by have := hat.inc; have := hat.hol; have := hat.res; omega) (by have := hat.inc; have := hat.hol; have := hat.res; omega)
      have hw6 := w64 (x := F[k].reserve - (min o[k] (F[k].income + F[k].holds + F[k].reserve) - min o[k] (min (F[k].income + F[k].holds + F[k].reserve) (F[k].income + F[k].holds)))) (by have := hat.inc; have := hat.hol; have := hat.res; omega) (by have := hat.inc; have := hat.hol; have := hat.res; omega)
      have hk4 := outK_len F o k
      have hcla := hat.cla
      have hced := hat.len
      (repeat (refine awp_stepG [0, 2, 3, 4, 5, 6, 7, 8, 9, 10, 11, 12, 13, 15, 16, 17, 18, 19, 21, 28, 30, 31, 32, 33, 75, 76, 77, 78, 95, 100, 101, 102, 103, 108, 109, 110, 111] hX mixed rfl ?_; (simp [go_sem, hb, hko, hw1, hw2, hw3]; try (refine ⟨by kernel_rfl, ?_⟩))))
      first | refine callKa (clone_m F[k].cedes (by omega)) ?_ | refine callTa (clone_m F[k].cedes (by omega)) ?_
      try (simp [go_sem, hw4, hw5, hw6, hk4]; try (refine ⟨by kernel_rfl, ?_⟩))
      (repeat refine And.intro (by first | omega | (unfold maxLen; omega) | kernel_rfl | (refine ⟨by first | omega | (unfold maxLen; omega), by first | omega | (unfold maxLen; omega)⟩) | grind) ?_)
      (repeat (refine awp_stepG [0, 2, 3, 4, 5, 6, 7, 8, 9, 10, 11, 12, 13, 15, 16, 17, 18, 19, 21, 28, 30, 31, 32, 33, 75, 76, 77, 78, 95, 100, 101, 102, 103, 108, 109, 110, 111] hX mixed rfl ?_; (simp [go_sem, hw4, hw5, hw6, hk4]; try (refine ⟨by kernel_rfl, ?_⟩))))
      refine awp_loop (fun j : Nat => ⟨mkE [(0, .sl (F.map fo)), (5, il o), (7, .ow 0), (8, .ow 1), (9, ii (paidK F o (k + 1))), (30, .sl (F.map fo)), (31, ii F.length), (32, ii k), (75, awl F[k].claims), (76, ii F[k].claims.length), (77, ii j)], [.row ⟨36, 5, (outK F o (k + 1)).map fo⟩, .row ⟨3, 1, (asksJ F k j).map ii⟩]⟩) (fun j => j ≤ F[k].claims.length) (fun j => F[k].claims.length - j) 0 ?_ ?_ ?_
      · have za := zoneI (asksK F k)
        rw [asksJ_0, e1]
        refine sub_of _ [.old 4 ⟨36, 5, (outK F o k ++ [outF F[k] o[k]]).map fo⟩, .old 1 ⟨3, 1, (asksK F k).map ii⟩] ⟨⟨⟨rfl, rfl⟩, .inr ?_⟩, rfl, ⟨⟨rfl, rfl⟩, .inl ⟨rfl, za⟩⟩, rfl, trivial⟩ ?_
        · rw [List.map_append]; exact okEs_out (outK F o k) (outF F[k] o[k]) rfl
        · simp [go_sem, e2]
      · omega
      · intro j hj
        have lj := asksJ_len hb hj
        (repeat (refine awp_stepG [0, 2, 3, 4, 5, 6, 7, 8, 9, 10, 11, 12, 13, 15, 16, 17, 18, 19, 21, 28, 30, 31, 32, 33, 75, 76, 77, 78, 95, 100, 101, 102, 103, 108, 109, 110, 111] hX mixed rfl ?_; (simp [go_sem]; try (refine ⟨by kernel_rfl, ?_⟩))))
        refine awp_cond (b := decide (j < F[k].claims.length)) (by simp [go_sem]) (fun hc => ?_) (fun hc => ?_)
        · simp at hc
          have ej := asksJ_next hb hc
          (repeat (refine awp_stepG [0, 2, 3, 4, 5, 6, 7, 8, 9, 10, 11, 12, 13, 15, 16, 17, 18, 19, 21, 28, 30, 31, 32, 33, 75, 76, 77, 78, 95, 100, 101, 102, 103, 108, 109, 110, 111] hX mixed rfl ?_; (simp [go_sem, hc]; try (refine ⟨by kernel_rfl, ?_⟩))))
          (repeat refine And.intro (by first | omega | (unfold maxLen; omega) | kernel_rfl | (refine ⟨by first | omega | (unfold maxLen; omega), by first | omega | (unfold maxLen; omega)⟩) | grind) ?_)
          (repeat (refine awp_stepG [0, 2, 3, 4, 5, 6, 7, 8, 9, 10, 11, 12, 13, 15, 16, 17, 18, 19, 21, 28, 30, 31, 32, 33, 75, 76, 77, 78, 95, 100, 101, 102, 103, 108, 109, 110, 111] hX mixed rfl ?_; (simp [go_sem, hc, lj]; (try simp (disch := omega) only [w64, td, tm]); try (refine ⟨by kernel_rfl, ?_⟩))))
          (repeat refine And.intro (by first | omega | (unfold maxLen; omega) | kernel_rfl | (refine ⟨by first | omega | (unfold maxLen; omega), by first | omega | (unfold maxLen; omega)⟩) | grind) ?_)
          (repeat (refine awp_stepG [0, 2, 3, 4, 5, 6, 7, 8, 9, 10, 11, 12, 13, 15, 16, 17, 18, 19, 21, 28, 30, 31, 32, 33, 75, 76, 77, 78, 95, 100, 101, 102, 103, 108, 109, 110, 111] hX mixed rfl ?_; (simp [go_sem, hc, lj]; (try simp (disch := omega) only [w64, td, tm]); try (refine ⟨by kernel_rfl, ?_⟩))))
          refine ⟨j + 1, by omega, by omega, ?_⟩
          rw [ej]
          refine sub_of _ [.old 0 ⟨36, 5, (outK F o (k + 1)).map fo⟩, .old 4 ⟨3, 1, (asksJ F k j ++ [F[k].claims[j].2]).map ii⟩] (by simp [go_sem, zone_fo]) ?_
          simp [go_sem]
        · have hjl : j = F[k].claims.length := by simp at hc; omega
          subst hjl
          rw [asksJ_all hb]
          (repeat (refine awp_stepG [0, 2, 3, 4, 5, 6, 7, 8, 9, 10, 11, 12, 13, 15, 16, 17, 18, 19, 21, 28, 30, 31, 32, 33, 75, 76, 77, 78, 95, 100, 101, 102, 103, 108, 109, 110, 111] hX mixed rfl ?_; (simp [go_sem]; (try simp (disch := omega) only [w64, td, tm]); try (refine ⟨by kernel_rfl, ?_⟩))))
          refine ⟨k + 1, by omega, by omega, ?_⟩
          refine sub_of _ [.old 0 ⟨36, 5, (outK F o (k + 1)).map fo⟩, .old 1 ⟨3, 1, (asksK F (k + 1)).map ii⟩] (by simp [go_sem, zone_fo]) ?_
          simp [go_sem]
    · have hkl : k = F.length := by simp at hb; omega
      subst hkl
      (repeat (refine awp_stepG [0, 2, 3, 4, 5, 6, 7, 8, 9, 10, 11, 12, 13, 15, 16, 17, 18, 19, 21, 28, 30, 31, 32, 33, 75, 76, 77, 78, 95, 100, 101, 102, 103, 108, 109, 110, 111] hX mixed rfl ?_; (simp [go_sem]; try (refine ⟨by kernel_rfl, ?_⟩))))
      first | refine callKa (c2) ?_ | refine callTa (c2) ?_
      try (simp [go_sem]; try (refine ⟨by kernel_rfl, ?_⟩))
      (repeat (refine awp_stepG [0, 2, 3, 4, 5, 6, 7, 8, 9, 10, 11, 12, 13, 15, 16, 17, 18, 19, 21, 28, 30, 31, 32, 33, 75, 76, 77, 78, 95, 100, 101, 102, 103, 108, 109, 110, 111] hX mixed rfl ?_; (simp [go_sem]; try (refine ⟨by kernel_rfl, ?_⟩))))
      refine awp_cond (b := false) (by simp [go_sem]) (fun h => by cases h) (fun _ => ?_)
      (repeat (refine awp_stepG [0, 2, 3, 4, 5, 6, 7, 8, 9, 10, 11, 12, 13, 15, 16, 17, 18, 19, 21, 28, 30, 31, 32, 33, 75, 76, 77, 78, 95, 100, 101, 102, 103, 108, 109, 110, 111] hX mixed rfl ?_; (simp [go_sem]; try (refine ⟨by kernel_rfl, ?_⟩))))
      (repeat refine And.intro (by first | omega | (unfold maxLen; omega) | kernel_rfl | (refine ⟨by first | omega | (unfold maxLen; omega), by first | omega | (unfold maxLen; omega)⟩) | grind) ?_)
      (repeat (refine awp_stepG [0, 2, 3, 4, 5, 6, 7, 8, 9, 10, 11, 12, 13, 15, 16, 17, 18, 19, 21, 28, 30, 31, 32, 33, 75, 76, 77, 78, 95, 100, 101, 102, 103, 108, 109, 110, 111] hX mixed rfl ?_; (simp [go_sem]; try (refine ⟨by kernel_rfl, ?_⟩))))
      refine awp_loop (fun i : Nat => ⟨mkE [(7, .sl ((outK F o F.length).map fo)), (16, il (restG G (asksK F i).length)), (17, .ow 0), (100, .sl (F.map fo)), (101, ii F.length), (102, ii i)], [.row ⟨34, 1, rowB F G F.length i⟩]⟩) (fun i => i ≤ F.length) (fun i => F.length - i) 0 ?_ ?_ ?_
      · have a0 : (asksK F 0).length = 0 := by simp [asksK]
        have zo := zone_fo (outK F o F.length)
        rw [rowB_0, a0, restG_0]
        refine sub_of _ [.old 2 ⟨34, 1, List.replicate F.length .nil⟩] (by simp [go_sem]) ?_
        simp [go_sem, zo]
      · omega
      · intro i hi
        (repeat (refine awp_stepG [0, 2, 3, 4, 5, 6, 7, 8, 9, 10, 11, 12, 13, 15, 16, 17, 18, 19, 21, 28, 30, 31, 32, 33, 75, 76, 77, 78, 95, 100, 101, 102, 103, 108, 109, 110, 111] hX mixed rfl ?_; (simp [go_sem]; try (refine ⟨by kernel_rfl, ?_⟩))))
        refine awp_cond (b := decide (i < F.length)) (by simp [go_sem]) (fun hb => ?_) (fun hb => ?_)
        · simp at hb
          have hcl := few_at hf (List.getElem_mem hb)
          have hmn := hak (i + 1) (by omega)
          have hmi := hak i hi
          have hma := hak F.length (Nat.le_refl _)
          have hle : (asksK F (i + 1)).length ≤ (asksK F F.length).length := by
            have : asksK F F.length = asksK F (i + 1) ++ (F.drop (i + 1)).flatMap fun f => nums f.claims := by
              unfold asksK; rw [← List.flatMap_append, List.take_append_drop, List.take_length]
            rw [this, List.length_append]; omega
          have hne := asksK_next hb
          have hnl : (asksK F (i + 1)).length = (asksK F i).length + F[i].claims.length := by rw [hne, List.length_append, nums_len]
          (repeat (refine awp_stepG [0, 2, 3, 4, 5, 6, 7, 8, 9, 10, 11, 12, 13, 15, 16, 17, 18, 19, 21, 28, 30, 31, 32, 33, 75, 76, 77, 78, 95, 100, 101, 102, 103, 108, 109, 110, 111] hX mixed rfl ?_; (simp [go_sem, hb]; try (refine ⟨by kernel_rfl, ?_⟩))))
          refine awp_loop (fun j : Nat => ⟨mkE [(7, .sl ((outK F o F.length).map fo)), (16, il (restG G ((asksK F i).length + j))), (17, .ow 0), (18, ii i), (100, .sl (F.map fo)), (101, ii F.length), (102, ii i), (108, awl F[i].claims), (109, ii F[i].claims.length), (110, ii j)], [.row ⟨34, 1, rowA F G F.length i (.ow 1)⟩, .row ⟨38, 2, (awK F G i j).map cl⟩]⟩) (fun j => j ≤ F[i].claims.length) (fun j => F[i].claims.length - j) 0 ?_ ?_ ?_
          · rw [rowB_A hb]
            refine sub_of _ [.old 0 ⟨34, 1, rowA F G F.length i (.ow 1)⟩, .birth 38 2] ⟨⟨⟨rfl, rfl⟩, .inr (okEs_A rfl)⟩, rfl, trivial⟩ ?_
            simp [go_sem]
          · omega
          · intro j hj
            have hal := awK_len F G i j
            (repeat (refine awp_stepG [0, 2, 3, 4, 5, 6, 7, 8, 9, 10, 11, 12, 13, 15, 16, 17, 18, 19, 21, 28, 30, 31, 32, 33, 75, 76, 77, 78, 95, 100, 101, 102, 103, 108, 109, 110, 111] hX mixed rfl ?_; (simp [go_sem]; try (refine ⟨by kernel_rfl, ?_⟩))))
            refine awp_cond (b := decide (j < F[i].claims.length)) (by simp [go_sem]) (fun hc => ?_) (fun hc => ?_)
            · simp at hc
              have hg : (asksK F i).length + j < G.length := by omega
              have hrl := restG_len G ((asksK F i).length + j)
              have hrh := restG_hd hg
              have hrt := restG_tl G ((asksK F i).length + j)
              have hrn := rowA_nth (F := F) (G := G) (n := F.length) (i := i) (.ow 1)
              have hrL := rowA_len (F := F) (G := G) (.ow 1) hb
              have hrs := fun y => rowA_set (F := F) (G := G) (n := F.length) (i := i) (.ow 1) y
              have hr0 : 0 < G.length - ((asksK F i).length + j) := by omega
              (repeat (refine awp_stepG [0, 2, 3, 4, 5, 6, 7, 8, 9, 10, 11, 12, 13, 15, 16, 17, 18, 19, 21, 28, 30, 31, 32, 33, 75, 76, 77, 78, 95, 100, 101, 102, 103, 108, 109, 110, 111] hX mixed rfl ?_; (simp [go_sem, hc, hb, hrl, hrh, hrn, hrL, hal, hr0, hrs, hrt]; try (refine ⟨by kernel_rfl, ?_⟩))))
              (repeat refine And.intro (by first | omega | (unfold maxLen; omega) | kernel_rfl | (refine ⟨by first | omega | (unfold maxLen; omega), by first | omega | (unfold maxLen; omega)⟩) | grind) ?_)
              (repeat (refine awp_stepG [0, 2, 3, 4, 5, 6, 7, 8, 9, 10, 11, 12, 13, 15, 16, 17, 18, 19, 21, 28, 30, 31, 32, 33, 75, 76, 77, 78, 95, 100, 101, 102, 103, 108, 109, 110, 111] hX mixed rfl ?_; (simp [go_sem]; (try simp (disch := omega) only [w64, td, tm]); try (refine ⟨by kernel_rfl, ?_⟩))))
              refine ⟨j + 1, by omega, by omega, ?_⟩
              rw [awK_next hb hc hg, ← Nat.add_assoc]
              refine sub_of _ [.old 0 ⟨34, 1, rowA F G F.length i (.ow 1)⟩, .old 4 ⟨38, 2, (awK F G i j ++ [(F[i].claims[j].1, G[(asksK F i).length + j])]).map cl⟩] ⟨⟨⟨rfl, rfl⟩, .inr (okEs_A rfl)⟩, rfl, ⟨⟨rfl, rfl⟩, .inl ⟨?_, zone_cl _⟩⟩, rfl, trivial⟩ ?_
              · simp [go_sem]
              · simp [go_sem]
            · have hjl : j = F[i].claims.length := by simp at hc; omega
              subst hjl
              (repeat (refine awp_stepG [0, 2, 3, 4, 5, 6, 7, 8, 9, 10, 11, 12, 13, 15, 16, 17, 18, 19, 21, 28, 30, 31, 32, 33, 75, 76, 77, 78, 95, 100, 101, 102, 103, 108, 109, 110, 111] hX mixed rfl ?_; (simp [go_sem]; (try simp (disch := omega) only [w64, td, tm]); try (refine ⟨by kernel_rfl, ?_⟩))))
              refine ⟨i + 1, by omega, by omega, ?_⟩
              rw [← rowA_B hb, hnl]
              refine sub_of _ [.old 0 ⟨34, 1, rowA F G F.length i (awl (awK F G i F[i].claims.length))⟩] ⟨⟨⟨rfl, rfl⟩, .inr (okEs_A (.inr (.inr (.inl ⟨1, _, rfl, rfl, rfl, zone_cl _, rfl⟩))))⟩, rfl, trivial⟩ ?_
              simp [go_sem]
        · have hin : i = F.length := by simp at hb; omega
          subst hin
          rw [rowB_n]
          have zw := zone_awl (awAll F G F.length)
          (repeat (refine awp_stepG [0, 2, 3, 4, 5, 6, 7, 8, 9, 10, 11, 12, 13, 15, 16, 17, 18, 19, 21, 28, 30, 31, 32, 33, 75, 76, 77, 78, 95, 100, 101, 102, 103, 108, 109, 110, 111] hX mixed rfl ?_; (simp [go_sem, zw]; try (refine ⟨by kernel_rfl, ?_⟩))))
          try rfl
end Go.Proofs.Ytndiamkmcoghdaa

namespace Go.Proofs.Ytndiamkmcoghdaa
open Go.RowKit Go.Ab
def fewF (f : Fd) : Bool := decide (f.claims.length ≤ 8) && decide (f.cedes.length ≤ 14)
def allF (F : List Fd) : Bool := F.all fewF
theorem fewV_eq (F : List Fd) : fewV F = (allF F && decide (F.length ≤ 5)) := rfl
def hasF (f : Fd) : Int := f.income + f.holds + f.reserve
def hasV (F : List Fd) : Int := sumI (F.map hasF)
structure AmF (f : Fd) : Prop where
  h : 0 ≤ f.holds ∧ f.holds ≤ 3298534883328
  r : 0 ≤ f.reserve ∧ f.reserve ≤ 3298534883328
  i : 0 ≤ f.income ∧ f.income ≤ 3298534883328
theorem AmF.bd {f : Fd} (h : AmF f) : 0 ≤ hasF f ∧ hasF f ≤ 9895604649984 := by
  have := h.h; have := h.r; have := h.i; unfold hasF; omega
theorem has_bd {F : List Fd} (h : ∀ f ∈ F, AmF f) : ∀ k, k ≤ F.length → 0 ≤ sumI ((F.map hasF).take k) ∧ sumI ((F.map hasF).take k) ≤ 9895604649984 * k
  | 0, _ => by simp [sumI]
  | k + 1, hk => by
    have hk2 : k < (F.map hasF).length := by rw [List.length_map]; omega
    rw [sumI_next hk2]
    have := has_bd h k (by omega)
    have := (h F[k] (List.getElem_mem (by omega))).bd
    rw [List.getElem_map]
    omega
theorem RV.am {F : List Fd} (h : RV F) : ∀ f ∈ F, AmF f := fun f hf => by
  obtain ⟨i, hi, rfl⟩ := List.getElem_of_mem hf
  have := h.at' i hi
  have h1 := this.hol; have h2 := this.res; have h3 := this.inc
  exact ⟨by omega, by omega, by omega⟩
theorem out_am {f : Fd} (hh : 0 ≤ f.holds ∧ f.holds ≤ 1099511627776) (hr : 0 ≤ f.reserve ∧ f.reserve ≤ 1099511627776) (hi : 0 ≤ f.income ∧ f.income ≤ 1099511627776) {q : Int} (hq : 0 ≤ q) : AmF (outF f q) := by
  unfold outF
  refine ⟨?_, ?_, ?_⟩ <;> simp only [freeV] <;> omega
theorem has_out (f : Fd) (q : Int) : hasF (outF f q) = hasF f - payV f q := by
  unfold hasF outF; simp only [freeV, payV]; omega
theorem out_get {F : List Fd} {o : List Int} {n i : Nat} (hn : i < n) (hi : i < F.length) (ho : i < o.length) (h' : i < (outK F o n).length) : (outK F o n)[i] = outF F[i] o[i] := by
  simp only [outK, List.getElem_map, List.getElem_range, getF hi, getD_at ho]
theorem aw_get {F : List Fd} {G : List Int} {n i : Nat} (hn : i < n) (hi : i < F.length) (h' : i < (awAll F G n).length) : (awAll F G n)[i] = awK F G i F[i].claims.length := by
  simp only [awAll, List.getElem_map, List.getElem_range, getF hi]
theorem awK_get {F : List Fd} {G : List Int} {i j m : Nat} (hi : i < F.length) (hj : j < m) (hc : j < F[i].claims.length) (hg : (asksK F i).length + j < G.length) (h' : j < (awK F G i m).length) : (awK F G i m)[j] = (F[i].claims[j].1, G[(asksK F i).length + j]) := by
  simp only [awK, List.getElem_map, List.getElem_range, getF hi, getD_at hg]
  congr 2
  rw [List.getD_eq_getElem?_getD, List.getElem?_eq_getElem hc]; rfl
attribute [-simp] List.map_take
attribute [local irreducible] AWP Go.Ab.Sub Means MeansH CallK CallG CallT CallGT CallU
set_option maxRecDepth 20000 in
theorem pfew_m (F : List Fd) (hl : F.length ≤ 9223372036854775807) : Means true Try.prog 8 [.sl (F.map fo)] (bb (fewV F)) := by
  refine means_fn true 33 [.tmp 2] Try.func8 rfl rfl rfl (by simp) (by decide) rfl fun X hX => ?_
  (repeat (refine awp_stepG [0, 2, 3, 11, 29] hX mixed rfl ?_; (simp [go_sem]; try (refine ⟨by kernel_rfl, ?_⟩))))
  refine awp_loop (fun k : Nat => ⟨mkE [(0, .sl (F.map fo)), (2, bb false), (3, ii k)], []⟩) (fun k => (k ≤ F.length ∧ k ≤ 6) ∧ allF (F.take k) = true) (fun k => F.length - k) 0 ?_ ?_ ?_
  · refine sub_of _ [] (by simp [go_sem]) ?_
    simp [go_sem]
  · exact ⟨by omega, rfl⟩
  · rintro k ⟨⟨hk, hk6⟩, ha⟩
    (repeat (refine awp_stepG [0, 2, 3, 11, 29] hX mixed rfl ?_; (simp [go_sem]; try (refine ⟨by kernel_rfl, ?_⟩))))
    refine awp_cond (b := decide (k < F.length) && decide ((k : Int) < 6)) (by simp [go_sem]) (fun hb => ?_) (fun hb => ?_)
    · simp only [Bool.and_eq_true, decide_eq_true_eq] at hb
      obtain ⟨hb, hb6⟩ := hb
      (repeat (refine awp_stepG [0, 2, 3, 11, 29] hX mixed rfl ?_; (simp [go_sem, hb]; try (refine ⟨by kernel_rfl, ?_⟩))))
      cases hf : fewF F[k] with
      | true =>
        have h2 : F[k].claims.length ≤ 8 ∧ F[k].cedes.length ≤ 14 := by simpa [fewF] using hf
        refine awp_cond (b := false) (by simp [go_sem]; omega) (fun h => by cases h) (fun _ => ?_)
        (repeat (refine awp_stepG [0, 2, 3, 11, 29] hX mixed rfl ?_; (simp [go_sem, hb]; (try simp (disch := omega) only [w64, td, tm]); try (refine ⟨by kernel_rfl, ?_⟩))))
        refine ⟨k + 1, ⟨by omega, ?_⟩, by omega, ?_⟩
        · unfold allF at *; rw [List.take_succ_eq_append_getElem hb, List.all_append, ha]; simp [hf]
        · refine sub_of _ [] (by simp [go_sem]) ?_
          simp [go_sem]
      | false =>
        have h2 : 8 < F[k].claims.length ∨ 14 < F[k].cedes.length := by
          simp only [fewF, Bool.and_eq_false_iff, decide_eq_false_iff_not] at hf
          omega
        have hF : fewV F = false := by
          have : allF F = false := List.all_eq_false.2 ⟨F[k], List.getElem_mem hb, by simp [hf]⟩
          rw [fewV_eq, this]; rfl
        refine awp_cond (b := true) (by simp [go_sem]; omega) (fun _ => ?_) (fun h => by cases h)
        rw [hF]
        (repeat (refine awp_stepG [0, 2, 3, 11, 29] hX mixed rfl ?_; (simp [go_sem]; try (refine ⟨by kernel_rfl, ?_⟩))))
    · simp only [Bool.and_eq_false_iff, decide_eq_false_iff_not] at hb
      (repeat (refine awp_stepG [0, 2, 3, 11, 29] hX mixed rfl ?_; (simp [go_sem]; try (refine ⟨by kernel_rfl, ?_⟩))))
      rw [fewV_eq]
      by_cases h5 : F.length ≤ 5
      · have hkl : k = F.length := by omega
        subst hkl
        rw [List.take_length] at ha
        simp [ha]; omega
      · simp [h5]; omega
theorem pints_m (a b : List Int) (hla : a.length ≤ 9223372036854775807) (hlb : b.length ≤ 9223372036854775807) : Means true Try.prog 21 [il a, il b] (bb (decide (a = b))) := by
  refine means_fn true 26 [.tmp 4] Try.func21 rfl rfl rfl (by simp) (by decide) rfl fun X hX => ?_
  by_cases hl : a.length = b.length
  · (repeat (refine awp_stepG [0, 1, 4, 5, 10, 14, 25] hX mixed rfl ?_; (simp [go_sem, hl]; try (refine ⟨by kernel_rfl, ?_⟩))))
    refine awp_cond (b := false) (by simp [go_sem, hl]) (fun hb => by cases hb) (fun _ => ?_)
    (repeat (refine awp_stepG [0, 1, 4, 5, 10, 14, 25] hX mixed rfl ?_; (simp [go_sem]; try (refine ⟨by kernel_rfl, ?_⟩))))
    refine awp_loop (fun n : Nat => ⟨mkE [(0, il a), (1, il b), (5, ii n)], []⟩) (fun n => n ≤ a.length ∧ a.take n = b.take n) (fun n => a.length - n) 0 ?_ ?_ ?_
    · refine sub_of _ [] (by simp [go_sem]) ?_
      simp [go_sem]
    · exact ⟨Nat.zero_le _, by simp⟩
    · rintro n ⟨hn, he⟩
      (repeat (refine awp_stepG [0, 1, 4, 5, 10, 14, 25] hX mixed rfl ?_; (simp [go_sem]; try (refine ⟨by kernel_rfl, ?_⟩))))
      refine awp_cond (b := decide (n < a.length)) (by simp [go_sem]) (fun hd2 => ?_) (fun hd2 => ?_)
      · simp at hd2
        have h2 : n < b.length := by omega
        (repeat (refine awp_stepG [0, 1, 4, 5, 10, 14, 25] hX mixed rfl ?_; (simp [go_sem, hd2, h2]; (try simp (disch := omega) only [w64, td, tm]); try (refine ⟨by kernel_rfl, ?_⟩))))
        (repeat refine And.intro (by first | omega | (unfold maxLen; omega) | kernel_rfl | (refine ⟨by first | omega | (unfold maxLen; omega), by first | omega | (unfold maxLen; omega)⟩) | grind) ?_)
        try (simp [go_sem, hd2, h2]; try (refine ⟨by kernel_rfl, ?_⟩))
        refine awp_cond (b := decide (a[n] ≠ b[n])) (by simp [go_sem, hd2, h2]; try omega) (fun hc => ?_) (fun hc => ?_)
        · simp only [decide_eq_true_eq] at hc
          have hne : ¬ a = b := fun e => hc (by simp only [e])
          (repeat (refine awp_stepG [0, 1, 4, 5, 10, 14, 25] hX mixed rfl ?_; (simp [go_sem, hne]; try (refine ⟨by kernel_rfl, ?_⟩))))
        · simp at hc
          (repeat (refine awp_stepG [0, 1, 4, 5, 10, 14, 25] hX mixed rfl ?_; (simp [go_sem]; (try simp (disch := omega) only [w64, td, tm]); try (refine ⟨by kernel_rfl, ?_⟩))))
          refine ⟨n + 1, ⟨by omega, ?_⟩, by omega, ?_⟩
          · rw [List.take_succ_eq_append_getElem hd2, List.take_succ_eq_append_getElem h2, he, hc]
          · refine sub_of _ [] (by simp [go_sem]) ?_
            simp [go_sem]
      · have hnl : n = a.length := by simp at hd2; omega
        subst hnl
        have hab : a = b := by rwa [List.take_length, hl, List.take_length] at he
        (repeat (refine awp_stepG [0, 1, 4, 5, 10, 14, 25] hX mixed rfl ?_; (simp [go_sem, hab]; try (refine ⟨by kernel_rfl, ?_⟩))))
  · have hne : ¬ a = b := fun e => hl (by rw [e])
    (repeat (refine awp_stepG [0, 1, 4, 5, 10, 14, 25] hX mixed rfl ?_; (simp [go_sem, hl]; try (refine ⟨by kernel_rfl, ?_⟩))))
    refine awp_cond (b := true) (by simp [go_sem, hl]; try omega) (fun _ => ?_) (fun hb => by cases hb)
    (repeat (refine awp_stepG [0, 1, 4, 5, 10, 14, 25] hX mixed rfl ?_; (simp [go_sem, hne]; try (refine ⟨by kernel_rfl, ?_⟩))))
theorem cl_eq (a b : Int × Int) : a = b ↔ a.1 = b.1 ∧ a.2 = b.2 := Prod.ext_iff
set_option maxRecDepth 20000 in
theorem paws_m (a b : List (Int × Int)) (hla : a.length ≤ 9223372036854775807) : Means true Try.prog 48 [awl a, awl b] (bb (decide (a = b))) := by
  refine means_fn true 26 [.tmp 4] Try.func48 rfl rfl rfl (by simp) (by decide) rfl fun X hX => ?_
  (repeat (refine awp_stepG [0, 1, 4, 5, 10, 14, 25] hX mixed rfl ?_; (simp [go_sem]; try (refine ⟨by kernel_rfl, ?_⟩))))
  refine awp_cond (b := !decide ((a.length : Int) = b.length)) (by simp [go_sem]) (fun hb => ?_) (fun hb => ?_)
  · simp at hb
    (repeat (refine awp_stepG [0, 1, 4, 5, 10, 14, 25] hX mixed rfl ?_; (simp [go_sem]; try (refine ⟨by kernel_rfl, ?_⟩))))
    have : a ≠ b := by rintro rfl; exact hb rfl
    simp [this]
  · simp at hb
    have hb : a.length = b.length := by omega
    (repeat (refine awp_stepG [0, 1, 4, 5, 10, 14, 25] hX mixed rfl ?_; (simp [go_sem]; try (refine ⟨by kernel_rfl, ?_⟩))))
    refine awp_loop (fun k : Nat => ⟨mkE [(0, awl a), (1, awl b), (4, bb false), (5, ii k)], []⟩) (fun k => k ≤ a.length ∧ a.take k = b.take k) (fun k => a.length - k) 0 ?_ ?_ ?_
    · refine sub_of _ [] (by simp [go_sem]) ?_
      simp [go_sem]
    · simp
    · rintro k ⟨hk, hn⟩
      (repeat (refine awp_stepG [0, 1, 4, 5, 10, 14, 25] hX mixed rfl ?_; (simp [go_sem]; try (refine ⟨by kernel_rfl, ?_⟩))))
      refine awp_cond (b := decide (k < a.length)) (by simp [go_sem]) (fun hc => ?_) (fun hc => ?_)
      · simp at hc
        have hc' : k < b.length := by omega
        (repeat (refine awp_stepG [0, 1, 4, 5, 10, 14, 25] hX mixed rfl ?_; (simp [go_sem, hc, hc']; try (refine ⟨by kernel_rfl, ?_⟩))))
        refine awp_cond (b := !decide (a[k] = b[k])) (by simp [go_sem, cl_eq]) (fun hd => ?_) (fun hd => ?_)
        · simp at hd
          (repeat (refine awp_stepG [0, 1, 4, 5, 10, 14, 25] hX mixed rfl ?_; (simp [go_sem]; try (refine ⟨by kernel_rfl, ?_⟩))))
          have : a ≠ b := by rintro rfl; exact hd rfl
          simp [this]
        · simp at hd
          (repeat (refine awp_stepG [0, 1, 4, 5, 10, 14, 25] hX mixed rfl ?_; (simp [go_sem]; (try simp (disch := omega) only [w64, td, tm]); try (refine ⟨by kernel_rfl, ?_⟩))))
          refine ⟨k + 1, ⟨by omega, by rw [List.take_succ_eq_append_getElem hc, List.take_succ_eq_append_getElem hc', hn, hd]⟩, by omega, ?_⟩
          refine sub_of _ [] (by simp [go_sem]) ?_
          simp [go_sem]
      · simp at hc
        (repeat (refine awp_stepG [0, 1, 4, 5, 10, 14, 25] hX mixed rfl ?_; (simp [go_sem]; try (refine ⟨by kernel_rfl, ?_⟩))))
        have : k = a.length := by omega
        subst this
        rw [List.take_length, hb, List.take_length] at hn
        simp [hn]
set_option maxRecDepth 20000 in
theorem plists_m (a b : List (List (Int × Int))) (hla : a.length ≤ 9223372036854775807) (hl : ∀ l ∈ a, l.length ≤ 9223372036854775807) : Means true Try.prog 23 [.sl (a.map awl), .sl (b.map awl)] (bb (decide (a = b))) := by
  refine means_fn true 27 [.tmp 4] Try.func23 rfl rfl rfl (by simp) (by decide) rfl fun X hX => ?_
  (repeat (refine awp_stepG [0, 1, 4, 5, 10, 14, 26] hX mixed rfl ?_; (simp [go_sem]; try (refine ⟨by kernel_rfl, ?_⟩))))
  refine awp_cond (b := !decide ((a.length : Int) = b.length)) (by simp [go_sem]) (fun hb => ?_) (fun hb => ?_)
  · simp at hb
    (repeat (refine awp_stepG [0, 1, 4, 5, 10, 14, 26] hX mixed rfl ?_; (simp [go_sem]; try (refine ⟨by kernel_rfl, ?_⟩))))
    have : a ≠ b := by rintro rfl; exact hb rfl
    simp [this]
  · simp at hb
    have hb : a.length = b.length := by omega
    (repeat (refine awp_stepG [0, 1, 4, 5, 10, 14, 26] hX mixed rfl ?_; (simp [go_sem]; try (refine ⟨by kernel_rfl, ?_⟩))))
    refine awp_loop (fun k : Nat => ⟨mkE [(0, .sl (a.map awl)), (1, .sl (b.map awl)), (4, bb false), (5, ii k)], []⟩) (fun k => k ≤ a.length ∧ a.take k = b.take k) (fun k => a.length - k) 0 ?_ ?_ ?_
    · refine sub_of _ [] (by simp [go_sem]) ?_
      simp [go_sem]
    · simp
    · rintro k ⟨hk, hn⟩
      (repeat (refine awp_stepG [0, 1, 4, 5, 10, 14, 26] hX mixed rfl ?_; (simp [go_sem]; try (refine ⟨by kernel_rfl, ?_⟩))))
      refine awp_cond (b := decide (k < a.length)) (by simp [go_sem]) (fun hc => ?_) (fun hc => ?_)
      · simp at hc
        have hc' : k < b.length := by omega
        have c1 := paws_m a[k] b[k] (hl _ (List.getElem_mem hc))
        (repeat (refine awp_stepG [0, 1, 4, 5, 10, 14, 26] hX mixed rfl ?_; (simp [go_sem, hc, hc']; try (refine ⟨by kernel_rfl, ?_⟩))))
        first | refine callKa (c1) ?_ | refine callTa (c1) ?_
        try (simp [go_sem]; try (refine ⟨by kernel_rfl, ?_⟩))
        refine awp_cond (b := !decide (a[k] = b[k])) (by simp [go_sem]) (fun hd => ?_) (fun hd => ?_)
        · simp at hd
          (repeat (refine awp_stepG [0, 1, 4, 5, 10, 14, 26] hX mixed rfl ?_; (simp [go_sem]; try (refine ⟨by kernel_rfl, ?_⟩))))
          have : a ≠ b := by rintro rfl; exact hd rfl
          simp [this]
        · simp at hd
          (repeat (refine awp_stepG [0, 1, 4, 5, 10, 14, 26] hX mixed rfl ?_; (simp [go_sem]; (try simp (disch := omega) only [w64, td, tm]); try (refine ⟨by kernel_rfl, ?_⟩))))
          refine ⟨k + 1, ⟨by omega, by rw [List.take_succ_eq_append_getElem hc, List.take_succ_eq_append_getElem hc', hn, hd]⟩, by omega, ?_⟩
          refine sub_of _ [] (by simp [go_sem]) ?_
          simp [go_sem]
      · simp at hc
        (repeat (refine awp_stepG [0, 1, 4, 5, 10, 14, 26] hX mixed rfl ?_; (simp [go_sem]; try (refine ⟨by kernel_rfl, ?_⟩))))
        have : k = a.length := by omega
        subst this
        rw [List.take_length, hb, List.take_length] at hn
        simp [hn]
theorem phas_m (f : Fd) (h : AmF f) : Means true Try.prog 13 [fo f] (ii (hasF f)) := by
  have h1 := h.h; have h2 := h.r; have h3 := h.i
  have w1 := w64 (x := f.income + f.holds) (by omega) (by omega)
  have w2 := w64 (x := f.income + f.holds + f.reserve) (by omega) (by omega)
  refine means_fn true 11 [.tmp 2] Try.func13 rfl rfl rfl (by simp) (by decide) rfl fun X hX => ?_
  (repeat (refine awp_stepG [0, 1, 2] hX mixed rfl ?_; (simp [go_sem, w1, w2]; try (refine ⟨by kernel_rfl, ?_⟩))))
  try rfl
set_option maxRecDepth 20000 in
theorem phasV_m (F : List Fd) (hl : F.length ≤ 12) (h : ∀ f ∈ F, AmF f) : Means true Try.prog 15 [.sl (F.map fo)] (ii (hasV F)) := by
  refine means_fn true 19 [.tmp 2] Try.func15 rfl rfl rfl (by simp) (by decide) rfl fun X hX => ?_
  (repeat (refine awp_stepG [0, 2, 3, 4, 8] hX mixed rfl ?_; (simp [go_sem]; try (refine ⟨by kernel_rfl, ?_⟩))))
  refine awp_loop (fun k : Nat => ⟨mkE [(0, .sl (F.map fo)), (3, ii (sumI ((F.map hasF).take k))), (4, ii k)], []⟩) (fun k => k ≤ F.length) (fun k => F.length - k) 0 ?_ ?_ ?_
  · refine sub_of _ [] (by simp [go_sem]) ?_
    simp [go_sem, sumI]
  · omega
  · intro k hk
    (repeat (refine awp_stepG [0, 2, 3, 4, 8] hX mixed rfl ?_; (simp [go_sem]; try (refine ⟨by kernel_rfl, ?_⟩))))
    refine awp_cond (b := decide (k < F.length)) (by simp [go_sem]) (fun hb => ?_) (fun hb => ?_)
    · simp at hb
      have c1 := phas_m F[k] (h _ (List.getElem_mem hb))
      have hn := sumI_next (l := F.map hasF) (k := k) (by simpa using hb)
      rw [List.getElem_map] at hn
      have b1 := has_bd h k hk
      have b2 := (h F[k] (List.getElem_mem hb)).bd
      have w1 := w64 (x := sumI ((F.map hasF).take k) + hasF F[k]) (by omega) (by omega)
      (repeat (refine awp_stepG [0, 2, 3, 4, 8] hX mixed rfl ?_; (simp [go_sem, hb]; try (refine ⟨by kernel_rfl, ?_⟩))))
      first | refine callKa (c1) ?_ | refine callTa (c1) ?_
      try (simp [go_sem, w1]; try (refine ⟨by kernel_rfl, ?_⟩))
      (repeat (refine awp_stepG [0, 2, 3, 4, 8] hX mixed rfl ?_; (simp [go_sem, w1]; (try simp (disch := omega) only [w64, td, tm]); try (refine ⟨by kernel_rfl, ?_⟩))))
      refine ⟨k + 1, by omega, by omega, ?_⟩
      refine sub_of _ [] (by simp [go_sem]) ?_
      simp [go_sem, hn]
    · have hkl : k = F.length := by simp at hb; omega
      subst hkl
      have e : (F.map hasF).take F.length = F.map hasF := List.take_of_length_le (by simp)
      rw [e]
      (repeat (refine awp_stepG [0, 2, 3, 4, 8] hX mixed rfl ?_; (simp [go_sem]; try (refine ⟨by kernel_rfl, ?_⟩))))
      try rfl
end Go.Proofs.Ytndiamkmcoghdaa

namespace Go.Proofs.Ytndiamkmcoghdaa
open Go.RowKit Go.Ab
attribute [-simp] List.map_take
attribute [local irreducible] AWP Go.Ab.Sub Means MeansH CallK CallG CallT CallGT CallU
theorem coins_m (n : Int) : Means true Try.prog 29 [ii n] (bb (amt n)) := by
  refine means_fn true 9 [.tmp 2] Try.func29 rfl rfl rfl (by simp) (by decide) rfl fun X hX => ?_
  (repeat (refine awp_stepG [0, 2] hX mixed rfl ?_; (simp [go_sem]; try (refine ⟨by kernel_rfl, ?_⟩))))
  try simp [amt]
set_option maxHeartbeats 2000000 in
set_option maxRecDepth 20000 in
theorem pown_m (f : Fd) (hl : f.claims.length ≤ 9223372036854775807) : Means true Try.prog 14 [fo f] (ii (if okCl f.claims then sumI (nums f.claims) else -1)) := by
  obtain ⟨h, r, i, C, S⟩ := f
  simp only at hl ⊢
  refine means_fn true 40 [.tmp 2] Try.func14 rfl rfl rfl (by simp) (by decide) rfl fun X hX => ?_
  (repeat (refine awp_stepG [0, 1, 2, 3, 4, 9, 30] hX mixed rfl ?_; (simp [go_sem]; try (refine ⟨by kernel_rfl, ?_⟩))))
  refine awp_loop (fun k : Nat => ⟨mkE [(1, .el 0 5 0 0), (2, ii 0), (3, ii (sumI (nums (C.take k)))), (4, ii k)], [.row ⟨36, 5, [fo ⟨h, r, i, C, S⟩]⟩]⟩) (fun k => k ≤ C.length ∧ okCl (C.take k) = true) (fun k => C.length - k) 0 ?_ ?_ ?_
  · refine sub_of _ [.old 0 ⟨36, 5, [fo ⟨h, r, i, C, S⟩]⟩] (by simp [go_sem]) ?_
    simp [go_sem, nums, sumI]
  · exact ⟨Nat.zero_le _, by simp [okCl, nums, sumI]⟩
  · rintro k ⟨hk, hok⟩
    (repeat (refine awp_stepG [0, 1, 2, 3, 4, 9, 30] hX mixed rfl ?_; (simp [go_sem]; try (refine ⟨by kernel_rfl, ?_⟩))))
    refine awp_cond (b := decide (k < C.length)) (by simp [go_sem]) (fun hb => ?_) (fun hb => ?_)
    · simp at hb
      have hn := okCl_bd hok
      have wm := w64 (x := 1099511627776 - sumI (nums (C.take k))) (by omega) (by omega)
      by_cases ha : amt C[k].2 = true
      · have hc := amt_bd ha
        have hw := w64 (x := sumI (nums (C.take k)) + C[k].2) (by omega) (by omega)
        (repeat (refine awp_stepG [0, 1, 2, 3, 4, 9, 30] hX mixed rfl ?_; (simp [go_sem, hb, wm]; try (refine ⟨by kernel_rfl, ?_⟩))))
        first | refine callKa (coins_m C[k].2) ?_ | refine callTa (coins_m C[k].2) ?_
        try (simp [go_sem, ha, hb, wm]; try (refine ⟨by kernel_rfl, ?_⟩))
        (repeat refine And.intro (by first | omega | (unfold maxLen; omega) | kernel_rfl | (refine ⟨by first | omega | (unfold maxLen; omega), by first | omega | (unfold maxLen; omega)⟩) | grind) ?_)
        by_cases ha2 : amt (sumI (nums (C.take k)) + C[k].2) = true
        · have ha3 := amt_bd ha2
          refine awp_cond (b := false) (by simp [go_sem, ha]; omega) (fun h => by cases h) (fun _ => ?_)
          (repeat (refine awp_stepG [0, 1, 2, 3, 4, 9, 30] hX mixed rfl ?_; (simp [go_sem, hb, hw]; (try simp (disch := omega) only [w64, td, tm]); try (refine ⟨by kernel_rfl, ?_⟩))))
          refine ⟨k + 1, ⟨by omega, okCl_next hb hok ha ha2⟩, by omega, ?_⟩
          refine sub_of _ [.old 0 ⟨36, 5, [fo ⟨h, r, i, C, S⟩]⟩] (by simp [go_sem]) ?_
          simp [go_sem, nums_next hb, sumI_snoc, hw]
        · have ha2 : amt (sumI (nums (C.take k)) + C[k].2) = false := by simpa using ha2
          have ha3 : ¬ sumI (nums (C.take k)) + C[k].2 ≤ 1099511627776 := by
            intro hh
            rw [amt] at ha2
            simp at ha2
            omega
          refine awp_cond (b := true) (by simp [go_sem, ha]; omega) (fun _ => ?_) (fun h => by cases h)
          (repeat (refine awp_stepG [0, 1, 2, 3, 4, 9, 30] hX mixed rfl ?_; (simp [go_sem]; try (refine ⟨by kernel_rfl, ?_⟩))))
          simp [okCl_no2 hb hok ha ha2]
      · have ha : amt C[k].2 = false := by simpa using ha
        (repeat (refine awp_stepG [0, 1, 2, 3, 4, 9, 30] hX mixed rfl ?_; (simp [go_sem, hb, wm]; try (refine ⟨by kernel_rfl, ?_⟩))))
        first | refine callKa (coins_m C[k].2) ?_ | refine callTa (coins_m C[k].2) ?_
        try (simp [go_sem, ha, hb, wm]; try (refine ⟨by kernel_rfl, ?_⟩))
        (repeat refine And.intro (by first | omega | (unfold maxLen; omega) | kernel_rfl | (refine ⟨by first | omega | (unfold maxLen; omega), by first | omega | (unfold maxLen; omega)⟩) | grind) ?_)
        refine awp_cond (b := true) (by simp [go_sem, ha]) (fun _ => ?_) (fun h => by cases h)
        (repeat (refine awp_stepG [0, 1, 2, 3, 4, 9, 30] hX mixed rfl ?_; (simp [go_sem]; try (refine ⟨by kernel_rfl, ?_⟩))))
        simp [okCl_no1 hb ha]
    · have hkl : k = C.length := by simp at hb; omega
      subst hkl
      rw [List.take_length] at hok ⊢
      (repeat (refine awp_stepG [0, 1, 2, 3, 4, 9, 30] hX mixed rfl ?_; (simp [go_sem]; try (refine ⟨by kernel_rfl, ?_⟩))))
      simp [hok]
set_option maxHeartbeats 4000000 in
set_option maxRecDepth 20000 in
theorem formed_m (F : List Fd) (o G : List Int) (h5 : F.length ≤ 12) (hv : RV F) (ho : o.length = F.length) (hq : ∀ x ∈ o, 0 ≤ x) : Means true Try.prog 12 [.sl (F.map fo), .sl ((outK F o F.length).map fo), .sl ((awAll F G F.length).map awl)] (bb true) := by
  have l1 := outK_len F o F.length
  have l2 := awAll_len F G F.length
  refine means_fn true 85 [.tmp 6] Try.func12 rfl rfl rfl (by simp) (by decide) rfl fun X hX => ?_
  (repeat (refine awp_stepG [0, 1, 2, 6, 7, 19, 23, 84] hX mixed rfl ?_; (simp [go_sem, l1, l2]; try (refine ⟨by kernel_rfl, ?_⟩))))
  refine awp_cond (b := false) (by simp [go_sem]) (fun h => by cases h) (fun _ => ?_)
  (repeat (refine awp_stepG [0, 1, 2, 6, 7, 19, 23, 84] hX mixed rfl ?_; (simp [go_sem]; try (refine ⟨by kernel_rfl, ?_⟩))))
  refine awp_loop (fun k : Nat => ⟨mkE [(0, .sl (F.map fo)), (1, .sl ((outK F o F.length).map fo)), (2, .sl ((awAll F G F.length).map awl)), (6, bb false), (7, ii k)], []⟩) (fun k => k ≤ F.length) (fun k => F.length - k) 0 ?_ ?_ ?_
  · refine sub_of _ [] (by simp [go_sem]) ?_
    simp [go_sem]
  · omega
  · intro k hk
    (repeat (refine awp_stepG [0, 1, 2, 6, 7, 19, 23, 84] hX mixed rfl ?_; (simp [go_sem]; try (refine ⟨by kernel_rfl, ?_⟩))))
    refine awp_cond (b := decide (k < F.length)) (by simp [go_sem]) (fun hb => ?_) (fun hb => ?_)
    · simp at hb
      have a1 : k < (outK F o F.length).length := by omega
      have a2 : k < (awAll F G F.length).length := by omega
      have e1 := out_get (F := F) (o := o) hb hb (by omega) a1
      have e2 := aw_get (F := F) (G := G) hb hb a2
      have hat := hv.at' k hb
      have hqk := hq o[k] (List.getElem_mem (by omega))
      have hh := hat.hol
      have hr := hat.res
      have hi := hat.inc
      have ho := out_am hh hr hi hqk
      have ho1 := ho.h
      have ho2 := ho.r
      have c1 := pints_m (outF F[k] o[k]).cedes F[k].cedes (by have := hat.len; simp only [outF]; omega) (by have := hat.len; omega)
      rw [decide_eq_true (show (outF F[k] o[k]).cedes = F[k].cedes from rfl)] at c1
      have q1 : (outF F[k] o[k]).income = 0 := rfl
      have q2 : (outF F[k] o[k]).claims = [] := rfl
      have l3 := awK_len F G k F[k].claims.length
      have ho3 : ¬ (outF F[k] o[k]).holds < 0 := by omega
      have ho4 : ¬ (outF F[k] o[k]).reserve < 0 := by omega
      (repeat (refine awp_stepG [0, 1, 2, 6, 7, 19, 23, 84] hX mixed rfl ?_; (simp [go_sem, hb, a1, a2, e1, e2, q1, q2, l3, ho3, ho4]; try (refine ⟨by kernel_rfl, ?_⟩))))
      (repeat refine And.intro (by first | omega | (unfold maxLen; omega) | kernel_rfl | (refine ⟨by first | omega | (unfold maxLen; omega), by first | omega | (unfold maxLen; omega)⟩) | grind) ?_)
      first | refine callGa (fun hg => c1) ?_ | refine callGTa (fun hg => c1) ?_
      try (simp [go_sem, hb, a1, a2, e1, e2, q1, q2, l3, ho3, ho4]; try (refine ⟨by kernel_rfl, ?_⟩))
      (repeat refine And.intro (by first | omega | (unfold maxLen; omega) | kernel_rfl | (refine ⟨by first | omega | (unfold maxLen; omega), by first | omega | (unfold maxLen; omega)⟩) | grind) ?_)
      refine awp_cond (b := false) (by simp [go_sem]) (fun h => by cases h) (fun _ => ?_)
      (repeat (refine awp_stepG [0, 1, 2, 6, 7, 19, 23, 84] hX mixed rfl ?_; (simp [go_sem]; (try simp (disch := omega) only [w64, td, tm]); try (refine ⟨by kernel_rfl, ?_⟩))))
      refine ⟨k + 1, by omega, by omega, ?_⟩
      refine sub_of _ [] (by simp [go_sem]) ?_
      simp [go_sem]
    · (repeat (refine awp_stepG [0, 1, 2, 6, 7, 19, 23, 84] hX mixed rfl ?_; (simp [go_sem]; try (refine ⟨by kernel_rfl, ?_⟩))))
      try rfl
end Go.Proofs.Ytndiamkmcoghdaa

namespace Go.Proofs.Ytndiamkmcoghdaa
open Go.RowKit Go.Ab
theorem meansZ_h {P : Program} {f : FuncId} {fr : Bool} {H : List Cell} {largs args2 : List AV} {rv : Value} (l : List Nat) (h : Means fr P f args2 (.v rv)) (hf : frzOK H l) (ha : largs.map (argA (frzRows H l)) = args2) (ho : args2.all AV.argOK = true) : MeansH P f H largs (.v rv) H := by
  subst ha
  intro w M loc vs hM hgl hH hl hvs
  let X : Ctx := ⟨w, M, 0, blks H loc, loc, hgl, fun p hp hb => blks_away hH hb (hgl.1 p hp).1, fun g hg hb => blks_away hH hb (hgl.2 g hg).1⟩
  let a0 : Act := { tmps := #[], defers := [] }
  have hrr : RR X M loc ⟨argE 0 [], H⟩ a0 w := by
    refine ⟨fun s => ?_, Nat.zero_le _, rfl, rfl, fun id o ho => (hH.obj id o ho).imp fun b hb => .inr hb, hH.sep, fun id m hm => (hH.mobj id m hm).imp fun b hb => .inr hb, hH.msep, ⟨rfl, rfl, rfl, Nat.le_refl _, fun _ _ _ => rfl⟩, fun b hb => ⟨hM b hb, .inl hb⟩, fun b hb => hb, fun b hb => hM b hb, hH.one, fun s => ?_⟩
    · show Rep w M loc _ (argE 0 [] s)
      rw [argE_bad (Nat.zero_le _)]
      exact (RepZ.bad _).rep
    · show (argE 0 [] s).idLt H.length
      rw [argE_bad (Nat.zero_le _)]; trivial
  obtain ⟨M1, hM1, hr1⟩ := RR.frzRows l hrr hf
  have hM2 : ∀ b, M1 b → b < w.heap.size := fun b hb => (hr1.zone b hb).1
  have hz : ∀ (j : Nat) (x : Value) (e : AV), vs[j]? = some x → (largs.map (argA (frzRows H l)))[j]? = some e → RepZ w (fun b => b < w.heap.size) x e := fun j x e h1 h2 => by
    rw [List.getElem?_map] at h2
    cases h3 : largs[j]? with
    | none => rw [h3] at h2; cases h2
    | some e0 =>
      rw [h3] at h2
      obtain rfl : argA (frzRows H l) e0 = e := by simpa using h2
      obtain ⟨h4, h5⟩ := hvs j x e0 h1 h3
      have h6 : Rep w M1 loc x e0 := Rep.mono (n := H.length) (fun _ _ => rfl) hM1 (fun _ _ => rfl) h4 h5
      refine argA_ok hr1 hM2 h6 (List.all_eq_true.1 ho _ (List.mem_map.2 ⟨e0, List.mem_of_getElem? h3, rfl⟩)) fun id o _ e2 g hg => ?_
      obtain ⟨xs, hown, _⟩ := (hr1.obj id o e2).own
      exact (hown.lt g hg).2
  refine (h (fun b => b < w.heap.size) w vs (fun _ h => h) (hgl.mono (fun _ _ => rfl) fun b hb => hM2 b (hM1 b hb)) (by simp [hl]) hz).mono fun e w' ⟨x, he, hb, hx⟩ => ?_
  have hxr : x = rv := (RepZ.rep (loc := loc) hx).v_inv
  subst hxr
  exact ⟨x, M, loc, he, heapS_below hM hH hb, ⟨hb.os, hb.tape, hb.output, hb.size, fun k hk _ => hb.block k hk⟩, fun _ h => h, fun b hb' => ⟨Nat.lt_of_lt_of_le (hM b hb') hb.size, .inl hb'⟩, fun _ _ => rfl, (RepZ.v x).rep, trivial, Nat.le_refl _⟩
end Go.Proofs.Ytndiamkmcoghdaa

