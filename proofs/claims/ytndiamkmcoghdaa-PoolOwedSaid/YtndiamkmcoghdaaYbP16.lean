/-
  Lemmas for the statement at the top.
-/
import Derived.Test.YtndiamkmcoghdaaYbP14
set_option linter.all false
namespace Go.Proofs.Ytndiamkmcoghdaa
open Go.RowKit Go.Ab
def giveS (l : List Int) : Bool := l.any fun c => decide (0 < c)
def giveK (F : List Fd) (i : Nat) : Bool := (F.take i).any fun f => giveS f.cedes
theorem giveS_next {l : List Int} {k : Nat} (h : k < l.length) : giveS (l.take (k + 1)) = (giveS (l.take k) || decide (0 < l[k])) := by
  unfold giveS; rw [List.take_succ_eq_append_getElem h, List.any_append]; simp
variable {F : List Fd} {o : List Int}
theorem giveK_next {i : Nat} (h : i < F.length) : giveK F (i + 1) = (giveK F i || giveS F[i].cedes) := by
  unfold giveK; rw [List.take_succ_eq_append_getElem h, List.any_append]; simp
theorem sumI_zero {l : List Int} (h : ∀ x ∈ l, x = 0) : sumI l = 0 := by
  induction l with
  | nil => rfl
  | cons x l ih =>
    have h1 := h x (by simp)
    have h2 := ih fun y hy => h y (by simp [hy])
    simp only [sumI]; omega
theorem no_gives (hv : RV F) (h5 : F.length ≤ 5) (hg : giveK F F.length = false) : owedL F = ownL F := by
  have hp := pv_of hv
  have hc := owned hv h5
  have hz : ∀ i (hi : i < F.length), ∀ c ∈ F[i].cedes, c = 0 := fun i hi c hc => by
    unfold giveK at hg
    rw [List.take_length] at hg
    have h1 := List.any_eq_false.1 hg F[i] (List.getElem_mem hi)
    have h1 : giveS F[i].cedes = false := by simpa using h1
    have h2 := List.any_eq_false.1 h1 c hc
    have h3 := inS_bd (List.all_eq_true.1 (hv.at' i hi).ced c hc)
    simp at h2
    omega
  have hs : ∀ i, i < F.length → ∀ j, sO (cedL F) i j = 0 := fun i hi j => by
    have hS : sO (cedL F) i j = F[i].cedes.getD j 0 := by
      unfold sO
      rw [List.getD_eq_getElem?_getD (l := cedL F), List.getElem?_eq_getElem (by rw [cedL_len]; exact hi)]
      simp [cedL]
    rw [hS]
    by_cases hj : j < F[i].cedes.length
    · rw [getD_at hj]; exact hz i hi _ (List.getElem_mem hj)
    · rw [List.getD_eq_getElem?_getD, List.getElem?_eq_none (by omega)]; rfl
  have hall : ∀ i, i < F.length → allX (ownL F) (cedL F) i = ((wO (ownL F) i : Int) : Rat) := fun i hi => by
    symm
    refine all_uniq hp (x := fun i => ((wO (ownL F) i : Int) : Rat)) (fun k hk => ?_) (by rw [ownL_len]; exact hi)
    have e : sumR (fun t => ((wO (ownL F) t : Int) : Rat) * (((sO (cedL F) t k : Int) : Rat) / 1000)) (ownL F).length = sumR (fun _ => (0 : Rat)) (ownL F).length := sumR_congr fun t ht => by
      rw [ownL_len] at ht
      rw [hs t ht k]
      show _ * ((0 : Rat) / 1000) = 0
      grind
    rw [e]
    have z : ∀ n, sumR (fun _ => (0 : Rat)) n = 0 := fun n => by
      induction n with
      | zero => rfl
      | succ n ih => simp only [sumR]; rw [ih]; grind
    rw [z]; grind
  have hkept : ∀ i, i < F.length → keptX (ownL F) (cedL F) i = ((wO (ownL F) i : Int) : Rat) := fun i hi => by
    unfold keptX
    rw [hall i hi]
    have e : sumI ((cedL F).getD i []) = 0 := by
      have : (cedL F).getD i [] = F[i].cedes := by
        rw [List.getD_eq_getElem?_getD, List.getElem?_eq_getElem (by rw [cedL_len]; exact hi)]; simp [cedL]
      rw [this]; exact sumI_zero (hz i hi)
    rw [e]
    show _ * (((1000 : Int) : Rat) / ((1000 : Int) : Rat)) = _
    have : ((1000 : Int) : Rat) ≠ 0 := by decide
    grind
  have hol : (owedL F).length = (ownL F).length := hc.len
  refine List.ext_getElem hol fun i h1 h2 => ?_
  have hi : i < F.length := by rw [ownL_len] at h2; exact h2
  have h3 := hc.one i h2 h1
  rw [hkept i hi, fl_int] at h3
  have hw : wO (ownL F) i = (ownL F)[i] := getD_at h2
  have hr : rs ((wO (ownL F) i : Int) : Rat) = 0 := by unfold rs; rw [fl_int]; grind
  rcases h3 with h3 | ⟨_, h3⟩
  · exact h3.trans hw
  · rw [hr] at h3; exact absurd h3 (by decide)
theorem owed_near (hv : RV F) (h5 : F.length ≤ 5) {i : Nat} (hi : i < F.length) (hi' : i < (owedL F).length) : keptX (ownL F) (cedL F) i - (((owedL F)[i] : Int) : Rat) < 1 ∧ -1 < keptX (ownL F) (cedL F) i - (((owedL F)[i] : Int) : Rat) := by
  have h := (owned hv h5).one i (by rw [ownL_len]; exact hi) hi'
  have h0 := rs_nonneg (keptX (ownL F) (cedL F) i)
  have h1 := rs_lt (keptX (ownL F) (cedL F) i)
  have e : (owedL F)[i] = (coinL (keptQ (ownL F) (cedL F)))[i] := rfl
  rw [e]
  generalize keptX (ownL F) (cedL F) i = k at *
  unfold rs at h0 h1 h
  rcases h with h | ⟨h, h2⟩
  · rw [h]; grind
  · rw [h, Rat.intCast_add]
    have : ((1 : Int) : Rat) = 1 := rfl
    rw [this]; grind
theorem bt_43 {x : Int} (h : 0 ≤ x ∧ x ≤ 6597069766657) : bt 50 ((x : Int) : Rat).num ∧ bt 1 (((x : Int) : Rat).den : Int) := by
  refine ⟨?_, ?_⟩
  · rw [Rat.num_intCast]; unfold bt; omega
  · rw [Rat.den_intCast]; unfold bt; decide
theorem near_ok (hv : RV F) (h5 : F.length ≤ 5) {i : Nat} (hi : i < F.length) {x : Int} (hx : 0 ≤ x ∧ x ≤ 6597069766657) : rq (keptX (ownL F) (cedL F) i) ∧ rq ((x : Int) : Rat) ∧ okSub (keptX (ownL F) (cedL F) i) ((x : Int) : Rat) := by
  have h1 := kept_sz (pv_of hv) (by rw [ownL_len]; omega) (k := i) (by rw [ownL_len]; exact hi)
  have h2 := bt_43 hx
  exact ⟨bt_rq h1 (by decide) (by decide), bt_rq h2 (by decide) (by decide), okSub_bt h1.1 h1.2 h2.1 h2.2 (by omega) (by omega) (by omega)⟩
theorem of_1 (p : Int) : (p : Rat) / ((1 : Int) : Rat) = (p : Rat) := by
  have : ((1 : Int) : Rat) = 1 := rfl
  rw [this]; grind
end Go.Proofs.Ytndiamkmcoghdaa

namespace Go.Proofs.Ytndiamkmcoghdaa
open Go.RowKit Go.Ab
attribute [-simp] List.map_take
attribute [local irreducible] AWP Go.Ab.Sub Means MeansH CallK CallG CallT CallGT CallU
set_option maxHeartbeats 16000000 in
set_option maxRecDepth 20000 in
theorem poolOwed_m (F : List Fd) (hl0 : F.length ≤ maxLen) : Means false Try.prog 5 [.sl (F.map fo)] (bb true) := by
  have hl : F.length ≤ 9223372036854775807 := by unfold maxLen at hl0; omega
  have c0 := psmall_m
  have c1 := pfew_m F hl
  refine means_fn false 175 [.tmp 2] Try.func5 rfl rfl rfl (by simp) (by decide) rfl fun X hX => ?_
  (repeat (refine awp_stepG [0, 2, 3, 4, 5, 6, 7, 8, 9, 10, 11, 12, 13, 14, 16, 18, 19, 20, 21, 22, 31, 36, 62, 116, 128, 165] hX mixed rfl ?_; (simp [go_sem]; try (refine ⟨by kernel_rfl, ?_⟩))))
  first | refine callKa (c0) ?_ | refine callTa (c0) ?_
  try (simp [go_sem]; try (refine ⟨by kernel_rfl, ?_⟩))
  (repeat (refine awp_stepG [0, 2, 3, 4, 5, 6, 7, 8, 9, 10, 11, 12, 13, 14, 16, 18, 19, 20, 21, 22, 31, 36, 62, 116, 128, 165] hX mixed rfl ?_; (simp [go_sem]; try (refine ⟨by kernel_rfl, ?_⟩))))
  first | refine callKa (c1) ?_ | refine callTa (c1) ?_
  try (simp [go_sem]; try (refine ⟨by kernel_rfl, ?_⟩))
  first | refine callGa (fun hg => pright_m F (by simpa using hg)) ?_ | refine callGTa (fun hg => pright_m F (by simpa using hg)) ?_
  try (simp [go_sem]; try (refine ⟨by kernel_rfl, ?_⟩))
  refine awp_cond (b := !fewV F || !rightV F) (by simp [go_sem]) (fun hb => ?_) (fun hb => ?_)
  · (repeat (refine awp_stepG [0, 2, 3, 4, 5, 6, 7, 8, 9, 10, 11, 12, 13, 14, 16, 18, 19, 20, 21, 22, 31, 36, 62, 116, 128, 165] hX mixed rfl ?_; (simp [go_sem]; try (refine ⟨by kernel_rfl, ?_⟩))))
  · have hf : fewV F = true := by simp at hb; exact hb.1
    have hr : rightV F = true := by simp at hb; exact hb.2
    have h5 := few_5 hf
    have hv := rv_of hr
    have hp := pv_of hv
    have c2 := owed_m F hf hr
    have hoL := ownL_len F
    have hcL := cedL_len F
    have hY := year_ok hf hr
    have hnear := fun i hi hi' => owed_near hv h5 (i := i) hi hi'
    have hok := fun i hi x hx => near_ok hv h5 (i := i) hi (x := x) hx
    have hng := no_gives hv h5
    have hol := hY.ol
    have hob := hY.ob
    have c3 := Solve_q hp (by rw [ownL_len]; omega)
    have c4 := Check_q _ _ hp (by rw [ownL_len]; omega) (allQ (ownL F) (cedL F)) (keptQ (ownL F) (cedL F)) (allQ_len _ _) (keptQ_len _ _) (fun x hx => by
      have := allQ_mem hp (by rw [ownL_len]; omega) x hx
      exact ⟨this.1, bt_mono this.2 (by decide)⟩) (fun y hy => bt_rq (keptQ_mem hp (by rw [ownL_len]; omega) y hy) (by decide) (by decide))
    rw [if_pos (all_check hp)] at c4
    have kl := keptQ_len (ownL F) (cedL F)
    have kg : ∀ i (h : i < (keptQ (ownL F) (cedL F)).length), (keptQ (ownL F) (cedL F))[i] = keptX (ownL F) (cedL F) i := fun i h => by simp [keptQ]
    have f1 := Of_q 1 1 (by decide) (by decide) (by decide)
    have f2 := Of_q (-1) 1 (by decide) (by decide) (by decide)
    rw [of_1] at f1 f2
    have hS := pints_m (owedL F) (ownL F) (by omega) (by omega)
    generalize owedL F = o at *
    (repeat (refine awp_stepG [0, 2, 3, 4, 5, 6, 7, 8, 9, 10, 11, 12, 13, 14, 16, 18, 19, 20, 21, 22, 31, 36, 62, 116, 128, 165] hX mixed rfl ?_; (simp [go_sem]; try (refine ⟨by kernel_rfl, ?_⟩))))
    refine awp_loop (fun i : Nat => ⟨mkE [(0, .sl (F.map fo)), (2, bb false), (3, bb true), (4, .ow 0), (5, .ow 1), (6, bb (giveK F i)), (7, ii i)], [.row ⟨3, 1, ((ownL F).take i).map ii⟩, .row ⟨25, 1, ((cedL F).take i).map il⟩]⟩) (fun i => i ≤ F.length) (fun i => F.length - i) 0 ?_ ?_ ?_
    · refine sub_of _ [.birth 3 1, .birth 25 1] (by simp [go_sem]) ?_
      simp [go_sem, giveK]
    · omega
    · intro i hi
      have l1 : ((ownL F).take i).length = i := by rw [List.length_take]; omega
      have l2 : ((cedL F).take i).length = i := by rw [List.length_take]; omega
      (repeat (refine awp_stepG [0, 2, 3, 4, 5, 6, 7, 8, 9, 10, 11, 12, 13, 14, 16, 18, 19, 20, 21, 22, 31, 36, 62, 116, 128, 165] hX mixed rfl ?_; (simp [go_sem]; try (refine ⟨by kernel_rfl, ?_⟩))))
      refine awp_cond (b := decide (i < F.length)) (by simp [go_sem]) (fun hb2 => ?_) (fun hb2 => ?_)
      · simp at hb2
        have hat := hv.at' i hb2
        have d3 := pown_m F[i] (by have := (few_at hf (List.getElem_mem hb2)).1; omega)
        rw [if_pos hat.cla] at d3
        have n1 := ownL_next hb2
        have n2 := cedL_next hb2
        have n3 := giveK_next hb2
        have hce := (few_at hf (List.getElem_mem hb2)).2
        (repeat (refine awp_stepG [0, 2, 3, 4, 5, 6, 7, 8, 9, 10, 11, 12, 13, 14, 16, 18, 19, 20, 21, 22, 31, 36, 62, 116, 128, 165] hX mixed rfl ?_; (simp [go_sem, hb2]; try (refine ⟨by kernel_rfl, ?_⟩))))
        first | refine callKa (d3) ?_ | refine callTa (d3) ?_
        try (simp [go_sem, l1]; try (refine ⟨by kernel_rfl, ?_⟩))
        (repeat refine And.intro (by first | omega | (unfold maxLen; omega) | kernel_rfl | (refine ⟨by first | omega | (unfold maxLen; omega), by first | omega | (unfold maxLen; omega)⟩) | grind) ?_)
        (repeat (refine awp_stepG [0, 2, 3, 4, 5, 6, 7, 8, 9, 10, 11, 12, 13, 14, 16, 18, 19, 20, 21, 22, 31, 36, 62, 116, 128, 165] hX mixed rfl ?_; (simp [go_sem, hb2, l1, l2]; try (refine ⟨by kernel_rfl, ?_⟩))))
        (repeat refine And.intro (by first | omega | (unfold maxLen; omega) | kernel_rfl | (refine ⟨by first | omega | (unfold maxLen; omega), by first | omega | (unfold maxLen; omega)⟩) | grind) ?_)
        (repeat (refine awp_stepG [0, 2, 3, 4, 5, 6, 7, 8, 9, 10, 11, 12, 13, 14, 16, 18, 19, 20, 21, 22, 31, 36, 62, 116, 128, 165] hX mixed rfl ?_; (simp [go_sem, hb2, l1, l2]; try (refine ⟨by kernel_rfl, ?_⟩))))
        refine awp_loop (fun k : Nat => ⟨mkE [(0, .sl (F.map fo)), (2, bb false), (3, bb true), (4, .ow 0), (5, .ow 1), (6, bb (giveK F i || giveS (F[i].cedes.take k))), (7, ii i), (8, ii k)], [.row ⟨3, 1, ((ownL F).take (i + 1)).map ii⟩, .row ⟨25, 1, ((cedL F).take (i + 1)).map il⟩]⟩) (fun k => k ≤ F[i].cedes.length) (fun k => F[i].cedes.length - k) 0 ?_ ?_ ?_
        · refine sub_of _ [.old 3 ⟨3, 1, ((ownL F).take (i + 1)).map ii⟩, .old 5 ⟨25, 1, ((cedL F).take (i + 1)).map il⟩] (by simp [go_sem, n1, n2]) ?_
          simp [go_sem, giveS]
        · omega
        · intro k hk
          (repeat (refine awp_stepG [0, 2, 3, 4, 5, 6, 7, 8, 9, 10, 11, 12, 13, 14, 16, 18, 19, 20, 21, 22, 31, 36, 62, 116, 128, 165] hX mixed rfl ?_; (simp [go_sem, hb2]; try (refine ⟨by kernel_rfl, ?_⟩))))
          refine awp_cond (b := decide (k < F[i].cedes.length)) (by simp [go_sem]) (fun hc => ?_) (fun hc => ?_)
          · simp at hc
            have n4 := giveS_next hc
            (repeat (refine awp_stepG [0, 2, 3, 4, 5, 6, 7, 8, 9, 10, 11, 12, 13, 14, 16, 18, 19, 20, 21, 22, 31, 36, 62, 116, 128, 165] hX mixed rfl ?_; (simp [go_sem, hb2, hc]; (try simp (disch := omega) only [w64, td, tm]); try (refine ⟨by kernel_rfl, ?_⟩))))
            refine ⟨k + 1, by omega, by omega, ?_⟩
            rw [n4]
            refine sub_of _ [.old 0 ⟨3, 1, ((ownL F).take (i + 1)).map ii⟩, .old 1 ⟨25, 1, ((cedL F).take (i + 1)).map il⟩] (by simp [go_sem]) ?_
            simp [go_sem, Bool.or_assoc]
          · have hkl : k = F[i].cedes.length := by simp at hc; omega
            subst hkl
            rw [List.take_length, ← n3]
            (repeat (refine awp_stepG [0, 2, 3, 4, 5, 6, 7, 8, 9, 10, 11, 12, 13, 14, 16, 18, 19, 20, 21, 22, 31, 36, 62, 116, 128, 165] hX mixed rfl ?_; (simp [go_sem]; (try simp (disch := omega) only [w64, td, tm]); try (refine ⟨by kernel_rfl, ?_⟩))))
            refine ⟨i + 1, by omega, by omega, ?_⟩
            refine sub_of _ [.old 0 ⟨3, 1, ((ownL F).take (i + 1)).map ii⟩, .old 1 ⟨25, 1, ((cedL F).take (i + 1)).map il⟩] (by simp [go_sem]) ?_
            simp [go_sem]
      · have hil : i = F.length := by simp at hb2; omega
        subst hil
        rw [List.take_of_length_le (by omega), List.take_of_length_le (by omega)]
        refine awp_sub (st0 := ⟨mkE [(0, .sl (F.map fo)), (2, bb false), (3, bb true), (4, il (ownL F)), (5, ill (cedL F)), (6, bb (giveK F F.length))], []⟩) ?_ ?_
        · have z1 := zoneI (ownL F)
          have z2 : zoneEs ((cedL F).map il) = true := zoneEs_map _ _ fun _ => rfl
          refine sub_of _ [] (by simp [go_sem]) ?_
          simp [go_sem, z1, z2]
        generalize ownL F = w at *
        generalize cedL F = S at *
        have r1 : rq (((1 : Int) : Int) : Rat) := by have := of_rq (p := 1) (q := 1) (by decide) (by decide) (by decide); rwa [of_1] at this
        have r2 : rq (((-1 : Int) : Int) : Rat) := by have := of_rq (p := -1) (q := 1) (by decide) (by decide) (by decide); rwa [of_1] at this
        obtain ⟨one, h1⟩ : ∃ r : Rat, (((1 : Int) : Int) : Rat) = r := ⟨_, rfl⟩
        obtain ⟨less, h2⟩ : ∃ r : Rat, (((-1 : Int) : Int) : Rat) = r := ⟨_, rfl⟩
        rw [h1] at f1 r1
        rw [h2] at f2 r2
        have h1 : one = 1 := h1.symm
        have h2 : less = -1 := h2.symm
        (repeat (refine awp_stepG [0, 2, 3, 4, 5, 6, 7, 8, 9, 10, 11, 12, 13, 14, 16, 18, 19, 20, 21, 22, 31, 36, 62, 116, 128, 165] hX mixed rfl ?_; (simp [go_sem]; try (refine ⟨by kernel_rfl, ?_⟩))))
        first | refine callKa (c2) ?_ | refine callTa (c2) ?_
        try (simp [go_sem]; try (refine ⟨by kernel_rfl, ?_⟩))
        (repeat (refine awp_stepG [0, 2, 3, 4, 5, 6, 7, 8, 9, 10, 11, 12, 13, 14, 16, 18, 19, 20, 21, 22, 31, 36, 62, 116, 128, 165] hX mixed rfl ?_; (simp [go_sem]; try (refine ⟨by kernel_rfl, ?_⟩))))
        first | refine callKa (c3) ?_ | refine callTa (c3) ?_
        try (simp [go_sem]; try (refine ⟨by kernel_rfl, ?_⟩))
        (repeat (refine awp_stepG [0, 2, 3, 4, 5, 6, 7, 8, 9, 10, 11, 12, 13, 14, 16, 18, 19, 20, 21, 22, 31, 36, 62, 116, 128, 165] hX mixed rfl ?_; (simp [go_sem]; try (refine ⟨by kernel_rfl, ?_⟩))))
        first | refine callGa (fun hg => c4) ?_ | refine callGTa (fun hg => c4) ?_
        try (simp [go_sem]; try (refine ⟨by kernel_rfl, ?_⟩))
        refine awp_cond (b := false) (by simp [go_sem, kl, hol, hoL]) (fun h => by cases h) (fun _ => ?_)
        (repeat (refine awp_stepG [0, 2, 3, 4, 5, 6, 7, 8, 9, 10, 11, 12, 13, 14, 16, 18, 19, 20, 21, 22, 31, 36, 62, 116, 128, 165] hX mixed rfl ?_; (simp [go_sem]; try (refine ⟨by kernel_rfl, ?_⟩))))
        first | refine callKa (f1) ?_ | refine callTa (f1) ?_
        try (simp [go_sem]; try (refine ⟨by kernel_rfl, ?_⟩))
        (repeat (refine awp_stepG [0, 2, 3, 4, 5, 6, 7, 8, 9, 10, 11, 12, 13, 14, 16, 18, 19, 20, 21, 22, 31, 36, 62, 116, 128, 165] hX mixed rfl ?_; (simp [go_sem]; try (refine ⟨by kernel_rfl, ?_⟩))))
        first | refine callKa (f2) ?_ | refine callTa (f2) ?_
        try (simp [go_sem]; try (refine ⟨by kernel_rfl, ?_⟩))
        (repeat (refine awp_stepG [0, 2, 3, 4, 5, 6, 7, 8, 9, 10, 11, 12, 13, 14, 16, 18, 19, 20, 21, 22, 31, 36, 62, 116, 128, 165] hX mixed rfl ?_; (simp [go_sem]; try (refine ⟨by kernel_rfl, ?_⟩))))
        refine awp_loop (fun i : Nat => ⟨mkE [(2, bb false), (3, bb true), (4, il w), (6, bb (giveK F F.length)), (9, il o), (12, fql (keptQ w S)), (14, .el 0 4 0 0), (16, .el 1 4 0 0), (18, ii i)], [.row ⟨48, 4, [frq one]⟩, .row ⟨48, 4, [frq less]⟩]⟩) (fun i => i ≤ F.length) (fun i => F.length - i) 0 ?_ ?_ ?_
        · refine sub_of _ [.old 0 ⟨48, 4, [frq one]⟩, .old 1 ⟨48, 4, [frq less]⟩] (by simp [go_sem]) ?_
          simp [go_sem]
        · omega
        · intro i hi
          (repeat (refine awp_stepG [0, 2, 3, 4, 5, 6, 7, 8, 9, 10, 11, 12, 13, 14, 16, 18, 19, 20, 21, 22, 31, 36, 62, 116, 128, 165] hX mixed rfl ?_; (simp [go_sem, hoL]; try (refine ⟨by kernel_rfl, ?_⟩))))
          refine awp_cond (b := decide (i < F.length)) (by simp [go_sem, hoL]) (fun hb3 => ?_) (fun hb3 => ?_)
          · simp at hb3
            have hio : i < o.length := by omega
            have hik : i < (keptQ w S).length := by omega
            have hx := hob o[i] (List.getElem_mem hio)
            obtain ⟨k1, k2, k3⟩ := hok i hb3 o[i] hx
            have hn := hnear i hb3 hio
            have hkg := kg i hik
            have g1 := Of_q o[i] 1 (by omega) (by decide) (by decide)
            rw [of_1] at g1
            have g2 := Sub_qt k1 k2 k3
            have k4 := sub_rq k3
            generalize keptX w S i = K at *
            generalize ((o[i] : Int) : Rat) = x at *
            obtain ⟨d, hd⟩ : ∃ d, K - x = d := ⟨_, rfl⟩
            rw [hd] at g2 k4 hn
            have g3 := Compare_q k4 r1
            have g4 := Compare_q k4 r2
            have q1 : ¬ 0 ≤ cmpR d one := by
              have := (cmpR_lt d one).2 (by rw [h1]; exact hn.1)
              omega
            have q2 : ¬ cmpR d less ≤ 0 := by
              have := (cmpR_gt d less).2 (by rw [h2]; exact hn.2)
              omega
            have nk : nth ((keptQ w S).map frq) i = frq K := by rw [nth_map frq hik, hkg]
            (repeat (refine awp_stepG [0, 2, 3, 4, 5, 6, 7, 8, 9, 10, 11, 12, 13, 14, 16, 18, 19, 20, 21, 22, 31, 36, 62, 116, 128, 165] hX mixed rfl ?_; (simp [go_sem, hio]; try (refine ⟨by kernel_rfl, ?_⟩))))
            first | refine callKa (g1) ?_ | refine callTa (g1) ?_
            try (simp [go_sem]; try (refine ⟨by kernel_rfl, ?_⟩))
            (repeat (refine awp_stepG [0, 2, 3, 4, 5, 6, 7, 8, 9, 10, 11, 12, 13, 14, 16, 18, 19, 20, 21, 22, 31, 36, 62, 116, 128, 165] hX mixed rfl ?_; (simp [go_sem, hik, nk]; try (refine ⟨by kernel_rfl, ?_⟩))))
            first | refine callKa (g2) ?_ | refine callTa (g2) ?_
            try (simp [go_sem]; try (refine ⟨by kernel_rfl, ?_⟩))
            (repeat (refine awp_stepG [0, 2, 3, 4, 5, 6, 7, 8, 9, 10, 11, 12, 13, 14, 16, 18, 19, 20, 21, 22, 31, 36, 62, 116, 128, 165] hX mixed rfl ?_; (simp [go_sem]; try (refine ⟨by kernel_rfl, ?_⟩))))
            first | refine callGa (fun hg => g3) ?_ | refine callGTa (fun hg => g3) ?_
            try (simp [go_sem]; try (refine ⟨by kernel_rfl, ?_⟩))
            first | refine callGa (fun hg => g4) ?_ | refine callGTa (fun hg => g4) ?_
            try (simp [go_sem]; try (refine ⟨by kernel_rfl, ?_⟩))
            refine awp_cond (b := false) (by simp [go_sem]; omega) (fun h => by cases h) (fun _ => ?_)
            (repeat (refine awp_stepG [0, 2, 3, 4, 5, 6, 7, 8, 9, 10, 11, 12, 13, 14, 16, 18, 19, 20, 21, 22, 31, 36, 62, 116, 128, 165] hX mixed rfl ?_; (simp [go_sem, hb3]; (try simp (disch := omega) only [w64, td, tm]); try (refine ⟨by kernel_rfl, ?_⟩))))
            refine ⟨i + 1, by omega, by omega, ?_⟩
            refine sub_of _ [.old 0 ⟨48, 4, [frq one]⟩, .old 1 ⟨48, 4, [frq less]⟩] (by simp [go_sem]) ?_
            simp [go_sem]
          · have hil : i = F.length := by simp at hb3; omega
            subst hil
            (repeat (refine awp_stepG [0, 2, 3, 4, 5, 6, 7, 8, 9, 10, 11, 12, 13, 14, 16, 18, 19, 20, 21, 22, 31, 36, 62, 116, 128, 165] hX mixed rfl ?_; (simp [go_sem]; try (refine ⟨by kernel_rfl, ?_⟩))))
            first | refine callGa (fun hg => hS) ?_ | refine callGTa (fun hg => hS) ?_
            try (simp [go_sem]; try (refine ⟨by kernel_rfl, ?_⟩))
            have hgo : (giveK F F.length || decide (o = w)) = true := by
              cases hG : giveK F F.length with
              | true => rfl
              | false => simp [hng hG]
            rw [hgo]
            (repeat (refine awp_stepG [0, 2, 3, 4, 5, 6, 7, 8, 9, 10, 11, 12, 13, 14, 16, 18, 19, 20, 21, 22, 31, 36, 62, 116, 128, 165] hX mixed rfl ?_; (simp [go_sem]; try (refine ⟨by kernel_rfl, ?_⟩))))
end Go.Proofs.Ytndiamkmcoghdaa

