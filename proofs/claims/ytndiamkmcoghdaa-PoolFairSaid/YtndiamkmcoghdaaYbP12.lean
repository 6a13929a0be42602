/-
  Lemmas for the statement at the top.
-/
import Derived.Test.YtndiamkmcoghdaaYbP11
import Derived.Test.YtndiamkmcoghdaaYbP10
set_option linter.all false
namespace Go.Proofs.Ytndiamkmcoghdaa
open Go.RowKit Go.Ab
attribute [local irreducible] AWP Go.Ab.Sub Means MeansH MeansX CallK CallG CallT CallGT CallU
def most : Rat := ((4503599627370496 : Int) : Rat)
def cArg (ks : List Rat) (T : List AV) : Prop := T ≠ [] ∨ ∃ k ∈ ks, k < 0 ∨ most < k
def coinL (ks : List Rat) : List Int := bumps (ks.map fl) ((srt (B.kf (ks.map rs)) (idxI ks.length)).take (fl (rsum ks ks.length)).toNat)
noncomputable def coinV (ks : List Rat) (T : List AV) : AV :=
  @ite _ ((ks.length + T.length = 0 ∨ 12 < ks.length + T.length) ∨ cArg ks T) (Classical.propDecidable _) (.tup [.sl [], ii 1]) (@ite _ (okS ks ks.length) (Classical.propDecidable _) (if rsum ks ks.length = ((fl (rsum ks ks.length) : Int) : Rat) then .tup [il (coinL ks), ii 0] else .tup [.sl [], ii 1]) (.tup [.sl [], ii 6]))
def tailOk (T : List AV) : Prop := T = [] ∨ ∃ x T', T = fv x :: T' ∧ Means false Try.prog 37 [fv x] (bb false)
def okTo (ks : List Rat) (i : Nat) : Prop := ∀ k, k < i → 0 ≤ ks.getD k 0 ∧ ks.getD k 0 ≤ most
theorem okTo_succ {ks : List Rat} {i : Nat} {f : Rat} (h : okTo ks i) (hf : ks.getD i 0 = f) (h0 : 0 ≤ f) (h1 : f ≤ most) : okTo ks (i + 1) := fun k hk => by
  by_cases e : k = i
  · subst e; rw [hf]; exact ⟨h0, h1⟩
  · exact h k (by omega)
def restA (ks : List Rat) (i : Nat) : List AV := (List.range i).map fun k => frq (rs (ks.getD k 0))
def outA (ks : List Rat) (i : Nat) : List AV := (List.range i).map fun k => ii (fl (ks.getD k 0))
def ordA (i : Nat) : List AV := (List.range i).map fun k : Nat => ii (k : Int)
theorem restA_succ (ks : List Rat) (i : Nat) : restA ks (i + 1) = restA ks i ++ [frq (rs (ks.getD i 0))] := by unfold restA; rw [List.range_succ, List.map_append]; rfl
theorem outA_succ (ks : List Rat) (i : Nat) : outA ks (i + 1) = outA ks i ++ [ii (fl (ks.getD i 0))] := by unfold outA; rw [List.range_succ, List.map_append]; rfl
theorem ordA_succ (i : Nat) : ordA (i + 1) = ordA i ++ [ii (i : Int)] := by unfold ordA; rw [List.range_succ, List.map_append]; rfl
theorem restA_len (ks : List Rat) (i : Nat) : (restA ks i).length = i := by simp [restA]
theorem outA_len (ks : List Rat) (i : Nat) : (outA ks i).length = i := by simp [outA]
theorem ordA_len (i : Nat) : (ordA i).length = i := by simp [ordA]
theorem range_getD {α β : Type} (ks : List α) (d : α) (f : α → β) : (List.range ks.length).map (fun k => f (ks.getD k d)) = ks.map f := by
  apply List.ext_getElem
  · simp
  · intro i h1 h2
    have : i < ks.length := by simpa using h2
    simp [List.getD_eq_getElem?_getD, List.getElem?_eq_getElem this]
theorem restA_full (ks : List Rat) : restA ks ks.length = (ks.map rs).map frq := by
  rw [List.map_map]; exact range_getD ks 0 fun r => frq (rs r)
theorem outA_full (ks : List Rat) : outA ks ks.length = (ks.map fl).map ii := by
  rw [List.map_map]; exact range_getD ks 0 fun r => ii (fl r)
theorem ordA_full (n : Nat) : ordA n = (idxI n).map ii := by unfold ordA idxI; rw [List.map_map]; rfl
theorem zone_rng {n : Nat} {f : Nat → AV} (h : ∀ k, zoneEs [f k] = true) : zoneEs ((List.range n).map f) = true := by
  unfold zoneEs
  rw [List.all_eq_true]
  intro e he
  obtain ⟨k, _, rfl⟩ := List.mem_map.1 he
  have := h k
  unfold zoneEs at this
  rw [List.all_eq_true] at this
  exact this _ (by simp)
theorem restA_zone (ks : List Rat) (i : Nat) : zoneEs (restA ks i) = true := zone_rng fun _ => rfl
theorem outA_zone (ks : List Rat) (i : Nat) : zoneEs (outA ks i) = true := zone_rng fun _ => rfl
theorem ordA_zone (i : Nat) : zoneEs (ordA i) = true := zone_rng fun _ => rfl
theorem nth_hd {A B : List AV} {v : AV} {k : Nat} (h : A[k]? = some v) : nth (A ++ B) k = v := nth_some (by
  rw [List.getElem?_append_left (by rcases Nat.lt_or_ge k A.length with h2 | h2; exact h2; rw [List.getElem?_eq_none h2] at h; cases h)]; exact h)
theorem nth_end {A B : List AV} {v : AV} {k : Nat} (h : A.length = k) : nth (A ++ v :: B) k = v := nth_some (by
  rw [List.getElem?_append_right (by omega), h, Nat.sub_self]; rfl)
set_option maxHeartbeats 8000000 in
set_option maxRecDepth 20000 in
theorem Coins_q (ks : List Rat) (T : List AV) (hq : ∀ k ∈ ks, rq k) (hT : tailOk T) (hl : ks.length + T.length ≤ 100000) : Means false Try.prog 26 [.sl (ks.map frq ++ T)] (coinV ks T) := by
  obtain ⟨V, hV⟩ : ∃ V, coinV ks T = V := ⟨_, rfl⟩
  have hzr : svF ks 0 = frR 0 := if_pos (okS_0 ks)
  have hev : ev ks 0 = 0 := if_pos (okS_0 ks)
  have k0 := of_k 0 (p := 0) (by decide)
  have k1 := of_k 0 (p := 4503599627370496) (by decide)
  have hmr : ((4503599627370496 : Int) : Rat) = most := rfl
  have hz0 : (((0 : Int)) : Rat) = 0 := rfl
  have hmq : rq most := by
    have := of_rq (p := 4503599627370496) (q := 1) (by decide) (by decide) (by decide)
    rwa [cast1] at this
  rw [hz0] at k0
  rw [hmr] at k1
  obtain ⟨mr, hmr2⟩ : ∃ m, most = m := ⟨_, rfl⟩
  obtain ⟨zr, hzr2⟩ : ∃ z : Rat, 0 = z := ⟨_, rfl⟩
  rw [hmr2] at k1 hmq
  rw [hzr2] at k0 hzr
  have hzq : rq zr := hzr2 ▸ rq_0
  rw [hV]
  refine means_fn false 128 [.tmp 2, .tmp 3] Try.func26 rfl rfl rfl (by simp) (by decide) rfl fun X hX => ?_
  (repeat (refine awp_stepG [0, 2, 3, 4, 5, 6, 7, 8, 9, 10, 11, 12, 13, 15, 18, 26, 35, 36, 37, 38, 56, 92, 108, 114, 115, 116, 117] hX mixed rfl ?_; (simp [go_sem]; try (refine ⟨by kernel_rfl, ?_⟩))))
  by_cases hlen : ks.length + T.length = 0 ∨ 12 < ks.length + T.length
  · have e : V = .tup [.sl [], ii 1] := by rw [← hV]; exact if_pos (.inl hlen)
    rw [e]
    refine awp_cond (b := true) (by simp [go_sem]; omega) (fun _ => ?_) (fun h => by cases h)
    (repeat (refine awp_stepG [0, 2, 3, 4, 5, 6, 7, 8, 9, 10, 11, 12, 13, 15, 18, 26, 35, 36, 37, 38, 56, 92, 108, 114, 115, 116, 117] hX mixed rfl ?_; (simp [go_sem]; try (refine ⟨by kernel_rfl, ?_⟩))))
  refine awp_cond (b := false) (by simp [go_sem]; omega) (fun h => by cases h) (fun _ => ?_)
  (repeat (refine awp_stepG [0, 2, 3, 4, 5, 6, 7, 8, 9, 10, 11, 12, 13, 15, 18, 26, 35, 36, 37, 38, 56, 92, 108, 114, 115, 116, 117] hX mixed rfl ?_; (simp [go_sem]; try (refine ⟨by kernel_rfl, ?_⟩))))
  first | refine callH_intro [0] (k0) (by simp [go_sem]) ?_ | refine callTQ_intro [0] (k0) (by simp [go_sem]) ?_ | refine callTE_intro [0] (k0) (by simp [go_sem]) ?_
  try (simp [go_sem]; try (refine ⟨by kernel_rfl, ?_⟩))
  first | refine callH_intro [0] (k0) (by simp [go_sem]) ?_ | refine callTQ_intro [0] (k0) (by simp [go_sem]) ?_ | refine callTE_intro [0] (k0) (by simp [go_sem]) ?_
  try (simp [go_sem]; try (refine ⟨by kernel_rfl, ?_⟩))
  first | refine callH_intro [0] (k1) (by simp [go_sem]) ?_ | refine callTQ_intro [0] (k1) (by simp [go_sem]) ?_ | refine callTE_intro [0] (k1) (by simp [go_sem]) ?_
  try (simp [go_sem]; try (refine ⟨by kernel_rfl, ?_⟩))
  (repeat (refine awp_stepG [0, 2, 3, 4, 5, 6, 7, 8, 9, 10, 11, 12, 13, 15, 18, 26, 35, 36, 37, 38, 56, 92, 108, 114, 115, 116, 117] hX mixed rfl ?_; (simp [go_sem]; try (refine ⟨by kernel_rfl, ?_⟩))))
  refine awp_loop (fun i : Nat => ⟨mkE [(0, .sl (ks.map frq ++ T)), (4, .el 0 1 0 0), (5, .el 1 4 0 0), (6, .el 2 4 0 0), (7, .el 3 4 0 0), (8, .ow 6), (9, .ow 7), (10, .el 4 1 0 0), (35, .sl (ks.map frq ++ T)), (36, ii (ks.length + T.length : Nat)), (37, ii i)], [calC (ev ks i), .row ⟨48, 4, [fv (svF ks i)]⟩, .row ⟨48, 4, [frq zr]⟩, .row ⟨48, 4, [frq mr]⟩, .row ⟨41, 1, [.ow 5]⟩, .row ⟨48, 4, restA ks i⟩, .row ⟨3, 1, outA ks i⟩, .row ⟨3, 1, ordA i⟩]⟩) (fun i => i ≤ ks.length ∧ okTo ks i) (fun i => ks.length + T.length - i) 0 ?_ ?_ ?_
  · rw [hzr, hev]
    refine sub_of _ [.old 0 ⟨66, 1, [.agg [ii 0]]⟩, .old 1 ⟨48, 4, [frq zr]⟩, .old 2 ⟨48, 4, [frq zr]⟩, .old 3 ⟨48, 4, [frq mr]⟩, .old 4 ⟨41, 1, [.ow 5]⟩, .birth 48 4, .birth 3 1, .birth 3 1] (by simp [go_sem]) ?_
    simp [go_sem]
  · exact ⟨by omega, fun k hk => by omega⟩
  · rintro i ⟨hi, hp⟩
    have hn0 : ks.length + T.length ≤ 12 := by omega
    have wi := w64 (x := (i : Int) + 1) (by omega) (by omega)
    (repeat (refine awp_stepG [0, 2, 3, 4, 5, 6, 7, 8, 9, 10, 11, 12, 13, 15, 18, 26, 35, 36, 37, 38, 56, 92, 108, 114, 115, 116, 117] hX mixed rfl ?_; (simp [go_sem]; try (refine ⟨by kernel_rfl, ?_⟩))))
    refine awp_cond (b := decide (i < ks.length + T.length)) (by simp [go_sem]; try omega) (fun hb => ?_) (fun hb => ?_)
    · simp only [decide_eq_true_eq] at hb
      by_cases hik : i < ks.length
      · have hgi : ks.getD i 0 = ks[i] := by rw [List.getD_eq_getElem?_getD, List.getElem?_eq_getElem hik]; rfl
        have hfq : rq (ks.getD i 0) := by rw [hgi]; exact hq _ (List.getElem_mem hik)
        have q1 : nth (ks.map frq ++ T) i = frq (ks.getD i 0) := nth_hd (by simp [hik])
        have hil : (i : Int) < (ks.length : Int) + (T.length : Int) := by omega
        have r1 := Right_t _ _ (rf_q hfq)
        have m1 := Compare_q hfq hzq
        have m2 := Compare_q hfq hmq
        have z1 := cmpR_lt (ks.getD i 0) zr
        have z2 := cmpR_gt (ks.getD i 0) mr
        have hmem : ks.getD i 0 ∈ ks := by rw [hgi]; exact List.getElem_mem hik
        obtain ⟨F0, hF0⟩ : ∃ F, svF ks i = F := ⟨_, rfl⟩
        obtain ⟨e0, he0⟩ : ∃ e, ev ks i = e := ⟨_, rfl⟩
        have k5 := fun h => add_k (ks := ks) (i := i) hfq h
        have hrs := restA_succ ks i
        have hos := outA_succ ks i
        have hds := ordA_succ i
        have hrl := restA_len ks i
        have hol := outA_len ks i
        have hdl := ordA_len i
        have hrz := restA_zone ks i
        have hoz := outA_zone ks i
        have hdz := ordA_zone i
        obtain ⟨f, hf⟩ : ∃ f, ks.getD i 0 = f := ⟨_, rfl⟩
        obtain ⟨RA, hRA⟩ : ∃ e, restA ks i = e := ⟨_, rfl⟩
        obtain ⟨OA, hOA⟩ : ∃ e, outA ks i = e := ⟨_, rfl⟩
        obtain ⟨DA, hDA⟩ : ∃ e, ordA i = e := ⟨_, rfl⟩
        rw [hf] at hfq q1 r1 m1 m2 z1 z2 hmem hrs hos k5
        rw [hF0, he0] at k5 ⊢
        rw [hRA] at hrs hrl hrz ⊢
        rw [hOA] at hos hoz hol ⊢
        rw [hDA] at hds hdz hdl ⊢
        (repeat (refine awp_stepG [0, 2, 3, 4, 5, 6, 7, 8, 9, 10, 11, 12, 13, 15, 18, 26, 35, 36, 37, 38, 56, 92, 108, 114, 115, 116, 117] hX mixed rfl ?_; (simp [go_sem, hil, q1]; try (refine ⟨by kernel_rfl, ?_⟩))))
        first | refine callKa (r1) ?_ | refine callTa (r1) ?_
        try (simp [go_sem, hil, q1]; try (refine ⟨by kernel_rfl, ?_⟩))
        first | refine callGa (fun hg => m1) ?_ | refine callGTa (fun hg => m1) ?_
        try (simp [go_sem, hil, q1]; try (refine ⟨by kernel_rfl, ?_⟩))
        first | refine callGa (fun hg => m2) ?_ | refine callGTa (fun hg => m2) ?_
        try (simp [go_sem, hil, q1]; try (refine ⟨by kernel_rfl, ?_⟩))
        refine awp_cond (b := decide (f < zr ∨ mr < f)) (by simp [go_sem, z1, z2]; try grind) (fun hd => ?_) (fun hd => ?_)
        · simp only [decide_eq_true_eq] at hd
          have e : V = .tup [.sl [], ii 1] := by rw [← hV]; exact if_pos (.inr (.inr ⟨f, hmem, by rw [hmr2, hzr2]; exact hd⟩))
          rw [e]
          (repeat (refine awp_stepG [0, 2, 3, 4, 5, 6, 7, 8, 9, 10, 11, 12, 13, 15, 18, 26, 35, 36, 37, 38, 56, 92, 108, 114, 115, 116, 117] hX mixed rfl ?_; (simp [go_sem]; try (refine ⟨by kernel_rfl, ?_⟩))))
        · simp only [decide_eq_false_iff_not, not_or] at hd
          have hf0 : 0 ≤ f := by rw [hzr2]; exact Rat.not_lt.1 hd.1
          have hfm : f ≤ most := by rw [hmr2]; exact Rat.not_lt.1 hd.2
          obtain ⟨b1, b2⟩ := fl_bd (B := 4503599627370496) hf0 hfm
          have c1 := Floor_f f.num f.den (rf_q hfq)
          have c2 := Int_i (z := fl f) (by omega)
          have k3 := of_k e0 (p := fl f) (by omega)
          have k4 := sub_k e0 hfq hf0 b2
          have k5 := k5 hf0
          obtain ⟨F1, hF1⟩ : ∃ F, svF ks (i + 1) = F := ⟨_, rfl⟩
          obtain ⟨e1, he1⟩ : ∃ e, ev ks (i + 1) = e := ⟨_, rfl⟩
          rw [hF1, he1] at k5
          have hrn : nth (RA ++ [frq (rs f)]) i = frq (rs f) := nth_end hrl
          have hri : (i : Int) < (RA.length : Int) + 1 := by omega
          have hri2 : i < RA.length + 1 := by omega
          (repeat (refine awp_stepG [0, 2, 3, 4, 5, 6, 7, 8, 9, 10, 11, 12, 13, 15, 18, 26, 35, 36, 37, 38, 56, 92, 108, 114, 115, 116, 117] hX mixed rfl ?_; (simp [go_sem, hil, q1]; try (refine ⟨by kernel_rfl, ?_⟩))))
          first | refine callKa (c1) ?_ | refine callTa (c1) ?_
          try (simp [go_sem]; try (refine ⟨by kernel_rfl, ?_⟩))
          first | refine callKa (c2) ?_ | refine callTa (c2) ?_
          try (simp [go_sem]; try (refine ⟨by kernel_rfl, ?_⟩))
          (repeat (refine awp_stepG [0, 2, 3, 4, 5, 6, 7, 8, 9, 10, 11, 12, 13, 15, 18, 26, 35, 36, 37, 38, 56, 92, 108, 114, 115, 116, 117] hX mixed rfl ?_; (simp [go_sem]; try (refine ⟨by kernel_rfl, ?_⟩))))
          (repeat refine And.intro (by first | omega | (unfold maxLen; omega) | kernel_rfl | (refine ⟨by first | omega | (unfold maxLen; omega), by first | omega | (unfold maxLen; omega)⟩) | grind) ?_)
          (repeat (refine awp_stepG [0, 2, 3, 4, 5, 6, 7, 8, 9, 10, 11, 12, 13, 15, 18, 26, 35, 36, 37, 38, 56, 92, 108, 114, 115, 116, 117] hX mixed rfl ?_; (simp [go_sem, hil, q1]; try (refine ⟨by kernel_rfl, ?_⟩))))
          first | refine callH_intro [0] (k3) (by simp [go_sem]) ?_ | refine callTQ_intro [0] (k3) (by simp [go_sem]) ?_ | refine callTE_intro [0] (k3) (by simp [go_sem]) ?_
          try (simp [go_sem]; try (refine ⟨by kernel_rfl, ?_⟩))
          first | refine callH_intro [0] (k4) (by simp [go_sem]) ?_ | refine callTQ_intro [0] (k4) (by simp [go_sem]) ?_ | refine callTE_intro [0] (k4) (by simp [go_sem]) ?_
          try (simp [go_sem]; try (refine ⟨by kernel_rfl, ?_⟩))
          (repeat refine And.intro (by first | omega | (unfold maxLen; omega) | kernel_rfl | (refine ⟨by first | omega | (unfold maxLen; omega), by first | omega | (unfold maxLen; omega)⟩) | grind) ?_)
          (repeat (refine awp_stepG [0, 2, 3, 4, 5, 6, 7, 8, 9, 10, 11, 12, 13, 15, 18, 26, 35, 36, 37, 38, 56, 92, 108, 114, 115, 116, 117] hX mixed rfl ?_; (simp [go_sem, hrn, hri, hri2]; try (refine ⟨by kernel_rfl, ?_⟩))))
          first | refine callH_intro [0] (k5) (by simp [go_sem]) ?_ | refine callTQ_intro [0] (k5) (by simp [go_sem]) ?_ | refine callTE_intro [0] (k5) (by simp [go_sem]) ?_
          try (simp [go_sem]; try (refine ⟨by kernel_rfl, ?_⟩))
          (repeat refine And.intro (by first | omega | (unfold maxLen; omega) | kernel_rfl | (refine ⟨by first | omega | (unfold maxLen; omega), by first | omega | (unfold maxLen; omega)⟩) | grind) ?_)
          (repeat (refine awp_stepG [0, 2, 3, 4, 5, 6, 7, 8, 9, 10, 11, 12, 13, 15, 18, 26, 35, 36, 37, 38, 56, 92, 108, 114, 115, 116, 117] hX mixed rfl ?_; (simp [go_sem, wi]; try (refine ⟨by kernel_rfl, ?_⟩))))
          refine ⟨i + 1, ⟨by omega, okTo_succ hp hf hf0 hfm⟩, by omega, ?_⟩
          · rw [hF1, he1, hrs, hos, hds]
            refine sub_of _ [.old 0 ⟨66, 1, [.agg [ii e1]]⟩, .old 1 ⟨48, 4, [fv F1]⟩, .old 2 ⟨48, 4, [frq zr]⟩, .old 3 ⟨48, 4, [frq mr]⟩, .old 4 ⟨41, 1, [.ow 5]⟩, .old 14 ⟨48, 4, RA ++ [frq (rs f)]⟩, .old 10 ⟨3, 1, OA ++ [ii (fl f)]⟩, .old 12 ⟨3, 1, DA ++ [ii (i : Int)]⟩] (by simp [go_sem, hrz, hoz, hdz]) ?_
            simp [go_sem]
      · have hin : i = ks.length := by omega
        rcases hT with rfl | ⟨x, T', rfl, hx⟩
        · simp at hb; omega
        · have q1 : nth (ks.map frq ++ fv x :: T') i = fv x := nth_end (by simp [hin])
          have hil : (i : Int) < (ks.length : Int) + ((T'.length : Int) + 1) := by simp at hb; omega
          have e : V = .tup [.sl [], ii 1] := by rw [← hV]; exact if_pos (.inr (.inl (by simp)))
          (repeat (refine awp_stepG [0, 2, 3, 4, 5, 6, 7, 8, 9, 10, 11, 12, 13, 15, 18, 26, 35, 36, 37, 38, 56, 92, 108, 114, 115, 116, 117] hX mixed rfl ?_; (simp [go_sem, hil, q1]; try (refine ⟨by kernel_rfl, ?_⟩))))
          first | refine callKa (hx) ?_ | refine callTa (hx) ?_
          try (simp [go_sem, hil, q1]; try (refine ⟨by kernel_rfl, ?_⟩))
          try first | refine callG_skip rfl ?_ | refine callGT_skip rfl ?_
          try (simp [go_sem, hil, q1]; try (refine ⟨by kernel_rfl, ?_⟩))
          try first | refine callG_skip rfl ?_ | refine callGT_skip rfl ?_
          try (simp [go_sem, hil, q1]; try (refine ⟨by kernel_rfl, ?_⟩))
          refine awp_cond (b := true) (by simp [go_sem]) (fun _ => ?_) (fun h => by cases h)
          rw [e]
          (repeat (refine awp_stepG [0, 2, 3, 4, 5, 6, 7, 8, 9, 10, 11, 12, 13, 15, 18, 26, 35, 36, 37, 38, 56, 92, 108, 114, 115, 116, 117] hX mixed rfl ?_; (simp [go_sem]; try (refine ⟨by kernel_rfl, ?_⟩))))
    · simp only [decide_eq_false_iff_not] at hb
      have hin : i = ks.length := by omega
      have hT0 : T = [] := List.eq_nil_of_length_eq_zero (by omega)
      subst hin hT0
      have hcB : ¬ ((ks.length + ([] : List AV).length = 0 ∨ 12 < ks.length + ([] : List AV).length) ∨ cArg ks []) := fun h => by
        rcases h with h | h | ⟨k, hk, h⟩
        · exact hlen h
        · exact h rfl
        · obtain ⟨j, hj, rfl⟩ := List.getElem_of_mem hk
          have := hp j hj
          rw [List.getD_eq_getElem?_getD, List.getElem?_eq_getElem hj] at this
          have h1 : 0 ≤ ks[j] := this.1
          have h2 : ks[j] ≤ most := this.2
          rcases h with h | h
          · exact absurd h (Rat.not_lt.2 h1)
          · exact absurd h (Rat.not_lt.2 h2)
      by_cases hs : okS ks ks.length
      · have e1 : svF ks ks.length = frR (rsum ks ks.length) := if_pos hs
        have e2 : ev ks ks.length = 0 := if_pos hs
        have hsq := rsum_rq hs
        obtain ⟨b1, b2⟩ := rsum_bd ks ks.length
        obtain ⟨b3, b4⟩ := fl_bd (B := (ks.length : Int)) b1 b2
        have hV2 : V = if rsum ks ks.length = ((fl (rsum ks ks.length) : Int) : Rat) then .tup [il (coinL ks), ii 0] else .tup [.sl [], ii 1] := by
          rw [← hV]; unfold coinV; rw [if_neg hcB, if_pos hs]
        have hcl : coinL ks = bumps (ks.map fl) ((srt (B.kf (ks.map rs)) (idxI ks.length)).take (fl (rsum ks ks.length)).toNat) := rfl
        have c1 := Floor_f (rsum ks ks.length).num (rsum ks ks.length).den (rf_q hsq)
        have c2 := Int_i (z := fl (rsum ks ks.length)) (by omega)
        have k3 := of_k 0 (p := fl (rsum ks ks.length)) (by omega)
        have hlq : rq ((fl (rsum ks ks.length) : Int) : Rat) := by
          have := of_rq (p := fl (rsum ks ks.length)) (q := 1) (by omega) (by decide) (by decide)
          rwa [cast1] at this
        have m1 := Compare_q hsq hlq
        have z1 := cmpR_eq (rsum ks ks.length) ((fl (rsum ks ks.length) : Int) : Rat)
        have hrz := restA_zone ks ks.length
        have hoz := outA_zone ks ks.length
        have hdz := ordA_zone ks.length
        have hrf : restA ks ks.length = (ks.map rs).map frq := restA_full ks
        have hof := outA_full ks
        have hdf := ordA_full ks.length
        have hfq : ∀ v ∈ ks.map fl, 0 ≤ v ∧ v ≤ 4503599627370496 := fun v hv => by
          obtain ⟨k, hk, rfl⟩ := List.mem_map.1 hv
          obtain ⟨j, hj, rfl⟩ := List.getElem_of_mem hk
          have := hp j hj
          rw [List.getD_eq_getElem?_getD, List.getElem?_eq_getElem hj] at this
          exact fl_bd this.1 this.2
        have hrl : (ks.map rs).length = ks.length := by simp
        have hS := B.sortS_m (idxI ks.length) (ks.map rs) (idxI_nodup _) (fun i j hi hj hij => idxI_ord _ i j hi hj hij) (fun x hx => by rw [hrl]; exact idxI_mem.1 hx) (by rw [idxI_len]; omega) (by rw [hrl]; omega) (fun r hr => by
          obtain ⟨k, hk, rfl⟩ := List.mem_map.1 hr
          obtain ⟨j, hj, rfl⟩ := List.getElem_of_mem hk
          have := hp j hj
          rw [List.getD_eq_getElem?_getD, List.getElem?_eq_getElem hj] at this
          exact rs_rq (hq _ hk) this.1)
        obtain ⟨O, hO⟩ : ∃ O, srt (B.kf (ks.map rs)) (idxI ks.length) = O := ⟨_, rfl⟩
        rw [hO] at hS hcl
        have hOl : O.length = ks.length := by rw [← hO, srt_len, idxI_len]
        have hOm : ∀ x ∈ O, 0 ≤ x ∧ x < ks.length := fun x hx => by
          rw [← hO] at hx
          exact idxI_mem.1 ((srt_perm _ _).mem_iff.1 hx)
        have hQl : (ks.map fl).length = ks.length := by simp
        obtain ⟨m, hm⟩ : ∃ m : Nat, (m : Int) = fl (rsum ks ks.length) := ⟨(fl (rsum ks ks.length)).toNat, by omega⟩
        have hmt : (fl (rsum ks ks.length)).toNat = m := by omega
        rw [hmt] at hcl
        rw [← hm] at c2 k3 m1 z1 hV2 b3 b4
        have c1 : Means false Try.prog 50 [frq (rsum ks ks.length)] (bigZ (m : Int)) := by rw [hm]; exact c1
        rw [e1, e2, hrf, hof, hdf]
        rw [hrf] at hrz
        rw [hof] at hoz
        rw [hdf] at hdz
        generalize ks.map rs = R at *
        generalize ks.map fl = Q at *
        generalize idxI ks.length = I at *
        generalize rsum ks ks.length = su at *
        (repeat (refine awp_stepG [0, 2, 3, 4, 5, 6, 7, 8, 9, 10, 11, 12, 13, 15, 18, 26, 35, 36, 37, 38, 56, 92, 108, 114, 115, 116, 117] hX mixed rfl ?_; (simp [go_sem]; try (refine ⟨by kernel_rfl, ?_⟩))))
        refine awp_cond (b := false) (by simp [go_sem]) (fun h => by cases h) (fun _ => ?_)
        (repeat (refine awp_stepG [0, 2, 3, 4, 5, 6, 7, 8, 9, 10, 11, 12, 13, 15, 18, 26, 35, 36, 37, 38, 56, 92, 108, 114, 115, 116, 117] hX mixed rfl ?_; (simp [go_sem]; try (refine ⟨by kernel_rfl, ?_⟩))))
        first | refine callKa (c1) ?_ | refine callTa (c1) ?_
        try (simp [go_sem]; try (refine ⟨by kernel_rfl, ?_⟩))
        first | refine callKa (c2) ?_ | refine callTa (c2) ?_
        try (simp [go_sem]; try (refine ⟨by kernel_rfl, ?_⟩))
        (repeat (refine awp_stepG [0, 2, 3, 4, 5, 6, 7, 8, 9, 10, 11, 12, 13, 15, 18, 26, 35, 36, 37, 38, 56, 92, 108, 114, 115, 116, 117] hX mixed rfl ?_; (simp [go_sem]; try (refine ⟨by kernel_rfl, ?_⟩))))
        first | refine callH_intro [0] (k3) (by simp [go_sem]) ?_ | refine callTQ_intro [0] (k3) (by simp [go_sem]) ?_ | refine callTE_intro [0] (k3) (by simp [go_sem]) ?_
        try (simp [go_sem]; try (refine ⟨by kernel_rfl, ?_⟩))
        (repeat (refine awp_stepG [0, 2, 3, 4, 5, 6, 7, 8, 9, 10, 11, 12, 13, 15, 18, 26, 35, 36, 37, 38, 56, 92, 108, 114, 115, 116, 117] hX mixed rfl ?_; (simp [go_sem]; try (refine ⟨by kernel_rfl, ?_⟩))))
        first | refine callKa (m1) ?_ | refine callTa (m1) ?_
        try (simp [go_sem]; try (refine ⟨by kernel_rfl, ?_⟩))
        refine awp_cond (b := !decide (su = (((m : Nat) : Int) : Rat))) (by simp [go_sem, z1, bne]; try grind) (fun hd => ?_) (fun hd => ?_)
        · have e : V = .tup [.sl [], ii 1] := by rw [hV2]; exact if_neg (by simpa using hd)
          rw [e]
          (repeat (refine awp_stepG [0, 2, 3, 4, 5, 6, 7, 8, 9, 10, 11, 12, 13, 15, 18, 26, 35, 36, 37, 38, 56, 92, 108, 114, 115, 116, 117] hX mixed rfl ?_; (simp [go_sem]; try (refine ⟨by kernel_rfl, ?_⟩))))
        simp only [Bool.not_eq_false', decide_eq_true_eq] at hd
        have e : V = .tup [il (coinL ks), ii 0] := by rw [hV2]; exact if_pos hd
        refine awp_sub (sub_of [(8, .ow 2), (9, .ow 1), (10, .el 0 1 0 0), (15, ii (m : Int))] [.old 4 ⟨41, 1, [.sl (R.map frq)]⟩, .old 7 ⟨3, 1, I.map ii⟩, .old 6 ⟨3, 1, Q.map ii⟩] (by simp [go_sem, hrz]) (by simp [go_sem])) ?_
        simp only [List.map_cons, List.map_nil, Src.cell]
        have hmO : m ≤ O.length := by omega
        have hmO2 : (m : Int) ≤ (O.length : Int) := by omega
        (repeat (refine awp_stepG [0, 2, 3, 4, 5, 6, 7, 8, 9, 10, 11, 12, 13, 15, 18, 26, 35, 36, 37, 38, 56, 92, 108, 114, 115, 116, 117] hX mixed rfl ?_; (simp [go_sem]; try (refine ⟨by kernel_rfl, ?_⟩))))
        first | refine callH_intro [1, 0] (hS) (by simp [go_sem]) ?_ | refine callTQ_intro [1, 0] (hS) (by simp [go_sem]) ?_ | refine callTE_intro [1, 0] (hS) (by simp [go_sem]) ?_
        try (simp [go_sem]; try (refine ⟨by kernel_rfl, ?_⟩))
        (repeat (refine awp_stepG [0, 2, 3, 4, 5, 6, 7, 8, 9, 10, 11, 12, 13, 15, 18, 26, 35, 36, 37, 38, 56, 92, 108, 114, 115, 116, 117] hX mixed rfl ?_; (simp [go_sem, hmO, hmO2]; try (refine ⟨by kernel_rfl, ?_⟩))))
        refine awp_loop (fun j : Nat => ⟨mkE [(8, .ow 0), (114, .wn 1 1 0 m), (115, ii m), (116, ii j)], [rowI (bumps Q (O.take j)), rowI O]⟩) (fun j => j ≤ m) (fun j => m - j) 0 ?_ ?_ ?_
        · refine sub_of _ [.old 2 ⟨3, 1, Q.map ii⟩, .old 1 ⟨3, 1, O.map ii⟩] (by simp [go_sem, bumps]) ?_
          simp [go_sem, bumps]
        · omega
        · intro j hj
          have hbl := bumps_len (O.take j) Q
          (repeat (refine awp_stepG [0, 2, 3, 4, 5, 6, 7, 8, 9, 10, 11, 12, 13, 15, 18, 26, 35, 36, 37, 38, 56, 92, 108, 114, 115, 116, 117] hX mixed rfl ?_; (simp [go_sem]; try (refine ⟨by kernel_rfl, ?_⟩))))
          refine awp_cond (b := decide (j < m)) (by simp [go_sem]) (fun hc => ?_) (fun hc => ?_)
          · simp at hc
            have hjO : j < O.length := by omega
            have hx := hOm O[j] (List.getElem_mem hjO)
            have hbs := bumps_succ (L := Q) hjO
            obtain ⟨p, hp⟩ : ∃ p : Nat, O[j] = (p : Int) := ⟨O[j].toNat, by omega⟩
            obtain ⟨B, hB⟩ : ∃ B, bumps Q (O.take j) = B := ⟨_, rfl⟩
            rw [hp] at hx hbs
            have hbd := bumps_bd (O.take j) hfq
            rw [hB] at hbl hbs hbd ⊢
            have hpB : p < B.length := by omega
            have hbd : 0 ≤ B[p] ∧ B[p] ≤ 4503599627370496 + 12 := by
              have := hbd B[p] (List.getElem_mem _)
              rw [List.length_take] at this
              omega
            have hbe : bump B (p : Int) = B.set p (B[p] + 1) := by
              unfold bump
              rw [Int.toNat_natCast, List.getD_eq_getElem?_getD, List.getElem?_eq_getElem hpB]; rfl
            (repeat (refine awp_stepG [0, 2, 3, 4, 5, 6, 7, 8, 9, 10, 11, 12, 13, 15, 18, 26, 35, 36, 37, 38, 56, 92, 108, 114, 115, 116, 117] hX mixed rfl ?_; (simp [go_sem, hc, hjO, hp, hpB]; (try simp (disch := omega) only [w64, td, tm]); try (refine ⟨by kernel_rfl, ?_⟩))))
            (repeat refine And.intro (by first | omega | (unfold maxLen; omega) | kernel_rfl | (refine ⟨by first | omega | (unfold maxLen; omega), by first | omega | (unfold maxLen; omega)⟩) | grind) ?_)
            (repeat (refine awp_stepG [0, 2, 3, 4, 5, 6, 7, 8, 9, 10, 11, 12, 13, 15, 18, 26, 35, 36, 37, 38, 56, 92, 108, 114, 115, 116, 117] hX mixed rfl ?_; (simp [go_sem, hc, hjO, hp, hpB]; (try simp (disch := omega) only [w64, td, tm]); try (refine ⟨by kernel_rfl, ?_⟩))))
            refine ⟨j + 1, by omega, by omega, ?_⟩
            rw [hbs, hbe]
            refine sub_of _ [.old 0 ⟨3, 1, (B.set p (B[p] + 1)).map ii⟩, .old 1 ⟨3, 1, O.map ii⟩] (by simp [go_sem]) ?_
            simp [go_sem]
            try omega
          · have : j = m := by simp at hc; omega
            subst this
            (repeat (refine awp_stepG [0, 2, 3, 4, 5, 6, 7, 8, 9, 10, 11, 12, 13, 15, 18, 26, 35, 36, 37, 38, 56, 92, 108, 114, 115, 116, 117] hX mixed rfl ?_; (simp [go_sem]; try (refine ⟨by kernel_rfl, ?_⟩))))
            rw [e, hcl]
            (repeat (refine awp_stepG [0, 2, 3, 4, 5, 6, 7, 8, 9, 10, 11, 12, 13, 15, 18, 26, 35, 36, 37, 38, 56, 92, 108, 114, 115, 116, 117] hX mixed rfl ?_; (simp [go_sem]; try (refine ⟨by kernel_rfl, ?_⟩))))
      · have e2 : ev ks ks.length = 6 := if_neg hs
        have e : V = .tup [.sl [], ii 6] := by
          rw [← hV]; unfold coinV
          rw [if_neg (hcB), if_neg hs]
        rw [e2, e]
        (repeat (refine awp_stepG [0, 2, 3, 4, 5, 6, 7, 8, 9, 10, 11, 12, 13, 15, 18, 26, 35, 36, 37, 38, 56, 92, 108, 114, 115, 116, 117] hX mixed rfl ?_; (simp [go_sem]; try (refine ⟨by kernel_rfl, ?_⟩))))
        refine awp_cond (b := true) (by simp [go_sem]) (fun _ => ?_) (fun h => by cases h)
        (repeat (refine awp_stepG [0, 2, 3, 4, 5, 6, 7, 8, 9, 10, 11, 12, 13, 15, 18, 26, 35, 36, 37, 38, 56, 92, 108, 114, 115, 116, 117] hX mixed rfl ?_; (simp [go_sem]; try (refine ⟨by kernel_rfl, ?_⟩))))
end Go.Proofs.Ytndiamkmcoghdaa

namespace Go.Proofs.Ytndiamkmcoghdaa
open Go.RowKit Go.Ab
attribute [local irreducible] AWP Go.Ab.Sub Means MeansH MeansX CallK CallG CallT CallGT CallU
def allQ (own : List Int) (S : List (List Int)) : List Rat := (List.range own.length).map (allX own S)
def keptQ (own : List Int) (S : List (List Int)) : List Rat := (List.range own.length).map (keptX own S)
theorem allQ_len (own : List Int) (S : List (List Int)) : (allQ own S).length = own.length := by simp [allQ]
theorem keptQ_len (own : List Int) (S : List (List Int)) : (keptQ own S).length = own.length := by simp [keptQ]
theorem allQ_at {own : List Int} {S : List (List Int)} {k : Nat} (h : k < own.length) : (allQ own S).getD k 0 = allX own S k := by
  simp [allQ, List.getD_eq_getElem?_getD, h]
theorem keptQ_at {own : List Int} {S : List (List Int)} {k : Nat} (h : k < own.length) : (keptQ own S).getD k 0 = keptX own S k := by
  simp [keptQ, List.getD_eq_getElem?_getD, h]
variable {own : List Int} {S : List (List Int)}
abbrev partR (S : List (List Int)) (k : Nat) : Rat := ((1000 - sumI (S.getD k []) : Int) : Rat) / ((1000 : Int) : Rat)
theorem part_bd (h : PV own S) {i : Nat} (hi : i < own.length) : 0 < 1000 - sumI (S.getD i []) ∧ 1000 - sumI (S.getD i []) ≤ 1000 := by
  have hS : i < S.length := by rw [h.len]; exact hi
  have hg : S.getD i [] = S[i] := by rw [List.getD_eq_getElem?_getD, List.getElem?_eq_getElem hS]; rfl
  have hpr := PR_row h.toPR (List.getElem_mem hS)
  have hsb := csum_bd S[i] S[i].length hpr.2
  rw [List.take_length] at hsb
  have hlt := h.lt S[i] (List.getElem_mem hS)
  rw [hg]; omega
theorem part_bt (h : PV own S) {i : Nat} (hi : i < own.length) : bt 10 (partR S i).num ∧ bt 10 (partR S i).den := by
  have := part_bd h hi
  exact of_bt (by decide) (bt_1000 (by omega)) (bt_1000 (by decide))
theorem keptok (h : PV own S) (h6 : own.length ≤ 6) {k : Nat} (hk : k < own.length) : okMul (allX own S k) (partR S k) := by
  obtain ⟨h1, h2⟩ := all_sz h h6 hk
  obtain ⟨h3, h4⟩ := part_bt h hk
  exact okMul_bt h1 h2 h3 h4 (by omega) (by omega)
theorem kept_sz (h : PV own S) (h6 : own.length ≤ 6) {k : Nat} (hk : k < own.length) : bt 320 (keptX own S k).num ∧ bt 80 (keptX own S k).den := by
  obtain ⟨h1, h2⟩ := all_sz h h6 hk
  obtain ⟨h3, h4⟩ := part_bt h hk
  exact mul_bt h1 h2 h3 h4
theorem pool_fit (h : PV own S) (h6 : own.length ≤ 6) : Fit (poolM own S) own.length := fit_of (pool_inv h) (pool_stg h.toPR) (.inl h6)
theorem bt_rq {k m : Nat} {r : Rat} (h : bt k r.num ∧ bt m r.den) (hk : k ≤ 1199) (hm : m ≤ 1199) : rq r := rq_bt h.1 h.2 hk hm
theorem allQ_mem (h : PV own S) (h6 : own.length ≤ 6) : ∀ x ∈ allQ own S, bt 310 x.num ∧ bt 70 x.den := fun x hx => by
  obtain ⟨k, hk, rfl⟩ := List.mem_map.1 hx
  exact all_sz h h6 (by simpa using hk)
theorem keptQ_mem (h : PV own S) (h6 : own.length ≤ 6) : ∀ x ∈ keptQ own S, bt 320 x.num ∧ bt 80 x.den := fun x hx => by
  obtain ⟨k, hk, rfl⟩ := List.mem_map.1 hx
  exact kept_sz h h6 (by simpa using hk)
theorem Solve_q (h : PV own S) (h6 : own.length ≤ 6) : Means false Try.prog 16 [il own, ill S] (.tup [fql (allQ own S), fql (keptQ own S), ii 0]) := by
  have := Solve_m own S h (pool_fit h h6) fun k hk => keptok h h6 hk
  have e1 : (allQ own S).map frq = allL own S := by unfold allQ; rw [List.map_map]; rfl
  have e2 : (keptQ own S).map frq = keptL own S := by unfold keptQ; rw [List.map_map]; rfl
  unfold fql
  rw [e1, e2]; exact this
theorem all_check (h : PV own S) : chkQ own S (allQ own S) (keptQ own S) := fun i hi => by
  rw [allQ_at hi, keptQ_at hi]
  refine ⟨?_, rfl⟩
  rw [all_eq h hi]
  unfold psum
  congr 1
  exact sumR_congr fun t ht => by rw [allQ_at ht]; rfl
theorem rs_bt {r : Rat} {m : Nat} (h0 : 0 ≤ r) (hm : bt m r.den) : bt m (rs r).num ∧ bt m (rs r).den := by
  have hd : 0 < (r.den : Int) := by have := r.den_pos; omega
  have e : rs r * ((r.den : Int) : Rat) = ((r.num % (r.den : Int) : Int) : Rat) := by
    have h1 : (r.num % (r.den : Int) : Int) = r.num - fl r * (r.den : Int) := by unfold fl; rw [Int.emod_def, Int.mul_comm]
    rw [h1, Rat.intCast_sub, Rat.intCast_mul, num_den r]
    unfold rs; grind
  refine low_bt (by omega) e ?_ hm
  have h1 := Int.emod_nonneg r.num (show (r.den : Int) ≠ 0 by omega)
  have h2 := Int.emod_lt_of_pos r.num hd
  unfold bt at *
  omega
theorem rsum_bt {ks : List Rat} {m : Nat} (h : ∀ k ∈ ks, 0 ≤ k ∧ bt m k.den) : ∀ i, i ≤ ks.length → bt ((m + 1) * i) (rsum ks i).num ∧ bt (m * i) (rsum ks i).den
  | 0, _ => ⟨by show bt _ ((0 : Rat)).num; unfold bt; simp, by show bt _ ((((0 : Rat)).den : Nat) : Int); unfold bt; simp⟩
  | i + 1, hi => by
    obtain ⟨h1, h2⟩ := rsum_bt h i (by omega)
    have hg : ks.getD i 0 = ks[i] := by rw [List.getD_eq_getElem?_getD, List.getElem?_eq_getElem (by omega)]; rfl
    obtain ⟨h3, h4⟩ := h ks[i] (List.getElem_mem _)
    obtain ⟨h5, h6⟩ := rs_bt h3 h4
    rw [rsum_succ, hg]
    have := add_bt (c := (m + 1) * i + m) h1 h2 h5 h6 (by omega) (by rw [Nat.add_mul]; omega)
    refine ⟨?_, ?_⟩
    · have e : (m + 1) * i + m + 1 = (m + 1) * (i + 1) := by rw [Nat.mul_add]; omega
      rw [← e]; exact this.1
    · rw [Nat.mul_add, Nat.mul_one]; exact this.2
theorem okS_6 {ks : List Rat} (h : ∀ k ∈ ks, 0 ≤ k ∧ bt 80 k.den) (hl : ks.length ≤ 7) : okS ks ks.length := fun j hj => by
  obtain ⟨h1, h2⟩ := rsum_bt h j (by omega)
  have hg : ks.getD j 0 = ks[j] := by rw [List.getD_eq_getElem?_getD, List.getElem?_eq_getElem (by omega)]; rfl
  obtain ⟨h3, h4⟩ := h ks[j] (List.getElem_mem _)
  obtain ⟨h5, h6⟩ := rs_bt h3 h4
  rw [hg]
  exact okAdd_bt h1 h2 h5 h6 (by omega) (by omega) (by omega)
theorem Coins_t {ks : List Rat} (h : ∀ k ∈ ks, (0 ≤ k ∧ k ≤ most) ∧ bt 320 k.num ∧ bt 80 k.den) (h0 : 0 < ks.length) (hl : ks.length ≤ 7) (hs : rsum ks ks.length = ((fl (rsum ks ks.length) : Int) : Rat)) : Means false Try.prog 26 [fql ks] (.tup [il (coinL ks), ii 0]) := by
  have hc := Coins_q ks [] (fun k hk => bt_rq (h k hk).2 (by omega) (by omega)) (.inl rfl) (by simp; omega)
  rw [List.append_nil] at hc
  have e : coinV ks [] = .tup [il (coinL ks), ii 0] := by
    unfold coinV
    rw [if_neg, if_pos (okS_6 (fun k hk => ⟨(h k hk).1.1, (h k hk).2.2⟩) hl), if_pos hs]
    rintro (h1 | h1 | ⟨k, hk, h1 | h1⟩)
    · simp only [List.length_nil] at h1; omega
    · exact h1 rfl
    · exact absurd h1 (Rat.not_lt.2 (h k hk).1.1)
    · exact absurd h1 (Rat.not_lt.2 (h k hk).1.2)
  rwa [e] at hc
end Go.Proofs.Ytndiamkmcoghdaa

namespace Go.Proofs.Ytndiamkmcoghdaa
open Go.RowKit Go.Ab
theorem cast_nn {z : Int} (h : 0 ≤ z) : (0 : Rat) ≤ (z : Rat) := show ((0 : Int) : Rat) ≤ _ from Rat.intCast_le_intCast.2 h
theorem sumR_add (f g : Nat → Rat) (n : Nat) : sumR (fun k => f k + g k) n = sumR f n + sumR g n := by
  have := sumR_lin f g 1 1 n
  have e : (fun k => f k + g k) = fun k => 1 * f k + 1 * g k := by funext k; grind
  rw [e, this]; grind
theorem sumR_mul (f : Nat → Rat) (c : Rat) (n : Nat) : sumR (fun k => c * f k) n = c * sumR f n := by
  have := sumR_lin f (fun _ => 0) c 0 n
  have e : (fun k => c * f k) = fun k => c * f k + 0 * 0 := by funext k; grind
  rw [e, this]; grind
theorem sumR_swap (f : Nat → Nat → Rat) (n : Nat) : ∀ m, sumR (fun i => sumR (fun t => f i t) m) n = sumR (fun t => sumR (fun i => f i t) n) m
  | 0 => by simp only [sumR]; exact sumR_zero fun _ _ => rfl
  | m + 1 => by
    simp only [sumR]
    rw [sumR_add, sumR_swap f n m]
variable {own : List Int} {S : List (List Int)}
theorem kept_eq (h : PV own S) {t : Nat} (ht : t < own.length) : keptX own S t = allX own S t - sumR (fun i => allX own S t * (((sO S t i : Int) : Rat) / 1000)) own.length := by
  obtain ⟨l, hl, hS, hs⟩ := row_sum h.toPR ht
  have hg : S.getD t [] = l := by rw [List.getD_eq_getElem?_getD, hS]; rfl
  have e : sumR (fun i => allX own S t * (((sO S t i : Int) : Rat) / 1000)) own.length = allX own S t * (((sumI l : Int) : Rat) / 1000) := by
    rw [← hs]
    have e2 : (fun i => allX own S t * (((sO S t i : Int) : Rat) / 1000)) = fun i => (allX own S t / 1000) * ((sO S t i : Int) : Rat) := by funext i; grind
    rw [e2, sumR_mul]; grind
  unfold keptX
  rw [e, hg, Rat.intCast_sub]
  have : ((1000 : Int) : Rat) = 1000 := rfl
  rw [this]; grind
theorem kept_sum (h : PV own S) : sumR (keptX own S) own.length = ((sumI own : Int) : Rat) := by
  have e1 : sumR (keptX own S) own.length = sumR (fun t => allX own S t + (-1) * sumR (fun i => allX own S t * (((sO S t i : Int) : Rat) / 1000)) own.length) own.length := sumR_congr fun t ht => by rw [kept_eq h ht]; grind
  have e2 : sumR (allX own S) own.length = sumR (fun i => ((wO own i : Int) : Rat) + sumR (fun t => allX own S t * (((sO S t i : Int) : Rat) / 1000)) own.length) own.length := sumR_congr fun i hi => all_eq h hi
  rw [sumR_add, own_sum, sumR_swap] at e2
  rw [e1, sumR_add, sumR_mul, e2]; grind
theorem kept_nonneg (h : PV own S) {k : Nat} (hk : k < own.length) : 0 ≤ keptX own S k := by
  have h1 := all_nonneg h hk
  have h2 := part_bd h hk
  unfold keptX
  refine Rat.mul_nonneg h1 ?_
  have h3 : (0 : Rat) ≤ ((1000 - sumI (S.getD k []) : Int) : Rat) := cast_nn (by omega)
  have h4 : ((1000 : Int) : Rat) = 1000 := rfl
  rw [h4]
  grind
theorem sumR_item {f : Nat → Rat} : ∀ {n : Nat} {k : Nat}, k < n → (∀ j, j < n → 0 ≤ f j) → f k ≤ sumR f n
  | n + 1, k, hk, h => by
    simp only [sumR]
    by_cases e : k = n
    · subst e
      have := sumR_nonneg (f := f) (n := k) fun j hj => h j (by omega)
      grind
    · have := sumR_item (f := f) (n := n) (k := k) (by omega) fun j hj => h j (by omega)
      have := h n (by omega)
      grind
theorem sumI_bd {B : Int} (hB : 0 ≤ B) : ∀ (l : List Int), (∀ x ∈ l, 0 ≤ x ∧ x ≤ B) → 0 ≤ sumI l ∧ sumI l ≤ B * l.length
  | [], _ => by simp [sumI]
  | x :: l, h => by
    have h1 := h x (by simp)
    have h2 := sumI_bd hB l fun y hy => h y (by simp [hy])
    simp only [sumI, List.length_cons]
    have : B * ((l.length + 1 : Nat) : Int) = B * l.length + B := by rw [Int.natCast_add, Int.mul_add]; simp
    omega
theorem own_bd (h : PV own S) (h6 : own.length ≤ 6) : 0 ≤ sumI own ∧ sumI own ≤ 6597069766656 := by
  have := sumI_bd (B := 1099511627776) (by decide) own fun x hx => by
    obtain ⟨k, hk, rfl⟩ := List.getElem_of_mem hx
    have := h.w k hk
    rwa [show wO own k = own[k] from getD_at hk] at this
  omega
theorem kept_most (h : PV own S) (h6 : own.length ≤ 6) {k : Nat} (hk : k < own.length) : keptX own S k ≤ ((6597069766656 : Int) : Rat) := by
  have h1 := sumR_item (f := keptX own S) hk fun j hj => kept_nonneg h hj
  rw [kept_sum h] at h1
  have h2 : ((sumI own : Int) : Rat) ≤ ((6597069766656 : Int) : Rat) := Rat.intCast_le_intCast.2 (own_bd h h6).2
  grind
theorem fl_int (z : Int) : fl ((z : Int) : Rat) = z := by
  unfold fl; rw [Rat.num_intCast, Rat.den_intCast]; simp
theorem rsum_eq (ks : List Rat) : ∀ n, rsum ks n = sumR (fun t => ks.getD t 0) n - sumR (fun t => ((fl (ks.getD t 0) : Int) : Rat)) n
  | 0 => by show (0 : Rat) = 0 - 0; grind
  | n + 1 => by rw [rsum_succ, rsum_eq ks n]; simp only [sumR]; unfold rs; grind
theorem sumI_map (ks : List Rat) : sumR (fun t => ((fl (ks.getD t 0) : Int) : Rat)) ks.length = ((sumI (ks.map fl) : Int) : Rat) := by
  have := sumR_list (f := fun t => fl (ks.getD t 0)) (l := ks.map fl) (fun j hj => by
    rw [List.length_map] at hj
    simp [List.getD_eq_getElem?_getD, hj]) ks.length (by simp)
  rw [this, List.take_of_length_le (by simp)]
theorem rsum_int {ks : List Rat} {Z : Int} (h : sumR (fun t => ks.getD t 0) ks.length = ((Z : Int) : Rat)) : rsum ks ks.length = ((Z - sumI (ks.map fl) : Int) : Rat) := by
  rw [rsum_eq, h, sumI_map, Rat.intCast_sub]
theorem sumI_L (l : List Int) : sumI l = sumL l := by
  induction l with
  | nil => rfl
  | cons x l ih => simp only [sumI, sumL_cons, ih]
theorem coin_spec {ks : List Rat} {m : Nat} (hs : rsum ks ks.length = (((m : Nat) : Int) : Rat)) : (coinL ks).length = ks.length ∧ sumI (coinL ks) = sumI (ks.map fl) + m ∧
    ∀ (i : Nat) (hi : i < ks.length) (hi' : i < (coinL ks).length), (coinL ks)[i] = fl ks[i] ∨ ((coinL ks)[i] = fl ks[i] + 1 ∧ 0 < rs ks[i]) := by
  have hml : m ≤ ks.length := by
    have := (rsum_bd ks ks.length).2
    rw [hs] at this
    have := Rat.intCast_le_intCast.1 this
    omega
  have hm : (fl (rsum ks ks.length)).toNat = m := by rw [hs, fl_int]; simp
  obtain ⟨O, hO⟩ : ∃ O, srt (B.kf (ks.map rs)) (idxI ks.length) = O := ⟨_, rfl⟩
  have hc : coinL ks = bumps (ks.map fl) (O.take m) := by unfold coinL; rw [hm, hO]
  have hp : O.Perm (idxI ks.length) := by rw [← hO]; exact srt_perm _ _
  have hOn : O.Nodup := hp.nodup_iff.2 (idxI_nodup _)
  have hOm : ∀ x ∈ O, 0 ≤ x ∧ x < ks.length := fun x hx => idxI_mem.1 (hp.mem_iff.1 hx)
  have hOl : O.length = ks.length := by rw [hp.length_eq, idxI_len]
  rw [hc]
  refine ⟨by rw [bumps_len, List.length_map], ?_, fun i hi hi' => ?_⟩
  · rw [sumI_L, sumI_L, bumps_sum _ _ fun x hx => by rw [List.length_map]; exact hOm x (List.mem_of_mem_take hx), List.length_take]
    omega
  · have hi2 : i < (ks.map fl).length := by simpa using hi
    rw [bumps_at _ _ i hi2 hi' (hOn.sublist (List.take_sublist _ _)) fun x hx => (hOm x (List.mem_of_mem_take hx)).1, List.getElem_map]
    by_cases hio : (i : Int) ∈ O.take m
    · rw [if_pos hio]
      refine .inr ⟨rfl, ?_⟩
      let RI : List Int := (ks.map rs).map fun r => (r * (cden (ks.map rs) : Rat)).num
      have hRl : RI.length = ks.length := by simp [RI]
      have hk : ∀ x : Int, kR RI x = B.kf (ks.map rs) x := fun x => by
        unfold kR B.kf
        by_cases hx : x.toNat < ks.length
        · simp [RI, List.getD_eq_getElem?_getD, hx]
        · rw [List.getD_eq_getElem?_getD, List.getElem?_eq_none (by omega), List.getD_eq_getElem?_getD, List.getElem?_eq_none (by rw [List.length_map]; omega)]
          show (0 : Int) = ((0 : Rat) * _).num
          rw [Rat.zero_mul]; rfl
      have hkf : kR RI = B.kf (ks.map rs) := funext hk
      have hD := cden_pos (ks.map rs)
      have hDR : (0 : Rat) < (cden (ks.map rs) : Rat) := Rat.intCast_pos.2 hD
      have hcast : ∀ r ∈ ks.map rs, (((r * (cden (ks.map rs) : Rat)).num : Int) : Rat) = r * (cden (ks.map rs) : Rat) := fun r hr => by
        obtain ⟨z, hz⟩ := cden_int _ r hr
        rw [hz, Rat.num_intCast]
      have hRb : ∀ r ∈ RI, 0 ≤ r ∧ r < cden (ks.map rs) := fun r hr => by
        obtain ⟨q, hq, rfl⟩ := List.mem_map.1 hr
        have hcq := hcast q hq
        obtain ⟨k, _, rfl⟩ := List.mem_map.1 hq
        have h1 := rs_nonneg k
        have h2 := rs_lt k
        constructor
        · refine Rat.intCast_le_intCast.1 ?_
          rw [hcq]
          exact Rat.mul_nonneg h1 (Rat.le_of_lt hDR)
        · refine Rat.intCast_lt_intCast.1 ?_
          rw [hcq]
          have := Rat.mul_lt_mul_of_pos_right h2 hDR
          rwa [Rat.one_mul] at this
      have hsum : sumL RI = cden (ks.map rs) * m := by
        have e1 := sumR_list (f := fun t => RI.getD t 0) (l := RI) (fun j _ => rfl) RI.length (Nat.le_refl _)
        rw [List.take_length, hRl] at e1
        have e2 : sumR (fun t => ((RI.getD t 0 : Int) : Rat)) ks.length = sumR (fun t => (cden (ks.map rs) : Rat) * rs (ks.getD t 0)) ks.length := sumR_congr fun t ht => by
          have hmem : rs ks[t] ∈ ks.map rs := List.mem_map.2 ⟨_, List.getElem_mem ht, rfl⟩
          have h3 : RI.getD t 0 = (rs ks[t] * (cden (ks.map rs) : Rat)).num := by simp [RI, List.getD_eq_getElem?_getD, ht]
          rw [h3, hcast _ hmem, getQ_lt ht, Rat.mul_comm]
        rw [e2, sumR_mul] at e1
        have e3 : sumR (fun t => rs (ks.getD t 0)) ks.length = rsum ks ks.length := rfl
        rw [e3, hs, ← Rat.intCast_mul] at e1
        rw [← sumI_L]
        exact (Rat.intCast_inj.1 e1).symm
      have hx := more_pos (R := RI) (x := (i : Int)) hD hRb hsum (by rw [hkf, hRl, hO]; exact hio)
      rw [hk] at hx
      have h0 := B.kf_eq (ks.map rs) (i : Int)
      rw [Int.toNat_natCast] at h0
      have h4 : (ks.map rs).getD i 0 = rs ks[i] := by simp [List.getD_eq_getElem?_getD, hi]
      rw [h4] at h0
      have h5 : (0 : Rat) < ((B.kf (ks.map rs) (i : Int) : Int) : Rat) := Rat.intCast_pos.2 hx
      rw [h0] at h5
      have h6 := rs_nonneg ks[i]
      rcases Rat.le_iff_lt_or_eq.1 h6 with h7 | h7
      · exact h7
      · rw [← h7, Rat.zero_mul] at h5
        exact absurd h5 (by decide)
    · rw [if_neg hio]
      exact .inl (by omega)
end Go.Proofs.Ytndiamkmcoghdaa

namespace Go.Proofs.Ytndiamkmcoghdaa
open Go.RowKit Go.Ab
attribute [local irreducible] AWP Go.Ab.Sub Means MeansH CallK CallG CallT CallGT
theorem total_m (C : List Int) (hl : C.length ≤ 400) (h : Int) : Means true Try.prog 54 [il C, ii h] (.tup [ii (if okC' C then sumL C else 0), bb (rightC C h)]) := by
  refine means_fn true 37 [.tmp 4, .tmp 5] Try.func54 rfl rfl rfl (by simp) (by decide) rfl fun X hX => ?_
  (repeat (refine awp_stepG [0, 1, 4, 5, 6, 8, 9, 10, 11, 12, 20] hX mixed rfl ?_; (simp [go_sem]; try (refine ⟨by kernel_rfl, ?_⟩))))
  refine awp_loop (fun n : Nat => ⟨mkE [(0, il C), (1, ii h), (6, ii (sumL (C.take n))), (9, il C), (10, ii C.length), (11, ii n)], []⟩) (fun n => n ≤ C.length ∧ okC' (C.take n) = true) (fun n => C.length - n) 0 ?_ ?_ ?_
  · refine sub_of _ [] (by simp [go_sem]) ?_
    simp [go_sem]
  · simp [okC']
  · rintro n ⟨hn, hk⟩
    (repeat (refine awp_stepG [0, 1, 4, 5, 6, 8, 9, 10, 11, 12, 20] hX mixed rfl ?_; (simp [go_sem]; try (refine ⟨by kernel_rfl, ?_⟩))))
    refine awp_cond (b := decide (n < C.length)) (by simp [go_sem]) (fun hc => ?_) (fun hc => ?_)
    · simp at hc
      (repeat (refine awp_stepG [0, 1, 4, 5, 6, 8, 9, 10, 11, 12, 20] hX mixed rfl ?_; (simp [go_sem, hc]; try (refine ⟨by kernel_rfl, ?_⟩))))
      refine awp_cond (b := !inC C[n]) (by simp [go_sem, inC]; rw [Bool.eq_iff_iff]; simp; try omega) (fun hd => ?_) (fun hd => ?_)
      · have e0 := okC_bad hc (by simpa using hd)
        have e : rightC C h = false := by rw [rightC, e0]; rfl
        rw [e, if_neg (by rw [e0]; simp)]
        (repeat (refine awp_stepG [0, 1, 4, 5, 6, 8, 9, 10, 11, 12, 20] hX mixed rfl ?_; (simp [go_sem]; try (refine ⟨by kernel_rfl, ?_⟩))))
      · have hk1 := okC_succ hc hk (by simpa using hd)
        have h1 := sum_bd hk1
        have e := sumL_succ hc
        rw [List.length_take] at h1
        rw [e] at h1
        (repeat (refine awp_stepG [0, 1, 4, 5, 6, 8, 9, 10, 11, 12, 20] hX mixed rfl ?_; (simp [go_sem, hc]; (try simp (disch := omega) only [w64, td, tm]); try (refine ⟨by kernel_rfl, ?_⟩))))
        refine ⟨n + 1, ⟨by omega, hk1⟩, by omega, ?_⟩
        rw [e]
        refine sub_of _ [] (by simp [go_sem]) ?_
        simp [go_sem]
    · have : n = C.length := by simp at hc; omega
      subst this
      rw [List.take_length] at hk ⊢
      have e : rightC C h = okH C h := by rw [rightC, hk]; rfl
      rw [e, if_pos hk]
      (repeat (refine awp_stepG [0, 1, 4, 5, 6, 8, 9, 10, 11, 12, 20] hX mixed rfl ?_; (simp [go_sem]; try (refine ⟨by kernel_rfl, ?_⟩))))
      simp [okH]
theorem filled_m (C : List Int) (hl : C.length ≤ 400) (hok : okC' C = true) (l : Int) (hb : 0 ≤ l ∧ l ≤ 1099511627776) : Means true Try.prog 55 [il C, ii l] (ii (fill C l)) := by
  refine means_fn true 21 [.tmp 4] Try.func55 rfl rfl rfl (by simp) (by decide) rfl fun X hX => ?_
  (repeat (refine awp_stepG [0, 1, 4, 5, 7, 8, 9, 10, 11] hX mixed rfl ?_; (simp [go_sem]; try (refine ⟨by kernel_rfl, ?_⟩))))
  refine awp_loop (fun n : Nat => ⟨mkE [(0, il C), (1, ii l), (5, ii (fill (C.take n) l)), (8, il C), (9, ii C.length), (10, ii n)], []⟩) (fun n => n ≤ C.length) (fun n => C.length - n) 0 ?_ ?_ ?_
  · refine sub_of _ [] (by simp [go_sem, fill]) ?_
    simp [go_sem, fill]
  · omega
  · intro n hn
    (repeat (refine awp_stepG [0, 1, 4, 5, 7, 8, 9, 10, 11] hX mixed rfl ?_; (simp [go_sem]; try (refine ⟨by kernel_rfl, ?_⟩))))
    refine awp_cond (b := decide (n < C.length)) (by simp [go_sem]) (fun hc => ?_) (fun hc => ?_)
    · simp at hc
      have e := fill_succ hc l
      have h1 := fill_bd hb (okC_take hok (n + 1))
      rw [List.length_take, e] at h1
      (repeat (refine awp_stepG [0, 1, 4, 5, 7, 8, 9, 10, 11] hX mixed rfl ?_; (simp [go_sem, hc]; (try simp (disch := omega) only [w64, td, tm]); try (refine ⟨by kernel_rfl, ?_⟩))))
      refine ⟨n + 1, by omega, by omega, ?_⟩
      rw [e]
      refine sub_of _ [] (by simp [go_sem]) ?_
      simp [go_sem]
    · have : n = C.length := by simp at hc; omega
      subst this
      rw [List.take_length]
      (repeat (refine awp_stepG [0, 1, 4, 5, 7, 8, 9, 10, 11] hX mixed rfl ?_; (simp [go_sem]; try (refine ⟨by kernel_rfl, ?_⟩))))
set_option maxHeartbeats 4000000 in
set_option maxRecDepth 20000 in
theorem share_m (C : List Int) (hl : C.length ≤ 400) (h : Int) : Means true Try.prog 28 [il C, ii h] (.tup [il (if rightC C h then share C h else []), ii (if rightC C h then 0 else 1)]) := by
  have ht := total_m C hl h
  cases hr : rightC C h with
  | false =>
    rw [hr] at ht
    rw [if_neg (by simp), if_neg (by simp)]
    refine means_fn true 78 [.tmp 4, .tmp 5] Try.func28 rfl rfl rfl (by simp) (by decide) rfl fun X hX => ?_
    (repeat (refine awp_stepG [0, 1, 4, 5, 6, 7, 8, 9, 10, 11, 12, 14, 15, 22, 25, 33, 43, 52, 53, 54, 55, 67] hX mixed rfl ?_; (simp [go_sem]; try (refine ⟨by kernel_rfl, ?_⟩))))
    first | refine callKa (ht) ?_ | refine callTa (ht) ?_
    try (simp [go_sem]; try (refine ⟨by kernel_rfl, ?_⟩))
    (repeat (refine awp_stepG [0, 1, 4, 5, 6, 7, 8, 9, 10, 11, 12, 14, 15, 22, 25, 33, 43, 52, 53, 54, 55, 67] hX mixed rfl ?_; (simp [go_sem]; try (refine ⟨by kernel_rfl, ?_⟩))))
    refine awp_cond (b := true) (by simp [go_sem]) (fun _ => ?_) (fun h => by cases h)
    (repeat (refine awp_stepG [0, 1, 4, 5, 6, 7, 8, 9, 10, 11, 12, 14, 15, 22, 25, 33, 43, 52, 53, 54, 55, 67] hX mixed rfl ?_; (simp [go_sem]; try (refine ⟨by kernel_rfl, ?_⟩))))
  | true =>
    have hr2 := hr
    simp only [rightC, okH, Bool.and_eq_true, decide_eq_true_eq] at hr2
    obtain ⟨hok, ⟨_, hh0⟩, hh1⟩ := hr2
    rw [hr, if_pos hok] at ht
    rw [if_pos rfl, if_pos rfl]
    have hsb := sum_bd hok
    by_cases hs : sumL C ≤ h
    · have e : share C h = C := if_pos hs
      rw [e]
      refine means_fn true 78 [.tmp 4, .tmp 5] Try.func28 rfl rfl rfl (by simp) (by decide) rfl fun X hX => ?_
      (repeat (refine awp_stepG [0, 1, 4, 5, 6, 7, 8, 9, 10, 11, 12, 14, 15, 22, 25, 33, 43, 52, 53, 54, 55, 67] hX mixed rfl ?_; (simp [go_sem]; try (refine ⟨by kernel_rfl, ?_⟩))))
      first | refine callKa (ht) ?_ | refine callTa (ht) ?_
      try (simp [go_sem]; try (refine ⟨by kernel_rfl, ?_⟩))
      (repeat (refine awp_stepG [0, 1, 4, 5, 6, 7, 8, 9, 10, 11, 12, 14, 15, 22, 25, 33, 43, 52, 53, 54, 55, 67] hX mixed rfl ?_; (simp [go_sem]; try (refine ⟨by kernel_rfl, ?_⟩))))
      refine awp_cond (b := false) (by simp [go_sem]) (fun h => by cases h) (fun _ => ?_)
      (repeat (refine awp_stepG [0, 1, 4, 5, 6, 7, 8, 9, 10, 11, 12, 14, 15, 22, 25, 33, 43, 52, 53, 54, 55, 67] hX mixed rfl ?_; (simp [go_sem]; try (refine ⟨by kernel_rfl, ?_⟩))))
      refine awp_cond (b := true) (by simp [go_sem, hs]) (fun _ => ?_) (fun h => by cases h)
      (repeat (refine awp_stepG [0, 1, 4, 5, 6, 7, 8, 9, 10, 11, 12, 14, 15, 22, 25, 33, 43, 52, 53, 54, 55, 67] hX mixed rfl ?_; (simp [go_sem]; try (refine ⟨by kernel_rfl, ?_⟩))))
      first | refine callH_intro [] (clone_h C (by omega)) (by simp [go_sem]) ?_ | refine callTQ_intro [] (clone_h C (by omega)) (by simp [go_sem]) ?_ | refine callTE_intro [] (clone_h C (by omega)) (by simp [go_sem]) ?_
      try (simp [go_sem]; try (refine ⟨by kernel_rfl, ?_⟩))
      (repeat (refine awp_stepG [0, 1, 4, 5, 6, 7, 8, 9, 10, 11, 12, 14, 15, 22, 25, 33, 43, 52, 53, 54, 55, 67] hX mixed rfl ?_; (simp [go_sem]; try (refine ⟨by kernel_rfl, ?_⟩))))
    · refine means_fn true 78 [.tmp 4, .tmp 5] Try.func28 rfl rfl rfl (by simp) (by decide) rfl fun X hX => ?_
      (repeat (refine awp_stepG [0, 1, 4, 5, 6, 7, 8, 9, 10, 11, 12, 14, 15, 22, 25, 33, 43, 52, 53, 54, 55, 67] hX mixed rfl ?_; (simp [go_sem]; try (refine ⟨by kernel_rfl, ?_⟩))))
      first | refine callKa (ht) ?_ | refine callTa (ht) ?_
      try (simp [go_sem]; try (refine ⟨by kernel_rfl, ?_⟩))
      (repeat (refine awp_stepG [0, 1, 4, 5, 6, 7, 8, 9, 10, 11, 12, 14, 15, 22, 25, 33, 43, 52, 53, 54, 55, 67] hX mixed rfl ?_; (simp [go_sem]; try (refine ⟨by kernel_rfl, ?_⟩))))
      refine awp_cond (b := false) (by simp [go_sem]) (fun h => by cases h) (fun _ => ?_)
      (repeat (refine awp_stepG [0, 1, 4, 5, 6, 7, 8, 9, 10, 11, 12, 14, 15, 22, 25, 33, 43, 52, 53, 54, 55, 67] hX mixed rfl ?_; (simp [go_sem]; try (refine ⟨by kernel_rfl, ?_⟩))))
      refine awp_cond (b := false) (by simp [go_sem]; omega) (fun h => by cases h) (fun _ => ?_)
      (repeat (refine awp_stepG [0, 1, 4, 5, 6, 7, 8, 9, 10, 11, 12, 14, 15, 22, 25, 33, 43, 52, 53, 54, 55, 67] hX mixed rfl ?_; (simp [go_sem]; try (refine ⟨by kernel_rfl, ?_⟩))))
      refine awp_loop (fun x : Int × Int => ⟨mkE [(0, il C), (1, ii h), (8, ii x.1), (9, ii x.2)], []⟩) (fun x => 0 ≤ x.1 ∧ x.1 ≤ x.2 ∧ x.2 ≤ 1099511627776 ∧ fill C x.1 ≤ h ∧ (x.2 < 1099511627776 → h < fill C (x.2 + 1))) (fun x => (x.2 - x.1).toNat) (0, 1099511627776) ?_ ?_ ?_
      · refine sub_of _ [] (by simp [go_sem]) ?_
        simp [go_sem]
      · exact ⟨by omega, by omega, by omega, by rw [fill_zero hok]; omega, fun hx => absurd hx (by omega)⟩
      · rintro ⟨lo, hi⟩ ⟨h1, h2, h3, h4, h5⟩
        simp only [] at h1 h2 h3 h4 h5
        (repeat (refine awp_stepG [0, 1, 4, 5, 6, 7, 8, 9, 10, 11, 12, 14, 15, 22, 25, 33, 43, 52, 53, 54, 55, 67] hX mixed rfl ?_; (simp [go_sem]; try (refine ⟨by kernel_rfl, ?_⟩))))
        refine awp_cond (b := decide (lo < hi)) (by simp [go_sem]) (fun hc => ?_) (fun hc => ?_)
        · simp at hc
          have hm : lo < (lo + hi + 1) / 2 ∧ (lo + hi + 1) / 2 ≤ hi := by omega
          have htd : (lo + hi + 1).tdiv 2 = (lo + hi + 1) / 2 := Int.tdiv_eq_ediv_of_nonneg (by omega)
          obtain ⟨m, hme⟩ : ∃ m, (lo + hi + 1) / 2 = m := ⟨_, rfl⟩
          rw [hme] at hm htd
          (repeat (refine awp_stepG [0, 1, 4, 5, 6, 7, 8, 9, 10, 11, 12, 14, 15, 22, 25, 33, 43, 52, 53, 54, 55, 67] hX mixed rfl ?_; (simp [go_sem, htd, hme]; (try simp (disch := omega) only [w64, td, tm]); try (refine ⟨by kernel_rfl, ?_⟩))))
          try (simp [go_sem, htd, hme]; try (refine ⟨by kernel_rfl, ?_⟩))
          first | refine callKa (filled_m C hl hok m (by omega)) ?_ | refine callTa (filled_m C hl hok m (by omega)) ?_
          try (simp [go_sem]; try (refine ⟨by kernel_rfl, ?_⟩))
          refine awp_cond (b := decide (fill C m ≤ h)) (by simp [go_sem]) (fun hd => ?_) (fun hd => ?_)
          · simp at hd
            (repeat (refine awp_stepG [0, 1, 4, 5, 6, 7, 8, 9, 10, 11, 12, 14, 15, 22, 25, 33, 43, 52, 53, 54, 55, 67] hX mixed rfl ?_; (simp [go_sem]; (try simp (disch := omega) only [w64, td, tm]); try (refine ⟨by kernel_rfl, ?_⟩))))
            refine ⟨m, hi, ⟨by omega, by omega, h3, hd, h5⟩, by omega, ?_⟩
            refine sub_of _ [] (by simp [go_sem]) ?_
            simp [go_sem]
          · simp at hd
            (repeat (refine awp_stepG [0, 1, 4, 5, 6, 7, 8, 9, 10, 11, 12, 14, 15, 22, 25, 33, 43, 52, 53, 54, 55, 67] hX mixed rfl ?_; (simp [go_sem]; (try simp (disch := omega) only [w64, td, tm]); try (refine ⟨by kernel_rfl, ?_⟩))))
            refine ⟨lo, m - 1, ⟨h1, by omega, by omega, h4, fun _ => by rw [show m - 1 + 1 = m by omega]; omega⟩, by omega, ?_⟩
            refine sub_of _ [] (by simp [go_sem]) ?_
            simp [go_sem]
        · have hlh : lo = hi := by simp at hc; omega
          subst hlh
          have hlt : lo < 1099511627776 := by
            rcases Int.lt_or_le lo 1099511627776 with q | q
            · exact q
            · exfalso
              have : fill C lo = sumL C := fill_top fun c hc => by have := okC_mem hok hc; omega
              omega
          have hlv : isLv C h lo := ⟨h1, h4, h5 hlt⟩
          have e : share C h = shr lo (h - fill C lo) C := by rw [share, if_neg hs, lvl_eq hlv]
          have hle := isLv_left hlv
          have hfb := fill_bd (C := C) ⟨h1, by omega⟩ hok
          rw [e]
          obtain ⟨q, hq⟩ : ∃ q, h - fill C lo = q := ⟨_, rfl⟩
          rw [hq] at hle ⊢
          have hqb : 0 ≤ q ∧ q ≤ 1125899906842624 := by omega
          have hwq := w64 (x := q) (by omega) (by omega)
          (repeat (refine awp_stepG [0, 1, 4, 5, 6, 7, 8, 9, 10, 11, 12, 14, 15, 22, 25, 33, 43, 52, 53, 54, 55, 67] hX mixed rfl ?_; (simp [go_sem]; try (refine ⟨by kernel_rfl, ?_⟩))))
          first | refine callKa (filled_m C hl hok lo ⟨h1, by omega⟩) ?_ | refine callTa (filled_m C hl hok lo ⟨h1, by omega⟩) ?_
          try (simp [go_sem, hq, hwq]; try (refine ⟨by kernel_rfl, ?_⟩))
          (repeat (refine awp_stepG [0, 1, 4, 5, 6, 7, 8, 9, 10, 11, 12, 14, 15, 22, 25, 33, 43, 52, 53, 54, 55, 67] hX mixed rfl ?_; (simp [go_sem, hq, hwq]; try (refine ⟨by kernel_rfl, ?_⟩))))
          refine awp_loop (fun k : Nat => ⟨mkE [(8, ii lo), (11, ii (leftA lo q (C.take k))), (12, .ow 0), (52, il C), (53, ii C.length), (54, ii k)], [rowI (shr lo q (C.take k))]⟩) (fun k => k ≤ C.length) (fun k => C.length - k) 0 ?_ ?_ ?_
          · refine sub_of _ [.birth 3 1] (by simp [go_sem, shr, leftA]) ?_
            simp [go_sem, shr, leftA]
          · omega
          · intro k hk
            have hll := shr_len lo (C.take k) q
            rw [List.length_take] at hll
            have hlb := leftA_bd lo (C.take k) q hqb.1
            (repeat (refine awp_stepG [0, 1, 4, 5, 6, 7, 8, 9, 10, 11, 12, 14, 15, 22, 25, 33, 43, 52, 53, 54, 55, 67] hX mixed rfl ?_; (simp [go_sem]; try (refine ⟨by kernel_rfl, ?_⟩))))
            refine awp_cond (b := decide (k < C.length)) (by simp [go_sem]) (fun hc => ?_) (fun hc => ?_)
            · simp at hc
              have es := shr_succ (l := lo) (left := q) hc
              have el := leftA_succ (l := lo) (left := q) hc
              have hcr := okC_mem hok (List.getElem_mem hc)
              (repeat (refine awp_stepG [0, 1, 4, 5, 6, 7, 8, 9, 10, 11, 12, 14, 15, 22, 25, 33, 43, 52, 53, 54, 55, 67] hX mixed rfl ?_; (simp [go_sem, hc]; try (refine ⟨by kernel_rfl, ?_⟩))))
              refine awp_cond (b := decide (lo < C[k] ∧ 0 < leftA lo q (C.take k))) (by simp [go_sem]) (fun hd => ?_) (fun hd => ?_)
              · simp only [decide_eq_true_eq] at hd
                have e1 : share1 lo (leftA lo q (C.take k)) C[k] = min C[k] lo + 1 := by rw [share1, if_pos hd]; omega
                rw [if_pos hd] at el
                rw [e1] at es
                (repeat (refine awp_stepG [0, 1, 4, 5, 6, 7, 8, 9, 10, 11, 12, 14, 15, 22, 25, 33, 43, 52, 53, 54, 55, 67] hX mixed rfl ?_; (simp [go_sem]; (try simp (disch := omega) only [w64, td, tm]); try (refine ⟨by kernel_rfl, ?_⟩))))
                (repeat refine And.intro (by first | omega | (unfold maxLen; omega) | kernel_rfl | (refine ⟨by first | omega | (unfold maxLen; omega), by first | omega | (unfold maxLen; omega)⟩) | grind) ?_)
                (repeat (refine awp_stepG [0, 1, 4, 5, 6, 7, 8, 9, 10, 11, 12, 14, 15, 22, 25, 33, 43, 52, 53, 54, 55, 67] hX mixed rfl ?_; (simp [go_sem]; (try simp (disch := omega) only [w64, td, tm]); try (refine ⟨by kernel_rfl, ?_⟩))))
                refine ⟨k + 1, by omega, by omega, ?_⟩
                rw [es, el]
                refine sub_of _ [.old 2 ⟨3, 1, (shr lo q (C.take k) ++ [min C[k] lo + 1]).map ii⟩] (by simp [go_sem]) ?_
                simp [go_sem]
              · simp only [decide_eq_false_iff_not] at hd
                have e1 : share1 lo (leftA lo q (C.take k)) C[k] = min C[k] lo := by rw [share1, if_neg hd]
                rw [if_neg hd] at el
                rw [e1] at es
                (repeat (refine awp_stepG [0, 1, 4, 5, 6, 7, 8, 9, 10, 11, 12, 14, 15, 22, 25, 33, 43, 52, 53, 54, 55, 67] hX mixed rfl ?_; (simp [go_sem]; (try simp (disch := omega) only [w64, td, tm]); try (refine ⟨by kernel_rfl, ?_⟩))))
                (repeat refine And.intro (by first | omega | (unfold maxLen; omega) | kernel_rfl | (refine ⟨by first | omega | (unfold maxLen; omega), by first | omega | (unfold maxLen; omega)⟩) | grind) ?_)
                (repeat (refine awp_stepG [0, 1, 4, 5, 6, 7, 8, 9, 10, 11, 12, 14, 15, 22, 25, 33, 43, 52, 53, 54, 55, 67] hX mixed rfl ?_; (simp [go_sem]; (try simp (disch := omega) only [w64, td, tm]); try (refine ⟨by kernel_rfl, ?_⟩))))
                refine ⟨k + 1, by omega, by omega, ?_⟩
                rw [es, el, Int.sub_zero]
                refine sub_of _ [.old 2 ⟨3, 1, (shr lo q (C.take k) ++ [min C[k] lo]).map ii⟩] (by simp [go_sem]) ?_
                simp [go_sem]
            · have : k = C.length := by simp at hc; omega
              subst this
              rw [List.take_length]
              (repeat (refine awp_stepG [0, 1, 4, 5, 6, 7, 8, 9, 10, 11, 12, 14, 15, 22, 25, 33, 43, 52, 53, 54, 55, 67] hX mixed rfl ?_; (simp [go_sem]; try (refine ⟨by kernel_rfl, ?_⟩))))
end Go.Proofs.Ytndiamkmcoghdaa

namespace Go.Proofs.Ytndiamkmcoghdaa
theorem lv_ex' {C : List Int} {h : Int} (hok : okC' C = true) (hh : 0 ≤ h) : ∀ n : Nat, h < fill C n → ∃ l, isLv C h l
  | 0, hn => by rw [Int.natCast_zero, fill_zero hok] at hn; omega
  | n + 1, hn => by
    by_cases h1 : h < fill C n
    · exact lv_ex' hok hh n h1
    · exact ⟨n, ⟨by omega, by omega, by simpa using hn⟩⟩
theorem lv_ex {C : List Int} {h : Int} (hok : okC' C = true) (hh : 0 ≤ h) (hs : ¬ sumL C ≤ h) : ∃ l, isLv C h l := by
  refine lv_ex' hok hh 1099511627776 ?_
  rw [fill_top fun c hc => by have := okC_mem hok hc; omega]; omega
theorem share_cases {C : List Int} {h : Int} (hok : okC' C = true) (hh : 0 ≤ h) : (sumL C ≤ h ∧ share C h = C) ∨ (¬ sumL C ≤ h ∧ ∃ l, isLv C h l ∧ share C h = shr l (h - fill C l) C) := by
  by_cases hs : sumL C ≤ h
  · exact .inl ⟨hs, if_pos hs⟩
  · obtain ⟨l, hl⟩ := lv_ex hok hh hs
    exact .inr ⟨hs, l, hl, by rw [share, if_neg hs, lvl_eq hl]⟩
theorem share_len {C : List Int} {h : Int} (hok : okC' C = true) (hh : 0 ≤ h) : (share C h).length = C.length := by
  rcases share_cases hok hh with ⟨_, e⟩ | ⟨_, l, _, e⟩
  · rw [e]
  · rw [e, shr_len]
theorem share_sum {C : List Int} {h : Int} (hok : okC' C = true) (hh : 0 ≤ h) : sumL (share C h) = min h (sumL C) := by
  rcases share_cases hok hh with ⟨hs, e⟩ | ⟨hs, l, hl, e⟩
  · rw [e]; omega
  · have := isLv_left hl
    rw [e, shr_sum l C _ this.1 (by omega)]; omega
theorem shr_at (l : Int) : ∀ (C : List Int) (q : Int) (i : Nat) (h : i < C.length) (h' : i < (shr l q C).length), (shr l q C)[i] = share1 l (leftA l q (C.take i)) C[i]
  | c :: C, q, 0, _, _ => by
    simp only [shr, List.take_zero, leftA, share1, List.getElem_cons_zero]
    split <;> rfl
  | c :: C, q, i + 1, h, h' => by
    have h2 : i < C.length := by simpa using h
    simp only [List.take_succ_cons, leftA, List.getElem_cons_succ]
    by_cases hc : l < c ∧ 0 < q
    · have e : shr l q (c :: C) = (l + 1) :: shr l (q - 1) C := by rw [shr, if_pos hc]
      rw [if_pos hc]
      simp only [e, List.getElem_cons_succ]
      exact shr_at l C (q - 1) i h2 (by rw [shr_len]; exact h2)
    · have e : shr l q (c :: C) = min c l :: shr l q C := by rw [shr, if_neg hc]
      rw [if_neg hc]
      simp only [e, List.getElem_cons_succ]
      exact shr_at l C q i h2 (by rw [shr_len]; exact h2)
theorem leftA_le (l : Int) {C : List Int} {q : Int} (hq : 0 ≤ q) {i k : Nat} (hik : i ≤ k) : leftA l q (C.take k) ≤ leftA l q (C.take i) := by
  have e : C.take k = C.take i ++ (C.take k).drop i := by
    conv => lhs; rw [← List.take_append_drop i (C.take k)]
    rw [List.take_take, Nat.min_eq_left hik]
  rw [e, leftA_app]
  exact (leftA_bd l _ _ (leftA_bd l _ _ hq).1).2
theorem share_in {C : List Int} {h : Int} (hok : okC' C = true) (hh : 0 ≤ h) {i : Nat} (hi : i < C.length) (hi' : i < (share C h).length) : 0 ≤ (share C h)[i] ∧ (share C h)[i] ≤ C[i] := by
  have hc := okC_mem hok (List.getElem_mem hi)
  rcases share_cases hok hh with ⟨hs, e⟩ | ⟨hs, l, hl, e⟩
  · simp only [e]; omega
  · have h0 := hl.low
    simp only [e]
    rw [shr_at l C _ i hi]
    unfold share1; split <;> omega
theorem share_fair {C : List Int} {h : Int} (hok : okC' C = true) (hh : 0 ≤ h) {i k : Nat} (hi : i < C.length) (hk : k < C.length) (hi' : i < (share C h).length) (hk' : k < (share C h).length) :
    ¬ ((share C h)[i] < C[i] ∧ ((share C h)[i] + 1 < (share C h)[k] ∨ (i < k ∧ (share C h)[k] < C[k] ∧ (share C h)[i] < (share C h)[k]))) := by
  rcases share_cases hok hh with ⟨hs, e⟩ | ⟨hs, l, hl, e⟩
  · simp only [e]; omega
  · have hq := (isLv_left hl).1
    have h0 := hl.low
    simp only [e]
    rw [shr_at l C _ i hi, shr_at l C _ k hk]
    generalize h - fill C l = q at hq
    have hm : i < k → leftA l q (C.take k) ≤ leftA l q (C.take i) := fun hik => leftA_le l hq (by omega)
    generalize leftA l q (C.take k) = a at hm
    generalize leftA l q (C.take i) = b at hm
    unfold share1
    split <;> split <;> omega
end Go.Proofs.Ytndiamkmcoghdaa

namespace Go.Proofs.Ytndiamkmcoghdaa
open Go.RowKit Go.Ab
structure Fd where
  holds : Int
  reserve : Int
  income : Int
  claims : List (Int × Int)
  cedes : List Int
abbrev dF : Fd := ⟨0, 0, 0, [], []⟩
abbrev cl (c : Int × Int) : AV := .agg [ii c.1, ii c.2]
abbrev awl (l : List (Int × Int)) : AV := .sl (l.map cl)
abbrev fo (f : Fd) : AV := .agg [ii f.holds, ii f.reserve, ii f.income, awl f.claims, il f.cedes]
@[go_sem] theorem nth_cl {L : List (Int × Int)} {k : Nat} (h : k < L.length) : nth (L.map cl) k = cl L[k] := nth_map cl h
@[go_sem] theorem nth_fo {L : List Fd} {k : Nat} (h : k < L.length) : nth (L.map fo) k = fo L[k] := nth_map fo h
@[go_sem] theorem nth_awl {L : List (List (Int × Int))} {k : Nat} (h : k < L.length) : nth (L.map awl) k = awl L[k] := nth_map awl h
def amt (n : Int) : Bool := decide (0 ≤ n) && decide (n ≤ 1099511627776)
theorem amt_bd {n : Int} (h : amt n = true) : 0 ≤ n ∧ n ≤ 1099511627776 := by simpa [amt] using h
def nums (cs : List (Int × Int)) : List Int := cs.map (·.2)
theorem nums_len (cs : List (Int × Int)) : (nums cs).length = cs.length := by simp [nums]
theorem nums_next {cs : List (Int × Int)} {k : Nat} (h : k < cs.length) : nums (cs.take (k + 1)) = nums (cs.take k) ++ [cs[k].2] := by
  unfold nums; rw [List.take_succ_eq_append_getElem h, List.map_append]; rfl
theorem sumI_app (a b : List Int) : sumI (a ++ b) = sumI a + sumI b := by
  induction a with
  | nil => simp [sumI]
  | cons x a ih => simp only [List.cons_append, sumI, ih]; omega
theorem sumI_next {l : List Int} {k : Nat} (h : k < l.length) : sumI (l.take (k + 1)) = sumI (l.take k) + l[k] := by rw [List.take_succ_eq_append_getElem h, sumI_snoc]
theorem sumI_nn {l : List Int} (h : ∀ x ∈ l, 0 ≤ x) : 0 ≤ sumI l := by
  induction l with
  | nil => simp [sumI]
  | cons x l ih =>
    have h1 := h x (by simp)
    have h2 := ih fun y hy => h y (by simp [hy])
    simp only [sumI]; omega
def okCl (cs : List (Int × Int)) : Bool := (nums cs).all amt && decide (sumI (nums cs) ≤ 1099511627776)
theorem okCl_mem {cs : List (Int × Int)} (h : okCl cs = true) {x : Int} (hx : x ∈ nums cs) : 0 ≤ x ∧ x ≤ 1099511627776 := by
  simp only [okCl, Bool.and_eq_true, List.all_eq_true] at h
  exact amt_bd (h.1 x hx)
theorem okCl_bd {cs : List (Int × Int)} (h : okCl cs = true) : 0 ≤ sumI (nums cs) ∧ sumI (nums cs) ≤ 1099511627776 := by
  refine ⟨sumI_nn fun x hx => (okCl_mem h hx).1, ?_⟩
  simp only [okCl, Bool.and_eq_true, decide_eq_true_eq] at h
  exact h.2
theorem okCl_next {cs : List (Int × Int)} {k : Nat} (hk : k < cs.length) (h : okCl (cs.take k) = true) (h1 : amt cs[k].2 = true) (h2 : amt (sumI (nums (cs.take k)) + cs[k].2) = true) : okCl (cs.take (k + 1)) = true := by
  simp only [okCl, Bool.and_eq_true, decide_eq_true_eq] at h ⊢
  rw [nums_next hk, List.all_append, sumI_snoc]
  exact ⟨by simp [h.1, h1], (amt_bd h2).2⟩
theorem okCl_no1 {cs : List (Int × Int)} {k : Nat} (hk : k < cs.length) (h1 : amt cs[k].2 = false) : okCl cs = false := by
  have : (nums cs).all amt = false := List.all_eq_false.2 ⟨cs[k].2, List.mem_map.2 ⟨cs[k], List.getElem_mem hk, rfl⟩, by simp [h1]⟩
  simp [okCl, this]
theorem okCl_no2 {cs : List (Int × Int)} {k : Nat} (hk : k < cs.length) (h : okCl (cs.take k) = true) (h1 : amt cs[k].2 = true) (h2 : amt (sumI (nums (cs.take k)) + cs[k].2) = false) : okCl cs = false := by
  cases hc : okCl cs with
  | false => rfl
  | true =>
    have hb := okCl_bd hc
    have h0 := okCl_bd h
    have h3 := amt_bd h1
    have e : nums cs = nums (cs.take (k + 1)) ++ nums (cs.drop (k + 1)) := by unfold nums; rw [← List.map_append, List.take_append_drop]
    have hd : 0 ≤ sumI (nums (cs.drop (k + 1))) := sumI_nn fun x hx => (okCl_mem hc (by rw [e]; exact List.mem_append_right _ hx)).1
    rw [e, sumI_app, nums_next hk, sumI_snoc] at hb
    have : ¬ (0 ≤ sumI (nums (cs.take k)) + cs[k].2 ∧ sumI (nums (cs.take k)) + cs[k].2 ≤ 1099511627776) := by
      intro hh
      rw [amt] at h2
      simp [hh.1, hh.2] at h2
    omega
def inS (c : Int) : Bool := decide (0 ≤ c) && decide (c < 1000)
theorem inS_bd {c : Int} (h : inS c = true) : 0 ≤ c ∧ c < 1000 := by simpa [inS] using h
def okS1 (l : List Int) : Bool := l.all inS
theorem okS1_next {l : List Int} {k : Nat} (hk : k < l.length) (h : okS1 (l.take k) = true) (h1 : inS l[k] = true) : okS1 (l.take (k + 1)) = true := by
  unfold okS1 at *
  rw [List.take_succ_eq_append_getElem hk, List.all_append, h]; simp [h1]
theorem okS1_no {l : List Int} {k : Nat} (hk : k < l.length) (h1 : inS l[k] = false) : okS1 l = false := List.all_eq_false.2 ⟨l[k], List.getElem_mem hk, by simp [h1]⟩
theorem okS1_bd {l : List Int} (h : okS1 l = true) : 0 ≤ sumI l ∧ sumI l ≤ 1000 * l.length := by
  induction l with
  | nil => simp [sumI]
  | cons x l ih =>
    simp only [okS1, List.all_cons, Bool.and_eq_true] at h
    have h1 := inS_bd h.1
    have h2 := ih h.2
    simp only [sumI, List.length_cons]; omega
def okP (n i : Nat) (f : Fd) : Bool := okS1 f.cedes && okCl f.claims && amt f.holds && amt f.reserve && amt f.income && decide (f.cedes.length = n) && decide (f.cedes.getD i 0 = 0) && decide (sumI f.cedes < 1000)
def manyC (F : List Fd) : Nat := (F.map fun f => f.claims.length).sum
theorem manyC_next {F : List Fd} {k : Nat} (h : k < F.length) : manyC (F.take (k + 1)) = manyC (F.take k) + F[k].claims.length := by
  unfold manyC; rw [List.take_succ_eq_append_getElem h, List.map_append, List.sum_append]; simp
def okUp (F : List Fd) (k : Nat) : Prop := ∀ i (h : i < F.length), i < k → okP F.length i F[i] = true
instance (F : List Fd) (k : Nat) : Decidable (okUp F k) := Nat.decidableBallLT _ _
def rightV (F : List Fd) : Bool := decide (okUp F F.length) && decide (0 < F.length) && decide (F.length ≤ 12) && decide (manyC F ≤ 400)
theorem okUp_next {F : List Fd} {k : Nat} (hk : k < F.length) (h : okUp F k) (h1 : okP F.length k F[k] = true) : okUp F (k + 1) := fun i hi hik => by
  by_cases e : i = k
  · subst e; exact h1
  · exact h i hi (by omega)
theorem right_no {F : List Fd} {k : Nat} (hk : k < F.length) (h1 : okP F.length k F[k] = false) : rightV F = false := by
  have : ¬ okUp F F.length := fun h => by
    have := h k hk hk
    rw [h1] at this; cases this
  simp [rightV, this]
theorem right_yes {F : List Fd} (h : okUp F F.length) : rightV F = (decide (0 < F.length) && decide (F.length ≤ 12) && decide (manyC F ≤ 400)) := by simp [rightV, h]
def ownL (F : List Fd) : List Int := F.map fun f => sumI (nums f.claims)
def cedL (F : List Fd) : List (List Int) := F.map (·.cedes)
theorem ownL_len (F : List Fd) : (ownL F).length = F.length := by simp [ownL]
theorem cedL_len (F : List Fd) : (cedL F).length = F.length := by simp [cedL]
structure OkP (n i : Nat) (f : Fd) : Prop where
  ced : okS1 f.cedes = true
  cla : okCl f.claims = true
  hol : 0 ≤ f.holds ∧ f.holds ≤ 1099511627776
  res : 0 ≤ f.reserve ∧ f.reserve ≤ 1099511627776
  inc : 0 ≤ f.income ∧ f.income ≤ 1099511627776
  len : f.cedes.length = n
  self : f.cedes.getD i 0 = 0
  lt : sumI f.cedes < 1000
theorem okP_iff {n i : Nat} {f : Fd} (h : okP n i f = true) : OkP n i f := by
  simp only [okP, Bool.and_eq_true, decide_eq_true_eq] at h
  obtain ⟨⟨⟨⟨⟨⟨⟨h1, h2⟩, h3⟩, h4⟩, h5⟩, h6⟩, h7⟩, h8⟩ := h
  exact ⟨h1, h2, amt_bd h3, amt_bd h4, amt_bd h5, h6, h7, h8⟩
structure RV (F : List Fd) : Prop where
  at' : ∀ i (h : i < F.length), OkP F.length i F[i]
  pos : 0 < F.length
  most : F.length ≤ 12
  many : manyC F ≤ 400
theorem rv_of {F : List Fd} (h : rightV F = true) : RV F := by
  simp only [rightV, Bool.and_eq_true, decide_eq_true_eq] at h
  exact ⟨fun i hi => okP_iff (h.1.1.1 i hi hi), h.1.1.2, h.1.2, h.2⟩
theorem inS_at {l : List Int} (h : okS1 l = true) (j : Nat) : 0 ≤ l.getD j 0 ∧ l.getD j 0 ≤ 1000 := by
  by_cases hj : j < l.length
  · have := inS_bd (List.all_eq_true.1 h l[j] (List.getElem_mem hj))
    rw [getD_at hj]; omega
  · rw [List.getD_eq_getElem?_getD, List.getElem?_eq_none (by omega)]; simp
theorem pv_of {F : List Fd} (h : RV F) : PV (ownL F) (cedL F) := by
  have hO : ∀ k (hk : k < F.length), wO (ownL F) k = sumI (nums F[k].claims) := fun k hk => by
    unfold wO; rw [getD_at (by rw [ownL_len]; exact hk)]; simp [ownL]
  have hS : ∀ i (hi : i < F.length) (j : Nat), sO (cedL F) i j = F[i].cedes.getD j 0 := fun i hi j => by
    unfold sO
    rw [List.getD_eq_getElem?_getD (l := cedL F), List.getElem?_eq_getElem (by rw [cedL_len]; exact hi)]
    simp [cedL]
  refine ⟨⟨?_, ?_, ?_, ?_, ?_, ?_, ?_⟩, ?_⟩
  · rw [ownL_len]; exact h.pos
  · rw [ownL_len]; exact h.most
  · rw [ownL_len, cedL_len]
  · intro k hk
    rw [ownL_len] at hk
    rw [hO k hk]
    exact okCl_bd (h.at' k hk).cla
  · intro l hl
    obtain ⟨f, hf, rfl⟩ := List.mem_map.1 hl
    obtain ⟨i, hi, rfl⟩ := List.getElem_of_mem hf
    rw [ownL_len]; exact (h.at' i hi).len
  · intro i j hi _
    rw [ownL_len] at hi
    rw [hS i hi]
    exact inS_at (h.at' i hi).ced j
  · intro i hi
    rw [ownL_len] at hi
    rw [hS i hi]
    exact (h.at' i hi).self
  · intro l hl
    obtain ⟨f, hf, rfl⟩ := List.mem_map.1 hl
    obtain ⟨i, hi, rfl⟩ := List.getElem_of_mem hf
    exact (h.at' i hi).lt
def owedL (F : List Fd) : List Int := coinL (keptQ (ownL F) (cedL F))
def fewV (F : List Fd) : Bool := (F.all fun f => decide (f.claims.length ≤ 8) && decide (f.cedes.length ≤ 14)) && decide (F.length ≤ 5)
theorem few_at {F : List Fd} (h : fewV F = true) {f : Fd} (hf : f ∈ F) : f.claims.length ≤ 8 ∧ f.cedes.length ≤ 14 := by
  simp only [fewV, Bool.and_eq_true, List.all_eq_true, decide_eq_true_eq] at h
  exact h.1 f hf
theorem few_5 {F : List Fd} (h : fewV F = true) : F.length ≤ 5 := by
  simp only [fewV, Bool.and_eq_true, decide_eq_true_eq] at h
  exact h.2
abbrev freeV (f : Fd) : Int := f.income + f.holds
abbrev payV (f : Fd) (q : Int) : Int := min q (freeV f + f.reserve)
def outF (f : Fd) (q : Int) : Fd := ⟨freeV f - min q (min (freeV f + f.reserve) (freeV f)), f.reserve - (min q (freeV f + f.reserve) - min q (min (freeV f + f.reserve) (freeV f))), 0, [], f.cedes⟩
def outK (F : List Fd) (o : List Int) (k : Nat) : List Fd := (List.range k).map fun i => outF (F.getD i dF) (o.getD i 0)
def paidK (F : List Fd) (o : List Int) (k : Nat) : Int := sumI ((List.range k).map fun i => payV (F.getD i dF) (o.getD i 0))
def asksK (F : List Fd) (k : Nat) : List Int := (F.take k).flatMap fun f => nums f.claims
theorem getF {F : List Fd} {k : Nat} (h : k < F.length) : F.getD k dF = F[k] := by rw [List.getD_eq_getElem?_getD, List.getElem?_eq_getElem h]; rfl
theorem outK_next {F : List Fd} {o : List Int} {k : Nat} (h : k < F.length) (ho : k < o.length) : outK F o (k + 1) = outK F o k ++ [outF F[k] o[k]] := by
  unfold outK; rw [List.range_succ, List.map_append, ← getF h, ← getD_at ho]; rfl
theorem paidK_next {F : List Fd} {o : List Int} {k : Nat} (h : k < F.length) (ho : k < o.length) : paidK F o (k + 1) = paidK F o k + payV F[k] o[k] := by
  unfold paidK; rw [List.range_succ, List.map_append, List.map_cons, List.map_nil, sumI_snoc, getF h, getD_at ho]
theorem asksK_next {F : List Fd} {k : Nat} (h : k < F.length) : asksK F (k + 1) = asksK F k ++ nums F[k].claims := by
  unfold asksK; rw [List.take_succ_eq_append_getElem h, List.flatMap_append]; simp
def asksJ (F : List Fd) (k j : Nat) : List Int := asksK F k ++ nums ((F.getD k dF).claims.take j)
theorem asksJ_0 (F : List Fd) (k : Nat) : asksJ F k 0 = asksK F k := by simp [asksJ, nums]
theorem asksJ_next {F : List Fd} {k j : Nat} (h : k < F.length) (hj : j < F[k].claims.length) : asksJ F k (j + 1) = asksJ F k j ++ [F[k].claims[j].2] := by
  unfold asksJ; rw [getF h, nums_next hj, List.append_assoc]
theorem asksJ_all {F : List Fd} {k : Nat} (h : k < F.length) : asksJ F k F[k].claims.length = asksK F (k + 1) := by
  unfold asksJ; rw [getF h, List.take_length, asksK_next h]
theorem asksJ_len {F : List Fd} {k j : Nat} (h : k < F.length) (hj : j ≤ F[k].claims.length) : (asksJ F k j).length = (asksK F k).length + j := by
  unfold asksJ; rw [getF h, List.length_append, nums_len, List.length_take]; omega
theorem zoneI (l : List Int) : zoneEs (l.map ii) = true := zoneEs_map _ _ fun _ => rfl
theorem asksK_len (F : List Fd) : ∀ k, k ≤ F.length → (asksK F k).length = manyC (F.take k)
  | 0, _ => by simp [asksK, manyC]
  | k + 1, h => by rw [asksK_next (by omega), List.length_append, asksK_len F k (by omega), manyC_next (by omega), nums_len]
@[simp] theorem outK_len (F : List Fd) (o : List Int) (k : Nat) : (outK F o k).length = k := by simp [outK]
def awK (F : List Fd) (G : List Int) (i j : Nat) : List (Int × Int) := (List.range j).map fun t => (((F.getD i dF).claims.getD t (0, 0)).1, G.getD ((asksK F i).length + t) 0)
def awAll (F : List Fd) (G : List Int) (i : Nat) : List (List (Int × Int)) := (List.range i).map fun k => awK F G k (F.getD k dF).claims.length
@[simp] theorem awK_len (F : List Fd) (G : List Int) (i j : Nat) : (awK F G i j).length = j := by simp [awK]
@[simp] theorem awAll_len (F : List Fd) (G : List Int) (i : Nat) : (awAll F G i).length = i := by simp [awAll]
theorem awK_next {F : List Fd} {G : List Int} {i j : Nat} (h : i < F.length) (hj : j < F[i].claims.length) (hg : (asksK F i).length + j < G.length) : awK F G i (j + 1) = awK F G i j ++ [(F[i].claims[j].1, G[(asksK F i).length + j])] := by
  unfold awK
  rw [List.range_succ, List.map_append, List.map_cons, List.map_nil, getF h, getD_at hg]
  congr 3
  rw [List.getD_eq_getElem?_getD, List.getElem?_eq_getElem hj]; rfl
theorem awAll_next {F : List Fd} {G : List Int} {i : Nat} (h : i < F.length) : awAll F G (i + 1) = awAll F G i ++ [awK F G i F[i].claims.length] := by
  unfold awAll; rw [List.range_succ, List.map_append, List.map_cons, List.map_nil, getF h]
end Go.Proofs.Ytndiamkmcoghdaa

