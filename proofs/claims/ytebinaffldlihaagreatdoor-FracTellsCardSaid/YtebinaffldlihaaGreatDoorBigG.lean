import Derived.Test.YtebinaffldlihaaGreatDoorBigF
set_option linter.all false
namespace Go.Proofs.YtebinaffldlihaaGreatDoor
open Go.RowKit Go.Ab
attribute [local irreducible] AWP Go.Ab.Sub Means MeansH CallK CallG CallT CallGT
theorem cG {r : Int} (h : 0 ≤ r ∧ r < 1048576) : val [r] = r ∧ okD [r] := by
  simp [val, okD]; exact h
theorem mA {x y : Int} : cmpI x y < 0 ↔ x < y := by
  unfold cmpI
  split
  · simp; assumption
  · split <;> omega
set_option maxHeartbeats 4000000 in
set_option maxRecDepth 20000 in
theorem xK (a b : List Int) (ha : okD a) (hb : okD b) (hla : a.length ≤ 9000) (hlb : b.length ≤ 9000) (ta : dg (val a) = a) (tb : dg (val b) = b) (hb0 : 0 < b.length) :
    Means false Tryz.prog 74 [il a, il b] (.tup [il (dg (val a / val b)), il (dg (val a % val b))]) := by
  have hA0 := aT ha
  have hB0 := aT hb
  refine aK false 170 [.tmp 4, .tmp 5] Tryz.func74 rfl rfl rfl (by simp) (by decide) rfl fun X hX => ?_
  (repeat (first | refine aC ?_ | refine a7 ?_ | ((first | refine a8 [0, 1, 4, 5, 6, 7, 8, 9, 10, 11, 12, 13, 14, 15, 16, 17, 22, 27, 48, 65, 80, 137] hX ?_ | refine a6 [0, 1, 4, 5, 6, 7, 8, 9, 10, 11, 12, 13, 14, 15, 16, 17, 22, 27, 48, 65, 80, 137] hX mixed ?_ | refine aD ?_ | refine aA ?_ | refine aB ?_); (simp [go_sem]; try (refine ⟨by kernel_rfl, ?_⟩)))))
  first | refine aE (fJ a b (by omega) (by omega) ha hb ta tb) rfl (by simp [go_sem]) rfl ?_ | refine aF (fJ a b (by omega) (by omega) ha hb ta tb) rfl (by simp [go_sem]) rfl ?_
  try (simp [go_sem]; try (refine ⟨by kernel_rfl, ?_⟩))
  (repeat (first | refine aC ?_ | refine a7 ?_ | ((first | refine a8 [0, 1, 4, 5, 6, 7, 8, 9, 10, 11, 12, 13, 14, 15, 16, 17, 22, 27, 48, 65, 80, 137] hX ?_ | refine a6 [0, 1, 4, 5, 6, 7, 8, 9, 10, 11, 12, 13, 14, 15, 16, 17, 22, 27, 48, 65, 80, 137] hX mixed ?_ | refine aD ?_ | refine aA ?_ | refine aB ?_); (simp [go_sem]; try (refine ⟨by kernel_rfl, ?_⟩)))))
  refine aG (b := decide (val a < val b)) (by simp [go_sem, mA]) (fun hd => ?_) (fun hd => ?_)
  · simp at hd
    rw [Int.ediv_eq_zero_of_lt hA0 hd, Int.emod_eq_of_lt hA0 hd, ta, dU]
    (repeat (first | refine aC ?_ | refine a7 ?_ | ((first | refine a8 [0, 1, 4, 5, 6, 7, 8, 9, 10, 11, 12, 13, 14, 15, 16, 17, 22, 27, 48, 65, 80, 137] hX ?_ | refine a6 [0, 1, 4, 5, 6, 7, 8, 9, 10, 11, 12, 13, 14, 15, 16, 17, 22, 27, 48, 65, 80, 137] hX mixed ?_ | refine aD ?_ | refine aA ?_ | refine aB ?_); (simp [go_sem]; try (refine ⟨by kernel_rfl, ?_⟩)))))
    first | refine aE (gK a (by omega)) rfl (by simp [go_sem]) rfl ?_ | refine aF (gK a (by omega)) rfl (by simp [go_sem]) rfl ?_
    try (simp [go_sem]; try (refine ⟨by kernel_rfl, ?_⟩))
    (repeat (first | refine aC ?_ | refine a7 ?_ | ((first | refine a8 [0, 1, 4, 5, 6, 7, 8, 9, 10, 11, 12, 13, 14, 15, 16, 17, 22, 27, 48, 65, 80, 137] hX ?_ | refine a6 [0, 1, 4, 5, 6, 7, 8, 9, 10, 11, 12, 13, 14, 15, 16, 17, 22, 27, 48, 65, 80, 137] hX mixed ?_ | refine aD ?_ | refine aA ?_ | refine aB ?_); (simp [go_sem]; try (refine ⟨by kernel_rfl, ?_⟩)))))
  · simp at hd
    (repeat (first | refine aC ?_ | refine a7 ?_ | ((first | refine a8 [0, 1, 4, 5, 6, 7, 8, 9, 10, 11, 12, 13, 14, 15, 16, 17, 22, 27, 48, 65, 80, 137] hX ?_ | refine a6 [0, 1, 4, 5, 6, 7, 8, 9, 10, 11, 12, 13, 14, 15, 16, 17, 22, 27, 48, 65, 80, 137] hX mixed ?_ | refine aD ?_ | refine aA ?_ | refine aB ?_); (simp [go_sem]; (try simp (disch := omega) only [w64, td, tm]); try (refine ⟨by kernel_rfl, ?_⟩)))))
    refine aG (b := decide (b.length = 1)) (by simp [go_sem]; try omega) (fun hl => ?_) (fun hl => ?_)
    · simp at hl
      obtain ⟨d, rfl⟩ : ∃ d, b = [d] := by
        match b, hl with
        | [d], _ => exact ⟨d, rfl⟩
      have hd1 := b7 hb (i := 0) (by simp)
      simp only [List.getElem_cons_zero] at hd1
      have hvd := (cG hd1).1
      have hd2 : 0 < d := by
        by_cases h : d = 0
        · subst h; rw [hvd] at tb; cases tb
        · omega
      rw [hvd]
      (repeat (first | refine aC ?_ | refine a7 ?_ | ((first | refine a8 [0, 1, 4, 5, 6, 7, 8, 9, 10, 11, 12, 13, 14, 15, 16, 17, 22, 27, 48, 65, 80, 137] hX ?_ | refine a6 [0, 1, 4, 5, 6, 7, 8, 9, 10, 11, 12, 13, 14, 15, 16, 17, 22, 27, 48, 65, 80, 137] hX mixed ?_ | refine aD ?_ | refine aA ?_ | refine aB ?_); (simp [go_sem]; try (refine ⟨by kernel_rfl, ?_⟩)))))
      first | refine aE (j5 a d ha (by omega) hd2 (by omega)) rfl (by simp [go_sem]) rfl ?_ | refine aF (j5 a d ha (by omega) hd2 (by omega)) rfl (by simp [go_sem]) rfl ?_
      try (simp [go_sem]; try (refine ⟨by kernel_rfl, ?_⟩))
      (repeat (first | refine aC ?_ | refine a7 ?_ | ((first | refine a8 [0, 1, 4, 5, 6, 7, 8, 9, 10, 11, 12, 13, 14, 15, 16, 17, 22, 27, 48, 65, 80, 137] hX ?_ | refine a6 [0, 1, 4, 5, 6, 7, 8, 9, 10, 11, 12, 13, 14, 15, 16, 17, 22, 27, 48, 65, 80, 137] hX mixed ?_ | refine aD ?_ | refine aA ?_ | refine aB ?_); (simp [go_sem]; (try simp (disch := omega) only [w64, td, tm]); try (refine ⟨by kernel_rfl, ?_⟩)))))
      have hr : 0 ≤ val a % d ∧ val a % d < 1048576 := by
        have h1 := Int.emod_nonneg (val a) (show d ≠ 0 by omega)
        have h2 := Int.emod_lt_of_pos (val a) hd2
        omega
      obtain ⟨hr1, hr2⟩ := cG hr
      have hdt : (dg (val a % d)).length ≤ 1 := by have := (c9 hr2).2; rw [hr1] at this; simpa using this
      have ht := (c9 hr2).1
      rw [hr1] at ht
      first | refine b9 [0] (bG [val a % d] (by simp) hr2) (by simp [go_sem]) ?_ | refine b6 [0] (bG [val a % d] (by simp) hr2) (by simp [go_sem]) ?_ | refine b4 [0] (bG [val a % d] (by simp) hr2) (by simp [go_sem]) ?_
      try (simp [go_sem, hr1, hdt]; try (refine ⟨by kernel_rfl, ?_⟩))
      (repeat (first | refine aC ?_ | refine a7 ?_ | ((first | refine a8 [0, 1, 4, 5, 6, 7, 8, 9, 10, 11, 12, 13, 14, 15, 16, 17, 22, 27, 48, 65, 80, 137] hX ?_ | refine a6 [0, 1, 4, 5, 6, 7, 8, 9, 10, 11, 12, 13, 14, 15, 16, 17, 22, 27, 48, 65, 80, 137] hX mixed ?_ | refine aD ?_ | refine aA ?_ | refine aB ?_); (simp [go_sem, hr1, hdt]; (try simp (disch := omega) only [w64, td, tm]); try (refine ⟨by kernel_rfl, ?_⟩)))))
      have h := congrArg (List.map ii) ht
      rw [List.map_take] at h
      exact h.symm
    · simp at hl
      have hlast : b.length - 1 < b.length := by omega
      have ht := b7 hb hlast
      have htop : b[b.length - 1] ≠ 0 := by
        have := mB (val b)
        simp only [tb, List.getLast_eq_getElem] at this
        exact this (by intro h; rw [h] at hb0; simp at hb0)
      (repeat (first | refine aC ?_ | refine a7 ?_ | ((first | refine a8 [0, 1, 4, 5, 6, 7, 8, 9, 10, 11, 12, 13, 14, 15, 16, 17, 22, 27, 48, 65, 80, 137] hX ?_ | refine a6 [0, 1, 4, 5, 6, 7, 8, 9, 10, 11, 12, 13, 14, 15, 16, 17, 22, 27, 48, 65, 80, 137] hX mixed ?_ | refine aD ?_ | refine aA ?_ | refine aB ?_); (simp [go_sem]; try (refine ⟨by kernel_rfl, ?_⟩)))))
      refine aQ (fun s : Int => ⟨mkE [(0, il a), (1, il b), (8, ii s)], []⟩) (fun s => 1 ≤ s ∧ s < 1048576) (fun s => (1048576 - s).toNat) 1 ?_ ?_ ?_
      · refine aL _ [] (by simp [go_sem]) ?_
        simp [go_sem]
      · decide
      · rintro s ⟨hs1, hs2⟩
        have hlc : ((b.length : Int) - 1).toNat = b.length - 1 := by omega
        have hlc2 : ((b.length : Int) - 1) < b.length := by omega
        have hlc3 : 1 ≤ (b.length : Int) := by omega
        have hm : 1 ≤ b[b.length - 1] * s ∧ b[b.length - 1] * s ≤ 1099509530625 := by
          refine ⟨?_, (eY ht ⟨by omega, hs2⟩).2⟩
          have := Int.mul_le_mul (show 1 ≤ b[b.length - 1] by omega) hs1 (by decide) (by omega)
          simpa using this
        have hms : s ≤ b[b.length - 1] * s := by
          have := Int.mul_le_mul_of_nonneg_right (show 1 ≤ b[b.length - 1] by omega) (show 0 ≤ s by omega)
          simpa using this
        (repeat (first | refine aC ?_ | refine a7 ?_ | ((first | refine a8 [0, 1, 4, 5, 6, 7, 8, 9, 10, 11, 12, 13, 14, 15, 16, 17, 22, 27, 48, 65, 80, 137] hX ?_ | refine a6 [0, 1, 4, 5, 6, 7, 8, 9, 10, 11, 12, 13, 14, 15, 16, 17, 22, 27, 48, 65, 80, 137] hX mixed ?_ | refine aD ?_ | refine aA ?_ | refine aB ?_); (simp [go_sem, hlast, hlc, hlc2, hlc3]; (try simp (disch := omega) only [w64, td, tm]); try (refine ⟨by kernel_rfl, ?_⟩)))))
        have hw := w64 (x := b[b.length - 1] * s) (by omega) (by omega)
        try (simp [go_sem, hlc, hlast, hlc2, hlc3, hw]; try (refine ⟨by kernel_rfl, ?_⟩))
        refine aG (b := decide (b[b.length - 1] * s < 524288)) (by simp [go_sem]) (fun hd2 => ?_) (fun hd2 => ?_)
        · simp at hd2
          (repeat (first | refine aC ?_ | refine a7 ?_ | ((first | refine a8 [0, 1, 4, 5, 6, 7, 8, 9, 10, 11, 12, 13, 14, 15, 16, 17, 22, 27, 48, 65, 80, 137] hX ?_ | refine a6 [0, 1, 4, 5, 6, 7, 8, 9, 10, 11, 12, 13, 14, 15, 16, 17, 22, 27, 48, 65, 80, 137] hX mixed ?_ | refine aD ?_ | refine aA ?_ | refine aB ?_); (simp [go_sem]; (try simp (disch := omega) only [w64, td, tm]); try (refine ⟨by kernel_rfl, ?_⟩)))))
          refine ⟨s * 2, by omega, by omega, ?_⟩
          refine aL _ [] (by simp [go_sem]) ?_
          simp [go_sem]
        · clear hd2 hms hm hw hlc hlc2 hlc3
          obtain ⟨hsv, hso⟩ := cG (r := s) ⟨by omega, hs2⟩
          obtain ⟨hRv, hRo, hRl⟩ := eZ [s] hso a (List.replicate (a.length + [s].length) 0) ha (cB _) (by simp) (fun j hj _ => by simp)
          rw [dH, Int.zero_add, hsv] at hRv
          rw [List.length_replicate] at hRl
          have hmo := zW a [s] ha hso (by omega) (by simp)
          rw [hsv] at hmo
          generalize mrC [s] a (List.replicate (a.length + [s].length) 0) = RR at *
          have hdt := c9 hRo
          rw [hRv] at hdt
          have hwd := iR hRo
          rw [hRv] at hwd
          (repeat (first | refine aC ?_ | refine a7 ?_ | ((first | refine a8 [0, 1, 4, 5, 6, 7, 8, 9, 10, 11, 12, 13, 14, 15, 16, 17, 22, 27, 48, 65, 80, 137] hX ?_ | refine a6 [0, 1, 4, 5, 6, 7, 8, 9, 10, 11, 12, 13, 14, 15, 16, 17, 22, 27, 48, 65, 80, 137] hX mixed ?_ | refine aD ?_ | refine aA ?_ | refine aB ?_); (simp [go_sem]; (try simp (disch := omega) only [w64, td, tm]); try (refine ⟨by kernel_rfl, ?_⟩)))))
          first | refine b9 [0] (hmo) (by simp [go_sem]) ?_ | refine b6 [0] (hmo) (by simp [go_sem]) ?_ | refine b4 [0] (hmo) (by simp [go_sem]) ?_
          try (simp [go_sem, hdt.2]; try (refine ⟨by kernel_rfl, ?_⟩))
          have hUl : (dg (val a * s)).length ≤ 9001 := by have := hdt.2; simp at hRl; omega
          refine ⟨⟨by omega, by unfold maxLen; omega⟩, ?_⟩
          have hmm := tT b [s] hb hso (by omega) (by simp)
          rw [hsv] at hmm
          first | refine aE (hmm) rfl (by simp [go_sem]) rfl ?_ | refine aF (hmm) rfl (by simp [go_sem]) rfl ?_
          rw [hwd]
          have hU0 : val a ≤ val a * s := by
            have := Int.mul_le_mul_of_nonneg_left hs1 hA0
            simpa using this
          have hV0 : val b ≤ val b * s := by
            have := Int.mul_le_mul_of_nonneg_left hs1 hB0
            simpa using this
          have hUV : val b * s ≤ val a * s := Int.mul_le_mul_of_nonneg_right hd (by omega)
          have hUa : a.length ≤ (dg (val a * s)).length := by have := aW hU0; rwa [ta] at this
          have hVb : b.length ≤ (dg (val b * s)).length := by have := aW hV0; rwa [tb] at this
          have hVU : (dg (val b * s)).length ≤ (dg (val a * s)).length := aW hUV
          have hUok := aN (val a * s)
          have hVok := aN (val b * s)
          have hUval := aU (n := val a * s) (by omega)
          have hVval := aU (n := val b * s) (by omega)
          have hVlast : ∀ h : (dg (val b * s)).length - 1 < (dg (val b * s)).length, (dg (val b * s))[(dg (val b * s)).length - 1] ≠ 0 := by
            intro h
            have := mB (val b * s)
            simp only [List.getLast_eq_getElem] at this
            exact this (by intro e; rw [e] at h; simp at h)
          clear hmo hmm hwd hdt hRv hRo hRl
          generalize dg (val a * s) = U at *
          generalize dg (val b * s) = V at *
          obtain ⟨k, hk⟩ : ∃ k, V.length = k + 2 := ⟨V.length - 2, by omega⟩
          obtain ⟨m, hm⟩ : ∃ m, U.length + 1 = m + (k + 2) := ⟨U.length + 1 - (k + 2), by omega⟩
          have hrow : List.map ii U ++ [AV.v (Value.int IntKind.i64 0)] = (U ++ [0]).map ii := by simp
          try (simp [go_sem]; try (refine ⟨by kernel_rfl, ?_⟩))
          rw [hrow]
          have hul : (U ++ [0]).length = m + (k + 2) := by simp; omega
          have huo : okD (U ++ [0]) := cT.2 ⟨hUok, by simp [okD]⟩
          have huv : val (U ++ [0]) = val a * s := by rw [cS, hUval]; simp [val]
          have hne : U.length + 1 ≠ a.length := by omega
          generalize hu0 : U ++ [0] = u0 at *
          (repeat (first | refine aC ?_ | refine a7 ?_ | ((first | refine a8 [0, 1, 4, 5, 6, 7, 8, 9, 10, 11, 12, 13, 14, 15, 16, 17, 22, 27, 48, 65, 80, 137] hX ?_ | refine a6 [0, 1, 4, 5, 6, 7, 8, 9, 10, 11, 12, 13, 14, 15, 16, 17, 22, 27, 48, 65, 80, 137] hX mixed ?_ | refine aD ?_ | refine aA ?_ | refine aB ?_); (simp [go_sem, hul]; (try simp (disch := omega) only [w64, td, tm]); try (refine ⟨by kernel_rfl, ?_⟩)))))
          refine aG (b := false) (by simp [go_sem]; omega) (fun h => by cases h) (fun _ => ?_)
          (repeat (first | refine aC ?_ | refine a7 ?_ | ((first | refine a8 [0, 1, 4, 5, 6, 7, 8, 9, 10, 11, 12, 13, 14, 15, 16, 17, 22, 27, 48, 65, 80, 137] hX ?_ | refine a6 [0, 1, 4, 5, 6, 7, 8, 9, 10, 11, 12, 13, 14, 15, 16, 17, 22, 27, 48, 65, 80, 137] hX mixed ?_ | refine aD ?_ | refine aA ?_ | refine aB ?_); (simp [go_sem, hul, hk]; (try simp (disch := omega) only [w64, td, tm]); try (refine ⟨by kernel_rfl, ?_⟩)))))
          refine ⟨⟨by omega, by omega, by omega⟩, ?_⟩
          (repeat (first | refine aC ?_ | refine a7 ?_ | ((first | refine a8 [0, 1, 4, 5, 6, 7, 8, 9, 10, 11, 12, 13, 14, 15, 16, 17, 22, 27, 48, 65, 80, 137] hX ?_ | refine a6 [0, 1, 4, 5, 6, 7, 8, 9, 10, 11, 12, 13, 14, 15, 16, 17, 22, 27, 48, 65, 80, 137] hX mixed ?_ | refine aD ?_ | refine aA ?_ | refine aB ?_); (simp [go_sem]; (try simp (disch := omega) only [w64, td, tm]); try (refine ⟨by kernel_rfl, ?_⟩)))))
          have hV1 : 1 ≤ V[k + 1] := by
            have h1 := hVlast (by omega)
            have h2 := b7 hVok (i := k + 1) (by omega)
            have e : V[V.length - 1]'(by omega) = V[k + 1] := by congr 1; omega
            rw [e] at h1
            omega
          have hVt := jZ hk
          have hmt : ((m : Nat) : Int).toNat = m := by omega
          clear hVlast hrow
          have hP := bE k
          have hVlo1 := aT (bC hVok k)
          have hVlo2 := c7 (bC hVok k)
          rw [List.length_take, Nat.min_eq_left (by omega)] at hVlo2
          have hv0 := b7 hVok (i := k) (by omega)
          have hv1 := b7 hVok (i := k + 1) (by omega)
          have hVm : val (u0.drop m) < val V := by rw [← hu0]; exact sB hUok hVok hk hm hV1
          refine aQ (fun x : Nat × List Int × List Int => ⟨mkE [(8, ii s), (9, .ow 0), (10, il V), (11, ii ((k : Int) + 2)), (12, .ow 1), (13, ii ((x.1 : Int) - 1))], [.row ⟨3, 1, x.2.1.map ii⟩, .row ⟨3, 1, x.2.2.map ii⟩]⟩)
            (fun x => x.1 ≤ m ∧ x.2.1.length = m + (k + 2) ∧ okD x.2.1 ∧ x.2.2.length = m ∧ okD (x.2.2.drop x.1) ∧ x.2.1.take x.1 = u0.take x.1 ∧ (0 ≤ val (x.2.1.drop x.1) ∧ val (x.2.1.drop x.1) < val V) ∧
              val (x.2.2.drop x.1) * val V + val (x.2.1.drop x.1) = val (u0.drop x.1)) (fun x => x.1) (m, u0, List.replicate m 0) ?_ ?_ ?_
          · refine aL _ [.old 3 ⟨3, 1, u0.map ii⟩, .old 5 ⟨3, 1, (List.replicate m (0 : Int)).map ii⟩] (by simp [go_sem, hmt]) ?_
            simp [go_sem]
          · refine ⟨Nat.le_refl _, hul, huo, by simp, by simp [okD], rfl, ⟨aT (bH huo m), hVm⟩, by simp [val]⟩
          · rintro ⟨n', L, Q⟩ ⟨hn', hL, hLo, hQ, hQo, hLu, hR, hE⟩
            simp only [] at hn' hL hLo hQ hQo hLu hR hE
            cases n' with
            | zero =>
              (repeat (first | refine aC ?_ | refine a7 ?_ | ((first | refine a8 [0, 1, 4, 5, 6, 7, 8, 9, 10, 11, 12, 13, 14, 15, 16, 17, 22, 27, 48, 65, 80, 137] hX ?_ | refine a6 [0, 1, 4, 5, 6, 7, 8, 9, 10, 11, 12, 13, 14, 15, 16, 17, 22, 27, 48, 65, 80, 137] hX mixed ?_ | refine aD ?_ | refine aA ?_ | refine aB ?_); (simp [go_sem]; try (refine ⟨by kernel_rfl, ?_⟩)))))
              refine aG (b := false) (by simp [go_sem]) (fun hb => by cases hb) (fun _ => ?_)
              (repeat (first | refine aC ?_ | refine a7 ?_ | ((first | refine a8 [0, 1, 4, 5, 6, 7, 8, 9, 10, 11, 12, 13, 14, 15, 16, 17, 22, 27, 48, 65, 80, 137] hX ?_ | refine a6 [0, 1, 4, 5, 6, 7, 8, 9, 10, 11, 12, 13, 14, 15, 16, 17, 22, 27, 48, 65, 80, 137] hX mixed ?_ | refine aD ?_ | refine aA ?_ | refine aB ?_); (simp [go_sem]; try (refine ⟨by kernel_rfl, ?_⟩)))))
              rw [List.drop_zero] at hQo hR hE
              rw [List.drop_zero, List.drop_zero, huv, hVval] at hE
              rw [hVval] at hR
              obtain ⟨hq1, hq2⟩ := w9 (by omega) hR hE
              have hdt := (c9 hLo).2
              have hdq := (c9 hQo).2
              rw [hL] at hdt
              rw [hQ] at hdq
              have hso2 := j5 (dg (val L)) s (aN _) (by omega) (by omega) (by omega)
              rw [aU hR.1, hq2] at hso2
              first | refine b9 [0] (bG L (by omega) hLo) (by simp [go_sem]) ?_ | refine b6 [0] (bG L (by omega) hLo) (by simp [go_sem]) ?_ | refine b4 [0] (bG L (by omega) hLo) (by simp [go_sem]) ?_
              try (simp [go_sem, hL, hdt, iR hLo]; try (refine ⟨by kernel_rfl, ?_⟩))
              first | refine aE (hso2) rfl (by simp [go_sem]) rfl ?_ | refine aF (hso2) rfl (by simp [go_sem]) rfl ?_
              try (simp [go_sem]; try (refine ⟨by kernel_rfl, ?_⟩))
              (repeat (first | refine aC ?_ | refine a7 ?_ | ((first | refine a8 [0, 1, 4, 5, 6, 7, 8, 9, 10, 11, 12, 13, 14, 15, 16, 17, 22, 27, 48, 65, 80, 137] hX ?_ | refine a6 [0, 1, 4, 5, 6, 7, 8, 9, 10, 11, 12, 13, 14, 15, 16, 17, 22, 27, 48, 65, 80, 137] hX mixed ?_ | refine aD ?_ | refine aA ?_ | refine aB ?_); (simp [go_sem]; (try simp (disch := omega) only [w64, td, tm]); try (refine ⟨by kernel_rfl, ?_⟩)))))
              first | refine b9 [1] (bG Q (by omega) hQo) (by simp [go_sem]) ?_ | refine b6 [1] (bG Q (by omega) hQo) (by simp [go_sem]) ?_ | refine b4 [1] (bG Q (by omega) hQo) (by simp [go_sem]) ?_
              try (simp [go_sem, hQ, hdq]; try (refine ⟨by kernel_rfl, ?_⟩))
              (repeat (first | refine aC ?_ | refine a7 ?_ | ((first | refine a8 [0, 1, 4, 5, 6, 7, 8, 9, 10, 11, 12, 13, 14, 15, 16, 17, 22, 27, 48, 65, 80, 137] hX ?_ | refine a6 [0, 1, 4, 5, 6, 7, 8, 9, 10, 11, 12, 13, 14, 15, 16, 17, 22, 27, 48, 65, 80, 137] hX mixed ?_ | refine aD ?_ | refine aA ?_ | refine aB ?_); (simp [go_sem, hQ, hdq]; (try simp (disch := omega) only [w64, td, tm]); try (refine ⟨by kernel_rfl, ?_⟩)))))
              rw [iR hQo, hq1]
            | succ i =>
              have hi : i < m := by omega
              obtain ⟨hz, hWv⟩ := yC hLo hVok hk (i := i) (by omega) hR.2
              have hLi := b7 hLo (i := i) (by omega)
              generalize hW : val ((L.drop i).take (k + 2 + 1)) = W at *
              (repeat (first | refine aC ?_ | refine a7 ?_ | ((first | refine a8 [0, 1, 4, 5, 6, 7, 8, 9, 10, 11, 12, 13, 14, 15, 16, 17, 22, 27, 48, 65, 80, 137] hX ?_ | refine a6 [0, 1, 4, 5, 6, 7, 8, 9, 10, 11, 12, 13, 14, 15, 16, 17, 22, 27, 48, 65, 80, 137] hX mixed ?_ | refine aD ?_ | refine aA ?_ | refine aB ?_); (simp [go_sem]; (try simp (disch := omega) only [w64, td, tm]); try (refine ⟨by kernel_rfl, ?_⟩)))))
              refine aG (b := true) (by simp [go_sem]; try omega) (fun _ => ?_) (fun hb => by cases hb)
              have hc1 : ((i : Int) + ((k : Int) + 2)).toNat = i + k + 2 := by omega
              have hc2 : ((i : Int) + ((k : Int) + 2) - 1).toNat = i + k + 1 := by omega
              have hi0 : i + k < L.length := by omega
              have hi1 : i + k + 1 < L.length := by omega
              have hi2 : i + k + 2 < L.length := by omega
              have hx0 := b7 hLo hi0
              have hx1 := b7 hLo hi1
              have hx2 := b7 hLo hi2
              have hor := pQ (r := L[i + k + 2]) (a := L[i + k + 1]) hx2.1 (by omega) hx1.1 hx1.2
              have hc3 : ((k : Int) + 2 - 1).toNat = k + 1 := by omega
              have hk1 : k + 1 < V.length := by omega
              (repeat (first | refine aC ?_ | refine a7 ?_ | ((first | refine a8 [0, 1, 4, 5, 6, 7, 8, 9, 10, 11, 12, 13, 14, 15, 16, 17, 22, 27, 48, 65, 80, 137] hX ?_ | refine a6 [0, 1, 4, 5, 6, 7, 8, 9, 10, 11, 12, 13, 14, 15, 16, 17, 22, 27, 48, 65, 80, 137] hX mixed ?_ | refine aD ?_ | refine aA ?_ | refine aB ?_); (simp [go_sem, hc1, hc2, hi1, hi2, hor]; (try simp (disch := omega) only [w64, td, tm]); try (refine ⟨by kernel_rfl, ?_⟩)))))
              try (simp [go_sem, hc1, hc2, hi1, hi2, hor]; try (refine ⟨by kernel_rfl, ?_⟩))
              refine ⟨⟨by omega, by omega⟩, ⟨by omega, by omega⟩, ?_⟩
              (repeat refine And.intro (by first | omega | (unfold maxLen; omega) | kernel_rfl | (refine ⟨by first | omega | (unfold maxLen; omega), by first | omega | (unfold maxLen; omega)⟩) | grind) ?_)
              have hwm := w64 (x := L[i + k + 2] * 1048576) (by omega) (by omega)
              try (simp [go_sem, hwm, hor]; try (refine ⟨by kernel_rfl, ?_⟩))
              have hT0 : 0 ≤ L[i + k + 2] * 1048576 + L[i + k + 1] := by omega
              have hT1 : L[i + k + 2] * 1048576 + L[i + k + 1] ≤ 1099511627775 := by omega
              generalize hTop : L[i + k + 2] * 1048576 + L[i + k + 1] = top at *
              have hg0 : 0 ≤ top / V[k + 1] := Int.ediv_nonneg hT0 (by omega)
              have hg1 : top / V[k + 1] ≤ top := Int.ediv_le_self _ hT0
              have hgr := Int.mul_ediv_add_emod top V[k + 1]
              have hr0 := Int.emod_nonneg top (show V[k + 1] ≠ 0 by omega)
              have hwq := w64 (x := top / V[k + 1]) (by omega) (by omega)
              have htd := td (a := top) (b := V[k + 1]) hT0
              have htm := tm (a := top) (b := V[k + 1]) hT0
              (repeat (first | refine aC ?_ | refine a7 ?_ | ((first | refine a8 [0, 1, 4, 5, 6, 7, 8, 9, 10, 11, 12, 13, 14, 15, 16, 17, 22, 27, 48, 65, 80, 137] hX ?_ | refine a6 [0, 1, 4, 5, 6, 7, 8, 9, 10, 11, 12, 13, 14, 15, 16, 17, 22, 27, 48, 65, 80, 137] hX mixed ?_ | refine aD ?_ | refine aA ?_ | refine aB ?_); (simp [go_sem, hc3, hk1, hwq, htd, htm]; (try simp (disch := omega) only [w64, td, tm]); try (refine ⟨by kernel_rfl, ?_⟩)))))
              try (simp [go_sem, hc3, hk1, hwq, htd, htm]; try (refine ⟨by kernel_rfl, ?_⟩))
              refine ⟨by omega, by omega, by omega, by omega, ?_⟩
              (repeat refine And.intro (by first | omega | (unfold maxLen; omega) | kernel_rfl | (refine ⟨by first | omega | (unfold maxLen; omega), by first | omega | (unfold maxLen; omega)⟩) | grind) ?_)
              try (simp [go_sem, hc3, hk1, hwq, htd, htm]; try (refine ⟨by kernel_rfl, ?_⟩))
              (repeat (first | refine aC ?_ | refine a7 ?_ | ((first | refine a8 [0, 1, 4, 5, 6, 7, 8, 9, 10, 11, 12, 13, 14, 15, 16, 17, 22, 27, 48, 65, 80, 137] hX ?_ | refine a6 [0, 1, 4, 5, 6, 7, 8, 9, 10, 11, 12, 13, 14, 15, 16, 17, 22, 27, 48, 65, 80, 137] hX mixed ?_ | refine aD ?_ | refine aA ?_ | refine aB ?_); (simp [go_sem]; (try simp (disch := omega) only [w64, td, tm]); try (refine ⟨by kernel_rfl, ?_⟩)))))
              have hVp : 0 < val V := by have := hR; omega
              have hW0 : 0 ≤ W := by omega
              have hq0 : 0 ≤ W / val V := Int.ediv_nonneg hW0 (by omega)
              have hqV : W / val V * val V ≤ W := Int.ediv_mul_le W (by omega)
              have hqV2 : W < (W / val V + 1) * val V := Int.lt_ediv_add_one_mul_self W hVp
              have hqB : W / val V < 1048576 := Int.ediv_lt_of_lt_mul hVp (by omega)
              obtain ⟨gu, gv, gd⟩ := nR hLo hVok hk (by omega) hq0 (by rw [hW]; exact hqV) (by rw [hW]; exact hqV2) hV1
              rw [hTop] at gu gv gd
              have hqg : W / val V ≤ top / V[k + 1] := Int.le_ediv_of_mul_le (by omega) gv
              generalize hqe : W / val V = q at *
              have hc4 : ((i : Int) + ((k : Int) + 2) - 2).toNat = i + k := by omega
              have hk0 : k < V.length := by omega
              refine aQ (fun x : Int × Int => ⟨mkE [(8, ii s), (9, .ow 0), (10, il V), (11, ii ((k : Int) + 2)), (12, .ow 1), (13, ii i), (15, ii x.1), (16, ii x.2)], [.row ⟨3, 1, L.map ii⟩, .row ⟨3, 1, Q.map ii⟩]⟩)
                (fun x => V[k + 1] * x.1 + x.2 = top ∧ 0 ≤ x.2 ∧ q ≤ x.1) (fun x => x.1.toNat) (top / V[k + 1], top % V[k + 1]) ?_ ?_ ?_
              · refine aL _ [.old 0 ⟨3, 1, L.map ii⟩, .old 1 ⟨3, 1, Q.map ii⟩] (by simp [go_sem]) ?_
                simp [go_sem]
              · exact ⟨hgr, hr0, hqg⟩
              · rintro ⟨g, r⟩ ⟨hgr2, hr2, hgq⟩
                simp only [] at hgr2 hr2 hgq
                clear hgr hr0 hqg hwq htd htm hg0 hg1
                have hmg : 0 ≤ V[k + 1] * g := Int.mul_nonneg (by omega) (by omega)
                have hmg2 : g ≤ V[k + 1] * g := by
                  have := Int.mul_le_mul_of_nonneg_right hV1 (show 0 ≤ g by omega)
                  simpa using this
                have hnext : V[k + 1] * (g - 1) + (r + V[k + 1]) = top := by rw [Int.mul_sub]; omega
                have hw1 := w64 (x := (k : Int)) (by omega) (by omega)
                have hw2 := w64 (x := (i : Int) + ((k : Int) + 2)) (by omega) (by omega)
                have hw3 := w64 (x := (i : Int) + ((k : Int) + 2) - 2) (by omega) (by omega)
                have hi00 : 2 ≤ (i : Int) + ((k : Int) + 2) := by omega
                have hi01 : (i : Int) + ((k : Int) + 2) - 2 < L.length := by omega
                refine aC ?_
                refine aC ?_
                refine eL ⟨mkE [(8, ii s), (9, .ow 0), (10, il V), (11, ii ((k : Int) + 2)), (12, .ow 1), (13, ii i), (15, ii g), (16, ii r), (137, bb (decide (1048576 ≤ g ∨ (r < 1048576 ∧ r * 1048576 + L[i + k] < g * V[k]))))],
                  [.row ⟨3, 1, L.map ii⟩, .row ⟨3, 1, Q.map ii⟩]⟩ ?_ ?_
                · by_cases hA : 1048576 ≤ g
                  · (repeat (first | refine aC ?_ | refine a7 ?_ | ((first | refine a8 [0, 1, 4, 5, 6, 7, 8, 9, 10, 11, 12, 13, 14, 15, 16, 17, 22, 27, 48, 65, 80, 137] hX ?_ | refine a6 [0, 1, 4, 5, 6, 7, 8, 9, 10, 11, 12, 13, 14, 15, 16, 17, 22, 27, 48, 65, 80, 137] hX mixed ?_ | refine aD ?_ | refine aA ?_ | refine aB ?_); (simp [go_sem, hA, hc4, hk0, hi0, hw1, hw2, hw3, hi00, hi01]; try (refine ⟨by kernel_rfl, ?_⟩)))))
                    (repeat refine And.intro (by first | omega | (unfold maxLen; omega) | kernel_rfl | (refine ⟨by first | omega | (unfold maxLen; omega), by first | omega | (unfold maxLen; omega)⟩) | grind) ?_)
                    refine aL _ [.old 0 ⟨3, 1, L.map ii⟩, .old 1 ⟨3, 1, Q.map ii⟩] (by simp [go_sem]) ?_
                    simp [go_sem, hA]
                  · by_cases hB : r < 1048576
                    · have hm2 := eY (x := g) (y := V[k]) ⟨by omega, by omega⟩ hv0
                      have hw4 := w64 (x := g * V[k]) (by omega) (by omega)
                      have hw5 := w64 (x := r * 1048576) (by omega) (by omega)
                      have hor2 := pQ (r := r) (a := L[i + k]) hr2 (by omega) hx0.1 hx0.2
                      (repeat (first | refine aC ?_ | refine a7 ?_ | ((first | refine a8 [0, 1, 4, 5, 6, 7, 8, 9, 10, 11, 12, 13, 14, 15, 16, 17, 22, 27, 48, 65, 80, 137] hX ?_ | refine a6 [0, 1, 4, 5, 6, 7, 8, 9, 10, 11, 12, 13, 14, 15, 16, 17, 22, 27, 48, 65, 80, 137] hX mixed ?_ | refine aD ?_ | refine aA ?_ | refine aB ?_); (simp [go_sem, hA, hB, hc4, hk0, hi0, hw1, hw2, hw3, hw4, hw5, hi00, hi01, hor2]; try (refine ⟨by kernel_rfl, ?_⟩)))))
                      refine aL _ [.old 0 ⟨3, 1, L.map ii⟩, .old 1 ⟨3, 1, Q.map ii⟩] (by simp [go_sem]) ?_
                      simp [go_sem, hA, hB]
                    · (repeat (first | refine aC ?_ | refine a7 ?_ | ((first | refine a8 [0, 1, 4, 5, 6, 7, 8, 9, 10, 11, 12, 13, 14, 15, 16, 17, 22, 27, 48, 65, 80, 137] hX ?_ | refine a6 [0, 1, 4, 5, 6, 7, 8, 9, 10, 11, 12, 13, 14, 15, 16, 17, 22, 27, 48, 65, 80, 137] hX mixed ?_ | refine aD ?_ | refine aA ?_ | refine aB ?_); (simp [go_sem, hA, hB, hc4, hk0, hi0, hw1, hw2, hw3, hi00, hi01]; try (refine ⟨by kernel_rfl, ?_⟩)))))
                      (repeat refine And.intro (by first | omega | (unfold maxLen; omega) | kernel_rfl | (refine ⟨by first | omega | (unfold maxLen; omega), by first | omega | (unfold maxLen; omega)⟩) | grind) ?_)
                      refine aL _ [.old 0 ⟨3, 1, L.map ii⟩, .old 1 ⟨3, 1, Q.map ii⟩] (by simp [go_sem]) ?_
                      simp [go_sem, hA, hB]
                · try (simp [go_sem]; try (refine ⟨by kernel_rfl, ?_⟩))
                  refine aG (b := decide (1048576 ≤ g ∨ (r < 1048576 ∧ r * 1048576 + L[i + k] < g * V[k]))) (by simp [go_sem]) (fun hb => ?_) (fun hb => ?_)
                  · simp only [decide_eq_true_eq] at hb
                    have hgt : q ≤ g - 1 := by
                      rcases hb with hb | ⟨hb1, hb2⟩
                      · omega
                      · refine Decidable.byContradiction fun hn => ?_
                        have e : q = g := by omega
                        rw [e, Int.mul_add, Int.mul_left_comm g 1048576, Int.mul_comm g V[k + 1]] at gu
                        omega
                    have hwr := w64 (x := r + V[k + 1]) (by omega) (by omega)
                    have hkk1 : (k : Int) + 2 - 1 < V.length := by omega
                    have hkk2 : 1 ≤ (k : Int) + 2 := by omega
                    (repeat (first | refine aC ?_ | refine a7 ?_ | ((first | refine a8 [0, 1, 4, 5, 6, 7, 8, 9, 10, 11, 12, 13, 14, 15, 16, 17, 22, 27, 48, 65, 80, 137] hX ?_ | refine a6 [0, 1, 4, 5, 6, 7, 8, 9, 10, 11, 12, 13, 14, 15, 16, 17, 22, 27, 48, 65, 80, 137] hX mixed ?_ | refine aD ?_ | refine aA ?_ | refine aB ?_); (simp [go_sem, hc3, hk1, hkk1, hkk2]; (try simp (disch := omega) only [w64, td, tm]); try (refine ⟨by kernel_rfl, ?_⟩)))))
                    try (simp [go_sem, hc3, hk1, hkk1, hkk2, hwr]; try (refine ⟨by kernel_rfl, ?_⟩))
                    refine ⟨g - 1, r + V[k + 1], ⟨hnext, by omega, hgt⟩, by rw [Int.max_eq_left (by omega)]; omega, ?_⟩
                    refine aL _ [.old 0 ⟨3, 1, L.map ii⟩, .old 1 ⟨3, 1, Q.map ii⟩] (by simp [go_sem]) ?_
                    simp [go_sem]
                  · simp only [decide_eq_false_iff_not] at hb
                    have hgB : g < 1048576 := by omega
                    have hgle : g ≤ q + 1 := by
                      refine gd g (by omega) hgB ?_
                      have hm2 := eY (x := g) (y := V[k]) ⟨by omega, hgB⟩ hv0
                      rw [Int.mul_add, Int.mul_left_comm g 1048576, Int.mul_comm g V[k + 1]]
                      by_cases hB : r < 1048576
                      · have : g * V[k] ≤ r * 1048576 + L[i + k] := by
                          refine Decidable.byContradiction fun hn => hb (.inr ⟨hB, by omega⟩)
                        omega
                      · omega
                    obtain ⟨L2, hL2⟩ : ∃ L2, L2 = L.take i ++ padD (k + 2 + 1) (W - q * val V) ++ L.drop (i + (k + 2 + 1)) := ⟨_, rfl⟩
                    have hse := tU L V i (k + 2 + 1) g q hLo hVok (by omega) (by omega) (by omega) ⟨by omega, hgB⟩ ⟨hgq, hgle⟩ (by rw [hW]; exact hqV) (by rw [hW]; exact hqV2) L2 (by rw [hW]; exact hL2)
                    obtain ⟨d1, d2, d3, d4, d5, d6⟩ := tV hL hLo hQ hQo hi hul hLu hVok hk hz hWv ⟨hq0, hqB⟩ hqV hqV2 hE L2 hL2
                    have hs1 : ((i : Int) + ((k : Int) + 2) + 1).toNat - i = k + 2 + 1 := by omega
                    have hs2 : (i : Int) ≤ (i : Int) + ((k : Int) + 2) + 1 := by omega
                    have hs3 : (i : Int) + ((k : Int) + 2) + 1 ≤ L.length := by omega
                    (repeat (first | refine aC ?_ | refine a7 ?_ | ((first | refine a8 [0, 1, 4, 5, 6, 7, 8, 9, 10, 11, 12, 13, 14, 15, 16, 17, 22, 27, 48, 65, 80, 137] hX ?_ | refine a6 [0, 1, 4, 5, 6, 7, 8, 9, 10, 11, 12, 13, 14, 15, 16, 17, 22, 27, 48, 65, 80, 137] hX mixed ?_ | refine aD ?_ | refine aA ?_ | refine aB ?_); (simp [go_sem]; (try simp (disch := omega) only [w64, td, tm]); try (refine ⟨by kernel_rfl, ?_⟩)))))
                    refine ⟨⟨hs2, hs3⟩, ?_⟩
                    try (simp [go_sem, hs1]; try (refine ⟨by kernel_rfl, ?_⟩))
                    first | refine b9 [0] (hse) (by simp [go_sem]) ?_ | refine b6 [0] (hse) (by simp [go_sem]) ?_ | refine b4 [0] (hse) (by simp [go_sem]) ?_
                    try (simp [go_sem]; try (refine ⟨by kernel_rfl, ?_⟩))
                    have hQi : i < Q.length := by omega
                    refine ⟨hQi, ?_⟩
                    try (simp [go_sem, hQi]; try (refine ⟨by kernel_rfl, ?_⟩))
                    (repeat (first | refine aC ?_ | refine a7 ?_ | ((first | refine a8 [0, 1, 4, 5, 6, 7, 8, 9, 10, 11, 12, 13, 14, 15, 16, 17, 22, 27, 48, 65, 80, 137] hX ?_ | refine a6 [0, 1, 4, 5, 6, 7, 8, 9, 10, 11, 12, 13, 14, 15, 16, 17, 22, 27, 48, 65, 80, 137] hX mixed ?_ | refine aD ?_ | refine aA ?_ | refine aB ?_); (simp [go_sem]; (try simp (disch := omega) only [w64, td, tm]); try (refine ⟨by kernel_rfl, ?_⟩)))))
                    refine ⟨i, L2, Q.set i q, ⟨by omega, d1, d2, by simpa using hQ, d3, d4, d5, d6⟩, by omega, ?_⟩
                    refine aL _ [.old 0 ⟨3, 1, L2.map ii⟩, .old 1 ⟨3, 1, (Q.set i q).map ii⟩] (by simp [go_sem, hQi]) ?_
                    simp [go_sem]
end Go.Proofs.YtebinaffldlihaaGreatDoor
