import Derived.Test.YtebinaffldlihaaGreatDoorBigU
set_option linter.all false
namespace Go.Proofs.YtebinaffldlihaaGreatDoor
open Go.RowKit Go.Ab
attribute [local irreducible] AWP Go.Ab.Sub Means MeansH CallK CallG CallT CallGT
@[go_sem] theorem yL (a b : List UInt8) : ((⟨a.toArray⟩ : ByteArray) ++ ⟨b.toArray⟩) = ⟨(a ++ b).toArray⟩ := by
  apply ByteArray.ext; simp
@[go_sem] theorem sb_size (a : List UInt8) : (⟨a.toArray⟩ : ByteArray).size = a.length := by simp [ByteArray.size]
theorem wD : (1048576 : Int) ^ 60 < 100000 ^ 250 := by decide
set_option maxHeartbeats 4000000 in
set_option maxRecDepth 20000 in
theorem mC (z : Int) (hz : rz z) : Means false Tryz.prog 55 [bigZ z] (sb (txt z)) := by
  have hlz := bB hz
  have hab := aV z
  refine aK false 51 [.tmp 2] Tryz.func55 rfl rfl rfl (by simp) (by decide) rfl fun X hX => ?_
  (repeat (first | refine aC ?_ | refine a7 ?_ | ((first | refine a8 [0, 1, 2, 3, 4, 5, 6, 7, 8, 11, 16, 26, 43, 44, 46] hX ?_ | refine a6 [0, 1, 2, 3, 4, 5, 6, 7, 8, 11, 16, 26, 43, 44, 46] hX mixed ?_ | refine aD ?_ | refine aA ?_ | refine aB ?_); (simp [go_sem]; try (refine ⟨by kernel_rfl, ?_⟩)))))
  first | refine aE (aX z hz) rfl (by simp [go_sem]) rfl ?_ | refine aF (aX z hz) rfl (by simp [go_sem]) rfl ?_
  try (simp [go_sem]; try (refine ⟨by kernel_rfl, ?_⟩))
  refine aG (b := false) (by simp [go_sem]) (fun h => by cases h) (fun _ => ?_)
  (repeat (first | refine aC ?_ | refine a7 ?_ | ((first | refine a8 [0, 1, 2, 3, 4, 5, 6, 7, 8, 11, 16, 26, 43, 44, 46] hX ?_ | refine a6 [0, 1, 2, 3, 4, 5, 6, 7, 8, 11, 16, 26, 43, 44, 46] hX mixed ?_ | refine aD ?_ | refine aA ?_ | refine aB ?_); (simp [go_sem]; try (refine ⟨by kernel_rfl, ?_⟩)))))
  refine aQ (fun x : Int × List (List UInt8) => ⟨mkE [(1, .el 0 2 0 0), (3, .ow 1), (4, il (dg x.1))], [.row ⟨24, 2, [bigZ z]⟩, .row ⟨9, 1, x.2.map sb⟩]⟩)
    (fun x => 0 ≤ x.1 ∧ x.1 < 100000 ^ (250 - x.2.length) ∧ x.2.length ≤ 250 ∧ (∀ p ∈ x.2, p.length ≤ 5) ∧ (dg x.1).length ≤ 60 ∧ dn x.1 ++ x.2.reverse.flatten = dn (ab z)) (fun x => x.1.toNat) (ab z, []) ?_ ?_ ?_
  · refine aL _ [.old 0 ⟨24, 2, [bigZ z]⟩, .birth 9 1] (by simp [go_sem]) ?_
    simp [go_sem]
  · refine ⟨hab, ?_, by simp, by simp, hlz, by simp⟩
    have := wD
    unfold rz at hz
    simp only [List.length_nil, Nat.sub_zero]
    omega
  · rintro ⟨n, P⟩ ⟨hn, hnb, hP, hP5, hnl, hE⟩
    simp only [] at hn hnb hP hP5 hnl hE
    have hn0 : 0 < (dg n).length ↔ 0 < n := by rw [List.length_pos_iff, Ne, bF]; omega
    (repeat (first | refine aC ?_ | refine a7 ?_ | ((first | refine a8 [0, 1, 2, 3, 4, 5, 6, 7, 8, 11, 16, 26, 43, 44, 46] hX ?_ | refine a6 [0, 1, 2, 3, 4, 5, 6, 7, 8, 11, 16, 26, 43, 44, 46] hX mixed ?_ | refine aD ?_ | refine aA ?_ | refine aB ?_); (simp [go_sem]; (try simp (disch := omega) only [w64, td, tm]); try (refine ⟨by kernel_rfl, ?_⟩)))))
    refine aG (b := decide (0 < n)) (by
      simp only [← hn0]
      simp [go_sem]) (fun hd => ?_) (fun hd => ?_)
    · simp only [decide_eq_true_eq] at hd
      have hsh := j5 (dg n) 100000 (aN _) (by omega) (by decide) (by decide)
      rw [aU hn] at hsh
      have hcut := yM hd
      have hr0 : 0 ≤ n % 100000 := by omega
      have hr1 : n % 100000 ≤ 99999 := by omega
      have hi := yN (n % 100000) hr0 hr1
      have hq0 : 0 ≤ n / 100000 := by omega
      have hqn : 0 < (dg (n / 100000)).length ↔ 0 < n / 100000 := by rw [List.length_pos_iff, Ne, bF]; omega
      obtain ⟨p1, p2, p3⟩ := nW (r := (n % 100000).toNat) (by omega)
      simp only [dd] at p1 p2 p3 hcut hi
      generalize hS : Lib.decDigits (n % 100000).toNat = S at *
      (repeat (first | refine aC ?_ | refine a7 ?_ | ((first | refine a8 [0, 1, 2, 3, 4, 5, 6, 7, 8, 11, 16, 26, 43, 44, 46] hX ?_ | refine a6 [0, 1, 2, 3, 4, 5, 6, 7, 8, 11, 16, 26, 43, 44, 46] hX mixed ?_ | refine aD ?_ | refine aA ?_ | refine aB ?_); (simp [go_sem]; (try simp (disch := omega) only [w64, td, tm]); try (refine ⟨by kernel_rfl, ?_⟩)))))
      first | refine aE (hsh) rfl (by simp [go_sem]) rfl ?_ | refine aF (hsh) rfl (by simp [go_sem]) rfl ?_
      try (simp [go_sem]; try (refine ⟨by kernel_rfl, ?_⟩))
      (repeat (first | refine aC ?_ | refine a7 ?_ | ((first | refine a8 [0, 1, 2, 3, 4, 5, 6, 7, 8, 11, 16, 26, 43, 44, 46] hX ?_ | refine a6 [0, 1, 2, 3, 4, 5, 6, 7, 8, 11, 16, 26, 43, 44, 46] hX mixed ?_ | refine aD ?_ | refine aA ?_ | refine aB ?_); (simp [go_sem]; (try simp (disch := omega) only [w64, td, tm]); try (refine ⟨by kernel_rfl, ?_⟩)))))
      first | refine aE (hi) rfl (by simp [go_sem]) rfl ?_ | refine aF (hi) rfl (by simp [go_sem]) rfl ?_
      try (simp [go_sem]; try (refine ⟨by kernel_rfl, ?_⟩))
      (repeat (first | refine aC ?_ | refine a7 ?_ | ((first | refine a8 [0, 1, 2, 3, 4, 5, 6, 7, 8, 11, 16, 26, 43, 44, 46] hX ?_ | refine a6 [0, 1, 2, 3, 4, 5, 6, 7, 8, 11, 16, 26, 43, 44, 46] hX mixed ?_ | refine aD ?_ | refine aA ?_ | refine aB ?_); (simp [go_sem]; (try simp (disch := omega) only [w64, td, tm]); try (refine ⟨by kernel_rfl, ?_⟩)))))
      obtain ⟨S', hS'⟩ : ∃ S', S' = if 0 < n / 100000 then Lib.repeatL [48] (5 - S.length) ++ S else S := ⟨_, rfl⟩
      have hS5 : S'.length ≤ 5 := by
        rw [hS']
        split
        · rw [p3]; simp [five]
        · exact p2
      rw [← hS'] at hcut
      refine eL ⟨mkE [(1, .el 0 2 0 0), (3, .ow 1), (5, il (dg (n / 100000))), (7, sb S')], [.row ⟨24, 2, [bigZ z]⟩, .row ⟨9, 1, P.map sb⟩]⟩ ?_ ?_
      · refine aG (b := decide (0 < n / 100000)) (by
          simp only [← hqn]
          simp [go_sem]) (fun hb => ?_) (fun hb => ?_)
        · simp only [decide_eq_true_eq] at hb
          rw [if_pos hb] at hS'
          have hrep := uK (5 - S.length) (by omega)
          rw [show ((5 - S.length : Nat) : Int) = 5 - (S.length : Int) by omega] at hrep
          have hw := w64 (x := 5 - (S.length : Int)) (by omega) (by omega)
          have hlr : (Lib.repeatL [48] (5 - S.length)).length + S.length ≤ 5 := by rw [← List.length_append, ← hS']; exact hS5
          (repeat (first | refine aC ?_ | refine a7 ?_ | ((first | refine a8 [0, 1, 2, 3, 4, 5, 6, 7, 8, 11, 16, 26, 43, 44, 46] hX ?_ | refine a6 [0, 1, 2, 3, 4, 5, 6, 7, 8, 11, 16, 26, 43, 44, 46] hX mixed ?_ | refine aD ?_ | refine aA ?_ | refine aB ?_); (simp [go_sem, hw]; (try simp (disch := omega) only [w64, td, tm]); try (refine ⟨by kernel_rfl, ?_⟩)))))
          first | refine aE (hrep) rfl (by simp [go_sem]) rfl ?_ | refine aF (hrep) rfl (by simp [go_sem]) rfl ?_
          try (simp [go_sem]; try (refine ⟨by kernel_rfl, ?_⟩))
          refine ⟨by unfold maxLen; omega, ?_⟩
          refine aL _ [.old 0 ⟨24, 2, [bigZ z]⟩, .old 1 ⟨9, 1, P.map sb⟩] (by simp [go_sem]) ?_
          simp [go_sem, hS']
        · simp only [decide_eq_false_iff_not] at hb
          rw [if_neg hb] at hS'
          (repeat (first | refine aC ?_ | refine a7 ?_ | ((first | refine a8 [0, 1, 2, 3, 4, 5, 6, 7, 8, 11, 16, 26, 43, 44, 46] hX ?_ | refine a6 [0, 1, 2, 3, 4, 5, 6, 7, 8, 11, 16, 26, 43, 44, 46] hX mixed ?_ | refine aD ?_ | refine aA ?_ | refine aB ?_); (simp [go_sem]; try (refine ⟨by kernel_rfl, ?_⟩)))))
          refine aL _ [.old 0 ⟨24, 2, [bigZ z]⟩, .old 1 ⟨9, 1, P.map sb⟩] (by simp [go_sem]) ?_
          simp [go_sem, hS']
      · try (simp [go_sem]; try (refine ⟨by kernel_rfl, ?_⟩))
        (repeat (first | refine aC ?_ | refine a7 ?_ | ((first | refine a8 [0, 1, 2, 3, 4, 5, 6, 7, 8, 11, 16, 26, 43, 44, 46] hX ?_ | refine a6 [0, 1, 2, 3, 4, 5, 6, 7, 8, 11, 16, 26, 43, 44, 46] hX mixed ?_ | refine aD ?_ | refine aA ?_ | refine aB ?_); (simp [go_sem]; (try simp (disch := omega) only [w64, td, tm]); try (refine ⟨by kernel_rfl, ?_⟩)))))
        have hk : ∃ j, 250 - P.length = j + 1 := by
          refine ⟨250 - P.length - 1, ?_⟩
          by_cases h0 : 250 - P.length = 0
          · rw [h0] at hnb; simp at hnb; omega
          · omega
        obtain ⟨j, hj⟩ := hk
        rw [hj, Int.pow_succ] at hnb
        have hdq : n / 100000 ≤ n := by omega
        refine ⟨⟨by omega, by unfold maxLen; omega⟩, n / 100000, P ++ [S'], ⟨hq0, ?_, by simp; omega, ?_, Nat.le_trans (aW hdq) hnl, ?_⟩, by rw [Int.max_eq_left hq0]; omega, ?_⟩
        · rw [List.length_append, List.length_singleton, show 250 - (P.length + 1) = j by omega]; omega
        · intro p hp
          rcases List.mem_append.1 hp with hp | hp
          · exact hP5 p hp
          · rw [List.mem_singleton.1 hp]; exact hS5
        · rw [← hE, hcut]; simp
        · refine aL _ [.old 0 ⟨24, 2, [bigZ z]⟩, .old 3 ⟨9, 1, (P ++ [S']).map sb⟩] (by simp [go_sem]) ?_
          simp [go_sem]
    · have hn00 : n = 0 := by have := of_decide_eq_false hd; omega
      subst hn00
      have hdn0 : dn 0 = [] := rfl
      rw [hdn0, List.nil_append] at hE
      have hfl : P.reverse.flatten.length ≤ 5 * 250 := by
        have : ∀ Q : List (List UInt8), (∀ p ∈ Q, p.length ≤ 5) → Q.flatten.length ≤ 5 * Q.length := by
          intro Q
          induction Q with
          | nil => simp
          | cons q Q ih =>
            intro h
            have h1 := h q (by simp)
            have h2 := ih fun p hp => h p (by simp [hp])
            simp only [List.flatten_cons, List.length_append, List.length_cons]; omega
        have := this P.reverse (fun p hp => hP5 p (List.mem_reverse.1 hp))
        rw [List.length_reverse] at this
        omega
      have hrv := sJ P (by omega)
      have hjn := yO P.reverse (by omega) (by rw [List.length_reverse]; omega)
      rw [hE] at hjn hfl
      (repeat (first | refine aC ?_ | refine a7 ?_ | ((first | refine a8 [0, 1, 2, 3, 4, 5, 6, 7, 8, 11, 16, 26, 43, 44, 46] hX ?_ | refine a6 [0, 1, 2, 3, 4, 5, 6, 7, 8, 11, 16, 26, 43, 44, 46] hX mixed ?_ | refine aD ?_ | refine aA ?_ | refine aB ?_); (simp [go_sem]; (try simp (disch := omega) only [w64, td, tm]); try (refine ⟨by kernel_rfl, ?_⟩)))))
      first | refine b9 [1] (hrv) (by simp [go_sem]) ?_ | refine b6 [1] (hrv) (by simp [go_sem]) ?_ | refine b4 [1] (hrv) (by simp [go_sem]) ?_
      try (simp [go_sem]; try (refine ⟨by kernel_rfl, ?_⟩))
      (repeat (first | refine aC ?_ | refine a7 ?_ | ((first | refine a8 [0, 1, 2, 3, 4, 5, 6, 7, 8, 11, 16, 26, 43, 44, 46] hX ?_ | refine a6 [0, 1, 2, 3, 4, 5, 6, 7, 8, 11, 16, 26, 43, 44, 46] hX mixed ?_ | refine aD ?_ | refine aA ?_ | refine aB ?_); (simp [go_sem]; (try simp (disch := omega) only [w64, td, tm]); try (refine ⟨by kernel_rfl, ?_⟩)))))
      first | refine b9 [1] (hjn) (by simp [go_sem]) ?_ | refine b6 [1] (hjn) (by simp [go_sem]) ?_ | refine b4 [1] (hjn) (by simp [go_sem]) ?_
      try (simp [go_sem]; try (refine ⟨by kernel_rfl, ?_⟩))
      (repeat (first | refine aC ?_ | refine a7 ?_ | ((first | refine a8 [0, 1, 2, 3, 4, 5, 6, 7, 8, 11, 16, 26, 43, 44, 46] hX ?_ | refine a6 [0, 1, 2, 3, 4, 5, 6, 7, 8, 11, 16, 26, 43, 44, 46] hX mixed ?_ | refine aD ?_ | refine aA ?_ | refine aB ?_); (simp [go_sem]; (try simp (disch := omega) only [w64, td, tm]); try (refine ⟨by kernel_rfl, ?_⟩)))))
      have hdz : z ≠ 0 → dn (ab z) = dd z.natAbs := fun h => by
        unfold dn
        rw [if_neg (by rcases aJ z with h | h | h <;> omega), dO, Int.toNat_natCast]
      rcases aJ z with ⟨h1, h2, h3⟩ | ⟨h1, h2, h3⟩ | ⟨h1, h2, h3⟩
      · have ht : txt z = 45 :: dn (ab z) := by unfold txt; rw [if_neg (by omega), if_pos h2, hdz (by omega)]
        refine aG (b := false) (by simp [go_sem, h1]) (fun h => by cases h) (fun _ => ?_)
        (repeat (first | refine aC ?_ | refine a7 ?_ | ((first | refine a8 [0, 1, 2, 3, 4, 5, 6, 7, 8, 11, 16, 26, 43, 44, 46] hX ?_ | refine a6 [0, 1, 2, 3, 4, 5, 6, 7, 8, 11, 16, 26, 43, 44, 46] hX mixed ?_ | refine aD ?_ | refine aA ?_ | refine aB ?_); (simp [go_sem]; (try simp (disch := omega) only [w64, td, tm]); try (refine ⟨by kernel_rfl, ?_⟩)))))
        refine aG (b := true) (by simp [go_sem, h1]) (fun _ => ?_) (fun h => by cases h)
        (repeat (first | refine aC ?_ | refine a7 ?_ | ((first | refine a8 [0, 1, 2, 3, 4, 5, 6, 7, 8, 11, 16, 26, 43, 44, 46] hX ?_ | refine a6 [0, 1, 2, 3, 4, 5, 6, 7, 8, 11, 16, 26, 43, 44, 46] hX mixed ?_ | refine aD ?_ | refine aA ?_ | refine aB ?_); (simp [go_sem]; (try simp (disch := omega) only [w64, td, tm]); try (refine ⟨by kernel_rfl, ?_⟩)))))
        refine ⟨by unfold maxLen; omega, ?_⟩
        (repeat (first | refine aC ?_ | refine a7 ?_ | ((first | refine a8 [0, 1, 2, 3, 4, 5, 6, 7, 8, 11, 16, 26, 43, 44, 46] hX ?_ | refine a6 [0, 1, 2, 3, 4, 5, 6, 7, 8, 11, 16, 26, 43, 44, 46] hX mixed ?_ | refine aD ?_ | refine aA ?_ | refine aB ?_); (simp [go_sem, ht]; try (refine ⟨by kernel_rfl, ?_⟩)))))
      · have ht : txt z = [48] := by unfold txt; rw [if_pos h2]
        refine aG (b := true) (by simp [go_sem, h1]) (fun _ => ?_) (fun h => by cases h)
        (repeat (first | refine aC ?_ | refine a7 ?_ | ((first | refine a8 [0, 1, 2, 3, 4, 5, 6, 7, 8, 11, 16, 26, 43, 44, 46] hX ?_ | refine a6 [0, 1, 2, 3, 4, 5, 6, 7, 8, 11, 16, 26, 43, 44, 46] hX mixed ?_ | refine aD ?_ | refine aA ?_ | refine aB ?_); (simp [go_sem, ht]; try (refine ⟨by kernel_rfl, ?_⟩)))))
      · have ht : txt z = dn (ab z) := by unfold txt; rw [if_neg (by omega), if_neg (by omega), hdz (by omega)]
        refine aG (b := false) (by simp [go_sem, h1]) (fun h => by cases h) (fun _ => ?_)
        (repeat (first | refine aC ?_ | refine a7 ?_ | ((first | refine a8 [0, 1, 2, 3, 4, 5, 6, 7, 8, 11, 16, 26, 43, 44, 46] hX ?_ | refine a6 [0, 1, 2, 3, 4, 5, 6, 7, 8, 11, 16, 26, 43, 44, 46] hX mixed ?_ | refine aD ?_ | refine aA ?_ | refine aB ?_); (simp [go_sem]; (try simp (disch := omega) only [w64, td, tm]); try (refine ⟨by kernel_rfl, ?_⟩)))))
        refine aG (b := false) (by simp [go_sem, h1]) (fun h => by cases h) (fun _ => ?_)
        (repeat (first | refine aC ?_ | refine a7 ?_ | ((first | refine a8 [0, 1, 2, 3, 4, 5, 6, 7, 8, 11, 16, 26, 43, 44, 46] hX ?_ | refine a6 [0, 1, 2, 3, 4, 5, 6, 7, 8, 11, 16, 26, 43, 44, 46] hX mixed ?_ | refine aD ?_ | refine aA ?_ | refine aB ?_); (simp [go_sem, ht]; (try simp (disch := omega) only [w64, td, tm]); try (refine ⟨by kernel_rfl, ?_⟩)))))
end Go.Proofs.YtebinaffldlihaaGreatDoor
