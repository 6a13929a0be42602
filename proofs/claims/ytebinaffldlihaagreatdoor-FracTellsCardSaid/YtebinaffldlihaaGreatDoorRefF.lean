import Derived.Test.YtebinaffldlihaaGreatDoorRefA
import Derived.Test.YtebinaffldlihaaGreatDoorBigM
set_option linter.all false
namespace Go.Proofs.YtebinaffldlihaaGreatDoor
open Go.RowKit Go.Ab
attribute [local irreducible] AWP Go.Ab.Sub Means MeansH CallK CallG CallT CallGT CallU
theorem wG (s : Int) (L : List Int) (hl : L.length ≤ 60) : Means false Tryz.prog 61 [big2 s L] (.tup [big2 s L, ii 0]) := by
  refine aK false 10 [.cell 2 24, .tmp 3] Tryz.func61 rfl rfl rfl (by simp) (by decide) rfl fun X hX => ?_
  (repeat (first | refine aC ?_ | refine a7 ?_ | ((first | refine a8 [0, 1, 2, 3, 7] hX ?_ | refine a6 [0, 1, 2, 3, 7] hX mixed ?_ | refine aD ?_ | refine aA ?_ | refine aB ?_); (simp [go_sem]; try (refine ⟨by kernel_rfl, ?_⟩)))))
  refine aG (b := false) (by simp [go_sem]; try omega) (fun h => by cases h) (fun _ => ?_)
  (repeat (first | refine aC ?_ | refine a7 ?_ | ((first | refine a8 [0, 1, 2, 3, 7] hX ?_ | refine a6 [0, 1, 2, 3, 7] hX mixed ?_ | refine aD ?_ | refine aA ?_ | refine aB ?_); (simp [go_sem]; try (refine ⟨by kernel_rfl, ?_⟩)))))
theorem wH (s : Int) (L : List Int) (hl : ¬ L.length ≤ 60) (hl2 : L.length ≤ 100000) : Means false Tryz.prog 61 [big2 s L] (.tup [big2 0 [], ii 6]) := by
  refine aK false 10 [.cell 2 24, .tmp 3] Tryz.func61 rfl rfl rfl (by simp) (by decide) rfl fun X hX => ?_
  (repeat (first | refine aC ?_ | refine a7 ?_ | ((first | refine a8 [0, 1, 2, 3, 7] hX ?_ | refine a6 [0, 1, 2, 3, 7] hX mixed ?_ | refine aD ?_ | refine aA ?_ | refine aB ?_); (simp [go_sem]; try (refine ⟨by kernel_rfl, ?_⟩)))))
  refine aG (b := true) (by simp [go_sem]; try omega) (fun _ => ?_) (fun h => by cases h)
  (repeat (first | refine aC ?_ | refine a7 ?_ | ((first | refine a8 [0, 1, 2, 3, 7] hX ?_ | refine a6 [0, 1, 2, 3, 7] hX mixed ?_ | refine aD ?_ | refine aA ?_ | refine aB ?_); (simp [go_sem]; try (refine ⟨by kernel_rfl, ?_⟩)))))
set_option maxHeartbeats 4000000 in
set_option maxRecDepth 20000 in
theorem dR (s : Int) (L : List Int) (hl : L.length ≤ 9223372036854775807) : Means false Tryz.prog 47 [big2 s L] (bb (decide (isR s L))) := by
  refine aK false 60 [.tmp 2] Tryz.func47 rfl rfl rfl (by simp) (by decide) rfl fun X hX => ?_
  (repeat (first | refine aC ?_ | refine a7 ?_ | ((first | refine a8 [0, 1, 2, 3, 4, 9, 25, 48] hX ?_ | refine a6 [0, 1, 2, 3, 4, 9, 25, 48] hX mixed ?_ | refine aD ?_ | refine aA ?_ | refine aB ?_); (simp [go_sem]; try (refine ⟨by kernel_rfl, ?_⟩)))))
  refine aQ (fun n : Nat => ⟨mkE [(1, .el 0 2 0 0), (3, ii n)], [.row ⟨24, 2, [big2 s L]⟩]⟩) (fun n => n ≤ L.length ∧ okD (L.take n)) (fun n => L.length - n) 0 ?_ ?_ ?_
  · refine aL _ [.old 0 ⟨24, 2, [big2 s L]⟩] (by simp [go_sem]) ?_
    simp [go_sem]
  · exact ⟨Nat.zero_le _, by simp [okD]⟩
  · rintro n ⟨hn, hok⟩
    (repeat (first | refine aC ?_ | refine a7 ?_ | ((first | refine a8 [0, 1, 2, 3, 4, 9, 25, 48] hX ?_ | refine a6 [0, 1, 2, 3, 4, 9, 25, 48] hX mixed ?_ | refine aD ?_ | refine aA ?_ | refine aB ?_); (simp [go_sem]; try (refine ⟨by kernel_rfl, ?_⟩)))))
    refine aG (b := decide (n < L.length)) (by simp [go_sem]) (fun hd => ?_) (fun hd => ?_)
    · simp at hd
      (repeat (first | refine aC ?_ | refine a7 ?_ | ((first | refine a8 [0, 1, 2, 3, 4, 9, 25, 48] hX ?_ | refine a6 [0, 1, 2, 3, 4, 9, 25, 48] hX mixed ?_ | refine aD ?_ | refine aA ?_ | refine aB ?_); (simp [go_sem, hd]; try (refine ⟨by kernel_rfl, ?_⟩)))))
      refine aG (b := decide (L[n] < 0) || decide (1048576 ≤ L[n])) (by simp [go_sem, hd]; try omega) (fun hf => ?_) (fun hf => ?_)
      · have hf : L[n] < 0 ∨ 1048576 ≤ L[n] := by simpa using hf
        have hno : ¬ isR s L := fun h => by have := b7 h.1 hd; omega
        (repeat (first | refine aC ?_ | refine a7 ?_ | ((first | refine a8 [0, 1, 2, 3, 4, 9, 25, 48] hX ?_ | refine a6 [0, 1, 2, 3, 4, 9, 25, 48] hX mixed ?_ | refine aD ?_ | refine aA ?_ | refine aB ?_); (simp [go_sem, hno]; try (refine ⟨by kernel_rfl, ?_⟩)))))
      · have hf : ¬ (L[n] < 0 ∨ 1048576 ≤ L[n]) := by simpa using hf
        (repeat (first | refine aC ?_ | refine a7 ?_ | ((first | refine a8 [0, 1, 2, 3, 4, 9, 25, 48] hX ?_ | refine a6 [0, 1, 2, 3, 4, 9, 25, 48] hX mixed ?_ | refine aD ?_ | refine aA ?_ | refine aB ?_); (simp [go_sem]; (try simp (disch := omega) only [w64, td, tm]); try (refine ⟨by kernel_rfl, ?_⟩)))))
        refine ⟨n + 1, ⟨by omega, ?_⟩, by omega, ?_⟩
        · rw [List.take_succ_eq_append_getElem hd]
          exact cT.2 ⟨hok, by simp [okD]; omega⟩
        · refine aL _ [.old 0 ⟨24, 2, [big2 s L]⟩] (by simp [go_sem]) ?_
          simp [go_sem]
    · have hnl : n = L.length := by simp at hd; omega
      subst hnl
      rw [List.take_length] at hok
      by_cases h0 : L.length = 0
      · have hL : L = [] := List.length_eq_zero_iff.1 h0
        subst hL
        by_cases hs : s = 0
        · subst hs
          have e : isR 0 ([] : List Int) := ⟨c6, fun _ => rfl, fun h => absurd h (by simp)⟩
          (repeat (first | refine aC ?_ | refine a7 ?_ | ((first | refine a8 [0, 1, 2, 3, 4, 9, 25, 48] hX ?_ | refine a6 [0, 1, 2, 3, 4, 9, 25, 48] hX mixed ?_ | refine aD ?_ | refine aA ?_ | refine aB ?_); (simp [go_sem, e]; try (refine ⟨by kernel_rfl, ?_⟩)))))
          refine aG (b := false) (by simp [go_sem]) (fun h => by cases h) (fun _ => ?_)
          (repeat (first | refine aC ?_ | refine a7 ?_ | ((first | refine a8 [0, 1, 2, 3, 4, 9, 25, 48] hX ?_ | refine a6 [0, 1, 2, 3, 4, 9, 25, 48] hX mixed ?_ | refine aD ?_ | refine aA ?_ | refine aB ?_); (simp [go_sem, e]; try (refine ⟨by kernel_rfl, ?_⟩)))))
        · have e : ¬ isR s [] := fun h => hs (h.2.1 rfl)
          (repeat (first | refine aC ?_ | refine a7 ?_ | ((first | refine a8 [0, 1, 2, 3, 4, 9, 25, 48] hX ?_ | refine a6 [0, 1, 2, 3, 4, 9, 25, 48] hX mixed ?_ | refine aD ?_ | refine aA ?_ | refine aB ?_); (simp [go_sem, e]; try (refine ⟨by kernel_rfl, ?_⟩)))))
          refine aG (b := true) (by simp [go_sem, hs]) (fun _ => ?_) (fun h => by cases h)
          (repeat (first | refine aC ?_ | refine a7 ?_ | ((first | refine a8 [0, 1, 2, 3, 4, 9, 25, 48] hX ?_ | refine a6 [0, 1, 2, 3, 4, 9, 25, 48] hX mixed ?_ | refine aD ?_ | refine aA ?_ | refine aB ?_); (simp [go_sem, e]; try (refine ⟨by kernel_rfl, ?_⟩)))))
      · have hp : 0 < L.length := by omega
        by_cases h1 : (s = 1 ∨ s = -1) ∧ L.length ≤ 60
        · have hi : L.length - 1 < L.length := by omega
          have hw := w64 (x := (L.length : Int) - 1) (by omega) (by omega)
          have ht : ((L.length : Int) - 1).toNat = L.length - 1 := by omega
          have e : isR s L ↔ L[L.length - 1] ≠ 0 := ⟨fun h => (h.2.2 hp).2.2, fun h => ⟨hok, fun q => absurd q h0, fun _ => ⟨h1.1, h1.2, h⟩⟩⟩
          (repeat (first | refine aC ?_ | refine a7 ?_ | ((first | refine a8 [0, 1, 2, 3, 4, 9, 25, 48] hX ?_ | refine a6 [0, 1, 2, 3, 4, 9, 25, 48] hX mixed ?_ | refine aD ?_ | refine aA ?_ | refine aB ?_); (simp [go_sem, h0]; try (refine ⟨by kernel_rfl, ?_⟩)))))
          refine aG (b := false) (by simp [go_sem, h0]; omega) (fun h => by cases h) (fun _ => ?_)
          (repeat (first | refine aC ?_ | refine a7 ?_ | ((first | refine a8 [0, 1, 2, 3, 4, 9, 25, 48] hX ?_ | refine a6 [0, 1, 2, 3, 4, 9, 25, 48] hX mixed ?_ | refine aD ?_ | refine aA ?_ | refine aB ?_); (simp [go_sem, h0, hw, ht, hi, e]; try (refine ⟨by kernel_rfl, ?_⟩)))))
          try (repeat refine And.intro (by first | omega | (unfold maxLen; omega) | kernel_rfl | (refine ⟨by first | omega | (unfold maxLen; omega), by first | omega | (unfold maxLen; omega)⟩) | grind) ?_)
          try (repeat (first | refine aC ?_ | refine a7 ?_ | ((first | refine a8 [0, 1, 2, 3, 4, 9, 25, 48] hX ?_ | refine a6 [0, 1, 2, 3, 4, 9, 25, 48] hX mixed ?_ | refine aD ?_ | refine aA ?_ | refine aB ?_); (simp [go_sem, h0, hw, ht, hi, e]; try (refine ⟨by kernel_rfl, ?_⟩)))))
        · have e : ¬ isR s L := fun h => h1 ⟨(h.2.2 hp).1, (h.2.2 hp).2.1⟩
          (repeat (first | refine aC ?_ | refine a7 ?_ | ((first | refine a8 [0, 1, 2, 3, 4, 9, 25, 48] hX ?_ | refine a6 [0, 1, 2, 3, 4, 9, 25, 48] hX mixed ?_ | refine aD ?_ | refine aA ?_ | refine aB ?_); (simp [go_sem, h0]; try (refine ⟨by kernel_rfl, ?_⟩)))))
          refine aG (b := true) (by simp [go_sem, h0]; omega) (fun _ => ?_) (fun h => by cases h)
          (repeat (first | refine aC ?_ | refine a7 ?_ | ((first | refine a8 [0, 1, 2, 3, 4, 9, 25, 48] hX ?_ | refine a6 [0, 1, 2, 3, 4, 9, 25, 48] hX mixed ?_ | refine aD ?_ | refine aA ?_ | refine aB ?_); (simp [go_sem, e]; try (refine ⟨by kernel_rfl, ?_⟩)))))
theorem aO (z : Int) (h : rz z) : Means false Tryz.prog 47 [bigZ z] (bb true) := by
  have := dR (sg z) (dg (ab z)) (by have := bB h; omega)
  have e : decide (isR (sg z) (dg (ab z))) = true := decide_eq_true (iA h)
  rwa [e] at this
set_option maxHeartbeats 4000000 in
set_option maxRecDepth 20000 in
theorem zX (n : Int) (hn : 0 ≤ n ∧ n ≤ 9223372036854775807) : Means false Tryz.prog 40 [ii n] (bigZ n) := by
  have hab := aV n
  have hae : ab n = n := by unfold ab; rw [if_neg (by omega)]
  have hlo : (dg (ab n)).length ≤ 4 := by
    rw [aP]
    have : (1048576 : Int) ^ 4 = 1208925819614629174706176 := by decide
    omega
  by_cases h0 : n = 0
  · subst h0
    refine aK false 28 [.cell 2 24] Tryz.func40 rfl rfl rfl (by simp) (by decide) rfl fun X hX => ?_
    (repeat (first | refine aC ?_ | refine a7 ?_ | ((first | refine a8 [0, 2, 3, 4, 5, 7, 10, 12, 16] hX ?_ | refine a6 [0, 2, 3, 4, 5, 7, 10, 12, 16] hX mixed ?_ | refine aD ?_ | refine aA ?_ | refine aB ?_); (simp [go_sem]; try (refine ⟨by kernel_rfl, ?_⟩)))))
    refine aG (b := true) (by simp [go_sem]) (fun _ => ?_) (fun h => by cases h)
    (repeat (first | refine aC ?_ | refine a7 ?_ | ((first | refine a8 [0, 2, 3, 4, 5, 7, 10, 12, 16] hX ?_ | refine a6 [0, 2, 3, 4, 5, 7, 10, 12, 16] hX mixed ?_ | refine aD ?_ | refine aA ?_ | refine aB ?_); (simp [go_sem]; try (refine ⟨by kernel_rfl, ?_⟩)))))
    rfl
  · have hsg : sg n = 1 := by rcases aJ n with h | h | h <;> omega
    refine aK false 28 [.cell 2 24] Tryz.func40 rfl rfl rfl (by simp) (by decide) rfl fun X hX => ?_
    (repeat (first | refine aC ?_ | refine a7 ?_ | ((first | refine a8 [0, 2, 3, 4, 5, 7, 10, 12, 16] hX ?_ | refine a6 [0, 2, 3, 4, 5, 7, 10, 12, 16] hX mixed ?_ | refine aD ?_ | refine aA ?_ | refine aB ?_); (simp [go_sem]; try (refine ⟨by kernel_rfl, ?_⟩)))))
    refine aG (b := false) (by simp [go_sem, h0]) (fun h => by cases h) (fun _ => ?_)
    (repeat (first | refine aC ?_ | refine a7 ?_ | ((first | refine a8 [0, 2, 3, 4, 5, 7, 10, 12, 16] hX ?_ | refine a6 [0, 2, 3, 4, 5, 7, 10, 12, 16] hX mixed ?_ | refine aD ?_ | refine aA ?_ | refine aB ?_); (simp [go_sem]; try (refine ⟨by kernel_rfl, ?_⟩)))))
    refine aG (b := false) (by simp [go_sem]; omega) (fun h => by cases h) (fun _ => ?_)
    (repeat (first | refine aC ?_ | refine a7 ?_ | ((first | refine a8 [0, 2, 3, 4, 5, 7, 10, 12, 16] hX ?_ | refine a6 [0, 2, 3, 4, 5, 7, 10, 12, 16] hX mixed ?_ | refine aD ?_ | refine aA ?_ | refine aB ?_); (simp [go_sem]; try (refine ⟨by kernel_rfl, ?_⟩)))))
    refine aQ (fun x : Int × List Int => ⟨mkE [(0, ii x.1), (2, .el 0 2 0 0), (3, ii 1), (4, .ow 1)], [.row ⟨24, 2, [.agg [ii 0, .nil]]⟩, rowI x.2]⟩)
      (fun x => 0 ≤ x.1 ∧ x.1 ≤ 9223372036854775807 ∧ x.2 ++ dg x.1 = dg (ab n)) (fun x => x.1.toNat) (n, []) ?_ ?_ ?_
    · refine aL _ [.old 0 ⟨24, 2, [.agg [ii 0, .nil]]⟩, .birth 3 1] (by simp [go_sem]) ?_
      simp [go_sem]
    · exact ⟨hn.1, hn.2, by simp [hae]⟩
    · rintro ⟨u, L⟩ ⟨hu, hu2, hE⟩
      simp only [] at hu hu2 hE
      (repeat (first | refine aC ?_ | refine a7 ?_ | ((first | refine a8 [0, 2, 3, 4, 5, 7, 10, 12, 16] hX ?_ | refine a6 [0, 2, 3, 4, 5, 7, 10, 12, 16] hX mixed ?_ | refine aD ?_ | refine aA ?_ | refine aB ?_); (simp [go_sem]; try (refine ⟨by kernel_rfl, ?_⟩)))))
      refine aG (b := decide (u ≠ 0)) (by simp [go_sem]) (fun hd => ?_) (fun hd => ?_)
      · simp only [decide_eq_true_eq] at hd
        have hm : u.tmod 1048576 = u % 1048576 := Int.tmod_eq_emod_of_nonneg hu
        have hq : u.tdiv 1048576 = u / 1048576 := Int.tdiv_eq_ediv_of_nonneg hu
        have hLl : L.length ≤ 4 := by have := congrArg List.length hE; simp at this; omega
        obtain ⟨r, hr⟩ : ∃ r, u % 1048576 = r := ⟨_, rfl⟩
        obtain ⟨q, hqe⟩ : ∃ q, u / 1048576 = q := ⟨_, rfl⟩
        have hdg := dP (n := u) (by omega)
        rw [hr, hqe] at hdg
        rw [hr] at hm
        rw [hqe] at hq
        have w1 := w64 (x := r) (by omega) (by omega)
        have w2 := w64 (x := q) (by omega) (by omega)
        (repeat (first | refine aC ?_ | refine a7 ?_ | ((first | refine a8 [0, 2, 3, 4, 5, 7, 10, 12, 16] hX ?_ | refine a6 [0, 2, 3, 4, 5, 7, 10, 12, 16] hX mixed ?_ | refine aD ?_ | refine aA ?_ | refine aB ?_); (simp [go_sem, hm, w1]; try (refine ⟨by kernel_rfl, ?_⟩)))))
        refine aG (b := false) (by simp [go_sem]; omega) (fun h => by cases h) (fun _ => ?_)
        (repeat (first | refine aC ?_ | refine a7 ?_ | ((first | refine a8 [0, 2, 3, 4, 5, 7, 10, 12, 16] hX ?_ | refine a6 [0, 2, 3, 4, 5, 7, 10, 12, 16] hX mixed ?_ | refine aD ?_ | refine aA ?_ | refine aB ?_); (simp [go_sem, hq, w2]; try (refine ⟨by kernel_rfl, ?_⟩)))))
        try (repeat refine And.intro (by first | omega | (unfold maxLen; omega) | kernel_rfl | (refine ⟨by first | omega | (unfold maxLen; omega), by first | omega | (unfold maxLen; omega)⟩) | grind) ?_)
        try (repeat (first | refine aC ?_ | refine a7 ?_ | ((first | refine a8 [0, 2, 3, 4, 5, 7, 10, 12, 16] hX ?_ | refine a6 [0, 2, 3, 4, 5, 7, 10, 12, 16] hX mixed ?_ | refine aD ?_ | refine aA ?_ | refine aB ?_); (simp [go_sem, hq, w2]; try (refine ⟨by kernel_rfl, ?_⟩)))))
        refine ⟨q, L ++ [r], ⟨by omega, by omega, by rw [← hE, hdg]; simp⟩, by omega, ?_⟩
        refine aL _ [.old 0 ⟨24, 2, [.agg [ii 0, .nil]]⟩, .old 3 ⟨3, 1, (L ++ [r]).map ii⟩] (by simp [go_sem]) ?_
        simp [go_sem]
      · simp only [decide_eq_false_iff_not, Classical.not_not] at hd
        subst hd
        rw [dU, List.append_nil] at hE
        have hmd := jA 1 L (by rw [hE]; omega) (by rw [hE]; exact aN _)
        have e1 : (if val L = 0 then 0 else 1) = sg n := by rw [hE, aR, if_neg (by omega), hsg]
        rw [e1, hE, aR] at hmd
        rw [← hE] at hmd
        (repeat (first | refine aC ?_ | refine a7 ?_ | ((first | refine a8 [0, 2, 3, 4, 5, 7, 10, 12, 16] hX ?_ | refine a6 [0, 2, 3, 4, 5, 7, 10, 12, 16] hX mixed ?_ | refine aD ?_ | refine aA ?_ | refine aB ?_); (simp [go_sem]; try (refine ⟨by kernel_rfl, ?_⟩)))))
        refine eO (hmd) rfl rfl ?_
        try (simp [go_sem]; try (refine ⟨by kernel_rfl, ?_⟩))
        (repeat (first | refine aC ?_ | refine a7 ?_ | ((first | refine a8 [0, 2, 3, 4, 5, 7, 10, 12, 16] hX ?_ | refine a6 [0, 2, 3, 4, 5, 7, 10, 12, 16] hX mixed ?_ | refine aD ?_ | refine aA ?_ | refine aB ?_); (simp [go_sem]; try (refine ⟨by kernel_rfl, ?_⟩)))))
        try simp [hE]
set_option maxHeartbeats 4000000 in
set_option maxRecDepth 20000 in
theorem zY (n : Int) (hn : -9223372036854775808 ≤ n ∧ n < 0) : Means false Tryz.prog 40 [ii n] (bigZ n) := by
  have hab := aV n
  have hae : ab n = -n := by unfold ab; rw [if_pos (by omega)]
  have hlo : (dg (ab n)).length ≤ 4 := by
    rw [aP]
    have : (1048576 : Int) ^ 4 = 1208925819614629174706176 := by decide
    omega
  have h0 : n ≠ 0 := by omega
  have hsg : sg n = -1 := by rcases aJ n with h | h | h <;> omega
  refine aK false 28 [.cell 2 24] Tryz.func40 rfl rfl rfl (by simp) (by decide) rfl fun X hX => ?_
  (repeat (first | refine aC ?_ | refine a7 ?_ | ((first | refine a8 [0, 2, 3, 4, 5, 7, 10, 12, 16] hX ?_ | refine a6 [0, 2, 3, 4, 5, 7, 10, 12, 16] hX mixed ?_ | refine aD ?_ | refine aA ?_ | refine aB ?_); (simp [go_sem]; try (refine ⟨by kernel_rfl, ?_⟩)))))
  refine aG (b := false) (by simp [go_sem, h0]) (fun h => by cases h) (fun _ => ?_)
  (repeat (first | refine aC ?_ | refine a7 ?_ | ((first | refine a8 [0, 2, 3, 4, 5, 7, 10, 12, 16] hX ?_ | refine a6 [0, 2, 3, 4, 5, 7, 10, 12, 16] hX mixed ?_ | refine aD ?_ | refine aA ?_ | refine aB ?_); (simp [go_sem]; try (refine ⟨by kernel_rfl, ?_⟩)))))
  refine aG (b := true) (by simp [go_sem]; omega) (fun _ => ?_) (fun h => by cases h)
  (repeat (first | refine aC ?_ | refine a7 ?_ | ((first | refine a8 [0, 2, 3, 4, 5, 7, 10, 12, 16] hX ?_ | refine a6 [0, 2, 3, 4, 5, 7, 10, 12, 16] hX mixed ?_ | refine aD ?_ | refine aA ?_ | refine aB ?_); (simp [go_sem]; try (refine ⟨by kernel_rfl, ?_⟩)))))
  refine aQ (fun x : Int × List Int => ⟨mkE [(0, ii (-x.1)), (2, .el 0 2 0 0), (3, ii (-1)), (4, .ow 1)], [.row ⟨24, 2, [.agg [ii 0, .nil]]⟩, rowI x.2]⟩)
    (fun x => 0 ≤ x.1 ∧ x.1 ≤ 9223372036854775808 ∧ x.2 ++ dg x.1 = dg (ab n)) (fun x => x.1.toNat) (-n, []) ?_ ?_ ?_
  · refine aL _ [.old 0 ⟨24, 2, [.agg [ii 0, .nil]]⟩, .birth 3 1] (by simp [go_sem]) ?_
    simp [go_sem]
  · exact ⟨by show 0 ≤ -n; omega, by show -n ≤ _; omega, by simp [hae]⟩
  · rintro ⟨u, L⟩ ⟨hu, hu2, hE⟩
    simp only [] at hu hu2 hE
    (repeat (first | refine aC ?_ | refine a7 ?_ | ((first | refine a8 [0, 2, 3, 4, 5, 7, 10, 12, 16] hX ?_ | refine a6 [0, 2, 3, 4, 5, 7, 10, 12, 16] hX mixed ?_ | refine aD ?_ | refine aA ?_ | refine aB ?_); (simp [go_sem]; try (refine ⟨by kernel_rfl, ?_⟩)))))
    refine aG (b := decide (u ≠ 0)) (by simp [go_sem]; try omega) (fun hd => ?_) (fun hd => ?_)
    · simp only [decide_eq_true_eq] at hd
      have hm : u.tmod 1048576 = u % 1048576 := Int.tmod_eq_emod_of_nonneg hu
      have hq : u.tdiv 1048576 = u / 1048576 := Int.tdiv_eq_ediv_of_nonneg hu
      have hLl : L.length ≤ 4 := by have := congrArg List.length hE; simp at this; omega
      obtain ⟨r, hr⟩ : ∃ r, u % 1048576 = r := ⟨_, rfl⟩
      obtain ⟨q, hqe⟩ : ∃ q, u / 1048576 = q := ⟨_, rfl⟩
      have hdg := dP (n := u) (by omega)
      rw [hr, hqe] at hdg
      rw [hr] at hm
      rw [hqe] at hq
      have hm2 : (-u).tmod 1048576 = -r := by rw [Int.neg_tmod, hm]
      have hq2 : (-u).tdiv 1048576 = -q := by rw [Int.neg_tdiv, hq]
      have w1 := w64 (x := r) (by omega) (by omega)
      have w1n := w64 (x := -r) (by omega) (by omega)
      have w2 := w64 (x := -q) (by omega) (by omega)
      (repeat (first | refine aC ?_ | refine a7 ?_ | ((first | refine a8 [0, 2, 3, 4, 5, 7, 10, 12, 16] hX ?_ | refine a6 [0, 2, 3, 4, 5, 7, 10, 12, 16] hX mixed ?_ | refine aD ?_ | refine aA ?_ | refine aB ?_); (simp [go_sem, hm2, hm, w1n, w1]; try (refine ⟨by kernel_rfl, ?_⟩)))))
      refine aG (b := decide (0 < r)) (by simp [go_sem]; try omega) (fun hs => ?_) (fun hs => ?_)
      · (repeat (first | refine aC ?_ | refine a7 ?_ | ((first | refine a8 [0, 2, 3, 4, 5, 7, 10, 12, 16] hX ?_ | refine a6 [0, 2, 3, 4, 5, 7, 10, 12, 16] hX mixed ?_ | refine aD ?_ | refine aA ?_ | refine aB ?_); (simp [go_sem, hq2, hq, w2, w1]; try (refine ⟨by kernel_rfl, ?_⟩)))))
        try (repeat refine And.intro (by first | omega | (unfold maxLen; omega) | kernel_rfl | (refine ⟨by first | omega | (unfold maxLen; omega), by first | omega | (unfold maxLen; omega)⟩) | grind) ?_)
        try (repeat (first | refine aC ?_ | refine a7 ?_ | ((first | refine a8 [0, 2, 3, 4, 5, 7, 10, 12, 16] hX ?_ | refine a6 [0, 2, 3, 4, 5, 7, 10, 12, 16] hX mixed ?_ | refine aD ?_ | refine aA ?_ | refine aB ?_); (simp [go_sem, hq2, hq, w2, w1]; try (refine ⟨by kernel_rfl, ?_⟩)))))
        refine ⟨q, L ++ [r], ⟨by omega, by omega, by rw [← hE, hdg]; simp⟩, by omega, ?_⟩
        refine aL _ [.old 0 ⟨24, 2, [.agg [ii 0, .nil]]⟩, .old 3 ⟨3, 1, (L ++ [r]).map ii⟩] (by simp [go_sem]) ?_
        simp [go_sem]
      · have hr0 : r = 0 := by simp at hs; omega
        subst hr0
        (repeat (first | refine aC ?_ | refine a7 ?_ | ((first | refine a8 [0, 2, 3, 4, 5, 7, 10, 12, 16] hX ?_ | refine a6 [0, 2, 3, 4, 5, 7, 10, 12, 16] hX mixed ?_ | refine aD ?_ | refine aA ?_ | refine aB ?_); (simp [go_sem, hq2, hq, w2]; try (refine ⟨by kernel_rfl, ?_⟩)))))
        try (repeat refine And.intro (by first | omega | (unfold maxLen; omega) | kernel_rfl | (refine ⟨by first | omega | (unfold maxLen; omega), by first | omega | (unfold maxLen; omega)⟩) | grind) ?_)
        try (repeat (first | refine aC ?_ | refine a7 ?_ | ((first | refine a8 [0, 2, 3, 4, 5, 7, 10, 12, 16] hX ?_ | refine a6 [0, 2, 3, 4, 5, 7, 10, 12, 16] hX mixed ?_ | refine aD ?_ | refine aA ?_ | refine aB ?_); (simp [go_sem, hq2, hq, w2]; try (refine ⟨by kernel_rfl, ?_⟩)))))
        refine ⟨q, L ++ [(0 : Int)], ⟨by omega, by omega, by rw [← hE, hdg]; simp⟩, by omega, ?_⟩
        refine aL _ [.old 0 ⟨24, 2, [.agg [ii 0, .nil]]⟩, .old 3 ⟨3, 1, (L ++ [(0 : Int)]).map ii⟩] (by simp [go_sem]) ?_
        simp [go_sem]
    · simp only [decide_eq_false_iff_not, Classical.not_not] at hd
      subst hd
      rw [dU, List.append_nil] at hE
      have hmd := jA (-1) L (by rw [hE]; omega) (by rw [hE]; exact aN _)
      have e1 : (if val L = 0 then 0 else -1) = sg n := by rw [hE, aR, if_neg (by omega), hsg]
      rw [e1, hE, aR] at hmd
      rw [← hE] at hmd
      (repeat (first | refine aC ?_ | refine a7 ?_ | ((first | refine a8 [0, 2, 3, 4, 5, 7, 10, 12, 16] hX ?_ | refine a6 [0, 2, 3, 4, 5, 7, 10, 12, 16] hX mixed ?_ | refine aD ?_ | refine aA ?_ | refine aB ?_); (simp [go_sem]; try (refine ⟨by kernel_rfl, ?_⟩)))))
      refine eO (hmd) rfl rfl ?_
      try (simp [go_sem]; try (refine ⟨by kernel_rfl, ?_⟩))
      (repeat (first | refine aC ?_ | refine a7 ?_ | ((first | refine a8 [0, 2, 3, 4, 5, 7, 10, 12, 16] hX ?_ | refine a6 [0, 2, 3, 4, 5, 7, 10, 12, 16] hX mixed ?_ | refine aD ?_ | refine aA ?_ | refine aB ?_); (simp [go_sem]; try (refine ⟨by kernel_rfl, ?_⟩)))))
      try simp [hE]
theorem lM (n : Int) (hn : -9223372036854775808 ≤ n ∧ n ≤ 9223372036854775807) : Means false Tryz.prog 40 [ii n] (bigZ n) := by
  rcases Int.lt_or_le n 0 with h | h
  · exact zY n ⟨hn.1, h⟩
  · exact zX n ⟨h, hn.2⟩
theorem wI (s1 s2 : Int) (a b : List Int) (hla : a.length ≤ 140737488355328) (hlb : b.length ≤ 140737488355328) : Means false Tryz.prog 78 [big2 s1 a, big2 s2 b] (bb (decide (s1 = s2 ∧ a = b))) := by
  refine aK false 38 [.tmp 4] Tryz.func78 rfl rfl rfl (by simp) (by decide) rfl fun X hX => ?_
  (repeat (first | refine aC ?_ | refine a7 ?_ | ((first | refine a8 [0, 1, 2, 3, 4, 5, 19, 24, 37] hX ?_ | refine a6 [0, 1, 2, 3, 4, 5, 19, 24, 37] hX mixed ?_ | refine aD ?_ | refine aA ?_ | refine aB ?_); (simp [go_sem]; try (refine ⟨by kernel_rfl, ?_⟩)))))
  by_cases h : s1 = s2
  · subst h
    by_cases hl : a.length = b.length
    · (repeat (first | refine aC ?_ | refine a7 ?_ | ((first | refine a8 [0, 1, 2, 3, 4, 5, 19, 24, 37] hX ?_ | refine a6 [0, 1, 2, 3, 4, 5, 19, 24, 37] hX mixed ?_ | refine aD ?_ | refine aA ?_ | refine aB ?_); (simp [go_sem, hl]; try (refine ⟨by kernel_rfl, ?_⟩)))))
      refine aG (b := false) (by simp [go_sem, hl]) (fun hb => by cases hb) (fun _ => ?_)
      (repeat (first | refine aC ?_ | refine a7 ?_ | ((first | refine a8 [0, 1, 2, 3, 4, 5, 19, 24, 37] hX ?_ | refine a6 [0, 1, 2, 3, 4, 5, 19, 24, 37] hX mixed ?_ | refine aD ?_ | refine aA ?_ | refine aB ?_); (simp [go_sem]; try (refine ⟨by kernel_rfl, ?_⟩)))))
      refine aQ (fun n : Nat => ⟨mkE [(2, .el 0 2 0 0), (3, .el 1 2 0 0), (5, ii n)], [.row ⟨24, 2, [big2 s1 a]⟩, .row ⟨24, 2, [big2 s1 b]⟩]⟩) (fun n => n ≤ a.length ∧ a.take n = b.take n) (fun n => a.length - n) 0 ?_ ?_ ?_
      · refine aL _ [.old 0 ⟨24, 2, [big2 s1 a]⟩, .old 1 ⟨24, 2, [big2 s1 b]⟩] (by simp [go_sem]) ?_
        simp [go_sem]
      · exact ⟨Nat.zero_le _, by simp⟩
      · rintro n ⟨hn, he⟩
        (repeat (first | refine aC ?_ | refine a7 ?_ | ((first | refine a8 [0, 1, 2, 3, 4, 5, 19, 24, 37] hX ?_ | refine a6 [0, 1, 2, 3, 4, 5, 19, 24, 37] hX mixed ?_ | refine aD ?_ | refine aA ?_ | refine aB ?_); (simp [go_sem]; try (refine ⟨by kernel_rfl, ?_⟩)))))
        refine aG (b := decide (n < a.length)) (by simp [go_sem]) (fun hd2 => ?_) (fun hd2 => ?_)
        · simp at hd2
          have h2 : n < b.length := by omega
          (repeat (first | refine aC ?_ | refine a7 ?_ | ((first | refine a8 [0, 1, 2, 3, 4, 5, 19, 24, 37] hX ?_ | refine a6 [0, 1, 2, 3, 4, 5, 19, 24, 37] hX mixed ?_ | refine aD ?_ | refine aA ?_ | refine aB ?_); (simp [go_sem, hd2, h2]; (try simp (disch := omega) only [w64, td, tm]); try (refine ⟨by kernel_rfl, ?_⟩)))))
          (repeat refine And.intro (by first | omega | (unfold maxLen; omega) | kernel_rfl | (refine ⟨by first | omega | (unfold maxLen; omega), by first | omega | (unfold maxLen; omega)⟩) | grind) ?_)
          try (simp [go_sem, hd2, h2]; try (refine ⟨by kernel_rfl, ?_⟩))
          refine aG (b := decide (a[n] ≠ b[n])) (by simp [go_sem, hd2, h2]; try omega) (fun hc => ?_) (fun hc => ?_)
          · simp only [decide_eq_true_eq] at hc
            have hne : ¬ a = b := fun e => hc (by simp only [e])
            (repeat (first | refine aC ?_ | refine a7 ?_ | ((first | refine a8 [0, 1, 2, 3, 4, 5, 19, 24, 37] hX ?_ | refine a6 [0, 1, 2, 3, 4, 5, 19, 24, 37] hX mixed ?_ | refine aD ?_ | refine aA ?_ | refine aB ?_); (simp [go_sem, hne]; try (refine ⟨by kernel_rfl, ?_⟩)))))
          · simp at hc
            (repeat (first | refine aC ?_ | refine a7 ?_ | ((first | refine a8 [0, 1, 2, 3, 4, 5, 19, 24, 37] hX ?_ | refine a6 [0, 1, 2, 3, 4, 5, 19, 24, 37] hX mixed ?_ | refine aD ?_ | refine aA ?_ | refine aB ?_); (simp [go_sem]; (try simp (disch := omega) only [w64, td, tm]); try (refine ⟨by kernel_rfl, ?_⟩)))))
            refine ⟨n + 1, ⟨by omega, ?_⟩, by omega, ?_⟩
            · rw [List.take_succ_eq_append_getElem hd2, List.take_succ_eq_append_getElem h2, he, hc]
            · refine aL _ [.old 0 ⟨24, 2, [big2 s1 a]⟩, .old 1 ⟨24, 2, [big2 s1 b]⟩] (by simp [go_sem]) ?_
              simp [go_sem]
        · have hnl : n = a.length := by simp at hd2; omega
          subst hnl
          have hab : a = b := by rwa [List.take_length, hl, List.take_length] at he
          (repeat (first | refine aC ?_ | refine a7 ?_ | ((first | refine a8 [0, 1, 2, 3, 4, 5, 19, 24, 37] hX ?_ | refine a6 [0, 1, 2, 3, 4, 5, 19, 24, 37] hX mixed ?_ | refine aD ?_ | refine aA ?_ | refine aB ?_); (simp [go_sem, hab]; try (refine ⟨by kernel_rfl, ?_⟩)))))
    · have hne : ¬ a = b := fun e => hl (by rw [e])
      (repeat (first | refine aC ?_ | refine a7 ?_ | ((first | refine a8 [0, 1, 2, 3, 4, 5, 19, 24, 37] hX ?_ | refine a6 [0, 1, 2, 3, 4, 5, 19, 24, 37] hX mixed ?_ | refine aD ?_ | refine aA ?_ | refine aB ?_); (simp [go_sem, hl]; try (refine ⟨by kernel_rfl, ?_⟩)))))
      refine aG (b := true) (by simp [go_sem, hl]; try omega) (fun _ => ?_) (fun hb => by cases hb)
      (repeat (first | refine aC ?_ | refine a7 ?_ | ((first | refine a8 [0, 1, 2, 3, 4, 5, 19, 24, 37] hX ?_ | refine a6 [0, 1, 2, 3, 4, 5, 19, 24, 37] hX mixed ?_ | refine aD ?_ | refine aA ?_ | refine aB ?_); (simp [go_sem, hne]; try (refine ⟨by kernel_rfl, ?_⟩)))))
  · (repeat (first | refine aC ?_ | refine a7 ?_ | ((first | refine a8 [0, 1, 2, 3, 4, 5, 19, 24, 37] hX ?_ | refine a6 [0, 1, 2, 3, 4, 5, 19, 24, 37] hX mixed ?_ | refine aD ?_ | refine aA ?_ | refine aB ?_); (simp [go_sem, h]; try (refine ⟨by kernel_rfl, ?_⟩)))))
    refine aG (b := true) (by simp [go_sem, h]) (fun _ => ?_) (fun hb => by cases hb)
    (repeat (first | refine aC ?_ | refine a7 ?_ | ((first | refine a8 [0, 1, 2, 3, 4, 5, 19, 24, 37] hX ?_ | refine a6 [0, 1, 2, 3, 4, 5, 19, 24, 37] hX mixed ?_ | refine aD ?_ | refine aA ?_ | refine aB ?_); (simp [go_sem, h]; try (refine ⟨by kernel_rfl, ?_⟩)))))
theorem o7 (z w : Int) (hz : rz z) (hw : rz w) : Means false Tryz.prog 78 [bigZ z, bigZ w] (bb (decide (z = w))) := by
  have := wI (sg z) (sg w) (dg (ab z)) (dg (ab w)) (by have := bB hz; omega) (by have := bB hw; omega)
  simpa only [o8] using this
set_option maxHeartbeats 4000000 in
set_option maxRecDepth 20000 in
theorem gE (z w : Int) (hz : rz z) (hw : rz w) : Means false Tryz.prog 52 [bigZ z, bigZ w] (ii (cmpI z w)) := by
  have hlz := bB hz
  have hlw := bB hw
  have hls := mP (dg (ab z)) (dg (ab w)) (by omega) (by omega) (aN _) (aN _)
  rw [aR, aR] at hls
  by_cases he : z = w
  · subst he
    have e : cmpI z z = 0 := (fM z z).2 rfl
    have hsm := o7 z z hz hz
    rw [decide_eq_true rfl] at hsm
    rw [e]
    refine aK false 37 [.tmp 4] Tryz.func52 rfl rfl rfl (by simp) (by decide) rfl fun X hX => ?_
    (repeat (first | refine aC ?_ | refine a7 ?_ | ((first | refine a8 [0, 1, 2, 3, 4, 17, 22, 27, 36] hX ?_ | refine a6 [0, 1, 2, 3, 4, 17, 22, 27, 36] hX mixed ?_ | refine aD ?_ | refine aA ?_ | refine aB ?_); (simp [go_sem]; try (refine ⟨by kernel_rfl, ?_⟩)))))
    first | refine aE (aO z hz) rfl (by simp [go_sem]) rfl ?_ | refine aF (aO z hz) rfl (by simp [go_sem]) rfl ?_
    try (simp [go_sem]; try (refine ⟨by kernel_rfl, ?_⟩))
    first | refine aI (fun hg => aO z hz) rfl (by simp [go_sem]) rfl ?_ | refine aH (fun hg => aO z hz) rfl (by simp [go_sem]) rfl ?_
    try (simp [go_sem]; try (refine ⟨by kernel_rfl, ?_⟩))
    first | refine aI (fun hg => hsm) rfl (by simp [go_sem]) rfl ?_ | refine aH (fun hg => hsm) rfl (by simp [go_sem]) rfl ?_
    try (simp [go_sem]; try (refine ⟨by kernel_rfl, ?_⟩))
    refine aG (b := true) (by simp [go_sem]) (fun _ => ?_) (fun h => by cases h)
    (repeat (first | refine aC ?_ | refine a7 ?_ | ((first | refine a8 [0, 1, 2, 3, 4, 17, 22, 27, 36] hX ?_ | refine a6 [0, 1, 2, 3, 4, 17, 22, 27, 36] hX mixed ?_ | refine aD ?_ | refine aA ?_ | refine aB ?_); (simp [go_sem]; try (refine ⟨by kernel_rfl, ?_⟩)))))
  · have hsm := o7 z w hz hw
    rw [decide_eq_false he] at hsm
    refine aK false 37 [.tmp 4] Tryz.func52 rfl rfl rfl (by simp) (by decide) rfl fun X hX => ?_
    (repeat (first | refine aC ?_ | refine a7 ?_ | ((first | refine a8 [0, 1, 2, 3, 4, 17, 22, 27, 36] hX ?_ | refine a6 [0, 1, 2, 3, 4, 17, 22, 27, 36] hX mixed ?_ | refine aD ?_ | refine aA ?_ | refine aB ?_); (simp [go_sem]; try (refine ⟨by kernel_rfl, ?_⟩)))))
    first | refine aE (aO z hz) rfl (by simp [go_sem]) rfl ?_ | refine aF (aO z hz) rfl (by simp [go_sem]) rfl ?_
    try (simp [go_sem]; try (refine ⟨by kernel_rfl, ?_⟩))
    first | refine aI (fun hg => aO w hw) rfl (by simp [go_sem]) rfl ?_ | refine aH (fun hg => aO w hw) rfl (by simp [go_sem]) rfl ?_
    try (simp [go_sem]; try (refine ⟨by kernel_rfl, ?_⟩))
    first | refine aI (fun hg => hsm) rfl (by simp [go_sem]) rfl ?_ | refine aH (fun hg => hsm) rfl (by simp [go_sem]) rfl ?_
    try (simp [go_sem]; try (refine ⟨by kernel_rfl, ?_⟩))
    refine aG (b := false) (by simp [go_sem]) (fun h => by cases h) (fun _ => ?_)
    (repeat (first | refine aC ?_ | refine a7 ?_ | ((first | refine a8 [0, 1, 2, 3, 4, 17, 22, 27, 36] hX ?_ | refine a6 [0, 1, 2, 3, 4, 17, 22, 27, 36] hX mixed ?_ | refine aD ?_ | refine aA ?_ | refine aB ?_); (simp [go_sem]; try (refine ⟨by kernel_rfl, ?_⟩)))))
    refine aG (b := decide (sg z ≠ sg w)) (by simp [go_sem]; try omega) (fun hd => ?_) (fun hd => ?_)
    · simp only [decide_eq_true_eq] at hd
      have e : cmpI z w = if sg z < sg w then -1 else 1 := by
        have : cmpI (sg z) (sg w) = cmpI z w := by
          refine mQ ?_ ?_ <;> rcases aJ z with h | h | h <;> rcases aJ w with h2 | h2 | h2 <;> omega
        rw [← this]; unfold cmpI; split
        · rfl
        · rw [if_pos (by omega)]
      rw [e]
      (repeat (first | refine aC ?_ | refine a7 ?_ | ((first | refine a8 [0, 1, 2, 3, 4, 17, 22, 27, 36] hX ?_ | refine a6 [0, 1, 2, 3, 4, 17, 22, 27, 36] hX mixed ?_ | refine aD ?_ | refine aA ?_ | refine aB ?_); (simp [go_sem]; try (refine ⟨by kernel_rfl, ?_⟩)))))
      refine aG (b := decide (sg z < sg w)) (by simp [go_sem]) (fun hf => ?_) (fun hf => ?_)
      · simp at hf
        rw [if_pos hf]
        (repeat (first | refine aC ?_ | refine a7 ?_ | ((first | refine a8 [0, 1, 2, 3, 4, 17, 22, 27, 36] hX ?_ | refine a6 [0, 1, 2, 3, 4, 17, 22, 27, 36] hX mixed ?_ | refine aD ?_ | refine aA ?_ | refine aB ?_); (simp [go_sem]; try (refine ⟨by kernel_rfl, ?_⟩)))))
      · simp at hf
        rw [if_neg (by omega)]
        (repeat (first | refine aC ?_ | refine a7 ?_ | ((first | refine a8 [0, 1, 2, 3, 4, 17, 22, 27, 36] hX ?_ | refine a6 [0, 1, 2, 3, 4, 17, 22, 27, 36] hX mixed ?_ | refine aD ?_ | refine aA ?_ | refine aB ?_); (simp [go_sem]; try (refine ⟨by kernel_rfl, ?_⟩)))))
    · simp at hd
      have hs : sg z = 1 ∨ sg z = -1 := by rcases aJ z with h | h | h <;> rcases aJ w with h2 | h2 | h2 <;> omega
      have e1 : sg z = 1 → ab z < ab w → cmpI z w = -1 := fun h1 h2 => by
        unfold cmpI; rcases aJ z with h | h | h <;> rcases aJ w with h3 | h3 | h3 <;> first | omega | (rw [if_pos (by omega)])
      have e2 : sg z = 1 → ¬ ab z < ab w → cmpI z w = 1 := fun h1 h2 => by
        unfold cmpI; rcases aJ z with h | h | h <;> rcases aJ w with h3 | h3 | h3 <;> first | omega | (rw [if_neg (by omega), if_pos (by omega)])
      have e3 : sg z = -1 → ab z < ab w → cmpI z w = 1 := fun h1 h2 => by
        unfold cmpI; rcases aJ z with h | h | h <;> rcases aJ w with h3 | h3 | h3 <;> first | omega | (rw [if_neg (by omega), if_pos (by omega)])
      have e4 : sg z = -1 → ¬ ab z < ab w → cmpI z w = -1 := fun h1 h2 => by
        unfold cmpI; rcases aJ z with h | h | h <;> rcases aJ w with h3 | h3 | h3 <;> first | omega | (rw [if_pos (by omega)])
      by_cases hlt : ab z < ab w
      · rw [decide_eq_true hlt] at hls
        rcases hs with hs | hs
        · rw [e1 hs hlt]
          (repeat (first | refine aC ?_ | refine a7 ?_ | ((first | refine a8 [0, 1, 2, 3, 4, 17, 22, 27, 36] hX ?_ | refine a6 [0, 1, 2, 3, 4, 17, 22, 27, 36] hX mixed ?_ | refine aD ?_ | refine aA ?_ | refine aB ?_); (simp [go_sem]; try (refine ⟨by kernel_rfl, ?_⟩)))))
          first | refine aE (hls) rfl (by simp [go_sem]) rfl ?_ | refine aF (hls) rfl (by simp [go_sem]) rfl ?_
          try (simp [go_sem]; try (refine ⟨by kernel_rfl, ?_⟩))
          refine aG (b := true) (by simp [go_sem, hs]) (fun _ => ?_) (fun h => by cases h)
          (repeat (first | refine aC ?_ | refine a7 ?_ | ((first | refine a8 [0, 1, 2, 3, 4, 17, 22, 27, 36] hX ?_ | refine a6 [0, 1, 2, 3, 4, 17, 22, 27, 36] hX mixed ?_ | refine aD ?_ | refine aA ?_ | refine aB ?_); (simp [go_sem]; try (refine ⟨by kernel_rfl, ?_⟩)))))
        · rw [e3 hs hlt]
          (repeat (first | refine aC ?_ | refine a7 ?_ | ((first | refine a8 [0, 1, 2, 3, 4, 17, 22, 27, 36] hX ?_ | refine a6 [0, 1, 2, 3, 4, 17, 22, 27, 36] hX mixed ?_ | refine aD ?_ | refine aA ?_ | refine aB ?_); (simp [go_sem]; try (refine ⟨by kernel_rfl, ?_⟩)))))
          first | refine aE (hls) rfl (by simp [go_sem]) rfl ?_ | refine aF (hls) rfl (by simp [go_sem]) rfl ?_
          try (simp [go_sem]; try (refine ⟨by kernel_rfl, ?_⟩))
          refine aG (b := false) (by simp [go_sem, hs]) (fun h => by cases h) (fun _ => ?_)
          (repeat (first | refine aC ?_ | refine a7 ?_ | ((first | refine a8 [0, 1, 2, 3, 4, 17, 22, 27, 36] hX ?_ | refine a6 [0, 1, 2, 3, 4, 17, 22, 27, 36] hX mixed ?_ | refine aD ?_ | refine aA ?_ | refine aB ?_); (simp [go_sem]; try (refine ⟨by kernel_rfl, ?_⟩)))))
      · rw [decide_eq_false hlt] at hls
        rcases hs with hs | hs
        · rw [e2 hs hlt]
          (repeat (first | refine aC ?_ | refine a7 ?_ | ((first | refine a8 [0, 1, 2, 3, 4, 17, 22, 27, 36] hX ?_ | refine a6 [0, 1, 2, 3, 4, 17, 22, 27, 36] hX mixed ?_ | refine aD ?_ | refine aA ?_ | refine aB ?_); (simp [go_sem]; try (refine ⟨by kernel_rfl, ?_⟩)))))
          first | refine aE (hls) rfl (by simp [go_sem]) rfl ?_ | refine aF (hls) rfl (by simp [go_sem]) rfl ?_
          try (simp [go_sem]; try (refine ⟨by kernel_rfl, ?_⟩))
          refine aG (b := false) (by simp [go_sem, hs]) (fun h => by cases h) (fun _ => ?_)
          (repeat (first | refine aC ?_ | refine a7 ?_ | ((first | refine a8 [0, 1, 2, 3, 4, 17, 22, 27, 36] hX ?_ | refine a6 [0, 1, 2, 3, 4, 17, 22, 27, 36] hX mixed ?_ | refine aD ?_ | refine aA ?_ | refine aB ?_); (simp [go_sem]; try (refine ⟨by kernel_rfl, ?_⟩)))))
        · rw [e4 hs hlt]
          (repeat (first | refine aC ?_ | refine a7 ?_ | ((first | refine a8 [0, 1, 2, 3, 4, 17, 22, 27, 36] hX ?_ | refine a6 [0, 1, 2, 3, 4, 17, 22, 27, 36] hX mixed ?_ | refine aD ?_ | refine aA ?_ | refine aB ?_); (simp [go_sem]; try (refine ⟨by kernel_rfl, ?_⟩)))))
          first | refine aE (hls) rfl (by simp [go_sem]) rfl ?_ | refine aF (hls) rfl (by simp [go_sem]) rfl ?_
          try (simp [go_sem]; try (refine ⟨by kernel_rfl, ?_⟩))
          refine aG (b := true) (by simp [go_sem, hs]) (fun _ => ?_) (fun h => by cases h)
          (repeat (first | refine aC ?_ | refine a7 ?_ | ((first | refine a8 [0, 1, 2, 3, 4, 17, 22, 27, 36] hX ?_ | refine a6 [0, 1, 2, 3, 4, 17, 22, 27, 36] hX mixed ?_ | refine aD ?_ | refine aA ?_ | refine aB ?_); (simp [go_sem]; try (refine ⟨by kernel_rfl, ?_⟩)))))
theorem fN {n B : Int} {k : Nat} (h0 : 0 ≤ n) (h : n < B) (hB : B < 1048576 ^ k) : (dg n).length ≤ k := by
  rw [aP]; omega
theorem sS {A' B q r d lo : Int} (hB : 0 < B) (h1 : B * q + r = A') (hr : 0 ≤ r ∧ r < B) (h2 : lo * B ≤ d + 1048576 * r) (h3 : d + 1048576 * r < (lo + 1) * B) :
    B * (lo + 1048576 * q) + (d + 1048576 * r - B * lo) = d + 1048576 * A' ∧ 0 ≤ d + 1048576 * r - B * lo ∧ d + 1048576 * r - B * lo < B := by
  subst h1
  rw [Int.add_mul, Int.one_mul] at h3
  rw [Int.mul_comm lo B] at h2 h3
  refine ⟨?_, by omega, by omega⟩
  rw [Int.mul_add, Int.mul_add, Int.mul_left_comm B 1048576 q]; omega
set_option maxHeartbeats 8000000 in
set_option maxRecDepth 20000 in
theorem rD (a b : List Int) (hla : a.length ≤ 500) (hlb : b.length ≤ 500) (ha : okD a) (hb : okD b) (hB : 0 < val b) : Means false Tryz.prog 76 [il a, il b] (.tup [il (dg (val a / val b)), il (dg (val a % val b))]) := by
  have hbl := c7 hb
  have hw0 := w64 (x := (a.length : Int) - 1) (by omega) (by omega)
  obtain ⟨B, hBe⟩ : ∃ B, val b = B := ⟨_, rfl⟩
  rw [hBe] at hB hbl ⊢
  refine aK false 60 [.tmp 4, .tmp 5] Tryz.func76 rfl rfl rfl (by simp) (by decide) rfl fun X hX => ?_
  (repeat (first | refine aC ?_ | refine a7 ?_ | ((first | refine a8 [0, 1, 4, 5, 6, 7, 8, 9, 10, 11, 19, 33, 43] hX ?_ | refine a6 [0, 1, 4, 5, 6, 7, 8, 9, 10, 11, 19, 33, 43] hX mixed ?_ | refine aD ?_ | refine aA ?_ | refine aB ?_); (simp [go_sem]; try (refine ⟨by kernel_rfl, ?_⟩)))))
  try (repeat refine And.intro (by first | omega | (unfold maxLen; omega) | kernel_rfl | (refine ⟨by first | omega | (unfold maxLen; omega), by first | omega | (unfold maxLen; omega)⟩) | grind) ?_)
  try (repeat (first | refine aC ?_ | refine a7 ?_ | ((first | refine a8 [0, 1, 4, 5, 6, 7, 8, 9, 10, 11, 19, 33, 43] hX ?_ | refine a6 [0, 1, 4, 5, 6, 7, 8, 9, 10, 11, 19, 33, 43] hX mixed ?_ | refine aD ?_ | refine aA ?_ | refine aB ?_); (simp [go_sem, hw0]; try (refine ⟨by kernel_rfl, ?_⟩)))))
  refine aQ (fun x : Nat × List Int × Int => ⟨mkE [(0, il a), (1, il b), (6, .ow 0), (7, il (dg x.2.2)), (8, ii ((x.1 : Int) - 1))], [rowI (List.replicate x.1 (0 : Int) ++ x.2.1)]⟩)
    (fun x => x.1 ≤ a.length ∧ okD x.2.1 ∧ x.1 + x.2.1.length = a.length ∧ 0 ≤ x.2.2 ∧ x.2.2 < B ∧ B * val x.2.1 + x.2.2 = val (a.drop x.1)) (fun x => x.1) (a.length, [], 0) ?_ ?_ ?_
  · refine aL _ [.old 0 ⟨3, 1, (List.replicate a.length (0 : Int) ++ []).map ii⟩] ?_ ?_
    · simp [go_sem, List.map_replicate]
    · simp [go_sem, dU]
  · refine ⟨Nat.le_refl _, c6, by simp, Int.le_refl _, hB, ?_⟩
    simp [val]
  · rintro ⟨i, Q, r⟩ ⟨h1, h2, h3, h4, h5, h6⟩
    simp only [] at h1 h2 h3 h4 h5 h6
    cases i with
    | zero =>
      simp only [List.replicate_zero, List.nil_append, List.drop_zero] at h6 ⊢
      have hq : val a / B = val Q ∧ val a % B = r := (Int.ediv_emod_unique hB).2 ⟨by omega, h4, h5⟩
      rw [hq.1, hq.2]
      (repeat (first | refine aC ?_ | refine a7 ?_ | ((first | refine a8 [0, 1, 4, 5, 6, 7, 8, 9, 10, 11, 19, 33, 43] hX ?_ | refine a6 [0, 1, 4, 5, 6, 7, 8, 9, 10, 11, 19, 33, 43] hX mixed ?_ | refine aD ?_ | refine aA ?_ | refine aB ?_); (simp [go_sem]; try (refine ⟨by kernel_rfl, ?_⟩)))))
      refine aG (b := false) (by simp [go_sem]) (fun h => by cases h) (fun _ => ?_)
      (repeat (first | refine aC ?_ | refine a7 ?_ | ((first | refine a8 [0, 1, 4, 5, 6, 7, 8, 9, 10, 11, 19, 33, 43] hX ?_ | refine a6 [0, 1, 4, 5, 6, 7, 8, 9, 10, 11, 19, 33, 43] hX mixed ?_ | refine aD ?_ | refine aA ?_ | refine aB ?_); (simp [go_sem]; try (refine ⟨by kernel_rfl, ?_⟩)))))
      first | refine aE (bX Q (by omega) h2) rfl (by simp [go_sem]) rfl ?_ | refine aF (bX Q (by omega) h2) rfl (by simp [go_sem]) rfl ?_
      try (simp [go_sem]; try (refine ⟨by kernel_rfl, ?_⟩))
      (repeat (first | refine aC ?_ | refine a7 ?_ | ((first | refine a8 [0, 1, 4, 5, 6, 7, 8, 9, 10, 11, 19, 33, 43] hX ?_ | refine a6 [0, 1, 4, 5, 6, 7, 8, 9, 10, 11, 19, 33, 43] hX mixed ?_ | refine aD ?_ | refine aA ?_ | refine aB ?_); (simp [go_sem]; try (refine ⟨by kernel_rfl, ?_⟩)))))
    | succ i =>
      have hi : i < a.length := by omega
      have hii : ((i + 1 : Nat) : Int) - 1 = i := by omega
      have hd0 := cX a i
      rw [eA hi] at hd0
      have hdb := b7 ha hi
      rw [hii]
      obtain ⟨d, hd⟩ : ∃ d, a[i] = d := ⟨_, rfl⟩
      rw [hd] at hd0 hdb
      have hrl : (dg r).length ≤ b.length := fN h4 h5 hbl
      have hokr : okD (d :: dg r) := aS.2 ⟨hdb, aN r⟩
      have hvr : val (d :: dg r) = d + 1048576 * r := by simp only [val]; rw [aU h4]
      have ht := bX (d :: dg r) (by simp only [List.length_cons]; omega) hokr
      rw [hvr] at ht
      have hYb : 0 ≤ d + 1048576 * r ∧ d + 1048576 * r < 1048576 * B := by omega
      have hstep := fun lo => sS (d := d) (lo := lo) hB h6 ⟨h4, h5⟩
      have hXl : (dg (d + 1048576 * r)).length ≤ b.length + 1 := by
        refine fN hYb.1 hYb.2 ?_
        rw [Int.pow_succ]; omega
      obtain ⟨Y, hXe⟩ : ∃ Y, d + 1048576 * r = Y := ⟨_, rfl⟩
      rw [hXe] at ht hYb hXl
      simp only [hXe] at hstep
      (repeat (first | refine aC ?_ | refine a7 ?_ | ((first | refine a8 [0, 1, 4, 5, 6, 7, 8, 9, 10, 11, 19, 33, 43] hX ?_ | refine a6 [0, 1, 4, 5, 6, 7, 8, 9, 10, 11, 19, 33, 43] hX mixed ?_ | refine aD ?_ | refine aA ?_ | refine aB ?_); (simp [go_sem]; try (refine ⟨by kernel_rfl, ?_⟩)))))
      refine aG (b := true) (by simp [go_sem]; try omega) (fun _ => ?_) (fun h => by cases h)
      (repeat (first | refine aC ?_ | refine a7 ?_ | ((first | refine a8 [0, 1, 4, 5, 6, 7, 8, 9, 10, 11, 19, 33, 43] hX ?_ | refine a6 [0, 1, 4, 5, 6, 7, 8, 9, 10, 11, 19, 33, 43] hX mixed ?_ | refine aD ?_ | refine aA ?_ | refine aB ?_); (simp [go_sem, hi, hd]; try (refine ⟨by kernel_rfl, ?_⟩)))))
      try (repeat refine And.intro (by first | omega | (unfold maxLen; omega) | kernel_rfl | (refine ⟨by first | omega | (unfold maxLen; omega), by first | omega | (unfold maxLen; omega)⟩) | grind) ?_)
      try (repeat (first | refine aC ?_ | refine a7 ?_ | ((first | refine a8 [0, 1, 4, 5, 6, 7, 8, 9, 10, 11, 19, 33, 43] hX ?_ | refine a6 [0, 1, 4, 5, 6, 7, 8, 9, 10, 11, 19, 33, 43] hX mixed ?_ | refine aD ?_ | refine aA ?_ | refine aB ?_); (simp [go_sem, hi, hd]; try (refine ⟨by kernel_rfl, ?_⟩)))))
      first | refine aE (ht) rfl (by simp [go_sem]) rfl ?_ | refine aF (ht) rfl (by simp [go_sem]) rfl ?_
      try (simp [go_sem]; try (refine ⟨by kernel_rfl, ?_⟩))
      (repeat (first | refine aC ?_ | refine a7 ?_ | ((first | refine a8 [0, 1, 4, 5, 6, 7, 8, 9, 10, 11, 19, 33, 43] hX ?_ | refine a6 [0, 1, 4, 5, 6, 7, 8, 9, 10, 11, 19, 33, 43] hX mixed ?_ | refine aD ?_ | refine aA ?_ | refine aB ?_); (simp [go_sem]; try (refine ⟨by kernel_rfl, ?_⟩)))))
      refine aQ (fun y : Int × Int => ⟨mkE [(0, il a), (1, il b), (6, .ow 0), (7, il (dg Y)), (8, ii i), (9, ii y.1), (10, ii y.2)], [rowI (List.replicate (i + 1) 0 ++ Q)]⟩)
        (fun y => 0 ≤ y.1 ∧ y.1 < y.2 ∧ y.2 ≤ 1048576 ∧ y.1 * B ≤ Y ∧ Y < y.2 * B) (fun y => (y.2 - y.1).toNat) (0, 1048576) ?_ ?_ ?_
      · refine aL _ [.old 0 ⟨3, 1, (List.replicate (i + 1) (0 : Int) ++ Q).map ii⟩] (by simp [go_sem]) ?_
        simp [go_sem]
      · refine ⟨by simp, by simp, by simp, by simp; omega, ?_⟩
        show Y < 1048576 * B
        omega
      · rintro ⟨lo, hi'⟩ ⟨g1, g2, g3, g4, g5⟩
        simp only [] at g1 g2 g3 g4 g5
        have wd := w64 (x := hi' - lo) (by omega) (by omega)
        have ws := w64 (x := lo + hi') (by omega) (by omega)
        (repeat (first | refine aC ?_ | refine a7 ?_ | ((first | refine a8 [0, 1, 4, 5, 6, 7, 8, 9, 10, 11, 19, 33, 43] hX ?_ | refine a6 [0, 1, 4, 5, 6, 7, 8, 9, 10, 11, 19, 33, 43] hX mixed ?_ | refine aD ?_ | refine aA ?_ | refine aB ?_); (simp [go_sem, wd]; try (refine ⟨by kernel_rfl, ?_⟩)))))
        refine aG (b := decide (1 < hi' - lo)) (by simp [go_sem, wd]) (fun hc => ?_) (fun hc => ?_)
        · simp only [decide_eq_true_eq] at hc
          have hmd : (lo + hi').tdiv 2 = (lo + hi') / 2 := Int.tdiv_eq_ediv_of_nonneg (by omega)
          obtain ⟨m, hm⟩ : ∃ m, (lo + hi') / 2 = m := ⟨_, rfl⟩
          rw [hm] at hmd
          have hmb : lo < m ∧ m < hi' := by omega
          have wm := w64 (x := m) (by omega) (by omega)
          have htm := kD b [m] (by omega) (by simp) hb (aS.2 ⟨by omega, c6⟩)
          have hvm : val b * val [m] = m * B := by simp [val, hBe, Int.mul_comm]
          rw [hvm] at htm
          have hmB : 0 ≤ m * B := Int.mul_nonneg (by omega) (by omega)
          have hmB2 : (dg (m * B)).length ≤ b.length + 1 := by
            refine fN hmB (B := 1048576 * B) ?_ (by rw [Int.pow_succ]; omega)
            exact Int.mul_lt_mul_of_pos_right (by omega) hB
          have hls := mP (dg Y) (dg (m * B)) (by omega) (by omega) (aN _) (aN _)
          rw [aU hYb.1, aU hmB] at hls
          (repeat (first | refine aC ?_ | refine a7 ?_ | ((first | refine a8 [0, 1, 4, 5, 6, 7, 8, 9, 10, 11, 19, 33, 43] hX ?_ | refine a6 [0, 1, 4, 5, 6, 7, 8, 9, 10, 11, 19, 33, 43] hX mixed ?_ | refine aD ?_ | refine aA ?_ | refine aB ?_); (simp [go_sem, ws, hmd, wm]; try (refine ⟨by kernel_rfl, ?_⟩)))))
          refine eO (htm) rfl rfl ?_
          try (simp [go_sem]; try (refine ⟨by kernel_rfl, ?_⟩))
          first | refine aE (hls) rfl (by simp [go_sem]) rfl ?_ | refine aF (hls) rfl (by simp [go_sem]) rfl ?_
          try (simp [go_sem]; try (refine ⟨by kernel_rfl, ?_⟩))
          refine aG (b := decide (Y < m * B)) (by simp [go_sem]) (fun hf => ?_) (fun hf => ?_)
          · simp only [decide_eq_true_eq] at hf
            (repeat (first | refine aC ?_ | refine a7 ?_ | ((first | refine a8 [0, 1, 4, 5, 6, 7, 8, 9, 10, 11, 19, 33, 43] hX ?_ | refine a6 [0, 1, 4, 5, 6, 7, 8, 9, 10, 11, 19, 33, 43] hX mixed ?_ | refine aD ?_ | refine aA ?_ | refine aB ?_); (simp [go_sem]; try (refine ⟨by kernel_rfl, ?_⟩)))))
            refine ⟨lo, m, ⟨by omega, by omega, by omega, by omega, by omega⟩, by omega, ?_⟩
            refine aL _ [.old 0 ⟨3, 1, (List.replicate (i + 1) (0 : Int) ++ Q).map ii⟩] (by simp [go_sem]) ?_
            simp [go_sem]
          · simp only [decide_eq_false_iff_not] at hf
            (repeat (first | refine aC ?_ | refine a7 ?_ | ((first | refine a8 [0, 1, 4, 5, 6, 7, 8, 9, 10, 11, 19, 33, 43] hX ?_ | refine a6 [0, 1, 4, 5, 6, 7, 8, 9, 10, 11, 19, 33, 43] hX mixed ?_ | refine aD ?_ | refine aA ?_ | refine aB ?_); (simp [go_sem]; try (refine ⟨by kernel_rfl, ?_⟩)))))
            refine ⟨m, hi', ⟨by omega, by omega, by omega, by omega, by omega⟩, by omega, ?_⟩
            refine aL _ [.old 0 ⟨3, 1, (List.replicate (i + 1) (0 : Int) ++ Q).map ii⟩] (by simp [go_sem]) ?_
            simp [go_sem]
        · simp only [decide_eq_false_iff_not] at hc
          have e : hi' = lo + 1 := by omega
          subst e
          obtain ⟨s1, s2, s3⟩ := hstep lo g4 g5
          have htl := bX [lo] (by simp) (aS.2 ⟨by omega, c6⟩)
          have hvl : val [lo] = lo := by simp [val]
          rw [hvl] at htl
          have hll : (dg lo).length ≤ 1 := by rw [aP]; omega
          have htm := kD b (dg lo) (by omega) (by omega) hb (aN _)
          rw [aU g1, hBe] at htm
          have hBl : 0 ≤ B * lo := Int.mul_nonneg (by omega) g1
          have hBl2 : (dg (B * lo)).length ≤ b.length + 1 := fN hBl (B := 1048576 * B) (by omega) (by rw [Int.pow_succ]; omega)
          have hmn := gT (dg Y) (dg (B * lo)) (by omega) (by omega) (aN _) (aN _) (by rw [aU hYb.1, aU hBl]; omega)
          rw [aU hYb.1, aU hBl] at hmn
          have hrep : List.replicate (i + 1) (0 : Int) ++ Q = List.replicate i 0 ++ 0 :: Q := by rw [List.replicate_succ', List.append_assoc]; rfl
          have hset : (List.replicate (i + 1) (0 : Int) ++ Q).set i lo = List.replicate i 0 ++ lo :: Q := by
            rw [hrep, List.set_append_right _ _ (by simp)]; simp
          have hil : i < (List.replicate (i + 1) (0 : Int) ++ Q).length := by simp; omega
          have wi := w64 (x := (i : Int) - 1) (by omega) (by omega)
          generalize hR : List.replicate (i + 1) (0 : Int) ++ Q = R at *
          (repeat (first | refine aC ?_ | refine a7 ?_ | ((first | refine a8 [0, 1, 4, 5, 6, 7, 8, 9, 10, 11, 19, 33, 43] hX ?_ | refine a6 [0, 1, 4, 5, 6, 7, 8, 9, 10, 11, 19, 33, 43] hX mixed ?_ | refine aD ?_ | refine aA ?_ | refine aB ?_); (simp [go_sem, hil]; try (refine ⟨by kernel_rfl, ?_⟩)))))
          try (repeat refine And.intro (by first | omega | (unfold maxLen; omega) | kernel_rfl | (refine ⟨by first | omega | (unfold maxLen; omega), by first | omega | (unfold maxLen; omega)⟩) | grind) ?_)
          first | refine aE (htl) rfl (by simp [go_sem]) rfl ?_ | refine aF (htl) rfl (by simp [go_sem]) rfl ?_
          try (simp [go_sem]; try (refine ⟨by kernel_rfl, ?_⟩))
          first | refine aE (htm) rfl (by simp [go_sem]) rfl ?_ | refine aF (htm) rfl (by simp [go_sem]) rfl ?_
          try (simp [go_sem]; try (refine ⟨by kernel_rfl, ?_⟩))
          first | refine aE (hmn) rfl (by simp [go_sem]) rfl ?_ | refine aF (hmn) rfl (by simp [go_sem]) rfl ?_
          try (simp [go_sem]; try (refine ⟨by kernel_rfl, ?_⟩))
          (repeat (first | refine aC ?_ | refine a7 ?_ | ((first | refine a8 [0, 1, 4, 5, 6, 7, 8, 9, 10, 11, 19, 33, 43] hX ?_ | refine a6 [0, 1, 4, 5, 6, 7, 8, 9, 10, 11, 19, 33, 43] hX mixed ?_ | refine aD ?_ | refine aA ?_ | refine aB ?_); (simp [go_sem, wi]; try (refine ⟨by kernel_rfl, ?_⟩)))))
          refine ⟨i, lo :: Q, Y - B * lo, ⟨by omega, aS.2 ⟨by omega, h2⟩, by simp; omega, s2, s3, ?_⟩, by omega, ?_⟩
          · simp only [val]; rw [s1, hd0]
          · rw [← hset]
            refine aL _ [.old 0 ⟨3, 1, (R.set i lo).map ii⟩] (by simp [go_sem]) ?_
            simp [go_sem]
end Go.Proofs.YtebinaffldlihaaGreatDoor
