import Derived.Test.YtebinaffldlihaaGreatDoorBigC
import Derived.Test.YtebinaffldlihaaGreatDoorBigQ
set_option linter.all false
namespace Go.Proofs.YtebinaffldlihaaGreatDoor
open Go.RowKit Go.Ab
attribute [local irreducible] AWP Go.Ab.Sub Means MeansH CallK CallG CallT CallGT
theorem kV {L : List Int} {i : Nat} (h : i < L.length) : (L.drop i).headD 0 = L[i] := by rw [List.drop_eq_getElem_cons h]; rfl
theorem iX {L : List Int} {i : Nat} (h : ¬ i < L.length) : (L.drop i).headD 0 = 0 := by rw [List.drop_of_length_le (by omega)]; rfl
theorem jJ {L S : List Int} {i m j : Nat} (hS : S.length = L.length) (h1 : S.take i = L.take i) (h2 : S.drop (i + m) = L.drop (i + m)) (hj : j < m) (x : Int) :
    (S.set (i + j) x).take i = L.take i ∧ (S.set (i + j) x).drop (i + m) = L.drop (i + m) := by
  rw [List.take_set_of_le (by omega), List.drop_set_of_lt (by omega)]
  exact ⟨h1, h2⟩
theorem vN {L S : List Int} {k : Nat} (h : S.drop k = L.drop k) (hk : k < S.length) (hk2 : k < L.length) : S[k] = L[k] ∧ S.drop (k + 1) = L.drop (k + 1) := by
  rw [List.drop_eq_getElem_cons hk, List.drop_eq_getElem_cons hk2] at h
  exact List.cons.inj h
theorem i7 {S : List Int} {i j : Nat} (h : i + j < S.length) (x : Int) : ((S.set (i + j) x).drop i).take (j + 1) = (S.drop i).take j ++ [x] := by
  rw [List.drop_set, if_neg (by omega), show i + j - i = j by omega, cW (by simp; omega)]
theorem wX {L : List Int} {i m j : Nat} (h : i + j < L.length) (hj : j < m) : ((L.drop i).take m)[j]'(by simp; omega) = L[i + j] := by simp
theorem pD {L : List Int} {i m j : Nat} (h : i + m ≤ L.length) (hj : j < m) : ((L.drop i).take m).drop j = L[i + j]'(by omega) :: ((L.drop i).take m).drop (j + 1) := by
  rw [List.drop_eq_getElem_cons (by simp; omega), wX (by omega) hj]
theorem mod_one {p x y a b : Int} (hx : 0 ≤ x ∧ x < p) (hy : 0 ≤ y ∧ y < p) (h : x + p * a = y + p * b) : x = y := by
  have e : (x + p * a) % p = (y + p * b) % p := by rw [h]
  rwa [Int.add_mul_emod_self_left, Int.add_mul_emod_self_left, Int.emod_eq_of_lt hx.1 hx.2, Int.emod_eq_of_lt hy.1 hy.2] at e
theorem lV {L S L2 : List Int} {i n : Nat} {x : Int} (hi : i + n ≤ L.length) (hS : S.length = L.length) (h1 : S.take i = L.take i) (h2 : S.drop (i + n) = L.drop (i + n)) (ho : okD S) (hv : val ((S.drop i).take n) = x)
    (hL2 : L2 = L.take i ++ padD n x ++ L.drop (i + n)) : L2 = S := by
  rw [hL2, wT (bC (bH ho i) n) (by simp; omega) hv, ← h1, ← h2, List.append_assoc, ← List.drop_drop, List.take_append_drop, List.take_append_drop]
set_option maxHeartbeats 4000000 in
set_option maxRecDepth 20000 in
theorem tU (L v : List Int) (i n : Nat) (g q : Int) (hL : okD L) (hv : okD v) (hn : n = v.length + 1) (hi : i + n ≤ L.length) (hll : L.length ≤ 30000) (hg : 0 ≤ g ∧ g < 1048576) (hq : q ≤ g ∧ g ≤ q + 1)
    (h1 : q * val v ≤ val ((L.drop i).take n)) (h2 : val ((L.drop i).take n) < (q + 1) * val v) (L2 : List Int) (hL2 : L2 = L.take i ++ padD n (val ((L.drop i).take n) - q * val v) ++ L.drop (i + n)) :
    MeansH Tryz.prog 98 [.row ⟨3, 1, L.map ii⟩] [.wn 0 1 i n, il v, ii g] (ii q) [.row ⟨3, 1, L2.map ii⟩] := by
  refine dI 1 78 [.tmp 6] Tryz.func98 rfl rfl rfl (by simp) (by decide) rfl fun X hX => ?_
  (repeat (first | refine aC ?_ | refine a7 ?_ | ((first | refine a8 [0, 1, 2, 6, 7, 8, 9, 10, 11, 13, 14, 15, 26, 45, 48, 49, 50, 61, 1000000] hX ?_ | refine a6 [0, 1, 2, 6, 7, 8, 9, 10, 11, 13, 14, 15, 26, 45, 48, 49, 50, 61, 1000000] hX mixed ?_ | refine aA ?_ | refine aB ?_); (simp [go_sem]; (try simp (disch := omega) only [w64, td, tm]); try (refine ⟨by kernel_rfl, ?_⟩)))))
  generalize hw : (L.drop i).take n = w at *
  have hwl : w.length = n := by rw [← hw]; simp; omega
  refine aQ (fun x : Nat × List Int × Int => ⟨mkE [(0, .wn 0 1 i n), (1, il v), (2, ii g), (7, ii x.2.2), (13, ii n), (14, ii x.1), (1000000, .ow 0)], [.row ⟨3, 1, x.2.1.map ii⟩]⟩)
    (fun x => x.1 ≤ n ∧ x.2.1.length = L.length ∧ (0 ≤ x.2.2 ∧ x.2.2 ≤ g) ∧ okD x.2.1 ∧ x.2.1.take i = L.take i ∧ x.2.1.drop (i + n) = L.drop (i + n) ∧ x.2.1.drop (i + x.1) = L.drop (i + x.1) ∧
      smC g 0 w v = (x.2.1.drop i).take x.1 ++ smC g x.2.2 (w.drop x.1) (v.drop x.1)) (fun x => n - x.1) (0, L, 0) ?_ ?_ ?_
  · refine aL _ [.old 0 ⟨3, 1, L.map ii⟩] (by simp [go_sem]) ?_
    simp [go_sem]
  · simp; exact ⟨hg.1, hL⟩
  · rintro ⟨j, S, c⟩ ⟨hj, hS, hc, hSo, hS1, hS2, hS3, hE⟩
    simp only [] at hj hS hc hSo hS1 hS2 hS3 hE
    (repeat (first | refine aC ?_ | refine a7 ?_ | ((first | refine a8 [0, 1, 2, 6, 7, 8, 9, 10, 11, 13, 14, 15, 26, 45, 48, 49, 50, 61, 1000000] hX ?_ | refine a6 [0, 1, 2, 6, 7, 8, 9, 10, 11, 13, 14, 15, 26, 45, 48, 49, 50, 61, 1000000] hX mixed ?_ | refine aA ?_ | refine aB ?_); (simp [go_sem]; try (refine ⟨by kernel_rfl, ?_⟩)))))
    refine aG (b := decide (j < n)) (by simp [go_sem]) (fun hd => ?_) (fun hd => ?_)
    · simp at hd
      have hij : i + j < S.length := by omega
      have hij2 : i + j < L.length := by omega
      have hx := b7 hL hij2
      obtain ⟨hS4, hS5⟩ := vN hS3 hij hij2
      rw [← hw, pD hi hd, hw, smC] at hE
      (repeat (first | refine aC ?_ | refine a7 ?_ | ((first | refine a8 [0, 1, 2, 6, 7, 8, 9, 10, 11, 13, 14, 15, 26, 45, 48, 49, 50, 61, 1000000] hX ?_ | refine a6 [0, 1, 2, 6, 7, 8, 9, 10, 11, 13, 14, 15, 26, 45, 48, 49, 50, 61, 1000000] hX mixed ?_ | refine aA ?_ | refine aB ?_); (simp [go_sem, hd, hij, hS4]; (try simp (disch := omega) only [w64, td, tm]); try (refine ⟨by kernel_rfl, ?_⟩)))))
      by_cases hiC : j < v.length
      · have hy := b7 hv hiC
        rw [kV hiC, List.tail_drop] at hE
        obtain ⟨hb1, hb2⟩ := zF hg.1 hc hx hy
        refine aG (b := true) (by simp [go_sem, hiC]) (fun _ => ?_) (fun h => by cases h)
        (repeat (first | refine aC ?_ | refine a7 ?_ | ((first | refine a8 [0, 1, 2, 6, 7, 8, 9, 10, 11, 13, 14, 15, 26, 45, 48, 49, 50, 61, 1000000] hX ?_ | refine a6 [0, 1, 2, 6, 7, 8, 9, 10, 11, 13, 14, 15, 26, 45, 48, 49, 50, 61, 1000000] hX mixed ?_ | refine aA ?_ | refine aB ?_); (simp [go_sem, hiC, hij]; (try simp (disch := omega) only [w64, td, tm]); try (refine ⟨by kernel_rfl, ?_⟩)))))
        refine ⟨hd, ?_⟩
        (repeat (first | refine aC ?_ | refine a7 ?_ | ((first | refine a8 [0, 1, 2, 6, 7, 8, 9, 10, 11, 13, 14, 15, 26, 45, 48, 49, 50, 61, 1000000] hX ?_ | refine a6 [0, 1, 2, 6, 7, 8, 9, 10, 11, 13, 14, 15, 26, 45, 48, 49, 50, 61, 1000000] hX mixed ?_ | refine aA ?_ | refine aB ?_); (simp [go_sem]; (try simp (disch := omega) only [w64, td, tm]); try (refine ⟨by kernel_rfl, ?_⟩)))))
        obtain ⟨m1, m2⟩ := jJ hS hS1 hS2 hd ((L[i + j] - c - g * v[j]) % 1048576)
        refine ⟨j + 1, S.set (i + j) ((L[i + j] - c - g * v[j]) % 1048576), -((L[i + j] - c - g * v[j]) / 1048576), ⟨by omega, by simpa using hS, hb2, dY hSo _ (by omega), m1, m2, ?_, ?_⟩, by omega, ?_⟩
        · rw [← Nat.add_assoc, bP, hS5]
        · rw [hE, i7 hij]; simp
        · refine aL _ [.old 0 ⟨3, 1, (S.set (i + j) ((L[i + j] - c - g * v[j]) % 1048576)).map ii⟩] (by simp [go_sem]) ?_
          simp [go_sem]
      · rw [iX hiC, List.tail_drop, Int.mul_zero, Int.sub_zero] at hE
        refine aG (b := false) (by simp [go_sem]; omega) (fun h => by cases h) (fun _ => ?_)
        (repeat (first | refine aC ?_ | refine a7 ?_ | ((first | refine a8 [0, 1, 2, 6, 7, 8, 9, 10, 11, 13, 14, 15, 26, 45, 48, 49, 50, 61, 1000000] hX ?_ | refine a6 [0, 1, 2, 6, 7, 8, 9, 10, 11, 13, 14, 15, 26, 45, 48, 49, 50, 61, 1000000] hX mixed ?_ | refine aA ?_ | refine aB ?_); (simp [go_sem, hij]; (try simp (disch := omega) only [w64, td, tm]); try (refine ⟨by kernel_rfl, ?_⟩)))))
        refine ⟨hd, ?_⟩
        (repeat (first | refine aC ?_ | refine a7 ?_ | ((first | refine a8 [0, 1, 2, 6, 7, 8, 9, 10, 11, 13, 14, 15, 26, 45, 48, 49, 50, 61, 1000000] hX ?_ | refine a6 [0, 1, 2, 6, 7, 8, 9, 10, 11, 13, 14, 15, 26, 45, 48, 49, 50, 61, 1000000] hX mixed ?_ | refine aA ?_ | refine aB ?_); (simp [go_sem]; (try simp (disch := omega) only [w64, td, tm]); try (refine ⟨by kernel_rfl, ?_⟩)))))
        obtain ⟨m1, m2⟩ := jJ hS hS1 hS2 hd ((L[i + j] - c) % 1048576)
        refine ⟨j + 1, S.set (i + j) ((L[i + j] - c) % 1048576), -((L[i + j] - c) / 1048576), ⟨by omega, by simpa using hS, by omega, dY hSo _ (by omega), m1, m2, ?_, ?_⟩, by omega, ?_⟩
        · rw [← Nat.add_assoc, bP, hS5]
        · rw [hE, i7 hij]; simp
        · refine aL _ [.old 0 ⟨3, 1, (S.set (i + j) ((L[i + j] - c) % 1048576)).map ii⟩] (by simp [go_sem]) ?_
          simp [go_sem]
    · have hjn : j = n := by simp at hd; omega
      subst hjn
      rw [List.drop_of_length_le (l := w) (by omega), smC] at hE
      have hvv := rT g 0 w v _ c (by omega) hE
      rw [hwl] at hvv
      generalize hT : (S.drop i).take j = T at *
      have hTo : okD T := by rw [← hT]; exact bC (bH hSo i) j
      have hTl : T.length = j := by rw [← hT]; simp; omega
      have hT1 := aT hTo
      have hT2 := c7 hTo
      rw [hTl] at hT2
      have hV1 := aT hv
      have hV2 := c7 hv
      have hpp : (1048576 : Int) ^ j = 1048576 ^ v.length * 1048576 := by rw [hn, Int.pow_succ]
      (repeat (first | refine aC ?_ | refine a7 ?_ | ((first | refine a8 [0, 1, 2, 6, 7, 8, 9, 10, 11, 13, 14, 15, 26, 45, 48, 49, 50, 61, 1000000] hX ?_ | refine a6 [0, 1, 2, 6, 7, 8, 9, 10, 11, 13, 14, 15, 26, 45, 48, 49, 50, 61, 1000000] hX mixed ?_ | refine aA ?_ | refine aB ?_); (simp [go_sem]; (try simp (disch := omega) only [w64, td, tm]); try (refine ⟨by kernel_rfl, ?_⟩)))))
      refine aG (b := decide (c = 0)) (by simp [go_sem]) (fun hb => ?_) (fun hb => ?_)
      · simp at hb
        subst hb
        have hgq : g = q := by
          have : g = q ∨ g = q + 1 := by omega
          rcases this with h | h
          · exact h
          · subst h; omega
        subst hgq
        have hLS : L2 = S := lV hi hS hS1 hS2 hSo (by rw [hT]; omega) hL2
        subst hLS
        (repeat (first | refine aC ?_ | refine a7 ?_ | ((first | refine a8 [0, 1, 2, 6, 7, 8, 9, 10, 11, 13, 14, 15, 26, 45, 48, 49, 50, 61, 1000000] hX ?_ | refine a6 [0, 1, 2, 6, 7, 8, 9, 10, 11, 13, 14, 15, 26, 45, 48, 49, 50, 61, 1000000] hX mixed ?_ | refine aA ?_ | refine aB ?_); (simp [go_sem]; (try simp (disch := omega) only [w64, td, tm]); try (refine ⟨by kernel_rfl, ?_⟩)))))
        refine aD ?_; (try simp only [thenQ, blkQ, loopQ]); refine bY [(6, ii g), (1000000, .ow 0)] [.old 0 ⟨3, 1, L2.map ii⟩] ?_
        simp [go_sem]
      · simp at hb
        have hgq : g = q + 1 := by
          have : g = q ∨ g = q + 1 := by omega
          rcases this with h | h
          · subst h
            have : (1048576 : Int) ^ j ≤ 1048576 ^ j * c := by
              have := Int.mul_le_mul_of_nonneg_left (show 1 ≤ c by omega) (show (0 : Int) ≤ 1048576 ^ j by omega)
              simpa using this
            omega
          · exact h
        subst hgq
        have hval := k6 0 T v (by omega)
        (repeat (first | refine aC ?_ | refine a7 ?_ | ((first | refine a8 [0, 1, 2, 6, 7, 8, 9, 10, 11, 13, 14, 15, 26, 45, 48, 49, 50, 61, 1000000] hX ?_ | refine a6 [0, 1, 2, 6, 7, 8, 9, 10, 11, 13, 14, 15, 26, 45, 48, 49, 50, 61, 1000000] hX mixed ?_ | refine aA ?_ | refine aB ?_); (simp [go_sem]; (try simp (disch := omega) only [w64, td, tm]); try (refine ⟨by kernel_rfl, ?_⟩)))))
        refine aQ (fun x : Nat × List Int × Int => ⟨mkE [(0, .wn 0 1 i j), (1, il v), (2, ii (q + 1)), (10, ii x.2.2), (48, ii j), (49, ii x.1), (1000000, .ow 0)], [.row ⟨3, 1, x.2.1.map ii⟩]⟩)
          (fun x => x.1 ≤ j ∧ x.2.1.length = L.length ∧ (0 ≤ x.2.2 ∧ x.2.2 ≤ 1) ∧ okD x.2.1 ∧ x.2.1.take i = L.take i ∧ x.2.1.drop (i + j) = L.drop (i + j) ∧ x.2.1.drop (i + x.1) = S.drop (i + x.1) ∧
            addC 0 T v = (x.2.1.drop i).take x.1 ++ addC x.2.2 (T.drop x.1) (v.drop x.1)) (fun x => j - x.1) (0, S, 0) ?_ ?_ ?_
        · refine aL _ [.old 0 ⟨3, 1, S.map ii⟩] (by simp [go_sem]) ?_
          simp [go_sem]
        · simp; exact ⟨hS, hSo, hS1, hS2⟩
        · rintro ⟨k, R, d⟩ ⟨hk, hR, hdd, hRo, hR1, hR2, hR3, hF⟩
          simp only [] at hk hR hdd hRo hR1 hR2 hR3 hF
          (repeat (first | refine aC ?_ | refine a7 ?_ | ((first | refine a8 [0, 1, 2, 6, 7, 8, 9, 10, 11, 13, 14, 15, 26, 45, 48, 49, 50, 61, 1000000] hX ?_ | refine a6 [0, 1, 2, 6, 7, 8, 9, 10, 11, 13, 14, 15, 26, 45, 48, 49, 50, 61, 1000000] hX mixed ?_ | refine aA ?_ | refine aB ?_); (simp [go_sem]; try (refine ⟨by kernel_rfl, ?_⟩)))))
          refine aG (b := decide (k < j)) (by simp [go_sem]) (fun hd3 => ?_) (fun hd3 => ?_)
          · simp at hd3
            have hik : i + k < R.length := by omega
            have hik2 : i + k < S.length := by omega
            have hx := b7 hSo hik2
            obtain ⟨hR4, hR5⟩ := vN hR3 hik hik2
            rw [← hT, pD (by omega) hd3, hT, addC] at hF
            (repeat (first | refine aC ?_ | refine a7 ?_ | ((first | refine a8 [0, 1, 2, 6, 7, 8, 9, 10, 11, 13, 14, 15, 26, 45, 48, 49, 50, 61, 1000000] hX ?_ | refine a6 [0, 1, 2, 6, 7, 8, 9, 10, 11, 13, 14, 15, 26, 45, 48, 49, 50, 61, 1000000] hX mixed ?_ | refine aA ?_ | refine aB ?_); (simp [go_sem, hd3, hik, hR4]; (try simp (disch := omega) only [w64, td, tm]); try (refine ⟨by kernel_rfl, ?_⟩)))))
            by_cases hiC : k < v.length
            · have hy := b7 hv hiC
              rw [kV hiC, List.tail_drop] at hF
              refine aG (b := true) (by simp [go_sem, hiC]) (fun _ => ?_) (fun h => by cases h)
              (repeat (first | refine aC ?_ | refine a7 ?_ | ((first | refine a8 [0, 1, 2, 6, 7, 8, 9, 10, 11, 13, 14, 15, 26, 45, 48, 49, 50, 61, 1000000] hX ?_ | refine a6 [0, 1, 2, 6, 7, 8, 9, 10, 11, 13, 14, 15, 26, 45, 48, 49, 50, 61, 1000000] hX mixed ?_ | refine aA ?_ | refine aB ?_); (simp [go_sem, hiC, hik]; (try simp (disch := omega) only [w64, td, tm]); try (refine ⟨by kernel_rfl, ?_⟩)))))
              refine ⟨hd3, ?_⟩
              (repeat (first | refine aC ?_ | refine a7 ?_ | ((first | refine a8 [0, 1, 2, 6, 7, 8, 9, 10, 11, 13, 14, 15, 26, 45, 48, 49, 50, 61, 1000000] hX ?_ | refine a6 [0, 1, 2, 6, 7, 8, 9, 10, 11, 13, 14, 15, 26, 45, 48, 49, 50, 61, 1000000] hX mixed ?_ | refine aA ?_ | refine aB ?_); (simp [go_sem]; (try simp (disch := omega) only [w64, td, tm]); try (refine ⟨by kernel_rfl, ?_⟩)))))
              obtain ⟨m1, m2⟩ := jJ hR hR1 hR2 hd3 ((d + S[i + k] + v[k]) % 1048576)
              refine ⟨k + 1, R.set (i + k) ((d + S[i + k] + v[k]) % 1048576), (d + S[i + k] + v[k]) / 1048576, ⟨by omega, by simpa using hR, by omega, dY hRo _ (by omega), m1, m2, ?_, ?_⟩, by omega, ?_⟩
              · rw [← Nat.add_assoc, bP, hR5]
              · rw [hF, i7 hik]; simp
              · refine aL _ [.old 0 ⟨3, 1, (R.set (i + k) ((d + S[i + k] + v[k]) % 1048576)).map ii⟩] (by simp [go_sem]) ?_
                simp [go_sem]
            · rw [iX hiC, List.tail_drop, Int.add_zero] at hF
              refine aG (b := false) (by simp [go_sem]; omega) (fun h => by cases h) (fun _ => ?_)
              (repeat (first | refine aC ?_ | refine a7 ?_ | ((first | refine a8 [0, 1, 2, 6, 7, 8, 9, 10, 11, 13, 14, 15, 26, 45, 48, 49, 50, 61, 1000000] hX ?_ | refine a6 [0, 1, 2, 6, 7, 8, 9, 10, 11, 13, 14, 15, 26, 45, 48, 49, 50, 61, 1000000] hX mixed ?_ | refine aA ?_ | refine aB ?_); (simp [go_sem, hik]; (try simp (disch := omega) only [w64, td, tm]); try (refine ⟨by kernel_rfl, ?_⟩)))))
              refine ⟨hd3, ?_⟩
              (repeat (first | refine aC ?_ | refine a7 ?_ | ((first | refine a8 [0, 1, 2, 6, 7, 8, 9, 10, 11, 13, 14, 15, 26, 45, 48, 49, 50, 61, 1000000] hX ?_ | refine a6 [0, 1, 2, 6, 7, 8, 9, 10, 11, 13, 14, 15, 26, 45, 48, 49, 50, 61, 1000000] hX mixed ?_ | refine aA ?_ | refine aB ?_); (simp [go_sem]; (try simp (disch := omega) only [w64, td, tm]); try (refine ⟨by kernel_rfl, ?_⟩)))))
              obtain ⟨m1, m2⟩ := jJ hR hR1 hR2 hd3 ((d + S[i + k]) % 1048576)
              refine ⟨k + 1, R.set (i + k) ((d + S[i + k]) % 1048576), (d + S[i + k]) / 1048576, ⟨by omega, by simpa using hR, by omega, dY hRo _ (by omega), m1, m2, ?_, ?_⟩, by omega, ?_⟩
              · rw [← Nat.add_assoc, bP, hR5]
              · rw [hF, i7 hik]; simp
              · refine aL _ [.old 0 ⟨3, 1, (R.set (i + k) ((d + S[i + k]) % 1048576)).map ii⟩] (by simp [go_sem]) ?_
                simp [go_sem]
          · have hkj : k = j := by simp at hd3; omega
            subst hkj
            rw [List.drop_of_length_le (l := T) (by omega), addC] at hF
            have hT3 : okD ((R.drop i).take k) := bC (bH hRo i) k
            have hT4 : ((R.drop i).take k).length = k := by simp; omega
            have hT5 := aT hT3
            have hT6 := c7 hT3
            rw [hT4] at hT6
            have hva := cS ((R.drop i).take k) [d]
            rw [← hF, hval, hT4] at hva
            have hva2 : val ((R.drop i).take k) = val w - q * val v := by
              refine mod_one (p := 1048576 ^ k) (a := d) (b := c) ⟨hT5, hT6⟩ ⟨by omega, ?_⟩ ?_
              · rw [Int.add_mul, Int.one_mul] at h2; omega
              · rw [Int.add_mul, Int.one_mul] at hvv
                simp only [val] at hva
                rw [show d + 1048576 * 0 = d by omega] at hva
                omega
            have hLS : L2 = R := lV hi hR hR1 hR2 hRo hva2 hL2
            subst hLS
            (repeat (first | refine aC ?_ | refine a7 ?_ | ((first | refine a8 [0, 1, 2, 6, 7, 8, 9, 10, 11, 13, 14, 15, 26, 45, 48, 49, 50, 61, 1000000] hX ?_ | refine a6 [0, 1, 2, 6, 7, 8, 9, 10, 11, 13, 14, 15, 26, 45, 48, 49, 50, 61, 1000000] hX mixed ?_ | refine aA ?_ | refine aB ?_); (simp [go_sem]; (try simp (disch := omega) only [w64, td, tm]); try (refine ⟨by kernel_rfl, ?_⟩)))))
            refine aD ?_; (try simp only [thenQ, blkQ, loopQ]); refine bY [(6, ii q), (1000000, .ow 0)] [.old 0 ⟨3, 1, L2.map ii⟩] ?_
            simp [go_sem]
end Go.Proofs.YtebinaffldlihaaGreatDoor
