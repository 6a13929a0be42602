import Derived.Test.YtebinaffldlihaaGreatDoorBigA
import Derived.Test.YtebinaffldlihaaGreatDoorFw5
set_option linter.all false
namespace Go.Proofs.YtebinaffldlihaaGreatDoor
open Go.RowKit Go.Ab
attribute [local irreducible] AWP Go.Ab.Sub Means MeansH CallK CallG CallT CallGT
theorem jK (x : Int) : Means false Tryz.prog 99 [ii x] (bb false) := by
  refine aK false 6 [.tmp 2] Tryz.func99 rfl rfl rfl (by simp) (by decide) rfl fun X hX => ?_
  (repeat (first | refine aC ?_ | refine a7 ?_ | ((first | refine a8 [0, 2] hX ?_ | refine a6 [0, 2] hX mixed ?_ | refine aD ?_ | refine aA ?_ | refine aB ?_); (simp [go_sem]; try (refine ⟨by kernel_rfl, ?_⟩)))))
def cmpI (x y : Int) : Int := if x < y then -1 else if y < x then 1 else 0
theorem lW (x y : Int) : Means false Tryz.prog 79 [ii x, ii y] (ii (cmpI x y)) := by
  refine aK false 20 [.tmp 4] Tryz.func79 rfl rfl rfl (by simp) (by decide) rfl fun X hX => ?_
  (repeat (first | refine aC ?_ | refine a7 ?_ | ((first | refine a8 [0, 1, 4, 5, 6, 11, 12, 13, 16, 19] hX ?_ | refine a6 [0, 1, 4, 5, 6, 11, 12, 13, 16, 19] hX mixed ?_ | refine aD ?_ | refine aA ?_ | refine aB ?_); (simp [go_sem]; try (refine ⟨by kernel_rfl, ?_⟩)))))
  first | refine aE (jK x) rfl (by simp [go_sem]) rfl ?_ | refine aF (jK x) rfl (by simp [go_sem]) rfl ?_
  try (simp [go_sem]; try (refine ⟨by kernel_rfl, ?_⟩))
  (repeat (first | refine aC ?_ | refine a7 ?_ | ((first | refine a8 [0, 1, 4, 5, 6, 11, 12, 13, 16, 19] hX ?_ | refine a6 [0, 1, 4, 5, 6, 11, 12, 13, 16, 19] hX mixed ?_ | refine aD ?_ | refine aA ?_ | refine aB ?_); (simp [go_sem]; try (refine ⟨by kernel_rfl, ?_⟩)))))
  first | refine aE (jK y) rfl (by simp [go_sem]) rfl ?_ | refine aF (jK y) rfl (by simp [go_sem]) rfl ?_
  try (simp [go_sem]; try (refine ⟨by kernel_rfl, ?_⟩))
  (repeat (first | refine aC ?_ | refine a7 ?_ | ((first | refine a8 [0, 1, 4, 5, 6, 11, 12, 13, 16, 19] hX ?_ | refine a6 [0, 1, 4, 5, 6, 11, 12, 13, 16, 19] hX mixed ?_ | refine aD ?_ | refine aA ?_ | refine aB ?_); (simp [go_sem]; try (refine ⟨by kernel_rfl, ?_⟩)))))
  refine aG (b := false) (by simp [go_sem]) (fun hb => by cases hb) (fun _ => ?_)
  (repeat (first | refine aC ?_ | refine a7 ?_ | ((first | refine a8 [0, 1, 4, 5, 6, 11, 12, 13, 16, 19] hX ?_ | refine a6 [0, 1, 4, 5, 6, 11, 12, 13, 16, 19] hX mixed ?_ | refine aD ?_ | refine aA ?_ | refine aB ?_); (simp [go_sem]; try (refine ⟨by kernel_rfl, ?_⟩)))))
  refine aG (b := false) (by simp [go_sem]) (fun hb => by cases hb) (fun _ => ?_)
  (repeat (first | refine aC ?_ | refine a7 ?_ | ((first | refine a8 [0, 1, 4, 5, 6, 11, 12, 13, 16, 19] hX ?_ | refine a6 [0, 1, 4, 5, 6, 11, 12, 13, 16, 19] hX mixed ?_ | refine aD ?_ | refine aA ?_ | refine aB ?_); (simp [go_sem]; try (refine ⟨by kernel_rfl, ?_⟩)))))
  refine aG (b := decide (x < y)) (by simp [go_sem]) (fun hb => ?_) (fun hb => ?_)
  · simp at hb
    (repeat (first | refine aC ?_ | refine a7 ?_ | ((first | refine a8 [0, 1, 4, 5, 6, 11, 12, 13, 16, 19] hX ?_ | refine a6 [0, 1, 4, 5, 6, 11, 12, 13, 16, 19] hX mixed ?_ | refine aD ?_ | refine aA ?_ | refine aB ?_); (simp [go_sem]; try (refine ⟨by kernel_rfl, ?_⟩)))))
    simp [cmpI, hb]
  · simp at hb
    (repeat (first | refine aC ?_ | refine a7 ?_ | ((first | refine a8 [0, 1, 4, 5, 6, 11, 12, 13, 16, 19] hX ?_ | refine a6 [0, 1, 4, 5, 6, 11, 12, 13, 16, 19] hX mixed ?_ | refine aD ?_ | refine aA ?_ | refine aB ?_); (simp [go_sem]; try (refine ⟨by kernel_rfl, ?_⟩)))))
    refine aG (b := decide (y < x)) (by simp [go_sem]) (fun hc => ?_) (fun hc => ?_)
    · simp at hc
      (repeat (first | refine aC ?_ | refine a7 ?_ | ((first | refine a8 [0, 1, 4, 5, 6, 11, 12, 13, 16, 19] hX ?_ | refine a6 [0, 1, 4, 5, 6, 11, 12, 13, 16, 19] hX mixed ?_ | refine aD ?_ | refine aA ?_ | refine aB ?_); (simp [go_sem]; try (refine ⟨by kernel_rfl, ?_⟩)))))
      rw [cmpI, if_neg (by omega), if_pos hc]
    · simp at hc
      (repeat (first | refine aC ?_ | refine a7 ?_ | ((first | refine a8 [0, 1, 4, 5, 6, 11, 12, 13, 16, 19] hX ?_ | refine a6 [0, 1, 4, 5, 6, 11, 12, 13, 16, 19] hX mixed ?_ | refine aD ?_ | refine aA ?_ | refine aB ?_); (simp [go_sem]; try (refine ⟨by kernel_rfl, ?_⟩)))))
      rw [cmpI, if_neg (by omega), if_neg (by omega)]
theorem mQ {x y a b : Int} (h1 : x < y ↔ a < b) (h2 : y < x ↔ b < a) : cmpI x y = cmpI a b := by
  unfold cmpI; simp only [h1, h2]
theorem fJ (a b : List Int) (hla : a.length ≤ 10000) (hlb : b.length ≤ 10000) (ha : okD a) (hb : okD b) (ta : dg (val a) = a) (tb : dg (val b) = b) : Means false Tryz.prog 80 [il a, il b] (ii (cmpI (val a) (val b))) := by
  refine aK false 41 [.tmp 4] Tryz.func80 rfl rfl rfl (by simp) (by decide) rfl fun X hX => ?_
  (repeat (first | refine aC ?_ | refine a7 ?_ | ((first | refine a8 [0, 1, 4, 5, 10, 20, 31] hX ?_ | refine a6 [0, 1, 4, 5, 10, 20, 31] hX mixed ?_ | refine aD ?_ | refine aA ?_ | refine aB ?_); (simp [go_sem]; try (refine ⟨by kernel_rfl, ?_⟩)))))
  refine aG (b := decide (a.length ≠ b.length)) (by simp [go_sem]; try omega) (fun hd => ?_) (fun hd => ?_)
  · simp at hd
    have e : cmpI a.length b.length = cmpI (val a) (val b) := by
      refine mQ ?_ ?_
      · constructor
        · intro h
          have := fun h2 => aW (a := val b) (b := val a) h2
          rw [ta, tb] at this
          omega
        · intro h
          have := aW (a := val a) (b := val b) (by omega)
          rw [ta, tb] at this
          omega
      · constructor
        · intro h
          have := fun h2 => aW (a := val a) (b := val b) h2
          rw [ta, tb] at this
          omega
        · intro h
          have := aW (a := val b) (b := val a) (by omega)
          rw [ta, tb] at this
          omega
    (repeat (first | refine aC ?_ | refine a7 ?_ | ((first | refine a8 [0, 1, 4, 5, 10, 20, 31] hX ?_ | refine a6 [0, 1, 4, 5, 10, 20, 31] hX mixed ?_ | refine aD ?_ | refine aA ?_ | refine aB ?_); (simp [go_sem]; try (refine ⟨by kernel_rfl, ?_⟩)))))
    first | refine aE (lW a.length b.length) rfl (by simp [go_sem]) rfl ?_ | refine aF (lW a.length b.length) rfl (by simp [go_sem]) rfl ?_
    try (simp [go_sem]; try (refine ⟨by kernel_rfl, ?_⟩))
    (repeat (first | refine aC ?_ | refine a7 ?_ | ((first | refine a8 [0, 1, 4, 5, 10, 20, 31] hX ?_ | refine a6 [0, 1, 4, 5, 10, 20, 31] hX mixed ?_ | refine aD ?_ | refine aA ?_ | refine aB ?_); (simp [go_sem]; try (refine ⟨by kernel_rfl, ?_⟩)))))
    rw [e]
  · simp at hd
    (repeat (first | refine aC ?_ | refine a7 ?_ | ((first | refine a8 [0, 1, 4, 5, 10, 20, 31] hX ?_ | refine a6 [0, 1, 4, 5, 10, 20, 31] hX mixed ?_ | refine aD ?_ | refine aA ?_ | refine aB ?_); (simp [go_sem]; (try simp (disch := omega) only [w64, td, tm]); try (refine ⟨by kernel_rfl, ?_⟩)))))
    refine aQ (fun n : Nat => ⟨mkE [(0, il a), (1, il b), (5, ii ((n : Int) - 1))], []⟩) (fun n => n ≤ a.length ∧ a.drop n = b.drop n) (fun n => n) a.length ?_ ?_ ?_
    · refine aL _ [] (by simp [go_sem]) ?_
      simp [go_sem]
    · refine ⟨Nat.le_refl _, ?_⟩
      rw [List.drop_length, hd, List.drop_length]
    · rintro n ⟨hn, he⟩
      cases n with
      | zero =>
        (repeat (first | refine aC ?_ | refine a7 ?_ | ((first | refine a8 [0, 1, 4, 5, 10, 20, 31] hX ?_ | refine a6 [0, 1, 4, 5, 10, 20, 31] hX mixed ?_ | refine aD ?_ | refine aA ?_ | refine aB ?_); (simp [go_sem]; try (refine ⟨by kernel_rfl, ?_⟩)))))
        refine aG (b := false) (by simp [go_sem]) (fun hb => by cases hb) (fun _ => ?_)
        (repeat (first | refine aC ?_ | refine a7 ?_ | ((first | refine a8 [0, 1, 4, 5, 10, 20, 31] hX ?_ | refine a6 [0, 1, 4, 5, 10, 20, 31] hX mixed ?_ | refine aD ?_ | refine aA ?_ | refine aB ?_); (simp [go_sem]; try (refine ⟨by kernel_rfl, ?_⟩)))))
        simp only [List.drop_zero] at he
        subst he
        rw [cmpI, if_neg (by omega), if_neg (by omega)]
      | succ n =>
        have h1 : n < a.length := by omega
        have h2 : n < b.length := by omega
        (repeat (first | refine aC ?_ | refine a7 ?_ | ((first | refine a8 [0, 1, 4, 5, 10, 20, 31] hX ?_ | refine a6 [0, 1, 4, 5, 10, 20, 31] hX mixed ?_ | refine aD ?_ | refine aA ?_ | refine aB ?_); (simp [go_sem]; (try simp (disch := omega) only [w64, td, tm]); try (refine ⟨by kernel_rfl, ?_⟩)))))
        refine aG (b := true) (by simp [go_sem]; try omega) (fun _ => ?_) (fun hb => by cases hb)
        (repeat (first | refine aC ?_ | refine a7 ?_ | ((first | refine a8 [0, 1, 4, 5, 10, 20, 31] hX ?_ | refine a6 [0, 1, 4, 5, 10, 20, 31] hX mixed ?_ | refine aD ?_ | refine aA ?_ | refine aB ?_); (simp [go_sem, h1, h2]; (try simp (disch := omega) only [w64, td, tm]); try (refine ⟨by kernel_rfl, ?_⟩)))))
        (repeat refine And.intro (by first | omega | (unfold maxLen; omega) | kernel_rfl | (refine ⟨by first | omega | (unfold maxLen; omega), by first | omega | (unfold maxLen; omega)⟩) | grind) ?_)
        try (simp [go_sem, h1, h2]; try (refine ⟨by kernel_rfl, ?_⟩))
        refine aG (b := decide (a[n] ≠ b[n])) (by simp [go_sem, h1, h2]; try omega) (fun hc => ?_) (fun hc => ?_)
        · simp at hc
          have e : cmpI a[n] b[n] = cmpI (val a) (val b) := by
            by_cases hlt : a[n] < b[n]
            · have := lX ha hb h1 h2 hlt he
              rw [cmpI, cmpI, if_pos hlt, if_pos this]
            · have hgt : b[n] < a[n] := by omega
              have := lX hb ha h2 h1 hgt he.symm
              rw [cmpI, cmpI, if_neg hlt, if_pos hgt, if_neg (by omega), if_pos this]
          (repeat (first | refine aC ?_ | refine a7 ?_ | ((first | refine a8 [0, 1, 4, 5, 10, 20, 31] hX ?_ | refine a6 [0, 1, 4, 5, 10, 20, 31] hX mixed ?_ | refine aD ?_ | refine aA ?_ | refine aB ?_); (simp [go_sem, h1, h2]; (try simp (disch := omega) only [w64, td, tm]); try (refine ⟨by kernel_rfl, ?_⟩)))))
          (repeat refine And.intro (by first | omega | (unfold maxLen; omega) | kernel_rfl | (refine ⟨by first | omega | (unfold maxLen; omega), by first | omega | (unfold maxLen; omega)⟩) | grind) ?_)
          try (simp [go_sem, h1, h2]; try (refine ⟨by kernel_rfl, ?_⟩))
          first | refine aE (lW a[n] b[n]) rfl (by simp [go_sem]) rfl ?_ | refine aF (lW a[n] b[n]) rfl (by simp [go_sem]) rfl ?_
          try (simp [go_sem]; try (refine ⟨by kernel_rfl, ?_⟩))
          (repeat refine And.intro (by first | omega | (unfold maxLen; omega) | kernel_rfl | (refine ⟨by first | omega | (unfold maxLen; omega), by first | omega | (unfold maxLen; omega)⟩) | grind) ?_)
          (repeat (first | refine aC ?_ | refine a7 ?_ | ((first | refine a8 [0, 1, 4, 5, 10, 20, 31] hX ?_ | refine a6 [0, 1, 4, 5, 10, 20, 31] hX mixed ?_ | refine aD ?_ | refine aA ?_ | refine aB ?_); (simp [go_sem]; try (refine ⟨by kernel_rfl, ?_⟩)))))
          rw [e]
        · simp at hc
          (repeat (first | refine aC ?_ | refine a7 ?_ | ((first | refine a8 [0, 1, 4, 5, 10, 20, 31] hX ?_ | refine a6 [0, 1, 4, 5, 10, 20, 31] hX mixed ?_ | refine aD ?_ | refine aA ?_ | refine aB ?_); (simp [go_sem]; (try simp (disch := omega) only [w64, td, tm]); try (refine ⟨by kernel_rfl, ?_⟩)))))
          refine ⟨n, ⟨by omega, ?_⟩, by omega, ?_⟩
          · rw [List.drop_eq_getElem_cons h1, List.drop_eq_getElem_cons h2, he, hc]
          · refine aL _ [] (by simp [go_sem]) ?_
            simp [go_sem]
theorem tG {c x : Int} {xs ys : List Int} (hc : 0 ≤ c ∧ c ≤ 1) (hx : 0 ≤ x ∧ x < 1048576) (hy : 0 ≤ ys.headD 0 ∧ ys.headD 0 < 1048576) :
    subC c (x :: xs) ys = ((x - c - ys.headD 0) % 1048576) :: subC ((x - c - ys.headD 0) / 1048576 % 2) xs ys.tail := by
  simp only [subC]
  split
  · rw [show (x - c - ys.headD 0) / 1048576 % 2 = 0 by omega, show (x - c - ys.headD 0) % 1048576 = x - (c + ys.headD 0) by omega]
  · rw [show (x - c - ys.headD 0) / 1048576 % 2 = 1 by omega, show (x - c - ys.headD 0) % 1048576 = x + 1048576 - (c + ys.headD 0) by omega]
theorem bP {T : List Int} {i : Nat} (x : Int) : (T.set i x).drop (i + 1) = T.drop (i + 1) := by
  rw [List.drop_set_of_lt (by omega)]
set_option maxHeartbeats 1000000 in
set_option maxRecDepth 20000 in
theorem tP (a b : List Int) (ha : okD a) (hb : okD b) (hla : a.length ≤ 10000) (hlb : b.length ≤ 10000) (hle : val b ≤ val a) : Means true Tryz.prog 75 [il a, il b] (il (dg (val a - val b))) := by
  refine aK true 43 [.tmp 4] Tryz.func75 rfl rfl rfl (by simp) (by decide) rfl fun X hX => ?_
  (repeat (first | refine aC ?_ | refine a7 ?_ | ((first | refine a8 [0, 1, 4, 5, 6, 7, 8, 12, 13, 14, 25] hX ?_ | refine a6 [0, 1, 4, 5, 6, 7, 8, 12, 13, 14, 25] hX mixed ?_ | refine aD ?_ | refine aA ?_ | refine aB ?_); (simp [go_sem]; try (refine ⟨by kernel_rfl, ?_⟩)))))
  first | refine b9 [] (mG a (by omega)) (by simp [go_sem]) ?_ | refine b6 [] (mG a (by omega)) (by simp [go_sem]) ?_ | refine b4 [] (mG a (by omega)) (by simp [go_sem]) ?_
  try (simp [go_sem]; try (refine ⟨by kernel_rfl, ?_⟩))
  (repeat (first | refine aC ?_ | refine a7 ?_ | ((first | refine a8 [0, 1, 4, 5, 6, 7, 8, 12, 13, 14, 25] hX ?_ | refine a6 [0, 1, 4, 5, 6, 7, 8, 12, 13, 14, 25] hX mixed ?_ | refine aD ?_ | refine aA ?_ | refine aB ?_); (simp [go_sem]; (try simp (disch := omega) only [w64, td, tm]); try (refine ⟨by kernel_rfl, ?_⟩)))))
  refine aQ (fun x : Nat × List Int × Int => ⟨mkE [(0, il a), (1, il b), (5, .ow 0), (6, ii x.2.2), (12, ii a.length), (13, ii x.1)], [.row ⟨3, 1, x.2.1.map ii⟩]⟩)
    (fun x => x.1 ≤ a.length ∧ x.2.1.length = a.length ∧ (0 ≤ x.2.2 ∧ x.2.2 ≤ 1) ∧ x.2.1.drop x.1 = a.drop x.1 ∧ subC 0 a b = x.2.1.take x.1 ++ subC x.2.2 (a.drop x.1) (b.drop x.1)) (fun x => a.length - x.1) (0, a, 0) ?_ ?_ ?_
  · refine aL _ [.old 0 ⟨3, 1, a.map ii⟩] (by simp [go_sem]) ?_
    simp [go_sem]
  · simp
  · rintro ⟨i, T, c⟩ ⟨hi, hT, hc, hD, hE⟩
    simp only [] at hi hT hc hD hE
    (repeat (first | refine aC ?_ | refine a7 ?_ | ((first | refine a8 [0, 1, 4, 5, 6, 7, 8, 12, 13, 14, 25] hX ?_ | refine a6 [0, 1, 4, 5, 6, 7, 8, 12, 13, 14, 25] hX mixed ?_ | refine aD ?_ | refine aA ?_ | refine aB ?_); (simp [go_sem]; try (refine ⟨by kernel_rfl, ?_⟩)))))
    refine aG (b := decide (i < a.length)) (by simp [go_sem]) (fun hd => ?_) (fun hd => ?_)
    · simp at hd
      have hx := b7 ha hd
      have hiT : i < T.length := by omega
      have hTi : T[i] = a[i] := by
        rw [List.drop_eq_getElem_cons hd, List.drop_eq_getElem_cons hiT] at hD
        exact (List.cons.inj hD).1
      have hD' : T.drop (i + 1) = a.drop (i + 1) := by
        rw [List.drop_eq_getElem_cons hd, List.drop_eq_getElem_cons hiT] at hD
        exact (List.cons.inj hD).2
      rw [List.drop_eq_getElem_cons hd, tG hc hx (i8 (bH hb i))] at hE
      (repeat (first | refine aC ?_ | refine a7 ?_ | ((first | refine a8 [0, 1, 4, 5, 6, 7, 8, 12, 13, 14, 25] hX ?_ | refine a6 [0, 1, 4, 5, 6, 7, 8, 12, 13, 14, 25] hX mixed ?_ | refine aD ?_ | refine aA ?_ | refine aB ?_); (simp [go_sem, hd, hiT, hTi]; (try simp (disch := omega) only [w64, td, tm]); try (refine ⟨by kernel_rfl, ?_⟩)))))
      by_cases hiC : i < b.length
      · have hy := b7 hb hiC
        rw [List.drop_eq_getElem_cons hiC] at hE
        simp only [List.headD_cons, List.tail_cons] at hE
        refine aG (b := true) (by simp [go_sem, hiC]) (fun _ => ?_) (fun h => by cases h)
        (repeat (first | refine aC ?_ | refine a7 ?_ | ((first | refine a8 [0, 1, 4, 5, 6, 7, 8, 12, 13, 14, 25] hX ?_ | refine a6 [0, 1, 4, 5, 6, 7, 8, 12, 13, 14, 25] hX mixed ?_ | refine aD ?_ | refine aA ?_ | refine aB ?_); (simp [go_sem, hiC, hiT]; (try simp (disch := omega) only [w64, td, tm]); try (refine ⟨by kernel_rfl, ?_⟩)))))
        (repeat refine And.intro (by first | omega | (unfold maxLen; omega) | kernel_rfl | (refine ⟨by first | omega | (unfold maxLen; omega), by first | omega | (unfold maxLen; omega)⟩) | grind) ?_)
        (repeat (first | refine aC ?_ | refine a7 ?_ | ((first | refine a8 [0, 1, 4, 5, 6, 7, 8, 12, 13, 14, 25] hX ?_ | refine a6 [0, 1, 4, 5, 6, 7, 8, 12, 13, 14, 25] hX mixed ?_ | refine aD ?_ | refine aA ?_ | refine aB ?_); (simp [go_sem]; (try simp (disch := omega) only [w64, td, tm]); try (refine ⟨by kernel_rfl, ?_⟩)))))
        refine ⟨i + 1, T.set i ((a[i] - c - b[i]) % 1048576), (a[i] - c - b[i]) / 1048576 % 2, ⟨by omega, by simpa using hT, by omega, ?_, ?_⟩, by omega, ?_⟩
        · rw [bP, hD']
        · rw [cW hiT, hE]; simp
        · refine aL _ [.old 0 ⟨3, 1, (T.set i ((a[i] - c - b[i]) % 1048576)).map ii⟩] (by simp [go_sem]) ?_
          simp [go_sem]
      · have e : b.drop i = [] := List.drop_of_length_le (by omega)
        have e2 : b.drop (i + 1) = [] := List.drop_of_length_le (by omega)
        rw [e] at hE
        simp only [List.headD_nil, List.tail_nil, Int.sub_zero] at hE
        refine aG (b := false) (by simp [go_sem]; omega) (fun h => by cases h) (fun _ => ?_)
        (repeat (first | refine aC ?_ | refine a7 ?_ | ((first | refine a8 [0, 1, 4, 5, 6, 7, 8, 12, 13, 14, 25] hX ?_ | refine a6 [0, 1, 4, 5, 6, 7, 8, 12, 13, 14, 25] hX mixed ?_ | refine aD ?_ | refine aA ?_ | refine aB ?_); (simp [go_sem, hiT]; (try simp (disch := omega) only [w64, td, tm]); try (refine ⟨by kernel_rfl, ?_⟩)))))
        (repeat refine And.intro (by first | omega | (unfold maxLen; omega) | kernel_rfl | (refine ⟨by first | omega | (unfold maxLen; omega), by first | omega | (unfold maxLen; omega)⟩) | grind) ?_)
        (repeat (first | refine aC ?_ | refine a7 ?_ | ((first | refine a8 [0, 1, 4, 5, 6, 7, 8, 12, 13, 14, 25] hX ?_ | refine a6 [0, 1, 4, 5, 6, 7, 8, 12, 13, 14, 25] hX mixed ?_ | refine aD ?_ | refine aA ?_ | refine aB ?_); (simp [go_sem]; (try simp (disch := omega) only [w64, td, tm]); try (refine ⟨by kernel_rfl, ?_⟩)))))
        refine ⟨i + 1, T.set i ((a[i] - c) % 1048576), (a[i] - c) / 1048576 % 2, ⟨by omega, by simpa using hT, by omega, ?_, ?_⟩, by omega, ?_⟩
        · rw [bP, hD']
        · rw [cW hiT, hE, e2]; simp
        · refine aL _ [.old 0 ⟨3, 1, (T.set i ((a[i] - c) % 1048576)).map ii⟩] (by simp [go_sem]) ?_
          simp [go_sem]
    · have hil : i = a.length := by simp at hd; omega
      subst hil
      rw [List.drop_length, subC, List.append_nil, List.take_of_length_le (by omega)] at hE
      have hok := nD 0 a b (by decide) ha hb
      have hlen := pE 0 a b
      have hval := kW 0 a b (by decide) ha hb (by omega)
      subst hE
      have hv2 : val (subC 0 a b) = val a - val b := by omega
      have hdt : (dg (val (subC 0 a b))).length ≤ a.length := by have := (c9 hok).2; omega
      (repeat (first | refine aC ?_ | refine a7 ?_ | ((first | refine a8 [0, 1, 4, 5, 6, 7, 8, 12, 13, 14, 25] hX ?_ | refine a6 [0, 1, 4, 5, 6, 7, 8, 12, 13, 14, 25] hX mixed ?_ | refine aD ?_ | refine aA ?_ | refine aB ?_); (simp [go_sem]; (try simp (disch := omega) only [w64, td, tm]); try (refine ⟨by kernel_rfl, ?_⟩)))))
      first | refine b9 [0] (bG (subC 0 a b) (by omega) hok) (by simp [go_sem]) ?_ | refine b6 [0] (bG (subC 0 a b) (by omega) hok) (by simp [go_sem]) ?_ | refine b4 [0] (bG (subC 0 a b) (by omega) hok) (by simp [go_sem]) ?_
      try (simp [go_sem, hlen, hdt]; try (refine ⟨by kernel_rfl, ?_⟩))
      (repeat (first | refine aC ?_ | refine a7 ?_ | ((first | refine a8 [0, 1, 4, 5, 6, 7, 8, 12, 13, 14, 25] hX ?_ | refine a6 [0, 1, 4, 5, 6, 7, 8, 12, 13, 14, 25] hX mixed ?_ | refine aD ?_ | refine aA ?_ | refine aB ?_); (simp [go_sem, hlen, hdt]; try (refine ⟨by kernel_rfl, ?_⟩)))))
      rw [iR hok, hv2]
theorem o9 {b : List Int} {x : Int} {xs acc : List Int} {t : Int} {ts : List Int} (h : amC x 0 b acc = t :: ts) : mrC b (x :: xs) acc = t :: mrC b xs ts := by
  simp only [mrC, h]
theorem fV {T : List Int} {i : Nat} (h : i < T.length) (x : Int) : T.set i x = T.take i ++ x :: T.drop (i + 1) := by
  rw [List.set_eq_take_append_cons_drop, if_pos h]
theorem oA {p : List Int} {i : Nat} (h : p.length = i) (t : Int) (ts : List Int) : (p ++ t :: ts).take (i + 1) = p ++ [t] ∧ (p ++ t :: ts).drop (i + 1) = ts := by
  subst h
  constructor
  · rw [List.take_append, List.take_of_length_le (Nat.le_succ _), Nat.add_sub_cancel_left]; rfl
  · rw [List.drop_append, List.drop_of_length_le (Nat.le_succ _), Nat.add_sub_cancel_left]; rfl
theorem rE (x c : Int) (o : Int) (os : List Int) : amC x c [] (o :: os) = (o + c) :: os := rfl
set_option maxHeartbeats 4000000 in
set_option maxRecDepth 20000 in
theorem A6 (a b : List Int) (ha : okD a) (hb : okD b) (hla : a.length ≤ 10000) (hlb : b.length ≤ 10000) :
    MeansH Tryz.prog 60 [] [il a, il b] (.wn 0 1 0 (dg (val a * val b)).length) [.row ⟨3, 1, (mrC b a (List.replicate (a.length + b.length) 0)).map ii⟩] := by
  obtain ⟨hv, hok, hlen⟩ := eZ b hb a (List.replicate (a.length + b.length) 0) ha (cB _) (by simp) (fun j hj _ => by simp)
  rw [dH, Int.zero_add] at hv
  rw [List.length_replicate] at hlen
  generalize hRR : mrC b a (List.replicate (a.length + b.length) 0) = RR at *
  refine dI 0 67 [.tmp 4] Tryz.func60 rfl rfl rfl (by simp) (by decide) rfl fun X hX => ?_
  have hrl : ((a.length : Int) + (b.length : Int)).toNat = a.length + b.length := by omega
  (repeat (first | refine aC ?_ | refine a7 ?_ | ((first | refine a8 [0, 1, 4, 5, 6, 7, 8, 9, 10, 11, 18, 19, 20, 21, 25, 26, 27, 28] hX ?_ | refine a6 [0, 1, 4, 5, 6, 7, 8, 9, 10, 11, 18, 19, 20, 21, 25, 26, 27, 28] hX mixed ?_ | refine aA ?_ | refine aB ?_); (simp [go_sem]; (try simp (disch := omega) only [w64, td, tm]); try (refine ⟨by kernel_rfl, ?_⟩)))))
  (repeat refine And.intro (by first | omega | (unfold maxLen; omega) | kernel_rfl | (refine ⟨by first | omega | (unfold maxLen; omega), by first | omega | (unfold maxLen; omega)⟩) | grind) ?_)
  (repeat (first | refine aC ?_ | refine a7 ?_ | ((first | refine a8 [0, 1, 4, 5, 6, 7, 8, 9, 10, 11, 18, 19, 20, 21, 25, 26, 27, 28] hX ?_ | refine a6 [0, 1, 4, 5, 6, 7, 8, 9, 10, 11, 18, 19, 20, 21, 25, 26, 27, 28] hX mixed ?_ | refine aA ?_ | refine aB ?_); (simp [go_sem]; (try simp (disch := omega) only [w64, td, tm]); try (refine ⟨by kernel_rfl, ?_⟩)))))
  refine aQ (fun x : Nat × List Int => ⟨mkE [(0, il a), (1, il b), (5, .ow 0), (18, il a), (19, ii a.length), (20, ii x.1)], [.row ⟨3, 1, x.2.map ii⟩]⟩)
    (fun x => x.1 ≤ a.length ∧ x.2.length = a.length + b.length ∧ okD x.2 ∧ (∀ j (hj : j < x.2.length), x.1 + b.length ≤ j → x.2[j] = 0) ∧ RR = x.2.take x.1 ++ mrC b (a.drop x.1) (x.2.drop x.1)) (fun x => a.length - x.1) (0, List.replicate (a.length + b.length) 0) ?_ ?_ ?_
  · refine aL _ [.old 0 ⟨3, 1, (List.replicate (a.length + b.length) (0 : Int)).map ii⟩] (by simp [go_sem, hrl]) ?_
    simp [go_sem]
  · refine ⟨Nat.zero_le _, by simp, cB _, fun j hj _ => by simp, by simp [hRR]⟩
  · rintro ⟨i, T⟩ ⟨hi, hT, hTo, hTz, hE⟩
    simp only [] at hi hT hTo hTz hE
    (repeat (first | refine aC ?_ | refine a7 ?_ | ((first | refine a8 [0, 1, 4, 5, 6, 7, 8, 9, 10, 11, 18, 19, 20, 21, 25, 26, 27, 28] hX ?_ | refine a6 [0, 1, 4, 5, 6, 7, 8, 9, 10, 11, 18, 19, 20, 21, 25, 26, 27, 28] hX mixed ?_ | refine aA ?_ | refine aB ?_); (simp [go_sem]; try (refine ⟨by kernel_rfl, ?_⟩)))))
    refine aG (b := decide (i < a.length)) (by simp [go_sem]) (fun hd => ?_) (fun hd => ?_)
    · simp at hd
      have hx := b7 ha hd
      (repeat (first | refine aC ?_ | refine a7 ?_ | ((first | refine a8 [0, 1, 4, 5, 6, 7, 8, 9, 10, 11, 18, 19, 20, 21, 25, 26, 27, 28] hX ?_ | refine a6 [0, 1, 4, 5, 6, 7, 8, 9, 10, 11, 18, 19, 20, 21, 25, 26, 27, 28] hX mixed ?_ | refine aA ?_ | refine aB ?_); (simp [go_sem, hd]; (try simp (disch := omega) only [w64, td, tm]); try (refine ⟨by kernel_rfl, ?_⟩)))))
      try (simp [go_sem, hd]; try (refine ⟨by kernel_rfl, ?_⟩))
      have hlz := fP a[i] 0 b (T.drop i)
      obtain ⟨hao, haz⟩ := mR a[i] hx 0 b (T.drop i) (by decide) hb (bH hTo i) (fun j hj h => by
        have := hTz (i + j) (by simp at hj; omega) (by omega)
        simpa using this)
      refine aQ (fun x : Nat × List Int × Int => ⟨mkE [(0, il a), (1, il b), (5, .ow 0), (6, ii i), (7, ii a[i]), (8, ii x.2.2), (18, il a), (19, ii a.length), (20, ii i), (25, il b), (26, ii b.length), (27, ii x.1)], [.row ⟨3, 1, x.2.1.map ii⟩]⟩)
        (fun x => x.1 ≤ b.length ∧ x.2.1.length = a.length + b.length ∧ okD x.2.1 ∧ (∀ j (hj : j < x.2.1.length), i + b.length ≤ j → x.2.1[j] = 0) ∧ (0 ≤ x.2.2 ∧ x.2.2 < 1048576) ∧
          T.take i ++ amC a[i] 0 b (T.drop i) = x.2.1.take (i + x.1) ++ amC a[i] x.2.2 (b.drop x.1) (x.2.1.drop (i + x.1))) (fun x => b.length - x.1) (0, T, 0) ?_ ?_ ?_
      · refine aL _ [.old 0 ⟨3, 1, T.map ii⟩] (by simp [go_sem]) ?_
        simp [go_sem]
      · exact ⟨Nat.zero_le _, hT, hTo, hTz, ⟨Int.le_refl 0, by show (0 : Int) < 1048576; decide⟩, by simp⟩
      · rintro ⟨k, S, c⟩ ⟨hk, hS, hSo, hSz, hc, hF⟩
        simp only [] at hk hS hSo hSz hc hF
        (repeat (first | refine aC ?_ | refine a7 ?_ | ((first | refine a8 [0, 1, 4, 5, 6, 7, 8, 9, 10, 11, 18, 19, 20, 21, 25, 26, 27, 28] hX ?_ | refine a6 [0, 1, 4, 5, 6, 7, 8, 9, 10, 11, 18, 19, 20, 21, 25, 26, 27, 28] hX mixed ?_ | refine aA ?_ | refine aB ?_); (simp [go_sem]; try (refine ⟨by kernel_rfl, ?_⟩)))))
        refine aG (b := decide (k < b.length)) (by simp [go_sem]) (fun hd2 => ?_) (fun hd2 => ?_)
        · simp at hd2
          have hy := b7 hb hd2
          have hik : i + k < S.length := by omega
          have hs := b7 hSo hik
          have hm := eY hx hy
          rw [List.drop_eq_getElem_cons hd2, List.drop_eq_getElem_cons hik, amC] at hF
          have hik2 : (i : Int) + k < S.length := by omega
          (repeat (first | refine aC ?_ | refine a7 ?_ | ((first | refine a8 [0, 1, 4, 5, 6, 7, 8, 9, 10, 11, 18, 19, 20, 21, 25, 26, 27, 28] hX ?_ | refine a6 [0, 1, 4, 5, 6, 7, 8, 9, 10, 11, 18, 19, 20, 21, 25, 26, 27, 28] hX mixed ?_ | refine aA ?_ | refine aB ?_); (simp [go_sem, hd2, hik, hik2]; (try simp (disch := omega) only [w64, td, tm]); try (refine ⟨by kernel_rfl, ?_⟩)))))
          try (simp [go_sem, hd2, hik, hik2]; try (refine ⟨by kernel_rfl, ?_⟩))
          (repeat refine And.intro (by first | omega | (unfold maxLen; omega) | kernel_rfl | (refine ⟨by first | omega | (unfold maxLen; omega), by first | omega | (unfold maxLen; omega)⟩) | grind) ?_)
          (repeat (first | refine aC ?_ | refine a7 ?_ | ((first | refine a8 [0, 1, 4, 5, 6, 7, 8, 9, 10, 11, 18, 19, 20, 21, 25, 26, 27, 28] hX ?_ | refine a6 [0, 1, 4, 5, 6, 7, 8, 9, 10, 11, 18, 19, 20, 21, 25, 26, 27, 28] hX mixed ?_ | refine aA ?_ | refine aB ?_); (simp [go_sem]; (try simp (disch := omega) only [w64, td, tm]); try (refine ⟨by kernel_rfl, ?_⟩)))))
          have hcast : ((i : Int) + (k : Int)).toNat = i + k := by omega
          refine ⟨⟨by omega, hik2⟩, by omega, ?_⟩
          try (simp [go_sem, hcast, hik]; try (refine ⟨by kernel_rfl, ?_⟩))
          (repeat (first | refine aC ?_ | refine a7 ?_ | ((first | refine a8 [0, 1, 4, 5, 6, 7, 8, 9, 10, 11, 18, 19, 20, 21, 25, 26, 27, 28] hX ?_ | refine a6 [0, 1, 4, 5, 6, 7, 8, 9, 10, 11, 18, 19, 20, 21, 25, 26, 27, 28] hX mixed ?_ | refine aA ?_ | refine aB ?_); (simp [go_sem]; (try simp (disch := omega) only [w64, td, tm]); try (refine ⟨by kernel_rfl, ?_⟩)))))
          refine ⟨k + 1, S.set (i + k) ((S[i + k] + a[i] * b[k] + c) % 1048576), (S[i + k] + a[i] * b[k] + c) / 1048576, ⟨by omega, by simpa using hS, dY hSo _ (by omega), ?_, by omega, ?_⟩, by omega, ?_⟩
          · intro j hj h
            have hj' : j < S.length := by simpa using hj
            rw [List.getElem_set_ne (by omega)]
            exact hSz j hj' h
          · rw [hF, ← Nat.add_assoc, cW hik, bP]; simp
          · refine aL _ [.old 0 ⟨3, 1, (S.set (i + k) ((S[i + k] + a[i] * b[k] + c) % 1048576)).map ii⟩] (by simp [go_sem]) ?_
            simp [go_sem]
        · have hkl : k = b.length := by simp at hd2; omega
          subst hkl
          have hik : i + b.length < S.length := by omega
          have hik2 : (i : Int) + b.length < S.length := by omega
          have hcast : ((i : Int) + (b.length : Int)).toNat = i + b.length := by omega
          have hS0 : S[i + b.length] = 0 := hSz _ hik (Nat.le_refl _)
          rw [List.drop_length, List.drop_eq_getElem_cons hik, rE, hS0, Int.zero_add] at hF
          (repeat (first | refine aC ?_ | refine a7 ?_ | ((first | refine a8 [0, 1, 4, 5, 6, 7, 8, 9, 10, 11, 18, 19, 20, 21, 25, 26, 27, 28] hX ?_ | refine a6 [0, 1, 4, 5, 6, 7, 8, 9, 10, 11, 18, 19, 20, 21, 25, 26, 27, 28] hX mixed ?_ | refine aA ?_ | refine aB ?_); (simp [go_sem, hik, hik2, hS0]; (try simp (disch := omega) only [w64, td, tm]); try (refine ⟨by kernel_rfl, ?_⟩)))))
          try (simp [go_sem, hik, hik2, hS0]; try (refine ⟨by kernel_rfl, ?_⟩))
          (repeat refine And.intro (by first | omega | (unfold maxLen; omega) | kernel_rfl | (refine ⟨by first | omega | (unfold maxLen; omega), by first | omega | (unfold maxLen; omega)⟩) | grind) ?_)
          (repeat (first | refine aC ?_ | refine a7 ?_ | ((first | refine a8 [0, 1, 4, 5, 6, 7, 8, 9, 10, 11, 18, 19, 20, 21, 25, 26, 27, 28] hX ?_ | refine a6 [0, 1, 4, 5, 6, 7, 8, 9, 10, 11, 18, 19, 20, 21, 25, 26, 27, 28] hX mixed ?_ | refine aA ?_ | refine aB ?_); (simp [go_sem]; (try simp (disch := omega) only [w64, td, tm]); try (refine ⟨by kernel_rfl, ?_⟩)))))
          have hSe : S.set (i + b.length) c = T.take i ++ amC a[i] 0 b (T.drop i) := by rw [hF, fV hik]
          have hTd : T.drop i = T[i]'(by omega) :: T.drop (i + 1) := List.drop_eq_getElem_cons (by omega)
          obtain ⟨t, ts, ht⟩ : ∃ t ts, amC a[i] 0 b (T.drop i) = t :: ts := by
            cases h : amC a[i] 0 b (T.drop i) with
            | nil =>
              have := congrArg List.length h
              rw [fP, List.length_drop, List.length_nil] at this
              omega
            | cons t ts => exact ⟨t, ts, rfl⟩
          have htl : (T.take i).length = i := by rw [List.length_take]; omega
          rw [List.drop_eq_getElem_cons hd, o9 ht] at hE
          refine ⟨i + 1, S.set (i + b.length) c, ⟨by omega, by simpa using hS, ?_, ?_, ?_⟩, by omega, ?_⟩
          · rw [hSe]; exact cT.2 ⟨bC hTo i, hao⟩
          · intro j hj h
            have hj' : j < S.length := by simpa using hj
            rw [List.getElem_set_ne (by omega)]
            exact hSz j hj' (by omega)
          · obtain ⟨q1, q2⟩ := oA htl t ts
            rw [hSe, hE, ht, q1, q2]; simp
          · refine aL _ [.old 0 ⟨3, 1, (S.set (i + b.length) c).map ii⟩] (by simp [go_sem]) ?_
            simp [go_sem]
    · have hil : i = a.length := by simp at hd; omega
      subst hil
      rw [List.drop_length, mrC, List.take_append_drop] at hE
      subst hE
      (repeat (first | refine aC ?_ | refine a7 ?_ | ((first | refine a8 [0, 1, 4, 5, 6, 7, 8, 9, 10, 11, 18, 19, 20, 21, 25, 26, 27, 28] hX ?_ | refine a6 [0, 1, 4, 5, 6, 7, 8, 9, 10, 11, 18, 19, 20, 21, 25, 26, 27, 28] hX mixed ?_ | refine aA ?_ | refine aB ?_); (simp [go_sem]; (try simp (disch := omega) only [w64, td, tm]); try (refine ⟨by kernel_rfl, ?_⟩)))))
      rw [← hv]
      have hdt : (dg (val RR)).length ≤ a.length + b.length := by have := (c9 hok).2; omega
      first | refine b9 [0] (bG RR (by omega) hok) (by simp [go_sem]) ?_ | refine b6 [0] (bG RR (by omega) hok) (by simp [go_sem]) ?_ | refine b4 [0] (bG RR (by omega) hok) (by simp [go_sem]) ?_
      try (simp [go_sem, hlen, hdt]; try (refine ⟨by kernel_rfl, ?_⟩))
      refine aD ?_; (try simp only [thenQ, blkQ, loopQ]); refine bY [(4, .wn 0 1 0 (dg (val RR)).length)] [.old 0 ⟨3, 1, RR.map ii⟩] ?_
      simp [go_sem]
theorem tT (a b : List Int) (ha : okD a) (hb : okD b) (hla : a.length ≤ 10000) (hlb : b.length ≤ 10000) :
    Means true Tryz.prog 60 [il a, il b] (il (dg (val a * val b))) := by
  have h := A6 a b ha hb hla hlb
  obtain ⟨hv, hok, hlen⟩ := eZ b hb a (List.replicate (a.length + b.length) 0) ha (cB _) (by simp) (fun j hj _ => by simp)
  rw [dH, Int.zero_add] at hv
  generalize mrC b a (List.replicate (a.length + b.length) 0) = RR at *
  have hdt := (c9 hok).2
  rw [hv] at hdt
  have e : argA [.row ⟨3, 1, RR.map ii⟩] (.wn 0 1 0 (dg (val a * val b)).length) = il (dg (val a * val b)) := by
    simp [go_sem, hdt]
    rw [← hv, iR hok]
  have := qH h (by simp [go_sem]) (by rw [e]; simp [go_sem]) (by simp [freshA, go_sem])
  rwa [e] at this
end Go.Proofs.YtebinaffldlihaaGreatDoor
