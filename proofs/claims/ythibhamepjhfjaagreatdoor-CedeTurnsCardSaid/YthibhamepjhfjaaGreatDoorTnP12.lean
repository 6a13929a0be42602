/-
  Lemmas for the statement at the top.
-/
import Derived.Test.YthibhamepjhfjaaGreatDoorTnP10
import Derived.Test.YthibhamepjhfjaaGreatDoorTnP11
set_option linter.all false
namespace Go.Proofs.YthibhamepjhfjaaGreatDoor
open Go.RowKit Go.Ab
def q10x0 : List Nat := [0, 1, 2, 6, 7, 8, 9, 10, 11, 13, 14, 15, 18, 19, 20, 32, 1000000]
def q10x1 : List Nat := [0, 1, 4, 5, 6, 7, 8, 22, 23, 24, 25, 26, 59]
def q10x2 : List Nat := [0, 1, 4, 5, 6, 7, 8, 9, 10, 11, 12, 17, 27, 28, 29, 30, 53]
def q10x3 : List Nat := [0, 1, 4, 5, 7, 8, 9, 16]
def q10x4 : List Nat := [0, 2, 3, 5, 6, 7, 8, 9]
def q10x5 : List Nat := [0, 1, 4]
def q10x6 : List Nat := [0, 1, 4, 8, 10]
attribute [go_sem] q10x0 q10x1 q10x2 q10x3 q10x4 q10x5 q10x6
attribute [local irreducible] AWP Go.Ab.Sub Means MeansH MeansX CallK CallG CallT CallGT CallU
theorem GU {L : List (Int)} {n : Nat} (h : n < L.length) : nth (L.map ii) n = ii L[n] := iN _ h
theorem CD (f : FuncId) (p : Int → Bool) (L : List (Int)) (hl : L.length ≤ 9223372036854775807)
    (hf : ∀ b ∈ L, Means false Tryz.prog f [ii b] (bb (p b))) (hcall : callable Tryz.prog f = true) :
    Means false Tryz.prog 86 [.sl (L.map ii), .v (.func (.func f) #[] #[])] (ii (if L.findIdx p < L.length then (L.findIdx p : Int) else -1)) := by
  refine aN false 19 [.tmp 4] Tryz.func86 rfl rfl rfl (by simp) (by decide) rfl fun X hX => ?_
  (repeat (first | refine aD ?_ | refine a8 ?_ | ((first | refine aA q10x3 hX ?_ | refine a7 q10x3 hX mixed ?_ | refine aE ?_ | refine aB ?_ | refine aC ?_); (simp [go_sem]; try (refine ⟨by kernel_rfl, ?_⟩)))))
  refine aQ (fun n : Nat => ⟨mkE [(0, .sl (L.map ii)), (1, .v (.func (.func f) #[] #[])), (7, ii L.length), (8, ii n)], []⟩) (fun n => n ≤ L.findIdx p ∧ n ≤ L.length) (fun n => L.length - n) 0 ?_ ?_ ?_
  · refine aI _ [] (by simp [go_sem]) ?_
    simp [go_sem]
  · omega
  · rintro n ⟨hn, hn2⟩
    (repeat (first | refine aD ?_ | refine a8 ?_ | ((first | refine aA q10x3 hX ?_ | refine a7 q10x3 hX mixed ?_ | refine aE ?_ | refine aB ?_ | refine aC ?_); (simp [go_sem]; try (refine ⟨by kernel_rfl, ?_⟩)))))
    refine aH (b := decide (n < L.length)) (by simp [go_sem]) (fun hc => ?_) (fun hc => ?_)
    · simp at hc
      have hq := GU hc
      have wn := w64 (x := (n : Int) + 1) (by omega) (by omega)
      (repeat (first | refine aD ?_ | refine a8 ?_ | ((first | refine aA q10x3 hX ?_ | refine a7 q10x3 hX mixed ?_ | refine aE ?_ | refine aB ?_ | refine aC ?_); (simp [go_sem, hc, hq, hcall]; try (refine ⟨by kernel_rfl, ?_⟩)))))
      first | refine aF (hf L[n] (List.getElem_mem hc)) rfl (by simp [go_sem]) rfl ?_ | refine aG (hf L[n] (List.getElem_mem hc)) rfl (by simp [go_sem]) rfl ?_
      try (simp [go_sem]; try (refine ⟨by kernel_rfl, ?_⟩))
      refine aH (b := p L[n]) (by simp [go_sem]) (fun hd => ?_) (fun hd => ?_)
      · have e : L.findIdx p = n := by
          have h1 : ¬ n < L.findIdx p := fun h => by have := List.not_of_lt_findIdx h; rw [hd] at this; simp at this
          omega
        (repeat (first | refine aD ?_ | refine a8 ?_ | ((first | refine aA q10x3 hX ?_ | refine a7 q10x3 hX mixed ?_ | refine aE ?_ | refine aB ?_ | refine aC ?_); (simp [go_sem, e, hc]; try (refine ⟨by kernel_rfl, ?_⟩)))))
        try exact ⟨L[n], List.getElem_mem hc, hd⟩
      · have e : n + 1 ≤ L.findIdx p := by
          by_cases h : L.findIdx p = n
          · have h2 : L.findIdx p < L.length := by omega
            have := List.findIdx_getElem (p := p) (w := h2)
            simp only [h] at this
            rw [hd] at this; cases this
          · omega
        (repeat (first | refine aD ?_ | refine a8 ?_ | ((first | refine aA q10x3 hX ?_ | refine a7 q10x3 hX mixed ?_ | refine aE ?_ | refine aB ?_ | refine aC ?_); (simp [go_sem, wn]; try (refine ⟨by kernel_rfl, ?_⟩)))))
        refine ⟨n + 1, ⟨e, by omega⟩, by omega, ?_⟩
        refine aI _ [] (by simp [go_sem]) ?_
        simp [go_sem]
    · have e : ¬ L.findIdx p < L.length := by simp at hc; omega
      (repeat (first | refine aD ?_ | refine a8 ?_ | ((first | refine aA q10x3 hX ?_ | refine a7 q10x3 hX mixed ?_ | refine aE ?_ | refine aB ?_ | refine aC ?_); (simp [go_sem, e]; try (refine ⟨by kernel_rfl, ?_⟩)))))
      try simpa [List.findIdx_lt_length] using e
theorem zH {p : Int → Bool} (L : List (Int)) : decide (L.findIdx p < L.length) = L.any p := by
  rw [Bool.eq_iff_iff]
  simp [List.findIdx_lt_length]
theorem x6 (f : FuncId) (p : Int → Bool) (L : List (Int)) (hl : L.length ≤ 9223372036854775807)
    (hf : ∀ b ∈ L, Means false Tryz.prog f [ii b] (bb (p b))) (hcall : callable Tryz.prog f = true) :
    Means false Tryz.prog 54 [.sl (L.map ii), .v (.func (.func f) #[] #[])] (bb (L.any p)) := by
  have h := CD f p L hl hf hcall
  rw [← zH]
  generalize L.findIdx p = q at *
  refine aN false 9 [.tmp 4] Tryz.func54 rfl rfl rfl (by simp) (by decide) rfl fun X hX => ?_
  (repeat (first | refine aD ?_ | refine a8 ?_ | ((first | refine aA q10x5 hX ?_ | refine a7 q10x5 hX mixed ?_ | refine aE ?_ | refine aB ?_ | refine aC ?_); (simp [go_sem]; try (refine ⟨by kernel_rfl, ?_⟩)))))
  first | refine aF (h) rfl (by simp [go_sem]) rfl ?_ | refine aG (h) rfl (by simp [go_sem]) rfl ?_
  try (simp [go_sem]; try (refine ⟨by kernel_rfl, ?_⟩))
  by_cases hq : q < L.length
  · (repeat (first | refine aD ?_ | refine a8 ?_ | ((first | refine aA q10x5 hX ?_ | refine a7 q10x5 hX mixed ?_ | refine aE ?_ | refine aB ?_ | refine aC ?_); (simp [go_sem, hq]; try (refine ⟨by kernel_rfl, ?_⟩)))))
  · (repeat (first | refine aD ?_ | refine a8 ?_ | ((first | refine aA q10x5 hX ?_ | refine a7 q10x5 hX mixed ?_ | refine aE ?_ | refine aB ?_ | refine aC ?_); (simp [go_sem, hq]; try (refine ⟨by kernel_rfl, ?_⟩)))))
theorem eT {L : List (List Int)} {n : Nat} (h : n < L.length) : nth (L.map il) n = il L[n] := iN _ h
theorem CE (f : FuncId) (p : List Int → Bool) (L : List (List Int)) (hl : L.length ≤ 9223372036854775807)
    (hf : ∀ b ∈ L, Means false Tryz.prog f [il b] (bb (p b))) (hcall : callable Tryz.prog f = true) :
    Means false Tryz.prog 99 [.sl (L.map il), .v (.func (.func f) #[] #[])] (ii (if L.findIdx p < L.length then (L.findIdx p : Int) else -1)) := by
  refine aN false 19 [.tmp 4] Tryz.func99 rfl rfl rfl (by simp) (by decide) rfl fun X hX => ?_
  (repeat (first | refine aD ?_ | refine a8 ?_ | ((first | refine aA q10x3 hX ?_ | refine a7 q10x3 hX mixed ?_ | refine aE ?_ | refine aB ?_ | refine aC ?_); (simp [go_sem]; try (refine ⟨by kernel_rfl, ?_⟩)))))
  refine aQ (fun n : Nat => ⟨mkE [(0, .sl (L.map il)), (1, .v (.func (.func f) #[] #[])), (7, ii L.length), (8, ii n)], []⟩) (fun n => n ≤ L.findIdx p ∧ n ≤ L.length) (fun n => L.length - n) 0 ?_ ?_ ?_
  · refine aI _ [] (by simp [go_sem]) ?_
    simp [go_sem]
  · omega
  · rintro n ⟨hn, hn2⟩
    (repeat (first | refine aD ?_ | refine a8 ?_ | ((first | refine aA q10x3 hX ?_ | refine a7 q10x3 hX mixed ?_ | refine aE ?_ | refine aB ?_ | refine aC ?_); (simp [go_sem]; try (refine ⟨by kernel_rfl, ?_⟩)))))
    refine aH (b := decide (n < L.length)) (by simp [go_sem]) (fun hc => ?_) (fun hc => ?_)
    · simp at hc
      have hq := eT hc
      have wn := w64 (x := (n : Int) + 1) (by omega) (by omega)
      (repeat (first | refine aD ?_ | refine a8 ?_ | ((first | refine aA q10x3 hX ?_ | refine a7 q10x3 hX mixed ?_ | refine aE ?_ | refine aB ?_ | refine aC ?_); (simp [go_sem, hc, hq, hcall]; try (refine ⟨by kernel_rfl, ?_⟩)))))
      first | refine aF (hf L[n] (List.getElem_mem hc)) rfl (by simp [go_sem]) rfl ?_ | refine aG (hf L[n] (List.getElem_mem hc)) rfl (by simp [go_sem]) rfl ?_
      try (simp [go_sem]; try (refine ⟨by kernel_rfl, ?_⟩))
      refine aH (b := p L[n]) (by simp [go_sem]) (fun hd => ?_) (fun hd => ?_)
      · have e : L.findIdx p = n := by
          have h1 : ¬ n < L.findIdx p := fun h => by have := List.not_of_lt_findIdx h; rw [hd] at this; simp at this
          omega
        (repeat (first | refine aD ?_ | refine a8 ?_ | ((first | refine aA q10x3 hX ?_ | refine a7 q10x3 hX mixed ?_ | refine aE ?_ | refine aB ?_ | refine aC ?_); (simp [go_sem, e, hc]; try (refine ⟨by kernel_rfl, ?_⟩)))))
        try exact ⟨L[n], List.getElem_mem hc, hd⟩
      · have e : n + 1 ≤ L.findIdx p := by
          by_cases h : L.findIdx p = n
          · have h2 : L.findIdx p < L.length := by omega
            have := List.findIdx_getElem (p := p) (w := h2)
            simp only [h] at this
            rw [hd] at this; cases this
          · omega
        (repeat (first | refine aD ?_ | refine a8 ?_ | ((first | refine aA q10x3 hX ?_ | refine a7 q10x3 hX mixed ?_ | refine aE ?_ | refine aB ?_ | refine aC ?_); (simp [go_sem, wn]; try (refine ⟨by kernel_rfl, ?_⟩)))))
        refine ⟨n + 1, ⟨e, by omega⟩, by omega, ?_⟩
        refine aI _ [] (by simp [go_sem]) ?_
        simp [go_sem]
    · have e : ¬ L.findIdx p < L.length := by simp at hc; omega
      (repeat (first | refine aD ?_ | refine a8 ?_ | ((first | refine aA q10x3 hX ?_ | refine a7 q10x3 hX mixed ?_ | refine aE ?_ | refine aB ?_ | refine aC ?_); (simp [go_sem, e]; try (refine ⟨by kernel_rfl, ?_⟩)))))
      try simpa [List.findIdx_lt_length] using e
theorem zI {p : List Int → Bool} (L : List (List Int)) : decide (L.findIdx p < L.length) = L.any p := by
  rw [Bool.eq_iff_iff]
  simp [List.findIdx_lt_length]
theorem x7 (f : FuncId) (p : List Int → Bool) (L : List (List Int)) (hl : L.length ≤ 9223372036854775807)
    (hf : ∀ b ∈ L, Means false Tryz.prog f [il b] (bb (p b))) (hcall : callable Tryz.prog f = true) :
    Means false Tryz.prog 67 [.sl (L.map il), .v (.func (.func f) #[] #[])] (bb (L.any p)) := by
  have h := CE f p L hl hf hcall
  rw [← zI]
  generalize L.findIdx p = q at *
  refine aN false 9 [.tmp 4] Tryz.func67 rfl rfl rfl (by simp) (by decide) rfl fun X hX => ?_
  (repeat (first | refine aD ?_ | refine a8 ?_ | ((first | refine aA q10x5 hX ?_ | refine a7 q10x5 hX mixed ?_ | refine aE ?_ | refine aB ?_ | refine aC ?_); (simp [go_sem]; try (refine ⟨by kernel_rfl, ?_⟩)))))
  first | refine aF (h) rfl (by simp [go_sem]) rfl ?_ | refine aG (h) rfl (by simp [go_sem]) rfl ?_
  try (simp [go_sem]; try (refine ⟨by kernel_rfl, ?_⟩))
  by_cases hq : q < L.length
  · (repeat (first | refine aD ?_ | refine a8 ?_ | ((first | refine aA q10x5 hX ?_ | refine a7 q10x5 hX mixed ?_ | refine aE ?_ | refine aB ?_ | refine aC ?_); (simp [go_sem, hq]; try (refine ⟨by kernel_rfl, ?_⟩)))))
  · (repeat (first | refine aD ?_ | refine a8 ?_ | ((first | refine aA q10x5 hX ?_ | refine a7 q10x5 hX mixed ?_ | refine aE ?_ | refine aB ?_ | refine aC ?_); (simp [go_sem, hq]; try (refine ⟨by kernel_rfl, ?_⟩)))))
structure Fr where
  s1 : Int
  L1 : List Int
  s2 : Int
  L2 : List Int
abbrev fv (x : Fr) : AV := frac4 x.s1 x.L1 x.s2 x.L2
theorem GV {L : List (Fr)} {n : Nat} (h : n < L.length) : nth (L.map fv) n = fv L[n] := iN _ h
theorem CF (f : FuncId) (p : Fr → Bool) (L : List (Fr)) (hl : L.length ≤ 9223372036854775807)
    (hf : ∀ b ∈ L, Means false Tryz.prog f [fv b] (bb (p b))) (hcall : callable Tryz.prog f = true) :
    Means false Tryz.prog 87 [.sl (L.map fv), .v (.func (.func f) #[] #[])] (ii (if L.findIdx p < L.length then (L.findIdx p : Int) else -1)) := by
  refine aN false 19 [.tmp 4] Tryz.func87 rfl rfl rfl (by simp) (by decide) rfl fun X hX => ?_
  (repeat (first | refine aD ?_ | refine a8 ?_ | ((first | refine aA q10x3 hX ?_ | refine a7 q10x3 hX mixed ?_ | refine aE ?_ | refine aB ?_ | refine aC ?_); (simp [go_sem]; try (refine ⟨by kernel_rfl, ?_⟩)))))
  refine aQ (fun n : Nat => ⟨mkE [(0, .sl (L.map fv)), (1, .v (.func (.func f) #[] #[])), (7, ii L.length), (8, ii n)], []⟩) (fun n => n ≤ L.findIdx p ∧ n ≤ L.length) (fun n => L.length - n) 0 ?_ ?_ ?_
  · refine aI _ [] (by simp [go_sem]) ?_
    simp [go_sem]
  · omega
  · rintro n ⟨hn, hn2⟩
    (repeat (first | refine aD ?_ | refine a8 ?_ | ((first | refine aA q10x3 hX ?_ | refine a7 q10x3 hX mixed ?_ | refine aE ?_ | refine aB ?_ | refine aC ?_); (simp [go_sem]; try (refine ⟨by kernel_rfl, ?_⟩)))))
    refine aH (b := decide (n < L.length)) (by simp [go_sem]) (fun hc => ?_) (fun hc => ?_)
    · simp at hc
      have hq := GV hc
      have wn := w64 (x := (n : Int) + 1) (by omega) (by omega)
      (repeat (first | refine aD ?_ | refine a8 ?_ | ((first | refine aA q10x3 hX ?_ | refine a7 q10x3 hX mixed ?_ | refine aE ?_ | refine aB ?_ | refine aC ?_); (simp [go_sem, hc, hq, hcall]; try (refine ⟨by kernel_rfl, ?_⟩)))))
      first | refine aF (hf L[n] (List.getElem_mem hc)) rfl (by simp [go_sem]) rfl ?_ | refine aG (hf L[n] (List.getElem_mem hc)) rfl (by simp [go_sem]) rfl ?_
      try (simp [go_sem]; try (refine ⟨by kernel_rfl, ?_⟩))
      refine aH (b := p L[n]) (by simp [go_sem]) (fun hd => ?_) (fun hd => ?_)
      · have e : L.findIdx p = n := by
          have h1 : ¬ n < L.findIdx p := fun h => by have := List.not_of_lt_findIdx h; rw [hd] at this; simp at this
          omega
        (repeat (first | refine aD ?_ | refine a8 ?_ | ((first | refine aA q10x3 hX ?_ | refine a7 q10x3 hX mixed ?_ | refine aE ?_ | refine aB ?_ | refine aC ?_); (simp [go_sem, e, hc]; try (refine ⟨by kernel_rfl, ?_⟩)))))
        try exact ⟨L[n], List.getElem_mem hc, hd⟩
      · have e : n + 1 ≤ L.findIdx p := by
          by_cases h : L.findIdx p = n
          · have h2 : L.findIdx p < L.length := by omega
            have := List.findIdx_getElem (p := p) (w := h2)
            simp only [h] at this
            rw [hd] at this; cases this
          · omega
        (repeat (first | refine aD ?_ | refine a8 ?_ | ((first | refine aA q10x3 hX ?_ | refine a7 q10x3 hX mixed ?_ | refine aE ?_ | refine aB ?_ | refine aC ?_); (simp [go_sem, wn]; try (refine ⟨by kernel_rfl, ?_⟩)))))
        refine ⟨n + 1, ⟨e, by omega⟩, by omega, ?_⟩
        refine aI _ [] (by simp [go_sem]) ?_
        simp [go_sem]
    · have e : ¬ L.findIdx p < L.length := by simp at hc; omega
      (repeat (first | refine aD ?_ | refine a8 ?_ | ((first | refine aA q10x3 hX ?_ | refine a7 q10x3 hX mixed ?_ | refine aE ?_ | refine aB ?_ | refine aC ?_); (simp [go_sem, e]; try (refine ⟨by kernel_rfl, ?_⟩)))))
      try simpa [List.findIdx_lt_length] using e
theorem zJ {p : Fr → Bool} (L : List (Fr)) : decide (L.findIdx p < L.length) = L.any p := by
  rw [Bool.eq_iff_iff]
  simp [List.findIdx_lt_length]
theorem EH (f : FuncId) (p : Fr → Bool) (L : List (Fr)) (hl : L.length ≤ 9223372036854775807)
    (hf : ∀ b ∈ L, Means false Tryz.prog f [fv b] (bb (p b))) (hcall : callable Tryz.prog f = true) :
    Means false Tryz.prog 56 [.sl (L.map fv), .v (.func (.func f) #[] #[])] (bb (L.any p)) := by
  have h := CF f p L hl hf hcall
  rw [← zJ]
  generalize L.findIdx p = q at *
  refine aN false 9 [.tmp 4] Tryz.func56 rfl rfl rfl (by simp) (by decide) rfl fun X hX => ?_
  (repeat (first | refine aD ?_ | refine a8 ?_ | ((first | refine aA q10x5 hX ?_ | refine a7 q10x5 hX mixed ?_ | refine aE ?_ | refine aB ?_ | refine aC ?_); (simp [go_sem]; try (refine ⟨by kernel_rfl, ?_⟩)))))
  first | refine aF (h) rfl (by simp [go_sem]) rfl ?_ | refine aG (h) rfl (by simp [go_sem]) rfl ?_
  try (simp [go_sem]; try (refine ⟨by kernel_rfl, ?_⟩))
  by_cases hq : q < L.length
  · (repeat (first | refine aD ?_ | refine a8 ?_ | ((first | refine aA q10x5 hX ?_ | refine a7 q10x5 hX mixed ?_ | refine aE ?_ | refine aB ?_ | refine aC ?_); (simp [go_sem, hq]; try (refine ⟨by kernel_rfl, ?_⟩)))))
  · (repeat (first | refine aD ?_ | refine a8 ?_ | ((first | refine aA q10x5 hX ?_ | refine a7 q10x5 hX mixed ?_ | refine aE ?_ | refine aB ?_ | refine aC ?_); (simp [go_sem, hq]; try (refine ⟨by kernel_rfl, ?_⟩)))))
def wrongS (s : Int) : Bool := decide (s < 0) || decide (1000 < s)
theorem x8 (s : Int) : Means false Tryz.prog 53 [ii s] (bb (wrongS s)) := by
  refine aN false 9 [.tmp 2] Tryz.func53 rfl rfl rfl (by simp) (by decide) rfl fun X hX => ?_
  (repeat (first | refine aD ?_ | refine a8 ?_ | ((first | refine aA [0, 2] hX ?_ | refine a7 [0, 2] hX mixed ?_ | refine aE ?_ | refine aB ?_ | refine aC ?_); (simp [go_sem]; try (refine ⟨by kernel_rfl, ?_⟩)))))
  simp [wrongS]
theorem zK {l : List Int} : l.any wrongS = false ↔ ∀ x ∈ l, 0 ≤ x ∧ x ≤ 1000 := by
  rw [List.any_eq_false]
  constructor
  · intro h x hx
    have := h x hx
    simp [wrongS] at this
    omega
  · intro h x hx
    have := h x hx
    simp [wrongS]
    omega
theorem eA : ∀ (l : List Int) (k : Nat), (∀ x ∈ l, 0 ≤ x ∧ x ≤ 1000) → 0 ≤ sumI (l.take k) ∧ sumI (l.take k) ≤ 1000 * l.length
  | [], k, _ => by simp [sumI]
  | x :: l, 0, _ => by simp [sumI]; omega
  | x :: l, k + 1, h => by
    have h1 := eA l k fun y hy => h y (List.mem_cons_of_mem _ hy)
    have h2 := h x (by simp)
    simp only [List.take_succ_cons, sumI, List.length_cons]
    omega
theorem mD (l : List Int) (hl : l.length ≤ 1000) (h : ∀ x ∈ l, 0 ≤ x ∧ x ≤ 1000) : Means false Tryz.prog 34 [il l] (ii (sumI l)) := by
  refine aN false 17 [.tmp 2] Tryz.func34 rfl rfl rfl (by simp) (by decide) rfl fun X hX => ?_
  (repeat (first | refine aD ?_ | refine a8 ?_ | ((first | refine aA q10x4 hX ?_ | refine a7 q10x4 hX mixed ?_ | refine aE ?_ | refine aB ?_ | refine aC ?_); (simp [go_sem]; try (refine ⟨by kernel_rfl, ?_⟩)))))
  refine aQ (fun k : Nat => ⟨mkE [(0, il l), (3, ii (sumI (l.take k))), (6, il l), (7, ii l.length), (8, ii k)], []⟩) (fun k => k ≤ l.length) (fun k => l.length - k) 0 ?_ ?_ ?_
  · refine aI _ [] (by simp [go_sem]) ?_
    simp [go_sem, sumI]
  · omega
  · intro k hk
    (repeat (first | refine aD ?_ | refine a8 ?_ | ((first | refine aA q10x4 hX ?_ | refine a7 q10x4 hX mixed ?_ | refine aE ?_ | refine aB ?_ | refine aC ?_); (simp [go_sem]; try (refine ⟨by kernel_rfl, ?_⟩)))))
    refine aH (b := decide (k < l.length)) (by simp [go_sem]) (fun hb => ?_) (fun hb => ?_)
    · simp only [decide_eq_true_eq] at hb
      have q1 := cR hb
      have b1 := eA l k h
      have b2 := eA l (k + 1) h
      have e : sumI (l.take (k + 1)) = sumI (l.take k) + l[k] := by rw [List.take_succ_eq_append_getElem hb, kN]
      rw [e] at b2
      have w1 := w64 (x := sumI (l.take k) + l[k]) (by omega) (by omega)
      have w2 := w64 (x := (k : Int) + 1) (by omega) (by omega)
      (repeat (first | refine aD ?_ | refine a8 ?_ | ((first | refine aA q10x4 hX ?_ | refine a7 q10x4 hX mixed ?_ | refine aE ?_ | refine aB ?_ | refine aC ?_); (simp [go_sem, hb, q1, w1, w2]; try (refine ⟨by kernel_rfl, ?_⟩)))))
      refine ⟨k + 1, by omega, by omega, ?_⟩
      rw [e]
      refine aI _ [] (by simp [go_sem]) ?_
      simp [go_sem]
    · simp only [decide_eq_false_iff_not] at hb
      have hk2 : k = l.length := by omega
      subst hk2
      rw [List.take_length]
      (repeat (first | refine aD ?_ | refine a8 ?_ | ((first | refine aA q10x4 hX ?_ | refine a7 q10x4 hX mixed ?_ | refine aE ?_ | refine aB ?_ | refine aC ?_); (simp [go_sem]; try (refine ⟨by kernel_rfl, ?_⟩)))))
def rowOk (own : List Int) (S : List (List Int)) (k : Nat) : Prop := (0 ≤ wO own k ∧ wO own k ≤ 1099511627776) ∧ (S.getD k []).length = own.length ∧ (∀ x ∈ S.getD k [], 0 ≤ x ∧ x ≤ 1000) ∧ sO S k k = 0
theorem hI (own : List Int) (S : List (List Int)) : PR own S ↔ (0 < own.length ∧ own.length ≤ 12 ∧ S.length = own.length) ∧ ∀ k, k < own.length → rowOk own S k := by
  constructor
  · intro h
    refine ⟨⟨h.pos, h.most, h.len⟩, fun k hk => ?_⟩
    have hS : k < S.length := by rw [h.len]; exact hk
    have hg : S.getD k [] = S[k] := by rw [List.getD_eq_getElem?_getD, List.getElem?_eq_getElem hS]; rfl
    refine ⟨h.w k hk, by rw [hg]; exact h.row _ (List.getElem_mem hS), fun x hx => ?_, h.d k hk⟩
    obtain ⟨j, hj, rfl⟩ := List.getElem_of_mem hx
    have hl := h.row _ (List.getElem_mem hS)
    have hj' : j < own.length := by rw [← hl, ← hg]; exact hj
    have := h.s k j hk hj'
    unfold sO at this
    rw [bT hj] at this
    exact this
  · rintro ⟨⟨h1, h2, h3⟩, h4⟩
    refine ⟨h1, h2, h3, fun k hk => (h4 k hk).1, fun l hl => ?_, fun i j hi hj => ?_, fun i hi => (h4 i hi).2.2.2⟩
    · obtain ⟨k, hk, rfl⟩ := List.getElem_of_mem hl
      have hg : S.getD k [] = S[k] := by rw [List.getD_eq_getElem?_getD, List.getElem?_eq_getElem hk]; rfl
      rw [← hg]
      exact (h4 k (by omega)).2.1
    · obtain ⟨_, h5, h6, _⟩ := h4 i hi
      have hj' : j < (S.getD i []).length := by omega
      unfold sO
      rw [bT hj']
      exact h6 _ (List.getElem_mem hj')
theorem EI {l : List AV} {k : Nat} (h : ¬ k < l.length) : nth l k = .bad := by
  unfold nth
  rw [List.getD_eq_getElem?_getD, List.getElem?_eq_none (by omega)]; rfl
noncomputable instance (own : List Int) (S : List (List Int)) (k : Nat) : Decidable (rowOk own S k) := Classical.propDecidable _
noncomputable instance (own : List Int) (S : List (List Int)) : Decidable (PR own S) := Classical.propDecidable _
noncomputable instance (own : List Int) (S : List (List Int)) : Decidable (PV own S) := Classical.propDecidable _
abbrev ill (S : List (List Int)) : AV := .sl (S.map il)
set_option maxHeartbeats 8000000 in
set_option maxRecDepth 20000 in
theorem x9 (own : List Int) (S : List (List Int)) (hl : own.length ≤ 9223372036854775807) (hS : S.length ≤ 9223372036854775807) (hr : ∀ l ∈ S, l.length ≤ 9223372036854775807) : Means false Tryz.prog 16 [il own, ill S] (bb (decide (PR own S))) := by
  by_cases h0 : 0 < own.length ∧ own.length ≤ 12 ∧ S.length = own.length
  · refine aN false 61 [.tmp 4] Tryz.func16 rfl rfl rfl (by simp) (by decide) rfl fun X hX => ?_
    (repeat (first | refine aD ?_ | refine a8 ?_ | ((first | refine aA q10x1 hX ?_ | refine a7 q10x1 hX mixed ?_ | refine aE ?_ | refine aB ?_ | refine aC ?_); (simp [go_sem]; try (refine ⟨by kernel_rfl, ?_⟩)))))
    have h12 : ¬ (12 : Int) < own.length := by omega
    have hn0 : ¬ own = [] := by intro e; rw [e] at h0; simp at h0
    refine aH (b := false) (by simp [go_sem, h0.2.2, h12, hn0]) (fun h => by cases h) (fun _ => ?_)
    (repeat (first | refine aD ?_ | refine a8 ?_ | ((first | refine aA q10x1 hX ?_ | refine a7 q10x1 hX mixed ?_ | refine aE ?_ | refine aB ?_ | refine aC ?_); (simp [go_sem]; try (refine ⟨by kernel_rfl, ?_⟩)))))
    refine aQ (fun k : Nat => ⟨mkE [(0, il own), (1, ill S), (5, ii own.length), (23, ill S), (24, ii own.length), (25, ii k)], []⟩) (fun k => k ≤ own.length ∧ ∀ j, j < k → rowOk own S j) (fun k => own.length - k) 0 ?_ ?_ ?_
    · refine aI _ [] (by simp [go_sem]) ?_
      simp [go_sem, h0.2.2]
    · exact ⟨by omega, fun j hj => by omega⟩
    · rintro k ⟨hk, hp⟩
      (repeat (first | refine aD ?_ | refine a8 ?_ | ((first | refine aA q10x1 hX ?_ | refine a7 q10x1 hX mixed ?_ | refine aE ?_ | refine aB ?_ | refine aC ?_); (simp [go_sem]; try (refine ⟨by kernel_rfl, ?_⟩)))))
      refine aH (b := decide (k < own.length)) (by simp [go_sem]) (fun hb => ?_) (fun hb => ?_)
      · simp only [decide_eq_true_eq] at hb
        have hkS : k < S.length := by omega
        have q1 := cR hb
        have q2 := eT (L := S) hkS
        have hlk := hr S[k] (List.getElem_mem hkS)
        have hg : S.getD k [] = S[k] := by rw [List.getD_eq_getElem?_getD, List.getElem?_eq_getElem hkS]; rfl
        have hro : rowOk own S k ↔ (0 ≤ own[k] ∧ own[k] ≤ 1099511627776) ∧ S[k].length = own.length ∧ S[k].any wrongS = false ∧ sO S k k = 0 := by
          unfold rowOk
          rw [hg, zK, show wO own k = own[k] from bT hb]
        have hso : ∀ h : k < S[k].length, sO S k k = S[k][k] := fun h => by unfold sO; rw [hg, bT h]
        have wk := w64 (x := (k : Int) + 1) (by omega) (by omega)
        by_cases hlen : S[k].length = own.length
        · have hk3 : k < S[k].length := by omega
          have q3 := cR hk3
          rw [hso hk3] at hro
          (repeat (first | refine aD ?_ | refine a8 ?_ | ((first | refine aA q10x1 hX ?_ | refine a7 q10x1 hX mixed ?_ | refine aE ?_ | refine aB ?_ | refine aC ?_); (simp [go_sem, hb, hkS, q1, q2]; try (refine ⟨by kernel_rfl, ?_⟩)))))
          first | refine aR (fun hg => x6 53 wrongS S[k] hlk (fun b _ => x8 b) (by kernel_rfl)) rfl (by simp [go_sem]) rfl ?_ | refine aO (fun hg => x6 53 wrongS S[k] hlk (fun b _ => x8 b) (by kernel_rfl)) rfl (by simp [go_sem]) rfl ?_
          try (simp [go_sem, hb, hkS, q1, q2, hk3, q3]; try (refine ⟨by kernel_rfl, ?_⟩))
          refine aH (b := !(decide (rowOk own S k))) (by simp [go_sem, hro, hlen]; grind) (fun hd => ?_) (fun hd => ?_)
          · have e : ¬ PR own S := fun h => by
              have := ((hI own S).1 h).2 k hb
              simp [this] at hd
            (repeat (first | refine aD ?_ | refine a8 ?_ | ((first | refine aA q10x1 hX ?_ | refine a7 q10x1 hX mixed ?_ | refine aE ?_ | refine aB ?_ | refine aC ?_); (simp [go_sem, e]; try (refine ⟨by kernel_rfl, ?_⟩)))))
          · simp only [Bool.not_eq_false', decide_eq_true_eq] at hd
            (repeat (first | refine aD ?_ | refine a8 ?_ | ((first | refine aA q10x1 hX ?_ | refine a7 q10x1 hX mixed ?_ | refine aE ?_ | refine aB ?_ | refine aC ?_); (simp [go_sem, wk]; try (refine ⟨by kernel_rfl, ?_⟩)))))
            refine ⟨k + 1, ⟨by omega, fun j hj => ?_⟩, by omega, ?_⟩
            · by_cases hjk : j = k
              · subst hjk; exact hd
              · exact hp j (by omega)
            · refine aI _ [] (by simp [go_sem]) ?_
              simp [go_sem]
        · have hlen2 : ¬ ((S[k].length : Int) = own.length) := by omega
          have e : ¬ PR own S := fun h => by
            have := ((hI own S).1 h).2 k hb
            exact hlen (hro.1 this).2.1
          by_cases hk3 : k < S[k].length
          · have q3 := cR hk3
            (repeat (first | refine aD ?_ | refine a8 ?_ | ((first | refine aA q10x1 hX ?_ | refine a7 q10x1 hX mixed ?_ | refine aE ?_ | refine aB ?_ | refine aC ?_); (simp [go_sem, hb, hkS, q1, q2, q3, hlen2]; try (refine ⟨by kernel_rfl, ?_⟩)))))
            try first | refine eR rfl ?_ | refine dT rfl ?_
            try (simp [go_sem, hb, hkS, q1, q2, q3, hlen2]; try (refine ⟨by kernel_rfl, ?_⟩))
            refine aH (b := true) (by simp [go_sem, hlen2]) (fun _ => ?_) (fun h => by cases h)
            (repeat (first | refine aD ?_ | refine a8 ?_ | ((first | refine aA q10x1 hX ?_ | refine a7 q10x1 hX mixed ?_ | refine aE ?_ | refine aB ?_ | refine aC ?_); (simp [go_sem, e]; try (refine ⟨by kernel_rfl, ?_⟩)))))
          · have q3 : nth (S[k].map ii) k = .bad := EI (by simpa using hk3)
            (repeat (first | refine aD ?_ | refine a8 ?_ | ((first | refine aA q10x1 hX ?_ | refine a7 q10x1 hX mixed ?_ | refine aE ?_ | refine aB ?_ | refine aC ?_); (simp [go_sem, hb, hkS, q1, q2, q3, hlen2]; try (refine ⟨by kernel_rfl, ?_⟩)))))
            try first | refine eR rfl ?_ | refine dT rfl ?_
            try (simp [go_sem, hb, hkS, q1, q2, q3, hlen2]; try (refine ⟨by kernel_rfl, ?_⟩))
            refine aH (b := true) (by simp [go_sem, hlen2]) (fun _ => ?_) (fun h => by cases h)
            (repeat (first | refine aD ?_ | refine a8 ?_ | ((first | refine aA q10x1 hX ?_ | refine a7 q10x1 hX mixed ?_ | refine aE ?_ | refine aB ?_ | refine aC ?_); (simp [go_sem, e]; try (refine ⟨by kernel_rfl, ?_⟩)))))
      · simp only [decide_eq_false_iff_not] at hb
        have hk2 : k = own.length := by omega
        subst hk2
        have e : PR own S := (hI own S).2 ⟨h0, hp⟩
        (repeat (first | refine aD ?_ | refine a8 ?_ | ((first | refine aA q10x1 hX ?_ | refine a7 q10x1 hX mixed ?_ | refine aE ?_ | refine aB ?_ | refine aC ?_); (simp [go_sem, e]; try (refine ⟨by kernel_rfl, ?_⟩)))))
  · have e : ¬ PR own S := fun h => h0 ((hI own S).1 h).1
    refine aN false 61 [.tmp 4] Tryz.func16 rfl rfl rfl (by simp) (by decide) rfl fun X hX => ?_
    (repeat (first | refine aD ?_ | refine a8 ?_ | ((first | refine aA q10x1 hX ?_ | refine a7 q10x1 hX mixed ?_ | refine aE ?_ | refine aB ?_ | refine aC ?_); (simp [go_sem]; try (refine ⟨by kernel_rfl, ?_⟩)))))
    refine aH (b := decide (own = [] ∨ (12 : Int) < own.length ∨ ¬ (S.length : Int) = own.length)) (by simp [go_sem]; grind) (fun _ => ?_) (fun h => ?_)
    · (repeat (first | refine aD ?_ | refine a8 ?_ | ((first | refine aA q10x1 hX ?_ | refine a7 q10x1 hX mixed ?_ | refine aE ?_ | refine aB ?_ | refine aC ?_); (simp [go_sem, e]; try (refine ⟨by kernel_rfl, ?_⟩)))))
    · exfalso
      simp at h
      have : 0 < own.length := List.length_pos_iff.2 h.1
      omega
end Go.Proofs.YthibhamepjhfjaaGreatDoor

namespace Go.Proofs.YthibhamepjhfjaaGreatDoor
open Go.RowKit Go.Ab
attribute [local irreducible] AWP Go.Ab.Sub Means MeansH MeansX CallK CallG CallT CallGT CallU
noncomputable def badP (own : List Int) (S : List (List Int)) : Int := if PR own S then (if PV own S then 0 else 23) else 1
theorem dZ {own : List Int} {S : List (List Int)} (h : PR own S) {l : List Int} (hl : l ∈ S) : l.length ≤ 12 ∧ ∀ x ∈ l, 0 ≤ x ∧ x ≤ 1000 := by
  obtain ⟨k, hk, rfl⟩ := List.getElem_of_mem hl
  have hk2 : k < own.length := by rw [← h.len]; exact hk
  have hr := ((hI own S).1 h).2 k hk2
  have hg : S.getD k [] = S[k] := by rw [List.getD_eq_getElem?_getD, List.getElem?_eq_getElem hk]; rfl
  rw [← hg]
  exact ⟨by rw [hr.2.1]; exact h.most, hr.2.2.1⟩
theorem CG {own : List Int} {S : List (List Int)} (h : PR own S) : S.any (fun l => decide (1000 ≤ sumI l)) = false ↔ PV own S := by
  rw [List.any_eq_false]
  constructor
  · intro hs
    exact ⟨h, fun l hl => by have := hs l hl; simp at this; omega⟩
  · intro hv l hl
    have := hv.lt l hl
    simp; omega
theorem xA (l : List Int) (hl : l.length ≤ 1000) (h : ∀ x ∈ l, 0 ≤ x ∧ x ≤ 1000) : Means false Tryz.prog 68 [il l] (bb (decide (1000 ≤ sumI l))) := by
  refine aN false 6 [.tmp 2] Tryz.func68 rfl rfl rfl (by simp) (by decide) rfl fun X hX => ?_
  (repeat (first | refine aD ?_ | refine a8 ?_ | ((first | refine aA [0, 2] hX ?_ | refine a7 [0, 2] hX mixed ?_ | refine aE ?_ | refine aB ?_ | refine aC ?_); (simp [go_sem]; try (refine ⟨by kernel_rfl, ?_⟩)))))
  first | refine aF (mD l hl h) rfl (by simp [go_sem]) rfl ?_ | refine aG (mD l hl h) rfl (by simp [go_sem]) rfl ?_
  try (simp [go_sem]; try (refine ⟨by kernel_rfl, ?_⟩))
  (repeat (first | refine aD ?_ | refine a8 ?_ | ((first | refine aA [0, 2] hX ?_ | refine a7 [0, 2] hX mixed ?_ | refine aE ?_ | refine aB ?_ | refine aC ?_); (simp [go_sem]; try (refine ⟨by kernel_rfl, ?_⟩)))))
theorem jE (own : List Int) (S : List (List Int)) (hl : own.length ≤ 9223372036854775807) (hS : S.length ≤ 9223372036854775807) (hr : ∀ l ∈ S, l.length ≤ 9223372036854775807) : Means false Tryz.prog 29 [il own, ill S] (ii (badP own S)) := by
  refine aN false 11 [.tmp 4] Tryz.func29 rfl rfl rfl (by simp) (by decide) rfl fun X hX => ?_
  (repeat (first | refine aD ?_ | refine a8 ?_ | ((first | refine aA q10x6 hX ?_ | refine a7 q10x6 hX mixed ?_ | refine aE ?_ | refine aB ?_ | refine aC ?_); (simp [go_sem]; try (refine ⟨by kernel_rfl, ?_⟩)))))
  first | refine aF (x9 own S hl hS hr) rfl (by simp [go_sem]) rfl ?_ | refine aG (x9 own S hl hS hr) rfl (by simp [go_sem]) rfl ?_
  try (simp [go_sem]; try (refine ⟨by kernel_rfl, ?_⟩))
  by_cases h : PR own S
  · refine aH (b := false) (by simp [go_sem, h]) (fun h => by cases h) (fun _ => ?_)
    (repeat (first | refine aD ?_ | refine a8 ?_ | ((first | refine aA q10x6 hX ?_ | refine a7 q10x6 hX mixed ?_ | refine aE ?_ | refine aB ?_ | refine aC ?_); (simp [go_sem]; try (refine ⟨by kernel_rfl, ?_⟩)))))
    first | refine aF (x7 68 (fun l => decide (1000 ≤ sumI l)) S hS (fun l hl => xA l (by have := (dZ h hl).1; omega) (dZ h hl).2) (by kernel_rfl)) rfl (by simp [go_sem]) rfl ?_ | refine aG (x7 68 (fun l => decide (1000 ≤ sumI l)) S hS (fun l hl => xA l (by have := (dZ h hl).1; omega) (dZ h hl).2) (by kernel_rfl)) rfl (by simp [go_sem]) rfl ?_
    try (simp [go_sem]; try (refine ⟨by kernel_rfl, ?_⟩))
    by_cases hv : PV own S
    · have e : badP own S = 0 := by unfold badP; rw [if_pos h, if_pos hv]
      rw [e]
      have ha := (CG h).2 hv
      refine aH (b := false) (by simp [go_sem, ha]) (fun h => by cases h) (fun _ => ?_)
      (repeat (first | refine aD ?_ | refine a8 ?_ | ((first | refine aA q10x6 hX ?_ | refine a7 q10x6 hX mixed ?_ | refine aE ?_ | refine aB ?_ | refine aC ?_); (simp [go_sem]; try (refine ⟨by kernel_rfl, ?_⟩)))))
    · have e : badP own S = 23 := by unfold badP; rw [if_pos h, if_neg hv]
      rw [e]
      have ha : S.any (fun l => decide (1000 ≤ sumI l)) = true := by
        cases hq : S.any (fun l => decide (1000 ≤ sumI l)) with
        | true => rfl
        | false => exact absurd ((CG h).1 hq) hv
      refine aH (b := true) (by simp [go_sem, ha]) (fun _ => ?_) (fun h => by cases h)
      (repeat (first | refine aD ?_ | refine a8 ?_ | ((first | refine aA q10x6 hX ?_ | refine a7 q10x6 hX mixed ?_ | refine aE ?_ | refine aB ?_ | refine aC ?_); (simp [go_sem]; try (refine ⟨by kernel_rfl, ?_⟩)))))
  · have e : badP own S = 1 := by unfold badP; rw [if_neg h]
    rw [e]
    refine aH (b := true) (by simp [go_sem, h]) (fun _ => ?_) (fun h => by cases h)
    (repeat (first | refine aD ?_ | refine a8 ?_ | ((first | refine aA q10x6 hX ?_ | refine a7 q10x6 hX mixed ?_ | refine aE ?_ | refine aB ?_ | refine aC ?_); (simp [go_sem]; try (refine ⟨by kernel_rfl, ?_⟩)))))
theorem kF (z : Int) : ((z : Rat) / ((1 : Int) : Rat)) = (z : Rat) := by
  have : ((1 : Int) : Rat) = 1 := rfl
  rw [this]; grind
theorem rF {z : Int} (h : -9223372036854775808 ≤ z ∧ z ≤ 9223372036854775807) : rq (z : Rat) := by
  rw [← kF]; exact o6 h (by decide) (by decide)
theorem uA {p : Int} (hp : -9223372036854775808 ≤ p ∧ p ≤ 9223372036854775807) : MeansH Tryz.prog 33 [calC 0] [.el 0 1 0 0, ii p, ii 1] (frq (p : Rat)) [calC 0] := by
  have := wG hp (q := 1) (by decide) (by decide)
  rwa [kF] at this
theorem GW {p q : Int} (hp : 0 ≤ p ∧ p ≤ 1099511627776) (hq : 0 ≤ q ∧ q ≤ 1000) : MeansH Tryz.prog 32 [calC 0] [.el 0 1 0 0, frq (p : Rat), frq (q : Rat)] (frq ((p * q : Int) : Rat)) [calC 0] := by
  have := mT (rF (z := p) (by omega)) (rF (z := q) (by omega)) (by
    refine cY (k := 40) (m := 0) (k' := 10) (m' := 0) ?_ ?_ ?_ ?_ (by omega) (by omega)
    · rw [Rat.num_intCast]; unfold bt; have : (2 : Nat) ^ 40 = 1099511627776 := by decide
      omega
    · rw [Rat.den_intCast]; show 1 ≤ 2 ^ 0; decide
    · rw [Rat.num_intCast]; unfold bt; have : (2 : Nat) ^ 10 = 1024 := by decide
      omega
    · rw [Rat.den_intCast]; show 1 ≤ 2 ^ 0; decide)
  rwa [← Rat.intCast_mul] at this
set_option maxHeartbeats 8000000 in
set_option maxRecDepth 20000 in
theorem GX (own : List Int) (S : List (List Int)) (h : PR own S) : MeansH Tryz.prog 31 [calC 0] [.el 0 1 0 0, il own, ill S] (.ow 1) (calC 0 :: outC 2 own.length :: mxC (poolM own S) own.length) := by
  have hn := h.most
  refine bG 1 58 [.tmp 6] Tryz.func31 rfl rfl rfl (by simp) (by decide) rfl fun X hX => ?_
  (repeat (first | refine aD ?_ | refine a8 ?_ | ((first | refine aA q10x0 hX ?_ | refine a7 q10x0 hX mixed ?_ | refine aB ?_ | refine aC ?_); (simp [go_sem]; try (refine ⟨by kernel_rfl, ?_⟩)))))
  refine aQ (fun i : Nat => ⟨mkE [(0, .el 0 1 0 0), (1, il own), (2, ill S), (7, .ow 2), (13, ii own.length), (14, ii i), (1000000, .ow 0)], calC 0 :: .dead :: outC 3 i :: matC 41 4 ((mxL (poolM own S) own.length).take i)⟩) (fun i => i ≤ own.length) (fun i => own.length - i) 0 ?_ ?_ ?_
  · refine aI _ [.old 0 ⟨56, 1, [.agg [ii 0]]⟩, .gone 0, .birth 24 1] (by simp [go_sem]) ?_
    simp [go_sem]
  · omega
  · intro i hi
    (repeat (first | refine aD ?_ | refine a8 ?_ | ((first | refine aA q10x0 hX ?_ | refine a7 q10x0 hX mixed ?_ | refine aB ?_ | refine aC ?_); (simp [go_sem]; try (refine ⟨by kernel_rfl, ?_⟩)))))
    refine aH (b := decide (i < own.length)) (by simp [go_sem]) (fun hb => ?_) (fun hb => ?_)
    · simp only [decide_eq_true_eq] at hb
      have hMl : ((mxL (poolM own S) own.length).take i).length = i := by rw [List.length_take, b9]; omega
      have hMz : ∀ es ∈ (mxL (poolM own S) own.length).take i, zoneEs es = true := fun es he => by
        obtain ⟨j, hj, rfl⟩ := List.getElem_of_mem (List.mem_of_mem_take he)
        exact dN (List.getElem?_eq_getElem hj)
      have hMs : (mxL (poolM own S) own.length).take (i + 1) = (mxL (poolM own S) own.length).take i ++ [rowL (poolM own S) own.length i] := by
        have hl : i < (mxL (poolM own S) own.length).length := by rw [b9]; exact hb
        rw [List.take_succ_eq_append_getElem hl]
        have := eZ (A := poolM own S) hb
        rw [List.getElem?_eq_getElem hl] at this
        rw [Option.some.inj this]
      have hRs : ∀ j, j < own.length + 1 → (rowL (poolM own S) own.length i).take (j + 1) = (rowL (poolM own S) own.length i).take j ++ [frq (poolM own S i j)] := fun j hj => by
        have hl : j < (rowL (poolM own S) own.length i).length := by rw [cL]; exact hj
        rw [List.take_succ_eq_append_getElem hl]
        have := eK (A := poolM own S) (n := own.length) (k := i) (t := j) (by omega)
        rw [rG hl] at this
        rw [this]
      have hRl : ∀ j, j ≤ own.length → ((rowL (poolM own S) own.length i).take j).length = j := fun j hj => by rw [List.length_take, cL]; omega
      have hRz : ∀ j, zoneEs ((rowL (poolM own S) own.length i).take j) = true := fun j => tM j _ (oR _ _ _)
      have hRe : (rowL (poolM own S) own.length i).take (own.length + 1) = rowL (poolM own S) own.length i := List.take_of_length_le (by rw [cL]; omega)
      have wi := w64 (x := (i : Int) + 1) (by omega) (by omega)
      obtain ⟨M, hM⟩ : ∃ M, (mxL (poolM own S) own.length).take i = M := ⟨_, rfl⟩
      rw [hM] at hMl hMz hMs ⊢
      clear hM
      (repeat (first | refine aD ?_ | refine a8 ?_ | ((first | refine aA q10x0 hX ?_ | refine a7 q10x0 hX mixed ?_ | refine aB ?_ | refine aC ?_); (simp [go_sem]; try (refine ⟨by kernel_rfl, ?_⟩)))))
      refine aQ (fun j : Nat => ⟨mkE [(0, .el 0 1 0 0), (1, il own), (2, ill S), (7, .ow 2), (8, ii i), (9, .ow 1), (13, ii own.length), (14, ii i), (18, ii own.length), (19, ii j), (1000000, .ow 0)], calC 0 :: .row ⟨41, 4, (rowL (poolM own S) own.length i).take j⟩ :: outC 3 i :: matC 41 4 M⟩) (fun j => j ≤ own.length) (fun j => own.length - j) 0 ?_ ?_ ?_
      · have := uZ (X := X) (env := mkE [(0, .el 0 1 0 0), (1, il own), (2, ill S), (7, .ow 2), (8, ii i), (9, .nil), (13, ii own.length), (14, ii i), (18, ii own.length), (19, ii (0 : Nat)), (1000000, .ow 0)]) [(0, .el 0 1 0 0), (1, il own), (2, ill S), (7, .ow 2), (8, ii i), (9, .ow 1), (13, ii own.length), (14, ii i), (18, ii own.length), (19, ii (0 : Nat)), (1000000, .ow 0)] (.old 0 ⟨56, 1, [.agg [ii 0]]⟩) (.birth 41 4) (calC 0) .dead (E1 := 24) (E2 := 41) (k2 := 4) M [] i hMl hMz (by simp [go_sem]) (by simp [Src.rid, List.filterMap_cons]) (by simp [Src.rid, List.filterMap_cons]) (by simp [go_sem])
        rw [List.append_nil] at this
        exact dF this (c9 _ _ rfl (by simp [go_sem]))
      · omega
      · intro j hj
        (repeat (first | refine aD ?_ | refine a8 ?_ | ((first | refine aA q10x0 hX ?_ | refine a7 q10x0 hX mixed ?_ | refine aB ?_ | refine aC ?_); (simp [go_sem]; try (refine ⟨by kernel_rfl, ?_⟩)))))
        refine aH (b := decide (j < own.length)) (by simp [go_sem]) (fun hc => ?_) (fun hc => ?_)
        · simp only [decide_eq_true_eq] at hc
          have hjS : j < S.length := by rw [h.len]; exact hc
          have hlr := h.row S[j] (List.getElem_mem hjS)
          have hij2 : i < S[j].length := by omega
          have q1 := eT (L := S) hjS
          have q2 := cR hij2
          have hso : sO S j i = S[j][i] := by
            unfold sO
            rw [List.getD_eq_getElem?_getD (l := S), List.getElem?_eq_getElem hjS]
            exact bT hij2
          have hsb := h.s j i hc hb
          rw [hso] at hsb
          have hA := iC (S := S) (k := i) hc
          rw [hso] at hA
          have wj := w64 (x := (j : Int) + 1) (by omega) (by omega)
          have wv := w64 (x := -S[j][i]) (by omega) (by omega)
          have wv0 : (0 : Int) - S[j][i] = -S[j][i] := by omega
          have hRj := hRs j (by omega)
          have hlj := hRl j (by omega)
          have hRjz := hRz j
          generalize (rowL (poolM own S) own.length i).take j = R at *
          generalize hsv : S[j][i] = sv at *
          (repeat (first | refine aD ?_ | refine a8 ?_ | ((first | refine aA q10x0 hX ?_ | refine a7 q10x0 hX mixed ?_ | refine aB ?_ | refine aC ?_); (simp [go_sem, q1, q2, hjS, hij2, wv, wv0]; try (refine ⟨by kernel_rfl, ?_⟩)))))
          by_cases hij : i = j
          · have hAj : poolM own S i j = ((1000 : Int) : Rat) := by rw [hA, if_pos hij]; rfl
            refine aH (b := true) (by simp [go_sem]; try omega) (fun h => ?_) (fun h => by cases h)
            (repeat (first | refine aD ?_ | refine a8 ?_ | ((first | refine aA q10x0 hX ?_ | refine a7 q10x0 hX mixed ?_ | refine aB ?_ | refine aC ?_); (simp [go_sem]; try (refine ⟨by kernel_rfl, ?_⟩)))))
            have c1 := uA (p := 1000) (by omega)
            first | refine aM [0] (c1) (by simp [go_sem]) ?_ | refine aJ [0] (c1) (by simp [go_sem]) ?_ | refine aK [0] (c1) (by simp [go_sem]) ?_
            try (simp [go_sem, hlj]; try (refine ⟨by kernel_rfl, ?_⟩))
            (repeat refine And.intro (by first | omega | (unfold maxLen; omega) | (refine ⟨by omega, by omega⟩)) ?_)
            try (repeat (first | refine aD ?_ | refine a8 ?_ | ((first | refine aA q10x0 hX ?_ | refine a7 q10x0 hX mixed ?_ | refine aB ?_ | refine aC ?_); (simp [go_sem, wj]; try (refine ⟨by kernel_rfl, ?_⟩)))))
            refine ⟨j + 1, by omega, by omega, ?_⟩
            rw [hRj, hAj]
            have hfb : ∀ x y : Cell, (matC 41 4 M ++ [x, y])[i + 1]? = some y := fun x y => by
              rw [List.getElem?_append_right (by rw [bJ]; omega), bJ, hMl, Nat.add_sub_cancel_left]; rfl
            have hMC : (matC 41 4 M).length = i := by rw [bJ, hMl]
            refine dF ?_ (c9 [(0, .el 0 1 0 0), (1, il own), (2, ill S), (7, .ow 2), (8, ii i), (9, .ow (i + 4)), (13, ii own.length), (14, ii i), (18, ii own.length), (19, ii ((j + 1 : Nat) : Int)), (1000000, .ow 0)] _ rfl (by simp [go_sem, hMC]))
            exact uZ _ (.old 0 ⟨56, 1, [.agg [ii 0]]⟩) (.old (i + 4) ⟨41, 4, R ++ [frq ((1000 : Int) : Rat)]⟩) (calC 0) .dead (E1 := 24) (E2 := 41) (k2 := 4) M _ i hMl hMz (by simp [go_sem, hfb, hRjz]) (by simp [Src.rid, List.filterMap_cons]) (by simp [Src.rid, List.filterMap_cons]) (by simp [go_sem])
          · have hAj : poolM own S i j = ((-sv : Int) : Rat) := by rw [hA, if_neg hij]
            refine aH (b := false) (by simp [go_sem]; try omega) (fun h => by cases h) (fun h => ?_)
            (repeat (first | refine aD ?_ | refine a8 ?_ | ((first | refine aA q10x0 hX ?_ | refine a7 q10x0 hX mixed ?_ | refine aB ?_ | refine aC ?_); (simp [go_sem]; try (refine ⟨by kernel_rfl, ?_⟩)))))
            have c1 := uA (p := -sv) (by omega)
            first | refine aM [0] (c1) (by simp [go_sem]) ?_ | refine aJ [0] (c1) (by simp [go_sem]) ?_ | refine aK [0] (c1) (by simp [go_sem]) ?_
            try (simp [go_sem, hlj]; try (refine ⟨by kernel_rfl, ?_⟩))
            (repeat refine And.intro (by first | omega | (unfold maxLen; omega) | (refine ⟨by omega, by omega⟩)) ?_)
            try (repeat (first | refine aD ?_ | refine a8 ?_ | ((first | refine aA q10x0 hX ?_ | refine a7 q10x0 hX mixed ?_ | refine aB ?_ | refine aC ?_); (simp [go_sem, wj]; try (refine ⟨by kernel_rfl, ?_⟩)))))
            refine ⟨j + 1, by omega, by omega, ?_⟩
            rw [hRj, hAj]
            have hfb : ∀ x y : Cell, (matC 41 4 M ++ [x, y])[i + 1]? = some y := fun x y => by
              rw [List.getElem?_append_right (by rw [bJ]; omega), bJ, hMl, Nat.add_sub_cancel_left]; rfl
            have hMC : (matC 41 4 M).length = i := by rw [bJ, hMl]
            refine dF ?_ (c9 [(0, .el 0 1 0 0), (1, il own), (2, ill S), (7, .ow 2), (8, ii i), (9, .ow (i + 4)), (13, ii own.length), (14, ii i), (18, ii own.length), (19, ii ((j + 1 : Nat) : Int)), (1000000, .ow 0)] _ rfl (by simp [go_sem, hMC]))
            exact uZ _ (.old 0 ⟨56, 1, [.agg [ii 0]]⟩) (.old (i + 4) ⟨41, 4, R ++ [frq ((-sv : Int) : Rat)]⟩) (calC 0) .dead (E1 := 24) (E2 := 41) (k2 := 4) M _ i hMl hMz (by simp [go_sem, hfb, hRjz]) (by simp [Src.rid, List.filterMap_cons]) (by simp [Src.rid, List.filterMap_cons]) (by simp [go_sem])
        · simp only [decide_eq_false_iff_not] at hc
          have hj2 : j = own.length := by omega
          subst hj2
          have q1 := cR hb
          have hw := h.w i hb
          rw [show wO own i = own[i] from bT hb] at hw
          have hA := gJ (own := own) (S := S) i
          rw [show wO own i = own[i] from bT hb] at hA
          have hRj := hRs own.length (by omega)
          have hlj := hRl own.length (by omega)
          rw [hRe, hA] at hRj
          have hRjz := hRz own.length
          generalize (rowL (poolM own S) own.length i).take own.length = R at *
          generalize hov : own[i] = ov at *
          have c1 := uA (p := ov) (by omega)
          have c2 := uA (p := 1000) (by omega)
          have c3 := GW (p := ov) (q := 1000) (by omega) (by omega)
          have hMC : (matC 41 4 M).length = i := by rw [bJ, hMl]
          (repeat (first | refine aD ?_ | refine a8 ?_ | ((first | refine aA q10x0 hX ?_ | refine a7 q10x0 hX mixed ?_ | refine aB ?_ | refine aC ?_); (simp [go_sem, q1, hb]; try (refine ⟨by kernel_rfl, ?_⟩)))))
          first | refine aM [0] (c1) (by simp [go_sem]) ?_ | refine aJ [0] (c1) (by simp [go_sem]) ?_ | refine aK [0] (c1) (by simp [go_sem]) ?_
          try (simp [go_sem, hlj]; try (refine ⟨by kernel_rfl, ?_⟩))
          first | refine aM [0] (c2) (by simp [go_sem]) ?_ | refine aJ [0] (c2) (by simp [go_sem]) ?_ | refine aK [0] (c2) (by simp [go_sem]) ?_
          try (simp [go_sem, hlj]; try (refine ⟨by kernel_rfl, ?_⟩))
          first | refine aM [0] (c3) (by simp [go_sem]) ?_ | refine aJ [0] (c3) (by simp [go_sem]) ?_ | refine aK [0] (c3) (by simp [go_sem]) ?_
          try (simp [go_sem, hlj]; try (refine ⟨by kernel_rfl, ?_⟩))
          (repeat refine And.intro (by first | omega | (unfold maxLen; omega) | (refine ⟨by omega, by omega⟩)) ?_)
          refine And.intro (by rw [dO]; exact ⟨by omega, by unfold maxLen; omega⟩) ?_
          try (repeat (first | refine aD ?_ | refine a8 ?_ | ((first | refine aA q10x0 hX ?_ | refine a7 q10x0 hX mixed ?_ | refine aB ?_ | refine aC ?_); (simp [go_sem, wi]; try (refine ⟨by kernel_rfl, ?_⟩)))))
          refine ⟨i + 1, by omega, by omega, ?_⟩
          have hcast : ((ov * 1000 : Int) : Rat) = (ov : Rat) * 1000 := by rw [Rat.intCast_mul]; rfl
          rw [hMs, hRj, hcast]
          refine dF ?_ (c9 [(0, .el 0 1 0 0), (1, il own), (2, ill S), (7, .ow (i + 6)), (13, ii own.length), (14, ii ((i + 1 : Nat) : Int)), (1000000, .ow 0)] _ rfl (by simp [go_sem, hMC]))
          rw [hMC]
          exact DM _ (.old 0 ⟨56, 1, [.agg [ii 0]]⟩) (.gone 0) (calC 0) .dead .dead (E1 := 24) (E2 := 41) (k2 := 4) M _ _ _ i hMl hMz (by simp [go_sem, hRjz]) (by simp [go_sem]) (by simp [Src.rid, List.filterMap_cons]) (by simp [Src.rid, List.filterMap_cons]) (by simp [go_sem])
    · simp only [decide_eq_false_iff_not] at hb
      have hi2 : i = own.length := by omega
      subst hi2
      (repeat (first | refine aD ?_ | refine a8 ?_ | ((first | refine aA q10x0 hX ?_ | refine a7 q10x0 hX mixed ?_ | refine aB ?_ | refine aC ?_); (simp [go_sem]; try (refine ⟨by kernel_rfl, ?_⟩)))))
      rw [show (mxL (poolM own S) own.length).take own.length = mxL (poolM own S) own.length from List.take_of_length_le (by rw [b9]; exact Nat.le_refl _)]
      refine aE ?_
      refine bE [(6, .ow 1), (1000000, .ow 0)] ([.old 0 ⟨56, 1, [.agg [ii 0]]⟩] ++ .old 2 ⟨24, 1, outN ([Src.old 0 ⟨56, 1, [.agg [ii 0]]⟩].length + 1) (mxL (poolM own S) own.length).length⟩ :: matS (fun k => k + 3) 41 4 0 (mxL (poolM own S) own.length)) ⟨DL _ 2 (fun k => k + 3) _ (by simp [outN, b9]) (fun j es h => ⟨bX h, dN h⟩) (by simp [go_sem]) (l9 (by simp [Src.rid, List.filterMap_cons]) (by simp [Src.rid, List.filterMap_cons]) (by simp [Src.rid, List.filterMap_cons]) (by simp)), by simp [go_sem], by simp [iE, b9, Src.cell], by simp, by simp [go_sem], .inl ?_⟩
      simp [go_sem, iE]
end Go.Proofs.YthibhamepjhfjaaGreatDoor

namespace Go.Proofs.YthibhamepjhfjaaGreatDoor
open Go.RowKit Go.Ab
attribute [local irreducible] AWP Go.Ab.Sub Means MeansH MeansX CallK CallG CallT CallGT CallU
theorem CH (A : Mx) (n m : Nat) (h : n + 2 ≤ m) : okRowIds m (calC 0 :: outC 2 n :: mxC A n) := by
  refine ⟨.inl rfl, .inr fun e he => ?_, ?_⟩
  · simp only [outN, List.mem_flatMap, List.mem_map] at he
    obtain ⟨x, ⟨k, hk, rfl⟩, he⟩ := he
    have : k < n := by simpa using hk
    simp only [AV.flat, List.mem_singleton] at he
    subst he
    show k + 2 < m
    omega
  · have : ∀ M : List (List AV), (∀ es ∈ M, zoneEs es = true) → okRowIds m (matC 41 4 M) := by
      intro M
      induction M with
      | nil => intro _; trivial
      | cons es M ih => exact fun hz => ⟨.inl (hz es (by simp)), ih fun e he => hz e (List.mem_cons_of_mem _ he)⟩
    exact this _ fun es he => by
      obtain ⟨j, hj, rfl⟩ := List.getElem_of_mem he
      exact dN (List.getElem?_eq_getElem hj)
def keptX (own : List Int) (S : List (List Int)) (k : Nat) : Rat := allX own S k * (((1000 - sumI (S.getD k []) : Int) : Rat) / ((1000 : Int) : Rat))
abbrev allL (own : List Int) (S : List (List Int)) : List AV := (List.range own.length).map fun k => frq (allX own S k)
abbrev keptL (own : List Int) (S : List (List Int)) : List AV := (List.range own.length).map fun k => frq (keptX own S k)
theorem pP (own : List Int) (S : List (List Int)) : zoneEs (allL own S) = true := by
  unfold zoneEs
  rw [List.all_eq_true]
  intro e he
  obtain ⟨k, _, rfl⟩ := List.mem_map.1 he
  rfl
set_option maxHeartbeats 8000000 in
set_option maxRecDepth 20000 in
theorem xB (own : List Int) (S : List (List Int)) (hv : PV own S) (hF : Fit (poolM own S) own.length) (hk : ∀ k, k < own.length → okMul (allX own S k) (((1000 - sumI (S.getD k []) : Int) : Rat) / ((1000 : Int) : Rat))) :
    Means false Tryz.prog 10 [il own, ill S] (.tup [.sl (allL own S), .sl (keptL own S), ii 0]) := by
  have hn := hv.most
  have hSl := hv.len
  have hbad : badP own S = 0 := by unfold badP; rw [if_pos hv.toPR, if_pos hv]
  have c1 := jE own S (by omega) (by omega) fun l hl => by have := (dZ hv.toPR hl).1; omega
  rw [hbad] at c1
  have c2 := GX own S hv.toPR
  have c3 := GD (poolM own S) own.length (by omega) hF
  have hMC : (mxC (poolM own S) own.length).length = own.length := by rw [bJ, b9]
  refine aN false 60 [.tmp 4, .tmp 5, .tmp 6] Tryz.func10 rfl rfl rfl (by simp) (by decide) rfl fun X hX => ?_
  (repeat (first | refine aD ?_ | refine a8 ?_ | ((first | refine aA q10x2 hX ?_ | refine a7 q10x2 hX mixed ?_ | refine aE ?_ | refine aB ?_ | refine aC ?_); (simp [go_sem]; try (refine ⟨by kernel_rfl, ?_⟩)))))
  first | refine aF (c1) rfl (by simp [go_sem]) rfl ?_ | refine aG (c1) rfl (by simp [go_sem]) rfl ?_
  try (simp [go_sem]; try (refine ⟨by kernel_rfl, ?_⟩))
  (repeat (first | refine aD ?_ | refine a8 ?_ | ((first | refine aA q10x2 hX ?_ | refine a7 q10x2 hX mixed ?_ | refine aE ?_ | refine aB ?_ | refine aC ?_); (simp [go_sem]; try (refine ⟨by kernel_rfl, ?_⟩)))))
  refine aH (b := false) (by simp [go_sem]) (fun h => by cases h) (fun _ => ?_)
  (repeat (first | refine aD ?_ | refine a8 ?_ | ((first | refine aA q10x2 hX ?_ | refine a7 q10x2 hX mixed ?_ | refine aE ?_ | refine aB ?_ | refine aC ?_); (simp [go_sem]; try (refine ⟨by kernel_rfl, ?_⟩)))))
  refine yB c2 rfl ?_ ?_ ?_ ?_
  · simp [go_sem]
  · simp [go_sem]
  · simp
  try (simp [go_sem]; try (refine ⟨by kernel_rfl, ?_⟩))
  refine yC (c0 := calC 0) (R := outC 2 own.length :: mxC (poolM own S) own.length) c3 rfl (CH _ _ _ (by rw [List.length_cons, hMC]; omega)) ?_ ?_ (pP own S) fun D hD => ?_
  · simp [go_sem]
  · simp [go_sem]
  try (simp [go_sem]; try (refine ⟨by kernel_rfl, ?_⟩))
  refine And.intro (by rw [hD]; simp) ?_
  have hD2 : D.length = own.length + 1 := by rw [hD, List.length_cons, hMC]
  have hgx : ∀ x : Cell, (D ++ [x])[own.length + 1]? = some x := fun x => by
    rw [List.getElem?_append_right (by omega), hD2, Nat.sub_self]; rfl
  have hXe : (List.range own.length).map (fun k => frq (solx (poolM own S) own.length k)) = allL own S := rfl
  rw [hMC, hXe]
  have hz := pP own S
  refine iB (aI [(0, il own), (1, ill S), (8, .el 0 1 0 0), (9, .ow 1)] [.old 0 ⟨56, 1, [.agg [ii 0]]⟩, .old (own.length + 2) ⟨41, 4, allL own S⟩] (by simp [go_sem, hgx, hz]) (by simp [go_sem])) ?_
  simp only [List.map_cons, List.map_nil, Src.cell]
  clear hgx hD hD2 D c2 c3 hMC hbad c1 hXe
  have hal : (allL own S).length = own.length := by simp
  have hag : ∀ k, k < own.length → nth (allL own S) k = frq (allX own S k) := fun k hk => eL (by simp [hk])
  have hrx : ∀ k, k < own.length → rq (allX own S k) := fun k hk => by
    have := AX (hF.dpos k hk) (hF.fin k hk)
    exact this
  obtain ⟨AL, hAL⟩ : ∃ AL, allL own S = AL := ⟨_, rfl⟩
  rw [hAL] at hal hag hz ⊢
  (repeat (first | refine aD ?_ | refine a8 ?_ | ((first | refine aA q10x2 hX ?_ | refine a7 q10x2 hX mixed ?_ | refine aE ?_ | refine aB ?_ | refine aC ?_); (simp [go_sem]; try (refine ⟨by kernel_rfl, ?_⟩)))))
  refine aQ (fun i : Nat => ⟨mkE [(0, il own), (1, ill S), (8, .el 0 1 0 0), (9, .ow 1), (10, .ow 2), (27, ill S), (28, ii own.length), (29, ii i)], [calC 0, .row ⟨41, 4, AL⟩, .row ⟨41, 4, (List.range i).map fun k => frq (keptX own S k)⟩]⟩) (fun i => i ≤ own.length) (fun i => own.length - i) 0 ?_ ?_ ?_
  · refine aI _ [.old 0 ⟨56, 1, [.agg [ii 0]]⟩, .old 1 ⟨41, 4, AL⟩, .birth 41 4] (by simp [go_sem, hz]) ?_
    simp [go_sem, hSl]
  · omega
  · intro i hi
    (repeat (first | refine aD ?_ | refine a8 ?_ | ((first | refine aA q10x2 hX ?_ | refine a7 q10x2 hX mixed ?_ | refine aE ?_ | refine aB ?_ | refine aC ?_); (simp [go_sem]; try (refine ⟨by kernel_rfl, ?_⟩)))))
    refine aH (b := decide (i < own.length)) (by simp [go_sem]) (fun hb => ?_) (fun hb => ?_)
    · simp only [decide_eq_true_eq] at hb
      have hbS : i < S.length := by omega
      have q1 := eT (L := S) hbS
      have q2 := hag i hb
      have hpr := dZ hv.toPR (List.getElem_mem hbS)
      have hgv := mD S[i] (by omega) hpr.2
      have hsb := eA S[i] S[i].length hpr.2
      rw [List.take_length] at hsb
      have hlt := hv.lt S[i] (List.getElem_mem hbS)
      have hgd : S.getD i [] = S[i] := by rw [List.getD_eq_getElem?_getD, List.getElem?_eq_getElem hbS]; rfl
      have hmk := hk i hb
      have hkx : keptX own S i = allX own S i * (((1000 - sumI S[i] : Int) : Rat) / ((1000 : Int) : Rat)) := by unfold keptX; rw [hgd]
      rw [hgd] at hmk
      have c1 := wG (p := 1000 - sumI S[i]) (q := 1000) (by omega) (by decide) (by decide)
      have c2 := mT (hrx i hb) (o6 (p := 1000 - sumI S[i]) (q := 1000) (by omega) (by decide) (by decide)) hmk
      rw [← hkx] at c2
      have hsn : (List.range (i + 1)).map (fun k => frq (keptX own S k)) = (List.range i).map (fun k => frq (keptX own S k)) ++ [frq (keptX own S i)] := by rw [List.range_succ, List.map_append]; rfl
      have wi := w64 (x := (i : Int) + 1) (by omega) (by omega)
      have ws := w64 (x := 1000 - sumI S[i]) (by omega) (by omega)
      have hail : i < AL.length := by omega
      (repeat (first | refine aD ?_ | refine a8 ?_ | ((first | refine aA q10x2 hX ?_ | refine a7 q10x2 hX mixed ?_ | refine aE ?_ | refine aB ?_ | refine aC ?_); (simp [go_sem, q1, q2, hbS, hail]; try (refine ⟨by kernel_rfl, ?_⟩)))))
      first | refine aF (hgv) rfl (by simp [go_sem]) rfl ?_ | refine aG (hgv) rfl (by simp [go_sem]) rfl ?_
      try (simp [go_sem, q1, q2, hbS, hail, ws]; try (refine ⟨by kernel_rfl, ?_⟩))
      try (repeat refine And.intro (by first | omega | (unfold maxLen; omega) | kernel_rfl | (refine ⟨by first | omega | (unfold maxLen; omega), by first | omega | (unfold maxLen; omega)⟩) | grind) ?_)
      first | refine aM [0] (c1) (by simp [go_sem]) ?_ | refine aJ [0] (c1) (by simp [go_sem]) ?_ | refine aK [0] (c1) (by simp [go_sem]) ?_
      try (simp [go_sem, q1, q2, hbS, hail]; try (refine ⟨by kernel_rfl, ?_⟩))
      try (repeat refine And.intro (by first | omega | (unfold maxLen; omega) | kernel_rfl | (refine ⟨by first | omega | (unfold maxLen; omega), by first | omega | (unfold maxLen; omega)⟩) | grind) ?_)
      first | refine aM [0] (c2) (by simp [go_sem]) ?_ | refine aJ [0] (c2) (by simp [go_sem]) ?_ | refine aK [0] (c2) (by simp [go_sem]) ?_
      try (simp [go_sem, q1, q2, hbS, hail]; try (refine ⟨by kernel_rfl, ?_⟩))
      (repeat refine And.intro (by first | omega | (unfold maxLen; omega) | kernel_rfl | (refine ⟨by first | omega | (unfold maxLen; omega), by first | omega | (unfold maxLen; omega)⟩) | grind) ?_)
      try (repeat (first | refine aD ?_ | refine a8 ?_ | ((first | refine aA q10x2 hX ?_ | refine a7 q10x2 hX mixed ?_ | refine aE ?_ | refine aB ?_ | refine aC ?_); (simp [go_sem, wi]; try (refine ⟨by kernel_rfl, ?_⟩)))))
      refine ⟨i + 1, by omega, by omega, ?_⟩
      rw [hsn]
      refine aI _ [.old 0 ⟨56, 1, [.agg [ii 0]]⟩, .old 1 ⟨41, 4, AL⟩, .old 4 ⟨41, 4, (List.range i).map (fun k => frq (keptX own S k)) ++ [frq (keptX own S i)]⟩] (by simp [go_sem, hz]) ?_
      simp [go_sem]
    · simp only [decide_eq_false_iff_not] at hb
      have hin : i = own.length := by omega
      subst hin
      (repeat (first | refine aD ?_ | refine a8 ?_ | ((first | refine aA q10x2 hX ?_ | refine a7 q10x2 hX mixed ?_ | refine aE ?_ | refine aB ?_ | refine aC ?_); (simp [go_sem]; try (refine ⟨by kernel_rfl, ?_⟩)))))
      refine aH (b := false) (by simp [go_sem]) (fun h => by cases h) (fun _ => ?_)
      have hzk : zoneEs ((List.range own.length).map fun k => frq (keptX own S k)) = true := by
        unfold zoneEs
        rw [List.all_eq_true]
        intro e he
        obtain ⟨k, _, rfl⟩ := List.mem_map.1 he
        rfl
      (repeat (first | refine aD ?_ | refine a8 ?_ | ((first | refine aA q10x2 hX ?_ | refine a7 q10x2 hX mixed ?_ | refine aE ?_ | refine aB ?_ | refine aC ?_); (simp [go_sem, hz, hzk]; try (refine ⟨by kernel_rfl, ?_⟩)))))
      trace_state
end Go.Proofs.YthibhamepjhfjaaGreatDoor

namespace Go.Proofs.YthibhamepjhfjaaGreatDoor
open Go.RowKit Go.Ab
attribute [local irreducible] AWP Go.Ab.Sub Means MeansH MeansX CallK CallG CallT CallGT CallU
def cmpR (a b : Rat) : Int := cmpI (a.num * b.den) (b.num * a.den)
theorem dK {a b : Rat} (ha : rq a) (hb : rq b) : Means false Tryz.prog 22 [frq a, frq b] (ii (cmpR a b)) := zL a.num a.den b.num b.den (iW ha) (iW hb)
theorem rH (a b : Rat) : cmpR a b < 0 ↔ a < b := by
  rw [Rat.lt_iff]
  unfold cmpR cmpI
  split
  · simp; assumption
  · split <;> simp <;> omega
theorem xC (a b : Rat) : 0 < cmpR a b ↔ b < a := by
  rw [Rat.lt_iff]
  unfold cmpR cmpI
  split
  · simp; omega
  · split <;> simp <;> omega
theorem mE (a b : Rat) : cmpR a b = 0 ↔ a = b := by
  have h1 := rH a b
  have h2 := xC a b
  constructor
  · intro h
    have h3 : ¬ a < b := fun e => by have := h1.2 e; omega
    have h4 : ¬ b < a := fun e => by have := h2.2 e; omega
    grind
  · rintro rfl
    have h3 : ¬ a < a := by grind
    have h5 : ¬ cmpR a a < 0 := fun e => h3 (h1.1 e)
    have h6 : ¬ 0 < cmpR a a := fun e => h3 (h2.1 e)
    omega
theorem rI {p q : Int} {r : Rat} {k m : Nat} (hq : q ≠ 0) (h : r * (q : Rat) = p) (hp : bt k p) (hm : bt m q) : bt k r.num ∧ bt m r.den := by
  obtain ⟨h1, h2⟩ := jF hq h
  obtain ⟨_, _, _, h4, h5, _⟩ := o7 (p := p) hq
  rw [h1] at h4
  rw [h2] at h5
  rw [lQ, lQ] at h4
  rw [lQ] at h5
  unfold bt at *
  refine ⟨by omega, ?_⟩
  simp only [Int.natAbs_natCast]
  omega
theorem CI {a b : Rat} {k m k' m' : Nat} (h1 : bt k a.num) (h2 : bt m a.den) (h3 : bt k' b.num) (h4 : bt m' b.den) : bt (k + k') (a * b).num ∧ bt (m + m') (a * b).den :=
  rI (lK a b) (rJ a b) (cP h1 h3) (cP h2 h4)
theorem CJ {a b : Rat} {k m k' m' c : Nat} (h1 : bt k a.num) (h2 : bt m a.den) (h3 : bt k' b.num) (h4 : bt m' b.den) (hc1 : k + m' ≤ c) (hc2 : k' + m ≤ c) : bt (c + 1) (a + b).num ∧ bt (m + m') (a + b).den :=
  rI (lK a b) (rK a b) (uV (bV (cP h1 h4) hc1) (bV (cP h3 h2) hc2)) (cP h2 h4)
theorem vX {z : Int} {k : Nat} (h : bt k z) : bt k ((z : Rat)).num ∧ bt 0 ((z : Rat)).den := by
  rw [Rat.num_intCast, Rat.den_intCast]
  exact ⟨h, by show 1 ≤ 2 ^ 0; decide⟩
theorem xD {p q : Int} {k m : Nat} (hq : q ≠ 0) (hp : bt k p) (hm : bt m q) : bt k ((p : Rat) / (q : Rat)).num ∧ bt m ((p : Rat) / (q : Rat)).den := rI hq (ofq hq) hp hm
theorem fC {z : Int} (h : 0 ≤ z ∧ z ≤ 1000) : bt 10 z := by
  unfold bt
  have : (2 : Nat) ^ 10 = 1024 := by decide
  omega
theorem HX {z : Int} (h : 0 ≤ z ∧ z ≤ 1099511627776) : bt 40 z := by
  unfold bt
  have : (2 : Nat) ^ 40 = 1099511627776 := by decide
  omega
def psum (own : List Int) (S : List (List Int)) (xs : List Rat) (i j : Nat) : Rat := ((wO own i : Int) : Rat) + sumR (fun t => xs.getD t 0 * (((sO S t i : Int) : Rat) / ((1000 : Int) : Rat))) j
theorem CK (own : List Int) (S : List (List Int)) (xs : List Rat) (i : Nat) : psum own S xs i 0 = ((wO own i : Int) : Rat) := by
  unfold psum; simp only [sumR]; grind
theorem pQ (own : List Int) (S : List (List Int)) (xs : List Rat) (i j : Nat) : psum own S xs i (j + 1) = psum own S xs i j + xs.getD j 0 * (((sO S j i : Int) : Rat) / ((1000 : Int) : Rat)) := by
  unfold psum; simp only [sumR]; grind
variable {own : List Int} {S : List (List Int)} {xs : List Rat}
theorem xE (h : PR own S) (hx : ∀ x ∈ xs, bt 310 x.num ∧ bt 160 x.den) (hl : xs.length = own.length) {i j : Nat} (hi : i < own.length) (hj : j < own.length) :
    bt 10 (((sO S j i : Int) : Rat) / ((1000 : Int) : Rat)).num ∧ bt 10 (((sO S j i : Int) : Rat) / ((1000 : Int) : Rat)).den ∧ bt 310 (xs.getD j 0).num ∧ bt 160 (xs.getD j 0).den ∧
      bt 320 (xs.getD j 0 * (((sO S j i : Int) : Rat) / ((1000 : Int) : Rat))).num ∧ bt 170 (xs.getD j 0 * (((sO S j i : Int) : Rat) / ((1000 : Int) : Rat))).den := by
  have hjl : j < xs.length := by omega
  have hg : xs.getD j 0 = xs[j] := by rw [List.getD_eq_getElem?_getD, List.getElem?_eq_getElem hjl]; rfl
  obtain ⟨h1, h2⟩ := xD (p := sO S j i) (q := 1000) (by decide) (fC (h.s j i hj hi)) (fC (by decide))
  obtain ⟨h3, h4⟩ := hx xs[j] (List.getElem_mem hjl)
  rw [hg]
  obtain ⟨h5, h6⟩ := CI h3 h4 h1 h2
  exact ⟨h1, h2, h3, h4, h5, h6⟩
theorem mF (h : PR own S) (hx : ∀ x ∈ xs, bt 310 x.num ∧ bt 160 x.den) (hl : xs.length = own.length) {i : Nat} (hi : i < own.length) : ∀ j, j ≤ own.length → bt (150 + 171 * j) (psum own S xs i j).num ∧ bt (170 * j) (psum own S xs i j).den
  | 0, _ => by
    rw [CK]
    obtain ⟨h1, h2⟩ := vX (HX (h.w i hi))
    exact ⟨bV h1 (by omega), bV h2 (by omega)⟩
  | j + 1, hj => by
    obtain ⟨h1, h2⟩ := mF h hx hl hi j (by omega)
    obtain ⟨_, _, _, _, h3, h4⟩ := xE h hx hl hi (j := j) (by omega)
    rw [pQ]
    obtain ⟨h5, h6⟩ := CJ (c := 320 + 171 * j) h1 h2 h3 h4 (by omega) (by omega)
    exact ⟨bV h5 (by omega), bV h6 (by omega)⟩
theorem EJ (h : PR own S) (h6 : own.length ≤ 6) (hx : ∀ x ∈ xs, bt 310 x.num ∧ bt 160 x.den) (hl : xs.length = own.length) {i j : Nat} (hi : i < own.length) (hj : j < own.length) :
    okMul (xs.getD j 0) (((sO S j i : Int) : Rat) / ((1000 : Int) : Rat)) ∧ okAdd (psum own S xs i j) (xs.getD j 0 * (((sO S j i : Int) : Rat) / ((1000 : Int) : Rat))) := by
  obtain ⟨h1, h2⟩ := mF h hx hl hi j (by omega)
  obtain ⟨a1, a2, a3, a4, a5, a6⟩ := xE h hx hl hi (j := j) hj
  exact ⟨cY a3 a4 a1 a2 (by omega) (by omega), s7 h1 h2 a5 a6 (by omega) (by omega) (by omega)⟩
def chkQ (own : List Int) (S : List (List Int)) (xs ys : List Rat) : Prop := ∀ i, i < own.length → psum own S xs i own.length = xs.getD i 0 ∧ xs.getD i 0 * (((1000 - sumI (S.getD i []) : Int) : Rat) / ((1000 : Int) : Rat)) = ys.getD i 0
noncomputable instance (own : List Int) (S : List (List Int)) (xs ys : List Rat) : Decidable (chkQ own S xs ys) := Classical.propDecidable _
theorem EK (h : PV own S) (hx : ∀ x ∈ xs, bt 310 x.num ∧ bt 160 x.den) (hl : xs.length = own.length) {i : Nat} (hi : i < own.length) :
    (0 ≤ 1000 - sumI (S.getD i []) ∧ 1000 - sumI (S.getD i []) ≤ 1000) ∧ okMul (xs.getD i 0) (((1000 - sumI (S.getD i []) : Int) : Rat) / ((1000 : Int) : Rat)) := by
  have hS : i < S.length := by rw [h.len]; exact hi
  have hg : S.getD i [] = S[i] := by rw [List.getD_eq_getElem?_getD, List.getElem?_eq_getElem hS]; rfl
  have hpr := dZ h.toPR (List.getElem_mem hS)
  have hsb := eA S[i] S[i].length hpr.2
  rw [List.take_length] at hsb
  have hlt := h.lt S[i] (List.getElem_mem hS)
  rw [hg]
  have hb : 0 ≤ 1000 - sumI S[i] ∧ 1000 - sumI S[i] ≤ 1000 := by omega
  obtain ⟨h1, h2⟩ := xD (p := 1000 - sumI S[i]) (q := 1000) (by decide) (fC hb) (fC (by decide))
  have hjl : i < xs.length := by omega
  have hg2 : xs.getD i 0 = xs[i] := by rw [List.getD_eq_getElem?_getD, List.getElem?_eq_getElem hjl]; rfl
  obtain ⟨h3, h4⟩ := hx xs[i] (List.getElem_mem hjl)
  rw [hg2]
  exact ⟨hb, cY h3 h4 h1 h2 (by omega) (by omega)⟩
end Go.Proofs.YthibhamepjhfjaaGreatDoor

