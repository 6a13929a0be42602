/-
  Lemmas for the statement at the top.
-/
import Derived.Test.YthibhamepjhfjaaGreatDoorTnP12
import Derived.Test.YthibhamepjhfjaaGreatDoorTnFw4
import Derived.Test.YthibhamepjhfjaaGreatDoorTnP9
import Derived.Test.YthibhamepjhfjaaGreatDoorTnP6
import Derived.Test.YthibhamepjhfjaaGreatDoorTnFw5
import Derived.Test.YthibhamepjhfjaaGreatDoorTnP10
set_option linter.all false
namespace Go.Proofs.YthibhamepjhfjaaGreatDoor
open Go.RowKit Go.Ab
def q11x0 : List Nat := [0, 1, 2, 3, 8, 9, 10, 11, 12, 13, 14, 15, 20, 43, 47, 48, 49, 58, 59, 60, 117]
def q11x1 : List Nat := [0, 1, 2, 3, 8, 9, 14, 34, 1000000, 1000001]
def q11x2 : List Nat := [0, 1, 2, 6, 7, 8, 9, 13, 30, 35, 54, 1000000, 1000001]
def q11x3 : List Nat := [0, 1, 2, 3, 4, 5, 6, 7, 8, 9, 17]
def q11x4 : List Nat := [0, 1, 1000000, 1000001]
attribute [go_sem] q11x0 q11x1 q11x2 q11x3 q11x4
attribute [local irreducible] AWP Go.Ab.Sub Means MeansH MeansX CallK CallG CallT CallGT CallU
def frR (r : Rat) : Fr := ⟨sg r.num, dg (ab r.num), sg r.den, dg (ab (r.den : Int))⟩
abbrev fql (xs : List Rat) : AV := .sl (xs.map frq)
theorem HA (xs : List Rat) : fql xs = .sl ((xs.map frR).map fv) := by rw [List.map_map]; rfl
theorem CZ (x : Rat) (h : rq x) : Means false Tryz.prog 55 [frq x] (bb false) := by
  refine aN false 6 [.tmp 2] Tryz.func55 rfl rfl rfl (by simp) (by decide) rfl fun X hX => ?_
  (repeat (first | refine aD ?_ | refine a8 ?_ | ((first | refine aA [0, 1, 2] hX ?_ | refine a7 [0, 1, 2] hX mixed ?_ | refine aE ?_ | refine aB ?_ | refine aC ?_); (simp [go_sem]; try (refine ⟨by kernel_rfl, ?_⟩)))))
  first | refine aF (aX x.num x.den (iW h)) rfl (by simp [go_sem]) rfl ?_ | refine aG (aX x.num x.den (iW h)) rfl (by simp [go_sem]) rfl ?_
  try (simp [go_sem]; try (refine ⟨by kernel_rfl, ?_⟩))
  (repeat (first | refine aD ?_ | refine a8 ?_ | ((first | refine aA [0, 1, 2] hX ?_ | refine a7 [0, 1, 2] hX mixed ?_ | refine aE ?_ | refine aB ?_ | refine aC ?_); (simp [go_sem]; try (refine ⟨by kernel_rfl, ?_⟩)))))
theorem xM (xs : List Rat) (hl : xs.length ≤ 9223372036854775807) (h : ∀ x ∈ xs, rq x) : Means false Tryz.prog 56 [fql xs, .v (.func (.func 55) #[] #[])] (bb false) := by
  have := EH 55 (fun _ => false) (xs.map frR) (by simpa using hl) (fun b hb => by
    obtain ⟨x, hx, rfl⟩ := List.mem_map.1 hb
    exact CZ x (h x hx)) (by kernel_rfl)
  rw [← HA, show (xs.map frR).any (fun _ => false) = false by rw [List.any_eq_false]; simp] at this
  exact this
theorem cJ {xs : List Rat} {k : Nat} (h : k < xs.length) : nth (xs.map frq) k = frq (xs.getD k 0) := by
  rw [List.getD_eq_getElem?_getD, List.getElem?_eq_getElem h]
  exact iN _ h
theorem mJ {xs : List Rat} {k : Nat} (hk : k < xs.length) (h : ∀ x ∈ xs, rq x) : rq (xs.getD k 0) := by
  rw [List.getD_eq_getElem?_getD, List.getElem?_eq_getElem hk]
  exact h _ (List.getElem_mem hk)
def chkTo (own : List Int) (S : List (List Int)) (xs ys : List Rat) (i : Nat) : Prop := ∀ k, k < i → psum own S xs k own.length = xs.getD k 0 ∧ xs.getD k 0 * (((1000 - sumI (S.getD k []) : Int) : Rat) / ((1000 : Int) : Rat)) = ys.getD k 0
set_option maxHeartbeats 8000000 in
set_option maxRecDepth 20000 in
theorem ES (own : List Int) (S : List (List Int)) (hv : PV own S) (h6 : own.length ≤ 6) (xs ys : List Rat) (hxl : xs.length = own.length) (hyl : ys.length = own.length) (hx : ∀ x ∈ xs, bt 310 x.num ∧ bt 160 x.den) (hy : ∀ y ∈ ys, rq y) :
    Means false Tryz.prog 18 [il own, ill S, fql xs, fql ys] (ii (if chkQ own S xs ys then 0 else 21)) := by
  have hSl := hv.len
  have hxq : ∀ x ∈ xs, rq x := fun x hx' => s6 (hx x hx').1 (hx x hx').2 (by omega) (by omega)
  have hbad : badP own S = 0 := by unfold badP; rw [if_pos hv.toPR, if_pos hv]
  have c1 := jE own S (by omega) (by omega) fun l hl => by have := (dZ hv.toPR hl).1; omega
  rw [hbad] at c1
  have c2 := xM xs (by omega) hxq
  have c3 := xM ys (by omega) hy
  have hzx : zoneEs (xs.map frq) = true := fW _ _ fun _ => rfl
  refine aN false 119 [.tmp 8] Tryz.func18 rfl rfl rfl (by simp) (by decide) rfl fun X hX => ?_
  (repeat (first | refine aD ?_ | refine a8 ?_ | ((first | refine aA q11x0 hX ?_ | refine a7 q11x0 hX mixed ?_ | refine aE ?_ | refine aB ?_ | refine aC ?_); (simp [go_sem]; try (refine ⟨by kernel_rfl, ?_⟩)))))
  first | refine aF (c1) rfl (by simp [go_sem]) rfl ?_ | refine aG (c1) rfl (by simp [go_sem]) rfl ?_
  try (simp [go_sem]; try (refine ⟨by kernel_rfl, ?_⟩))
  (repeat (first | refine aD ?_ | refine a8 ?_ | ((first | refine aA q11x0 hX ?_ | refine a7 q11x0 hX mixed ?_ | refine aE ?_ | refine aB ?_ | refine aC ?_); (simp [go_sem]; try (refine ⟨by kernel_rfl, ?_⟩)))))
  refine aH (b := false) (by simp [go_sem]) (fun h => by cases h) (fun _ => ?_)
  (repeat (first | refine aD ?_ | refine a8 ?_ | ((first | refine aA q11x0 hX ?_ | refine a7 q11x0 hX mixed ?_ | refine aE ?_ | refine aB ?_ | refine aC ?_); (simp [go_sem]; try (refine ⟨by kernel_rfl, ?_⟩)))))
  first | refine aR (fun hg => c2) rfl (by simp [go_sem]) rfl ?_ | refine aO (fun hg => c2) rfl (by simp [go_sem]) rfl ?_
  try (simp [go_sem]; try (refine ⟨by kernel_rfl, ?_⟩))
  first | refine aR (fun hg => c3) rfl (by simp [go_sem]) rfl ?_ | refine aO (fun hg => c3) rfl (by simp [go_sem]) rfl ?_
  try (simp [go_sem]; try (refine ⟨by kernel_rfl, ?_⟩))
  refine aH (b := false) (by simp [go_sem, hxl, hyl]) (fun h => by cases h) (fun _ => ?_)
  (repeat (first | refine aD ?_ | refine a8 ?_ | ((first | refine aA q11x0 hX ?_ | refine a7 q11x0 hX mixed ?_ | refine aE ?_ | refine aB ?_ | refine aC ?_); (simp [go_sem]; try (refine ⟨by kernel_rfl, ?_⟩)))))
  refine aQ (fun i : Nat => ⟨mkE [(0, il own), (1, ill S), (2, fql xs), (3, fql ys), (11, .el 0 1 0 0), (47, ii own.length), (48, ii i)], [calC 0]⟩) (fun i => i ≤ own.length ∧ chkTo own S xs ys i) (fun i => own.length - i) 0 ?_ ?_ ?_
  · refine aI _ [.old 0 ⟨56, 1, [.agg [ii 0]]⟩] (by simp [go_sem]) ?_
    simp [go_sem]
  · exact ⟨by omega, fun k hk => by omega⟩
  · rintro i ⟨hi, hp⟩
    (repeat (first | refine aD ?_ | refine a8 ?_ | ((first | refine aA q11x0 hX ?_ | refine a7 q11x0 hX mixed ?_ | refine aE ?_ | refine aB ?_ | refine aC ?_); (simp [go_sem]; try (refine ⟨by kernel_rfl, ?_⟩)))))
    refine aH (b := decide (i < own.length)) (by simp [go_sem]) (fun hb => ?_) (fun hb => ?_)
    · simp only [decide_eq_true_eq] at hb
      have wi := w64 (x := (i : Int) + 1) (by omega) (by omega)
      have q1 := cR hb
      have hw := hv.w i hb
      rw [show wO own i = own[i] from bT hb] at hw
      have k1 := uA (p := own[i]) (by omega)
      rw [show own[i] = wO own i from (bT hb).symm] at k1 q1
      (repeat (first | refine aD ?_ | refine a8 ?_ | ((first | refine aA q11x0 hX ?_ | refine a7 q11x0 hX mixed ?_ | refine aE ?_ | refine aB ?_ | refine aC ?_); (simp [go_sem, hb, q1]; try (refine ⟨by kernel_rfl, ?_⟩)))))
      first | refine aM [0] (k1) (by simp [go_sem]) ?_ | refine aJ [0] (k1) (by simp [go_sem]) ?_ | refine aK [0] (k1) (by simp [go_sem]) ?_
      try (simp [go_sem, hb, q1]; try (refine ⟨by kernel_rfl, ?_⟩))
      (repeat (first | refine aD ?_ | refine a8 ?_ | ((first | refine aA q11x0 hX ?_ | refine a7 q11x0 hX mixed ?_ | refine aE ?_ | refine aB ?_ | refine aC ?_); (simp [go_sem]; try (refine ⟨by kernel_rfl, ?_⟩)))))
      refine aQ (fun j : Nat => ⟨mkE [(0, il own), (1, ill S), (2, fql xs), (3, fql ys), (11, .el 0 1 0 0), (12, ii i), (13, .el 1 4 0 0), (47, ii own.length), (48, ii i), (58, ii own.length), (59, ii j)], [calC 0, .row ⟨41, 4, [frq (psum own S xs i j)]⟩]⟩) (fun j => j ≤ own.length) (fun j => own.length - j) 0 ?_ ?_ ?_
      · rw [CK]
        refine aI _ [.old 0 ⟨56, 1, [.agg [ii 0]]⟩, .old 1 ⟨41, 4, [frq ((wO own i : Int) : Rat)]⟩] (by simp [go_sem]) ?_
        simp [go_sem]
      · omega
      · intro j hj
        (repeat (first | refine aD ?_ | refine a8 ?_ | ((first | refine aA q11x0 hX ?_ | refine a7 q11x0 hX mixed ?_ | refine aE ?_ | refine aB ?_ | refine aC ?_); (simp [go_sem]; try (refine ⟨by kernel_rfl, ?_⟩)))))
        refine aH (b := decide (j < own.length)) (by simp [go_sem]) (fun hc => ?_) (fun hc => ?_)
        · simp only [decide_eq_true_eq] at hc
          have wj := w64 (x := (j : Int) + 1) (by omega) (by omega)
          have hjS : j < S.length := by omega
          have hjx : j < xs.length := by omega
          have hlr := hv.row S[j] (List.getElem_mem hjS)
          have hij2 : i < S[j].length := by omega
          have p1 := eT (L := S) hjS
          have p2 := cR hij2
          have p3 := cJ hjx
          have hso : S[j][i] = sO S j i := by
            unfold sO
            rw [List.getD_eq_getElem?_getD (l := S), List.getElem?_eq_getElem hjS]
            exact (bT hij2).symm
          rw [hso] at p2
          have hsb := hv.s j i hc hb
          obtain ⟨o1, o2⟩ := EJ hv.toPR h6 hx hxl hb hc
          have hps := pQ own S xs i j
          obtain ⟨u1, u2⟩ := mF hv.toPR hx hxl hb j (by omega)
          have k2 := wG (p := sO S j i) (q := 1000) (by omega) (by decide) (by decide)
          have k3 := mT (mJ hjx hxq) (o6 (p := sO S j i) (q := 1000) (by omega) (by decide) (by decide)) o1
          have k4 : MeansH Tryz.prog 44 [calC 0] [.el 0 1 0 0, frq (psum own S xs i j), frq (xs.getD j 0 * (((sO S j i : Int) : Rat) / ((1000 : Int) : Rat)))] (frq (psum own S xs i (j + 1))) [calC 0] := by
            rw [hps]
            exact xL 0 (H9 (s6 u1 u2 (by omega) (by omega)) (mW o1) o2)
          obtain ⟨pj1, hpj1⟩ : ∃ q, psum own S xs i (j + 1) = q := ⟨_, rfl⟩
          rw [hpj1] at k4
          generalize psum own S xs i j = pj at *
          generalize xs.getD j 0 = xj at *
          (repeat (first | refine aD ?_ | refine a8 ?_ | ((first | refine aA q11x0 hX ?_ | refine a7 q11x0 hX mixed ?_ | refine aE ?_ | refine aB ?_ | refine aC ?_); (simp [go_sem, hjS, hjx, hij2, p1, p2, p3]; try (refine ⟨by kernel_rfl, ?_⟩)))))
          first | refine aM [0] (k2) (by simp [go_sem]) ?_ | refine aJ [0] (k2) (by simp [go_sem]) ?_ | refine aK [0] (k2) (by simp [go_sem]) ?_
          try (simp [go_sem, hjS, hjx, hij2, p1, p2, p3]; try (refine ⟨by kernel_rfl, ?_⟩))
          first | refine aM [0] (k3) (by simp [go_sem]) ?_ | refine aJ [0] (k3) (by simp [go_sem]) ?_ | refine aK [0] (k3) (by simp [go_sem]) ?_
          try (simp [go_sem, hjS, hjx, hij2, p1, p2, p3]; try (refine ⟨by kernel_rfl, ?_⟩))
          first | refine aM [0] (k4) (by simp [go_sem]) ?_ | refine aJ [0] (k4) (by simp [go_sem]) ?_ | refine aK [0] (k4) (by simp [go_sem]) ?_
          try (simp [go_sem, hjS, hjx, hij2, p1, p2, p3]; try (refine ⟨by kernel_rfl, ?_⟩))
          try (repeat (first | refine aD ?_ | refine a8 ?_ | ((first | refine aA q11x0 hX ?_ | refine a7 q11x0 hX mixed ?_ | refine aE ?_ | refine aB ?_ | refine aC ?_); (simp [go_sem, wj]; try (refine ⟨by kernel_rfl, ?_⟩)))))
          refine ⟨j + 1, by omega, by omega, ?_⟩
          rw [hpj1]
          refine aI _ [.old 0 ⟨56, 1, [.agg [ii 0]]⟩, .old 1 ⟨41, 4, [frq pj1]⟩] (by simp [go_sem]) ?_
          simp [go_sem]
        · simp only [decide_eq_false_iff_not] at hc
          have hjn : j = own.length := by omega
          subst hjn
          have hiS : i < S.length := by omega
          have hix : i < xs.length := by omega
          have hiy : i < ys.length := by omega
          have p1 := eT (L := S) hiS
          have p3 := cJ hix
          have p4 := cJ hiy
          have hpr := dZ hv.toPR (List.getElem_mem hiS)
          have hgv := mD S[i] (by omega) hpr.2
          have hgd : S.getD i [] = S[i] := by rw [List.getD_eq_getElem?_getD, List.getElem?_eq_getElem hiS]; rfl
          obtain ⟨hgb, o1⟩ := EK hv hx hxl hb
          obtain ⟨u1, u2⟩ := mF hv.toPR hx hxl hb own.length (Nat.le_refl _)
          have hpq := s6 u1 u2 (by omega) (by omega)
          have hpi := hp
          rw [← hgd] at hgv
          have hst : chkQ own S xs ys → _ := fun h => h i hb
          have hin : chkTo own S xs ys i → (psum own S xs i own.length = xs.getD i 0 ∧ xs.getD i 0 * (((1000 - sumI (S.getD i []) : Int) : Rat) / ((1000 : Int) : Rat)) = ys.getD i 0) → chkTo own S xs ys (i + 1) := fun h1 h2 k hk => by
            by_cases e : k = i
            · subst e; exact h2
            · exact h1 k (by omega)
          have k2 := wG (p := 1000 - sumI (S.getD i [])) (q := 1000) (by omega) (by decide) (by decide)
          have k3 := mT (mJ hix hxq) (o6 (p := 1000 - sumI (S.getD i [])) (q := 1000) (by omega) (by decide) (by decide)) o1
          have m1 := dK hpq (mJ hix hxq)
          have m2 := dK (mW o1) (mJ hiy hy)
          have z1 := mE (psum own S xs i own.length) (xs.getD i 0)
          have z2 := mE (xs.getD i 0 * (((1000 - sumI (S.getD i []) : Int) : Rat) / ((1000 : Int) : Rat))) (ys.getD i 0)
          have ws := w64 (x := 1000 - sumI (S.getD i [])) (by omega) (by omega)
          rw [← hgd] at p1
          have hSi : nth (S.map il) i = il (S.getD i []) := p1
          clear p1 hgd hpr u1 u2 hpi
          generalize psum own S xs i own.length = pn at *
          generalize xs.getD i 0 = xi at *
          generalize ys.getD i 0 = yi at *
          generalize hgs : sumI (S.getD i []) = gs at *
          generalize S.getD i [] = Si at *
          generalize hpt : xi * (((1000 - gs : Int) : Rat) / ((1000 : Int) : Rat)) = pt at *
          (repeat (first | refine aD ?_ | refine a8 ?_ | ((first | refine aA q11x0 hX ?_ | refine a7 q11x0 hX mixed ?_ | refine aE ?_ | refine aB ?_ | refine aC ?_); (simp [go_sem, hiS, hix, hSi, p3]; try (refine ⟨by kernel_rfl, ?_⟩)))))
          first | refine aF (hgv) rfl (by simp [go_sem]) rfl ?_ | refine aG (hgv) rfl (by simp [go_sem]) rfl ?_
          try (simp [go_sem, hiS, hix, hSi, p3, ws]; try (refine ⟨by kernel_rfl, ?_⟩))
          try (repeat refine And.intro (by first | omega | (unfold maxLen; omega) | kernel_rfl | (refine ⟨by first | omega | (unfold maxLen; omega), by first | omega | (unfold maxLen; omega)⟩) | grind) ?_)
          first | refine aM [0] (k2) (by simp [go_sem]) ?_ | refine aJ [0] (k2) (by simp [go_sem]) ?_ | refine aK [0] (k2) (by simp [go_sem]) ?_
          try (simp [go_sem, hiS, hix, hSi, p3]; try (refine ⟨by kernel_rfl, ?_⟩))
          first | refine aM [0] (k3) (by simp [go_sem]) ?_ | refine aJ [0] (k3) (by simp [go_sem]) ?_ | refine aK [0] (k3) (by simp [go_sem]) ?_
          try (simp [go_sem, hiS, hix, hSi, p3]; try (refine ⟨by kernel_rfl, ?_⟩))
          (repeat (first | refine aD ?_ | refine a8 ?_ | ((first | refine aA q11x0 hX ?_ | refine a7 q11x0 hX mixed ?_ | refine aE ?_ | refine aB ?_ | refine aC ?_); (simp [go_sem, hiS, hix, hiy, p3, p4]; try (refine ⟨by kernel_rfl, ?_⟩)))))
          first | refine aR (fun hg => m1) rfl (by simp [go_sem]) rfl ?_ | refine aO (fun hg => m1) rfl (by simp [go_sem]) rfl ?_
          try (simp [go_sem, hiS, hix, hiy, p3, p4]; try (refine ⟨by kernel_rfl, ?_⟩))
          first | refine aR (fun hg => m2) rfl (by simp [go_sem]) rfl ?_ | refine aO (fun hg => m2) rfl (by simp [go_sem]) rfl ?_
          try (simp [go_sem, hiS, hix, hiy, p3, p4]; try (refine ⟨by kernel_rfl, ?_⟩))
          refine aH (b := !decide (pn = xi ∧ pt = yi)) (by simp [go_sem, z1, z2, bne]; try grind) (fun hd => ?_) (fun hd => ?_)
          · have e : ¬ chkQ own S xs ys := fun h => by
              have := hst h
              simp [this] at hd
            (repeat (first | refine aD ?_ | refine a8 ?_ | ((first | refine aA q11x0 hX ?_ | refine a7 q11x0 hX mixed ?_ | refine aE ?_ | refine aB ?_ | refine aC ?_); (simp [go_sem, e]; try (refine ⟨by kernel_rfl, ?_⟩)))))
          · simp only [Bool.not_eq_false', decide_eq_true_eq] at hd
            (repeat (first | refine aD ?_ | refine a8 ?_ | ((first | refine aA q11x0 hX ?_ | refine a7 q11x0 hX mixed ?_ | refine aE ?_ | refine aB ?_ | refine aC ?_); (simp [go_sem, wi]; try (refine ⟨by kernel_rfl, ?_⟩)))))
            refine ⟨i + 1, ⟨by omega, hin hp hd⟩, by omega, ?_⟩
            refine aI _ [.old 0 ⟨56, 1, [.agg [ii 0]]⟩] (by simp [go_sem]) ?_
            simp [go_sem]
    · simp only [decide_eq_false_iff_not] at hb
      have hin : i = own.length := by omega
      subst hin
      have e : chkQ own S xs ys := hp
      (repeat (first | refine aD ?_ | refine a8 ?_ | ((first | refine aA q11x0 hX ?_ | refine a7 q11x0 hX mixed ?_ | refine aE ?_ | refine aB ?_ | refine aC ?_); (simp [go_sem, e]; try (refine ⟨by kernel_rfl, ?_⟩)))))
end Go.Proofs.YthibhamepjhfjaaGreatDoor

namespace Go.Proofs.YthibhamepjhfjaaGreatDoor
def bef (K : Int → Int) (x y : Int) : Prop := K y < K x ∨ (K x = K y ∧ x < y)
instance (K : Int → Int) (x y : Int) : Decidable (bef K x y) := by unfold bef; infer_instance
theorem pR {K : Int → Int} {x y z : Int} (h1 : bef K x y) (h2 : bef K y z) : bef K x z := by unfold bef at *; omega
theorem pS {K : Int → Int} {x y : Int} (h : x ≠ y) : bef K x y ∨ bef K y x := by unfold bef; omega
theorem zP {K : Int → Int} {x y : Int} (h1 : bef K x y) : ¬ bef K y x := by unfold bef at *; omega
def insB (K : Int → Int) (x : Int) : List Int → List Int
  | [] => [x]
  | y :: l => if bef K x y then x :: y :: l else y :: insB K x l
def srt (K : Int → Int) (l : List Int) : List Int := l.foldl (fun s x => insB K x s) []
theorem oB (K : Int → Int) (l : List Int) (x : Int) : srt K (l ++ [x]) = insB K x (srt K l) := by unfold srt; rw [List.foldl_append]; rfl
theorem l0 (K : Int → Int) (x : Int) : ∀ l, (insB K x l).Perm (x :: l)
  | [] => .refl _
  | y :: l => by
    unfold insB
    split
    · exact .refl _
    · exact ((l0 K x l).cons y).trans (.swap x y l)
theorem kG (K : Int → Int) (l : List Int) : (srt K l).Perm l := by
  have : ∀ k, k ≤ l.length → (srt K (l.take k)).Perm (l.take k) := by
    intro k
    induction k with
    | zero => intro _; exact .refl _
    | succ k ih =>
      intro hk
      rw [List.take_succ_eq_append_getElem (by omega), oB]
      exact (l0 K _ _).trans (((ih (by omega)).cons _).trans (List.perm_append_singleton _ _).symm)
  have := this l.length (Nat.le_refl _)
  rwa [List.take_length] at this
theorem lM {K : Int → Int} {x : Int} : ∀ {l : List Int}, l.Pairwise (bef K) → x ∉ l → (insB K x l).Pairwise (bef K)
  | [], _, _ => by simp [insB]
  | y :: l, h, hx => by
    rw [List.pairwise_cons] at h
    simp only [List.mem_cons, not_or] at hx
    unfold insB
    split
    · rename_i hb
      refine List.pairwise_cons.2 ⟨fun z hz => ?_, List.pairwise_cons.2 h⟩
      rcases List.mem_cons.1 hz with rfl | hz
      · exact hb
      · exact pR hb (h.1 z hz)
    · rename_i hb
      refine List.pairwise_cons.2 ⟨fun z hz => ?_, lM h.2 hx.2⟩
      rcases List.mem_cons.1 ((l0 K x l).mem_iff.1 hz) with rfl | hz
      · exact (pS hx.1).resolve_left hb
      · exact h.1 z hz
theorem vY {K : Int → Int} {l : List Int} (hn : l.Nodup) : (srt K l).Pairwise (bef K) := by
  have : ∀ k, k ≤ l.length → (srt K (l.take k)).Pairwise (bef K) := by
    intro k
    induction k with
    | zero => intro _; exact List.Pairwise.nil
    | succ k ih =>
      intro hk
      have hkl : k < l.length := by omega
      rw [List.take_succ_eq_append_getElem hkl, oB]
      refine lM (ih (by omega)) fun hm => ?_
      have hm := (kG K _).mem_iff.1 hm
      obtain ⟨j, hj, e⟩ := List.mem_take_iff_getElem.1 hm
      have := (List.getElem_inj hn).1 e
      omega
  have := this l.length (Nat.le_refl _)
  rwa [List.take_length] at this
theorem xN (K : Int → Int) (l : List Int) : (srt K l).length = l.length := (kG K l).length_eq
theorem xO {K : Int → Int} {x : Int} : ∀ {s : List Int} (k : Nat), s.Pairwise (bef K) → k ≤ s.length → (∀ e ∈ s.take k, bef K e x) → (∀ e ∈ s.drop k, bef K x e) → insB K x s = s.take k ++ x :: s.drop k
  | [], k, _, _, _, _ => by simp [insB]
  | y :: s, 0, _, _, _, h2 => by
    have := h2 y (by simp)
    simp [insB, this]
  | y :: s, k + 1, h, hk, h1, h2 => by
    have hy : bef K y x := h1 y (by simp)
    rw [List.pairwise_cons] at h
    have ih := xO k h.2 (by simpa using hk) (fun e he => h1 e (by simp [he])) (fun e he => h2 e (by simpa using he))
    unfold insB
    rw [if_neg (zP hy), ih]
    rfl
def r3 (a b c : List Int) : List Int := a ++ b ++ c
@[simp] theorem r3_len (a b c : List Int) : (r3 a b c).length = a.length + b.length + c.length := by simp [r3]; omega
def rowX (pre s : List Int) (x : Int) (post : List Int) (k : Nat) : List Int := pre ++ (s.take k ++ x :: s.drop k) ++ post
theorem D0 {pre s : List Int} {x : Int} {post : List Int} {k : Nat} (h : k ≤ s.length) : (rowX pre s x post k).length = pre.length + s.length + 1 + post.length := by
  simp [rowX]; omega
theorem ET {pre s : List Int} {x : Int} {post : List Int} {k : Nat} (h : k ≤ s.length) (hl : pre.length + k < (rowX pre s x post k).length) : (rowX pre s x post k)[pre.length + k] = x := by
  simp only [rowX, List.append_assoc]
  rw [List.getElem_append_right (by omega), List.getElem_append_right (by simp; omega)]
  simp [Nat.min_eq_left h]
theorem zQ {pre s : List Int} {x : Int} {post : List Int} {k : Nat} (h : k < s.length) (hl : pre.length + k < (rowX pre s x post (k + 1)).length) : (rowX pre s x post (k + 1))[pre.length + k] = s[k] := by
  simp only [rowX, List.append_assoc]
  rw [List.getElem_append_right (by omega), List.getElem_append_left (by simp; omega)]
  simp
theorem zR {pre s : List Int} {x : Int} {post : List Int} {k : Nat} (h : k < s.length) : ((rowX pre s x post (k + 1)).set (pre.length + (k + 1)) s[k]).set (pre.length + k) x = rowX pre s x post k := by
  have e1 : s.take (k + 1) = s.take k ++ [s[k]] := List.take_succ_eq_append_getElem h
  have e2 : s.drop k = s[k] :: s.drop (k + 1) := List.drop_eq_getElem_cons h
  have hk : (s.take k).length = k := by simp; omega
  simp only [rowX, e1, e2, List.append_assoc]
  rw [List.set_append_right _ _ (by omega), List.set_append_right _ _ (by omega)]
  congr 1
  rw [show pre.length + (k + 1) - pre.length = k + 1 by omega, show pre.length + k - pre.length = k by omega]
  rw [List.set_append_right _ _ (by omega), List.set_append_right _ _ (by omega), hk]
  congr 1
  simp
  rw [e2]; rfl
end Go.Proofs.YthibhamepjhfjaaGreatDoor

namespace Go.Proofs.YthibhamepjhfjaaGreatDoor
open Go.RowKit Go.Ab
attribute [local irreducible] AWP Go.Ab.Sub Means MeansH CallK CallG CallT CallGT CallU
abbrev rowI (L : List Int) : Cell := .row ⟨3, 1, L.map ii⟩
end Go.Proofs.YthibhamepjhfjaaGreatDoor

namespace Go.Proofs.YthibhamepjhfjaaGreatDoor
open Go.RowKit Go.Ab
attribute [local irreducible] AWP Go.Ab.Sub Means MeansH CallK CallG CallT CallGT CallU
theorem gA {L : List Rat} {j : Nat} (h : j < L.length) : L.getD j 0 = L[j] := by rw [List.getD_eq_getElem?_getD, List.getElem?_eq_getElem h]; rfl
def cden : List Rat → Int
  | [] => 1
  | r :: R => r.den * cden R
theorem uF : ∀ R : List Rat, 0 < cden R
  | [] => by decide
  | r :: R => Int.mul_pos (by have := r.den_pos; omega) (uF R)
theorem uG : ∀ (R : List Rat) (r : Rat), r ∈ R → ∃ m : Int, r * (cden R : Rat) = (m : Rat)
  | a :: R, r, h => by
    rcases List.mem_cons.1 h with rfl | h
    · refine ⟨r.num * cden R, ?_⟩
      show r * (((r.den : Int) * cden R : Int) : Rat) = _
      rw [Rat.intCast_mul, Rat.intCast_mul, cB r]; grind
    · obtain ⟨m, e⟩ := uG R r h
      refine ⟨a.den * m, ?_⟩
      show r * (((a.den : Int) * cden R : Int) : Rat) = _
      rw [Rat.intCast_mul, Rat.intCast_mul, ← e]; grind
namespace B
abbrev bsl (R : List Rat) : AV := fql R
def okR (R : List Rat) : Prop := ∀ r ∈ R, rq r
def kf (R : List Rat) (x : Int) : Int := (R.getD x.toNat 0 * (cden R : Rat)).num
theorem FV (R : List Rat) (x : Int) : (kf R x : Rat) = R.getD x.toNat 0 * (cden R : Rat) := by
  unfold kf
  have : ∃ m : Int, R.getD x.toNat 0 * (cden R : Rat) = (m : Rat) := by
    by_cases h : x.toNat < R.length
    · rw [gA h]; exact uG R _ (List.getElem_mem h)
    · rw [List.getD_eq_getElem?_getD, List.getElem?_eq_none (by omega)]
      exact ⟨0, by show (0 : Rat) * _ = ((0 : Int) : Rat); rw [Rat.zero_mul]; rfl⟩
  obtain ⟨m, e⟩ := this
  rw [e, Rat.num_intCast]
theorem I6 (R : List Rat) (x y : Int) : kf R x < kf R y ↔ R.getD x.toNat 0 < R.getD y.toNat 0 := by
  rw [← Rat.intCast_lt_intCast, FV, FV]
  exact Rat.mul_lt_mul_right (by have := uF R; exact Rat.intCast_pos.2 this)
def cmpC (R : List Rat) (x y : Int) : Int := cmpR (R.getD y.toNat 0) (R.getD x.toNat 0)
theorem EU (R : List Rat) (x y : Int) : cmpC R x y < 0 ↔ kf R y < kf R x := by unfold cmpC; rw [rH, I6]
set_option maxHeartbeats 4000000 in
set_option maxRecDepth 20000 in
theorem I7 (R : List Rat) (hok : okR R) (x y : Int) (hx : 0 ≤ x ∧ x < R.length) (hy : 0 ≤ y ∧ y < R.length) : MeansH Tryz.prog 46 [.row ⟨24, 1, [bsl R]⟩] [ii x, ii y, .el 0 1 0 0] (ii (cmpC R x y)) [.row ⟨24, 1, [bsl R]⟩] := by
  obtain ⟨i, hi, rfl⟩ : ∃ i, ∃ _ : i < R.length, x = (i : Int) := ⟨x.toNat, by omega, by omega⟩
  obtain ⟨j, hj, rfl⟩ : ∃ i, ∃ _ : i < R.length, y = (i : Int) := ⟨y.toNat, by omega, by omega⟩
  unfold cmpC
  rw [Int.toNat_natCast, Int.toNat_natCast, gA hi, gA hj]
  have n1 := cJ hi
  have n2 := cJ hj
  have c := dK (hok _ (List.getElem_mem hj)) (hok _ (List.getElem_mem hi))
  refine bG 1 15 [.tmp 5] Tryz.func46 rfl rfl rfl (by simp) (by decide) rfl fun X hX => ?_
  (repeat (first | refine aD ?_ | refine a8 ?_ | ((first | refine aA [0, 1, 2, 5, 1000000] hX ?_ | refine a7 [0, 1, 2, 5, 1000000] hX mixed ?_ | refine aB ?_ | refine aC ?_); (simp [go_sem, hi, hj, n1, n2]; try (refine ⟨by kernel_rfl, ?_⟩)))))
  first | refine aF (c) rfl (by simp [go_sem]) rfl ?_ | refine aG (c) rfl (by simp [go_sem]) rfl ?_
  try (simp [go_sem]; try (refine ⟨by kernel_rfl, ?_⟩))
  (repeat (first | refine aD ?_ | refine a8 ?_ | ((first | refine aA [0, 1, 2, 5, 1000000] hX ?_ | refine a7 [0, 1, 2, 5, 1000000] hX mixed ?_ | refine aB ?_ | refine aC ?_); (simp [go_sem]; try (refine ⟨by kernel_rfl, ?_⟩)))))
  refine aE ?_; (try simp only [thenQ, blkQ, loopQ]); refine bE [(5, ii (cmpR R[j] R[i])), (1000000, .ow 0)] [.old 0 ⟨24, 1, [bsl R]⟩] ?_
  simp [go_sem]
end B
end Go.Proofs.YthibhamepjhfjaaGreatDoor

namespace Go.Proofs.YthibhamepjhfjaaGreatDoor.B
open Go.RowKit Go.Ab
attribute [local irreducible] AWP Go.Ab.Sub Means MeansH CallK CallG CallT CallGT
abbrev clo : AV := .fn 46 [] [.el 1 1 0 0]
abbrev sH (D : List Int) (R : List Rat) : List Cell := [rowI D, .row ⟨24, 1, [bsl R]⟩]
theorem D2 {K : Int → Int} {pre s : List Int} {x : Int} {post : List Int} {k : Nat} (hs : s.Pairwise (bef K)) (hk : k ≤ s.length) (h1 : ∀ e ∈ s.take k, bef K e x) (h2 : ∀ e ∈ s.drop k, bef K x e) : rowX pre s x post k = r3 pre (insB K x s) post := by
  rw [xO k hs hk h1 h2]; rfl
set_option maxHeartbeats 4000000 in
set_option maxRecDepth 20000 in
theorem zT (pre l post : List Int) (R : List Rat) (hn : l.Nodup) (hord : ∀ i j (hi : i < l.length) (hj : j < l.length), i < j → l[i] < l[j]) (hr : ∀ x ∈ l, 0 ≤ x ∧ x < R.length) (hb : pre.length + l.length + post.length ≤ 100000) (hR : R.length ≤ 100000) (hok : okR R) :
    MeansH Tryz.prog 106 (sH (r3 pre l post) R) [.ow 0, ii pre.length, ii (pre.length + l.length : Nat), clo] (.tup []) (sH (r3 pre (srt (kf R) l) post) R) := by
  refine bG 2 53 [] Tryz.func106 rfl rfl rfl (by simp) (by decide) rfl fun X hX => ?_
  (repeat (first | refine aD ?_ | refine a8 ?_ | ((first | refine aA q11x1 hX ?_ | refine a7 q11x1 hX mixed ?_ | refine aB ?_ | refine aC ?_); (simp [go_sem]; (try simp (disch := omega) only [w64, td, tm]); try (refine ⟨by kernel_rfl, ?_⟩)))))
  refine aQ (fun i : Nat => ⟨mkE [(0, .ow 0), (1, ii pre.length), (2, ii (pre.length + l.length : Nat)), (3, clo), (8, ii (pre.length + i : Nat)), (1000000, .ow 0), (1000001, .ow 1)], sH (r3 pre (srt (kf R) (l.take i)) (l.drop i ++ post)) R⟩) (fun i => i ≤ l.length + (1 - l.length)) (fun i => l.length - i) 1 ?_ ?_ ?_
  · have e : srt (kf R) (l.take 1) ++ l.drop 1 = l := by
      cases l with
      | nil => rfl
      | cons a l => rfl
    have e2 : r3 pre (srt (kf R) (l.take 1)) (l.drop 1 ++ post) = r3 pre l post := by unfold r3; rw [← List.append_assoc, List.append_assoc pre, e]
    rw [e2]
    refine aI _ [.old 0 ⟨3, 1, (r3 pre l post).map ii⟩, .old 1 ⟨24, 1, [bsl R]⟩] (by simp [go_sem]) ?_
    simp [go_sem]
  · omega
  · intro i hi
    (repeat (first | refine aD ?_ | refine a8 ?_ | ((first | refine aA q11x1 hX ?_ | refine a7 q11x1 hX mixed ?_ | refine aB ?_ | refine aC ?_); (simp [go_sem]; (try simp (disch := omega) only [w64, td, tm]); try (refine ⟨by kernel_rfl, ?_⟩)))))
    refine aH (b := decide (i < l.length)) (by simp [go_sem]; try omega) (fun hc => ?_) (fun hc => ?_)
    · simp at hc
      obtain ⟨s, hs⟩ : ∃ s, srt (kf R) (l.take i) = s := ⟨_, rfl⟩
      have hsl : s.length = i := by rw [← hs, xN]; simp; omega
      have hnt : (l.take i).Nodup := hn.sublist (List.take_sublist _ _)
      have hss : s.Pairwise (bef (kf R)) := by rw [← hs]; exact vY hnt
      have hsm : ∀ e ∈ s, e < l[i] ∧ 0 ≤ e ∧ e < R.length := fun e he => by
        rw [← hs] at he
        have := (kG _ _).mem_iff.1 he
        obtain ⟨j, hj, rfl⟩ := List.mem_take_iff_getElem.1 this
        exact ⟨hord j i (by omega) hc (by omega), hr _ (List.getElem_mem _)⟩
      have hxr := hr l[i] (List.getElem_mem hc)
      obtain ⟨x, hx⟩ : ∃ x, l[i] = x := ⟨_, rfl⟩
      obtain ⟨po, hpo⟩ : ∃ po, l.drop (i + 1) ++ post = po := ⟨_, rfl⟩
      have hpl : pre.length + s.length + 1 + po.length ≤ 100000 := by rw [← hpo]; simp; omega
      have e0 : r3 pre s (l.drop i ++ post) = rowX pre s x po s.length := by
        rw [List.drop_eq_getElem_cons hc, hx, ← hpo]
        simp [rowX, r3]
      have e1 : r3 pre (srt (kf R) (l.take (i + 1))) (l.drop (i + 1) ++ post) = r3 pre (insB (kf R) x s) po := by
        rw [List.take_succ_eq_append_getElem hc, oB, hs, hx, hpo]
      have e2 : i = s.length := hsl.symm
      rw [hx] at hsm hxr
      rw [hs, e0]
      (repeat (first | refine aD ?_ | refine a8 ?_ | ((first | refine aA q11x1 hX ?_ | refine a7 q11x1 hX mixed ?_ | refine aB ?_ | refine aC ?_); (simp [go_sem]; try (refine ⟨by kernel_rfl, ?_⟩)))))
      refine aQ (fun k : Nat => ⟨mkE [(0, .ow 0), (1, ii pre.length), (2, ii (pre.length + l.length : Nat)), (3, clo), (8, ii (pre.length + i : Nat)), (9, ii (pre.length + k : Nat)), (1000000, .ow 0), (1000001, .ow 1)], sH (rowX pre s x po k) R⟩) (fun k => k ≤ s.length ∧ ∀ e ∈ s.drop k, bef (kf R) x e) (fun k => k) s.length ?_ ?_ ?_
      · refine aI _ [.old 0 ⟨3, 1, (rowX pre s x po s.length).map ii⟩, .old 1 ⟨24, 1, [bsl R]⟩] (by simp [go_sem]) ?_
        simp [go_sem, e2]
      · simp
      · rintro k ⟨hk, hd⟩
        have hlen := D0 (pre := pre) (x := x) (post := po) hk
        have done : (∀ e ∈ s.take k, bef (kf R) e x) → rowX pre s x po k = r3 pre (srt (kf R) (l.take (i + 1))) (l.drop (i + 1) ++ post) := fun h1 => by rw [e1, D2 hss hk h1 hd]
        cases k with
        | zero =>
          have hdone := done (by simp)
          have hi0 : pre.length < (rowX pre s x po 0).length := by omega
          have hi1 : pre.length - 1 < (rowX pre s x po 0).length := by omega
          have hwz : IntKind.i64.wrap ((pre.length : Int) - 1) = (pre.length : Int) - 1 := w64 (by omega) (by omega)
          have htz : ((pre.length : Int) - 1).toNat = pre.length - 1 := by omega
          generalize rowX pre s x po 0 = D1 at *
          (repeat (first | refine aD ?_ | refine a8 ?_ | ((first | refine aA q11x1 hX ?_ | refine a7 q11x1 hX mixed ?_ | refine aB ?_ | refine aC ?_); (simp [go_sem, hi0, hi1, hwz, htz]; try (refine ⟨by kernel_rfl, ?_⟩)))))
          first | refine eR rfl ?_ | refine dT rfl ?_
          try (simp [go_sem]; try (refine ⟨by kernel_rfl, ?_⟩))
          refine aH (b := false) (by simp [go_sem]) (fun h => by cases h) (fun _ => ?_)
          (repeat (first | refine aD ?_ | refine a8 ?_ | ((first | refine aA q11x1 hX ?_ | refine a7 q11x1 hX mixed ?_ | refine aB ?_ | refine aC ?_); (simp [go_sem]; (try simp (disch := omega) only [w64, td, tm]); try (refine ⟨by kernel_rfl, ?_⟩)))))
          refine ⟨i + 1, by omega, by omega, ?_⟩
          rw [← hdone]
          refine aI _ [.old 0 ⟨3, 1, D1.map ii⟩, .old 1 ⟨24, 1, [bsl R]⟩] (by simp [go_sem]) ?_
          simp [go_sem]
          try omega
        | succ k =>
          have hks : k < s.length := by omega
          obtain ⟨p, hp⟩ : ∃ p, pre.length + k = p := ⟨_, rfl⟩
          have hp1 : pre.length + (k + 1) = p + 1 := by omega
          have hi1 : p + 1 < (rowX pre s x po (k + 1)).length := by omega
          have hi2 : p < (rowX pre s x po (k + 1)).length := by omega
          have hat : (rowX pre s x po (k + 1))[p + 1] = x := by
            have := ET (pre := pre) (s := s) (x := x) (post := po) hk (by omega)
            simp only [hp1] at this; exact this
          have hpv : (rowX pre s x po (k + 1))[p] = s[k] := by
            have := zQ (pre := pre) (s := s) (x := x) (post := po) hks (by omega)
            simp only [hp] at this; exact this
          have hsw := zR (pre := pre) (x := x) (post := po) hks
          rw [hp, hp1] at hsw
          have hy := hsm s[k] (List.getElem_mem hks)
          have ht1 : ((p : Int) + 1).toNat = p + 1 := by omega
          have hwp : IntKind.i64.wrap (p : Int) = (p : Int) := w64 (by omega) (by omega)
          have hgt : (pre.length : Int) < (p : Int) + 1 := by omega
          have hgt2 : pre.length < p + 1 := by omega
          have hpb : p + 1 ≤ 100000 := by omega
          have hcm := I7 R hok x s[k] hxr ⟨hy.2.1, hy.2.2⟩
          have hneg := EU R x s[k]
          have hbef : bef (kf R) x s[k] ↔ cmpC R x s[k] < 0 := by rw [hneg]; unfold bef; omega
          have hdk : bef (kf R) x s[k] → ∀ e ∈ s.drop k, bef (kf R) x e := fun h e he => by
            rw [List.drop_eq_getElem_cons hks] at he
            rcases List.mem_cons.1 he with rfl | he
            · exact h
            · exact hd e he
          have hup : ¬ bef (kf R) x s[k] → ∀ e ∈ s.take (k + 1), bef (kf R) e x := fun h e he => by
            have hyx : bef (kf R) s[k] x := (pS (by omega)).resolve_left h
            rw [List.take_succ_eq_append_getElem hks] at he
            rcases List.mem_append.1 he with he | he
            · obtain ⟨j, hj, rfl⟩ := List.mem_take_iff_getElem.1 he
              exact pR (List.pairwise_iff_getElem.1 hss j k (by omega) hks (by omega)) hyx
            · simp at he; rw [he]; exact hyx
          rw [hp1]
          obtain ⟨y, hye⟩ : ∃ y, s[k] = y := ⟨_, rfl⟩
          rw [hye] at hpv hsw hcm hbef hdk hup
          generalize rowX pre s x po (k + 1) = D1 at *
          have hzs : zoneEs (((D1.map ii).set (p + 1) (ii y)).set p (ii x)) = true := by
            rw [← List.map_set, ← List.map_set]; exact fW _ _ (fun _ => rfl)
          have hns : nth ((D1.map ii).set (p + 1) (ii y)) p = ii y := by
            rw [← List.map_set, iN ii (by simpa using hi2), List.getElem_set_ne (by omega), hpv]
          (repeat (first | refine aD ?_ | refine a8 ?_ | ((first | refine aA q11x1 hX ?_ | refine a7 q11x1 hX mixed ?_ | refine aB ?_ | refine aC ?_); (simp [go_sem, hi1, hi2, hat, hpv, ht1, hwp, hgt, hgt2]; try (refine ⟨by kernel_rfl, ?_⟩)))))
          (repeat refine And.intro (by first | omega | (unfold maxLen; omega) | kernel_rfl | (refine ⟨by first | omega | (unfold maxLen; omega), by first | omega | (unfold maxLen; omega)⟩) | grind) ?_)
          first | refine jW [1] (fun hg => hcm) (by simp [go_sem]) (by simp [go_sem]) ?_ | refine j1 [1] (fun hg => hcm) (by simp [go_sem]) ?_
          try (simp [go_sem, hi1, hi2, hat, hpv, ht1, hwp, hgt, hgt2]; try (refine ⟨by kernel_rfl, ?_⟩))
          refine aH (b := decide (cmpC R x y < 0)) (by simp [go_sem]) (fun hd2 => ?_) (fun hd2 => ?_)
          · simp only [decide_eq_true_eq] at hd2
            (repeat (first | refine aD ?_ | refine a8 ?_ | ((first | refine aA q11x1 hX ?_ | refine a7 q11x1 hX mixed ?_ | refine aB ?_ | refine aC ?_); (simp [go_sem, hi1, hi2, hat, hpv, ht1, hwp, hzs]; (try simp (disch := omega) only [w64, td, tm]); try (refine ⟨by kernel_rfl, ?_⟩)))))
            try (simp [go_sem, hi1, hi2, hat, hpv, ht1, hwp, hzs]; try (refine ⟨by kernel_rfl, ?_⟩))
            (repeat refine And.intro (by first | omega | (unfold maxLen; omega) | kernel_rfl | (refine ⟨by first | omega | (unfold maxLen; omega), by first | omega | (unfold maxLen; omega)⟩) | grind) ?_)
            (repeat (first | refine aD ?_ | refine a8 ?_ | ((first | refine aA q11x1 hX ?_ | refine a7 q11x1 hX mixed ?_ | refine aB ?_ | refine aC ?_); (simp [go_sem, hi1, hi2, hat, hpv, ht1, hwp, hzs]; (try simp (disch := omega) only [w64, td, tm]); try (refine ⟨by kernel_rfl, ?_⟩)))))
            refine ⟨k, ⟨by omega, hdk (hbef.2 hd2)⟩, by omega, ?_⟩
            rw [← hsw]
            refine aI _ [.old 0 ⟨3, 1, ((D1.set (p + 1) y).set p x).map ii⟩, .old 1 ⟨24, 1, [bsl R]⟩] (by simp [go_sem, hns, hzs]) ?_
            simp [go_sem]
            try omega
          · simp only [decide_eq_false_iff_not] at hd2
            (repeat (first | refine aD ?_ | refine a8 ?_ | ((first | refine aA q11x1 hX ?_ | refine a7 q11x1 hX mixed ?_ | refine aB ?_ | refine aC ?_); (simp [go_sem]; (try simp (disch := omega) only [w64, td, tm]); try (refine ⟨by kernel_rfl, ?_⟩)))))
            refine ⟨i + 1, by omega, by omega, ?_⟩
            rw [← done (hup fun h => hd2 (hbef.1 h))]
            refine aI _ [.old 0 ⟨3, 1, D1.map ii⟩, .old 1 ⟨24, 1, [bsl R]⟩] (by simp [go_sem]) ?_
            simp [go_sem]
            try omega
    · simp at hc
      have hd2 : r3 pre (srt (kf R) (l.take i)) (l.drop i ++ post) = r3 pre (srt (kf R) l) post := by
        rw [List.take_of_length_le (by omega), List.drop_of_length_le (by omega)]; rfl
      rw [hd2]
      (repeat (first | refine aD ?_ | refine a8 ?_ | ((first | refine aA q11x1 hX ?_ | refine a7 q11x1 hX mixed ?_ | refine aB ?_ | refine aC ?_); (simp [go_sem]; try (refine ⟨by kernel_rfl, ?_⟩)))))
      (try refine aE ?_); (try simp only [thenQ, blkQ, loopQ]); refine gX [(1000000, .ow 0), (1000001, .ow 1)] [.old 0 ⟨3, 1, (r3 pre (srt (kf R) l) post).map ii⟩, .old 1 ⟨24, 1, [bsl R]⟩] ?_
      simp [go_sem]
end Go.Proofs.YthibhamepjhfjaaGreatDoor.B

namespace Go.Proofs.YthibhamepjhfjaaGreatDoor.B
open Go.RowKit Go.Ab
attribute [local irreducible] AWP Go.Ab.Sub Means MeansH CallK CallG CallT CallGT
set_option maxHeartbeats 4000000 in
set_option maxRecDepth 20000 in
theorem oC (l : List Int) (R : List Rat) (hn : l.Nodup) (hord : ∀ i j (hi : i < l.length) (hj : j < l.length), i < j → l[i] < l[j]) (hr : ∀ x ∈ l, 0 ≤ x ∧ x < R.length) (hlt : l.length < 20) (hR : R.length ≤ 100000) (hok : okR R) :
    MeansH Tryz.prog 77 (sH l R) [.ow 0, ii l.length, clo] (.tup []) (sH (srt (kf R) l) R) := by
  have hi : MeansH Tryz.prog 106 (sH l R) [.ow 0, ii 0, ii l.length, clo] (.tup []) (sH (srt (kf R) l) R) := by
    have := zT [] l [] R hn hord hr (by simp; omega) hR hok
    simpa [r3] using this
  have hlt2 : ¬ (20 : Int) ≤ l.length := by omega
  have hlt3 : ¬ (20 : Int) < l.length := by omega
  refine bG 2 63 [] Tryz.func77 rfl rfl rfl (by simp) (by decide) rfl fun X hX => ?_
  (repeat (first | refine aD ?_ | refine a8 ?_ | ((first | refine aA q11x2 hX ?_ | refine a7 q11x2 hX mixed ?_ | refine aB ?_ | refine aC ?_); (simp [go_sem]; (try simp (disch := omega) only [w64, td, tm]); try (refine ⟨by kernel_rfl, ?_⟩)))))
  refine aQ (fun _ : Nat => ⟨mkE [(0, .ow 0), (1, ii l.length), (2, clo), (6, ii 20), (7, ii 0), (8, ii 20), (1000000, .ow 0), (1000001, .ow 1)], sH l R⟩) (fun _ => True) (fun _ => 0) 0 ?_ ?_ ?_
  · refine aI _ [.old 0 ⟨3, 1, l.map ii⟩, .old 1 ⟨24, 1, [bsl R]⟩] (by simp [go_sem]) ?_
    simp [go_sem]
  · trivial
  · intro _ _
    (repeat (first | refine aD ?_ | refine a8 ?_ | ((first | refine aA q11x2 hX ?_ | refine a7 q11x2 hX mixed ?_ | refine aB ?_ | refine aC ?_); (simp [go_sem, hlt2]; (try simp (disch := omega) only [w64, td, tm]); try (refine ⟨by kernel_rfl, ?_⟩)))))
    refine aH (b := false) (by simp [go_sem]; try omega) (fun h => by cases h) (fun _ => ?_)
    (repeat (first | refine aD ?_ | refine a8 ?_ | ((first | refine aA q11x2 hX ?_ | refine a7 q11x2 hX mixed ?_ | refine aB ?_ | refine aC ?_); (simp [go_sem]; try (refine ⟨by kernel_rfl, ?_⟩)))))
    first | refine aM [0, 1] (hi) (by simp [go_sem]) ?_ | refine aJ [0, 1] (hi) (by simp [go_sem]) ?_ | refine aK [0, 1] (hi) (by simp [go_sem]) ?_
    try (simp [go_sem]; try (refine ⟨by kernel_rfl, ?_⟩))
    (repeat (first | refine aD ?_ | refine a8 ?_ | ((first | refine aA q11x2 hX ?_ | refine a7 q11x2 hX mixed ?_ | refine aB ?_ | refine aC ?_); (simp [go_sem]; try (refine ⟨by kernel_rfl, ?_⟩)))))
    refine aQ (fun _ : Nat => ⟨mkE [(0, .ow 0), (1, ii l.length), (2, clo), (6, ii 20), (1000000, .ow 0), (1000001, .ow 1)], sH (srt (kf R) l) R⟩) (fun _ => True) (fun _ => 0) 0 ?_ ?_ ?_
    · refine aI _ [.old 0 ⟨3, 1, (srt (kf R) l).map ii⟩, .old 1 ⟨24, 1, [bsl R]⟩] (by simp [go_sem]) ?_
      simp [go_sem]
    · trivial
    · intro _ _
      (repeat (first | refine aD ?_ | refine a8 ?_ | ((first | refine aA q11x2 hX ?_ | refine a7 q11x2 hX mixed ?_ | refine aB ?_ | refine aC ?_); (simp [go_sem, hlt3]; (try simp (disch := omega) only [w64, td, tm]); try (refine ⟨by kernel_rfl, ?_⟩)))))
      refine aH (b := false) (by simp [go_sem]; try omega) (fun h => by cases h) (fun _ => ?_)
      (repeat (first | refine aD ?_ | refine a8 ?_ | ((first | refine aA q11x2 hX ?_ | refine a7 q11x2 hX mixed ?_ | refine aB ?_ | refine aC ?_); (simp [go_sem]; try (refine ⟨by kernel_rfl, ?_⟩)))))
      (try refine aE ?_); (try simp only [thenQ, blkQ, loopQ]); refine gX [(1000000, .ow 0), (1000001, .ow 1)] [.old 0 ⟨3, 1, (srt (kf R) l).map ii⟩, .old 1 ⟨24, 1, [bsl R]⟩] ?_
      simp [go_sem]
set_option maxHeartbeats 4000000 in
set_option maxRecDepth 20000 in
theorem sortS_m (l : List Int) (R : List Rat) (hn : l.Nodup) (hord : ∀ i j (hi : i < l.length) (hj : j < l.length), i < j → l[i] < l[j]) (hr : ∀ x ∈ l, 0 ≤ x ∧ x < R.length) (hlt : l.length < 20) (hR : R.length ≤ 100000) (hok : okR R) :
    MeansH Tryz.prog 45 (sH l R) [.ow 0, clo] (.tup []) (sH (srt (kf R) l) R) := by
  refine bG 2 9 [] Tryz.func45 rfl rfl rfl (by simp) (by decide) rfl fun X hX => ?_
  (repeat (first | refine aD ?_ | refine a8 ?_ | ((first | refine aA q11x4 hX ?_ | refine a7 q11x4 hX mixed ?_ | refine aB ?_ | refine aC ?_); (simp [go_sem]; try (refine ⟨by kernel_rfl, ?_⟩)))))
  first | refine aM [0, 1] (oC l R hn hord hr hlt hR hok) (by simp [go_sem]) ?_ | refine aJ [0, 1] (oC l R hn hord hr hlt hR hok) (by simp [go_sem]) ?_ | refine aK [0, 1] (oC l R hn hord hr hlt hR hok) (by simp [go_sem]) ?_
  try (simp [go_sem]; try (refine ⟨by kernel_rfl, ?_⟩))
  (repeat (first | refine aD ?_ | refine a8 ?_ | ((first | refine aA q11x4 hX ?_ | refine a7 q11x4 hX mixed ?_ | refine aB ?_ | refine aC ?_); (simp [go_sem]; try (refine ⟨by kernel_rfl, ?_⟩)))))
  (try refine aE ?_); (try simp only [thenQ, blkQ, loopQ]); refine gX [(1000000, .ow 0), (1000001, .ow 1)] [.old 0 ⟨3, 1, (srt (kf R) l).map ii⟩, .old 1 ⟨24, 1, [bsl R]⟩] ?_
  simp [go_sem]
end Go.Proofs.YthibhamepjhfjaaGreatDoor.B

namespace Go.Proofs.YthibhamepjhfjaaGreatDoor
def sumL (l : List Int) : Int := l.foldr (· + ·) 0
@[simp] theorem sumL_nil : sumL [] = 0 := rfl
@[simp] theorem sumL_cons (a : Int) (l : List Int) : sumL (a :: l) = a + sumL l := rfl
def fill (C : List Int) (l : Int) : Int := sumL (C.map fun c => min c l)
theorem kT (c : Int) (C : List Int) (l : Int) : fill (c :: C) l = min c l + fill C l := rfl
def shr (l : Int) : Int → List Int → List Int
  | _, [] => []
  | left, c :: C => if l < c ∧ 0 < left then (l + 1) :: shr l (left - 1) C else min c l :: shr l left C
structure isLv (C : List Int) (h l : Int) : Prop where
  low : 0 ≤ l
  le : fill C l ≤ h
  lt : h < fill C (l + 1)
end Go.Proofs.YthibhamepjhfjaaGreatDoor

namespace Go.Proofs.YthibhamepjhfjaaGreatDoor
def idxI (n : Nat) : List Int := (List.range n).map fun i : Nat => (i : Int)
theorem uH (n : Nat) : (idxI n).length = n := by simp [idxI]
theorem mK {n i : Nat} (h : i < (idxI n).length) : (idxI n)[i] = i := by simp [idxI]
theorem vZ (n : Nat) : (idxI n).Nodup := List.pairwise_iff_getElem.2 fun i j hi hj hij => by rw [mK hi, mK hj]; omega
theorem D3 (n : Nat) : ∀ i j (hi : i < (idxI n).length) (hj : j < (idxI n).length), i < j → (idxI n)[i] < (idxI n)[j] := fun i j hi hj hij => by rw [mK hi, mK hj]; omega
theorem uI {n : Nat} {x : Int} : x ∈ idxI n ↔ 0 ≤ x ∧ x < n := by
  simp only [idxI, List.mem_map, List.mem_range]
  constructor
  · rintro ⟨i, hi, rfl⟩; omega
  · rintro ⟨h1, h2⟩; exact ⟨x.toNat, by omega, by omega⟩
def bump (L : List Int) (x : Int) : List Int := L.set x.toNat (L.getD x.toNat 0 + 1)
def bumps (L : List Int) (O : List Int) : List Int := O.foldl bump L
theorem D4 (L : List Int) (x : Int) : (bump L x).length = L.length := by simp [bump]
theorem pT : ∀ (O L : List Int), (bumps L O).length = L.length
  | [], _ => rfl
  | x :: O, L => by
    have := pT O (bump L x)
    rwa [D4] at this
theorem w5 {L O : List Int} {k : Nat} (h : k < O.length) : bumps L (O.take (k + 1)) = bump (bumps L (O.take k)) O[k] := by
  unfold bumps; rw [List.take_succ_eq_append_getElem h, List.foldl_append]; rfl
theorem EV {L : List Int} {x B : Int} (h : ∀ v ∈ L, 0 ≤ v ∧ v ≤ B) : ∀ v ∈ bump L x, 0 ≤ v ∧ v ≤ B + 1 := by
  intro v hv
  unfold bump at hv
  by_cases hx : x.toNat < L.length
  · have e : L.getD x.toNat 0 = L[x.toNat] := by rw [List.getD_eq_getElem?_getD, List.getElem?_eq_getElem hx]; rfl
    rcases List.mem_or_eq_of_mem_set hv with hv | rfl
    · have := h v hv; omega
    · rw [e]; have := h _ (List.getElem_mem hx); omega
  · rw [List.set_eq_of_length_le (by omega)] at hv
    have := h v hv; omega
theorem uJ : ∀ (O : List Int) {L : List Int} {B : Int}, (∀ v ∈ L, 0 ≤ v ∧ v ≤ B) → ∀ v ∈ bumps L O, 0 ≤ v ∧ v ≤ B + O.length
  | [], L, B, h, v, hv => by have := h v hv; simp; omega
  | x :: O, L, B, h, v, hv => by
    have := uJ O (EV (x := x) h) v hv
    simp only [List.length_cons]; omega
end Go.Proofs.YthibhamepjhfjaaGreatDoor

namespace Go.Proofs.YthibhamepjhfjaaGreatDoor
end Go.Proofs.YthibhamepjhfjaaGreatDoor

namespace Go.Proofs.YthibhamepjhfjaaGreatDoor
open Go.RowKit Go.Ab
attribute [local irreducible] AWP Go.Ab.Sub Means MeansH CallK CallG CallT CallGT CallU
end Go.Proofs.YthibhamepjhfjaaGreatDoor

namespace Go.Proofs.YthibhamepjhfjaaGreatDoor
open Go.RowKit Go.Ab
attribute [local irreducible] AWP Go.Ab.Sub Means MeansH CallK CallG CallT CallGT CallU
end Go.Proofs.YthibhamepjhfjaaGreatDoor

namespace Go.Proofs.YthibhamepjhfjaaGreatDoor
open Go.RowKit Go.Ab
end Go.Proofs.YthibhamepjhfjaaGreatDoor

namespace Go.Proofs.YthibhamepjhfjaaGreatDoor
open Go.RowKit Go.Ab
attribute [local irreducible] AWP Go.Ab.Sub Means MeansH CallK CallG CallT CallGT CallU
end Go.Proofs.YthibhamepjhfjaaGreatDoor

namespace Go.Proofs.YthibhamepjhfjaaGreatDoor
open Go.RowKit Go.Ab
attribute [local irreducible] AWP Go.Ab.Sub Means MeansH CallK CallG CallT CallGT CallU
end Go.Proofs.YthibhamepjhfjaaGreatDoor

namespace Go.Proofs.YthibhamepjhfjaaGreatDoor
open Go.RowKit Go.Ab
attribute [local irreducible] AWP Go.Ab.Sub Means MeansH CallK CallG CallT CallGT CallU
end Go.Proofs.YthibhamepjhfjaaGreatDoor

namespace Go.Proofs.YthibhamepjhfjaaGreatDoor
open Go.RowKit Go.Ab
attribute [local irreducible] AWP Go.Ab.Sub Means MeansH CallK CallG CallT CallGT CallU
end Go.Proofs.YthibhamepjhfjaaGreatDoor

namespace Go.Proofs.YthibhamepjhfjaaGreatDoor
open Go.RowKit Go.Ab
attribute [local irreducible] AWP Go.Ab.Sub Means MeansH CallK CallG CallT CallGT CallU
end Go.Proofs.YthibhamepjhfjaaGreatDoor

namespace Go.Proofs.YthibhamepjhfjaaGreatDoor
open Go.RowKit Go.Ab
attribute [local irreducible] AWP Go.Ab.Sub Means MeansH CallK CallG CallT CallGT CallU
end Go.Proofs.YthibhamepjhfjaaGreatDoor

namespace Go.Proofs.YthibhamepjhfjaaGreatDoor
open Go.RowKit Go.Ab
attribute [local irreducible] AWP Go.Ab.Sub Means MeansH CallK CallG CallT CallGT CallU
end Go.Proofs.YthibhamepjhfjaaGreatDoor

namespace Go.Proofs.YthibhamepjhfjaaGreatDoor
open Go.RowKit Go.Ab
attribute [local irreducible] AWP Go.Ab.Sub Means MeansH CallK CallG CallT CallGT CallU
theorem D5 (s1 : Int) (a : List Int) (t1 : Int) (b : List Int) (s2 : Int) (c : List Int) (t2 : Int) (d : List Int) (ha : a.length ≤ 100000) (hb : b.length ≤ 100000) (hc : c.length ≤ 100000) (hd : d.length ≤ 100000) (h : ¬ (isF s1 a t1 b ∧ isF s2 c t2 d)) : Means false Tryz.prog 60 [frac4 s1 a t1 b, frac4 s2 c t2 d] (.tup [frZ 0 0, ii 1]) := by
  have r1 := mI s1 a (by omega) t1 b (by omega)
  have r2 := mI s2 c (by omega) t2 d (by omega)
  obtain ⟨x, hx⟩ : ∃ x, decide (isF s1 a t1 b) = x := ⟨_, rfl⟩
  obtain ⟨y, hy⟩ : ∃ y, decide (isF s2 c t2 d) = y := ⟨_, rfl⟩
  have hxy : (!x || !y) = true := by
    rw [← hx, ← hy]; simp; grind
  rw [hx] at r1
  rw [hy] at r2
  refine aN false 46 [.cell 4 41, .tmp 5] Tryz.func60 rfl rfl rfl (by simp) (by decide) rfl fun X hX => ?_
  (repeat (first | refine aD ?_ | refine a8 ?_ | ((first | refine aA q11x3 hX ?_ | refine a7 q11x3 hX mixed ?_ | refine aE ?_ | refine aB ?_ | refine aC ?_); (simp [go_sem]; try (refine ⟨by kernel_rfl, ?_⟩)))))
  first | refine aF (r1) rfl (by simp [go_sem]) rfl ?_ | refine aG (r1) rfl (by simp [go_sem]) rfl ?_
  try (simp [go_sem]; try (refine ⟨by kernel_rfl, ?_⟩))
  first | refine aR (fun hg => r2) rfl (by simp [go_sem]) rfl ?_ | refine aO (fun hg => r2) rfl (by simp [go_sem]) rfl ?_
  try (simp [go_sem]; try (refine ⟨by kernel_rfl, ?_⟩))
  refine aH (b := true) (by simpa [go_sem] using hxy) (fun _ => ?_) (fun h => by cases h)
  (repeat (first | refine aD ?_ | refine a8 ?_ | ((first | refine aA q11x3 hX ?_ | refine a7 q11x3 hX mixed ?_ | refine aE ?_ | refine aB ?_ | refine aC ?_); (simp [go_sem]; try (refine ⟨by kernel_rfl, ?_⟩)))))
end Go.Proofs.YthibhamepjhfjaaGreatDoor

namespace Go.Proofs.YthibhamepjhfjaaGreatDoor
open Go.RowKit Go.Ab
attribute [local irreducible] AWP Go.Ab.Sub Means MeansH MeansX CallK CallG CallT CallGT CallU
def fl (r : Rat) : Int := r.num / (r.den : Int)
def rs (r : Rat) : Rat := r - ((fl r : Int) : Rat)
theorem uK (r : Rat) : (0 : Rat) < ((r.den : Int) : Rat) := Rat.intCast_pos.2 (by have := r.den_pos; omega)
theorem FW (r : Rat) : ((fl r : Int) : Rat) ≤ r := by
  have hd : 0 < (r.den : Int) := by have := r.den_pos; omega
  have h1 : fl r * (r.den : Int) ≤ r.num := Int.ediv_mul_le _ (by omega)
  have h2 : ((fl r * (r.den : Int) : Int) : Rat) ≤ ((r.num : Int) : Rat) := Rat.intCast_le_intCast.2 h1
  rw [Rat.intCast_mul, cB r] at h2
  exact Rat.le_of_mul_le_mul_right h2 (uK r)
theorem I8 (r : Rat) : r < ((fl r : Int) : Rat) + 1 := by
  have hd : 0 < (r.den : Int) := by have := r.den_pos; omega
  have h1 : r.num < (fl r + 1) * (r.den : Int) := Int.lt_ediv_add_one_mul_self _ hd
  have h2 : ((r.num : Int) : Rat) < (((fl r + 1) * (r.den : Int) : Int) : Rat) := Rat.intCast_lt_intCast.2 h1
  rw [Rat.intCast_mul, cB r, Rat.intCast_add] at h2
  have h3 := Rat.lt_of_mul_lt_mul_right h2 (Rat.le_of_lt (uK r))
  simpa using h3
theorem zU (r : Rat) : 0 ≤ rs r := by have := FW r; unfold rs; grind
theorem I9 (r : Rat) : rs r < 1 := by have := I8 r; unfold rs; grind
theorem D6 {r : Rat} {B : Int} (h0 : 0 ≤ r) (h1 : r ≤ ((B : Int) : Rat)) : 0 ≤ fl r ∧ fl r ≤ B := by
  refine ⟨?_, ?_⟩
  · unfold fl
    exact Int.ediv_nonneg (Rat.num_nonneg.2 h0) (by omega)
  · have h2 : ((fl r : Int) : Rat) ≤ ((B : Int) : Rat) := by have := FW r; grind
    exact Rat.intCast_le_intCast.1 h2
theorem uL {r : Rat} (hq : rq r) (h0 : 0 ≤ r) : okSub r ((fl r : Int) : Rat) := by
  have hd : 0 < (r.den : Int) := by have := r.den_pos; omega
  have hn := Rat.num_nonneg.2 h0
  have h1 : fl r * (r.den : Int) ≤ r.num := Int.ediv_mul_le _ (by omega)
  have h2 : 0 ≤ fl r := Int.ediv_nonneg hn (by omega)
  have h3 : 0 ≤ fl r * (r.den : Int) := Int.mul_nonneg h2 (by omega)
  have h4 : ((((fl r : Int) : Rat).den : Nat) : Int) = 1 := by rw [Rat.den_intCast]; rfl
  obtain ⟨z1, z2⟩ := hq
  unfold okSub sumP
  rw [h4, Rat.num_intCast, Int.mul_one, Int.mul_one]
  have e : -fl r * (r.den : Int) = -(fl r * (r.den : Int)) := Int.neg_mul _ _
  rw [e]
  generalize fl r * (r.den : Int) = y at *
  refine ⟨⟨z1, ?_, ?_⟩, z2⟩
  all_goals
    unfold rz ab at *
    repeat' split
    all_goals (try omega)
    all_goals (repeat' split at z1)
    all_goals (try omega)
def rsum (ks : List Rat) (i : Nat) : Rat := sumR (fun t => rs (ks.getD t 0)) i
theorem iP (ks : List Rat) (i : Nat) : rsum ks (i + 1) = rsum ks i + rs (ks.getD i 0) := rfl
theorem xP (ks : List Rat) : ∀ i, 0 ≤ rsum ks i ∧ rsum ks i ≤ ((i : Int) : Rat)
  | 0 => ⟨by show (0 : Rat) ≤ 0; grind, by show (0 : Rat) ≤ _; simp⟩
  | i + 1 => by
    obtain ⟨h1, h2⟩ := xP ks i
    have h3 := zU (ks.getD i 0)
    have h4 := I9 (ks.getD i 0)
    rw [iP]
    refine ⟨by grind, ?_⟩
    have : (((i + 1 : Nat) : Int) : Rat) = ((i : Int) : Rat) + 1 := by
      rw [show ((i + 1 : Nat) : Int) = (i : Int) + 1 by omega, Rat.intCast_add]; rfl
    rw [this]; grind
def okS (ks : List Rat) (i : Nat) : Prop := ∀ j, j < i → okAdd (rsum ks j) (rs (ks.getD j 0))
noncomputable def svF (ks : List Rat) (i : Nat) : Fr := @ite _ (okS ks i) (Classical.propDecidable _) (frR (rsum ks i)) ⟨sg 0, dg (ab 0), sg 0, dg (ab 0)⟩
noncomputable def ev (ks : List Rat) (i : Nat) : Int := @ite _ (okS ks i) (Classical.propDecidable _) 0 6
theorem FX (ks : List Rat) : okS ks 0 := fun j hj => by omega
theorem EW {ks : List Rat} {i : Nat} (h : okS ks (i + 1)) : okS ks i := fun j hj => h j (by omega)
theorem FY {r : Rat} (hq : rq r) (h0 : 0 ≤ r) : rq (rs r) := H8 (uL hq h0)
theorem IA : rq 0 := ⟨o9 (by decide), o9 (by decide)⟩
theorem xQ {ks : List Rat} : ∀ {i : Nat}, okS ks i → rq (rsum ks i)
  | 0, _ => IA
  | i + 1, h => by rw [iP]; exact H7 (h i (by omega))
theorem IB (c : Int) {r : Rat} (hq : rq r) (h0 : 0 ≤ r) (h1 : fl r ≤ 4503599627370496) : MeansH Tryz.prog 43 [calC c] [.el 0 1 0 0, frq r, frq ((fl r : Int) : Rat)] (frq (rs r)) [calC c] := by
  have h2 : 0 ≤ fl r := Int.ediv_nonneg (Rat.num_nonneg.2 h0) (by omega)
  have := FI c (AU hq (o6 (p := fl r) (q := 1) (by omega) (by decide) (by decide)) (by rw [kF]; exact uL hq h0))
  have e : kp c 0 = c := by unfold kp; split <;> simp_all
  rw [e, kF] at this
  exact this
theorem EX (c : Int) {p : Int} (hp : -9223372036854775808 ≤ p ∧ p ≤ 9223372036854775807) : MeansH Tryz.prog 33 [calC c] [.el 0 1 0 0, ii p, ii 1] (frq ((p : Int) : Rat)) [calC c] := by
  have := HO c (DN p 1 hp (by decide) (by decide))
  have e : kp c 0 = c := by unfold kp; split <;> simp_all
  rw [e, kF] at this
  exact this
theorem IC {ks : List Rat} {i : Nat} (hq : rq (ks.getD i 0)) (h0 : 0 ≤ ks.getD i 0) : MeansH Tryz.prog 44 [calC (ev ks i)] [.el 0 1 0 0, fv (svF ks i), frq (rs (ks.getD i 0))] (fv (svF ks (i + 1))) [calC (ev ks (i + 1))] := by
  have hr := FY hq h0
  by_cases h : okS ks i
  · have e1 : svF ks i = frR (rsum ks i) := if_pos h
    have e2 : ev ks i = 0 := if_pos h
    have hs := xQ h
    have ha := FT hs hr
    by_cases h2 : okAdd (rsum ks i) (rs (ks.getD i 0))
    · have h3 : okS ks (i + 1) := fun j hj => by
        by_cases e : j = i
        · subst e; exact h2
        · exact h j (by omega)
      have e3 : svF ks (i + 1) = frR (rsum ks (i + 1)) := if_pos h3
      have e4 : ev ks (i + 1) = 0 := if_pos h3
      rw [rM h2] at ha
      rw [e1, e2, e3, e4, iP]
      exact xL 0 ha
    · have h3 : ¬ okS ks (i + 1) := fun e => h2 (e i (by omega))
      have e3 : svF ks (i + 1) = ⟨sg 0, dg (ab 0), sg 0, dg (ab 0)⟩ := if_neg h3
      have e4 : ev ks (i + 1) = 6 := if_neg h3
      rw [CV h2] at ha
      rw [e1, e2, e3, e4]
      exact xL 0 ha
  · have h3 : ¬ okS ks (i + 1) := fun e => h (EW e)
    have e1 : svF ks i = ⟨sg 0, dg (ab 0), sg 0, dg (ab 0)⟩ := if_neg h
    have e2 : ev ks i = 6 := if_neg h
    have e3 : svF ks (i + 1) = ⟨sg 0, dg (ab 0), sg 0, dg (ab 0)⟩ := if_neg h3
    have e4 : ev ks (i + 1) = 6 := if_neg h3
    rw [e1, e2, e3, e4]
    have hn : ¬ (isF (sg 0) (dg (ab 0)) (sg 0) (dg (ab 0)) ∧ isF (sg (rs (ks.getD i 0)).num) (dg (ab (rs (ks.getD i 0)).num)) (sg ((rs (ks.getD i 0)).den : Int)) (dg (ab ((rs (ks.getD i 0)).den : Int)))) := fun e => by
      have := e.1
      rw [xG (o9 (by decide)) (o9 (by decide))] at this
      exact absurd this.2.2.1 (by decide)
    exact xL 6 (D5 _ _ _ _ _ _ _ _ (by decide) (by decide) (by have := (b8 60).2 hr.1; omega) (by have := (b8 60).2 hr.2; omega) hn)
end Go.Proofs.YthibhamepjhfjaaGreatDoor

