/-
  Lemmas for the statement at the top.
-/
import Derived.Test.YthibhamepjhfjaaGreatDoorTnP13
import Derived.Test.YthibhamepjhfjaaGreatDoorTnP12
import Derived.Test.YthibhamepjhfjaaGreatDoorTnFw5
set_option linter.all false
namespace Go.Proofs.YthibhamepjhfjaaGreatDoor
open Go.RowKit Go.Ab
def q12x0 : List Nat := [0, 2, 3, 4, 5, 6, 7, 8, 9, 10, 11, 12, 13, 15, 18, 26, 35, 36, 37, 38, 56, 92, 108, 114, 115, 116, 117]
def q12x1 : List Nat := [0, 1, 2, 3, 4, 5, 6, 7, 8, 9, 12, 13, 14, 15, 16, 17, 18]
def q12x2 : List Nat := [0, 1, 4, 5, 10, 14, 25]
def q12x3 : List Nat := [0, 1, 4, 5, 6, 7, 8, 9, 10, 11, 12, 17, 27, 28, 29, 30, 53]
def q12x4 : List Nat := [0, 2, 3, 4, 8]
attribute [go_sem] q12x0 q12x1 q12x2 q12x3 q12x4
attribute [local irreducible] AWP Go.Ab.Sub Means MeansH MeansX CallK CallG CallT CallGT CallU
def most : Rat := ((4503599627370496 : Int) : Rat)
def cArg (ks : List Rat) (T : List AV) : Prop := T ≠ [] ∨ ∃ k ∈ ks, k < 0 ∨ most < k
def coinL (ks : List Rat) : List Int := bumps (ks.map fl) ((srt (B.kf (ks.map rs)) (idxI ks.length)).take (fl (rsum ks ks.length)).toNat)
noncomputable def coinV (ks : List Rat) (T : List AV) : AV :=
  @ite _ ((ks.length + T.length = 0 ∨ 12 < ks.length + T.length) ∨ cArg ks T) (Classical.propDecidable _) (.tup [.sl [], ii 1]) (@ite _ (okS ks ks.length) (Classical.propDecidable _) (if rsum ks ks.length = ((fl (rsum ks ks.length) : Int) : Rat) then .tup [il (coinL ks), ii 0] else .tup [.sl [], ii 1]) (.tup [.sl [], ii 6]))
def tailOk (T : List AV) : Prop := T = [] ∨ ∃ x T', T = fv x :: T' ∧ Means false Tryz.prog 41 [fv x] (bb false)
def okTo (ks : List Rat) (i : Nat) : Prop := ∀ k, k < i → 0 ≤ ks.getD k 0 ∧ ks.getD k 0 ≤ most
theorem zW {ks : List Rat} {i : Nat} {f : Rat} (h : okTo ks i) (hf : ks.getD i 0 = f) (h0 : 0 ≤ f) (h1 : f ≤ most) : okTo ks (i + 1) := fun k hk => by
  by_cases e : k = i
  · subst e; rw [hf]; exact ⟨h0, h1⟩
  · exact h k (by omega)
def restA (ks : List Rat) (i : Nat) : List AV := (List.range i).map fun k => frq (rs (ks.getD k 0))
def outA (ks : List Rat) (i : Nat) : List AV := (List.range i).map fun k => ii (fl (ks.getD k 0))
def ordA (i : Nat) : List AV := (List.range i).map fun k : Nat => ii (k : Int)
theorem w6 (ks : List Rat) (i : Nat) : restA ks (i + 1) = restA ks i ++ [frq (rs (ks.getD i 0))] := by unfold restA; rw [List.range_succ, List.map_append]; rfl
theorem zX (ks : List Rat) (i : Nat) : outA ks (i + 1) = outA ks i ++ [ii (fl (ks.getD i 0))] := by unfold outA; rw [List.range_succ, List.map_append]; rfl
theorem zY (i : Nat) : ordA (i + 1) = ordA i ++ [ii (i : Int)] := by unfold ordA; rw [List.range_succ, List.map_append]; rfl
theorem zZ (ks : List Rat) (i : Nat) : (restA ks i).length = i := by simp [restA]
theorem D7 (ks : List Rat) (i : Nat) : (outA ks i).length = i := by simp [outA]
theorem D8 (i : Nat) : (ordA i).length = i := by simp [ordA]
theorem oD {α β : Type} (ks : List α) (d : α) (f : α → β) : (List.range ks.length).map (fun k => f (ks.getD k d)) = ks.map f := by
  apply List.ext_getElem
  · simp
  · intro i h1 h2
    have : i < ks.length := by simpa using h2
    simp [List.getD_eq_getElem?_getD, List.getElem?_eq_getElem this]
theorem w7 (ks : List Rat) : restA ks ks.length = (ks.map rs).map frq := by
  rw [List.map_map]; exact oD ks 0 fun r => frq (rs r)
theorem A0 (ks : List Rat) : outA ks ks.length = (ks.map fl).map ii := by
  rw [List.map_map]; exact oD ks 0 fun r => ii (fl r)
theorem A4 (n : Nat) : ordA n = (idxI n).map ii := by unfold ordA idxI; rw [List.map_map]; rfl
theorem oE {n : Nat} {f : Nat → AV} (h : ∀ k, zoneEs [f k] = true) : zoneEs ((List.range n).map f) = true := by
  unfold zoneEs
  rw [List.all_eq_true]
  intro e he
  obtain ⟨k, _, rfl⟩ := List.mem_map.1 he
  have := h k
  unfold zoneEs at this
  rw [List.all_eq_true] at this
  exact this _ (by simp)
theorem oF (ks : List Rat) (i : Nat) : zoneEs (restA ks i) = true := oE fun _ => rfl
theorem pU (ks : List Rat) (i : Nat) : zoneEs (outA ks i) = true := oE fun _ => rfl
theorem pV (i : Nat) : zoneEs (ordA i) = true := oE fun _ => rfl
theorem HB {A B : List AV} {v : AV} {k : Nat} (h : A[k]? = some v) : nth (A ++ B) k = v := eL (by
  rw [List.getElem?_append_left (by rcases Nat.lt_or_ge k A.length with h2 | h2; exact h2; rw [List.getElem?_eq_none h2] at h; cases h)]; exact h)
theorem xR {A B : List AV} {v : AV} {k : Nat} (h : A.length = k) : nth (A ++ v :: B) k = v := eL (by
  rw [List.getElem?_append_right (by omega), h, Nat.sub_self]; rfl)
set_option maxHeartbeats 8000000 in
set_option maxRecDepth 20000 in
theorem EY (ks : List Rat) (T : List AV) (hq : ∀ k ∈ ks, rq k) (hT : tailOk T) (hl : ks.length + T.length ≤ 100000) : Means false Tryz.prog 12 [.sl (ks.map frq ++ T)] (coinV ks T) := by
  obtain ⟨V, hV⟩ : ∃ V, coinV ks T = V := ⟨_, rfl⟩
  have hzr : svF ks 0 = frR 0 := if_pos (FX ks)
  have hev : ev ks 0 = 0 := if_pos (FX ks)
  have k0 := EX 0 (p := 0) (by decide)
  have k1 := EX 0 (p := 4503599627370496) (by decide)
  have hmr : ((4503599627370496 : Int) : Rat) = most := rfl
  have hz0 : (((0 : Int)) : Rat) = 0 := rfl
  have hmq : rq most := by
    have := o6 (p := 4503599627370496) (q := 1) (by decide) (by decide) (by decide)
    rwa [kF] at this
  rw [hz0] at k0
  rw [hmr] at k1
  obtain ⟨mr, hmr2⟩ : ∃ m, most = m := ⟨_, rfl⟩
  obtain ⟨zr, hzr2⟩ : ∃ z : Rat, 0 = z := ⟨_, rfl⟩
  rw [hmr2] at k1 hmq
  rw [hzr2] at k0 hzr
  have hzq : rq zr := hzr2 ▸ IA
  rw [hV]
  refine aN false 128 [.tmp 2, .tmp 3] Tryz.func12 rfl rfl rfl (by simp) (by decide) rfl fun X hX => ?_
  (repeat (first | refine aD ?_ | refine a8 ?_ | ((first | refine aA q12x0 hX ?_ | refine a7 q12x0 hX mixed ?_ | refine aE ?_ | refine aB ?_ | refine aC ?_); (simp [go_sem]; try (refine ⟨by kernel_rfl, ?_⟩)))))
  by_cases hlen : ks.length + T.length = 0 ∨ 12 < ks.length + T.length
  · have e : V = .tup [.sl [], ii 1] := by rw [← hV]; exact if_pos (.inl hlen)
    rw [e]
    refine aH (b := true) (by simp [go_sem]; omega) (fun _ => ?_) (fun h => by cases h)
    (repeat (first | refine aD ?_ | refine a8 ?_ | ((first | refine aA q12x0 hX ?_ | refine a7 q12x0 hX mixed ?_ | refine aE ?_ | refine aB ?_ | refine aC ?_); (simp [go_sem]; try (refine ⟨by kernel_rfl, ?_⟩)))))
  refine aH (b := false) (by simp [go_sem]; omega) (fun h => by cases h) (fun _ => ?_)
  (repeat (first | refine aD ?_ | refine a8 ?_ | ((first | refine aA q12x0 hX ?_ | refine a7 q12x0 hX mixed ?_ | refine aE ?_ | refine aB ?_ | refine aC ?_); (simp [go_sem]; try (refine ⟨by kernel_rfl, ?_⟩)))))
  first | refine aM [0] (k0) (by simp [go_sem]) ?_ | refine aJ [0] (k0) (by simp [go_sem]) ?_ | refine aK [0] (k0) (by simp [go_sem]) ?_
  try (simp [go_sem]; try (refine ⟨by kernel_rfl, ?_⟩))
  first | refine aM [0] (k0) (by simp [go_sem]) ?_ | refine aJ [0] (k0) (by simp [go_sem]) ?_ | refine aK [0] (k0) (by simp [go_sem]) ?_
  try (simp [go_sem]; try (refine ⟨by kernel_rfl, ?_⟩))
  first | refine aM [0] (k1) (by simp [go_sem]) ?_ | refine aJ [0] (k1) (by simp [go_sem]) ?_ | refine aK [0] (k1) (by simp [go_sem]) ?_
  try (simp [go_sem]; try (refine ⟨by kernel_rfl, ?_⟩))
  (repeat (first | refine aD ?_ | refine a8 ?_ | ((first | refine aA q12x0 hX ?_ | refine a7 q12x0 hX mixed ?_ | refine aE ?_ | refine aB ?_ | refine aC ?_); (simp [go_sem]; try (refine ⟨by kernel_rfl, ?_⟩)))))
  refine aQ (fun i : Nat => ⟨mkE [(0, .sl (ks.map frq ++ T)), (4, .el 0 1 0 0), (5, .el 1 4 0 0), (6, .el 2 4 0 0), (7, .el 3 4 0 0), (8, .ow 6), (9, .ow 7), (10, .el 4 1 0 0), (35, .sl (ks.map frq ++ T)), (36, ii (ks.length + T.length : Nat)), (37, ii i)], [calC (ev ks i), .row ⟨41, 4, [fv (svF ks i)]⟩, .row ⟨41, 4, [frq zr]⟩, .row ⟨41, 4, [frq mr]⟩, .row ⟨24, 1, [.ow 5]⟩, .row ⟨41, 4, restA ks i⟩, .row ⟨3, 1, outA ks i⟩, .row ⟨3, 1, ordA i⟩]⟩) (fun i => i ≤ ks.length ∧ okTo ks i) (fun i => ks.length + T.length - i) 0 ?_ ?_ ?_
  · rw [hzr, hev]
    refine aI _ [.old 0 ⟨56, 1, [.agg [ii 0]]⟩, .old 1 ⟨41, 4, [frq zr]⟩, .old 2 ⟨41, 4, [frq zr]⟩, .old 3 ⟨41, 4, [frq mr]⟩, .old 4 ⟨24, 1, [.ow 5]⟩, .birth 41 4, .birth 3 1, .birth 3 1] (by simp [go_sem]) ?_
    simp [go_sem]
  · exact ⟨by omega, fun k hk => by omega⟩
  · rintro i ⟨hi, hp⟩
    have hn0 : ks.length + T.length ≤ 12 := by omega
    have wi := w64 (x := (i : Int) + 1) (by omega) (by omega)
    (repeat (first | refine aD ?_ | refine a8 ?_ | ((first | refine aA q12x0 hX ?_ | refine a7 q12x0 hX mixed ?_ | refine aE ?_ | refine aB ?_ | refine aC ?_); (simp [go_sem]; try (refine ⟨by kernel_rfl, ?_⟩)))))
    refine aH (b := decide (i < ks.length + T.length)) (by simp [go_sem]; try omega) (fun hb => ?_) (fun hb => ?_)
    · simp only [decide_eq_true_eq] at hb
      by_cases hik : i < ks.length
      · have hgi : ks.getD i 0 = ks[i] := by rw [List.getD_eq_getElem?_getD, List.getElem?_eq_getElem hik]; rfl
        have hfq : rq (ks.getD i 0) := by rw [hgi]; exact hq _ (List.getElem_mem hik)
        have q1 : nth (ks.map frq ++ T) i = frq (ks.getD i 0) := HB (by simp [hik])
        have hil : (i : Int) < (ks.length : Int) + (T.length : Int) := by omega
        have r1 := aX _ _ (iW hfq)
        have m1 := dK hfq hzq
        have m2 := dK hfq hmq
        have z1 := rH (ks.getD i 0) zr
        have z2 := xC (ks.getD i 0) mr
        have hmem : ks.getD i 0 ∈ ks := by rw [hgi]; exact List.getElem_mem hik
        obtain ⟨F0, hF0⟩ : ∃ F, svF ks i = F := ⟨_, rfl⟩
        obtain ⟨e0, he0⟩ : ∃ e, ev ks i = e := ⟨_, rfl⟩
        have k5 := fun h => IC (ks := ks) (i := i) hfq h
        have hrs := w6 ks i
        have hos := zX ks i
        have hds := zY i
        have hrl := zZ ks i
        have hol := D7 ks i
        have hdl := D8 i
        have hrz := oF ks i
        have hoz := pU ks i
        have hdz := pV i
        obtain ⟨f, hf⟩ : ∃ f, ks.getD i 0 = f := ⟨_, rfl⟩
        obtain ⟨RA, hRA⟩ : ∃ e, restA ks i = e := ⟨_, rfl⟩
        obtain ⟨OA, hOA⟩ : ∃ e, outA ks i = e := ⟨_, rfl⟩
        obtain ⟨DA, hDA⟩ : ∃ e, ordA i = e := ⟨_, rfl⟩
        rw [hf] at hfq q1 r1 m1 m2 z1 z2 hmem hrs hos k5
        rw [hF0, he0] at k5 ⊢
        rw [hRA] at hrs hrl hrz ⊢
        rw [hOA] at hos hoz hol ⊢
        rw [hDA] at hds hdz hdl ⊢
        (repeat (first | refine aD ?_ | refine a8 ?_ | ((first | refine aA q12x0 hX ?_ | refine a7 q12x0 hX mixed ?_ | refine aE ?_ | refine aB ?_ | refine aC ?_); (simp [go_sem, hil, q1]; try (refine ⟨by kernel_rfl, ?_⟩)))))
        first | refine aF (r1) rfl (by simp [go_sem]) rfl ?_ | refine aG (r1) rfl (by simp [go_sem]) rfl ?_
        try (simp [go_sem, hil, q1]; try (refine ⟨by kernel_rfl, ?_⟩))
        first | refine aR (fun hg => m1) rfl (by simp [go_sem]) rfl ?_ | refine aO (fun hg => m1) rfl (by simp [go_sem]) rfl ?_
        try (simp [go_sem, hil, q1]; try (refine ⟨by kernel_rfl, ?_⟩))
        first | refine aR (fun hg => m2) rfl (by simp [go_sem]) rfl ?_ | refine aO (fun hg => m2) rfl (by simp [go_sem]) rfl ?_
        try (simp [go_sem, hil, q1]; try (refine ⟨by kernel_rfl, ?_⟩))
        refine aH (b := decide (f < zr ∨ mr < f)) (by simp [go_sem, z1, z2]; try grind) (fun hd => ?_) (fun hd => ?_)
        · simp only [decide_eq_true_eq] at hd
          have e : V = .tup [.sl [], ii 1] := by rw [← hV]; exact if_pos (.inr (.inr ⟨f, hmem, by rw [hmr2, hzr2]; exact hd⟩))
          rw [e]
          (repeat (first | refine aD ?_ | refine a8 ?_ | ((first | refine aA q12x0 hX ?_ | refine a7 q12x0 hX mixed ?_ | refine aE ?_ | refine aB ?_ | refine aC ?_); (simp [go_sem]; try (refine ⟨by kernel_rfl, ?_⟩)))))
        · simp only [decide_eq_false_iff_not, not_or] at hd
          have hf0 : 0 ≤ f := by rw [hzr2]; exact Rat.not_lt.1 hd.1
          have hfm : f ≤ most := by rw [hmr2]; exact Rat.not_lt.1 hd.2
          obtain ⟨b1, b2⟩ := D6 (B := 4503599627370496) hf0 hfm
          have c1 := xI f.num f.den (iW hfq)
          have c2 := FZ (z := fl f) (by omega)
          have k3 := EX e0 (p := fl f) (by omega)
          have k4 := IB e0 hfq hf0 b2
          have k5 := k5 hf0
          obtain ⟨F1, hF1⟩ : ∃ F, svF ks (i + 1) = F := ⟨_, rfl⟩
          obtain ⟨e1, he1⟩ : ∃ e, ev ks (i + 1) = e := ⟨_, rfl⟩
          rw [hF1, he1] at k5
          have hrn : nth (RA ++ [frq (rs f)]) i = frq (rs f) := xR hrl
          have hri : (i : Int) < (RA.length : Int) + 1 := by omega
          have hri2 : i < RA.length + 1 := by omega
          (repeat (first | refine aD ?_ | refine a8 ?_ | ((first | refine aA q12x0 hX ?_ | refine a7 q12x0 hX mixed ?_ | refine aE ?_ | refine aB ?_ | refine aC ?_); (simp [go_sem, hil, q1]; try (refine ⟨by kernel_rfl, ?_⟩)))))
          first | refine aF (c1) rfl (by simp [go_sem]) rfl ?_ | refine aG (c1) rfl (by simp [go_sem]) rfl ?_
          try (simp [go_sem]; try (refine ⟨by kernel_rfl, ?_⟩))
          first | refine aF (c2) rfl (by simp [go_sem]) rfl ?_ | refine aG (c2) rfl (by simp [go_sem]) rfl ?_
          try (simp [go_sem]; try (refine ⟨by kernel_rfl, ?_⟩))
          (repeat (first | refine aD ?_ | refine a8 ?_ | ((first | refine aA q12x0 hX ?_ | refine a7 q12x0 hX mixed ?_ | refine aE ?_ | refine aB ?_ | refine aC ?_); (simp [go_sem]; try (refine ⟨by kernel_rfl, ?_⟩)))))
          (repeat refine And.intro (by first | omega | (unfold maxLen; omega) | kernel_rfl | (refine ⟨by first | omega | (unfold maxLen; omega), by first | omega | (unfold maxLen; omega)⟩) | grind) ?_)
          (repeat (first | refine aD ?_ | refine a8 ?_ | ((first | refine aA q12x0 hX ?_ | refine a7 q12x0 hX mixed ?_ | refine aE ?_ | refine aB ?_ | refine aC ?_); (simp [go_sem, hil, q1]; try (refine ⟨by kernel_rfl, ?_⟩)))))
          first | refine aM [0] (k3) (by simp [go_sem]) ?_ | refine aJ [0] (k3) (by simp [go_sem]) ?_ | refine aK [0] (k3) (by simp [go_sem]) ?_
          try (simp [go_sem]; try (refine ⟨by kernel_rfl, ?_⟩))
          first | refine aM [0] (k4) (by simp [go_sem]) ?_ | refine aJ [0] (k4) (by simp [go_sem]) ?_ | refine aK [0] (k4) (by simp [go_sem]) ?_
          try (simp [go_sem]; try (refine ⟨by kernel_rfl, ?_⟩))
          (repeat refine And.intro (by first | omega | (unfold maxLen; omega) | kernel_rfl | (refine ⟨by first | omega | (unfold maxLen; omega), by first | omega | (unfold maxLen; omega)⟩) | grind) ?_)
          (repeat (first | refine aD ?_ | refine a8 ?_ | ((first | refine aA q12x0 hX ?_ | refine a7 q12x0 hX mixed ?_ | refine aE ?_ | refine aB ?_ | refine aC ?_); (simp [go_sem, hrn, hri, hri2]; try (refine ⟨by kernel_rfl, ?_⟩)))))
          first | refine aM [0] (k5) (by simp [go_sem]) ?_ | refine aJ [0] (k5) (by simp [go_sem]) ?_ | refine aK [0] (k5) (by simp [go_sem]) ?_
          try (simp [go_sem]; try (refine ⟨by kernel_rfl, ?_⟩))
          (repeat refine And.intro (by first | omega | (unfold maxLen; omega) | kernel_rfl | (refine ⟨by first | omega | (unfold maxLen; omega), by first | omega | (unfold maxLen; omega)⟩) | grind) ?_)
          (repeat (first | refine aD ?_ | refine a8 ?_ | ((first | refine aA q12x0 hX ?_ | refine a7 q12x0 hX mixed ?_ | refine aE ?_ | refine aB ?_ | refine aC ?_); (simp [go_sem, wi]; try (refine ⟨by kernel_rfl, ?_⟩)))))
          refine ⟨i + 1, ⟨by omega, zW hp hf hf0 hfm⟩, by omega, ?_⟩
          · rw [hF1, he1, hrs, hos, hds]
            refine aI _ [.old 0 ⟨56, 1, [.agg [ii e1]]⟩, .old 1 ⟨41, 4, [fv F1]⟩, .old 2 ⟨41, 4, [frq zr]⟩, .old 3 ⟨41, 4, [frq mr]⟩, .old 4 ⟨24, 1, [.ow 5]⟩, .old 14 ⟨41, 4, RA ++ [frq (rs f)]⟩, .old 10 ⟨3, 1, OA ++ [ii (fl f)]⟩, .old 12 ⟨3, 1, DA ++ [ii (i : Int)]⟩] (by simp [go_sem, hrz, hoz, hdz]) ?_
            simp [go_sem]
      · have hin : i = ks.length := by omega
        rcases hT with rfl | ⟨x, T', rfl, hx⟩
        · simp at hb; omega
        · have q1 : nth (ks.map frq ++ fv x :: T') i = fv x := xR (by simp [hin])
          have hil : (i : Int) < (ks.length : Int) + ((T'.length : Int) + 1) := by simp at hb; omega
          have e : V = .tup [.sl [], ii 1] := by rw [← hV]; exact if_pos (.inr (.inl (by simp)))
          (repeat (first | refine aD ?_ | refine a8 ?_ | ((first | refine aA q12x0 hX ?_ | refine a7 q12x0 hX mixed ?_ | refine aE ?_ | refine aB ?_ | refine aC ?_); (simp [go_sem, hil, q1]; try (refine ⟨by kernel_rfl, ?_⟩)))))
          first | refine aF (hx) rfl (by simp [go_sem]) rfl ?_ | refine aG (hx) rfl (by simp [go_sem]) rfl ?_
          try (simp [go_sem, hil, q1]; try (refine ⟨by kernel_rfl, ?_⟩))
          try first | refine eR rfl ?_ | refine dT rfl ?_
          try (simp [go_sem, hil, q1]; try (refine ⟨by kernel_rfl, ?_⟩))
          try first | refine eR rfl ?_ | refine dT rfl ?_
          try (simp [go_sem, hil, q1]; try (refine ⟨by kernel_rfl, ?_⟩))
          refine aH (b := true) (by simp [go_sem]) (fun _ => ?_) (fun h => by cases h)
          rw [e]
          (repeat (first | refine aD ?_ | refine a8 ?_ | ((first | refine aA q12x0 hX ?_ | refine a7 q12x0 hX mixed ?_ | refine aE ?_ | refine aB ?_ | refine aC ?_); (simp [go_sem]; try (refine ⟨by kernel_rfl, ?_⟩)))))
    · simp only [decide_eq_false_iff_not] at hb
      have hin : i = ks.length := by omega
      have hT0 : T = [] := List.eq_nil_of_length_eq_zero (by omega)
      subst hin hT0
      have hcB : ¬ ((ks.length + ([] : List AV).length = 0 ∨ 12 < ks.length + ([] : List AV).length) ∨ cArg ks []) := fun h => by
        rcases h with h | h | ⟨k, hk, h⟩
        · exact hlen h
        · exact h rfl
        · obtain ⟨j, hj, rfl⟩ := List.getElem_of_mem hk
          have := hp j hj
          rw [List.getD_eq_getElem?_getD, List.getElem?_eq_getElem hj] at this
          have h1 : 0 ≤ ks[j] := this.1
          have h2 : ks[j] ≤ most := this.2
          rcases h with h | h
          · exact absurd h (Rat.not_lt.2 h1)
          · exact absurd h (Rat.not_lt.2 h2)
      by_cases hs : okS ks ks.length
      · have e1 : svF ks ks.length = frR (rsum ks ks.length) := if_pos hs
        have e2 : ev ks ks.length = 0 := if_pos hs
        have hsq := xQ hs
        obtain ⟨b1, b2⟩ := xP ks ks.length
        obtain ⟨b3, b4⟩ := D6 (B := (ks.length : Int)) b1 b2
        have hV2 : V = if rsum ks ks.length = ((fl (rsum ks ks.length) : Int) : Rat) then .tup [il (coinL ks), ii 0] else .tup [.sl [], ii 1] := by
          rw [← hV]; unfold coinV; rw [if_neg hcB, if_pos hs]
        have hcl : coinL ks = bumps (ks.map fl) ((srt (B.kf (ks.map rs)) (idxI ks.length)).take (fl (rsum ks ks.length)).toNat) := rfl
        have c1 := xI (rsum ks ks.length).num (rsum ks ks.length).den (iW hsq)
        have c2 := FZ (z := fl (rsum ks ks.length)) (by omega)
        have k3 := EX 0 (p := fl (rsum ks ks.length)) (by omega)
        have hlq : rq ((fl (rsum ks ks.length) : Int) : Rat) := by
          have := o6 (p := fl (rsum ks ks.length)) (q := 1) (by omega) (by decide) (by decide)
          rwa [kF] at this
        have m1 := dK hsq hlq
        have z1 := mE (rsum ks ks.length) ((fl (rsum ks ks.length) : Int) : Rat)
        have hrz := oF ks ks.length
        have hoz := pU ks ks.length
        have hdz := pV ks.length
        have hrf : restA ks ks.length = (ks.map rs).map frq := w7 ks
        have hof := A0 ks
        have hdf := A4 ks.length
        have hfq : ∀ v ∈ ks.map fl, 0 ≤ v ∧ v ≤ 4503599627370496 := fun v hv => by
          obtain ⟨k, hk, rfl⟩ := List.mem_map.1 hv
          obtain ⟨j, hj, rfl⟩ := List.getElem_of_mem hk
          have := hp j hj
          rw [List.getD_eq_getElem?_getD, List.getElem?_eq_getElem hj] at this
          exact D6 this.1 this.2
        have hrl : (ks.map rs).length = ks.length := by simp
        have hS := B.sortS_m (idxI ks.length) (ks.map rs) (vZ _) (fun i j hi hj hij => D3 _ i j hi hj hij) (fun x hx => by rw [hrl]; exact uI.1 hx) (by rw [uH]; omega) (by rw [hrl]; omega) (fun r hr => by
          obtain ⟨k, hk, rfl⟩ := List.mem_map.1 hr
          obtain ⟨j, hj, rfl⟩ := List.getElem_of_mem hk
          have := hp j hj
          rw [List.getD_eq_getElem?_getD, List.getElem?_eq_getElem hj] at this
          exact FY (hq _ hk) this.1)
        obtain ⟨O, hO⟩ : ∃ O, srt (B.kf (ks.map rs)) (idxI ks.length) = O := ⟨_, rfl⟩
        rw [hO] at hS hcl
        have hOl : O.length = ks.length := by rw [← hO, xN, uH]
        have hOm : ∀ x ∈ O, 0 ≤ x ∧ x < ks.length := fun x hx => by
          rw [← hO] at hx
          exact uI.1 ((kG _ _).mem_iff.1 hx)
        have hQl : (ks.map fl).length = ks.length := by simp
        obtain ⟨m, hm⟩ : ∃ m : Nat, (m : Int) = fl (rsum ks ks.length) := ⟨(fl (rsum ks ks.length)).toNat, by omega⟩
        have hmt : (fl (rsum ks ks.length)).toNat = m := by omega
        rw [hmt] at hcl
        rw [← hm] at c2 k3 m1 z1 hV2 b3 b4
        have c1 : Means false Tryz.prog 24 [frq (rsum ks ks.length)] (bigZ (m : Int)) := by rw [hm]; exact c1
        rw [e1, e2, hrf, hof, hdf]
        rw [hrf] at hrz
        rw [hof] at hoz
        rw [hdf] at hdz
        generalize ks.map rs = R at *
        generalize ks.map fl = Q at *
        generalize idxI ks.length = I at *
        generalize rsum ks ks.length = su at *
        (repeat (first | refine aD ?_ | refine a8 ?_ | ((first | refine aA q12x0 hX ?_ | refine a7 q12x0 hX mixed ?_ | refine aE ?_ | refine aB ?_ | refine aC ?_); (simp [go_sem]; try (refine ⟨by kernel_rfl, ?_⟩)))))
        refine aH (b := false) (by simp [go_sem]) (fun h => by cases h) (fun _ => ?_)
        (repeat (first | refine aD ?_ | refine a8 ?_ | ((first | refine aA q12x0 hX ?_ | refine a7 q12x0 hX mixed ?_ | refine aE ?_ | refine aB ?_ | refine aC ?_); (simp [go_sem]; try (refine ⟨by kernel_rfl, ?_⟩)))))
        first | refine aF (c1) rfl (by simp [go_sem]) rfl ?_ | refine aG (c1) rfl (by simp [go_sem]) rfl ?_
        try (simp [go_sem]; try (refine ⟨by kernel_rfl, ?_⟩))
        first | refine aF (c2) rfl (by simp [go_sem]) rfl ?_ | refine aG (c2) rfl (by simp [go_sem]) rfl ?_
        try (simp [go_sem]; try (refine ⟨by kernel_rfl, ?_⟩))
        (repeat (first | refine aD ?_ | refine a8 ?_ | ((first | refine aA q12x0 hX ?_ | refine a7 q12x0 hX mixed ?_ | refine aE ?_ | refine aB ?_ | refine aC ?_); (simp [go_sem]; try (refine ⟨by kernel_rfl, ?_⟩)))))
        first | refine aM [0] (k3) (by simp [go_sem]) ?_ | refine aJ [0] (k3) (by simp [go_sem]) ?_ | refine aK [0] (k3) (by simp [go_sem]) ?_
        try (simp [go_sem]; try (refine ⟨by kernel_rfl, ?_⟩))
        (repeat (first | refine aD ?_ | refine a8 ?_ | ((first | refine aA q12x0 hX ?_ | refine a7 q12x0 hX mixed ?_ | refine aE ?_ | refine aB ?_ | refine aC ?_); (simp [go_sem]; try (refine ⟨by kernel_rfl, ?_⟩)))))
        first | refine aF (m1) rfl (by simp [go_sem]) rfl ?_ | refine aG (m1) rfl (by simp [go_sem]) rfl ?_
        try (simp [go_sem]; try (refine ⟨by kernel_rfl, ?_⟩))
        refine aH (b := !decide (su = (((m : Nat) : Int) : Rat))) (by simp [go_sem, z1, bne]; try grind) (fun hd => ?_) (fun hd => ?_)
        · have e : V = .tup [.sl [], ii 1] := by rw [hV2]; exact if_neg (by simpa using hd)
          rw [e]
          (repeat (first | refine aD ?_ | refine a8 ?_ | ((first | refine aA q12x0 hX ?_ | refine a7 q12x0 hX mixed ?_ | refine aE ?_ | refine aB ?_ | refine aC ?_); (simp [go_sem]; try (refine ⟨by kernel_rfl, ?_⟩)))))
        simp only [Bool.not_eq_false', decide_eq_true_eq] at hd
        have e : V = .tup [il (coinL ks), ii 0] := by rw [hV2]; exact if_pos hd
        refine iB (aI [(8, .ow 2), (9, .ow 1), (10, .el 0 1 0 0), (15, ii (m : Int))] [.old 4 ⟨24, 1, [.sl (R.map frq)]⟩, .old 7 ⟨3, 1, I.map ii⟩, .old 6 ⟨3, 1, Q.map ii⟩] (by simp [go_sem, hrz]) (by simp [go_sem])) ?_
        simp only [List.map_cons, List.map_nil, Src.cell]
        have hmO : m ≤ O.length := by omega
        have hmO2 : (m : Int) ≤ (O.length : Int) := by omega
        (repeat (first | refine aD ?_ | refine a8 ?_ | ((first | refine aA q12x0 hX ?_ | refine a7 q12x0 hX mixed ?_ | refine aE ?_ | refine aB ?_ | refine aC ?_); (simp [go_sem]; try (refine ⟨by kernel_rfl, ?_⟩)))))
        first | refine aM [1, 0] (hS) (by simp [go_sem]) ?_ | refine aJ [1, 0] (hS) (by simp [go_sem]) ?_ | refine aK [1, 0] (hS) (by simp [go_sem]) ?_
        try (simp [go_sem]; try (refine ⟨by kernel_rfl, ?_⟩))
        (repeat (first | refine aD ?_ | refine a8 ?_ | ((first | refine aA q12x0 hX ?_ | refine a7 q12x0 hX mixed ?_ | refine aE ?_ | refine aB ?_ | refine aC ?_); (simp [go_sem, hmO, hmO2]; try (refine ⟨by kernel_rfl, ?_⟩)))))
        refine aQ (fun j : Nat => ⟨mkE [(8, .ow 0), (114, .wn 1 1 0 m), (115, ii m), (116, ii j)], [rowI (bumps Q (O.take j)), rowI O]⟩) (fun j => j ≤ m) (fun j => m - j) 0 ?_ ?_ ?_
        · refine aI _ [.old 2 ⟨3, 1, Q.map ii⟩, .old 1 ⟨3, 1, O.map ii⟩] (by simp [go_sem, bumps]) ?_
          simp [go_sem, bumps]
        · omega
        · intro j hj
          have hbl := pT (O.take j) Q
          (repeat (first | refine aD ?_ | refine a8 ?_ | ((first | refine aA q12x0 hX ?_ | refine a7 q12x0 hX mixed ?_ | refine aE ?_ | refine aB ?_ | refine aC ?_); (simp [go_sem]; try (refine ⟨by kernel_rfl, ?_⟩)))))
          refine aH (b := decide (j < m)) (by simp [go_sem]) (fun hc => ?_) (fun hc => ?_)
          · simp at hc
            have hjO : j < O.length := by omega
            have hx := hOm O[j] (List.getElem_mem hjO)
            have hbs := w5 (L := Q) hjO
            obtain ⟨p, hp⟩ : ∃ p : Nat, O[j] = (p : Int) := ⟨O[j].toNat, by omega⟩
            obtain ⟨B, hB⟩ : ∃ B, bumps Q (O.take j) = B := ⟨_, rfl⟩
            rw [hp] at hx hbs
            have hbd := uJ (O.take j) hfq
            rw [hB] at hbl hbs hbd ⊢
            have hpB : p < B.length := by omega
            have hbd : 0 ≤ B[p] ∧ B[p] ≤ 4503599627370496 + 12 := by
              have := hbd B[p] (List.getElem_mem _)
              rw [List.length_take] at this
              omega
            have hbe : bump B (p : Int) = B.set p (B[p] + 1) := by
              unfold bump
              rw [Int.toNat_natCast, List.getD_eq_getElem?_getD, List.getElem?_eq_getElem hpB]; rfl
            (repeat (first | refine aD ?_ | refine a8 ?_ | ((first | refine aA q12x0 hX ?_ | refine a7 q12x0 hX mixed ?_ | refine aE ?_ | refine aB ?_ | refine aC ?_); (simp [go_sem, hc, hjO, hp, hpB]; (try simp (disch := omega) only [w64, td, tm]); try (refine ⟨by kernel_rfl, ?_⟩)))))
            (repeat refine And.intro (by first | omega | (unfold maxLen; omega) | kernel_rfl | (refine ⟨by first | omega | (unfold maxLen; omega), by first | omega | (unfold maxLen; omega)⟩) | grind) ?_)
            (repeat (first | refine aD ?_ | refine a8 ?_ | ((first | refine aA q12x0 hX ?_ | refine a7 q12x0 hX mixed ?_ | refine aE ?_ | refine aB ?_ | refine aC ?_); (simp [go_sem, hc, hjO, hp, hpB]; (try simp (disch := omega) only [w64, td, tm]); try (refine ⟨by kernel_rfl, ?_⟩)))))
            refine ⟨j + 1, by omega, by omega, ?_⟩
            rw [hbs, hbe]
            refine aI _ [.old 0 ⟨3, 1, (B.set p (B[p] + 1)).map ii⟩, .old 1 ⟨3, 1, O.map ii⟩] (by simp [go_sem]) ?_
            simp [go_sem]
            try omega
          · have : j = m := by simp at hc; omega
            subst this
            (repeat (first | refine aD ?_ | refine a8 ?_ | ((first | refine aA q12x0 hX ?_ | refine a7 q12x0 hX mixed ?_ | refine aE ?_ | refine aB ?_ | refine aC ?_); (simp [go_sem]; try (refine ⟨by kernel_rfl, ?_⟩)))))
            rw [e, hcl]
            (repeat (first | refine aD ?_ | refine a8 ?_ | ((first | refine aA q12x0 hX ?_ | refine a7 q12x0 hX mixed ?_ | refine aE ?_ | refine aB ?_ | refine aC ?_); (simp [go_sem]; try (refine ⟨by kernel_rfl, ?_⟩)))))
      · have e2 : ev ks ks.length = 6 := if_neg hs
        have e : V = .tup [.sl [], ii 6] := by
          rw [← hV]; unfold coinV
          rw [if_neg (hcB), if_neg hs]
        rw [e2, e]
        (repeat (first | refine aD ?_ | refine a8 ?_ | ((first | refine aA q12x0 hX ?_ | refine a7 q12x0 hX mixed ?_ | refine aE ?_ | refine aB ?_ | refine aC ?_); (simp [go_sem]; try (refine ⟨by kernel_rfl, ?_⟩)))))
        refine aH (b := true) (by simp [go_sem]) (fun _ => ?_) (fun h => by cases h)
        (repeat (first | refine aD ?_ | refine a8 ?_ | ((first | refine aA q12x0 hX ?_ | refine a7 q12x0 hX mixed ?_ | refine aE ?_ | refine aB ?_ | refine aC ?_); (simp [go_sem]; try (refine ⟨by kernel_rfl, ?_⟩)))))
end Go.Proofs.YthibhamepjhfjaaGreatDoor

namespace Go.Proofs.YthibhamepjhfjaaGreatDoor
open Go.RowKit Go.Ab
attribute [local irreducible] AWP Go.Ab.Sub Means MeansH MeansX CallK CallG CallT CallGT CallU
def allQ (own : List Int) (S : List (List Int)) : List Rat := (List.range own.length).map (allX own S)
def keptQ (own : List Int) (S : List (List Int)) : List Rat := (List.range own.length).map (keptX own S)
theorem oG (own : List Int) (S : List (List Int)) : (allQ own S).length = own.length := by simp [allQ]
theorem fL (own : List Int) (S : List (List Int)) : (keptQ own S).length = own.length := by simp [keptQ]
theorem iQ {own : List Int} {S : List (List Int)} {k : Nat} (h : k < own.length) : (allQ own S).getD k 0 = allX own S k := by
  simp [allQ, List.getD_eq_getElem?_getD, h]
theorem dY {own : List Int} {S : List (List Int)} {k : Nat} (h : k < own.length) : (keptQ own S).getD k 0 = keptX own S k := by
  simp [keptQ, List.getD_eq_getElem?_getD, h]
variable {own : List Int} {S : List (List Int)}
abbrev partR (S : List (List Int)) (k : Nat) : Rat := ((1000 - sumI (S.getD k []) : Int) : Rat) / ((1000 : Int) : Rat)
theorem EZ (h : PV own S) {i : Nat} (hi : i < own.length) : 0 < 1000 - sumI (S.getD i []) ∧ 1000 - sumI (S.getD i []) ≤ 1000 := by
  have hS : i < S.length := by rw [h.len]; exact hi
  have hg : S.getD i [] = S[i] := by rw [List.getD_eq_getElem?_getD, List.getElem?_eq_getElem hS]; rfl
  have hpr := dZ h.toPR (List.getElem_mem hS)
  have hsb := eA S[i] S[i].length hpr.2
  rw [List.take_length] at hsb
  have hlt := h.lt S[i] (List.getElem_mem hS)
  rw [hg]; omega
theorem xS (h : PV own S) {i : Nat} (hi : i < own.length) : bt 10 (partR S i).num ∧ bt 10 (partR S i).den := by
  have := EZ h hi
  exact xD (by decide) (fC (by omega)) (fC (by decide))
theorem HC (h : PV own S) (h6 : own.length ≤ 6) {k : Nat} (hk : k < own.length) : okMul (allX own S k) (partR S k) := by
  obtain ⟨h1, h2⟩ := qD h h6 hk
  obtain ⟨h3, h4⟩ := xS h hk
  exact cY h1 h2 h3 h4 (by omega) (by omega)
theorem F2 (h : PV own S) (h6 : own.length ≤ 6) {k : Nat} (hk : k < own.length) : bt 320 (keptX own S k).num ∧ bt 80 (keptX own S k).den := by
  obtain ⟨h1, h2⟩ := qD h h6 hk
  obtain ⟨h3, h4⟩ := xS h hk
  exact CI h1 h2 h3 h4
theorem D9 (h : PV own S) (h6 : own.length ≤ 6) : Fit (poolM own S) own.length := AR (gK h) (sB h.toPR) (.inl h6)
theorem j6 {k m : Nat} {r : Rat} (h : bt k r.num ∧ bt m r.den) (hk : k ≤ 1199) (hm : m ≤ 1199) : rq r := s6 h.1 h.2 hk hm
theorem kH (h : PV own S) (h6 : own.length ≤ 6) : ∀ x ∈ allQ own S, bt 310 x.num ∧ bt 70 x.den := fun x hx => by
  obtain ⟨k, hk, rfl⟩ := List.mem_map.1 hx
  exact qD h h6 (by simpa using hk)
theorem iR (h : PV own S) (h6 : own.length ≤ 6) : ∀ x ∈ keptQ own S, bt 320 x.num ∧ bt 80 x.den := fun x hx => by
  obtain ⟨k, hk, rfl⟩ := List.mem_map.1 hx
  exact F2 h h6 (by simpa using hk)
theorem gB (h : PV own S) (h6 : own.length ≤ 6) : Means false Tryz.prog 10 [il own, ill S] (.tup [fql (allQ own S), fql (keptQ own S), ii 0]) := by
  have := xB own S h (D9 h h6) fun k hk => HC h h6 hk
  have e1 : (allQ own S).map frq = allL own S := by unfold allQ; rw [List.map_map]; rfl
  have e2 : (keptQ own S).map frq = keptL own S := by unfold keptQ; rw [List.map_map]; rfl
  unfold fql
  rw [e1, e2]; exact this
theorem pW (own : List Int) (S : List (List Int)) (hl : own.length ≤ 9223372036854775807) (hS : S.length ≤ 9223372036854775807) (hr : ∀ l ∈ S, l.length ≤ 9223372036854775807) (hb : badP own S ≠ 0) : Means false Tryz.prog 10 [il own, ill S] (.tup [.sl [], .sl [], ii (badP own S)]) := by
  have c1 := jE own S hl hS hr
  generalize badP own S = e at *
  refine aN false 60 [.tmp 4, .tmp 5, .tmp 6] Tryz.func10 rfl rfl rfl (by simp) (by decide) rfl fun X hX => ?_
  (repeat (first | refine aD ?_ | refine a8 ?_ | ((first | refine aA q12x3 hX ?_ | refine a7 q12x3 hX mixed ?_ | refine aE ?_ | refine aB ?_ | refine aC ?_); (simp [go_sem]; try (refine ⟨by kernel_rfl, ?_⟩)))))
  first | refine aF (c1) rfl (by simp [go_sem]) rfl ?_ | refine aG (c1) rfl (by simp [go_sem]) rfl ?_
  try (simp [go_sem]; try (refine ⟨by kernel_rfl, ?_⟩))
  (repeat (first | refine aD ?_ | refine a8 ?_ | ((first | refine aA q12x3 hX ?_ | refine a7 q12x3 hX mixed ?_ | refine aE ?_ | refine aB ?_ | refine aC ?_); (simp [go_sem]; try (refine ⟨by kernel_rfl, ?_⟩)))))
  refine aH (b := true) (by simp [go_sem, hb]) (fun _ => ?_) (fun h => by cases h)
  (repeat (first | refine aD ?_ | refine a8 ?_ | ((first | refine aA q12x3 hX ?_ | refine a7 q12x3 hX mixed ?_ | refine aE ?_ | refine aB ?_ | refine aC ?_); (simp [go_sem]; try (refine ⟨by kernel_rfl, ?_⟩)))))
theorem A5 (h : PV own S) : chkQ own S (allQ own S) (keptQ own S) := fun i hi => by
  rw [iQ hi, dY hi]
  refine ⟨?_, rfl⟩
  rw [qC h hi]
  unfold psum
  congr 1
  exact aS fun t ht => by rw [iQ ht]; rfl
theorem G1 {r : Rat} {m : Nat} (h0 : 0 ≤ r) (hm : bt m r.den) : bt m (rs r).num ∧ bt m (rs r).den := by
  have hd : 0 < (r.den : Int) := by have := r.den_pos; omega
  have e : rs r * ((r.den : Int) : Rat) = ((r.num % (r.den : Int) : Int) : Rat) := by
    have h1 : (r.num % (r.den : Int) : Int) = r.num - fl r * (r.den : Int) := by unfold fl; rw [Int.emod_def, Int.mul_comm]
    rw [h1, Rat.intCast_sub, Rat.intCast_mul, cB r]
    unfold rs; grind
  refine rI (by omega) e ?_ hm
  have h1 := Int.emod_nonneg r.num (show (r.den : Int) ≠ 0 by omega)
  have h2 := Int.emod_lt_of_pos r.num hd
  unfold bt at *
  omega
theorem xT {ks : List Rat} {m : Nat} (h : ∀ k ∈ ks, 0 ≤ k ∧ bt m k.den) : ∀ i, i ≤ ks.length → bt ((m + 1) * i) (rsum ks i).num ∧ bt (m * i) (rsum ks i).den
  | 0, _ => ⟨by show bt _ ((0 : Rat)).num; unfold bt; simp, by show bt _ ((((0 : Rat)).den : Nat) : Int); unfold bt; simp⟩
  | i + 1, hi => by
    obtain ⟨h1, h2⟩ := xT h i (by omega)
    have hg : ks.getD i 0 = ks[i] := by rw [List.getD_eq_getElem?_getD, List.getElem?_eq_getElem (by omega)]; rfl
    obtain ⟨h3, h4⟩ := h ks[i] (List.getElem_mem _)
    obtain ⟨h5, h6⟩ := G1 h3 h4
    rw [iP, hg]
    have := CJ (c := (m + 1) * i + m) h1 h2 h5 h6 (by omega) (by rw [Nat.add_mul]; omega)
    refine ⟨?_, ?_⟩
    · have e : (m + 1) * i + m + 1 = (m + 1) * (i + 1) := by rw [Nat.mul_add]; omega
      rw [← e]; exact this.1
    · rw [Nat.mul_add, Nat.mul_one]; exact this.2
theorem ID {ks : List Rat} (h : ∀ k ∈ ks, 0 ≤ k ∧ bt 80 k.den) (hl : ks.length ≤ 7) : okS ks ks.length := fun j hj => by
  obtain ⟨h1, h2⟩ := xT h j (by omega)
  have hg : ks.getD j 0 = ks[j] := by rw [List.getD_eq_getElem?_getD, List.getElem?_eq_getElem (by omega)]; rfl
  obtain ⟨h3, h4⟩ := h ks[j] (List.getElem_mem _)
  obtain ⟨h5, h6⟩ := G1 h3 h4
  rw [hg]
  exact s7 h1 h2 h5 h6 (by omega) (by omega) (by omega)
theorem xU {ks : List Rat} (h : ∀ k ∈ ks, (0 ≤ k ∧ k ≤ most) ∧ bt 320 k.num ∧ bt 80 k.den) (h0 : 0 < ks.length) (hl : ks.length ≤ 7) (hs : rsum ks ks.length = ((fl (rsum ks ks.length) : Int) : Rat)) : Means false Tryz.prog 12 [fql ks] (.tup [il (coinL ks), ii 0]) := by
  have hc := EY ks [] (fun k hk => j6 (h k hk).2 (by omega) (by omega)) (.inl rfl) (by simp; omega)
  rw [List.append_nil] at hc
  have e : coinV ks [] = .tup [il (coinL ks), ii 0] := by
    unfold coinV
    rw [if_neg, if_pos (ID (fun k hk => ⟨(h k hk).1.1, (h k hk).2.2⟩) hl), if_pos hs]
    rintro (h1 | h1 | ⟨k, hk, h1 | h1⟩)
    · simp only [List.length_nil] at h1; omega
    · exact h1 rfl
    · exact absurd h1 (Rat.not_lt.2 (h k hk).1.1)
    · exact absurd h1 (Rat.not_lt.2 (h k hk).1.2)
  rwa [e] at hc
end Go.Proofs.YthibhamepjhfjaaGreatDoor

namespace Go.Proofs.YthibhamepjhfjaaGreatDoor
open Go.RowKit Go.Ab
theorem DB {P : Program} {f : FuncId} {fr : Bool} {H : List Cell} {largs args2 : List AV} {rv : Value} (l : List Nat) (h : Means fr P f args2 (.v rv)) (hf : frzOK H l) (ha : largs.map (argA (frzRows H l)) = args2) (ho : args2.all AV.argOK = true) : MeansH P f H largs (.v rv) H := by
  subst ha
  intro w M loc vs hM hgl hH hl hvs
  let X : Ctx := ⟨w, M, 0, blks H loc, loc, hgl, fun p hp hb => eE hH hb (hgl.1 p hp).1, fun g hg hb => eE hH hb (hgl.2 g hg).1⟩
  let a0 : Act := { tmps := #[], defers := [] }
  have hrr : RR X M loc ⟨argE 0 [], H⟩ a0 w := by
    refine ⟨fun s => ?_, Nat.zero_le _, rfl, rfl, fun id o ho => (hH.obj id o ho).imp fun b hb => .inr hb, hH.sep, fun id m hm => (hH.mobj id m hm).imp fun b hb => .inr hb, hH.msep, ⟨rfl, rfl, rfl, Nat.le_refl _, fun _ _ _ => rfl⟩, fun b hb => ⟨hM b hb, .inl hb⟩, fun b hb => hb, fun b hb => hM b hb, hH.one, fun s => ?_⟩
    · show Rep w M loc _ (argE 0 [] s)
      rw [eQ (Nat.zero_le _)]
      exact (RepZ.bad _).rep
    · show (argE 0 [] s).idLt H.length
      rw [eQ (Nat.zero_le _)]; trivial
  obtain ⟨M1, hM1, hr1⟩ := RR.frzRows l hrr hf
  have hM2 : ∀ b, M1 b → b < w.heap.size := fun b hb => (hr1.zone b hb).1
  have hz : ∀ (j : Nat) (x : Value) (e : AV), vs[j]? = some x → (largs.map (argA (frzRows H l)))[j]? = some e → RepZ w (fun b => b < w.heap.size) x e := fun j x e h1 h2 => by
    rw [List.getElem?_map] at h2
    cases h3 : largs[j]? with
    | none => rw [h3] at h2; cases h2
    | some e0 =>
      rw [h3] at h2
      obtain rfl : argA (frzRows H l) e0 = e := by simpa using h2
      obtain ⟨h4, h5⟩ := hvs j x e0 h1 h3
      have h6 : Rep w M1 loc x e0 := Rep.mono (n := H.length) (fun _ _ => rfl) hM1 (fun _ _ => rfl) h4 h5
      refine f0 hr1 hM2 h6 (List.all_eq_true.1 ho _ (List.mem_map.2 ⟨e0, List.mem_of_getElem? h3, rfl⟩)) fun id o _ e2 g hg => ?_
      obtain ⟨xs, hown, _⟩ := (hr1.obj id o e2).own
      exact (hown.lt g hg).2
  refine (h (fun b => b < w.heap.size) w vs (fun _ h => h) (hgl.mono (fun _ _ => rfl) fun b hb => hM2 b (hM1 b hb)) (by simp [hl]) hz).mono fun e w' ⟨x, he, hb, hx⟩ => ?_
  have hxr : x = rv := (RepZ.rep (loc := loc) hx).v_inv
  subst hxr
  exact ⟨x, M, loc, he, lA hM hH hb, ⟨hb.os, hb.tape, hb.output, hb.size, fun k hk _ => hb.block k hk⟩, fun _ h => h, fun b hb' => ⟨Nat.lt_of_lt_of_le (hM b hb') hb.size, .inl hb'⟩, fun _ _ => rfl, (RepZ.v x).rep, trivial, Nat.le_refl _⟩
end Go.Proofs.YthibhamepjhfjaaGreatDoor

namespace Go.Proofs.YthibhamepjhfjaaGreatDoor
open Go.RowKit Go.Ab
attribute [local irreducible] AWP Go.Ab.Sub Means MeansH MeansX CallK CallG CallT CallGT CallU
theorem DC (a b : List Int) (hla : a.length ≤ 9223372036854775807) (hlb : b.length ≤ 9223372036854775807) : Means false Tryz.prog 15 [il a, il b] (bb (decide (a = b))) := by
  refine aN false 26 [.tmp 4] Tryz.func15 rfl rfl rfl (by simp) (by decide) rfl fun X hX => ?_
  by_cases hl : a.length = b.length
  · (repeat (first | refine aD ?_ | refine a8 ?_ | ((first | refine aA q12x2 hX ?_ | refine a7 q12x2 hX mixed ?_ | refine aE ?_ | refine aB ?_ | refine aC ?_); (simp [go_sem, hl]; try (refine ⟨by kernel_rfl, ?_⟩)))))
    refine aH (b := false) (by simp [go_sem, hl]) (fun hb => by cases hb) (fun _ => ?_)
    (repeat (first | refine aD ?_ | refine a8 ?_ | ((first | refine aA q12x2 hX ?_ | refine a7 q12x2 hX mixed ?_ | refine aE ?_ | refine aB ?_ | refine aC ?_); (simp [go_sem]; try (refine ⟨by kernel_rfl, ?_⟩)))))
    refine aQ (fun n : Nat => ⟨mkE [(0, il a), (1, il b), (5, ii n)], []⟩) (fun n => n ≤ a.length ∧ a.take n = b.take n) (fun n => a.length - n) 0 ?_ ?_ ?_
    · refine aI _ [] (by simp [go_sem]) ?_
      simp [go_sem]
    · exact ⟨Nat.zero_le _, by simp⟩
    · rintro n ⟨hn, he⟩
      (repeat (first | refine aD ?_ | refine a8 ?_ | ((first | refine aA q12x2 hX ?_ | refine a7 q12x2 hX mixed ?_ | refine aE ?_ | refine aB ?_ | refine aC ?_); (simp [go_sem]; try (refine ⟨by kernel_rfl, ?_⟩)))))
      refine aH (b := decide (n < a.length)) (by simp [go_sem]) (fun hd2 => ?_) (fun hd2 => ?_)
      · simp at hd2
        have h2 : n < b.length := by omega
        (repeat (first | refine aD ?_ | refine a8 ?_ | ((first | refine aA q12x2 hX ?_ | refine a7 q12x2 hX mixed ?_ | refine aE ?_ | refine aB ?_ | refine aC ?_); (simp [go_sem, hd2, h2]; (try simp (disch := omega) only [w64, td, tm]); try (refine ⟨by kernel_rfl, ?_⟩)))))
        (repeat refine And.intro (by first | omega | (unfold maxLen; omega) | kernel_rfl | (refine ⟨by first | omega | (unfold maxLen; omega), by first | omega | (unfold maxLen; omega)⟩) | grind) ?_)
        try (simp [go_sem, hd2, h2]; try (refine ⟨by kernel_rfl, ?_⟩))
        refine aH (b := decide (a[n] ≠ b[n])) (by simp [go_sem, hd2, h2]; try omega) (fun hc => ?_) (fun hc => ?_)
        · simp only [decide_eq_true_eq] at hc
          have hne : ¬ a = b := fun e => hc (by simp only [e])
          (repeat (first | refine aD ?_ | refine a8 ?_ | ((first | refine aA q12x2 hX ?_ | refine a7 q12x2 hX mixed ?_ | refine aE ?_ | refine aB ?_ | refine aC ?_); (simp [go_sem, hne]; try (refine ⟨by kernel_rfl, ?_⟩)))))
        · simp at hc
          (repeat (first | refine aD ?_ | refine a8 ?_ | ((first | refine aA q12x2 hX ?_ | refine a7 q12x2 hX mixed ?_ | refine aE ?_ | refine aB ?_ | refine aC ?_); (simp [go_sem]; (try simp (disch := omega) only [w64, td, tm]); try (refine ⟨by kernel_rfl, ?_⟩)))))
          refine ⟨n + 1, ⟨by omega, ?_⟩, by omega, ?_⟩
          · rw [List.take_succ_eq_append_getElem hd2, List.take_succ_eq_append_getElem h2, he, hc]
          · refine aI _ [] (by simp [go_sem]) ?_
            simp [go_sem]
      · have hnl : n = a.length := by simp at hd2; omega
        subst hnl
        have hab : a = b := by rwa [List.take_length, hl, List.take_length] at he
        (repeat (first | refine aD ?_ | refine a8 ?_ | ((first | refine aA q12x2 hX ?_ | refine a7 q12x2 hX mixed ?_ | refine aE ?_ | refine aB ?_ | refine aC ?_); (simp [go_sem, hab]; try (refine ⟨by kernel_rfl, ?_⟩)))))
  · have hne : ¬ a = b := fun e => hl (by rw [e])
    (repeat (first | refine aD ?_ | refine a8 ?_ | ((first | refine aA q12x2 hX ?_ | refine a7 q12x2 hX mixed ?_ | refine aE ?_ | refine aB ?_ | refine aC ?_); (simp [go_sem, hl]; try (refine ⟨by kernel_rfl, ?_⟩)))))
    refine aH (b := true) (by simp [go_sem, hl]; try omega) (fun _ => ?_) (fun hb => by cases hb)
    (repeat (first | refine aD ?_ | refine a8 ?_ | ((first | refine aA q12x2 hX ?_ | refine a7 q12x2 hX mixed ?_ | refine aE ?_ | refine aB ?_ | refine aC ?_); (simp [go_sem, hne]; try (refine ⟨by kernel_rfl, ?_⟩)))))
def txts : List Rat → List UInt8
  | [] => []
  | r :: l => ftxt r.num r.den ++ (32 :: txts l)
theorem pX : ∀ (l : List Rat) (r : Rat), txts (l ++ [r]) = txts l ++ ftxt r.num r.den ++ [32]
  | [], r => by simp [txts]
  | a :: l, r => by
    show ftxt a.num a.den ++ (32 :: txts (l ++ [r])) = ftxt a.num a.den ++ (32 :: txts l) ++ ftxt r.num r.den ++ [32]
    rw [pX l r]; simp
theorem uM {r : Rat} (h : rq r) : (ftxt r.num r.den).length ≤ 2000 := by
  have h1 := mH h.1
  have h2 := mH h.2
  unfold ftxt
  simp only [List.length_append, List.length_cons]
  omega
theorem uN : ∀ {l : List Rat}, (∀ r ∈ l, rq r) → (txts l).length ≤ 2001 * l.length
  | [], _ => by simp [txts]
  | a :: l, h => by
    have h1 := uM (h a (by simp))
    have h2 := uN (l := l) fun r hr => h r (by simp [hr])
    simp only [txts, List.length_append, List.length_cons]; omega
set_option maxHeartbeats 4000000 in
theorem iS (ks : List Rat) (hq : ∀ k ∈ ks, rq k) (hl : ks.length ≤ 1000) : Means false Tryz.prog 27 [fql ks] (sb (txts ks)) := by
  refine aN false 20 [.tmp 2] Tryz.func27 rfl rfl rfl (by simp) (by decide) rfl fun X hX => ?_
  (repeat (first | refine aD ?_ | refine a8 ?_ | ((first | refine aA q12x4 hX ?_ | refine a7 q12x4 hX mixed ?_ | refine aE ?_ | refine aB ?_ | refine aC ?_); (simp [go_sem]; try (refine ⟨by kernel_rfl, ?_⟩)))))
  refine aQ (fun i : Nat => ⟨mkE [(0, fql ks), (3, sb (txts (ks.take i))), (4, ii i)], []⟩) (fun i => i ≤ ks.length) (fun i => ks.length - i) 0 ?_ ?_ ?_
  · refine aI _ [] (by simp [go_sem]) ?_
    simp [go_sem, txts]
  · omega
  · intro i hi
    (repeat (first | refine aD ?_ | refine a8 ?_ | ((first | refine aA q12x4 hX ?_ | refine a7 q12x4 hX mixed ?_ | refine aE ?_ | refine aB ?_ | refine aC ?_); (simp [go_sem]; try (refine ⟨by kernel_rfl, ?_⟩)))))
    refine aH (b := decide (i < ks.length)) (by simp [go_sem]) (fun hb => ?_) (fun hb => ?_)
    · simp only [decide_eq_true_eq] at hb
      have q1 := cJ hb
      have hg : ks.getD i 0 = ks[i] := by rw [List.getD_eq_getElem?_getD, List.getElem?_eq_getElem hb]; rfl
      rw [hg] at q1
      have hkq := hq ks[i] (List.getElem_mem hb)
      have c1 := H5 ks[i].num ks[i].den hkq.1 hkq.2
      rw [if_pos (iW hkq)] at c1
      have l1 := uM hkq
      have l2 := uN (l := ks.take i) fun r hr => hq r (List.mem_of_mem_take hr)
      rw [List.length_take] at l2
      have e : txts (ks.take (i + 1)) = txts (ks.take i) ++ (ftxt ks[i].num ks[i].den ++ [32]) := by
        rw [List.take_succ_eq_append_getElem hb, pX, List.append_assoc]
      have wi := w64 (x := (i : Int) + 1) (by omega) (by omega)
      (repeat (first | refine aD ?_ | refine a8 ?_ | ((first | refine aA q12x4 hX ?_ | refine a7 q12x4 hX mixed ?_ | refine aE ?_ | refine aB ?_ | refine aC ?_); (simp [go_sem, q1, hb]; try (refine ⟨by kernel_rfl, ?_⟩)))))
      first | refine aF (c1) rfl (by simp [go_sem]) rfl ?_ | refine aG (c1) rfl (by simp [go_sem]) rfl ?_
      try (simp [go_sem]; try (refine ⟨by kernel_rfl, ?_⟩))
      refine ⟨by unfold maxLen; omega, ?_⟩
      try (simp [go_sem]; try (refine ⟨by kernel_rfl, ?_⟩))
      refine ⟨by unfold maxLen; omega, ?_⟩
      (repeat (first | refine aD ?_ | refine a8 ?_ | ((first | refine aA q12x4 hX ?_ | refine a7 q12x4 hX mixed ?_ | refine aE ?_ | refine aB ?_ | refine aC ?_); (simp [go_sem, wi]; try (refine ⟨by kernel_rfl, ?_⟩)))))
      refine ⟨i + 1, by omega, by omega, ?_⟩
      rw [e]
      refine aI _ [] (by simp [go_sem]) ?_
      simp [go_sem]
    · have : i = ks.length := by simp at hb; omega
      subst this
      rw [List.take_length]
      (repeat (first | refine aD ?_ | refine a8 ?_ | ((first | refine aA q12x4 hX ?_ | refine a7 q12x4 hX mixed ?_ | refine aE ?_ | refine aB ?_ | refine aC ?_); (simp [go_sem]; try (refine ⟨by kernel_rfl, ?_⟩)))))
abbrev p1 : List Int × List (List Int) := ([100, 50], [[0, 500], [0, 0]])
abbrev p2 : List Int × List (List Int) := ([100, 0], [[0, 500], [500, 0]])
abbrev p3 : List Int × List (List Int) := ([1, 1, 1], [[0, 999, 0], [0, 0, 999], [999, 0, 0]])
abbrev p4 : List Int × List (List Int) := ([1, 1], [[0, 1000], [0, 0]])
theorem F3 {own : List Int} {S : List (List Int)} (h : ∀ i, i < own.length → ∀ j, j < own.length → 0 ≤ sO S i j ∧ sO S i j ≤ 1000) : ∀ i j, i < own.length → j < own.length → 0 ≤ sO S i j ∧ sO S i j ≤ 1000 := fun i j hi hj => h i hi j hj
theorem pv1 : PV p1.1 p1.2 := ⟨⟨by decide, by decide, by decide, by decide, by decide, F3 (by decide), by decide⟩, by decide⟩
theorem pv2 : PV p2.1 p2.2 := ⟨⟨by decide, by decide, by decide, by decide, by decide, F3 (by decide), by decide⟩, by decide⟩
theorem pv3 : PV p3.1 p3.2 := ⟨⟨by decide, by decide, by decide, by decide, by decide, F3 (by decide), by decide⟩, by decide⟩
theorem pb4 : badP p4.1 p4.2 = 23 := by
  have h1 : PR p4.1 p4.2 := ⟨by decide, by decide, by decide, by decide, by decide, F3 (by decide), by decide⟩
  have h2 : ¬ PV p4.1 p4.2 := fun h => absurd (h.lt [0, 1000] (by decide)) (by decide)
  unfold badP; rw [if_pos h1, if_neg h2]
theorem IE : allQ p1.1 p1.2 = [100, 100] := by decide +kernel
theorem G2 : keptQ p1.1 p1.2 = [50, 100] := by decide +kernel
theorem IF : allQ p2.1 p2.2 = [400 / 3, 200 / 3] := by decide +kernel
theorem G3 : keptQ p2.1 p2.2 = [200 / 3, 100 / 3] := by decide +kernel
theorem IG : allQ p3.1 p3.2 = [1000, 1000, 1000] := by decide +kernel
theorem G4 : keptQ p3.1 p3.2 = [1, 1, 1] := by decide +kernel
abbrev tx (l : List Nat) : List UInt8 := l.map UInt8.ofNat
theorem tx1 : txts [(100 : Rat), 100] = tx [49, 48, 48, 47, 49, 32, 49, 48, 48, 47, 49, 32] := by decide +kernel
theorem tx2 : txts [(50 : Rat), 100] = tx [53, 48, 47, 49, 32, 49, 48, 48, 47, 49, 32] := by decide +kernel
theorem tx3 : txts [(400 / 3 : Rat), 200 / 3] = tx [52, 48, 48, 47, 51, 32, 50, 48, 48, 47, 51, 32] := by decide +kernel
theorem tx4 : txts [(200 / 3 : Rat), 100 / 3] = tx [50, 48, 48, 47, 51, 32, 49, 48, 48, 47, 51, 32] := by decide +kernel
theorem tx5 : txts [(1000 : Rat), 1000, 1000] = tx [49, 48, 48, 48, 47, 49, 32, 49, 48, 48, 48, 47, 49, 32, 49, 48, 48, 48, 47, 49, 32] := by decide +kernel
theorem tx6 : txts [(1 : Rat), 1, 1] = tx [49, 47, 49, 32, 49, 47, 49, 32, 49, 47, 49, 32] := by decide +kernel
theorem co1 : coinL [(50 : Rat), 100] = [50, 100] := by decide +kernel
theorem co2 : coinL [(200 / 3 : Rat), 100 / 3] = [67, 33] := by decide +kernel
theorem su1 : rsum [(50 : Rat), 100] 2 = ((fl (rsum [(50 : Rat), 100] 2) : Int) : Rat) := by decide +kernel
theorem su2 : rsum [(200 / 3 : Rat), 100 / 3] 2 = ((fl (rsum [(200 / 3 : Rat), 100 / 3] 2) : Int) : Rat) := by decide +kernel
set_option maxHeartbeats 8000000 in
set_option maxRecDepth 20000 in
theorem F4 : Means false Tryz.prog 7 [] (bb true) := by
  have c1 := gB pv1 (by decide)
  have c2 := gB pv2 (by decide)
  have c3 := gB pv3 (by decide)
  have c4 := pW p4.1 p4.2 (by decide) (by decide) (by decide) (by rw [pb4]; decide)
  have b1 := kH pv1 (by decide)
  have b2 := iR pv1 (by decide)
  have b3 := kH pv2 (by decide)
  have b4 := iR pv2 (by decide)
  have b5 := kH pv3 (by decide)
  have b6 := iR pv3 (by decide)
  have hch := A5 pv2
  rw [pb4] at c4
  rw [IE, G2] at c1
  rw [IF, G3] at c2 hch
  rw [IG, G4] at c3
  rw [IE] at b1
  rw [G2] at b2
  rw [IF] at b3
  rw [G3] at b4
  rw [IG] at b5
  rw [G4] at b6
  have d1 := xU (ks := [50, 100]) (fun k hk => ⟨(by decide +kernel : ∀ k ∈ [(50 : Rat), 100], 0 ≤ k ∧ k ≤ most) k hk, b2 k hk⟩) (by decide) (by decide) su1
  have d2 := xU (ks := [200 / 3, 100 / 3]) (fun k hk => ⟨(by decide +kernel : ∀ k ∈ [(200 / 3 : Rat), 100 / 3], 0 ≤ k ∧ k ≤ most) k hk, b4 k hk⟩) (by decide) (by decide) su2
  rw [co1] at d1
  rw [co2] at d2
  have ck := ES p2.1 p2.2 pv2 (by decide) [400 / 3, 200 / 3] [200 / 3, 100 / 3] rfl rfl (fun x hx => ⟨(b3 x hx).1, bV (b3 x hx).2 (by decide)⟩) (fun y hy => j6 (b4 y hy) (by decide) (by decide))
  rw [if_pos hch] at ck
  have t1 := iS [100, 100] (fun k hk => j6 (b1 k hk) (by decide) (by decide)) (by decide)
  have t2 := iS [50, 100] (fun k hk => j6 (b2 k hk) (by decide) (by decide)) (by decide)
  have t3 := iS [400 / 3, 200 / 3] (fun k hk => j6 (b3 k hk) (by decide) (by decide)) (by decide)
  have t4 := iS [200 / 3, 100 / 3] (fun k hk => j6 (b4 k hk) (by decide) (by decide)) (by decide)
  have t5 := iS [1000, 1000, 1000] (fun k hk => j6 (b5 k hk) (by decide) (by decide)) (by decide)
  have t6 := iS [1, 1, 1] (fun k hk => j6 (b6 k hk) (by decide) (by decide)) (by decide)
  rw [tx1] at t1
  rw [tx2] at t2
  rw [tx3] at t3
  rw [tx4] at t4
  rw [tx5] at t5
  rw [tx6] at t6
  have hba : ∀ a : ByteArray, (a == a) = true := fun a => vH.2 rfl
  have i1 := DC [50, 100] [50, 100] (by decide) (by decide)
  have i2 := DC [67, 33] [67, 33] (by decide) (by decide)
  clear b1 b2 b3 b4 b5 b6 hch
  obtain ⟨A1, hA1⟩ : ∃ A, [(100 : Rat), 100] = A := ⟨_, rfl⟩
  obtain ⟨K1, hK1⟩ : ∃ A, [(50 : Rat), 100] = A := ⟨_, rfl⟩
  obtain ⟨A2, hA2⟩ : ∃ A, [(400 / 3 : Rat), 200 / 3] = A := ⟨_, rfl⟩
  obtain ⟨K2, hK2⟩ : ∃ A, [(200 / 3 : Rat), 100 / 3] = A := ⟨_, rfl⟩
  obtain ⟨A3, hA3⟩ : ∃ A, [(1000 : Rat), 1000, 1000] = A := ⟨_, rfl⟩
  obtain ⟨K3, hK3⟩ : ∃ A, [(1 : Rat), 1, 1] = A := ⟨_, rfl⟩
  rw [hA1] at c1 t1
  rw [hK1] at c1 t2 d1
  rw [hA2] at c2 t3 ck
  rw [hK2] at c2 t4 d2 ck
  rw [hA3] at c3 t5
  rw [hK3] at c3 t6
  have ckh : MeansH Tryz.prog 18 [.row ⟨3, 1, [ii 100, ii 0]⟩, .row ⟨3, 1, [ii 0, ii 500]⟩, .row ⟨3, 1, [ii 500, ii 0]⟩, .row ⟨22, 1, [.ow 1, .ow 2]⟩] [.ow 0, .ow 3, fql A2, fql K2] (ii 0) [.row ⟨3, 1, [ii 100, ii 0]⟩, .row ⟨3, 1, [ii 0, ii 500]⟩, .row ⟨3, 1, [ii 500, ii 0]⟩, .row ⟨22, 1, [.ow 1, .ow 2]⟩] :=
    DB [3] ck (by simp [frzOK, nestIds, AV.flat, AV.idB]) rfl (by rfl)
  refine aN false 140 [.tmp 0] Tryz.func7 rfl rfl rfl (by simp) (by decide) rfl fun X hX => ?_
  (repeat (first | refine aD ?_ | refine a8 ?_ | ((first | refine aA q12x1 hX ?_ | refine a7 q12x1 hX mixed ?_ | refine aE ?_ | refine aB ?_ | refine aC ?_); (simp [go_sem]; try (refine ⟨by kernel_rfl, ?_⟩)))))
  refine f9 [3] c1 (by simp [go_sem]) (by simp [go_sem]) (by simp [go_sem]) (by simp [go_sem]) ?_
  try (simp [go_sem]; try (refine ⟨by kernel_rfl, ?_⟩))
  (repeat (first | refine aD ?_ | refine a8 ?_ | ((first | refine aA q12x1 hX ?_ | refine a7 q12x1 hX mixed ?_ | refine aE ?_ | refine aB ?_ | refine aC ?_); (simp [go_sem]; try (refine ⟨by kernel_rfl, ?_⟩)))))
  refine f9 [7] c2 (by simp [go_sem]) (by simp [go_sem]) (by simp [go_sem]) (by simp [go_sem]) ?_
  try (simp [go_sem]; try (refine ⟨by kernel_rfl, ?_⟩))
  (repeat (first | refine aD ?_ | refine a8 ?_ | ((first | refine aA q12x1 hX ?_ | refine a7 q12x1 hX mixed ?_ | refine aE ?_ | refine aB ?_ | refine aC ?_); (simp [go_sem]; try (refine ⟨by kernel_rfl, ?_⟩)))))
  refine f9 [12] c3 (by simp [go_sem]) (by simp [go_sem]) (by simp [go_sem]) (by simp [go_sem]) ?_
  try (simp [go_sem]; try (refine ⟨by kernel_rfl, ?_⟩))
  (repeat (first | refine aD ?_ | refine a8 ?_ | ((first | refine aA q12x1 hX ?_ | refine a7 q12x1 hX mixed ?_ | refine aE ?_ | refine aB ?_ | refine aC ?_); (simp [go_sem]; try (refine ⟨by kernel_rfl, ?_⟩)))))
  refine f9 [16] c4 (by simp [go_sem]) (by simp [go_sem]) (by simp [go_sem]) (by simp [go_sem]) ?_
  try (simp [go_sem]; try (refine ⟨by kernel_rfl, ?_⟩))
  (repeat (first | refine aD ?_ | refine a8 ?_ | ((first | refine aA q12x1 hX ?_ | refine a7 q12x1 hX mixed ?_ | refine aE ?_ | refine aB ?_ | refine aC ?_); (simp [go_sem]; try (refine ⟨by kernel_rfl, ?_⟩)))))
  first | refine aF (d1) rfl (by simp [go_sem]) rfl ?_ | refine aG (d1) rfl (by simp [go_sem]) rfl ?_
  try (simp [go_sem]; try (refine ⟨by kernel_rfl, ?_⟩))
  (repeat (first | refine aD ?_ | refine a8 ?_ | ((first | refine aA q12x1 hX ?_ | refine a7 q12x1 hX mixed ?_ | refine aE ?_ | refine aB ?_ | refine aC ?_); (simp [go_sem]; try (refine ⟨by kernel_rfl, ?_⟩)))))
  first | refine aF (d2) rfl (by simp [go_sem]) rfl ?_ | refine aG (d2) rfl (by simp [go_sem]) rfl ?_
  try (simp [go_sem]; try (refine ⟨by kernel_rfl, ?_⟩))
  (repeat (first | refine aD ?_ | refine a8 ?_ | ((first | refine aA q12x1 hX ?_ | refine a7 q12x1 hX mixed ?_ | refine aE ?_ | refine aB ?_ | refine aC ?_); (simp [go_sem]; try (refine ⟨by kernel_rfl, ?_⟩)))))
  first | refine aF (t1) rfl (by simp [go_sem]) rfl ?_ | refine aG (t1) rfl (by simp [go_sem]) rfl ?_
  try (simp [go_sem]; try (refine ⟨by kernel_rfl, ?_⟩))
  first | refine aR (fun hg => t2) rfl (by simp [go_sem]) rfl ?_ | refine aO (fun hg => t2) rfl (by simp [go_sem]) rfl ?_
  try (simp [go_sem]; try (refine ⟨by kernel_rfl, ?_⟩))
  first | refine aR (fun hg => t3) rfl (by simp [go_sem]) rfl ?_ | refine aO (fun hg => t3) rfl (by simp [go_sem]) rfl ?_
  try (simp [go_sem]; try (refine ⟨by kernel_rfl, ?_⟩))
  first | refine aR (fun hg => t4) rfl (by simp [go_sem]) rfl ?_ | refine aO (fun hg => t4) rfl (by simp [go_sem]) rfl ?_
  try (simp [go_sem]; try (refine ⟨by kernel_rfl, ?_⟩))
  first | refine aR (fun hg => t5) rfl (by simp [go_sem]) rfl ?_ | refine aO (fun hg => t5) rfl (by simp [go_sem]) rfl ?_
  try (simp [go_sem]; try (refine ⟨by kernel_rfl, ?_⟩))
  first | refine aR (fun hg => t6) rfl (by simp [go_sem]) rfl ?_ | refine aO (fun hg => t6) rfl (by simp [go_sem]) rfl ?_
  try (simp [go_sem]; try (refine ⟨by kernel_rfl, ?_⟩))
  (repeat (first | refine aD ?_ | refine a8 ?_ | ((first | refine aA q12x1 hX ?_ | refine a7 q12x1 hX mixed ?_ | refine aE ?_ | refine aB ?_ | refine aC ?_); (simp [go_sem, hba]; try (refine ⟨by kernel_rfl, ?_⟩)))))
  try (simp [go_sem, hba]; try (refine ⟨by kernel_rfl, ?_⟩))
  first | refine aR (fun hg => i1) rfl (by simp [go_sem]) rfl ?_ | refine aO (fun hg => i1) rfl (by simp [go_sem]) rfl ?_
  try (simp [go_sem]; try (refine ⟨by kernel_rfl, ?_⟩))
  first | refine aR (fun hg => i2) rfl (by simp [go_sem]) rfl ?_ | refine aO (fun hg => i2) rfl (by simp [go_sem]) rfl ?_
  try (simp [go_sem]; try (refine ⟨by kernel_rfl, ?_⟩))
  first | refine jW [19, 20, 21, 22] (fun hg => ckh) (by simp [go_sem]) (by simp [go_sem]) ?_ | refine j1 [19, 20, 21, 22] (fun hg => ckh) (by simp [go_sem]) ?_
  try (simp [go_sem]; try (refine ⟨by kernel_rfl, ?_⟩))
  (repeat (first | refine aD ?_ | refine a8 ?_ | ((first | refine aA q12x1 hX ?_ | refine a7 q12x1 hX mixed ?_ | refine aE ?_ | refine aB ?_ | refine aC ?_); (simp [go_sem]; try (refine ⟨by kernel_rfl, ?_⟩)))))
end Go.Proofs.YthibhamepjhfjaaGreatDoor

