import Derived.Test.YtebinaffldlihaaGreatDoorBigV
set_option linter.all false
namespace Go.Proofs.YtebinaffldlihaaGreatDoor
open Go.RowKit Go.Ab
attribute [local irreducible] AWP Go.Ab.Sub Means MeansH CallK CallG CallT CallGT
theorem zL {a b : List UInt8} : (⟨a.toArray⟩ : ByteArray) = ⟨b.toArray⟩ ↔ a = b := by
  constructor
  · intro h; have := congrArg (fun s : ByteArray => s.data.toList) h; simpa using this
  · rintro rfl; rfl
theorem gA (a b : List UInt8) : ((⟨a.toArray⟩ : ByteArray) == ⟨b.toArray⟩) = decide (a = b) := by rw [Bool.eq_iff_iff, tM]; simp [zL]
@[go_sem] theorem xB (a : List UInt8) : ((⟨a.toArray⟩ : ByteArray) == ⟨#[]⟩) = decide (a = []) := gA a []
@[go_sem] theorem sb_bne0 (a : List UInt8) : ((⟨a.toArray⟩ : ByteArray) != ⟨#[]⟩) = !decide (a = []) := by rw [bne, xB]
@[go_sem] theorem vP (a : List UInt8) : ((⟨a.toArray⟩ : ByteArray) == ⟨#[48]⟩) = decide (a = [48]) := gA a [48]
@[go_sem] theorem sb_get (l : List UInt8) (n : Nat) (d : UInt8) : l.toArray.getD n d = l.getD n d := by simp [Array.getD_eq_getD_getElem?, List.getD_eq_getElem?_getD]
def isDg (c : UInt8) : Prop := 48 ≤ c.toNat ∧ c.toNat ≤ 57
theorem pK (c : UInt8) : digs.contains c = true ↔ isDg c := by
  simp [digs, isDg, ← UInt8.toNat_inj]
  omega
def good (t : List UInt8) : Prop := t ≠ [] ∧ t.head? ≠ some 48 ∧ ∀ c ∈ t, isDg c
noncomputable instance (t : List UInt8) : Decidable (good t) := Classical.propDecidable _
theorem fZ {α : Type} (p : α → Bool) : ∀ l : List α, l.dropWhile p = [] ↔ ∀ c ∈ l, p c = true
  | [] => by simp
  | x :: xs => by
    simp only [List.dropWhile_cons]
    split
    · rename_i h
      rw [fZ p xs]; simp [h]
    · rename_i h
      simp [h]
theorem g9 {α : Type} {p : α → Bool} : ∀ {l : List α} {c : α}, c ∈ l → p c = false → c ∈ l.dropWhile p
  | x :: xs, c, h, hp => by
    simp only [List.dropWhile_cons]
    split
    · rename_i hx
      rcases List.mem_cons.1 h with rfl | h
      · rw [hx] at hp; cases hp
      · exact g9 h hp
    · exact h
theorem vQ (t : List UInt8) : Lib.trimS t digs = [] ↔ ∀ c ∈ t, isDg c := by
  unfold Lib.trimS Lib.trimLeftS Lib.trimRightS
  rw [fZ]
  constructor
  · intro h c hc
    rw [← pK]
    refine Decidable.byContradiction fun hn => ?_
    have hf : digs.contains c = false := by simpa using hn
    have h1 := g9 (p := fun x => digs.contains x) (l := t.reverse) (List.mem_reverse.2 hc) hf
    have := h c (List.mem_reverse.2 h1)
    rw [hf] at this; cases this
  · intro h c hc
    have h1 : c ∈ t := by
      have := List.mem_reverse.1 hc
      exact List.mem_reverse.1 ((List.dropWhile_sublist _).mem this)
    exact (pK c).2 (h c h1)
def numF (t : List UInt8) : Int := t.foldl (fun a c => a * 10 + ((c.toNat : Int) - 48)) 0
theorem dL (t : List UInt8) (c : UInt8) : numF (t ++ [c]) = numF t * 10 + ((c.toNat : Int) - 48) := by simp [numF, List.foldl_append]
theorem d8 {t : List UInt8} (h : ∀ c ∈ t, isDg c) : 0 ≤ numF t := by
  have : ∀ n, 0 ≤ numF (t.take n) := by
    intro n
    induction n with
    | zero => simp [numF]
    | succ n ih =>
      by_cases hn : n < t.length
      · rw [List.take_succ_eq_append_getElem hn, dL]
        have := h _ (List.getElem_mem hn)
        unfold isDg at this
        omega
      · rw [List.take_of_length_le (by omega)]
        rwa [List.take_of_length_le (by omega)] at ih
  have := this t.length
  rwa [List.take_length] at this
theorem lZ {t : List UInt8} (h : ∀ c ∈ t, isDg c) (n : Nat) : numF (t.take n) ≤ numF t := by
  have : ∀ k n, n + k = t.length → numF (t.take n) ≤ numF t := by
    intro k
    induction k with
    | zero => intro n hn; rw [List.take_of_length_le (by omega)]; exact Int.le_refl _
    | succ k ih =>
      intro n hn
      have h1 := ih (n + 1) (by omega)
      rw [List.take_succ_eq_append_getElem (by omega), dL] at h1
      have h2 := h _ (List.getElem_mem (show n < t.length by omega))
      have h3 := d8 (t := t.take n) fun c hc => h c (List.mem_of_mem_take hc)
      unfold isDg at h2
      omega
  by_cases hn : n ≤ t.length
  · exact this (t.length - n) n (by omega)
  · rw [List.take_of_length_le (by omega)]; exact Int.le_refl _
noncomputable def rd (s : List UInt8) : Int × Int :=
  if s = [48] then (0, 0) else
  if good (Lib.trimPrefix s [45]) then
    (if numF (Lib.trimPrefix s [45]) < 1048576 ^ 60 then (if Lib.hasPrefix s [45] then -numF (Lib.trimPrefix s [45]) else numF (Lib.trimPrefix s [45]), 0) else (0, 6))
  else (0, 2)
set_option maxHeartbeats 4000000 in
set_option maxRecDepth 20000 in
theorem u2 (s : List UInt8) (hs : s.length ≤ 100000) : Means false Tryz.prog 42 [sb s] (.tup [bigZ (rd s).1, ii (rd s).2]) := by
  have htl : (Lib.trimPrefix s [45]).length ≤ 100000 := by
    unfold Lib.trimPrefix
    split
    · rw [List.length_drop]; omega
    · exact hs
  unfold rd
  generalize hB : (1048576 : Int) ^ 60 = Bd
  generalize hT : Lib.trimPrefix s [45] = t at *
  generalize hH : Lib.hasPrefix s [45] = ng at *
  have hcut := A4 s [45]
  rw [hT, hH] at hcut
  refine aK false 56 [.cell 2 24, .tmp 3] Tryz.func42 rfl rfl rfl (by simp) (by decide) rfl fun X hX => ?_
  (repeat (first | refine aC ?_ | refine a7 ?_ | ((first | refine a8 [0, 2, 3, 4, 5, 6, 8, 15, 28, 31, 32, 33, 34, 48, 51] hX ?_ | refine a6 [0, 2, 3, 4, 5, 6, 8, 15, 28, 31, 32, 33, 34, 48, 51] hX mixed ?_ | refine aD ?_ | refine aA ?_ | refine aB ?_); (simp [go_sem]; try (refine ⟨by kernel_rfl, ?_⟩)))))
  first | refine aE (hcut) rfl (by simp [go_sem]) rfl ?_ | refine aF (hcut) rfl (by simp [go_sem]) rfl ?_
  try (simp [go_sem]; try (refine ⟨by kernel_rfl, ?_⟩))
  (repeat (first | refine aC ?_ | refine a7 ?_ | ((first | refine a8 [0, 2, 3, 4, 5, 6, 8, 15, 28, 31, 32, 33, 34, 48, 51] hX ?_ | refine a6 [0, 2, 3, 4, 5, 6, 8, 15, 28, 31, 32, 33, 34, 48, 51] hX mixed ?_ | refine aD ?_ | refine aA ?_ | refine aB ?_); (simp [go_sem]; (try simp (disch := omega) only [w64, td, tm]); try (refine ⟨by kernel_rfl, ?_⟩)))))
  refine aG (b := decide (s = [48])) (by simp [go_sem]) (fun h48 => ?_) (fun h48 => ?_)
  · simp only [decide_eq_true_eq] at h48
    (repeat (first | refine aC ?_ | refine a7 ?_ | ((first | refine a8 [0, 2, 3, 4, 5, 6, 8, 15, 28, 31, 32, 33, 34, 48, 51] hX ?_ | refine a6 [0, 2, 3, 4, 5, 6, 8, 15, 28, 31, 32, 33, 34, 48, 51] hX mixed ?_ | refine aD ?_ | refine aA ?_ | refine aB ?_); (simp [go_sem]; try (refine ⟨by kernel_rfl, ?_⟩)))))
    simp [h48]
    exact ⟨rfl, rfl⟩
  · simp only [decide_eq_false_iff_not] at h48
    rw [if_neg h48]
    ((first | refine a8 [0, 2, 3, 4, 5, 6, 8, 15, 28, 31, 32, 33, 34, 48, 51] hX ?_ | refine a6 [0, 2, 3, 4, 5, 6, 8, 15, 28, 31, 32, 33, 34, 48, 51] hX mixed ?_ | refine aD ?_ | refine aA ?_ | refine aB ?_); (simp [go_sem]; try (refine ⟨by kernel_rfl, ?_⟩)))
    refine aC ?_
    refine aC ?_
    refine eL ⟨mkE [(2, .el 0 2 0 0), (3, ii 0), (4, sb t), (5, bb ng), (28, bb (decide (¬ good t)))], [.row ⟨24, 2, [.agg [ii 0, .nil]]⟩]⟩ ?_ ?_
    · have htr := nA t (by omega)
      by_cases h0 : t = []
      · have hng : ¬ good t := fun h => h.1 h0
        (repeat (first | refine aC ?_ | refine a7 ?_ | ((first | refine a8 [0, 2, 3, 4, 5, 6, 8, 15, 28, 31, 32, 33, 34, 48, 51] hX ?_ | refine a6 [0, 2, 3, 4, 5, 6, 8, 15, 28, 31, 32, 33, 34, 48, 51] hX mixed ?_ | refine aD ?_ | refine aA ?_ | refine aB ?_); (simp [go_sem, h0]; try (refine ⟨by kernel_rfl, ?_⟩)))))
        first | refine aI (fun hg => nA [] (by simp)) rfl (by simp [go_sem]) rfl ?_ | refine aH (fun hg => nA [] (by simp)) rfl (by simp [go_sem]) rfl ?_
        try (simp [go_sem]; try (refine ⟨by kernel_rfl, ?_⟩))
        refine aL _ [.old 0 ⟨24, 2, [.agg [ii 0, .nil]]⟩] (by simp [go_sem]) ?_
        subst h0
        simp [go_sem, hng]
      · have hlp : 0 < t.length := List.length_pos_iff.2 h0
        by_cases h1 : t[0] = 48
        · have hng : ¬ good t := fun h => h.2.1 (by rw [List.head?_eq_getElem?, List.getElem?_eq_getElem hlp, h1])
          (repeat (first | refine aC ?_ | refine a7 ?_ | ((first | refine a8 [0, 2, 3, 4, 5, 6, 8, 15, 28, 31, 32, 33, 34, 48, 51] hX ?_ | refine a6 [0, 2, 3, 4, 5, 6, 8, 15, 28, 31, 32, 33, 34, 48, 51] hX mixed ?_ | refine aD ?_ | refine aA ?_ | refine aB ?_); (simp [go_sem, h0, hlp, h1]; try (refine ⟨by kernel_rfl, ?_⟩)))))
          first | refine aI (fun hg => htr) rfl (by simp [go_sem]) rfl ?_ | refine aH (fun hg => htr) rfl (by simp [go_sem]) rfl ?_
          try (simp [go_sem]; try (refine ⟨by kernel_rfl, ?_⟩))
          refine aL _ [.old 0 ⟨24, 2, [.agg [ii 0, .nil]]⟩] (by simp [go_sem]) ?_
          simp [go_sem, hng]
        · have h1i : ¬ ((t[0].toNat : Int) = 48) := fun h => h1 (UInt8.toNat_inj.1 (by show t[0].toNat = 48; omega))
          have hgd : good t ↔ Lib.trimS t digs = [] := by
            rw [vQ]
            refine ⟨fun h => h.2.2, fun h => ⟨h0, ?_, h⟩⟩
            rw [List.head?_eq_getElem?, List.getElem?_eq_getElem hlp]
            exact fun e => h1 (Option.some.inj e)
          (repeat (first | refine aC ?_ | refine a7 ?_ | ((first | refine a8 [0, 2, 3, 4, 5, 6, 8, 15, 28, 31, 32, 33, 34, 48, 51] hX ?_ | refine a6 [0, 2, 3, 4, 5, 6, 8, 15, 28, 31, 32, 33, 34, 48, 51] hX mixed ?_ | refine aD ?_ | refine aA ?_ | refine aB ?_); (simp [go_sem, h0, hlp, h1, h1i]; try (refine ⟨by kernel_rfl, ?_⟩)))))
          first | refine aI (fun hg => htr) rfl (by simp [go_sem]) rfl ?_ | refine aH (fun hg => htr) rfl (by simp [go_sem]) rfl ?_
          try (simp [go_sem]; try (refine ⟨by kernel_rfl, ?_⟩))
          refine aL _ [.old 0 ⟨24, 2, [.agg [ii 0, .nil]]⟩] (by simp [go_sem]) ?_
          simp [go_sem, hgd]
    · try (simp [go_sem]; try (refine ⟨by kernel_rfl, ?_⟩))
      refine aG (b := decide (¬ good t)) (by simp [go_sem]) (fun hg => ?_) (fun hg => ?_)
      · simp only [decide_eq_true_eq] at hg
        rw [if_neg hg]
        (repeat (first | refine aC ?_ | refine a7 ?_ | ((first | refine a8 [0, 2, 3, 4, 5, 6, 8, 15, 28, 31, 32, 33, 34, 48, 51] hX ?_ | refine a6 [0, 2, 3, 4, 5, 6, 8, 15, 28, 31, 32, 33, 34, 48, 51] hX mixed ?_ | refine aD ?_ | refine aA ?_ | refine aB ?_); (simp [go_sem]; try (refine ⟨by kernel_rfl, ?_⟩)))))
        exact rfl
      · have hgt : good t := by simpa using hg
        rw [if_pos hgt]
        obtain ⟨g1, g2, g3⟩ := hgt
        (repeat (first | refine aC ?_ | refine a7 ?_ | ((first | refine a8 [0, 2, 3, 4, 5, 6, 8, 15, 28, 31, 32, 33, 34, 48, 51] hX ?_ | refine a6 [0, 2, 3, 4, 5, 6, 8, 15, 28, 31, 32, 33, 34, 48, 51] hX mixed ?_ | refine aD ?_ | refine aA ?_ | refine aB ?_); (simp [go_sem]; (try simp (disch := omega) only [w64, td, tm]); try (refine ⟨by kernel_rfl, ?_⟩)))))
        try (simp [go_sem]; try (refine ⟨by kernel_rfl, ?_⟩))
        refine ⟨by unfold maxLen; omega, ?_⟩
        try (simp [go_sem]; try (refine ⟨by kernel_rfl, ?_⟩))
        (repeat (first | refine aC ?_ | refine a7 ?_ | ((first | refine a8 [0, 2, 3, 4, 5, 6, 8, 15, 28, 31, 32, 33, 34, 48, 51] hX ?_ | refine a6 [0, 2, 3, 4, 5, 6, 8, 15, 28, 31, 32, 33, 34, 48, 51] hX mixed ?_ | refine aD ?_ | refine aA ?_ | refine aB ?_); (simp [go_sem]; (try simp (disch := omega) only [w64, td, tm]); try (refine ⟨by kernel_rfl, ?_⟩)))))
        refine aQ (fun i : Nat => ⟨mkE [(2, .el 0 2 0 0), (5, bb ng), (6, il (dg (numF (t.take i)))), (31, .sl (t.map fun b => .v (.int .u8 b.toNat))), (32, ii t.length), (33, ii i)], [.row ⟨24, 2, [.agg [ii 0, .nil]]⟩]⟩)
          (fun i => i ≤ t.length ∧ numF (t.take i) < 1048576 ^ 60) (fun i => t.length - i) 0 ?_ ?_ ?_
        · refine aL _ [.old 0 ⟨24, 2, [.agg [ii 0, .nil]]⟩] (by simp [go_sem]) ?_
          simp [go_sem, numF, dU]
        · exact ⟨Nat.zero_le _, by simp [numF]⟩
        · rintro i ⟨hi, hv⟩
          have hv0 := d8 (t := t.take i) fun c hc => g3 c (List.mem_of_mem_take hc)
          have hlv := (aP 60).2 hv
          (repeat (first | refine aC ?_ | refine a7 ?_ | ((first | refine a8 [0, 2, 3, 4, 5, 6, 8, 15, 28, 31, 32, 33, 34, 48, 51] hX ?_ | refine a6 [0, 2, 3, 4, 5, 6, 8, 15, 28, 31, 32, 33, 34, 48, 51] hX mixed ?_ | refine aD ?_ | refine aA ?_ | refine aB ?_); (simp [go_sem]; try (refine ⟨by kernel_rfl, ?_⟩)))))
          refine aG (b := decide (i < t.length)) (by simp [go_sem]) (fun hd => ?_) (fun hd => ?_)
          · simp at hd
            have hcd := g3 _ (List.getElem_mem hd)
            unfold isDg at hcd
            have hnb : nth (t.map fun b => AV.v (.int .u8 b.toNat)) i = .v (.int .u8 t[i].toNat) := qT _ hd
            have hstep : numF (t.take (i + 1)) = numF (t.take i) * 10 + ((t[i].toNat : Int) - 48) := by rw [List.take_succ_eq_append_getElem hd, dL]
            have hw8 : IntKind.u8.wrap ((t[i].toNat : Int) - 48) = (t[i].toNat : Int) - 48 := by
              unfold IntKind.wrap
              simp [IntKind.bits, IntKind.signed]
              omega
            have hmono := lZ g3 (i + 1)
            generalize hdv : (t[i].toNat : Int) - 48 = d at *
            obtain ⟨hd1, hd2⟩ := cG (r := d) ⟨by omega, by omega⟩
            have h10 := cG (r := 10) ⟨by decide, by decide⟩
            have hmm := tT (dg (numF (t.take i))) [10] (aN _) h10.2 (by omega) (by simp)
            rw [aU hv0, h10.1] at hmm
            have hv1 : 0 ≤ numF (t.take i) * 10 := by omega
            have hl1 : (dg (numF (t.take i) * 10)).length ≤ 61 := by
              rw [aP]
              have : (1048576 : Int) ^ 61 = 1048576 ^ 60 * 1048576 := Int.pow_succ _ _
              omega
            have hld : (dg d).length ≤ 1 := by rw [aP]; simp; omega
            have haa := tO (dg (numF (t.take i) * 10)) (dg d) (aN _) (aN _) (by omega) (by omega)
            rw [aU hv1, aU (n := d) (by omega), ← hstep] at haa
            have htk : List.take (dg d).length [ii d] = (dg d).map ii := by
              have h := iR hd2
              rw [hd1] at h
              exact h
            have htr := bG [d] (by simp) hd2
            rw [hd1] at htr
            (repeat (first | refine aC ?_ | refine a7 ?_ | ((first | refine a8 [0, 2, 3, 4, 5, 6, 8, 15, 28, 31, 32, 33, 34, 48, 51] hX ?_ | refine a6 [0, 2, 3, 4, 5, 6, 8, 15, 28, 31, 32, 33, 34, 48, 51] hX mixed ?_ | refine aD ?_ | refine aA ?_ | refine aB ?_); (simp [go_sem, hd, hnb]; (try simp (disch := omega) only [w64, td, tm]); try (refine ⟨by kernel_rfl, ?_⟩)))))
            try (simp [go_sem, hd, hnb]; try (refine ⟨by kernel_rfl, ?_⟩))
            (repeat (first | refine aC ?_ | refine a7 ?_ | ((first | refine a8 [0, 2, 3, 4, 5, 6, 8, 15, 28, 31, 32, 33, 34, 48, 51] hX ?_ | refine a6 [0, 2, 3, 4, 5, 6, 8, 15, 28, 31, 32, 33, 34, 48, 51] hX mixed ?_ | refine aD ?_ | refine aA ?_ | refine aB ?_); (simp [go_sem]; (try simp (disch := omega) only [w64, td, tm]); try (refine ⟨by kernel_rfl, ?_⟩)))))
            first | refine aE (hmm) rfl (by simp [go_sem]) rfl ?_ | refine aF (hmm) rfl (by simp [go_sem]) rfl ?_
            have hwd := w64 (x := d) (by omega) (by omega)
            try (simp [go_sem, hdv, hw8, hwd]; try (refine ⟨by kernel_rfl, ?_⟩))
            first | refine b9 [2] (htr) (by simp [go_sem]) ?_ | refine b6 [2] (htr) (by simp [go_sem]) ?_ | refine b4 [2] (htr) (by simp [go_sem]) ?_
            try (simp [go_sem, htk, hld]; try (refine ⟨by kernel_rfl, ?_⟩))
            first | refine aE (haa) rfl (by simp [go_sem]) rfl ?_ | refine aF (haa) rfl (by simp [go_sem]) rfl ?_
            try (simp [go_sem]; try (refine ⟨by kernel_rfl, ?_⟩))
            (repeat (first | refine aC ?_ | refine a7 ?_ | ((first | refine a8 [0, 2, 3, 4, 5, 6, 8, 15, 28, 31, 32, 33, 34, 48, 51] hX ?_ | refine a6 [0, 2, 3, 4, 5, 6, 8, 15, 28, 31, 32, 33, 34, 48, 51] hX mixed ?_ | refine aD ?_ | refine aA ?_ | refine aB ?_); (simp [go_sem]; (try simp (disch := omega) only [w64, td, tm]); try (refine ⟨by kernel_rfl, ?_⟩)))))
            have hvs1 := d8 (t := t.take (i + 1)) fun c hc => g3 c (List.mem_of_mem_take hc)
            have hl62 : (dg (numF (t.take (i + 1)))).length ≤ 62 := by
              rw [aP]
              have : (1048576 : Int) ^ 62 = 1048576 ^ 60 * 1048576 * 1048576 := by rw [Int.pow_succ, Int.pow_succ]
              omega
            refine aG (b := decide (60 < (dg (numF (t.take (i + 1)))).length)) (by simp [go_sem]; try omega) (fun h6 => ?_) (fun h6 => ?_)
            · simp only [decide_eq_true_eq] at h6
              have hng : ¬ numF t < 1048576 ^ 60 := by
                have h7 : ¬ (dg (numF (t.take (i + 1)))).length ≤ 60 := by omega
                rw [aP] at h7
                omega
              rw [hB] at hng
              (repeat (first | refine aC ?_ | refine a7 ?_ | ((first | refine a8 [0, 2, 3, 4, 5, 6, 8, 15, 28, 31, 32, 33, 34, 48, 51] hX ?_ | refine a6 [0, 2, 3, 4, 5, 6, 8, 15, 28, 31, 32, 33, 34, 48, 51] hX mixed ?_ | refine aD ?_ | refine aA ?_ | refine aB ?_); (simp [go_sem, hng]; try (refine ⟨by kernel_rfl, ?_⟩)))))
              exact rfl
            · simp only [decide_eq_false_iff_not] at h6
              have h7 : (dg (numF (t.take (i + 1)))).length ≤ 60 := by omega
              rw [aP] at h7
              (repeat (first | refine aC ?_ | refine a7 ?_ | ((first | refine a8 [0, 2, 3, 4, 5, 6, 8, 15, 28, 31, 32, 33, 34, 48, 51] hX ?_ | refine a6 [0, 2, 3, 4, 5, 6, 8, 15, 28, 31, 32, 33, 34, 48, 51] hX mixed ?_ | refine aD ?_ | refine aA ?_ | refine aB ?_); (simp [go_sem]; (try simp (disch := omega) only [w64, td, tm]); try (refine ⟨by kernel_rfl, ?_⟩)))))
              refine ⟨i + 1, ⟨by omega, h7⟩, by omega, ?_⟩
              refine aL _ [.old 0 ⟨24, 2, [.agg [ii 0, .nil]]⟩] (by simp [go_sem]) ?_
              simp [go_sem]
          · have hil : i = t.length := by simp at hd; omega
            subst hil
            rw [List.take_length] at hv hv0 hlv
            have hab : ab (numF t) = numF t := by unfold ab; rw [if_neg (by omega)]
            have hab2 : ab (-numF t) = numF t := by unfold ab; split <;> omega
            have hs1 := bS 1 (dg (numF t)) (numF t) (by omega) (aN _) (by rw [aU hv0, hab]) (fun h => by rw [aU hv0] at h; unfold sg; rw [if_neg (by omega), if_pos (by omega)])
            have hs2 := bS (-1) (dg (numF t)) (-numF t) (by omega) (aN _) (by rw [aU hv0, hab2]) (fun h => by rw [aU hv0] at h; unfold sg; rw [if_pos (by omega)])
            (repeat (first | refine aC ?_ | refine a7 ?_ | ((first | refine a8 [0, 2, 3, 4, 5, 6, 8, 15, 28, 31, 32, 33, 34, 48, 51] hX ?_ | refine a6 [0, 2, 3, 4, 5, 6, 8, 15, 28, 31, 32, 33, 34, 48, 51] hX mixed ?_ | refine aD ?_ | refine aA ?_ | refine aB ?_); (simp [go_sem]; try (refine ⟨by kernel_rfl, ?_⟩)))))
            rw [hB] at hv
            refine aG (b := ng) (by simp [go_sem]) (fun hb => ?_) (fun hb => ?_)
            · subst hb
              (repeat (first | refine aC ?_ | refine a7 ?_ | ((first | refine a8 [0, 2, 3, 4, 5, 6, 8, 15, 28, 31, 32, 33, 34, 48, 51] hX ?_ | refine a6 [0, 2, 3, 4, 5, 6, 8, 15, 28, 31, 32, 33, 34, 48, 51] hX mixed ?_ | refine aD ?_ | refine aA ?_ | refine aB ?_); (simp [go_sem]; try (refine ⟨by kernel_rfl, ?_⟩)))))
              first | refine aE (hs2) rfl (by simp [go_sem]) rfl ?_ | refine aF (hs2) rfl (by simp [go_sem]) rfl ?_
              try (simp [go_sem]; try (refine ⟨by kernel_rfl, ?_⟩))
              (repeat (first | refine aC ?_ | refine a7 ?_ | ((first | refine a8 [0, 2, 3, 4, 5, 6, 8, 15, 28, 31, 32, 33, 34, 48, 51] hX ?_ | refine a6 [0, 2, 3, 4, 5, 6, 8, 15, 28, 31, 32, 33, 34, 48, 51] hX mixed ?_ | refine aD ?_ | refine aA ?_ | refine aB ?_); (simp [go_sem, hv]; try (refine ⟨by kernel_rfl, ?_⟩)))))
            · subst hb
              (repeat (first | refine aC ?_ | refine a7 ?_ | ((first | refine a8 [0, 2, 3, 4, 5, 6, 8, 15, 28, 31, 32, 33, 34, 48, 51] hX ?_ | refine a6 [0, 2, 3, 4, 5, 6, 8, 15, 28, 31, 32, 33, 34, 48, 51] hX mixed ?_ | refine aD ?_ | refine aA ?_ | refine aB ?_); (simp [go_sem]; try (refine ⟨by kernel_rfl, ?_⟩)))))
              first | refine aE (hs1) rfl (by simp [go_sem]) rfl ?_ | refine aF (hs1) rfl (by simp [go_sem]) rfl ?_
              try (simp [go_sem]; try (refine ⟨by kernel_rfl, ?_⟩))
              (repeat (first | refine aC ?_ | refine a7 ?_ | ((first | refine a8 [0, 2, 3, 4, 5, 6, 8, 15, 28, 31, 32, 33, 34, 48, 51] hX ?_ | refine a6 [0, 2, 3, 4, 5, 6, 8, 15, 28, 31, 32, 33, 34, 48, 51] hX mixed ?_ | refine aD ?_ | refine aA ?_ | refine aB ?_); (simp [go_sem, hv]; try (refine ⟨by kernel_rfl, ?_⟩)))))
end Go.Proofs.YtebinaffldlihaaGreatDoor
