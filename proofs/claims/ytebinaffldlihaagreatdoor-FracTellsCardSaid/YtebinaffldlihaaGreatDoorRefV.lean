import Derived.Test.YtebinaffldlihaaGreatDoorRefR
import Derived.Test.YtebinaffldlihaaGreatDoorRefT
set_option linter.all false
namespace Go.Proofs.YtebinaffldlihaaGreatDoor
open Go.RowKit Go.Ab
attribute [local irreducible] AWP Go.Ab.Sub Means MeansH CallK CallG CallT CallGT CallU
theorem zM {s : List UInt8} (h : s = [48] ∨ good (Lib.trimPrefix s [45])) : rd s = (if numF (Lib.trimPrefix s [45]) < 1048576 ^ 60 then (if Lib.hasPrefix s [45] then -numF (Lib.trimPrefix s [45]) else numF (Lib.trimPrefix s [45]), 0) else (0, 6)) := by
  unfold rd
  by_cases h0 : s = [48]
  · subst h0; rfl
  · rw [if_neg h0, if_pos (h.resolve_left h0)]
theorem A9 {s : List UInt8} (h : s ≠ [48]) (h2 : ¬ good (Lib.trimPrefix s [45])) : rd s = (0, 2) := by
  unfold rd; rw [if_neg h, if_neg h2]
theorem zN (s : List UInt8) : (∃ t, s = 45 :: t ∧ Lib.trimPrefix s [45] = t ∧ Lib.hasPrefix s [45] = true) ∨ (s.head? ≠ some 45 ∧ Lib.trimPrefix s [45] = s ∧ Lib.hasPrefix s [45] = false) := by
  cases s with
  | nil => right; exact ⟨by simp, jI (by simp)⟩
  | cons c t =>
    by_cases h : c = 45
    · subst h; left; exact ⟨t, rfl, jH t⟩
    · right; exact ⟨by simpa using h, jI (by simpa using h)⟩
noncomputable instance (c : UInt8) : Decidable (isDg c) := Classical.propDecidable _
theorem xC (c : UInt8) : (!decide (isDg c)) = (decide ((c.toNat : Int) < 48) || decide (57 < (c.toNat : Int))) := by
  by_cases h : isDg c
  · have h' := h
    unfold isDg at h'
    rw [decide_eq_true h, decide_eq_false (by omega), decide_eq_false (by omega)]
    rfl
  · have h' := h
    unfold isDg at h'
    rw [decide_eq_false h]
    by_cases q : (c.toNat : Int) < 48
    · rw [decide_eq_true q]; rfl
    · rw [decide_eq_false q, decide_eq_true (by omega)]; rfl
theorem kY (a : List UInt8) : ((⟨a.toArray⟩ : ByteArray) != ⟨#[48]⟩) = !decide (a = [48]) := by rw [bne, vP]
set_option maxHeartbeats 4000000 in
set_option maxRecDepth 20000 in
theorem rY (s : List UInt8) (hs : s.length ≤ 100000) : Means false Tryz.prog 43 [sb s] (.tup [bigZ (rd s).1, ii (rd s).2]) := by
  obtain ⟨t, ht⟩ : ∃ t, Lib.trimPrefix s [45] = t := ⟨_, rfl⟩
  obtain ⟨ng, hng⟩ : ∃ ng, Lib.hasPrefix s [45] = ng := ⟨_, rfl⟩
  have htl : t.length ≤ 100000 := by
    rw [← ht]
    unfold Lib.trimPrefix
    split
    · rw [List.length_drop]; omega
    · exact hs
  have hdig := zM (s := s)
  have hno := A9 (s := s)
  have h48t : s = [48] → t = [48] := fun h => by rw [← ht, h]; rfl
  rw [ht] at hdig hno
  rw [hng] at hdig
  refine aK false 73 [.cell 2 24, .tmp 3] Tryz.func43 rfl rfl rfl (by simp) (by decide) rfl fun X hX => ?_
  (repeat (first | refine aC ?_ | refine a7 ?_ | ((first | refine a8 [0, 2, 3, 4, 5, 6, 7, 8, 17, 30, 35, 47, 52, 68] hX ?_ | refine a6 [0, 2, 3, 4, 5, 6, 7, 8, 17, 30, 35, 47, 52, 68] hX mixed ?_ | refine aD ?_ | refine aA ?_ | refine aB ?_); (simp [go_sem]; try (refine ⟨by kernel_rfl, ?_⟩)))))
  refine eL ⟨mkE [(0, sb s), (2, .el 0 2 0 0), (3, ii 0), (4, ii (if ng then -1 else 1)), (5, sb t)], [.row ⟨24, 2, [.agg [ii 0, .nil]]⟩]⟩ ?_ ?_
  · rcases zN s with ⟨t', h1, h2, h3⟩ | ⟨h1, h2, h3⟩
    · rw [ht] at h2
      subst h2
      rw [hng] at h3
      subst h3
      have hl0 : 0 < s.length := by rw [h1]; simp
      have hg : s[0] = 45 := by simp only [h1, List.getElem_cons_zero]
      refine aG (b := true) (by simp [go_sem, hl0, hg]) (fun _ => ?_) (fun h => by cases h)
      (repeat (first | refine aC ?_ | refine a7 ?_ | ((first | refine a8 [0, 2, 3, 4, 5, 6, 7, 8, 17, 30, 35, 47, 52, 68] hX ?_ | refine a6 [0, 2, 3, 4, 5, 6, 7, 8, 17, 30, 35, 47, 52, 68] hX mixed ?_ | refine aD ?_ | refine aA ?_ | refine aB ?_); (simp [go_sem, hl0]; try (refine ⟨by kernel_rfl, ?_⟩)))))
      try (repeat refine And.intro (by first | omega | (unfold maxLen; omega) | kernel_rfl | (refine ⟨by first | omega | (unfold maxLen; omega), by first | omega | (unfold maxLen; omega)⟩) | grind) ?_)
      refine aL _ [.old 0 ⟨24, 2, [.agg [ii 0, .nil]]⟩] (by simp [go_sem]) ?_
      simp [go_sem, h1]
      apply ByteArray.ext; simp
    · rw [ht] at h2
      subst h2
      rw [hng] at h3
      subst h3
      refine aG (b := false) (by
        by_cases hl0 : 0 < t.length
        · have hg : ¬ t[0] = 45 := fun q => h1 (by rw [List.head?_eq_getElem?, List.getElem?_eq_getElem hl0, q])
          have hgi : ¬ ((t[0].toNat : Int) = 45) := fun h => hg (UInt8.toNat_inj.1 (by show t[0].toNat = 45; omega))
          simp [go_sem, hl0, hg, hgi]
        · have hl1 : t = [] := List.length_eq_zero_iff.1 (by omega)
          subst hl1
          simp [go_sem]) (fun h => by cases h) (fun _ => ?_)
      (repeat (first | refine aC ?_ | refine a7 ?_ | ((first | refine a8 [0, 2, 3, 4, 5, 6, 7, 8, 17, 30, 35, 47, 52, 68] hX ?_ | refine a6 [0, 2, 3, 4, 5, 6, 7, 8, 17, 30, 35, 47, 52, 68] hX mixed ?_ | refine aD ?_ | refine aA ?_ | refine aB ?_); (simp [go_sem]; try (refine ⟨by kernel_rfl, ?_⟩)))))
      refine aL _ [.old 0 ⟨24, 2, [.agg [ii 0, .nil]]⟩] (by simp [go_sem]) ?_
      simp [go_sem]
  · try (simp [go_sem]; try (refine ⟨by kernel_rfl, ?_⟩))
    by_cases hb : t = [] ∨ (t.head? = some 48 ∧ s ≠ [48])
    · have hnb : ¬ good t := fun g => hb.elim g.1 (fun q => g.2.1 q.1)
      have hs48 : s ≠ [48] := fun q => by have := h48t q; rcases hb with h | h; rw [h] at this; cases this; exact h.2 q
      rw [hno hs48 hnb]
      (repeat (first | refine aC ?_ | refine a7 ?_ | ((first | refine a8 [0, 2, 3, 4, 5, 6, 7, 8, 17, 30, 35, 47, 52, 68] hX ?_ | refine a6 [0, 2, 3, 4, 5, 6, 7, 8, 17, 30, 35, 47, 52, 68] hX mixed ?_ | refine aD ?_ | refine aA ?_ | refine aB ?_); (simp [go_sem]; try (refine ⟨by kernel_rfl, ?_⟩)))))
      refine ⟨fun h => List.length_pos_iff.2 h, fun h q => ⟨h, q⟩, ?_⟩
      refine aG (b := true) (by
        rcases hb with h | h
        · subst h
          simp [go_sem]
        · have hl0 : 0 < t.length := by cases t; simp at h; simp
          have hg : t[0] = 48 := by have := h.1; rw [List.head?_eq_getElem?, List.getElem?_eq_getElem hl0] at this; exact Option.some.inj this
          simp [go_sem, hl0, hg, hs48, kY]) (fun _ => ?_) (fun h => by cases h)
      (repeat (first | refine aC ?_ | refine a7 ?_ | ((first | refine a8 [0, 2, 3, 4, 5, 6, 7, 8, 17, 30, 35, 47, 52, 68] hX ?_ | refine a6 [0, 2, 3, 4, 5, 6, 7, 8, 17, 30, 35, 47, 52, 68] hX mixed ?_ | refine aD ?_ | refine aA ?_ | refine aB ?_); (simp [go_sem]; try (refine ⟨by kernel_rfl, ?_⟩)))))
      try rfl
    · have hne : t ≠ [] := fun q => hb (.inl q)
      have hl0 : 0 < t.length := List.length_pos_iff.2 hne
      have hg : s = [48] ∨ ¬ t[0] = 48 := by
        by_cases q : s = [48]
        · exact .inl q
        · right; intro r; exact hb (.inr ⟨by rw [List.head?_eq_getElem?, List.getElem?_eq_getElem hl0, r], q⟩)
      (repeat (first | refine aC ?_ | refine a7 ?_ | ((first | refine a8 [0, 2, 3, 4, 5, 6, 7, 8, 17, 30, 35, 47, 52, 68] hX ?_ | refine a6 [0, 2, 3, 4, 5, 6, 7, 8, 17, 30, 35, 47, 52, 68] hX mixed ?_ | refine aD ?_ | refine aA ?_ | refine aB ?_); (simp [go_sem]; try (refine ⟨by kernel_rfl, ?_⟩)))))
      refine ⟨fun h => List.length_pos_iff.2 h, fun h q => ⟨h, q⟩, ?_⟩
      refine aG (b := false) (by
        rcases hg with h | h
        · simp [go_sem, hl0, hne, h, kY]
        · have hgi : ¬ ((t[0].toNat : Int) = 48) := fun q => h (UInt8.toNat_inj.1 (by show t[0].toNat = 48; omega))
          simp [go_sem, hl0, hne, h, hgi, kY]) (fun h => by cases h) (fun _ => ?_)
      (repeat (first | refine aC ?_ | refine a7 ?_ | ((first | refine a8 [0, 2, 3, 4, 5, 6, 7, 8, 17, 30, 35, 47, 52, 68] hX ?_ | refine a6 [0, 2, 3, 4, 5, 6, 7, 8, 17, 30, 35, 47, 52, 68] hX mixed ?_ | refine aD ?_ | refine aA ?_ | refine aB ?_); (simp [go_sem]; try (refine ⟨by kernel_rfl, ?_⟩)))))
      refine aQ (fun n : Nat => ⟨mkE [(2, .el 0 2 0 0), (3, ii 0), (4, ii (if ng then -1 else 1)), (5, sb t), (6, ii n)], [.row ⟨24, 2, [.agg [ii 0, .nil]]⟩]⟩) (fun n => n ≤ t.length ∧ ∀ c ∈ t.take n, isDg c) (fun n => t.length - n) 0 ?_ ?_ ?_
      · refine aL _ [.old 0 ⟨24, 2, [.agg [ii 0, .nil]]⟩] (by simp [go_sem]) ?_
        simp [go_sem]
      · exact ⟨Nat.zero_le _, by simp⟩
      · rintro n ⟨hn, hD⟩
        (repeat (first | refine aC ?_ | refine a7 ?_ | ((first | refine a8 [0, 2, 3, 4, 5, 6, 7, 8, 17, 30, 35, 47, 52, 68] hX ?_ | refine a6 [0, 2, 3, 4, 5, 6, 7, 8, 17, 30, 35, 47, 52, 68] hX mixed ?_ | refine aD ?_ | refine aA ?_ | refine aB ?_); (simp [go_sem]; try (refine ⟨by kernel_rfl, ?_⟩)))))
        refine aG (b := decide (n < t.length)) (by simp [go_sem]) (fun hd => ?_) (fun hd => ?_)
        · simp at hd
          (repeat (first | refine aC ?_ | refine a7 ?_ | ((first | refine a8 [0, 2, 3, 4, 5, 6, 7, 8, 17, 30, 35, 47, 52, 68] hX ?_ | refine a6 [0, 2, 3, 4, 5, 6, 7, 8, 17, 30, 35, 47, 52, 68] hX mixed ?_ | refine aD ?_ | refine aA ?_ | refine aB ?_); (simp [go_sem, hd]; try (refine ⟨by kernel_rfl, ?_⟩)))))
          refine aG (b := !decide (isDg t[n])) (by rw [xC]; simp [go_sem, hd]) (fun hf => ?_) (fun hf => ?_)
          · simp at hf
            have hngd : ¬ good t := fun g => hf (g.2.2 _ (List.getElem_mem hd))
            have hs48 : s ≠ [48] := fun q => by
              have := h48t q
              subst this
              simp at hd
              subst hd
              exact hf (by simp [isDg])
            rw [hno hs48 hngd]
            (repeat (first | refine aC ?_ | refine a7 ?_ | ((first | refine a8 [0, 2, 3, 4, 5, 6, 7, 8, 17, 30, 35, 47, 52, 68] hX ?_ | refine a6 [0, 2, 3, 4, 5, 6, 7, 8, 17, 30, 35, 47, 52, 68] hX mixed ?_ | refine aD ?_ | refine aA ?_ | refine aB ?_); (simp [go_sem]; try (refine ⟨by kernel_rfl, ?_⟩)))))
            try rfl
          · simp at hf
            (repeat (first | refine aC ?_ | refine a7 ?_ | ((first | refine a8 [0, 2, 3, 4, 5, 6, 7, 8, 17, 30, 35, 47, 52, 68] hX ?_ | refine a6 [0, 2, 3, 4, 5, 6, 7, 8, 17, 30, 35, 47, 52, 68] hX mixed ?_ | refine aD ?_ | refine aA ?_ | refine aB ?_); (simp [go_sem]; (try simp (disch := omega) only [w64, td, tm]); try (refine ⟨by kernel_rfl, ?_⟩)))))
            refine ⟨n + 1, ⟨by omega, ?_⟩, by omega, ?_⟩
            · rw [List.take_succ_eq_append_getElem hd]
              intro c hc
              rcases List.mem_append.1 hc with h | h
              · exact hD c h
              · rw [List.mem_singleton.1 h]; exact hf
            · refine aL _ [.old 0 ⟨24, 2, [.agg [ii 0, .nil]]⟩] (by simp [go_sem]) ?_
              simp [go_sem]
        · have hnl : n = t.length := by simp at hd; omega
          subst hnl
          rw [List.take_length] at hD
          have hgd : s = [48] ∨ good t := by
            rcases hg with h | h
            · exact .inl h
            · exact .inr ⟨hne, fun q => h (by rw [List.head?_eq_getElem?, List.getElem?_eq_getElem hl0] at q; exact Option.some.inj q), hD⟩
          rw [hdig hgd]
          generalize hB : (1048576 : Int) ^ 60 = Bd
          (repeat (first | refine aC ?_ | refine a7 ?_ | ((first | refine a8 [0, 2, 3, 4, 5, 6, 7, 8, 17, 30, 35, 47, 52, 68] hX ?_ | refine a6 [0, 2, 3, 4, 5, 6, 7, 8, 17, 30, 35, 47, 52, 68] hX mixed ?_ | refine aD ?_ | refine aA ?_ | refine aB ?_); (simp [go_sem]; try (refine ⟨by kernel_rfl, ?_⟩)))))
          refine aQ (fun i : Nat => ⟨mkE [(2, .el 0 2 0 0), (3, ii 0), (4, ii (if ng then -1 else 1)), (5, sb t), (7, il (dg (numF (t.take i)))), (8, ii i)], [.row ⟨24, 2, [.agg [ii 0, .nil]]⟩]⟩)
            (fun i => i ≤ t.length ∧ numF (t.take i) < Bd) (fun i => t.length - i) 0 ?_ ?_ ?_
          · refine aL _ [.old 0 ⟨24, 2, [.agg [ii 0, .nil]]⟩] (by simp [go_sem]) ?_
            simp [go_sem, numF, dU]
          · exact ⟨Nat.zero_le _, by simp [numF]; rw [← hB]; exact bE 60⟩
          · rintro i ⟨hi, hv⟩
            try simp only [] at hi hv
            have hv0 := d8 (t := t.take i) fun c hc => hD c (List.mem_of_mem_take hc)
            have hlv := (aP 60).2 (hB ▸ hv)
            (repeat (first | refine aC ?_ | refine a7 ?_ | ((first | refine a8 [0, 2, 3, 4, 5, 6, 7, 8, 17, 30, 35, 47, 52, 68] hX ?_ | refine a6 [0, 2, 3, 4, 5, 6, 7, 8, 17, 30, 35, 47, 52, 68] hX mixed ?_ | refine aD ?_ | refine aA ?_ | refine aB ?_); (simp [go_sem]; try (refine ⟨by kernel_rfl, ?_⟩)))))
            refine aG (b := decide (i < t.length)) (by simp [go_sem]) (fun hd => ?_) (fun hd => ?_)
            · simp at hd
              have hcd := hD _ (List.getElem_mem hd)
              unfold isDg at hcd
              have hstep : numF (t.take (i + 1)) = numF (t.take i) * 10 + ((t[i].toNat : Int) - 48) := by rw [List.take_succ_eq_append_getElem hd, dL]
              have hw8 : IntKind.u8.wrap ((t[i].toNat : Int) - 48) = (t[i].toNat : Int) - 48 := by
                unfold IntKind.wrap
                simp [IntKind.bits, IntKind.signed]
                omega
              have hmono := lZ hD (i + 1)
              have hvs1 := d8 (t := t.take (i + 1)) fun c hc => hD c (List.mem_of_mem_take hc)
              generalize hdv : (t[i].toNat : Int) - 48 = d at *
              obtain ⟨hd1, hd2⟩ := cG (r := d) ⟨by omega, by omega⟩
              have h10 := cG (r := 10) ⟨by decide, by decide⟩
              have hmm := tI (dg (numF (t.take i))) [10] (by omega) (by simp) (aN _) h10.2
              rw [aU hv0, h10.1] at hmm
              have hv1 : 0 ≤ numF (t.take i) * 10 := by omega
              have hl1 : (dg (numF (t.take i) * 10)).length ≤ 61 := by
                rw [aP]
                have : (1048576 : Int) ^ 61 = 1048576 ^ 60 * 1048576 := Int.pow_succ _ _
                omega
              have hld : (dg d).length ≤ 1 := by rw [aP]; simp; omega
              have haa := mO (dg (numF (t.take i) * 10)) (dg d) (by omega) (by omega) (aN _) (aN _)
              rw [aU hv1, aU (n := d) (by omega), ← hstep] at haa
              have htr := bX [d] (by simp) hd2
              rw [hd1] at htr
              have hwd := w64 (x := d) (by omega) (by omega)
              have hl62 : (dg (numF (t.take (i + 1)))).length ≤ 62 := by
                rw [aP]
                have : (1048576 : Int) ^ 62 = 1048576 ^ 60 * 1048576 * 1048576 := by rw [Int.pow_succ, Int.pow_succ]
                omega
              (repeat (first | refine aC ?_ | refine a7 ?_ | ((first | refine a8 [0, 2, 3, 4, 5, 6, 7, 8, 17, 30, 35, 47, 52, 68] hX ?_ | refine aA ?_ | refine aB ?_); (simp [go_sem]; try (refine ⟨by kernel_rfl, ?_⟩)))))
              refine qL [0, 2, 3, 4, 5, 6, 7, 8, 17, 30, 35, 47, 52, 68] 2 hX mixed ?_; (simp [go_sem, hd, hdv, hw8, hwd]; try (refine ⟨by kernel_rfl, ?_⟩))
              refine fF (hmm) rfl (by simp [go_sem]) rfl ?_
              try (simp [go_sem, hd, hdv, hw8, hwd]; try (refine ⟨by kernel_rfl, ?_⟩))
              refine fF (htr) rfl (by simp [go_sem]) rfl ?_
              try (simp [go_sem]; try (refine ⟨by kernel_rfl, ?_⟩))
              refine fF (haa) rfl (by simp [go_sem]) rfl ?_
              try (simp [go_sem]; try (refine ⟨by kernel_rfl, ?_⟩))
              refine ⟨⟨by kernel_rfl, by kernel_rfl⟩, ?_⟩
              have hlt6 : 60 < (dg (numF (t.take (i + 1)))).length ↔ ¬ numF (t.take (i + 1)) < Bd := by
                have := aP (n := numF (t.take (i + 1))) 60
                rw [hB] at this
                omega
              (repeat (first | refine aC ?_ | refine a7 ?_ | ((first | refine a8 [0, 2, 3, 4, 5, 6, 7, 8, 17, 30, 35, 47, 52, 68] hX ?_ | refine a6 [0, 2, 3, 4, 5, 6, 7, 8, 17, 30, 35, 47, 52, 68] hX mixed ?_ | refine aD ?_ | refine aA ?_ | refine aB ?_); (simp [go_sem]; try (refine ⟨by kernel_rfl, ?_⟩)))))
              refine aG (b := decide (60 < (dg (numF (t.take (i + 1)))).length)) (by simp [go_sem]; try omega) (fun h6 => ?_) (fun h6 => ?_)
              · simp only [decide_eq_true_eq] at h6
                have hnb : ¬ numF t < Bd := by have := hlt6.1 h6; omega
                rw [if_neg hnb]
                (repeat (first | refine aC ?_ | refine a7 ?_ | ((first | refine a8 [0, 2, 3, 4, 5, 6, 7, 8, 17, 30, 35, 47, 52, 68] hX ?_ | refine a6 [0, 2, 3, 4, 5, 6, 7, 8, 17, 30, 35, 47, 52, 68] hX mixed ?_ | refine aD ?_ | refine aA ?_ | refine aB ?_); (simp [go_sem]; try (refine ⟨by kernel_rfl, ?_⟩)))))
                try rfl
              · simp only [decide_eq_false_iff_not] at h6
                have hlt7 : numF (t.take (i + 1)) < Bd := Classical.byContradiction fun q => h6 (hlt6.2 q)
                have hwi := w64 (x := (i : Int) + 1) (by omega) (by omega)
                (repeat (first | refine aC ?_ | refine a7 ?_ | ((first | refine a8 [0, 2, 3, 4, 5, 6, 7, 8, 17, 30, 35, 47, 52, 68] hX ?_ | refine a6 [0, 2, 3, 4, 5, 6, 7, 8, 17, 30, 35, 47, 52, 68] hX mixed ?_ | refine aD ?_ | refine aA ?_ | refine aB ?_); (simp [go_sem, hwi]; try (refine ⟨by kernel_rfl, ?_⟩)))))
                refine ⟨i + 1, ⟨by omega, hlt7⟩, by omega, ?_⟩
                refine aL _ [.old 0 ⟨24, 2, [.agg [ii 0, .nil]]⟩] (by simp [go_sem]) ?_
                simp [go_sem]
            · have e : t.take i = t := List.take_of_length_le (by simp at hd; omega)
              rw [e] at hv hv0 hlv ⊢
              rw [if_pos hv]
              have cm := cU (if ng then -1 else 1) (if ng then -numF t else numF t) (dg (numF t)) (by omega) (aN _) (by rw [aU hv0]; unfold ab; cases ng <;> simp <;> omega) (fun q => by unfold sg; cases ng <;> simp at q ⊢ <;> omega)
              (repeat (first | refine aC ?_ | refine a7 ?_ | ((first | refine a8 [0, 2, 3, 4, 5, 6, 7, 8, 17, 30, 35, 47, 52, 68] hX ?_ | refine a6 [0, 2, 3, 4, 5, 6, 7, 8, 17, 30, 35, 47, 52, 68] hX mixed ?_ | refine aD ?_ | refine aA ?_ | refine aB ?_); (simp [go_sem]; try (refine ⟨by kernel_rfl, ?_⟩)))))
              first | refine aE (cm) rfl (by simp [go_sem]) rfl ?_ | refine aF (cm) rfl (by simp [go_sem]) rfl ?_
              try (simp [go_sem]; try (refine ⟨by kernel_rfl, ?_⟩))
              (repeat (first | refine aC ?_ | refine a7 ?_ | ((first | refine a8 [0, 2, 3, 4, 5, 6, 7, 8, 17, 30, 35, 47, 52, 68] hX ?_ | refine a6 [0, 2, 3, 4, 5, 6, 7, 8, 17, 30, 35, 47, 52, 68] hX mixed ?_ | refine aD ?_ | refine aA ?_ | refine aB ?_); (simp [go_sem]; try (refine ⟨by kernel_rfl, ?_⟩)))))
end Go.Proofs.YtebinaffldlihaaGreatDoor
