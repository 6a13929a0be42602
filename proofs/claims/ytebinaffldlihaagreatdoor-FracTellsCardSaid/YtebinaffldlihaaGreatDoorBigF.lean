import Derived.Test.YtebinaffldlihaaGreatDoorBigE
set_option linter.all false
namespace Go.Proofs.YtebinaffldlihaaGreatDoor
open Go.RowKit Go.Ab
attribute [local irreducible] AWP Go.Ab.Sub Means MeansH CallK CallG CallT CallGT
set_option maxHeartbeats 4000000 in
set_option maxRecDepth 20000 in
theorem zW (a b : List Int) (ha : okD a) (hb : okD b) (hla : a.length ≤ 10000) (hlb : b.length ≤ 10000) :
    MeansH Tryz.prog 60 [.row ⟨3, 1, b.map ii⟩] [il a, .ow 0] (.wn 1 1 0 (dg (val a * val b)).length) [.row ⟨3, 1, b.map ii⟩, .row ⟨3, 1, (mrC b a (List.replicate (a.length + b.length) 0)).map ii⟩] := by
  obtain ⟨hv, hok, hlen⟩ := eZ b hb a (List.replicate (a.length + b.length) 0) ha (cB _) (by simp) (fun j hj _ => by simp)
  rw [dH, Int.zero_add] at hv
  rw [List.length_replicate] at hlen
  generalize hRR : mrC b a (List.replicate (a.length + b.length) 0) = RR at *
  refine dI 1 67 [.tmp 4] Tryz.func60 rfl rfl rfl (by simp) (by decide) rfl fun X hX => ?_
  have hrl : ((a.length : Int) + (b.length : Int)).toNat = a.length + b.length := by omega
  (repeat (first | refine aC ?_ | refine a7 ?_ | ((first | refine a8 [0, 1, 4, 5, 6, 7, 8, 9, 10, 11, 18, 19, 20, 21, 25, 26, 27, 28, 1000000] hX ?_ | refine a6 [0, 1, 4, 5, 6, 7, 8, 9, 10, 11, 18, 19, 20, 21, 25, 26, 27, 28, 1000000] hX mixed ?_ | refine aA ?_ | refine aB ?_); (simp [go_sem]; (try simp (disch := omega) only [w64, td, tm]); try (refine ⟨by kernel_rfl, ?_⟩)))))
  (repeat refine And.intro (by first | omega | (unfold maxLen; omega) | kernel_rfl | (refine ⟨by first | omega | (unfold maxLen; omega), by first | omega | (unfold maxLen; omega)⟩) | grind) ?_)
  (repeat (first | refine aC ?_ | refine a7 ?_ | ((first | refine a8 [0, 1, 4, 5, 6, 7, 8, 9, 10, 11, 18, 19, 20, 21, 25, 26, 27, 28, 1000000] hX ?_ | refine a6 [0, 1, 4, 5, 6, 7, 8, 9, 10, 11, 18, 19, 20, 21, 25, 26, 27, 28, 1000000] hX mixed ?_ | refine aA ?_ | refine aB ?_); (simp [go_sem]; (try simp (disch := omega) only [w64, td, tm]); try (refine ⟨by kernel_rfl, ?_⟩)))))
  refine aQ (fun x : Nat × List Int => ⟨mkE [(0, il a), (1, .ow 0), (5, .ow 1), (18, il a), (19, ii a.length), (20, ii x.1), (1000000, .ow 0)], [.row ⟨3, 1, b.map ii⟩, .row ⟨3, 1, x.2.map ii⟩]⟩)
    (fun x => x.1 ≤ a.length ∧ x.2.length = a.length + b.length ∧ okD x.2 ∧ (∀ j (hj : j < x.2.length), x.1 + b.length ≤ j → x.2[j] = 0) ∧ RR = x.2.take x.1 ++ mrC b (a.drop x.1) (x.2.drop x.1)) (fun x => a.length - x.1) (0, List.replicate (a.length + b.length) 0) ?_ ?_ ?_
  · refine aL _ [.old 0 ⟨3, 1, b.map ii⟩, .old 1 ⟨3, 1, (List.replicate (a.length + b.length) (0 : Int)).map ii⟩] (by simp [go_sem, hrl]) ?_
    simp [go_sem]
  · refine ⟨Nat.zero_le _, by simp, cB _, fun j hj _ => by simp, by simp [hRR]⟩
  · rintro ⟨i, T⟩ ⟨hi, hT, hTo, hTz, hE⟩
    simp only [] at hi hT hTo hTz hE
    (repeat (first | refine aC ?_ | refine a7 ?_ | ((first | refine a8 [0, 1, 4, 5, 6, 7, 8, 9, 10, 11, 18, 19, 20, 21, 25, 26, 27, 28, 1000000] hX ?_ | refine a6 [0, 1, 4, 5, 6, 7, 8, 9, 10, 11, 18, 19, 20, 21, 25, 26, 27, 28, 1000000] hX mixed ?_ | refine aA ?_ | refine aB ?_); (simp [go_sem]; try (refine ⟨by kernel_rfl, ?_⟩)))))
    refine aG (b := decide (i < a.length)) (by simp [go_sem]) (fun hd => ?_) (fun hd => ?_)
    · simp at hd
      have hx := b7 ha hd
      (repeat (first | refine aC ?_ | refine a7 ?_ | ((first | refine a8 [0, 1, 4, 5, 6, 7, 8, 9, 10, 11, 18, 19, 20, 21, 25, 26, 27, 28, 1000000] hX ?_ | refine a6 [0, 1, 4, 5, 6, 7, 8, 9, 10, 11, 18, 19, 20, 21, 25, 26, 27, 28, 1000000] hX mixed ?_ | refine aA ?_ | refine aB ?_); (simp [go_sem, hd]; (try simp (disch := omega) only [w64, td, tm]); try (refine ⟨by kernel_rfl, ?_⟩)))))
      try (simp [go_sem, hd]; try (refine ⟨by kernel_rfl, ?_⟩))
      have hlz := fP a[i] 0 b (T.drop i)
      obtain ⟨hao, haz⟩ := mR a[i] hx 0 b (T.drop i) (by decide) hb (bH hTo i) (fun j hj h => by
        have := hTz (i + j) (by simp at hj; omega) (by omega)
        simpa using this)
      refine aQ (fun x : Nat × List Int × Int => ⟨mkE [(0, il a), (1, .ow 0), (5, .ow 1), (6, ii i), (7, ii a[i]), (8, ii x.2.2), (18, il a), (19, ii a.length), (20, ii i), (25, .ow 0), (26, ii b.length), (27, ii x.1), (1000000, .ow 0)], [.row ⟨3, 1, b.map ii⟩, .row ⟨3, 1, x.2.1.map ii⟩]⟩)
        (fun x => x.1 ≤ b.length ∧ x.2.1.length = a.length + b.length ∧ okD x.2.1 ∧ (∀ j (hj : j < x.2.1.length), i + b.length ≤ j → x.2.1[j] = 0) ∧ (0 ≤ x.2.2 ∧ x.2.2 < 1048576) ∧
          T.take i ++ amC a[i] 0 b (T.drop i) = x.2.1.take (i + x.1) ++ amC a[i] x.2.2 (b.drop x.1) (x.2.1.drop (i + x.1))) (fun x => b.length - x.1) (0, T, 0) ?_ ?_ ?_
      · refine aL _ [.old 0 ⟨3, 1, b.map ii⟩, .old 1 ⟨3, 1, T.map ii⟩] (by simp [go_sem]) ?_
        simp [go_sem]
      · exact ⟨Nat.zero_le _, hT, hTo, hTz, ⟨Int.le_refl 0, by show (0 : Int) < 1048576; decide⟩, by simp⟩
      · rintro ⟨k, S, c⟩ ⟨hk, hS, hSo, hSz, hc, hF⟩
        simp only [] at hk hS hSo hSz hc hF
        (repeat (first | refine aC ?_ | refine a7 ?_ | ((first | refine a8 [0, 1, 4, 5, 6, 7, 8, 9, 10, 11, 18, 19, 20, 21, 25, 26, 27, 28, 1000000] hX ?_ | refine a6 [0, 1, 4, 5, 6, 7, 8, 9, 10, 11, 18, 19, 20, 21, 25, 26, 27, 28, 1000000] hX mixed ?_ | refine aA ?_ | refine aB ?_); (simp [go_sem]; try (refine ⟨by kernel_rfl, ?_⟩)))))
        refine aG (b := decide (k < b.length)) (by simp [go_sem]) (fun hd2 => ?_) (fun hd2 => ?_)
        · simp at hd2
          have hy := b7 hb hd2
          have hik : i + k < S.length := by omega
          have hs := b7 hSo hik
          have hm := eY hx hy
          rw [List.drop_eq_getElem_cons hd2, List.drop_eq_getElem_cons hik, amC] at hF
          have hik2 : (i : Int) + k < S.length := by omega
          (repeat (first | refine aC ?_ | refine a7 ?_ | ((first | refine a8 [0, 1, 4, 5, 6, 7, 8, 9, 10, 11, 18, 19, 20, 21, 25, 26, 27, 28, 1000000] hX ?_ | refine a6 [0, 1, 4, 5, 6, 7, 8, 9, 10, 11, 18, 19, 20, 21, 25, 26, 27, 28, 1000000] hX mixed ?_ | refine aA ?_ | refine aB ?_); (simp [go_sem, hd2, hik, hik2]; (try simp (disch := omega) only [w64, td, tm]); try (refine ⟨by kernel_rfl, ?_⟩)))))
          try (simp [go_sem, hd2, hik, hik2]; try (refine ⟨by kernel_rfl, ?_⟩))
          (repeat refine And.intro (by first | omega | (unfold maxLen; omega) | kernel_rfl | (refine ⟨by first | omega | (unfold maxLen; omega), by first | omega | (unfold maxLen; omega)⟩) | grind) ?_)
          (repeat (first | refine aC ?_ | refine a7 ?_ | ((first | refine a8 [0, 1, 4, 5, 6, 7, 8, 9, 10, 11, 18, 19, 20, 21, 25, 26, 27, 28, 1000000] hX ?_ | refine a6 [0, 1, 4, 5, 6, 7, 8, 9, 10, 11, 18, 19, 20, 21, 25, 26, 27, 28, 1000000] hX mixed ?_ | refine aA ?_ | refine aB ?_); (simp [go_sem]; (try simp (disch := omega) only [w64, td, tm]); try (refine ⟨by kernel_rfl, ?_⟩)))))
          have hcast : ((i : Int) + (k : Int)).toNat = i + k := by omega
          refine ⟨⟨by omega, hik2⟩, by omega, ?_⟩
          try (simp [go_sem, hcast, hik]; try (refine ⟨by kernel_rfl, ?_⟩))
          (repeat (first | refine aC ?_ | refine a7 ?_ | ((first | refine a8 [0, 1, 4, 5, 6, 7, 8, 9, 10, 11, 18, 19, 20, 21, 25, 26, 27, 28, 1000000] hX ?_ | refine a6 [0, 1, 4, 5, 6, 7, 8, 9, 10, 11, 18, 19, 20, 21, 25, 26, 27, 28, 1000000] hX mixed ?_ | refine aA ?_ | refine aB ?_); (simp [go_sem]; (try simp (disch := omega) only [w64, td, tm]); try (refine ⟨by kernel_rfl, ?_⟩)))))
          refine ⟨k + 1, S.set (i + k) ((S[i + k] + a[i] * b[k] + c) % 1048576), (S[i + k] + a[i] * b[k] + c) / 1048576, ⟨by omega, by simpa using hS, dY hSo _ (by omega), ?_, by omega, ?_⟩, by omega, ?_⟩
          · intro j hj h
            have hj' : j < S.length := by simpa using hj
            rw [List.getElem_set_ne (by omega)]
            exact hSz j hj' h
          · rw [hF, ← Nat.add_assoc, cW hik, bP]; simp
          · refine aL _ [.old 0 ⟨3, 1, b.map ii⟩, .old 1 ⟨3, 1, (S.set (i + k) ((S[i + k] + a[i] * b[k] + c) % 1048576)).map ii⟩] (by simp [go_sem]) ?_
            simp [go_sem]
        · have hkl : k = b.length := by simp at hd2; omega
          subst hkl
          have hik : i + b.length < S.length := by omega
          have hik2 : (i : Int) + b.length < S.length := by omega
          have hcast : ((i : Int) + (b.length : Int)).toNat = i + b.length := by omega
          have hS0 : S[i + b.length] = 0 := hSz _ hik (Nat.le_refl _)
          rw [List.drop_length, List.drop_eq_getElem_cons hik, rE, hS0, Int.zero_add] at hF
          (repeat (first | refine aC ?_ | refine a7 ?_ | ((first | refine a8 [0, 1, 4, 5, 6, 7, 8, 9, 10, 11, 18, 19, 20, 21, 25, 26, 27, 28, 1000000] hX ?_ | refine a6 [0, 1, 4, 5, 6, 7, 8, 9, 10, 11, 18, 19, 20, 21, 25, 26, 27, 28, 1000000] hX mixed ?_ | refine aA ?_ | refine aB ?_); (simp [go_sem, hik, hik2, hS0]; (try simp (disch := omega) only [w64, td, tm]); try (refine ⟨by kernel_rfl, ?_⟩)))))
          try (simp [go_sem, hik, hik2, hS0]; try (refine ⟨by kernel_rfl, ?_⟩))
          (repeat refine And.intro (by first | omega | (unfold maxLen; omega) | kernel_rfl | (refine ⟨by first | omega | (unfold maxLen; omega), by first | omega | (unfold maxLen; omega)⟩) | grind) ?_)
          (repeat (first | refine aC ?_ | refine a7 ?_ | ((first | refine a8 [0, 1, 4, 5, 6, 7, 8, 9, 10, 11, 18, 19, 20, 21, 25, 26, 27, 28, 1000000] hX ?_ | refine a6 [0, 1, 4, 5, 6, 7, 8, 9, 10, 11, 18, 19, 20, 21, 25, 26, 27, 28, 1000000] hX mixed ?_ | refine aA ?_ | refine aB ?_); (simp [go_sem]; (try simp (disch := omega) only [w64, td, tm]); try (refine ⟨by kernel_rfl, ?_⟩)))))
          have hSe : S.set (i + b.length) c = T.take i ++ amC a[i] 0 b (T.drop i) := by rw [hF, fV hik]
          have hTd : T.drop i = T[i]'(by omega) :: T.drop (i + 1) := List.drop_eq_getElem_cons (by omega)
          obtain ⟨t, ts, ht⟩ : ∃ t ts, amC a[i] 0 b (T.drop i) = t :: ts := by
            cases h : amC a[i] 0 b (T.drop i) with
            | nil =>
              have := congrArg List.length h
              rw [fP, List.length_drop, List.length_nil] at this
              omega
            | cons t ts => exact ⟨t, ts, rfl⟩
          have htl : (T.take i).length = i := by rw [List.length_take]; omega
          rw [List.drop_eq_getElem_cons hd, o9 ht] at hE
          refine ⟨i + 1, S.set (i + b.length) c, ⟨by omega, by simpa using hS, ?_, ?_, ?_⟩, by omega, ?_⟩
          · rw [hSe]; exact cT.2 ⟨bC hTo i, hao⟩
          · intro j hj h
            have hj' : j < S.length := by simpa using hj
            rw [List.getElem_set_ne (by omega)]
            exact hSz j hj' (by omega)
          · obtain ⟨q1, q2⟩ := oA htl t ts
            rw [hSe, hE, ht, q1, q2]; simp
          · refine aL _ [.old 0 ⟨3, 1, b.map ii⟩, .old 1 ⟨3, 1, (S.set (i + b.length) c).map ii⟩] (by simp [go_sem]) ?_
            simp [go_sem]
    · have hil : i = a.length := by simp at hd; omega
      subst hil
      rw [List.drop_length, mrC, List.take_append_drop] at hE
      subst hE
      (repeat (first | refine aC ?_ | refine a7 ?_ | ((first | refine a8 [0, 1, 4, 5, 6, 7, 8, 9, 10, 11, 18, 19, 20, 21, 25, 26, 27, 28, 1000000] hX ?_ | refine a6 [0, 1, 4, 5, 6, 7, 8, 9, 10, 11, 18, 19, 20, 21, 25, 26, 27, 28, 1000000] hX mixed ?_ | refine aA ?_ | refine aB ?_); (simp [go_sem]; (try simp (disch := omega) only [w64, td, tm]); try (refine ⟨by kernel_rfl, ?_⟩)))))
      rw [← hv]
      have hdt : (dg (val RR)).length ≤ a.length + b.length := by have := (c9 hok).2; omega
      first | refine b9 [1] (bG RR (by omega) hok) (by simp [go_sem]) ?_ | refine b6 [1] (bG RR (by omega) hok) (by simp [go_sem]) ?_ | refine b4 [1] (bG RR (by omega) hok) (by simp [go_sem]) ?_
      try (simp [go_sem, hlen, hdt]; try (refine ⟨by kernel_rfl, ?_⟩))
      refine aD ?_; (try simp only [thenQ, blkQ, loopQ]); refine bY [(4, .wn 1 1 0 (dg (val RR)).length), (1000000, .ow 0)] [.old 0 ⟨3, 1, b.map ii⟩, .old 1 ⟨3, 1, RR.map ii⟩] ?_
      simp [go_sem]
end Go.Proofs.YtebinaffldlihaaGreatDoor
