/-
  Layer 18: dividing by weights.
-/
import Derived.Test.YtjgkjenbgadacaaDoorSplA
import Derived.Test.YtjgkjenbgadacaaDoorStahSplC
set_option linter.all false
namespace Go.Proofs.YtjgkjenbgadacaaDoor
open Go.RowKit Go.Ab
attribute [local irreducible] AWP Go.Ab.Sub Means MeansH CallK CallG CallT CallGT CallU

/-- A row that is filled so far. -/
def part (L : List Int) (k : Nat) : List Int := L.take k ++ List.replicate (L.length - k) 0
theorem part_len {L : List Int} {k : Nat} (h : k ≤ L.length) : (part L k).length = L.length := by simp [part]; omega
theorem part_zero (L : List Int) : part L 0 = List.replicate L.length 0 := by simp [part]
theorem part_full (L : List Int) : part L L.length = L := by simp [part]
theorem part_set {L : List Int} {k : Nat} (h : k < L.length) : (part L k).set k L[k] = part L (k + 1) := by
  unfold part
  rw [List.set_append_right _ _ (by rw [List.length_take]; omega), List.length_take, Nat.min_eq_left (by omega), Nat.sub_self]
  rw [show L.length - k = (L.length - (k + 1)) + 1 by omega, List.replicate_succ, List.set_cons_zero, List.take_succ_eq_append_getElem h, List.append_assoc]
  rfl

theorem nth_set_ii {L : List Int} {k : Nat} {v : Int} (h : k < L.length) : nth ((L.map ii).set k (ii v)) k = ii v := by
  have e : (L.map ii).set k (ii v) = (L.set k v).map ii := by rw [List.map_set]
  rw [e, nth_ii (by simpa using h)]
  simp
theorem rF_okR {h s : Int} (hs : 0 < s ∧ s ≤ 4611686018427387904) (C : List Int) : okR (rF h s C) := by
  intro r hr
  simp only [rF, List.mem_map] at hr
  obtain ⟨c, _, rfl⟩ := hr
  have h1 := Int.emod_nonneg (h * c) (show s ≠ 0 by omega)
  have h2 := Int.emod_lt_of_pos (h * c) hs.1
  omega
theorem left_m {q : List Int} {B : Int} (h : ∀ x ∈ q, 0 ≤ x ∧ x ≤ B) (hB : 0 ≤ B) (k : Nat) (hk : k ≤ 60) : 0 ≤ sumL (q.take k) ∧ sumL (q.take k) ≤ 60 * B := by
  have : ∀ l : List Int, (∀ x ∈ l, 0 ≤ x ∧ x ≤ B) → 0 ≤ sumL l ∧ sumL l ≤ l.length * B := by
    intro l
    induction l with
    | nil => intro _; simp
    | cons a l ih =>
      intro h
      have h1 := h a (by simp)
      have h2 := ih fun x hx => h x (List.mem_cons_of_mem _ hx)
      simp only [sumL_cons, List.length_cons]; push_cast; rw [Int.add_mul]; omega
  have h1 := this (q.take k) fun x hx => h x (List.mem_of_mem_take hx)
  have h2 : ((q.take k).length : Int) * B ≤ 60 * B := Int.mul_le_mul_of_nonneg_right (by rw [List.length_take]; omega) hB
  omega

set_option maxHeartbeats 16000000 in
set_option maxRecDepth 20000 in
theorem weighted_m (n : Int) (W : List Int) (hl : W.length ≤ 9223372036854775807) :
    Means true Tryd.prog 55 [ii n, il W] (.tup [il (if isAm n = true ∧ wsum W ≠ 0 then wtd W n else []), ii (if isAm n = true ∧ wsum W ≠ 0 then 0 else 1)]) := by
  by_cases hc : isAm n = true ∧ wsum W ≠ 0
  · rw [if_pos hc, if_pos hc]
    obtain ⟨hn, hW⟩ := hc
    obtain ⟨hok, hse, hs0⟩ := wsum_pos hW
    have hl60 := okW_len hok
    have hsb := (okW_sum hok).2
    have hn2 : 0 ≤ n ∧ n ≤ 1099511627776 := by simpa [isAm] using hn
    have hlb := left_bd (h := n) hs0
    have hqi := qF_in (n := n) hok hn2.1 hs0
    have hsm := wsum_m W hl
    rw [hse] at hsm
    have hwt : wtd W n = bumps (qF n (sumL W) W) ((srt (kf (rF n (sumL W) W)) (idxI W.length)).take (n - sumL (qF n (sumL W) W)).toNat) := rfl
    rw [hwt]
    generalize sumL W = s at *
    have hrok : okR (rF n s W) := rF_okR (by omega) W
    have hS := sortG_m (idxI W.length) (rF n s W) (List.pairwise_iff_getElem.2 fun i j hi hj hij => idxI_ord _ i j hi hj hij) (fun x hx => by rw [rF_len]; exact idxI_mem.1 hx) (by rw [idxI_len]; omega) (by rw [rF_len]; omega) hrok
    have hql : (qF n s W).length = W.length := qF_len _ _ _
    have hrl : (rF n s W).length = W.length := rF_len _ _ _
    have hil : (idxI W.length).length = W.length := idxI_len _
    have hqa : ∀ k (hk : k < W.length) (hk' : k < (qF n s W).length), (qF n s W)[k] = n * W[k] / s := fun k hk hk' => by simp [qF]
    have hra : ∀ k (hk : k < W.length) (hk' : k < (rF n s W).length), (rF n s W)[k] = n * W[k] % s := fun k hk hk' => by simp [rF]
    have hia : ∀ k (hk' : k < (idxI W.length).length), (idxI W.length)[k] = k := fun k hk' => idxI_at hk'
    obtain ⟨m, hm⟩ : ∃ m : Nat, (m : Int) = n - sumL (qF n s W) := ⟨(n - sumL (qF n s W)).toNat, by omega⟩
    have hmt : (n - sumL (qF n s W)).toNat = m := by omega
    rw [hmt]
    have hmW : m ≤ W.length := by omega
    obtain ⟨O, hO⟩ : ∃ O, srt (kf (rF n s W)) (idxI W.length) = O := ⟨_, rfl⟩
    rw [hO] at hS ⊢
    have hOl : O.length = W.length := by rw [← hO, srt_len, idxI_len]
    have hOm : ∀ x ∈ O, 0 ≤ x ∧ x < W.length := fun x hx => by
      rw [← hO] at hx
      exact idxI_mem.1 ((srt_perm _ _).mem_iff.1 hx)
    have hlm := fun k hk => left_m (q := qF n s W) hqi hn2.1 k hk
    have hsc : ∀ k (hk : k < W.length) (hk' : k < (qF n s W).length), sumL ((qF n s W).take (k + 1)) = sumL ((qF n s W).take k) + (qF n s W)[k] := fun k _ hk' => sumL_succ hk'
    generalize hQ : qF n s W = Q at *
    generalize hR : rF n s W = R at *
    generalize hI : idxI W.length = I at *
    have pq := fun k (hk : k < Q.length) => part_set hk
    have pr := fun k (hk : k < R.length) => part_set hk
    have pi := fun k (hk : k < I.length) => part_set hk
    have plq := fun k hk => part_len (L := Q) (k := k) hk
    have plr := fun k hk => part_len (L := R) (k := k) hk
    have pli := fun k hk => part_len (L := I) (k := k) hk
    have pz1 := part_zero Q
    have pz2 := part_zero R
    have pz3 := part_zero I
    rw [hql] at pz1
    rw [hrl] at pz2
    rw [hil] at pz3
    have ps := s
    refine means_fn true 84 [.tmp 4, .tmp 5] Tryd.func55 rfl rfl rfl (by simp) (by decide) rfl fun X hX => ?_
    (repeat (first | refine awp_seq ?_ | refine awp_block ?_ | ((first | refine awp_runG [0, 1, 4, 5, 6, 7, 8, 9, 10, 11, 12, 14, 23, 34, 35, 36, 37, 70, 71, 72, 73] hX ?_ | refine awp_drawnG [0, 1, 4, 5, 6, 7, 8, 9, 10, 11, 12, 14, 23, 34, 35, 36, 37, 70, 71, 72, 73] hX mixed ?_ | refine awp_ret ?_ | refine awp_skip ?_ | refine awp_exit ?_); (simp [go_sem]; try (refine ⟨by kernel_rfl, ?_⟩)))))
    first | refine callK_intro (hsm) rfl (by simp [go_sem]) rfl ?_ | refine callT_intro (hsm) rfl (by simp [go_sem]) rfl ?_
    try (simp [go_sem]; try (refine ⟨by kernel_rfl, ?_⟩))
    (repeat (first | refine awp_seq ?_ | refine awp_block ?_ | ((first | refine awp_runG [0, 1, 4, 5, 6, 7, 8, 9, 10, 11, 12, 14, 23, 34, 35, 36, 37, 70, 71, 72, 73] hX ?_ | refine awp_drawnG [0, 1, 4, 5, 6, 7, 8, 9, 10, 11, 12, 14, 23, 34, 35, 36, 37, 70, 71, 72, 73] hX mixed ?_ | refine awp_ret ?_ | refine awp_skip ?_ | refine awp_exit ?_); (simp [go_sem]; try (refine ⟨by kernel_rfl, ?_⟩)))))
    first | refine callK_intro (amount_m n) rfl (by simp [go_sem]) rfl ?_ | refine callT_intro (amount_m n) rfl (by simp [go_sem]) rfl ?_
    try (simp [go_sem]; try (refine ⟨by kernel_rfl, ?_⟩))
    have hs1 : s ≠ 0 := by omega
    refine awp_cond (b := false) (by simp [go_sem, hn, hs1]) (fun h => by cases h) (fun _ => ?_)
    (repeat (first | refine awp_seq ?_ | refine awp_block ?_ | ((first | refine awp_runG [0, 1, 4, 5, 6, 7, 8, 9, 10, 11, 12, 14, 23, 34, 35, 36, 37, 70, 71, 72, 73] hX ?_ | refine awp_skip ?_ | refine awp_exit ?_); (simp [go_sem]; try (refine ⟨by kernel_rfl, ?_⟩)))))
    refine awp_drawUG [0, 1, 4, 5, 6, 7, 8, 9, 10, 11, 12, 14, 23, 34, 35, 36, 37, 70, 71, 72, 73] 3 hX mixed ?_; (simp [go_sem]; try (refine ⟨by kernel_rfl, ?_⟩))
    (repeat refine And.intro (by first | omega | (unfold maxLen; omega) | kernel_rfl | (refine ⟨by first | omega | (unfold maxLen; omega), by first | omega | (unfold maxLen; omega)⟩) | grind) ?_)
    refine ⟨⟨by kernel_rfl, by kernel_rfl⟩, ?_⟩
    (repeat (first | refine awp_seq ?_ | refine awp_block ?_ | ((first | refine awp_runG [0, 1, 4, 5, 6, 7, 8, 9, 10, 11, 12, 14, 23, 34, 35, 36, 37, 70, 71, 72, 73] hX ?_ | refine awp_drawnG [0, 1, 4, 5, 6, 7, 8, 9, 10, 11, 12, 14, 23, 34, 35, 36, 37, 70, 71, 72, 73] hX mixed ?_ | refine awp_ret ?_ | refine awp_skip ?_ | refine awp_exit ?_); (simp [go_sem]; try (refine ⟨by kernel_rfl, ?_⟩)))))
    (repeat refine And.intro (by first | omega | (unfold maxLen; omega) | kernel_rfl | (refine ⟨by first | omega | (unfold maxLen; omega), by first | omega | (unfold maxLen; omega)⟩) | grind) ?_)
    (repeat (first | refine awp_seq ?_ | refine awp_block ?_ | ((first | refine awp_runG [0, 1, 4, 5, 6, 7, 8, 9, 10, 11, 12, 14, 23, 34, 35, 36, 37, 70, 71, 72, 73] hX ?_ | refine awp_drawnG [0, 1, 4, 5, 6, 7, 8, 9, 10, 11, 12, 14, 23, 34, 35, 36, 37, 70, 71, 72, 73] hX mixed ?_ | refine awp_ret ?_ | refine awp_skip ?_ | refine awp_exit ?_); (simp [go_sem]; try (refine ⟨by kernel_rfl, ?_⟩)))))
    refine awp_loop (fun k : Nat => ⟨mkE [(0, ii n), (6, ii s), (7, .ow 0), (8, .el 2 1 0 0), (9, .ow 3), (10, ii (n - sumL (Q.take k))), (34, il W), (35, ii W.length), (36, ii k)], [rowI (part Q k), rowI (part R k), .row ⟨25, 1, [.ow 1]⟩, rowI (part I k)]⟩) (fun k => k ≤ W.length) (fun k => W.length - k) 0 ?_ ?_ ?_
    · rw [pz1, pz2, pz3]
      refine sub_of _ [.old 0 ⟨3, 1, (List.replicate W.length (0 : Int)).map ii⟩, .old 1 ⟨3, 1, (List.replicate W.length (0 : Int)).map ii⟩, .old 2 ⟨25, 1, [.ow 1]⟩, .old 3 ⟨3, 1, (List.replicate W.length (0 : Int)).map ii⟩] ?_ ?_
      · simp [go_sem, List.map_replicate]
      · simp [go_sem]
    · omega
    · intro k hk
      have lb := hlm k (by omega)
      have l1 := plq k (by omega)
      have l2 := plr k (by omega)
      have l3 := pli k (by omega)
      (repeat (first | refine awp_seq ?_ | refine awp_block ?_ | ((first | refine awp_runG [0, 1, 4, 5, 6, 7, 8, 9, 10, 11, 12, 14, 23, 34, 35, 36, 37, 70, 71, 72, 73] hX ?_ | refine awp_drawnG [0, 1, 4, 5, 6, 7, 8, 9, 10, 11, 12, 14, 23, 34, 35, 36, 37, 70, 71, 72, 73] hX mixed ?_ | refine awp_ret ?_ | refine awp_skip ?_ | refine awp_exit ?_); (simp [go_sem]; try (refine ⟨by kernel_rfl, ?_⟩)))))
      refine awp_cond (b := decide (k < W.length)) (by simp [go_sem]) (fun hc => ?_) (fun hc => ?_)
      · simp at hc
        have hwr := okW_mem hok (List.getElem_mem hc)
        have hq := quota_m n W[k] s hn2 hwr (by omega)
        have a1 := pq k (by omega)
        have a2 := pr k (by omega)
        have a3 := pi k (by omega)
        have b1 := hqa k hc (by omega)
        have b2 := hra k hc (by omega)
        have b3 := hia k (by omega)
        have lb2 := hlm (k + 1) (by omega)
        have sc := hsc k hc (by omega)
        have hqk := hqi Q[k] (List.getElem_mem (by omega))
        obtain ⟨q, hqe⟩ : ∃ q, Q[k]'(by omega) = q := ⟨_, rfl⟩
        obtain ⟨r, hre⟩ : ∃ r, R[k]'(by omega) = r := ⟨_, rfl⟩
        rw [hqe] at a1 b1 sc hqk
        rw [hre] at a2 b2
        rw [b3] at a3
        rw [← b1, ← b2] at hq
        rw [sc] at lb2
        have hkq : k < (part Q k).length := by omega
        have hkr : k < (part R k).length := by omega
        have hki : k < (part I k).length := by omega
        have hw1 := w64 (x := n - sumL (Q.take k) - q) (by omega) (by omega)
        have hw2 := w64 (x := (k : Int) + 1) (by omega) (by omega)
        have hse : n - (sumL (Q.take k) + q) = n - sumL (Q.take k) - q := by omega
        clear b3 hqe hre l1 l2 l3 pq pr pi plq plr pli
        generalize part Q k = PQ at *
        generalize part R k = PR at *
        generalize part I k = PI at *
        have hns := nth_set_ii (v := q) hkq
        (repeat (first | refine awp_seq ?_ | refine awp_block ?_ | ((first | refine awp_runG [0, 1, 4, 5, 6, 7, 8, 9, 10, 11, 12, 14, 23, 34, 35, 36, 37, 70, 71, 72, 73] hX ?_ | refine awp_drawnG [0, 1, 4, 5, 6, 7, 8, 9, 10, 11, 12, 14, 23, 34, 35, 36, 37, 70, 71, 72, 73] hX mixed ?_ | refine awp_ret ?_ | refine awp_skip ?_ | refine awp_exit ?_); (simp [go_sem, hc]; try (refine ⟨by kernel_rfl, ?_⟩)))))
        first | refine callK_intro (hq) rfl (by simp [go_sem]) rfl ?_ | refine callT_intro (hq) rfl (by simp [go_sem]) rfl ?_
        try (simp [go_sem]; try (refine ⟨by kernel_rfl, ?_⟩))
        (repeat (first | refine awp_seq ?_ | refine awp_block ?_ | ((first | refine awp_runG [0, 1, 4, 5, 6, 7, 8, 9, 10, 11, 12, 14, 23, 34, 35, 36, 37, 70, 71, 72, 73] hX ?_ | refine awp_drawnG [0, 1, 4, 5, 6, 7, 8, 9, 10, 11, 12, 14, 23, 34, 35, 36, 37, 70, 71, 72, 73] hX mixed ?_ | refine awp_ret ?_ | refine awp_skip ?_ | refine awp_exit ?_); (simp [go_sem, hkq, hkr, hki, hw1, hw2, hns]; try (refine ⟨by kernel_rfl, ?_⟩)))))
        try (repeat refine And.intro (by first | omega | (unfold maxLen; omega) | kernel_rfl | (refine ⟨by first | omega | (unfold maxLen; omega), by first | omega | (unfold maxLen; omega)⟩) | grind) ?_)
        try (repeat (first | refine awp_seq ?_ | refine awp_block ?_ | ((first | refine awp_runG [0, 1, 4, 5, 6, 7, 8, 9, 10, 11, 12, 14, 23, 34, 35, 36, 37, 70, 71, 72, 73] hX ?_ | refine awp_drawnG [0, 1, 4, 5, 6, 7, 8, 9, 10, 11, 12, 14, 23, 34, 35, 36, 37, 70, 71, 72, 73] hX mixed ?_ | refine awp_ret ?_ | refine awp_skip ?_ | refine awp_exit ?_); (simp [go_sem, hkq, hkr, hki, hw1, hw2, hns]; try (refine ⟨by kernel_rfl, ?_⟩)))))
        refine ⟨k + 1, by omega, by omega, ?_⟩
        rw [← a1, ← a2, ← a3, sc, hse]
        refine sub_of _ [.old 0 ⟨3, 1, (PQ.set k q).map ii⟩, .old 1 ⟨3, 1, (PR.set k r).map ii⟩, .old 2 ⟨25, 1, [.ow 1]⟩, .old 3 ⟨3, 1, (PI.set k (k : Int)).map ii⟩] (by simp [go_sem]) ?_
        simp [go_sem]
      · have hkl : k = W.length := by simp at hc; omega
        have e1 : part Q k = Q := by rw [hkl, ← hql]; exact part_full Q
        have e2 : part R k = R := by rw [hkl, ← hrl]; exact part_full R
        have e3 : part I k = I := by rw [hkl, ← hil]; exact part_full I
        have e4 : Q.take k = Q := List.take_of_length_le (by omega)
        rw [e1, e2, e3, e4, ← hm]
        (repeat (first | refine awp_seq ?_ | refine awp_block ?_ | ((first | refine awp_runG [0, 1, 4, 5, 6, 7, 8, 9, 10, 11, 12, 14, 23, 34, 35, 36, 37, 70, 71, 72, 73] hX ?_ | refine awp_drawnG [0, 1, 4, 5, 6, 7, 8, 9, 10, 11, 12, 14, 23, 34, 35, 36, 37, 70, 71, 72, 73] hX mixed ?_ | refine awp_ret ?_ | refine awp_skip ?_ | refine awp_exit ?_); (simp [go_sem]; try (refine ⟨by kernel_rfl, ?_⟩)))))
        first | refine callH_intro [3, 2, 1] (hS) (by simp [go_sem]) ?_ | refine callTQ_intro [3, 2, 1] (hS) (by simp [go_sem]) ?_ | refine callTE_intro [3, 2, 1] (hS) (by simp [go_sem]) ?_
        try (simp [go_sem]; try (refine ⟨by kernel_rfl, ?_⟩))
        (repeat (first | refine awp_seq ?_ | refine awp_block ?_ | ((first | refine awp_runG [0, 1, 4, 5, 6, 7, 8, 9, 10, 11, 12, 14, 23, 34, 35, 36, 37, 70, 71, 72, 73] hX ?_ | refine awp_drawnG [0, 1, 4, 5, 6, 7, 8, 9, 10, 11, 12, 14, 23, 34, 35, 36, 37, 70, 71, 72, 73] hX mixed ?_ | refine awp_ret ?_ | refine awp_skip ?_ | refine awp_exit ?_); (simp [go_sem, hmW, hOl]; try (refine ⟨by kernel_rfl, ?_⟩)))))
        refine awp_loop (fun j : Nat => ⟨mkE [(7, .ow 0), (70, .wn 1 1 0 m), (71, ii m), (72, ii j)], [rowI (bumps Q (O.take j)), rowI O]⟩) (fun j => j ≤ m) (fun j => m - j) 0 ?_ ?_ ?_
        · refine sub_of _ [.old 0 ⟨3, 1, Q.map ii⟩, .old 3 ⟨3, 1, O.map ii⟩] (by simp [go_sem, bumps]) ?_
          simp [go_sem, bumps]
        · omega
        · intro j hj
          have hbl := bumps_len (O.take j) Q
          (repeat (first | refine awp_seq ?_ | refine awp_block ?_ | ((first | refine awp_runG [0, 1, 4, 5, 6, 7, 8, 9, 10, 11, 12, 14, 23, 34, 35, 36, 37, 70, 71, 72, 73] hX ?_ | refine awp_drawnG [0, 1, 4, 5, 6, 7, 8, 9, 10, 11, 12, 14, 23, 34, 35, 36, 37, 70, 71, 72, 73] hX mixed ?_ | refine awp_ret ?_ | refine awp_skip ?_ | refine awp_exit ?_); (simp [go_sem]; try (refine ⟨by kernel_rfl, ?_⟩)))))
          refine awp_cond (b := decide (j < m)) (by simp [go_sem]) (fun hc => ?_) (fun hc => ?_)
          · simp at hc
            have hjO : j < O.length := by omega
            have hx := hOm O[j] (List.getElem_mem hjO)
            have hbs := bumps_succ (L := Q) hjO
            obtain ⟨p, hp⟩ : ∃ p : Nat, O[j] = (p : Int) := ⟨O[j].toNat, by omega⟩
            obtain ⟨B, hB⟩ : ∃ B, bumps Q (O.take j) = B := ⟨_, rfl⟩
            rw [hp] at hx hbs
            have hbd := bumps_bd (O.take j) hqi
            rw [hB] at hbl hbs hbd ⊢
            have hpB : p < B.length := by omega
            have hbd : 0 ≤ B[p] ∧ B[p] ≤ n + 60 := by
              have := hbd B[p] (List.getElem_mem _)
              rw [List.length_take] at this
              omega
            have hbe : bump B (p : Int) = B.set p (B[p] + 1) := by
              unfold bump
              rw [Int.toNat_natCast, List.getD_eq_getElem?_getD, List.getElem?_eq_getElem hpB]; rfl
            (repeat (first | refine awp_seq ?_ | refine awp_block ?_ | ((first | refine awp_runG [0, 1, 4, 5, 6, 7, 8, 9, 10, 11, 12, 14, 23, 34, 35, 36, 37, 70, 71, 72, 73] hX ?_ | refine awp_drawnG [0, 1, 4, 5, 6, 7, 8, 9, 10, 11, 12, 14, 23, 34, 35, 36, 37, 70, 71, 72, 73] hX mixed ?_ | refine awp_ret ?_ | refine awp_skip ?_ | refine awp_exit ?_); (simp [go_sem, hc, hjO, hp, hpB]; (try simp (disch := omega) only [w64, td, tm]); try (refine ⟨by kernel_rfl, ?_⟩)))))
            (repeat refine And.intro (by first | omega | (unfold maxLen; omega) | kernel_rfl | (refine ⟨by first | omega | (unfold maxLen; omega), by first | omega | (unfold maxLen; omega)⟩) | grind) ?_)
            (repeat (first | refine awp_seq ?_ | refine awp_block ?_ | ((first | refine awp_runG [0, 1, 4, 5, 6, 7, 8, 9, 10, 11, 12, 14, 23, 34, 35, 36, 37, 70, 71, 72, 73] hX ?_ | refine awp_drawnG [0, 1, 4, 5, 6, 7, 8, 9, 10, 11, 12, 14, 23, 34, 35, 36, 37, 70, 71, 72, 73] hX mixed ?_ | refine awp_ret ?_ | refine awp_skip ?_ | refine awp_exit ?_); (simp [go_sem, hc, hjO, hp, hpB]; (try simp (disch := omega) only [w64, td, tm]); try (refine ⟨by kernel_rfl, ?_⟩)))))
            refine ⟨j + 1, by omega, by omega, ?_⟩
            rw [hbs, hbe]
            refine sub_of _ [.old 0 ⟨3, 1, (B.set p (B[p] + 1)).map ii⟩, .old 1 ⟨3, 1, O.map ii⟩] (by simp [go_sem]) ?_
            simp [go_sem]
            try omega
          · have : j = m := by simp at hc; omega
            subst this
            (repeat (first | refine awp_seq ?_ | refine awp_block ?_ | ((first | refine awp_runG [0, 1, 4, 5, 6, 7, 8, 9, 10, 11, 12, 14, 23, 34, 35, 36, 37, 70, 71, 72, 73] hX ?_ | refine awp_drawnG [0, 1, 4, 5, 6, 7, 8, 9, 10, 11, 12, 14, 23, 34, 35, 36, 37, 70, 71, 72, 73] hX mixed ?_ | refine awp_ret ?_ | refine awp_skip ?_ | refine awp_exit ?_); (simp [go_sem]; try (refine ⟨by kernel_rfl, ?_⟩)))))
  · rw [if_neg hc, if_neg hc]
    have hsm := wsum_m W hl
    refine means_fn true 84 [.tmp 4, .tmp 5] Tryd.func55 rfl rfl rfl (by simp) (by decide) rfl fun X hX => ?_
    (repeat (first | refine awp_seq ?_ | refine awp_block ?_ | ((first | refine awp_runG [0, 1, 4, 5, 6, 7, 8, 9, 10, 11, 12, 14, 23, 34, 35, 36, 37, 70, 71, 72, 73] hX ?_ | refine awp_drawnG [0, 1, 4, 5, 6, 7, 8, 9, 10, 11, 12, 14, 23, 34, 35, 36, 37, 70, 71, 72, 73] hX mixed ?_ | refine awp_ret ?_ | refine awp_skip ?_ | refine awp_exit ?_); (simp [go_sem]; try (refine ⟨by kernel_rfl, ?_⟩)))))
    first | refine callK_intro (hsm) rfl (by simp [go_sem]) rfl ?_ | refine callT_intro (hsm) rfl (by simp [go_sem]) rfl ?_
    try (simp [go_sem]; try (refine ⟨by kernel_rfl, ?_⟩))
    (repeat (first | refine awp_seq ?_ | refine awp_block ?_ | ((first | refine awp_runG [0, 1, 4, 5, 6, 7, 8, 9, 10, 11, 12, 14, 23, 34, 35, 36, 37, 70, 71, 72, 73] hX ?_ | refine awp_drawnG [0, 1, 4, 5, 6, 7, 8, 9, 10, 11, 12, 14, 23, 34, 35, 36, 37, 70, 71, 72, 73] hX mixed ?_ | refine awp_ret ?_ | refine awp_skip ?_ | refine awp_exit ?_); (simp [go_sem]; try (refine ⟨by kernel_rfl, ?_⟩)))))
    first | refine callK_intro (amount_m n) rfl (by simp [go_sem]) rfl ?_ | refine callT_intro (amount_m n) rfl (by simp [go_sem]) rfl ?_
    try (simp [go_sem]; try (refine ⟨by kernel_rfl, ?_⟩))
    refine awp_cond (b := true) (by
      cases h1 : isAm n with
      | false => simp [go_sem, h1]
      | true =>
        have h2 : wsum W = 0 := by
          rw [h1] at hc; simpa using hc
        simp [go_sem, h1, h2]) (fun _ => ?_) (fun h => by cases h)
    (repeat (first | refine awp_seq ?_ | refine awp_block ?_ | ((first | refine awp_runG [0, 1, 4, 5, 6, 7, 8, 9, 10, 11, 12, 14, 23, 34, 35, 36, 37, 70, 71, 72, 73] hX ?_ | refine awp_drawnG [0, 1, 4, 5, 6, 7, 8, 9, 10, 11, 12, 14, 23, 34, 35, 36, 37, 70, 71, 72, 73] hX mixed ?_ | refine awp_ret ?_ | refine awp_skip ?_ | refine awp_exit ?_); (simp [go_sem]; try (refine ⟨by kernel_rfl, ?_⟩)))))

end Go.Proofs.YtjgkjenbgadacaaDoor
