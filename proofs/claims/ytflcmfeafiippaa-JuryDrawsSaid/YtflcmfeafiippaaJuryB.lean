/-
  Layer 35: who may be drawn; the draw.
-/
import Derived.Test.YtflcmfeafiippaaJuryA
set_option linter.all false
namespace Go.Proofs.Ytflcmfeafiippaa
open Go.RowKit Go.Ab
attribute [local irreducible] AWP Go.Ab.Sub Means MeansH CallK CallG CallT CallGT

@[go_sem] theorem nth_app_l {A B : List AV} {k : Nat} (h : k < A.length) : nth (A ++ B) k = nth A k := by
  unfold nth; rw [List.getD_eq_getElem?_getD, List.getD_eq_getElem?_getD, List.getElem?_append_left h]
theorem nat_mask31 (n : Nat) : n &&& 2147483647 = n % 2147483648 := Nat.and_two_pow_sub_one_eq_mod n 31
@[go_sem] theorem and_mask31 (x : Int) : andI .i64 x 2147483647 = x % 2147483648 := by
  unfold andI
  rw [BitVec.toNat_and, BitVec.toNat_ofInt, BitVec.toNat_ofInt]
  show IntKind.i64.wrap (((x % (2 ^ 64 : Nat)).toNat &&& ((2147483647 : Int) % (2 ^ 64 : Nat)).toNat : Nat) : Int) = _
  rw [show ((2147483647 : Int) % (2 ^ 64 : Nat)).toNat = 2147483647 by decide, nat_mask31, IntWalk.i64_in _ (by omega)]
  omega
@[go_sem] theorem fd16 (x : Int) : x.fdiv 65536 = x / 65536 := Int.fdiv_eq_ediv_of_nonneg _ (by decide)

theorem clone_m (L : List Int) (hl : L.length ≤ 100000) : Means true Try.prog 21 [il L] (il L) := by
  refine means_fn true 8 [.tmp 2] Try.func21 rfl rfl rfl (by simp) (by decide) rfl fun X hX => ?_
  (repeat (first | refine awp_seq ?_ | refine awp_block ?_ | (refine awp_runG [0, 2, 4] hX ?_; (simp [go_sem]; try (refine ⟨by kernel_rfl, ?_⟩))) | (refine awp_drawnG [0, 2, 4] hX mixed ?_; (simp [go_sem]; try (refine ⟨by kernel_rfl, ?_⟩))) | (refine awp_ret ?_; (simp [go_sem]; try (refine ⟨by kernel_rfl, ?_⟩))) | (refine awp_skip ?_; (simp [go_sem]; try (refine ⟨by kernel_rfl, ?_⟩))) | (refine awp_exit ?_; (simp [go_sem]; try (refine ⟨by kernel_rfl, ?_⟩)))))
  refine ⟨?_, fun hL => ?_⟩
  · refine awp_cond (b := false) (by simp [go_sem]) (fun hb => by cases hb) (fun _ => ?_)
    (repeat (first | refine awp_seq ?_ | refine awp_block ?_ | (refine awp_runG [0, 2, 4] hX ?_; (simp [go_sem]; try (refine ⟨by kernel_rfl, ?_⟩))) | (refine awp_drawnG [0, 2, 4] hX mixed ?_; (simp [go_sem]; try (refine ⟨by kernel_rfl, ?_⟩))) | (refine awp_ret ?_; (simp [go_sem]; try (refine ⟨by kernel_rfl, ?_⟩))) | (refine awp_skip ?_; (simp [go_sem]; try (refine ⟨by kernel_rfl, ?_⟩))) | (refine awp_exit ?_; (simp [go_sem]; try (refine ⟨by kernel_rfl, ?_⟩)))))
    (repeat refine And.intro (by first | omega | (unfold maxLen; omega) | kernel_rfl | (refine ⟨by first | omega | (unfold maxLen; omega), by first | omega | (unfold maxLen; omega)⟩) | grind) ?_)
    (repeat (first | refine awp_seq ?_ | refine awp_block ?_ | (refine awp_runG [0, 2, 4] hX ?_; (simp [go_sem]; try (refine ⟨by kernel_rfl, ?_⟩))) | (refine awp_drawnG [0, 2, 4] hX mixed ?_; (simp [go_sem]; try (refine ⟨by kernel_rfl, ?_⟩))) | (refine awp_ret ?_; (simp [go_sem]; try (refine ⟨by kernel_rfl, ?_⟩))) | (refine awp_skip ?_; (simp [go_sem]; try (refine ⟨by kernel_rfl, ?_⟩))) | (refine awp_exit ?_; (simp [go_sem]; try (refine ⟨by kernel_rfl, ?_⟩)))))
  · subst hL
    refine awp_cond (b := true) (by simp [go_sem]) (fun _ => ?_) (fun hb => by cases hb)
    (repeat (first | refine awp_seq ?_ | refine awp_block ?_ | (refine awp_runG [0, 2, 4] hX ?_; (simp [go_sem]; try (refine ⟨by kernel_rfl, ?_⟩))) | (refine awp_drawnG [0, 2, 4] hX mixed ?_; (simp [go_sem]; try (refine ⟨by kernel_rfl, ?_⟩))) | (refine awp_ret ?_; (simp [go_sem]; try (refine ⟨by kernel_rfl, ?_⟩))) | (refine awp_skip ?_; (simp [go_sem]; try (refine ⟨by kernel_rfl, ?_⟩))) | (refine awp_exit ?_; (simp [go_sem]; try (refine ⟨by kernel_rfl, ?_⟩)))))

theorem cloneO_m (L : List Int) (hl : L.length ≤ 100000) (h0 : L ≠ []) : MeansH Try.prog 21 [] [il L] (.ow 0) [.row ⟨3, 1, L.map ii⟩] := by
  refine meansH_fn 0 8 [.tmp 2] Try.func21 rfl rfl rfl (by simp) (by decide) rfl fun X hX => ?_
  (repeat (first | refine awp_seq ?_ | refine awp_block ?_ | (refine awp_runG [0, 2, 4] hX ?_; (simp [go_sem]; try (refine ⟨by kernel_rfl, ?_⟩))) | (refine awp_drawnG [0, 2, 4] hX mixed ?_; (simp [go_sem]; try (refine ⟨by kernel_rfl, ?_⟩))) | (refine awp_skip ?_; (simp [go_sem]; try (refine ⟨by kernel_rfl, ?_⟩))) | (refine awp_exit ?_; (simp [go_sem]; try (refine ⟨by kernel_rfl, ?_⟩)))))
  refine ⟨?_, fun hL => absurd hL (by simpa using h0)⟩
  refine awp_cond (b := false) (by simp [go_sem]) (fun hb => by cases hb) (fun _ => ?_)
  (repeat (first | refine awp_seq ?_ | refine awp_block ?_ | (refine awp_runG [0, 2, 4] hX ?_; (simp [go_sem]; try (refine ⟨by kernel_rfl, ?_⟩))) | (refine awp_drawnG [0, 2, 4] hX mixed ?_; (simp [go_sem]; try (refine ⟨by kernel_rfl, ?_⟩))) | (refine awp_skip ?_; (simp [go_sem]; try (refine ⟨by kernel_rfl, ?_⟩))) | (refine awp_exit ?_; (simp [go_sem]; try (refine ⟨by kernel_rfl, ?_⟩)))))
  (repeat refine And.intro (by first | omega | (unfold maxLen; omega) | kernel_rfl | (refine ⟨by first | omega | (unfold maxLen; omega), by first | omega | (unfold maxLen; omega)⟩) | grind) ?_)
  (repeat (first | refine awp_seq ?_ | refine awp_block ?_ | (refine awp_runG [0, 2, 4] hX ?_; (simp [go_sem]; try (refine ⟨by kernel_rfl, ?_⟩))) | (refine awp_drawnG [0, 2, 4] hX mixed ?_; (simp [go_sem]; try (refine ⟨by kernel_rfl, ?_⟩))) | (refine awp_skip ?_; (simp [go_sem]; try (refine ⟨by kernel_rfl, ?_⟩))) | (refine awp_exit ?_; (simp [go_sem]; try (refine ⟨by kernel_rfl, ?_⟩)))))
  refine awp_ret ?_; (try simp only [thenQ, blkQ, loopQ]); refine retH_ret [(2, .ow 0)] [.old 1 ⟨3, 1, L.map ii⟩] ?_
  simp [go_sem]

/-- Who is banned. -/
abbrev banH (B : List Int) : Cell := .row ⟨22, 1, [il B]⟩
abbrev rowI (L : List Int) : Cell := .row ⟨3, 1, L.map ii⟩
theorem ban_m (B : List Int) (hB : B.length ≤ 100000) (x : Int) : MeansH Try.prog 22 [banH B] [ii x, .el 0 1 0 0] (bb (decide (x ∈ B))) [banH B] := by
  refine meansH_fn 1 7 [.tmp 3] Try.func22 rfl rfl rfl (by simp) (by decide) rfl fun X hX => ?_
  (repeat (first | refine awp_seq ?_ | refine awp_block ?_ | (refine awp_runG [0, 1, 3, 1000000] hX ?_; (simp [go_sem]; try (refine ⟨by kernel_rfl, ?_⟩))) | (refine awp_drawnG [0, 1, 3, 1000000] hX mixed ?_; (simp [go_sem]; try (refine ⟨by kernel_rfl, ?_⟩))) | (refine awp_skip ?_; (simp [go_sem]; try (refine ⟨by kernel_rfl, ?_⟩))) | (refine awp_exit ?_; (simp [go_sem]; try (refine ⟨by kernel_rfl, ?_⟩)))))
  first | refine callK_intro (contains_m B (by omega) x) rfl (by simp [go_sem]) rfl ?_ | refine callT_intro (contains_m B (by omega) x) rfl (by simp [go_sem]) rfl ?_
  try (simp [go_sem]; try (refine ⟨by kernel_rfl, ?_⟩))
  (repeat (first | refine awp_seq ?_ | refine awp_block ?_ | (refine awp_runG [0, 1, 3, 1000000] hX ?_; (simp [go_sem]; try (refine ⟨by kernel_rfl, ?_⟩))) | (refine awp_drawnG [0, 1, 3, 1000000] hX mixed ?_; (simp [go_sem]; try (refine ⟨by kernel_rfl, ?_⟩))) | (refine awp_skip ?_; (simp [go_sem]; try (refine ⟨by kernel_rfl, ?_⟩))) | (refine awp_exit ?_; (simp [go_sem]; try (refine ⟨by kernel_rfl, ?_⟩)))))
  refine awp_ret ?_; (try simp only [thenQ, blkQ, loopQ]); refine retH_ret [(3, bb (decide (x ∈ B))), (1000000, .ow 0)] [.old 0 ⟨22, 1, [il B]⟩] ?_
  simp [go_sem]

/-- The first one who is banned. -/
def fbI (L B : List Int) : Int := if L.findIdx (fun x => decide (x ∈ B)) < L.length then (L.findIdx (fun x => decide (x ∈ B)) : Nat) else -1
theorem fb_at {L B : List Int} {k : Nat} (hk : k < L.length) (h0 : ∀ x ∈ L.take k, x ∉ B) (h : L[k] ∈ B) : L.findIdx (fun x => decide (x ∈ B)) = k := by
  rw [List.findIdx_eq hk]
  refine ⟨by simpa using h, fun j hj => ?_⟩
  have := h0 L[j] (List.mem_take_iff_getElem.2 ⟨j, by omega, rfl⟩)
  simpa using this
theorem fb_none {L B : List Int} (h0 : ∀ x ∈ L, x ∉ B) : fbI L B = -1 := by
  unfold fbI
  rw [if_neg]
  intro h
  have := List.findIdx_getElem (w := h)
  exact h0 _ (List.getElem_mem h) (by simpa using this)

set_option maxHeartbeats 1000000 in
theorem indexF_m (L B : List Int) (hl : L.length ≤ 100000) (hB : B.length ≤ 100000) : MeansH Try.prog 28 [rowI L, banH B] [.ow 0, .fn 22 [] [.el 1 1 0 0]] (ii (fbI L B)) [rowI L, banH B] := by
  refine meansH_fn 2 19 [.tmp 4] Try.func28 rfl rfl rfl (by simp) (by decide) rfl fun X hX => ?_
  (repeat (first | refine awp_seq ?_ | refine awp_block ?_ | (refine awp_runG [0, 1, 4, 5, 7, 8, 9, 16, 1000000, 1000001] hX ?_; (simp [go_sem]; try (refine ⟨by kernel_rfl, ?_⟩))) | (refine awp_drawnG [0, 1, 4, 5, 7, 8, 9, 16, 1000000, 1000001] hX mixed ?_; (simp [go_sem]; try (refine ⟨by kernel_rfl, ?_⟩))) | (refine awp_skip ?_; (simp [go_sem]; try (refine ⟨by kernel_rfl, ?_⟩))) | (refine awp_exit ?_; (simp [go_sem]; try (refine ⟨by kernel_rfl, ?_⟩)))))
  refine awp_loop (fun k : Nat => ⟨mkE [(0, .ow 0), (1, .fn 22 [] [.el 1 1 0 0]), (4, ii 0), (7, ii L.length), (8, ii k), (1000000, .ow 0), (1000001, .ow 1)], [rowI L, banH B]⟩) (fun k => k ≤ L.length ∧ ∀ x ∈ L.take k, x ∉ B) (fun k => L.length - k) 0 ?_ ?_ ?_
  · refine sub_of _ [.old 0 ⟨3, 1, L.map ii⟩, .old 1 ⟨22, 1, [il B]⟩] (by simp [go_sem]) ?_
    simp [go_sem]
  · simp
  · rintro k ⟨hk, hn⟩
    (repeat (first | refine awp_seq ?_ | refine awp_block ?_ | (refine awp_runG [0, 1, 4, 5, 7, 8, 9, 16, 1000000, 1000001] hX ?_; (simp [go_sem]; try (refine ⟨by kernel_rfl, ?_⟩))) | (refine awp_drawnG [0, 1, 4, 5, 7, 8, 9, 16, 1000000, 1000001] hX mixed ?_; (simp [go_sem]; try (refine ⟨by kernel_rfl, ?_⟩))) | (refine awp_skip ?_; (simp [go_sem]; try (refine ⟨by kernel_rfl, ?_⟩))) | (refine awp_exit ?_; (simp [go_sem]; try (refine ⟨by kernel_rfl, ?_⟩)))))
    refine awp_cond (b := decide (k < L.length)) (by simp [go_sem]) (fun hb => ?_) (fun hb => ?_)
    · simp at hb
      (repeat (first | refine awp_seq ?_ | refine awp_block ?_ | (refine awp_runG [0, 1, 4, 5, 7, 8, 9, 16, 1000000, 1000001] hX ?_; (simp [go_sem, hb]; try (refine ⟨by kernel_rfl, ?_⟩))) | (refine awp_drawnG [0, 1, 4, 5, 7, 8, 9, 16, 1000000, 1000001] hX mixed ?_; (simp [go_sem, hb]; try (refine ⟨by kernel_rfl, ?_⟩))) | (refine awp_skip ?_; (simp [go_sem, hb]; try (refine ⟨by kernel_rfl, ?_⟩))) | (refine awp_exit ?_; (simp [go_sem, hb]; try (refine ⟨by kernel_rfl, ?_⟩)))))
      first | refine callH_intro [1] (ban_m B hB L[k]) (by simp [go_sem]) ?_ | refine callTQ_intro [1] (ban_m B hB L[k]) (by simp [go_sem]) ?_ | refine callTE_intro [1] (ban_m B hB L[k]) (by simp [go_sem]) ?_
      try (simp [go_sem, hb]; try (refine ⟨by kernel_rfl, ?_⟩))
      refine awp_cond (b := decide (L[k] ∈ B)) (by simp [go_sem]) (fun hc => ?_) (fun hc => ?_)
      · simp at hc
        (repeat (first | refine awp_seq ?_ | refine awp_block ?_ | (refine awp_runG [0, 1, 4, 5, 7, 8, 9, 16, 1000000, 1000001] hX ?_; (simp [go_sem]; try (refine ⟨by kernel_rfl, ?_⟩))) | (refine awp_drawnG [0, 1, 4, 5, 7, 8, 9, 16, 1000000, 1000001] hX mixed ?_; (simp [go_sem]; try (refine ⟨by kernel_rfl, ?_⟩))) | (refine awp_skip ?_; (simp [go_sem]; try (refine ⟨by kernel_rfl, ?_⟩))) | (refine awp_exit ?_; (simp [go_sem]; try (refine ⟨by kernel_rfl, ?_⟩)))))
        have hf := fb_at hb hn hc
        refine awp_ret ?_; (try simp only [thenQ, blkQ, loopQ]); refine retH_ret [(4, ii (fbI L B)), (1000000, .ow 0), (1000001, .ow 1)] [.old 0 ⟨3, 1, L.map ii⟩, .old 1 ⟨22, 1, [il B]⟩] ?_
        simp [go_sem, fbI, hf, hb]
      · simp at hc
        (repeat (first | refine awp_seq ?_ | refine awp_block ?_ | (refine awp_runG [0, 1, 4, 5, 7, 8, 9, 16, 1000000, 1000001] hX ?_; (simp [go_sem]; (try simp (disch := omega) only [w64, td, tm]); try (refine ⟨by kernel_rfl, ?_⟩))) | (refine awp_drawnG [0, 1, 4, 5, 7, 8, 9, 16, 1000000, 1000001] hX mixed ?_; (simp [go_sem]; (try simp (disch := omega) only [w64, td, tm]); try (refine ⟨by kernel_rfl, ?_⟩))) | (refine awp_skip ?_; (simp [go_sem]; (try simp (disch := omega) only [w64, td, tm]); try (refine ⟨by kernel_rfl, ?_⟩))) | (refine awp_exit ?_; (simp [go_sem]; (try simp (disch := omega) only [w64, td, tm]); try (refine ⟨by kernel_rfl, ?_⟩)))))
        refine ⟨k + 1, ⟨by omega, fun x hx => ?_⟩, by omega, ?_⟩
        · rcases (mem_take_succ hb x).1 hx with h | h
          · exact hn x h
          · rw [h]; exact hc
        · refine sub_of _ [.old 0 ⟨3, 1, L.map ii⟩, .old 1 ⟨22, 1, [il B]⟩] (by simp [go_sem]) ?_
          simp [go_sem]
    · simp at hb
      have : k = L.length := by omega
      subst this
      rw [List.take_length] at hn
      (repeat (first | refine awp_seq ?_ | refine awp_block ?_ | (refine awp_runG [0, 1, 4, 5, 7, 8, 9, 16, 1000000, 1000001] hX ?_; (simp [go_sem]; try (refine ⟨by kernel_rfl, ?_⟩))) | (refine awp_drawnG [0, 1, 4, 5, 7, 8, 9, 16, 1000000, 1000001] hX mixed ?_; (simp [go_sem]; try (refine ⟨by kernel_rfl, ?_⟩))) | (refine awp_skip ?_; (simp [go_sem]; try (refine ⟨by kernel_rfl, ?_⟩))) | (refine awp_exit ?_; (simp [go_sem]; try (refine ⟨by kernel_rfl, ?_⟩)))))
      refine awp_ret ?_; (try simp only [thenQ, blkQ, loopQ]); refine retH_ret [(4, ii (fbI L B)), (1000000, .ow 0), (1000001, .ow 1)] [.old 0 ⟨3, 1, L.map ii⟩, .old 1 ⟨22, 1, [il B]⟩] ?_
      simp [go_sem, fb_none hn]

/-- The row while it is cut: after j elements. -/
def dstR (B L : List Int) : Nat → List Int
  | 0 => L
  | j + 1 => if L.getD j 0 ∈ B then dstR B L j else (dstR B L j).set (canL (L.take j) B).length (L.getD j 0)
theorem dst_succ (B L : List Int) (j : Nat) : dstR B L (j + 1) = if L.getD j 0 ∈ B then dstR B L j else (dstR B L j).set (canL (L.take j) B).length (L.getD j 0) := rfl
@[simp] theorem dst_len (B L : List Int) (j : Nat) : (dstR B L j).length = L.length := by
  induction j with
  | zero => rfl
  | succ j ih => rw [dst_succ]; split <;> simp [ih]
theorem can_le (L B : List Int) : (canL L B).length ≤ L.length := List.length_filter_le _ _
theorem can_succ {L B : List Int} {j : Nat} (h : j < L.length) : canL (L.take (j + 1)) B = canL (L.take j) B ++ if L[j] ∈ B then [] else [L[j]] := by
  unfold canL
  rw [List.take_succ_eq_append_getElem h, List.filter_append]
  congr 1
  by_cases hb : L[j] ∈ B <;> simp [hb]
theorem getD_lt {L : List Int} {j : Nat} (h : j < L.length) : L.getD j 0 = L[j] := by rw [List.getD_eq_getElem?_getD, List.getElem?_eq_getElem h]; rfl
theorem dst_drop (B L : List Int) : ∀ j, j ≤ L.length → (dstR B L j).drop j = L.drop j
  | 0, _ => rfl
  | j + 1, h => by
    have ih := dst_drop B L j (by omega)
    have hc := can_le (L.take j) B
    rw [List.length_take] at hc
    have e : (dstR B L (j + 1)).drop (j + 1) = (dstR B L j).drop (j + 1) := by
      rw [dst_succ]
      split
      · rfl
      · rw [List.drop_set_of_lt (by omega)]
    rw [e, ← List.drop_drop, ih, List.drop_drop]
theorem dst_take (B L : List Int) : ∀ j, j ≤ L.length → (dstR B L j).take (canL (L.take j) B).length = canL (L.take j) B
  | 0, _ => by simp [canL]
  | j + 1, h => by
    have hj : j < L.length := by omega
    have ih := dst_take B L j (by omega)
    have hc := can_le (L.take j) B
    rw [List.length_take] at hc
    rw [can_succ hj]
    rw [dst_succ]
    rw [getD_lt hj]
    by_cases hb : L[j] ∈ B
    · simp only [hb, if_true, List.append_nil]; exact ih
    · simp only [hb, if_false, List.length_append, List.length_singleton]
      rw [List.take_succ_eq_append_getElem (by simp; omega)]
      congr 1
      · rw [List.take_set_of_le (Nat.le_refl _)]; exact ih
      · simp
theorem dst_at {B L : List Int} {j : Nat} (h : j < L.length) : (dstR B L j)[j]'(by simpa using h) = L[j] := by
  have := congrArg (fun l => l[0]?) (dst_drop B L j (by omega))
  simpa [h] using this
theorem dst_same {B L : List Int} : ∀ j, j ≤ L.length → (∀ x ∈ L.take j, x ∉ B) → dstR B L j = L
  | 0, _, _ => rfl
  | j + 1, h, hn => by
    have hj : j < L.length := by omega
    have ih := dst_same (B := B) j (by omega) fun x hx => hn x ((mem_take_succ hj x).2 (.inl hx))
    have hb : L[j] ∉ B := hn _ ((mem_take_succ hj _).2 (.inr rfl))
    have hcan : canL (L.take j) B = L.take j := List.filter_eq_self.2 fun x hx => by simpa using hn x ((mem_take_succ hj x).2 (.inl hx))
    rw [dst_succ]
    rw [getD_lt hj, if_neg hb, ih, hcan, List.length_take, Nat.min_eq_left (by omega)]
    simp
theorem can_same {B L : List Int} (hn : ∀ x ∈ L, x ∉ B) : canL L B = L := List.filter_eq_self.2 fun x hx => by simpa using hn x hx

theorem deleteN_m (L B : List Int) (hl : L.length ≤ 100000) (hB : B.length ≤ 100000) (hn : ∀ x ∈ L, x ∉ B) : MeansH Try.prog 20 [rowI L, banH B] [.ow 0, .fn 22 [] [.el 1 1 0 0]] (.ow 0) [rowI L, banH B] := by
  have hf := indexF_m L B hl hB
  rw [fb_none hn] at hf
  refine meansH_fn 2 42 [.tmp 4] Try.func20 rfl rfl rfl (by simp) (by decide) rfl fun X hX => ?_
  (repeat (first | refine awp_seq ?_ | refine awp_block ?_ | (refine awp_runG [0, 1, 4, 5, 6, 7, 12, 19, 29, 1000000, 1000001] hX ?_; (simp [go_sem]; try (refine ⟨by kernel_rfl, ?_⟩))) | (refine awp_drawnG [0, 1, 4, 5, 6, 7, 12, 19, 29, 1000000, 1000001] hX mixed ?_; (simp [go_sem]; try (refine ⟨by kernel_rfl, ?_⟩))) | (refine awp_skip ?_; (simp [go_sem]; try (refine ⟨by kernel_rfl, ?_⟩))) | (refine awp_exit ?_; (simp [go_sem]; try (refine ⟨by kernel_rfl, ?_⟩)))))
  first | refine callH_intro [0, 1] (hf) (by simp [go_sem]) ?_ | refine callTQ_intro [0, 1] (hf) (by simp [go_sem]) ?_ | refine callTE_intro [0, 1] (hf) (by simp [go_sem]) ?_
  try (simp [go_sem]; try (refine ⟨by kernel_rfl, ?_⟩))
  (repeat (first | refine awp_seq ?_ | refine awp_block ?_ | (refine awp_runG [0, 1, 4, 5, 6, 7, 12, 19, 29, 1000000, 1000001] hX ?_; (simp [go_sem]; try (refine ⟨by kernel_rfl, ?_⟩))) | (refine awp_drawnG [0, 1, 4, 5, 6, 7, 12, 19, 29, 1000000, 1000001] hX mixed ?_; (simp [go_sem]; try (refine ⟨by kernel_rfl, ?_⟩))) | (refine awp_skip ?_; (simp [go_sem]; try (refine ⟨by kernel_rfl, ?_⟩))) | (refine awp_exit ?_; (simp [go_sem]; try (refine ⟨by kernel_rfl, ?_⟩)))))
  refine awp_cond (b := true) (by simp [go_sem]) (fun _ => ?_) (fun hb => by cases hb)
  (repeat (first | refine awp_seq ?_ | refine awp_block ?_ | (refine awp_runG [0, 1, 4, 5, 6, 7, 12, 19, 29, 1000000, 1000001] hX ?_; (simp [go_sem]; try (refine ⟨by kernel_rfl, ?_⟩))) | (refine awp_drawnG [0, 1, 4, 5, 6, 7, 12, 19, 29, 1000000, 1000001] hX mixed ?_; (simp [go_sem]; try (refine ⟨by kernel_rfl, ?_⟩))) | (refine awp_skip ?_; (simp [go_sem]; try (refine ⟨by kernel_rfl, ?_⟩))) | (refine awp_exit ?_; (simp [go_sem]; try (refine ⟨by kernel_rfl, ?_⟩)))))
  refine awp_ret ?_; (try simp only [thenQ, blkQ, loopQ]); refine retH_ret [(4, .ow 0), (1000000, .ow 0), (1000001, .ow 1)] [.old 0 ⟨3, 1, L.map ii⟩, .old 1 ⟨22, 1, [il B]⟩] ?_
  simp [go_sem]

set_option maxHeartbeats 2000000 in
theorem deleteS_m (L B : List Int) (hl : L.length ≤ 100000) (hB : B.length ≤ 100000) {f : Nat} (hf : f < L.length) (hn : ∀ x ∈ L.take f, x ∉ B) (hb : L[f] ∈ B) :
    MeansH Try.prog 20 [rowI L, banH B] [.ow 0, .fn 22 [] [.el 1 1 0 0]] (.wn 0 1 0 (canL L B).length) [rowI (canL L B ++ List.replicate (L.length - (canL L B).length) 0), banH B] := by
  have hix := indexF_m L B hl hB
  have hfi : fbI L B = f := by
    have := fb_at hf hn hb
    simp [fbI, this, hf]
  rw [hfi] at hix
  have hne : ¬ ((f : Int) = -1) := by omega
  have hcl := can_le L B
  refine meansH_fn 2 42 [.tmp 4] Try.func20 rfl rfl rfl (by simp) (by decide) rfl fun X hX => ?_
  (repeat (first | refine awp_seq ?_ | refine awp_block ?_ | (refine awp_runG [0, 1, 4, 5, 6, 7, 12, 19, 29, 1000000, 1000001] hX ?_; (simp [go_sem]; try (refine ⟨by kernel_rfl, ?_⟩))) | (refine awp_drawnG [0, 1, 4, 5, 6, 7, 12, 19, 29, 1000000, 1000001] hX mixed ?_; (simp [go_sem]; try (refine ⟨by kernel_rfl, ?_⟩))) | (refine awp_skip ?_; (simp [go_sem]; try (refine ⟨by kernel_rfl, ?_⟩))) | (refine awp_exit ?_; (simp [go_sem]; try (refine ⟨by kernel_rfl, ?_⟩)))))
  first | refine callH_intro [0, 1] (hix) (by simp [go_sem]) ?_ | refine callTQ_intro [0, 1] (hix) (by simp [go_sem]) ?_ | refine callTE_intro [0, 1] (hix) (by simp [go_sem]) ?_
  try (simp [go_sem]; try (refine ⟨by kernel_rfl, ?_⟩))
  (repeat (first | refine awp_seq ?_ | refine awp_block ?_ | (refine awp_runG [0, 1, 4, 5, 6, 7, 12, 19, 29, 1000000, 1000001] hX ?_; (simp [go_sem]; try (refine ⟨by kernel_rfl, ?_⟩))) | (refine awp_drawnG [0, 1, 4, 5, 6, 7, 12, 19, 29, 1000000, 1000001] hX mixed ?_; (simp [go_sem]; try (refine ⟨by kernel_rfl, ?_⟩))) | (refine awp_skip ?_; (simp [go_sem]; try (refine ⟨by kernel_rfl, ?_⟩))) | (refine awp_exit ?_; (simp [go_sem]; try (refine ⟨by kernel_rfl, ?_⟩)))))
  refine awp_cond (b := false) (by simp [go_sem, hne]) (fun hb => by cases hb) (fun _ => ?_)
  (repeat (first | refine awp_seq ?_ | refine awp_block ?_ | (refine awp_runG [0, 1, 4, 5, 6, 7, 12, 19, 29, 1000000, 1000001] hX ?_; (simp [go_sem]; (try simp (disch := omega) only [w64, td, tm]); try (refine ⟨by kernel_rfl, ?_⟩))) | (refine awp_drawnG [0, 1, 4, 5, 6, 7, 12, 19, 29, 1000000, 1000001] hX mixed ?_; (simp [go_sem]; (try simp (disch := omega) only [w64, td, tm]); try (refine ⟨by kernel_rfl, ?_⟩))) | (refine awp_skip ?_; (simp [go_sem]; (try simp (disch := omega) only [w64, td, tm]); try (refine ⟨by kernel_rfl, ?_⟩))) | (refine awp_exit ?_; (simp [go_sem]; (try simp (disch := omega) only [w64, td, tm]); try (refine ⟨by kernel_rfl, ?_⟩)))))
  refine awp_loop (fun j : Nat => ⟨mkE [(0, .ow 0), (1, .fn 22 [] [.el 1 1 0 0]), (5, ii (canL (L.take j) B).length), (6, ii j), (1000000, .ow 0), (1000001, .ow 1)], [rowI (dstR B L j), banH B]⟩) (fun j => j ≤ L.length) (fun j => L.length - j) (f + 1) ?_ ?_ ?_
  · have e1 : (canL (L.take (f + 1)) B).length = f := by
      rw [can_succ hf, if_pos hb, List.append_nil, can_same hn, List.length_take]; omega
    have e2 : dstR B L (f + 1) = L := by
      have := dst_same (B := B) f (by omega) hn
      rw [dst_succ]
      rw [getD_lt hf, if_pos hb, this]
    rw [e1, e2]
    refine sub_of _ [.old 0 ⟨3, 1, L.map ii⟩, .old 1 ⟨22, 1, [il B]⟩] (by simp [go_sem]) ?_
    simp [go_sem]
  · omega
  · intro j hj
    have hc := can_le (L.take j) B
    rw [List.length_take] at hc
    (repeat (first | refine awp_seq ?_ | refine awp_block ?_ | (refine awp_runG [0, 1, 4, 5, 6, 7, 12, 19, 29, 1000000, 1000001] hX ?_; (simp [go_sem]; try (refine ⟨by kernel_rfl, ?_⟩))) | (refine awp_drawnG [0, 1, 4, 5, 6, 7, 12, 19, 29, 1000000, 1000001] hX mixed ?_; (simp [go_sem]; try (refine ⟨by kernel_rfl, ?_⟩))) | (refine awp_skip ?_; (simp [go_sem]; try (refine ⟨by kernel_rfl, ?_⟩))) | (refine awp_exit ?_; (simp [go_sem]; try (refine ⟨by kernel_rfl, ?_⟩)))))
    refine awp_cond (b := decide (j < L.length)) (by simp [go_sem]) (fun hd => ?_) (fun hd => ?_)
    · simp at hd
      have hat := dst_at (B := B) hd
      (repeat (first | refine awp_seq ?_ | refine awp_block ?_ | (refine awp_runG [0, 1, 4, 5, 6, 7, 12, 19, 29, 1000000, 1000001] hX ?_; (simp [go_sem, hd, hat]; try (refine ⟨by kernel_rfl, ?_⟩))) | (refine awp_drawnG [0, 1, 4, 5, 6, 7, 12, 19, 29, 1000000, 1000001] hX mixed ?_; (simp [go_sem, hd, hat]; try (refine ⟨by kernel_rfl, ?_⟩))) | (refine awp_skip ?_; (simp [go_sem, hd, hat]; try (refine ⟨by kernel_rfl, ?_⟩))) | (refine awp_exit ?_; (simp [go_sem, hd, hat]; try (refine ⟨by kernel_rfl, ?_⟩)))))
      first | refine callH_intro [1] (ban_m B hB L[j]) (by simp [go_sem]) ?_ | refine callTQ_intro [1] (ban_m B hB L[j]) (by simp [go_sem]) ?_ | refine callTE_intro [1] (ban_m B hB L[j]) (by simp [go_sem]) ?_
      try (simp [go_sem, hd, hat]; try (refine ⟨by kernel_rfl, ?_⟩))
      refine awp_cond (b := decide (L[j] ∉ B)) (by simp [go_sem]) (fun he => ?_) (fun he => ?_)
      · simp only [decide_eq_true_eq] at he
        have e : dstR B L (j + 1) = (dstR B L j).set (canL (L.take j) B).length L[j] := by
          rw [dst_succ, getD_lt hd, if_neg he]
        have e2 : (canL (L.take (j + 1)) B).length = (canL (L.take j) B).length + 1 := by rw [can_succ hd, if_neg he]; simp
        have hci : (canL (L.take j) B).length < L.length := by omega
        (repeat (first | refine awp_seq ?_ | refine awp_block ?_ | (refine awp_runG [0, 1, 4, 5, 6, 7, 12, 19, 29, 1000000, 1000001] hX ?_; (simp [go_sem, hci]; (try simp (disch := omega) only [w64, td, tm]); try (refine ⟨by kernel_rfl, ?_⟩))) | (refine awp_drawnG [0, 1, 4, 5, 6, 7, 12, 19, 29, 1000000, 1000001] hX mixed ?_; (simp [go_sem, hci]; (try simp (disch := omega) only [w64, td, tm]); try (refine ⟨by kernel_rfl, ?_⟩))) | (refine awp_skip ?_; (simp [go_sem, hci]; (try simp (disch := omega) only [w64, td, tm]); try (refine ⟨by kernel_rfl, ?_⟩))) | (refine awp_exit ?_; (simp [go_sem, hci]; (try simp (disch := omega) only [w64, td, tm]); try (refine ⟨by kernel_rfl, ?_⟩)))))
        try (simp [go_sem, hci]; try (refine ⟨by kernel_rfl, ?_⟩))
        (repeat (first | refine awp_seq ?_ | refine awp_block ?_ | (refine awp_runG [0, 1, 4, 5, 6, 7, 12, 19, 29, 1000000, 1000001] hX ?_; (simp [go_sem, hci]; (try simp (disch := omega) only [w64, td, tm]); try (refine ⟨by kernel_rfl, ?_⟩))) | (refine awp_drawnG [0, 1, 4, 5, 6, 7, 12, 19, 29, 1000000, 1000001] hX mixed ?_; (simp [go_sem, hci]; (try simp (disch := omega) only [w64, td, tm]); try (refine ⟨by kernel_rfl, ?_⟩))) | (refine awp_skip ?_; (simp [go_sem, hci]; (try simp (disch := omega) only [w64, td, tm]); try (refine ⟨by kernel_rfl, ?_⟩))) | (refine awp_exit ?_; (simp [go_sem, hci]; (try simp (disch := omega) only [w64, td, tm]); try (refine ⟨by kernel_rfl, ?_⟩)))))
        refine ⟨j + 1, by omega, by omega, ?_⟩
        rw [e, e2]
        refine sub_of _ [.old 0 ⟨3, 1, ((dstR B L j).set (canL (L.take j) B).length L[j]).map ii⟩, .old 1 ⟨22, 1, [il B]⟩] (by simp [go_sem]) ?_
        simp [go_sem]
      · simp at he
        have e : dstR B L (j + 1) = dstR B L j := by rw [dst_succ, getD_lt hd, if_pos he]
        have e2 : (canL (L.take (j + 1)) B).length = (canL (L.take j) B).length := by rw [can_succ hd, if_pos he]; simp
        (repeat (first | refine awp_seq ?_ | refine awp_block ?_ | (refine awp_runG [0, 1, 4, 5, 6, 7, 12, 19, 29, 1000000, 1000001] hX ?_; (simp [go_sem]; (try simp (disch := omega) only [w64, td, tm]); try (refine ⟨by kernel_rfl, ?_⟩))) | (refine awp_drawnG [0, 1, 4, 5, 6, 7, 12, 19, 29, 1000000, 1000001] hX mixed ?_; (simp [go_sem]; (try simp (disch := omega) only [w64, td, tm]); try (refine ⟨by kernel_rfl, ?_⟩))) | (refine awp_skip ?_; (simp [go_sem]; (try simp (disch := omega) only [w64, td, tm]); try (refine ⟨by kernel_rfl, ?_⟩))) | (refine awp_exit ?_; (simp [go_sem]; (try simp (disch := omega) only [w64, td, tm]); try (refine ⟨by kernel_rfl, ?_⟩)))))
        refine ⟨j + 1, by omega, by omega, ?_⟩
        rw [e, e2]
        refine sub_of _ [.old 0 ⟨3, 1, (dstR B L j).map ii⟩, .old 1 ⟨22, 1, [il B]⟩] (by simp [go_sem]) ?_
        simp [go_sem]
    · simp at hd
      have : j = L.length := by omega
      subst this
      have ht := dst_take B L L.length (Nat.le_refl _)
      rw [List.take_length] at ht
      simp only [List.take_length]
      (repeat (first | refine awp_seq ?_ | refine awp_block ?_ | (refine awp_runG [0, 1, 4, 5, 6, 7, 12, 19, 29, 1000000, 1000001] hX ?_; (simp [go_sem]; try (refine ⟨by kernel_rfl, ?_⟩))) | (refine awp_drawnG [0, 1, 4, 5, 6, 7, 12, 19, 29, 1000000, 1000001] hX mixed ?_; (simp [go_sem]; try (refine ⟨by kernel_rfl, ?_⟩))) | (refine awp_skip ?_; (simp [go_sem]; try (refine ⟨by kernel_rfl, ?_⟩))) | (refine awp_exit ?_; (simp [go_sem]; try (refine ⟨by kernel_rfl, ?_⟩)))))
      (repeat refine And.intro (by first | omega | (unfold maxLen; omega) | kernel_rfl | (refine ⟨by first | omega | (unfold maxLen; omega), by first | omega | (unfold maxLen; omega)⟩) | grind) ?_)
      (repeat (first | refine awp_seq ?_ | refine awp_block ?_ | (refine awp_runG [0, 1, 4, 5, 6, 7, 12, 19, 29, 1000000, 1000001] hX ?_; (simp [go_sem]; try (refine ⟨by kernel_rfl, ?_⟩))) | (refine awp_drawnG [0, 1, 4, 5, 6, 7, 12, 19, 29, 1000000, 1000001] hX mixed ?_; (simp [go_sem]; try (refine ⟨by kernel_rfl, ?_⟩))) | (refine awp_skip ?_; (simp [go_sem]; try (refine ⟨by kernel_rfl, ?_⟩))) | (refine awp_exit ?_; (simp [go_sem]; try (refine ⟨by kernel_rfl, ?_⟩)))))
      (repeat refine And.intro (by first | omega | (unfold maxLen; omega) | kernel_rfl | (refine ⟨by first | omega | (unfold maxLen; omega), by first | omega | (unfold maxLen; omega)⟩) | grind) ?_)
      (repeat (first | refine awp_seq ?_ | refine awp_block ?_ | (refine awp_runG [0, 1, 4, 5, 6, 7, 12, 19, 29, 1000000, 1000001] hX ?_; (simp [go_sem]; try (refine ⟨by kernel_rfl, ?_⟩))) | (refine awp_drawnG [0, 1, 4, 5, 6, 7, 12, 19, 29, 1000000, 1000001] hX mixed ?_; (simp [go_sem]; try (refine ⟨by kernel_rfl, ?_⟩))) | (refine awp_skip ?_; (simp [go_sem]; try (refine ⟨by kernel_rfl, ?_⟩))) | (refine awp_exit ?_; (simp [go_sem]; try (refine ⟨by kernel_rfl, ?_⟩)))))
      have hrow : ((dstR B L L.length).map ii).take (canL L B).length = (canL L B).map ii := by rw [← List.map_take, ht]
      refine awp_ret ?_; (try simp only [thenQ, blkQ, loopQ]); refine retH_ret [(4, .wn 0 1 0 (canL L B).length), (1000000, .ow 0), (1000001, .ow 1)] [.old 0 ⟨3, 1, (canL L B ++ List.replicate (L.length - (canL L B).length) 0).map ii⟩, .old 1 ⟨22, 1, [il B]⟩] ?_
      simp [go_sem]
      refine .inl ?_
      rw [hrow, List.drop_eq_nil_of_le (by simp; omega), List.append_nil]

end Go.Proofs.Ytflcmfeafiippaa
