/-
  Layer 24: BidsHidden.
-/
import Derived.Test.YtjgkjenbgadacaaDoorBidL
import Derived.Test.YtjgkjenbgadacaaDoorBidY
set_option linter.all false
namespace Go.Proofs.YtjgkjenbgadacaaDoor
open Go.RowKit Go.Ab Go.Proofs.YtjgkjenbgadacaaDoor.S
attribute [local irreducible] AWP Go.Ab.Sub Means MeansH CallK CallG CallT CallGT CallU

theorem hB_ne (c p n : Int) : (⟨(hidT c p n).toArray⟩ : ByteArray) = ⟨#[]⟩ ↔ hidT c p n = [] := by
  constructor
  · intro h; have := congrArg (fun s : ByteArray => s.data.toList) h; simpa using this
  · intro h; rw [h]
set_option maxHeartbeats 4000000 in
set_option maxRecDepth 20000 in
theorem opens_m (Y : List S.E) (k m c p n : Int) (hc : c ≤ 9223372036854775807) (hp : p ≤ 9223372036854775807) (hn : n ≤ 9223372036854775807) : MeansH Tryd.prog 29 (ringH Y) [.el 0 2 0 0, ii k, ii m, ii c, ii p, ii n] (bb (opnB Y k m c p n)) (ringH Y) := by
  have c1 := hidden_m c p n hc hp hn
  have hne := hB_ne c p n
  unfold opnB
  unfold hB
  generalize hidT c p n = T at *
  have c2 := valid_m Y ⟨k, ⟨T.toArray⟩, m⟩
  refine meansH_fn 3 32 [.tmp 12] Tryd.func29 rfl rfl rfl (by simp) (by decide) rfl fun X hX => ?_
  (repeat (first | refine awp_seq ?_ | refine awp_block ?_ | ((first | refine awp_runG [0, 1, 2, 3, 4, 5, 12, 13, 1000000, 1000001, 1000002] hX ?_ | refine awp_drawnG [0, 1, 2, 3, 4, 5, 12, 13, 1000000, 1000001, 1000002] hX mixed ?_ | refine awp_skip ?_ | refine awp_exit ?_); (simp [go_sem]; try (refine ⟨by kernel_rfl, ?_⟩)))))
  first | refine callK_intro (c1) rfl (by simp [go_sem]) rfl ?_ | refine callT_intro (c1) rfl (by simp [go_sem]) rfl ?_
  try (simp [go_sem]; try (refine ⟨by kernel_rfl, ?_⟩))
  (repeat (first | refine awp_seq ?_ | refine awp_block ?_ | ((first | refine awp_runG [0, 1, 2, 3, 4, 5, 12, 13, 1000000, 1000001, 1000002] hX ?_ | refine awp_drawnG [0, 1, 2, 3, 4, 5, 12, 13, 1000000, 1000001, 1000002] hX mixed ?_ | refine awp_skip ?_ | refine awp_exit ?_); (simp [go_sem]; try (refine ⟨by kernel_rfl, ?_⟩)))))
  first | refine callHG_intro [0, 1, 2] (fun hg => c2) (by simp [go_sem]) (by simp [go_sem]) ?_ | refine callHGT_intro [0, 1, 2] (fun hg => c2) (by simp [go_sem]) ?_
  try (simp [go_sem]; try (refine ⟨by kernel_rfl, ?_⟩))
  (repeat (first | refine awp_seq ?_ | refine awp_block ?_ | ((first | refine awp_runG [0, 1, 2, 3, 4, 5, 12, 13, 1000000, 1000001, 1000002] hX ?_ | refine awp_drawnG [0, 1, 2, 3, 4, 5, 12, 13, 1000000, 1000001, 1000002] hX mixed ?_ | refine awp_skip ?_ | refine awp_exit ?_); (simp [go_sem]; try (refine ⟨by kernel_rfl, ?_⟩)))))
  refine awp_ret ?_; (try simp only [thenQ, blkQ, loopQ]); refine retH_ret [(12, bb (decide (T ≠ []) && holds Y ⟨k, ⟨T.toArray⟩, m⟩)), (1000000, .ow 0), (1000001, .ow 1), (1000002, .ow 2)] [.old 0 ⟨72, 2, [.agg [.ow 1, .ow 2]]⟩, .old 1 ⟨74, 2, Y.map eo⟩, .oldM 2 ⟨74, 3, marks 0 Y⟩] ?_
  simp [go_sem, hne]
theorem opensN_m (k m c p n : Int) (hc : c ≤ 9223372036854775807) (hp : p ≤ 9223372036854775807) (hn : n ≤ 9223372036854775807) : Means true Tryd.prog 29 [.v (.pointer none), ii k, ii m, ii c, ii p, ii n] (bb false) := by
  have c1 := hidden_m c p n hc hp hn
  refine means_fn true 32 [.tmp 12] Tryd.func29 rfl rfl rfl (by simp) (by decide) rfl fun X hX => ?_
  (repeat (first | refine awp_seq ?_ | refine awp_block ?_ | ((first | refine awp_runG [0, 1, 2, 3, 4, 5, 12, 13] hX ?_ | refine awp_drawnG [0, 1, 2, 3, 4, 5, 12, 13] hX mixed ?_ | refine awp_ret ?_ | refine awp_skip ?_ | refine awp_exit ?_); (simp [go_sem]; try (refine ⟨by kernel_rfl, ?_⟩)))))
  first | refine callK_intro (c1) rfl (by simp [go_sem]) rfl ?_ | refine callT_intro (c1) rfl (by simp [go_sem]) rfl ?_
  try (simp [go_sem]; try (refine ⟨by kernel_rfl, ?_⟩))
  (repeat (first | refine awp_seq ?_ | refine awp_block ?_ | ((first | refine awp_runG [0, 1, 2, 3, 4, 5, 12, 13] hX ?_ | refine awp_drawnG [0, 1, 2, 3, 4, 5, 12, 13] hX mixed ?_ | refine awp_ret ?_ | refine awp_skip ?_ | refine awp_exit ?_); (simp [go_sem]; try (refine ⟨by kernel_rfl, ?_⟩)))))
  first | refine callG_skip rfl ?_ | refine callGT_skip rfl ?_
  try (simp [go_sem]; try (refine ⟨by kernel_rfl, ?_⟩))
  (repeat (first | refine awp_seq ?_ | refine awp_block ?_ | ((first | refine awp_runG [0, 1, 2, 3, 4, 5, 12, 13] hX ?_ | refine awp_drawnG [0, 1, 2, 3, 4, 5, 12, 13] hX mixed ?_ | refine awp_ret ?_ | refine awp_skip ?_ | refine awp_exit ?_); (simp [go_sem]; try (refine ⟨by kernel_rfl, ?_⟩)))))

/-- The signatures that were made. -/
def madeL (c p : Int) (L : List Bd) (k : Nat) : List G := (List.range k).map (markAt c p L)
theorem madeL_succ (c p : Int) (L : List Bd) (k : Nat) : madeL c p L (k + 1) = madeL c p L k ++ [markAt c p L k] := by unfold madeL; rw [List.range_succ, List.map_append]; rfl
theorem madeL_len (c p : Int) (L : List Bd) (k : Nat) : (madeL c p L k).length = k := by simp [madeL]
theorem madeL_at (c p : Int) (L : List Bd) {k i : Nat} (h : i < k) : (madeL c p L k)[i]'(by rw [madeL_len]; exact h) = markAt c p L i := by simp [madeL]

set_option maxHeartbeats 64000000 in
set_option maxRecDepth 20000 in
theorem bhidden_m (L : List Bd) (hl : L.length ≤ 9223372036854775807) (hN : ∀ b ∈ L, b.n ≤ 9223372036854775807) (c : Int) (hc : c ≤ 9223372036854775807) (p : Int) (hp : p ≤ 9223372036854775807) (key mark other : Int) (ho : other ≤ 9223372036854775807) (n : Int) (hn : n ≤ 9223372036854775807) :
    Means true Tryd.prog 7 [bl L, ii c, ii p, ii key, ii mark, ii other, ii n] (bb true) := by
  refine means_fn true 291 [.tmp 14] Tryd.func7 rfl rfl rfl (by simp) (by decide) rfl fun X hX => ?_
  (repeat (first | refine awp_seq ?_ | refine awp_block ?_ | ((first | refine awp_runG [0, 1, 2, 3, 4, 5, 6, 14, 15, 16, 17, 18, 19, 20, 21, 22, 39, 48, 72, 117, 170, 223, 227] hX ?_ | refine awp_drawnG [0, 1, 2, 3, 4, 5, 6, 14, 15, 16, 17, 18, 19, 20, 21, 22, 39, 48, 72, 117, 170, 223, 227] hX mixed ?_ | refine awp_ret ?_ | refine awp_skip ?_ | refine awp_exit ?_); (simp [go_sem]; try (refine ⟨by kernel_rfl, ?_⟩)))))
  first | refine callK_intro (small_m) rfl (by simp [go_sem]) rfl ?_ | refine callT_intro (small_m) rfl (by simp [go_sem]) rfl ?_
  try (simp [go_sem]; try (refine ⟨by kernel_rfl, ?_⟩))
  (repeat (first | refine awp_seq ?_ | refine awp_block ?_ | ((first | refine awp_runG [0, 1, 2, 3, 4, 5, 6, 14, 15, 16, 17, 18, 19, 20, 21, 22, 39, 48, 72, 117, 170, 223, 227] hX ?_ | refine awp_drawnG [0, 1, 2, 3, 4, 5, 6, 14, 15, 16, 17, 18, 19, 20, 21, 22, 39, 48, 72, 117, 170, 223, 227] hX mixed ?_ | refine awp_ret ?_ | refine awp_skip ?_ | refine awp_exit ?_); (simp [go_sem]; try (refine ⟨by kernel_rfl, ?_⟩)))))
  first | refine callH_intro [] (new_m) (by simp [go_sem]) ?_ | refine callTQ_intro [] (new_m) (by simp [go_sem]) ?_ | refine callTE_intro [] (new_m) (by simp [go_sem]) ?_
  try (simp [go_sem]; try (refine ⟨by kernel_rfl, ?_⟩))
  (repeat (first | refine awp_seq ?_ | refine awp_block ?_ | ((first | refine awp_runG [0, 1, 2, 3, 4, 5, 6, 14, 15, 16, 17, 18, 19, 20, 21, 22, 39, 48, 72, 117, 170, 223, 227] hX ?_ | refine awp_drawnG [0, 1, 2, 3, 4, 5, 6, 14, 15, 16, 17, 18, 19, 20, 21, 22, 39, 48, 72, 117, 170, 223, 227] hX mixed ?_ | refine awp_ret ?_ | refine awp_skip ?_ | refine awp_exit ?_); (simp [go_sem]; try (refine ⟨by kernel_rfl, ?_⟩)))))
  refine awp_cond (b := decide ((20 : Int) < L.length) || decide (c < 0) || decide (p < 0)) (by simp [go_sem, Bool.or_assoc]) (fun hb => ?_) (fun hb => ?_)
  · (repeat (first | refine awp_seq ?_ | refine awp_block ?_ | ((first | refine awp_runG [0, 1, 2, 3, 4, 5, 6, 14, 15, 16, 17, 18, 19, 20, 21, 22, 39, 48, 72, 117, 170, 223, 227] hX ?_ | refine awp_drawnG [0, 1, 2, 3, 4, 5, 6, 14, 15, 16, 17, 18, 19, 20, 21, 22, 39, 48, 72, 117, 170, 223, 227] hX mixed ?_ | refine awp_ret ?_ | refine awp_skip ?_ | refine awp_exit ?_); (simp [go_sem]; try (refine ⟨by kernel_rfl, ?_⟩)))))
  simp only [Bool.or_eq_false_iff, decide_eq_false_iff_not] at hb
  have hc0 : 0 ≤ c := by omega
  have hp0 : 0 ≤ p := by omega
  have hXs := fun k (hk : k < L.length) => entL_succ c p hk
  have hXl := fun k (hk : k ≤ L.length) => ent_len c p L k hk
  have hms := fun k => madeL_succ c p L k
  have hml := madeL_len c p L
  have hmk := fun k (hk : k < L.length) => (show markAt c p L k = sigOf (entL c p (L.take k)) L[k].w (hB c p L[k].n) from by unfold markAt; rw [gB hk])
  have hX0 : entL c p (L.take 0) = [] := rfl
  have hm0 : madeL c p L 0 = [] := rfl
  (repeat (first | refine awp_seq ?_ | refine awp_block ?_ | ((first | refine awp_runG [0, 1, 2, 3, 4, 5, 6, 14, 15, 16, 17, 18, 19, 20, 21, 22, 39, 48, 72, 117, 170, 223, 227] hX ?_ | refine awp_drawnG [0, 1, 2, 3, 4, 5, 6, 14, 15, 16, 17, 18, 19, 20, 21, 22, 39, 48, 72, 117, 170, 223, 227] hX mixed ?_ | refine awp_ret ?_ | refine awp_skip ?_ | refine awp_exit ?_); (simp [go_sem]; try (refine ⟨by kernel_rfl, ?_⟩)))))
  refine awp_loop (fun k : Nat => ⟨mkE [(0, bl L), (1, ii c), (2, ii p), (3, ii key), (4, ii mark), (5, ii other), (6, ii n), (14, bb false), (15, bb true), (16, .el 0 2 0 0), (17, .ow 3), (18, ii k)], ringH (entL c p (L.take k)) ++ [.row ⟨51, 3, (madeL c p L k).map go⟩]⟩) (fun k => k ≤ L.length) (fun k => L.length - k) 0 ?_ ?_ ?_
  · rw [hX0, hm0]
    refine sub_of _ [.old 0 ⟨72, 2, [.agg [.ow 1, .ow 2]]⟩, .old 1 ⟨74, 2, []⟩, .oldM 2 ⟨74, 3, marks 0 []⟩, .birth 51 3] (by simp [go_sem]) ?_
    simp [go_sem]
  · omega
  · intro k hk
    (repeat (first | refine awp_seq ?_ | refine awp_block ?_ | ((first | refine awp_runG [0, 1, 2, 3, 4, 5, 6, 14, 15, 16, 17, 18, 19, 20, 21, 22, 39, 48, 72, 117, 170, 223, 227] hX ?_ | refine awp_drawnG [0, 1, 2, 3, 4, 5, 6, 14, 15, 16, 17, 18, 19, 20, 21, 22, 39, 48, 72, 117, 170, 223, 227] hX mixed ?_ | refine awp_ret ?_ | refine awp_skip ?_ | refine awp_exit ?_); (simp [go_sem]; try (refine ⟨by kernel_rfl, ?_⟩)))))
    refine awp_cond (b := decide (k < L.length)) (by simp [go_sem]) (fun hd => ?_) (fun hd => ?_)
    · simp at hd
      have hq := nth_ob hd
      have wk := w64 (x := (k : Int) + 1) (by omega) (by omega)
      have c1 := hidden_m c p L[k].n hc hp (hN _ (List.getElem_mem hd))
      have hlx := hXl k hk
      have c2 := sign_m (entL c p (L.take k)) (by omega) L[k].w (hB c p L[k].n)
      have hmk1 := hmk k hd
      have hXs1 := hXs k hd
      have hms1 := hms k
      have hml1 := hml k
      rw [← hmk1, ← hXs1] at c2
      have hlx1 := hXl (k + 1) (by omega)
      unfold hB at c2
      generalize markAt c p L k = g at *
      obtain ⟨Y1, hY1⟩ : ∃ Y1, entL c p (L.take (k + 1)) = Y1 := ⟨_, rfl⟩
      rw [hY1] at c2 hlx1
      generalize entL c p (L.take k) = Y at *
      generalize madeL c p L k = D at *
      generalize L[k] = x at *
      (repeat (first | refine awp_seq ?_ | refine awp_block ?_ | ((first | refine awp_runG [0, 1, 2, 3, 4, 5, 6, 14, 15, 16, 17, 18, 19, 20, 21, 22, 39, 48, 72, 117, 170, 223, 227] hX ?_ | refine awp_drawnG [0, 1, 2, 3, 4, 5, 6, 14, 15, 16, 17, 18, 19, 20, 21, 22, 39, 48, 72, 117, 170, 223, 227] hX mixed ?_ | refine awp_ret ?_ | refine awp_skip ?_ | refine awp_exit ?_); (simp [go_sem, hd, hq]; try (refine ⟨by kernel_rfl, ?_⟩)))))
      first | refine callK_intro (c1) rfl (by simp [go_sem]) rfl ?_ | refine callT_intro (c1) rfl (by simp [go_sem]) rfl ?_
      try (simp [go_sem, hd, hq]; try (refine ⟨by kernel_rfl, ?_⟩))
      first | refine callH_intro [0, 1, 2] (c2) (by simp [go_sem]) ?_ | refine callTQ_intro [0, 1, 2] (c2) (by simp [go_sem]) ?_ | refine callTE_intro [0, 1, 2] (c2) (by simp [go_sem]) ?_
      try (simp [go_sem, hd, hq]; try (refine ⟨by kernel_rfl, ?_⟩))
      try (repeat refine And.intro (by first | omega | (unfold maxLen; omega) | kernel_rfl | (refine ⟨by first | omega | (unfold maxLen; omega), by first | omega | (unfold maxLen; omega)⟩) | grind) ?_)
      try (repeat (first | refine awp_seq ?_ | refine awp_block ?_ | ((first | refine awp_runG [0, 1, 2, 3, 4, 5, 6, 14, 15, 16, 17, 18, 19, 20, 21, 22, 39, 48, 72, 117, 170, 223, 227] hX ?_ | refine awp_drawnG [0, 1, 2, 3, 4, 5, 6, 14, 15, 16, 17, 18, 19, 20, 21, 22, 39, 48, 72, 117, 170, 223, 227] hX mixed ?_ | refine awp_ret ?_ | refine awp_skip ?_ | refine awp_exit ?_); (simp [go_sem, hd, hq]; try (refine ⟨by kernel_rfl, ?_⟩)))))
      try (repeat refine And.intro (by first | omega | (unfold maxLen; omega) | kernel_rfl | (refine ⟨by first | omega | (unfold maxLen; omega), by first | omega | (unfold maxLen; omega)⟩) | grind) ?_)
      try (repeat (first | refine awp_seq ?_ | refine awp_block ?_ | ((first | refine awp_runG [0, 1, 2, 3, 4, 5, 6, 14, 15, 16, 17, 18, 19, 20, 21, 22, 39, 48, 72, 117, 170, 223, 227] hX ?_ | refine awp_drawnG [0, 1, 2, 3, 4, 5, 6, 14, 15, 16, 17, 18, 19, 20, 21, 22, 39, 48, 72, 117, 170, 223, 227] hX mixed ?_ | refine awp_ret ?_ | refine awp_skip ?_ | refine awp_exit ?_); (simp [go_sem, wk]; try (refine ⟨by kernel_rfl, ?_⟩)))))
      refine ⟨k + 1, by omega, by omega, ?_⟩
      rw [hms1, hY1]
      refine sub_of _ [.old 0 ⟨72, 2, [.agg [.ow 1, .ow 2]]⟩, .old 4 ⟨74, 2, Y1.map eo⟩, .oldM 2 ⟨74, 3, marks 0 Y1⟩, .old 6 ⟨51, 3, (D ++ [g]).map go⟩] (by simp [go_sem]) ?_
      simp [go_sem]
      try omega
    · have hkl : k = L.length := by simp at hd; omega
      subst hkl
      have hma := fun i (h : i < L.length) => madeL_at c p L h
      have ho1 := fun i (hi : i < L.length) => opens_own (c := c) (p := p) hc0 hp0 hi
      have ho2 := fun i (hi : i < L.length) k c' p' n => @opens_not c p L i k c' p' n hi
      have ho3 := opens_all (c := c) (p := p) (L := L) hc0 hp0 key mark n
      have his := fun k (hk : k < L.length) => isOne_succ c p L key mark n hk
      have hi0 : isOne c p L key mark n 0 = false := rfl
      have hhid := fun b (h : 0 ≤ b) => (hidT_ne (c := c) (p := p) (n := b)).2 ⟨hc0, hp0, h⟩
      have hml1 := hml L.length
      rw [List.take_length]
      have hoc := fun k m c' p' b (h1 : c' ≤ 9223372036854775807) (h2 : p' ≤ 9223372036854775807) (h3 : b ≤ 9223372036854775807) => opens_m (entL c p L) k m c' p' b h1 h2 h3
      have hoN := opensN_m key mark c p n hc hp hn
      generalize entL c p L = Y at *
      obtain ⟨D, hD⟩ : ∃ D, madeL c p L L.length = D := ⟨_, rfl⟩
      simp only [hD] at hma
      rw [hD] at hml1 ⊢
      clear hXs hXl hms hml hmk hX0 hm0
      (repeat (first | refine awp_seq ?_ | refine awp_block ?_ | ((first | refine awp_runG [0, 1, 2, 3, 4, 5, 6, 14, 15, 16, 17, 18, 19, 20, 21, 22, 39, 48, 72, 117, 170, 223, 227] hX ?_ | refine awp_drawnG [0, 1, 2, 3, 4, 5, 6, 14, 15, 16, 17, 18, 19, 20, 21, 22, 39, 48, 72, 117, 170, 223, 227] hX mixed ?_ | refine awp_ret ?_ | refine awp_skip ?_ | refine awp_exit ?_); (simp [go_sem]; try (refine ⟨by kernel_rfl, ?_⟩)))))
      refine awp_loop (fun i : Nat => ⟨mkE [(0, bl L), (1, ii c), (2, ii p), (3, ii key), (4, ii mark), (5, ii other), (6, ii n), (14, bb false), (15, bb true), (16, .el 0 2 0 0), (17, .ow 3), (19, ii i)], ringH Y ++ [.row ⟨51, 3, D.map go⟩]⟩) (fun i => i ≤ L.length) (fun i => L.length - i) 0 ?_ ?_ ?_
      · refine sub_of _ [.old 0 ⟨72, 2, [.agg [.ow 1, .ow 2]]⟩, .old 1 ⟨74, 2, Y.map eo⟩, .oldM 2 ⟨74, 3, marks 0 Y⟩, .old 3 ⟨51, 3, D.map go⟩] (by simp [go_sem]) ?_
        simp [go_sem]
      · omega
      · intro i hi
        (repeat (first | refine awp_seq ?_ | refine awp_block ?_ | ((first | refine awp_runG [0, 1, 2, 3, 4, 5, 6, 14, 15, 16, 17, 18, 19, 20, 21, 22, 39, 48, 72, 117, 170, 223, 227] hX ?_ | refine awp_drawnG [0, 1, 2, 3, 4, 5, 6, 14, 15, 16, 17, 18, 19, 20, 21, 22, 39, 48, 72, 117, 170, 223, 227] hX mixed ?_ | refine awp_ret ?_ | refine awp_skip ?_ | refine awp_exit ?_); (simp [go_sem]; try (refine ⟨by kernel_rfl, ?_⟩)))))
        refine awp_cond (b := decide (i < L.length)) (by simp [go_sem, hml1]) (fun hd => ?_) (fun hd => ?_)
        · simp at hd
          have hq := nth_ob hd
          have hdD : i < D.length := by omega
          have hq2 : nth (D.map go) i = go (markAt c p L i) := by rw [S.nth_go hdD, hma i hd]
          have wi := w64 (x := (i : Int) + 1) (by omega) (by omega)
          have h1 := ho1 i hd
          have hbn := hN L[i] (List.getElem_mem hd)
          have h2 := ho2 i hd
          have hh := hhid L[i].n
          generalize markAt c p L i = g at *
          generalize L[i] = x at *
          have c1 := hoc x.w g.mark c p x.n hc hp hbn
          have c2 := hoc x.w g.mark c p n hc hp hn
          have c3 := hoc key g.mark c p x.n hc hp hbn
          have c4 := hoc x.w g.mark other p x.n ho hp hbn
          have c5 := hoc x.w g.mark c other x.n hc ho hbn
          rw [h1] at c1
          have hgd : (decide (0 ≤ x.w) && decide (x.w < 200) && decide (0 ≤ x.n)) = (isKey x.w && decide (0 ≤ x.n)) := rfl
          obtain ⟨gd, hge⟩ : ∃ gd, (isKey x.w && decide (0 ≤ x.n)) = gd := ⟨_, rfl⟩
          have k2 : gd = true → n ≠ x.n → opnB Y x.w g.mark c p n = false := fun h h' => by
            rw [← hge] at h; simp at h
            exact h2 _ _ _ _ h.1 (hh h.2) (fun q => h' q.2.2.2)
          have k3 : gd = true → key ≠ x.w → opnB Y key g.mark c p x.n = false := fun h h' => by
            rw [← hge] at h; simp at h
            exact h2 _ _ _ _ h.1 (hh h.2) (fun q => h' q.1)
          have k4 : gd = true → other ≠ c → opnB Y x.w g.mark other p x.n = false := fun h h' => by
            rw [← hge] at h; simp at h
            exact h2 _ _ _ _ h.1 (hh h.2) (fun q => h' q.2.1)
          have k5 : gd = true → other ≠ p → opnB Y x.w g.mark c other x.n = false := fun h h' => by
            rw [← hge] at h; simp at h
            exact h2 _ _ _ _ h.1 (hh h.2) (fun q => h' q.2.2.1)
          clear h1 h2 hh
          rw [hge] at c1 hgd
          generalize opnB Y x.w g.mark c p n = o2 at *
          generalize opnB Y key g.mark c p x.n = o3 at *
          generalize opnB Y x.w g.mark other p x.n = o4 at *
          generalize opnB Y x.w g.mark c other x.n = o5 at *
          (repeat (first | refine awp_seq ?_ | refine awp_block ?_ | ((first | refine awp_runG [0, 1, 2, 3, 4, 5, 6, 14, 15, 16, 17, 18, 19, 20, 21, 22, 39, 48, 72, 117, 170, 223, 227] hX ?_ | refine awp_drawnG [0, 1, 2, 3, 4, 5, 6, 14, 15, 16, 17, 18, 19, 20, 21, 22, 39, 48, 72, 117, 170, 223, 227] hX mixed ?_ | refine awp_ret ?_ | refine awp_skip ?_ | refine awp_exit ?_); (simp [go_sem, hd, hq, hgd, hdD, hq2]; try (refine ⟨by kernel_rfl, ?_⟩)))))
          try (simp [go_sem, hd, hq, hdD, hq2, hgd]; try (refine ⟨by kernel_rfl, ?_⟩))
          first | refine callH_intro [0, 1, 2] (c1) (by simp [go_sem]) ?_ | refine callTQ_intro [0, 1, 2] (c1) (by simp [go_sem]) ?_ | refine callTE_intro [0, 1, 2] (c1) (by simp [go_sem]) ?_
          try (simp [go_sem, hd, hq, hdD, hq2, hgd]; try (refine ⟨by kernel_rfl, ?_⟩))
          refine awp_cond (b := false) (by simp [go_sem]) (fun h => by cases h) (fun _ => ?_)
          (repeat (first | refine awp_seq ?_ | refine awp_block ?_ | ((first | refine awp_runG [0, 1, 2, 3, 4, 5, 6, 14, 15, 16, 17, 18, 19, 20, 21, 22, 39, 48, 72, 117, 170, 223, 227] hX ?_ | refine awp_drawnG [0, 1, 2, 3, 4, 5, 6, 14, 15, 16, 17, 18, 19, 20, 21, 22, 39, 48, 72, 117, 170, 223, 227] hX mixed ?_ | refine awp_ret ?_ | refine awp_skip ?_ | refine awp_exit ?_); (simp [go_sem, hd, hq, hdD, hq2]; try (refine ⟨by kernel_rfl, ?_⟩)))))
          try (simp [go_sem, hd, hq, hdD, hq2]; try (refine ⟨by kernel_rfl, ?_⟩))
          first | refine callHG_intro [0, 1, 2] (fun hg => c2) (by simp [go_sem]) (by simp [go_sem]) ?_ | refine callHGT_intro [0, 1, 2] (fun hg => c2) (by simp [go_sem]) ?_
          try (simp [go_sem, hd, hq, hdD, hq2]; try (refine ⟨by kernel_rfl, ?_⟩))
          refine ⟨fun a b => ⟨a, b⟩, ?_⟩
          first | refine callHG_intro [0, 1, 2] (fun hg => c3) (by simp [go_sem]) (by simp [go_sem]) ?_ | refine callHGT_intro [0, 1, 2] (fun hg => c3) (by simp [go_sem]) ?_
          try (simp [go_sem, hd, hq, hdD, hq2]; try (refine ⟨by kernel_rfl, ?_⟩))
          refine ⟨fun a b c => ⟨⟨a, b⟩, c⟩, fun a b => ⟨a, by by_cases q : x.n = n; exact .inl q; exact .inr (b q)⟩, ?_⟩
          refine ⟨by kernel_rfl, ?_⟩
          have hA : (gd && ((!decide (x.n = n) && o2) || (!decide (key = x.w) && o3))) = false := by
            cases gd with
            | false => rfl
            | true =>
              have k2 := k2 rfl
              have k3 := k3 rfl
              by_cases q1 : x.n = n
              · by_cases q2 : key = x.w
                · rw [decide_eq_true q1, decide_eq_true q2]; rfl
                · have z3 := k3 q2
                  simp [q1, z3]
              · have z := k2 (fun h => q1 h.symm)
                by_cases q2 : key = x.w
                · simp [q2, z]
                · have z3 := k3 q2
                  simp [z, z3]
          refine awp_cond (b := gd && ((!decide (x.n = n) && o2) || (!decide (key = x.w) && o3))) (by simp [go_sem]) (fun h => by rw [hA] at h; cases h) (fun _ => ?_)
          (repeat (first | refine awp_seq ?_ | refine awp_block ?_ | ((first | refine awp_runG [0, 1, 2, 3, 4, 5, 6, 14, 15, 16, 17, 18, 19, 20, 21, 22, 39, 48, 72, 117, 170, 223, 227] hX ?_ | refine awp_drawnG [0, 1, 2, 3, 4, 5, 6, 14, 15, 16, 17, 18, 19, 20, 21, 22, 39, 48, 72, 117, 170, 223, 227] hX mixed ?_ | refine awp_ret ?_ | refine awp_skip ?_ | refine awp_exit ?_); (simp [go_sem, hd, hq, hdD, hq2]; try (refine ⟨by kernel_rfl, ?_⟩)))))
          try (simp [go_sem, hd, hq, hdD, hq2]; try (refine ⟨by kernel_rfl, ?_⟩))
          first | refine callHG_intro [0, 1, 2] (fun hg => c4) (by simp [go_sem]) (by simp [go_sem]) ?_ | refine callHGT_intro [0, 1, 2] (fun hg => c4) (by simp [go_sem]) ?_
          try (simp [go_sem, hd, hq, hdD, hq2]; try (refine ⟨by kernel_rfl, ?_⟩))
          refine ⟨fun a b => ⟨a, b⟩, ?_⟩
          first | refine callHG_intro [0, 1, 2] (fun hg => c5) (by simp [go_sem]) (by simp [go_sem]) ?_ | refine callHGT_intro [0, 1, 2] (fun hg => c5) (by simp [go_sem]) ?_
          try (simp [go_sem, hd, hq, hdD, hq2]; try (refine ⟨by kernel_rfl, ?_⟩))
          refine ⟨fun a b c => ⟨⟨a, b⟩, c⟩, fun a b => ⟨a, by by_cases q : other = c; exact .inl q; exact .inr (b q)⟩, ?_⟩
          refine ⟨by kernel_rfl, ?_⟩
          have hB' : (gd && ((!decide (other = c) && o4) || (!decide (other = p) && o5))) = false := by
            cases gd with
            | false => rfl
            | true =>
              have k4 := k4 rfl
              have k5 := k5 rfl
              by_cases q1 : other = c
              · by_cases q2 : other = p
                · rw [decide_eq_true q1, decide_eq_true q2]; rfl
                · have z5 := k5 q2
                  simp [z5, q1]
              · have z := k4 q1
                by_cases q2 : other = p
                · simp [q2, z]
                · have z5 := k5 q2
                  simp [z, z5]
          refine awp_cond (b := gd && ((!decide (other = c) && o4) || (!decide (other = p) && o5))) (by simp [go_sem]) (fun h => by rw [hB'] at h; cases h) (fun _ => ?_)
          (repeat (first | refine awp_seq ?_ | refine awp_block ?_ | ((first | refine awp_runG [0, 1, 2, 3, 4, 5, 6, 14, 15, 16, 17, 18, 19, 20, 21, 22, 39, 48, 72, 117, 170, 223, 227] hX ?_ | refine awp_drawnG [0, 1, 2, 3, 4, 5, 6, 14, 15, 16, 17, 18, 19, 20, 21, 22, 39, 48, 72, 117, 170, 223, 227] hX mixed ?_ | refine awp_ret ?_ | refine awp_skip ?_ | refine awp_exit ?_); (simp [go_sem, wi]; try (refine ⟨by kernel_rfl, ?_⟩)))))
          refine ⟨i + 1, by omega, by omega, ?_⟩
          refine sub_of _ [.old 0 ⟨72, 2, [.agg [.ow 1, .ow 2]]⟩, .old 1 ⟨74, 2, Y.map eo⟩, .oldM 2 ⟨74, 3, marks 0 Y⟩, .old 3 ⟨51, 3, D.map go⟩] (by simp [go_sem]) ?_
          simp [go_sem]
          try omega
        · have hil : i = L.length := by simp at hd; omega
          (repeat (first | refine awp_seq ?_ | refine awp_block ?_ | ((first | refine awp_runG [0, 1, 2, 3, 4, 5, 6, 14, 15, 16, 17, 18, 19, 20, 21, 22, 39, 48, 72, 117, 170, 223, 227] hX ?_ | refine awp_drawnG [0, 1, 2, 3, 4, 5, 6, 14, 15, 16, 17, 18, 19, 20, 21, 22, 39, 48, 72, 117, 170, 223, 227] hX mixed ?_ | refine awp_ret ?_ | refine awp_skip ?_ | refine awp_exit ?_); (simp [go_sem]; try (refine ⟨by kernel_rfl, ?_⟩)))))
          refine awp_loop (fun i : Nat => ⟨mkE [(0, bl L), (1, ii c), (2, ii p), (3, ii key), (4, ii mark), (6, ii n), (15, bb true), (16, .el 0 2 0 0), (17, .ow 3), (21, bb (isOne c p L key mark n i)), (22, ii i)], ringH Y ++ [.row ⟨51, 3, D.map go⟩]⟩) (fun i => i ≤ L.length) (fun i => L.length - i) 0 ?_ ?_ ?_
          · rw [hi0]
            refine sub_of _ [.old 0 ⟨72, 2, [.agg [.ow 1, .ow 2]]⟩, .old 1 ⟨74, 2, Y.map eo⟩, .oldM 2 ⟨74, 3, marks 0 Y⟩, .old 3 ⟨51, 3, D.map go⟩] (by simp [go_sem]) ?_
            simp [go_sem]
          · omega
          · intro k hk
            (repeat (first | refine awp_seq ?_ | refine awp_block ?_ | ((first | refine awp_runG [0, 1, 2, 3, 4, 5, 6, 14, 15, 16, 17, 18, 19, 20, 21, 22, 39, 48, 72, 117, 170, 223, 227] hX ?_ | refine awp_drawnG [0, 1, 2, 3, 4, 5, 6, 14, 15, 16, 17, 18, 19, 20, 21, 22, 39, 48, 72, 117, 170, 223, 227] hX mixed ?_ | refine awp_ret ?_ | refine awp_skip ?_ | refine awp_exit ?_); (simp [go_sem]; try (refine ⟨by kernel_rfl, ?_⟩)))))
            refine awp_cond (b := decide (k < L.length)) (by simp [go_sem, hml1]) (fun he => ?_) (fun he => ?_)
            · simp at he
              have hq := nth_ob he
              have hdD : k < D.length := by omega
              have hq2 : nth (D.map go) k = go (markAt c p L k) := by rw [S.nth_go hdD, hma k he]
              have wk := w64 (x := (k : Int) + 1) (by omega) (by omega)
              have hs1 := his k he
              have hik : isKey key = (decide (0 ≤ key) && decide (key < 200)) := rfl
              rw [hik] at hs1
              generalize markAt c p L k = g at *
              generalize L[k] = x at *
              obtain ⟨o, ho'⟩ : ∃ o, isOne c p L key mark n k = o := ⟨_, rfl⟩
              rw [ho'] at hs1 ⊢
              (repeat (first | refine awp_seq ?_ | refine awp_block ?_ | ((first | refine awp_runG [0, 1, 2, 3, 4, 5, 6, 14, 15, 16, 17, 18, 19, 20, 21, 22, 39, 48, 72, 117, 170, 223, 227] hX ?_ | refine awp_drawnG [0, 1, 2, 3, 4, 5, 6, 14, 15, 16, 17, 18, 19, 20, 21, 22, 39, 48, 72, 117, 170, 223, 227] hX mixed ?_ | refine awp_ret ?_ | refine awp_skip ?_ | refine awp_exit ?_); (simp [go_sem, he, hq, hdD, hq2, wk]; try (refine ⟨by kernel_rfl, ?_⟩)))))
              try (simp [go_sem, he, hq, hdD, hq2, wk]; try (refine ⟨by kernel_rfl, ?_⟩))
              refine ⟨fun a b => ⟨a, b⟩, fun a b c => ⟨a, b, c⟩, fun a b c d => ⟨a, ⟨b, c⟩, d⟩, fun a b c d e => ⟨a, ⟨⟨b, c⟩, d⟩, e⟩, fun a b c d e f => ⟨a, ⟨⟨⟨b, c⟩, d⟩, e⟩, f⟩, ?_⟩
              (repeat (first | refine awp_seq ?_ | refine awp_block ?_ | ((first | refine awp_runG [0, 1, 2, 3, 4, 5, 6, 14, 15, 16, 17, 18, 19, 20, 21, 22, 39, 48, 72, 117, 170, 223, 227] hX ?_ | refine awp_drawnG [0, 1, 2, 3, 4, 5, 6, 14, 15, 16, 17, 18, 19, 20, 21, 22, 39, 48, 72, 117, 170, 223, 227] hX mixed ?_ | refine awp_ret ?_ | refine awp_skip ?_ | refine awp_exit ?_); (simp [go_sem, wk]; try (refine ⟨by kernel_rfl, ?_⟩)))))
              refine ⟨k + 1, by omega, by omega, ?_⟩
              rw [hs1]
              refine sub_of _ [.old 0 ⟨72, 2, [.agg [.ow 1, .ow 2]]⟩, .old 1 ⟨74, 2, Y.map eo⟩, .oldM 2 ⟨74, 3, marks 0 Y⟩, .old 3 ⟨51, 3, D.map go⟩] (by simp [go_sem]) ?_
              simp [go_sem, Bool.and_assoc]
              try omega
            · have hkl : k = L.length := by simp at he; omega
              subst hkl
              have c1 := hoc key mark c p n hc hp hn
              rw [ho3] at c1
              generalize isOne c p L key mark n L.length = o at *
              (repeat (first | refine awp_seq ?_ | refine awp_block ?_ | ((first | refine awp_runG [0, 1, 2, 3, 4, 5, 6, 14, 15, 16, 17, 18, 19, 20, 21, 22, 39, 48, 72, 117, 170, 223, 227] hX ?_ | refine awp_drawnG [0, 1, 2, 3, 4, 5, 6, 14, 15, 16, 17, 18, 19, 20, 21, 22, 39, 48, 72, 117, 170, 223, 227] hX mixed ?_ | refine awp_ret ?_ | refine awp_skip ?_ | refine awp_exit ?_); (simp [go_sem]; try (refine ⟨by kernel_rfl, ?_⟩)))))
              first | refine callHG_intro [0, 1, 2] (fun hg => c1) (by simp [go_sem]) (by simp [go_sem]) ?_ | refine callHGT_intro [0, 1, 2] (fun hg => c1) (by simp [go_sem]) ?_
              try (simp [go_sem]; try (refine ⟨by kernel_rfl, ?_⟩))
              cases o with
              | true =>
                first | refine callG_intro (fun hg => hoN) rfl (by simp [go_sem]) rfl ?_ | refine callGT_intro (fun hg => hoN) rfl (by simp [go_sem]) rfl ?_
                try (simp [go_sem]; try (refine ⟨by kernel_rfl, ?_⟩))
                try (repeat (first | refine awp_seq ?_ | refine awp_block ?_ | ((first | refine awp_runG [0, 1, 2, 3, 4, 5, 6, 14, 15, 16, 17, 18, 19, 20, 21, 22, 39, 48, 72, 117, 170, 223, 227] hX ?_ | refine awp_drawnG [0, 1, 2, 3, 4, 5, 6, 14, 15, 16, 17, 18, 19, 20, 21, 22, 39, 48, 72, 117, 170, 223, 227] hX mixed ?_ | refine awp_ret ?_ | refine awp_skip ?_ | refine awp_exit ?_); (simp [go_sem]; try (refine ⟨by kernel_rfl, ?_⟩)))))
              | false =>
                first | refine callG_intro (fun hg => hoN) rfl (by simp [go_sem]) rfl ?_ | refine callGT_intro (fun hg => hoN) rfl (by simp [go_sem]) rfl ?_
                try (simp [go_sem]; try (refine ⟨by kernel_rfl, ?_⟩))
                try (repeat (first | refine awp_seq ?_ | refine awp_block ?_ | ((first | refine awp_runG [0, 1, 2, 3, 4, 5, 6, 14, 15, 16, 17, 18, 19, 20, 21, 22, 39, 48, 72, 117, 170, 223, 227] hX ?_ | refine awp_drawnG [0, 1, 2, 3, 4, 5, 6, 14, 15, 16, 17, 18, 19, 20, 21, 22, 39, 48, 72, 117, 170, 223, 227] hX mixed ?_ | refine awp_ret ?_ | refine awp_skip ?_ | refine awp_exit ?_); (simp [go_sem]; try (refine ⟨by kernel_rfl, ?_⟩)))))

end Go.Proofs.YtjgkjenbgadacaaDoor
