/-
  Lemmas for the statement at the top.
-/
import Derived.Test.YthibhamepjhfjaaGreatDoorSvP14
import Derived.Test.YthibhamepjhfjaaGreatDoorRows
import Derived.Test.YthibhamepjhfjaaGreatDoorSvFw5
import Derived.Test.YthibhamepjhfjaaGreatDoorSvP12
set_option linter.all false
namespace Go.Proofs.YthibhamepjhfjaaGreatDoor
open Go.RowKit Go.Ab
attribute [local irreducible] AWP Go.Ab.Sub Means MeansH MeansX CallK CallG CallT CallGT CallU
theorem ints_m (a b : List Int) (hla : a.length ≤ 9223372036854775807) (hlb : b.length ≤ 9223372036854775807) : Means false Tryz.prog 15 [il a, il b] (bb (decide (a = b))) := by
  refine means_fn false 26 [.tmp 4] Tryz.func15 rfl rfl rfl (by simp) (by decide) rfl fun X hX => ?_
  by_cases hl : a.length = b.length
  · (repeat (first | refine awp_seq ?_ | refine awp_block ?_ | ((first | refine awp_runG [0, 1, 4, 5, 10, 14, 25] hX ?_ | refine awp_drawnG [0, 1, 4, 5, 10, 14, 25] hX mixed ?_ | refine awp_ret ?_ | refine awp_skip ?_ | refine awp_exit ?_); (simp [go_sem, hl]; try (refine ⟨by kernel_rfl, ?_⟩)))))
    refine awp_cond (b := false) (by simp [go_sem, hl]) (fun hb => by cases hb) (fun _ => ?_)
    (repeat (first | refine awp_seq ?_ | refine awp_block ?_ | ((first | refine awp_runG [0, 1, 4, 5, 10, 14, 25] hX ?_ | refine awp_drawnG [0, 1, 4, 5, 10, 14, 25] hX mixed ?_ | refine awp_ret ?_ | refine awp_skip ?_ | refine awp_exit ?_); (simp [go_sem]; try (refine ⟨by kernel_rfl, ?_⟩)))))
    refine awp_loop (fun n : Nat => ⟨mkE [(0, il a), (1, il b), (5, ii n)], []⟩) (fun n => n ≤ a.length ∧ a.take n = b.take n) (fun n => a.length - n) 0 ?_ ?_ ?_
    · refine sub_of _ [] (by simp [go_sem]) ?_
      simp [go_sem]
    · exact ⟨Nat.zero_le _, by simp⟩
    · rintro n ⟨hn, he⟩
      (repeat (first | refine awp_seq ?_ | refine awp_block ?_ | ((first | refine awp_runG [0, 1, 4, 5, 10, 14, 25] hX ?_ | refine awp_drawnG [0, 1, 4, 5, 10, 14, 25] hX mixed ?_ | refine awp_ret ?_ | refine awp_skip ?_ | refine awp_exit ?_); (simp [go_sem]; try (refine ⟨by kernel_rfl, ?_⟩)))))
      refine awp_cond (b := decide (n < a.length)) (by simp [go_sem]) (fun hd2 => ?_) (fun hd2 => ?_)
      · simp at hd2
        have h2 : n < b.length := by omega
        (repeat (first | refine awp_seq ?_ | refine awp_block ?_ | ((first | refine awp_runG [0, 1, 4, 5, 10, 14, 25] hX ?_ | refine awp_drawnG [0, 1, 4, 5, 10, 14, 25] hX mixed ?_ | refine awp_ret ?_ | refine awp_skip ?_ | refine awp_exit ?_); (simp [go_sem, hd2, h2]; (try simp (disch := omega) only [w64, td, tm]); try (refine ⟨by kernel_rfl, ?_⟩)))))
        (repeat refine And.intro (by first | omega | (unfold maxLen; omega) | kernel_rfl | (refine ⟨by first | omega | (unfold maxLen; omega), by first | omega | (unfold maxLen; omega)⟩) | grind) ?_)
        try (simp [go_sem, hd2, h2]; try (refine ⟨by kernel_rfl, ?_⟩))
        refine awp_cond (b := decide (a[n] ≠ b[n])) (by simp [go_sem, hd2, h2]; try omega) (fun hc => ?_) (fun hc => ?_)
        · simp only [decide_eq_true_eq] at hc
          have hne : ¬ a = b := fun e => hc (by simp only [e])
          (repeat (first | refine awp_seq ?_ | refine awp_block ?_ | ((first | refine awp_runG [0, 1, 4, 5, 10, 14, 25] hX ?_ | refine awp_drawnG [0, 1, 4, 5, 10, 14, 25] hX mixed ?_ | refine awp_ret ?_ | refine awp_skip ?_ | refine awp_exit ?_); (simp [go_sem, hne]; try (refine ⟨by kernel_rfl, ?_⟩)))))
        · simp at hc
          (repeat (first | refine awp_seq ?_ | refine awp_block ?_ | ((first | refine awp_runG [0, 1, 4, 5, 10, 14, 25] hX ?_ | refine awp_drawnG [0, 1, 4, 5, 10, 14, 25] hX mixed ?_ | refine awp_ret ?_ | refine awp_skip ?_ | refine awp_exit ?_); (simp [go_sem]; (try simp (disch := omega) only [w64, td, tm]); try (refine ⟨by kernel_rfl, ?_⟩)))))
          refine ⟨n + 1, ⟨by omega, ?_⟩, by omega, ?_⟩
          · rw [List.take_succ_eq_append_getElem hd2, List.take_succ_eq_append_getElem h2, he, hc]
          · refine sub_of _ [] (by simp [go_sem]) ?_
            simp [go_sem]
      · have hnl : n = a.length := by simp at hd2; omega
        subst hnl
        have hab : a = b := by rwa [List.take_length, hl, List.take_length] at he
        (repeat (first | refine awp_seq ?_ | refine awp_block ?_ | ((first | refine awp_runG [0, 1, 4, 5, 10, 14, 25] hX ?_ | refine awp_drawnG [0, 1, 4, 5, 10, 14, 25] hX mixed ?_ | refine awp_ret ?_ | refine awp_skip ?_ | refine awp_exit ?_); (simp [go_sem, hab]; try (refine ⟨by kernel_rfl, ?_⟩)))))
  · have hne : ¬ a = b := fun e => hl (by rw [e])
    (repeat (first | refine awp_seq ?_ | refine awp_block ?_ | ((first | refine awp_runG [0, 1, 4, 5, 10, 14, 25] hX ?_ | refine awp_drawnG [0, 1, 4, 5, 10, 14, 25] hX mixed ?_ | refine awp_ret ?_ | refine awp_skip ?_ | refine awp_exit ?_); (simp [go_sem, hl]; try (refine ⟨by kernel_rfl, ?_⟩)))))
    refine awp_cond (b := true) (by simp [go_sem, hl]; try omega) (fun _ => ?_) (fun hb => by cases hb)
    (repeat (first | refine awp_seq ?_ | refine awp_block ?_ | ((first | refine awp_runG [0, 1, 4, 5, 10, 14, 25] hX ?_ | refine awp_drawnG [0, 1, 4, 5, 10, 14, 25] hX mixed ?_ | refine awp_ret ?_ | refine awp_skip ?_ | refine awp_exit ?_); (simp [go_sem, hne]; try (refine ⟨by kernel_rfl, ?_⟩)))))
def txts : List Rat → List UInt8
  | [] => []
  | r :: l => ftxt r.num r.den ++ (32 :: txts l)
theorem txts_snoc : ∀ (l : List Rat) (r : Rat), txts (l ++ [r]) = txts l ++ ftxt r.num r.den ++ [32]
  | [], r => by simp [txts]
  | a :: l, r => by
    show ftxt a.num a.den ++ (32 :: txts (l ++ [r])) = ftxt a.num a.den ++ (32 :: txts l) ++ ftxt r.num r.den ++ [32]
    rw [txts_snoc l r]; simp
theorem ftxt_len {r : Rat} (h : rq r) : (ftxt r.num r.den).length ≤ 2000 := by
  have h1 := txt_len h.1
  have h2 := txt_len h.2
  unfold ftxt
  simp only [List.length_append, List.length_cons]
  omega
theorem txts_len : ∀ {l : List Rat}, (∀ r ∈ l, rq r) → (txts l).length ≤ 2001 * l.length
  | [], _ => by simp [txts]
  | a :: l, h => by
    have h1 := ftxt_len (h a (by simp))
    have h2 := txts_len (l := l) fun r hr => h r (by simp [hr])
    simp only [txts, List.length_append, List.length_cons]; omega
set_option maxHeartbeats 4000000 in
theorem texts_m (ks : List Rat) (hq : ∀ k ∈ ks, rq k) (hl : ks.length ≤ 1000) : Means false Tryz.prog 27 [fql ks] (sb (txts ks)) := by
  refine means_fn false 20 [.tmp 2] Tryz.func27 rfl rfl rfl (by simp) (by decide) rfl fun X hX => ?_
  (repeat (first | refine awp_seq ?_ | refine awp_block ?_ | ((first | refine awp_runG [0, 2, 3, 4, 8] hX ?_ | refine awp_drawnG [0, 2, 3, 4, 8] hX mixed ?_ | refine awp_ret ?_ | refine awp_skip ?_ | refine awp_exit ?_); (simp [go_sem]; try (refine ⟨by kernel_rfl, ?_⟩)))))
  refine awp_loop (fun i : Nat => ⟨mkE [(0, fql ks), (3, sb (txts (ks.take i))), (4, ii i)], []⟩) (fun i => i ≤ ks.length) (fun i => ks.length - i) 0 ?_ ?_ ?_
  · refine sub_of _ [] (by simp [go_sem]) ?_
    simp [go_sem, txts]
  · omega
  · intro i hi
    (repeat (first | refine awp_seq ?_ | refine awp_block ?_ | ((first | refine awp_runG [0, 2, 3, 4, 8] hX ?_ | refine awp_drawnG [0, 2, 3, 4, 8] hX mixed ?_ | refine awp_ret ?_ | refine awp_skip ?_ | refine awp_exit ?_); (simp [go_sem]; try (refine ⟨by kernel_rfl, ?_⟩)))))
    refine awp_cond (b := decide (i < ks.length)) (by simp [go_sem]) (fun hb => ?_) (fun hb => ?_)
    · simp only [decide_eq_true_eq] at hb
      have q1 := nth_fq hb
      have hg : ks.getD i 0 = ks[i] := by rw [List.getD_eq_getElem?_getD, List.getElem?_eq_getElem hb]; rfl
      rw [hg] at q1
      have hkq := hq ks[i] (List.getElem_mem hb)
      have c1 := Text_g ks[i].num ks[i].den hkq.1 hkq.2
      rw [if_pos (rf_q hkq)] at c1
      have l1 := ftxt_len hkq
      have l2 := txts_len (l := ks.take i) fun r hr => hq r (List.mem_of_mem_take hr)
      rw [List.length_take] at l2
      have e : txts (ks.take (i + 1)) = txts (ks.take i) ++ (ftxt ks[i].num ks[i].den ++ [32]) := by
        rw [List.take_succ_eq_append_getElem hb, txts_snoc, List.append_assoc]
      have wi := w64 (x := (i : Int) + 1) (by omega) (by omega)
      (repeat (first | refine awp_seq ?_ | refine awp_block ?_ | ((first | refine awp_runG [0, 2, 3, 4, 8] hX ?_ | refine awp_drawnG [0, 2, 3, 4, 8] hX mixed ?_ | refine awp_ret ?_ | refine awp_skip ?_ | refine awp_exit ?_); (simp [go_sem, q1, hb]; try (refine ⟨by kernel_rfl, ?_⟩)))))
      first | refine callK_intro (c1) rfl (by simp [go_sem]) rfl ?_ | refine callT_intro (c1) rfl (by simp [go_sem]) rfl ?_
      try (simp [go_sem]; try (refine ⟨by kernel_rfl, ?_⟩))
      refine ⟨by unfold maxLen; omega, ?_⟩
      try (simp [go_sem]; try (refine ⟨by kernel_rfl, ?_⟩))
      refine ⟨by unfold maxLen; omega, ?_⟩
      (repeat (first | refine awp_seq ?_ | refine awp_block ?_ | ((first | refine awp_runG [0, 2, 3, 4, 8] hX ?_ | refine awp_drawnG [0, 2, 3, 4, 8] hX mixed ?_ | refine awp_ret ?_ | refine awp_skip ?_ | refine awp_exit ?_); (simp [go_sem, wi]; try (refine ⟨by kernel_rfl, ?_⟩)))))
      refine ⟨i + 1, by omega, by omega, ?_⟩
      rw [e]
      refine sub_of _ [] (by simp [go_sem]) ?_
      simp [go_sem]
    · have : i = ks.length := by simp at hb; omega
      subst this
      rw [List.take_length]
      (repeat (first | refine awp_seq ?_ | refine awp_block ?_ | ((first | refine awp_runG [0, 2, 3, 4, 8] hX ?_ | refine awp_drawnG [0, 2, 3, 4, 8] hX mixed ?_ | refine awp_ret ?_ | refine awp_skip ?_ | refine awp_exit ?_); (simp [go_sem]; try (refine ⟨by kernel_rfl, ?_⟩)))))
abbrev p1 : List Int × List (List Int) := ([100, 50], [[0, 500], [0, 0]])
abbrev p2 : List Int × List (List Int) := ([100, 0], [[0, 500], [500, 0]])
abbrev p3 : List Int × List (List Int) := ([1, 1, 1], [[0, 999, 0], [0, 0, 999], [999, 0, 0]])
abbrev p4 : List Int × List (List Int) := ([1, 1], [[0, 1000], [0, 0]])
theorem s_of {own : List Int} {S : List (List Int)} (h : ∀ i, i < own.length → ∀ j, j < own.length → 0 ≤ sO S i j ∧ sO S i j ≤ 1000) : ∀ i j, i < own.length → j < own.length → 0 ≤ sO S i j ∧ sO S i j ≤ 1000 := fun i j hi hj => h i hi j hj
theorem pv1 : PV p1.1 p1.2 := ⟨⟨by decide, by decide, by decide, by decide, by decide, s_of (by decide), by decide⟩, by decide⟩
theorem pv2 : PV p2.1 p2.2 := ⟨⟨by decide, by decide, by decide, by decide, by decide, s_of (by decide), by decide⟩, by decide⟩
theorem pv3 : PV p3.1 p3.2 := ⟨⟨by decide, by decide, by decide, by decide, by decide, s_of (by decide), by decide⟩, by decide⟩
theorem pb4 : badP p4.1 p4.2 = 23 := by
  have h1 : PR p4.1 p4.2 := ⟨by decide, by decide, by decide, by decide, by decide, s_of (by decide), by decide⟩
  have h2 : ¬ PV p4.1 p4.2 := fun h => absurd (h.lt [0, 1000] (by decide)) (by decide)
  unfold badP; rw [if_pos h1, if_neg h2]
theorem all1 : allQ p1.1 p1.2 = [100, 100] := by decide +kernel
theorem kept1 : keptQ p1.1 p1.2 = [50, 100] := by decide +kernel
theorem all2 : allQ p2.1 p2.2 = [400 / 3, 200 / 3] := by decide +kernel
theorem kept2 : keptQ p2.1 p2.2 = [200 / 3, 100 / 3] := by decide +kernel
theorem all3 : allQ p3.1 p3.2 = [1000, 1000, 1000] := by decide +kernel
theorem kept3 : keptQ p3.1 p3.2 = [1, 1, 1] := by decide +kernel
abbrev tx (l : List Nat) : List UInt8 := l.map UInt8.ofNat
theorem tx1 : txts [(100 : Rat), 100] = tx [49, 48, 48, 47, 49, 32, 49, 48, 48, 47, 49, 32] := by decide +kernel
theorem tx2 : txts [(50 : Rat), 100] = tx [53, 48, 47, 49, 32, 49, 48, 48, 47, 49, 32] := by decide +kernel
theorem tx3 : txts [(400 / 3 : Rat), 200 / 3] = tx [52, 48, 48, 47, 51, 32, 50, 48, 48, 47, 51, 32] := by decide +kernel
theorem tx4 : txts [(200 / 3 : Rat), 100 / 3] = tx [50, 48, 48, 47, 51, 32, 49, 48, 48, 47, 51, 32] := by decide +kernel
theorem tx5 : txts [(1000 : Rat), 1000, 1000] = tx [49, 48, 48, 48, 47, 49, 32, 49, 48, 48, 48, 47, 49, 32, 49, 48, 48, 48, 47, 49, 32] := by decide +kernel
theorem tx6 : txts [(1 : Rat), 1, 1] = tx [49, 47, 49, 32, 49, 47, 49, 32, 49, 47, 49, 32] := by decide +kernel
theorem co1 : coinL [(50 : Rat), 100] = [50, 100] := by decide +kernel
theorem co2 : coinL [(200 / 3 : Rat), 100 / 3] = [67, 33] := by decide +kernel
theorem su1 : rsum [(50 : Rat), 100] 2 = ((fl (rsum [(50 : Rat), 100] 2) : Int) : Rat) := by decide +kernel
theorem su2 : rsum [(200 / 3 : Rat), 100 / 3] 2 = ((fl (rsum [(200 / 3 : Rat), 100 / 3] 2) : Int) : Rat) := by decide +kernel
set_option maxHeartbeats 8000000 in
set_option maxRecDepth 20000 in
theorem small_m : Means false Tryz.prog 7 [] (bb true) := by
  have c1 := Solve_q pv1 (by decide)
  have c2 := Solve_q pv2 (by decide)
  have c3 := Solve_q pv3 (by decide)
  have c4 := Solve_bad p4.1 p4.2 (by decide) (by decide) (by decide) (by rw [pb4]; decide)
  have b1 := allQ_mem pv1 (by decide)
  have b2 := keptQ_mem pv1 (by decide)
  have b3 := allQ_mem pv2 (by decide)
  have b4 := keptQ_mem pv2 (by decide)
  have b5 := allQ_mem pv3 (by decide)
  have b6 := keptQ_mem pv3 (by decide)
  have hch := all_check pv2
  rw [pb4] at c4
  rw [all1, kept1] at c1
  rw [all2, kept2] at c2 hch
  rw [all3, kept3] at c3
  rw [all1] at b1
  rw [kept1] at b2
  rw [all2] at b3
  rw [kept2] at b4
  rw [all3] at b5
  rw [kept3] at b6
  have d1 := Coins_t (ks := [50, 100]) (fun k hk => ⟨(by decide +kernel : ∀ k ∈ [(50 : Rat), 100], 0 ≤ k ∧ k ≤ most) k hk, b2 k hk⟩) (by decide) (by decide) su1
  have d2 := Coins_t (ks := [200 / 3, 100 / 3]) (fun k hk => ⟨(by decide +kernel : ∀ k ∈ [(200 / 3 : Rat), 100 / 3], 0 ≤ k ∧ k ≤ most) k hk, b4 k hk⟩) (by decide) (by decide) su2
  rw [co1] at d1
  rw [co2] at d2
  have ck := Check_q p2.1 p2.2 pv2 (by decide) [400 / 3, 200 / 3] [200 / 3, 100 / 3] rfl rfl (fun x hx => ⟨(b3 x hx).1, bt_mono (b3 x hx).2 (by decide)⟩) (fun y hy => bt_rq (b4 y hy) (by decide) (by decide))
  rw [if_pos hch] at ck
  have t1 := texts_m [100, 100] (fun k hk => bt_rq (b1 k hk) (by decide) (by decide)) (by decide)
  have t2 := texts_m [50, 100] (fun k hk => bt_rq (b2 k hk) (by decide) (by decide)) (by decide)
  have t3 := texts_m [400 / 3, 200 / 3] (fun k hk => bt_rq (b3 k hk) (by decide) (by decide)) (by decide)
  have t4 := texts_m [200 / 3, 100 / 3] (fun k hk => bt_rq (b4 k hk) (by decide) (by decide)) (by decide)
  have t5 := texts_m [1000, 1000, 1000] (fun k hk => bt_rq (b5 k hk) (by decide) (by decide)) (by decide)
  have t6 := texts_m [1, 1, 1] (fun k hk => bt_rq (b6 k hk) (by decide) (by decide)) (by decide)
  rw [tx1] at t1
  rw [tx2] at t2
  rw [tx3] at t3
  rw [tx4] at t4
  rw [tx5] at t5
  rw [tx6] at t6
  have hba : ∀ a : ByteArray, (a == a) = true := fun a => beq_ba.2 rfl
  have i1 := ints_m [50, 100] [50, 100] (by decide) (by decide)
  have i2 := ints_m [67, 33] [67, 33] (by decide) (by decide)
  clear b1 b2 b3 b4 b5 b6 hch
  obtain ⟨A1, hA1⟩ : ∃ A, [(100 : Rat), 100] = A := ⟨_, rfl⟩
  obtain ⟨K1, hK1⟩ : ∃ A, [(50 : Rat), 100] = A := ⟨_, rfl⟩
  obtain ⟨A2, hA2⟩ : ∃ A, [(400 / 3 : Rat), 200 / 3] = A := ⟨_, rfl⟩
  obtain ⟨K2, hK2⟩ : ∃ A, [(200 / 3 : Rat), 100 / 3] = A := ⟨_, rfl⟩
  obtain ⟨A3, hA3⟩ : ∃ A, [(1000 : Rat), 1000, 1000] = A := ⟨_, rfl⟩
  obtain ⟨K3, hK3⟩ : ∃ A, [(1 : Rat), 1, 1] = A := ⟨_, rfl⟩
  rw [hA1] at c1 t1
  rw [hK1] at c1 t2 d1
  rw [hA2] at c2 t3 ck
  rw [hK2] at c2 t4 d2 ck
  rw [hA3] at c3 t5
  rw [hK3] at c3 t6
  have ckh : MeansH Tryz.prog 18 [.row ⟨3, 1, [ii 100, ii 0]⟩, .row ⟨3, 1, [ii 0, ii 500]⟩, .row ⟨3, 1, [ii 500, ii 0]⟩, .row ⟨22, 1, [.ow 1, .ow 2]⟩] [.ow 0, .ow 3, fql A2, fql K2] (ii 0) [.row ⟨3, 1, [ii 100, ii 0]⟩, .row ⟨3, 1, [ii 0, ii 500]⟩, .row ⟨3, 1, [ii 500, ii 0]⟩, .row ⟨22, 1, [.ow 1, .ow 2]⟩] :=
    meansZ_h [3] ck (by simp [frzOK, nestIds, AV.flat, AV.idB]) rfl (by rfl)
  refine means_fn false 140 [.tmp 0] Tryz.func7 rfl rfl rfl (by simp) (by decide) rfl fun X hX => ?_
  (repeat (first | refine awp_seq ?_ | refine awp_block ?_ | ((first | refine awp_runG [0, 1, 2, 3, 4, 5, 6, 7, 8, 9, 12, 13, 14, 15, 16, 17, 18] hX ?_ | refine awp_drawnG [0, 1, 2, 3, 4, 5, 6, 7, 8, 9, 12, 13, 14, 15, 16, 17, 18] hX mixed ?_ | refine awp_ret ?_ | refine awp_skip ?_ | refine awp_exit ?_); (simp [go_sem]; try (refine ⟨by kernel_rfl, ?_⟩)))))
  refine callZ_intro [3] c1 (by simp [go_sem]) (by simp [go_sem]) (by simp [go_sem]) (by simp [go_sem]) ?_
  try (simp [go_sem]; try (refine ⟨by kernel_rfl, ?_⟩))
  (repeat (first | refine awp_seq ?_ | refine awp_block ?_ | ((first | refine awp_runG [0, 1, 2, 3, 4, 5, 6, 7, 8, 9, 12, 13, 14, 15, 16, 17, 18] hX ?_ | refine awp_drawnG [0, 1, 2, 3, 4, 5, 6, 7, 8, 9, 12, 13, 14, 15, 16, 17, 18] hX mixed ?_ | refine awp_ret ?_ | refine awp_skip ?_ | refine awp_exit ?_); (simp [go_sem]; try (refine ⟨by kernel_rfl, ?_⟩)))))
  refine callZ_intro [7] c2 (by simp [go_sem]) (by simp [go_sem]) (by simp [go_sem]) (by simp [go_sem]) ?_
  try (simp [go_sem]; try (refine ⟨by kernel_rfl, ?_⟩))
  (repeat (first | refine awp_seq ?_ | refine awp_block ?_ | ((first | refine awp_runG [0, 1, 2, 3, 4, 5, 6, 7, 8, 9, 12, 13, 14, 15, 16, 17, 18] hX ?_ | refine awp_drawnG [0, 1, 2, 3, 4, 5, 6, 7, 8, 9, 12, 13, 14, 15, 16, 17, 18] hX mixed ?_ | refine awp_ret ?_ | refine awp_skip ?_ | refine awp_exit ?_); (simp [go_sem]; try (refine ⟨by kernel_rfl, ?_⟩)))))
  refine callZ_intro [12] c3 (by simp [go_sem]) (by simp [go_sem]) (by simp [go_sem]) (by simp [go_sem]) ?_
  try (simp [go_sem]; try (refine ⟨by kernel_rfl, ?_⟩))
  (repeat (first | refine awp_seq ?_ | refine awp_block ?_ | ((first | refine awp_runG [0, 1, 2, 3, 4, 5, 6, 7, 8, 9, 12, 13, 14, 15, 16, 17, 18] hX ?_ | refine awp_drawnG [0, 1, 2, 3, 4, 5, 6, 7, 8, 9, 12, 13, 14, 15, 16, 17, 18] hX mixed ?_ | refine awp_ret ?_ | refine awp_skip ?_ | refine awp_exit ?_); (simp [go_sem]; try (refine ⟨by kernel_rfl, ?_⟩)))))
  refine callZ_intro [16] c4 (by simp [go_sem]) (by simp [go_sem]) (by simp [go_sem]) (by simp [go_sem]) ?_
  try (simp [go_sem]; try (refine ⟨by kernel_rfl, ?_⟩))
  (repeat (first | refine awp_seq ?_ | refine awp_block ?_ | ((first | refine awp_runG [0, 1, 2, 3, 4, 5, 6, 7, 8, 9, 12, 13, 14, 15, 16, 17, 18] hX ?_ | refine awp_drawnG [0, 1, 2, 3, 4, 5, 6, 7, 8, 9, 12, 13, 14, 15, 16, 17, 18] hX mixed ?_ | refine awp_ret ?_ | refine awp_skip ?_ | refine awp_exit ?_); (simp [go_sem]; try (refine ⟨by kernel_rfl, ?_⟩)))))
  first | refine callK_intro (d1) rfl (by simp [go_sem]) rfl ?_ | refine callT_intro (d1) rfl (by simp [go_sem]) rfl ?_
  try (simp [go_sem]; try (refine ⟨by kernel_rfl, ?_⟩))
  (repeat (first | refine awp_seq ?_ | refine awp_block ?_ | ((first | refine awp_runG [0, 1, 2, 3, 4, 5, 6, 7, 8, 9, 12, 13, 14, 15, 16, 17, 18] hX ?_ | refine awp_drawnG [0, 1, 2, 3, 4, 5, 6, 7, 8, 9, 12, 13, 14, 15, 16, 17, 18] hX mixed ?_ | refine awp_ret ?_ | refine awp_skip ?_ | refine awp_exit ?_); (simp [go_sem]; try (refine ⟨by kernel_rfl, ?_⟩)))))
  first | refine callK_intro (d2) rfl (by simp [go_sem]) rfl ?_ | refine callT_intro (d2) rfl (by simp [go_sem]) rfl ?_
  try (simp [go_sem]; try (refine ⟨by kernel_rfl, ?_⟩))
  (repeat (first | refine awp_seq ?_ | refine awp_block ?_ | ((first | refine awp_runG [0, 1, 2, 3, 4, 5, 6, 7, 8, 9, 12, 13, 14, 15, 16, 17, 18] hX ?_ | refine awp_drawnG [0, 1, 2, 3, 4, 5, 6, 7, 8, 9, 12, 13, 14, 15, 16, 17, 18] hX mixed ?_ | refine awp_ret ?_ | refine awp_skip ?_ | refine awp_exit ?_); (simp [go_sem]; try (refine ⟨by kernel_rfl, ?_⟩)))))
  first | refine callK_intro (t1) rfl (by simp [go_sem]) rfl ?_ | refine callT_intro (t1) rfl (by simp [go_sem]) rfl ?_
  try (simp [go_sem]; try (refine ⟨by kernel_rfl, ?_⟩))
  first | refine callG_intro (fun hg => t2) rfl (by simp [go_sem]) rfl ?_ | refine callGT_intro (fun hg => t2) rfl (by simp [go_sem]) rfl ?_
  try (simp [go_sem]; try (refine ⟨by kernel_rfl, ?_⟩))
  first | refine callG_intro (fun hg => t3) rfl (by simp [go_sem]) rfl ?_ | refine callGT_intro (fun hg => t3) rfl (by simp [go_sem]) rfl ?_
  try (simp [go_sem]; try (refine ⟨by kernel_rfl, ?_⟩))
  first | refine callG_intro (fun hg => t4) rfl (by simp [go_sem]) rfl ?_ | refine callGT_intro (fun hg => t4) rfl (by simp [go_sem]) rfl ?_
  try (simp [go_sem]; try (refine ⟨by kernel_rfl, ?_⟩))
  first | refine callG_intro (fun hg => t5) rfl (by simp [go_sem]) rfl ?_ | refine callGT_intro (fun hg => t5) rfl (by simp [go_sem]) rfl ?_
  try (simp [go_sem]; try (refine ⟨by kernel_rfl, ?_⟩))
  first | refine callG_intro (fun hg => t6) rfl (by simp [go_sem]) rfl ?_ | refine callGT_intro (fun hg => t6) rfl (by simp [go_sem]) rfl ?_
  try (simp [go_sem]; try (refine ⟨by kernel_rfl, ?_⟩))
  (repeat (first | refine awp_seq ?_ | refine awp_block ?_ | ((first | refine awp_runG [0, 1, 2, 3, 4, 5, 6, 7, 8, 9, 12, 13, 14, 15, 16, 17, 18] hX ?_ | refine awp_drawnG [0, 1, 2, 3, 4, 5, 6, 7, 8, 9, 12, 13, 14, 15, 16, 17, 18] hX mixed ?_ | refine awp_ret ?_ | refine awp_skip ?_ | refine awp_exit ?_); (simp [go_sem, hba]; try (refine ⟨by kernel_rfl, ?_⟩)))))
  try (simp [go_sem, hba]; try (refine ⟨by kernel_rfl, ?_⟩))
  first | refine callG_intro (fun hg => i1) rfl (by simp [go_sem]) rfl ?_ | refine callGT_intro (fun hg => i1) rfl (by simp [go_sem]) rfl ?_
  try (simp [go_sem]; try (refine ⟨by kernel_rfl, ?_⟩))
  first | refine callG_intro (fun hg => i2) rfl (by simp [go_sem]) rfl ?_ | refine callGT_intro (fun hg => i2) rfl (by simp [go_sem]) rfl ?_
  try (simp [go_sem]; try (refine ⟨by kernel_rfl, ?_⟩))
  first | refine callHG_intro [19, 20, 21, 22] (fun hg => ckh) (by simp [go_sem]) (by simp [go_sem]) ?_ | refine callHGT_intro [19, 20, 21, 22] (fun hg => ckh) (by simp [go_sem]) ?_
  try (simp [go_sem]; try (refine ⟨by kernel_rfl, ?_⟩))
  (repeat (first | refine awp_seq ?_ | refine awp_block ?_ | ((first | refine awp_runG [0, 1, 2, 3, 4, 5, 6, 7, 8, 9, 12, 13, 14, 15, 16, 17, 18] hX ?_ | refine awp_drawnG [0, 1, 2, 3, 4, 5, 6, 7, 8, 9, 12, 13, 14, 15, 16, 17, 18] hX mixed ?_ | refine awp_ret ?_ | refine awp_skip ?_ | refine awp_exit ?_); (simp [go_sem]; try (refine ⟨by kernel_rfl, ?_⟩)))))
end Go.Proofs.YthibhamepjhfjaaGreatDoor

namespace Go.Proofs.YthibhamepjhfjaaGreatDoor
open Go.RowKit Go.Ab
attribute [local irreducible] AWP Go.Ab.Sub Means MeansH MeansX CallK CallG CallT CallGT CallU
def fewTo (S : List (List Int)) (i : Nat) : Prop := ∀ k, k < i → (S.getD k []).length ≤ 14
def fewP (own : List Int) (S : List (List Int)) : Prop := own.length ≤ 6 ∧ S.length ≤ 6 ∧ fewTo S S.length
noncomputable instance (own : List Int) (S : List (List Int)) : Decidable (fewP own S) := Classical.propDecidable _
theorem getL_lt {S : List (List Int)} {k : Nat} (h : k < S.length) : S.getD k [] = S[k] := by rw [List.getD_eq_getElem?_getD, List.getElem?_eq_getElem h]; rfl
set_option maxHeartbeats 4000000 in
theorem few_m (own : List Int) (S : List (List Int)) : Means false Tryz.prog 8 [il own, ill S] (bb (decide (fewP own S))) := by
  refine means_fn false 30 [.tmp 4] Tryz.func8 rfl rfl rfl (by simp) (by decide) rfl fun X hX => ?_
  (repeat (first | refine awp_seq ?_ | refine awp_block ?_ | ((first | refine awp_runG [0, 1, 4, 5, 13, 21] hX ?_ | refine awp_drawnG [0, 1, 4, 5, 13, 21] hX mixed ?_ | refine awp_ret ?_ | refine awp_skip ?_ | refine awp_exit ?_); (simp [go_sem]; try (refine ⟨by kernel_rfl, ?_⟩)))))
  refine awp_loop (fun i : Nat => ⟨mkE [(0, il own), (1, ill S), (5, ii i)], []⟩) (fun i => i ≤ S.length ∧ i ≤ 7 ∧ fewTo S i) (fun i => 7 - i) 0 ?_ ?_ ?_
  · refine sub_of _ [] (by simp [go_sem]) ?_
    simp [go_sem]
  · exact ⟨by omega, by omega, fun k hk => by omega⟩
  · rintro i ⟨h1, h2, h3⟩
    have wi := w64 (x := (i : Int) + 1) (by omega) (by omega)
    (repeat (first | refine awp_seq ?_ | refine awp_block ?_ | ((first | refine awp_runG [0, 1, 4, 5, 13, 21] hX ?_ | refine awp_drawnG [0, 1, 4, 5, 13, 21] hX mixed ?_ | refine awp_ret ?_ | refine awp_skip ?_ | refine awp_exit ?_); (simp [go_sem]; try (refine ⟨by kernel_rfl, ?_⟩)))))
    refine awp_cond (b := decide (i < S.length) && decide ((i : Int) < 7)) (by simp [go_sem]) (fun hb => ?_) (fun hb => ?_)
    · simp only [Bool.and_eq_true, decide_eq_true_eq] at hb
      obtain ⟨hb, h7⟩ := hb
      have q1 := nthE_L (L := S) hb
      have hg := getL_lt hb
      (repeat (first | refine awp_seq ?_ | refine awp_block ?_ | ((first | refine awp_runG [0, 1, 4, 5, 13, 21] hX ?_ | refine awp_drawnG [0, 1, 4, 5, 13, 21] hX mixed ?_ | refine awp_ret ?_ | refine awp_skip ?_ | refine awp_exit ?_); (simp [go_sem, hb, q1]; try (refine ⟨by kernel_rfl, ?_⟩)))))
      refine awp_cond (b := decide (14 < S[i].length)) (by simp [go_sem, hb, q1]; try omega) (fun hd => ?_) (fun hd => ?_)
      · simp only [decide_eq_true_eq] at hd
        have e : ¬ fewP own S := fun h => by
          have := h.2.2 i hb
          rw [hg] at this; omega
        (repeat (first | refine awp_seq ?_ | refine awp_block ?_ | ((first | refine awp_runG [0, 1, 4, 5, 13, 21] hX ?_ | refine awp_drawnG [0, 1, 4, 5, 13, 21] hX mixed ?_ | refine awp_ret ?_ | refine awp_skip ?_ | refine awp_exit ?_); (simp [go_sem, e]; try (refine ⟨by kernel_rfl, ?_⟩)))))
      · simp only [decide_eq_false_iff_not] at hd
        (repeat (first | refine awp_seq ?_ | refine awp_block ?_ | ((first | refine awp_runG [0, 1, 4, 5, 13, 21] hX ?_ | refine awp_drawnG [0, 1, 4, 5, 13, 21] hX mixed ?_ | refine awp_ret ?_ | refine awp_skip ?_ | refine awp_exit ?_); (simp [go_sem, wi]; try (refine ⟨by kernel_rfl, ?_⟩)))))
        refine ⟨i + 1, ⟨by omega, by omega, fun k hk => ?_⟩, by omega, ?_⟩
        · by_cases e : k = i
          · subst e; rw [hg]; omega
          · exact h3 k (by omega)
        · refine sub_of _ [] (by simp [go_sem]) ?_
          simp [go_sem]
    · simp only [Bool.and_eq_false_iff, decide_eq_false_iff_not] at hb
      (repeat (first | refine awp_seq ?_ | refine awp_block ?_ | ((first | refine awp_runG [0, 1, 4, 5, 13, 21] hX ?_ | refine awp_drawnG [0, 1, 4, 5, 13, 21] hX mixed ?_ | refine awp_ret ?_ | refine awp_skip ?_ | refine awp_exit ?_); (simp [go_sem]; try (refine ⟨by kernel_rfl, ?_⟩)))))
      have e : decide (fewP own S) = (decide ((own.length : Int) ≤ 6) && decide ((S.length : Int) ≤ 6)) := by
        rw [Bool.eq_iff_iff]
        simp only [Bool.and_eq_true, decide_eq_true_eq]
        constructor
        · rintro ⟨h4, h5, _⟩
          omega
        · rintro ⟨h4, h5⟩
          refine ⟨by omega, by omega, ?_⟩
          have : i = S.length := by omega
          rw [← this]; exact h3
      rw [e]
theorem rgiven_m (l : List Int) (hl : l.length ≤ 1000) (h : ∀ x ∈ l, 0 ≤ x ∧ x ≤ 1000) : Means false Tryz.prog 40 [il l] (ii (sumI l)) := by
  refine means_fn false 18 [.tmp 2] Tryz.func40 rfl rfl rfl (by simp) (by decide) rfl fun X hX => ?_
  (repeat (first | refine awp_seq ?_ | refine awp_block ?_ | ((first | refine awp_runG [0, 2, 3, 4, 8] hX ?_ | refine awp_drawnG [0, 2, 3, 4, 8] hX mixed ?_ | refine awp_ret ?_ | refine awp_skip ?_ | refine awp_exit ?_); (simp [go_sem]; try (refine ⟨by kernel_rfl, ?_⟩)))))
  refine awp_loop (fun k : Nat => ⟨mkE [(0, il l), (3, ii (sumI (l.take k))), (4, ii k)], []⟩) (fun k => k ≤ l.length) (fun k => l.length - k) 0 ?_ ?_ ?_
  · refine sub_of _ [] (by simp [go_sem]) ?_
    simp [go_sem, sumI]
  · omega
  · intro k hk
    (repeat (first | refine awp_seq ?_ | refine awp_block ?_ | ((first | refine awp_runG [0, 2, 3, 4, 8] hX ?_ | refine awp_drawnG [0, 2, 3, 4, 8] hX mixed ?_ | refine awp_ret ?_ | refine awp_skip ?_ | refine awp_exit ?_); (simp [go_sem]; try (refine ⟨by kernel_rfl, ?_⟩)))))
    refine awp_cond (b := decide (k < l.length)) (by simp [go_sem]) (fun hb => ?_) (fun hb => ?_)
    · simp only [decide_eq_true_eq] at hb
      have q1 := nth_ii hb
      have b1 := csum_bd l k h
      have b2 := csum_bd l (k + 1) h
      have e : sumI (l.take (k + 1)) = sumI (l.take k) + l[k] := by rw [List.take_succ_eq_append_getElem hb, sumI_snoc]
      rw [e] at b2
      have w1 := w64 (x := sumI (l.take k) + l[k]) (by omega) (by omega)
      have w2 := w64 (x := (k : Int) + 1) (by omega) (by omega)
      (repeat (first | refine awp_seq ?_ | refine awp_block ?_ | ((first | refine awp_runG [0, 2, 3, 4, 8] hX ?_ | refine awp_drawnG [0, 2, 3, 4, 8] hX mixed ?_ | refine awp_ret ?_ | refine awp_skip ?_ | refine awp_exit ?_); (simp [go_sem, hb, q1, w1, w2]; try (refine ⟨by kernel_rfl, ?_⟩)))))
      refine ⟨k + 1, by omega, by omega, ?_⟩
      rw [e]
      refine sub_of _ [] (by simp [go_sem]) ?_
      simp [go_sem]
    · simp only [decide_eq_false_iff_not] at hb
      have hk2 : k = l.length := by omega
      subst hk2
      rw [List.take_length]
      (repeat (first | refine awp_seq ?_ | refine awp_block ?_ | ((first | refine awp_runG [0, 2, 3, 4, 8] hX ?_ | refine awp_drawnG [0, 2, 3, 4, 8] hX mixed ?_ | refine awp_ret ?_ | refine awp_skip ?_ | refine awp_exit ?_); (simp [go_sem]; try (refine ⟨by kernel_rfl, ?_⟩)))))
def cellOk (S : List (List Int)) (k j : Nat) : Prop := 0 ≤ sO S k j ∧ sO S k j ≤ 1000 ∧ (k = j → sO S k j = 0)
noncomputable instance (S : List (List Int)) (k j : Nat) : Decidable (cellOk S k j) := Classical.propDecidable _
def cellsTo (S : List (List Int)) (k j : Nat) : Prop := ∀ t, t < j → cellOk S k t
def rowsTo (own : List Int) (S : List (List Int)) (i : Nat) : Prop := ∀ k, k < i → rowOk own S k
theorem row_cells {own : List Int} {S : List (List Int)} {k : Nat} (hk : k < own.length) : rowOk own S k ↔ (0 ≤ wO own k ∧ wO own k ≤ 1099511627776) ∧ (S.getD k []).length = own.length ∧ cellsTo S k own.length := by
  unfold rowOk cellsTo cellOk
  constructor
  · rintro ⟨h1, h2, h3, h4⟩
    refine ⟨h1, h2, fun t ht => ?_⟩
    have ht' : t < (S.getD k []).length := by omega
    have : sO S k t = (S.getD k [])[t] := by unfold sO; exact getD_at ht'
    have h5 := h3 _ (List.getElem_mem ht')
    rw [← this] at h5
    exact ⟨h5.1, h5.2, fun e => e ▸ h4⟩
  · rintro ⟨h1, h2, h3⟩
    refine ⟨h1, h2, fun x hx => ?_, (h3 k hk).2.2 rfl⟩
    obtain ⟨t, ht, rfl⟩ := List.getElem_of_mem hx
    have : sO S k t = (S.getD k [])[t] := by unfold sO; exact getD_at ht
    have := h3 t (by omega)
    omega
set_option maxHeartbeats 8000000 in
set_option maxRecDepth 20000 in
theorem rRight38 (own : List Int) (S : List (List Int)) (hl : own.length ≤ 9223372036854775807) (hS : S.length ≤ 9223372036854775807) : Means false Tryz.prog 17 [il own, ill S] (bb (decide (PR own S))) := by
  by_cases h0 : 0 < own.length ∧ own.length ≤ 12 ∧ S.length = own.length
  · refine means_fn false 89 [.tmp 4] Tryz.func17 rfl rfl rfl (by simp) (by decide) rfl fun X hX => ?_
    (repeat (first | refine awp_seq ?_ | refine awp_block ?_ | ((first | refine awp_runG [0, 1, 4, 5, 6, 21, 25, 49, 53, 88] hX ?_ | refine awp_drawnG [0, 1, 4, 5, 6, 21, 25, 49, 53, 88] hX mixed ?_ | refine awp_ret ?_ | refine awp_skip ?_ | refine awp_exit ?_); (simp [go_sem]; try (refine ⟨by kernel_rfl, ?_⟩)))))
    refine awp_cond (b := false) (by simp [go_sem, h0.2.2]; omega) (fun h => by cases h) (fun _ => ?_)
    (repeat (first | refine awp_seq ?_ | refine awp_block ?_ | ((first | refine awp_runG [0, 1, 4, 5, 6, 21, 25, 49, 53, 88] hX ?_ | refine awp_drawnG [0, 1, 4, 5, 6, 21, 25, 49, 53, 88] hX mixed ?_ | refine awp_ret ?_ | refine awp_skip ?_ | refine awp_exit ?_); (simp [go_sem]; try (refine ⟨by kernel_rfl, ?_⟩)))))
    refine awp_loop (fun k : Nat => ⟨mkE [(0, il own), (1, ill S), (5, ii k)], []⟩) (fun k => k ≤ own.length ∧ rowsTo own S k) (fun k => own.length - k) 0 ?_ ?_ ?_
    · refine sub_of _ [] (by simp [go_sem]) ?_
      simp [go_sem]
    · exact ⟨by omega, fun j hj => by omega⟩
    · rintro k ⟨hk, hp⟩
      have wk := w64 (x := (k : Int) + 1) (by omega) (by omega)
      (repeat (first | refine awp_seq ?_ | refine awp_block ?_ | ((first | refine awp_runG [0, 1, 4, 5, 6, 21, 25, 49, 53, 88] hX ?_ | refine awp_drawnG [0, 1, 4, 5, 6, 21, 25, 49, 53, 88] hX mixed ?_ | refine awp_ret ?_ | refine awp_skip ?_ | refine awp_exit ?_); (simp [go_sem]; try (refine ⟨by kernel_rfl, ?_⟩)))))
      refine awp_cond (b := decide (k < own.length)) (by simp [go_sem]) (fun hb => ?_) (fun hb => ?_)
      · simp only [decide_eq_true_eq] at hb
        have hkS : k < S.length := by omega
        have q1 := nth_ii hb
        have q2 := nthE_L (L := S) hkS
        have hg := getL_lt hkS
        have hro := row_cells (S := S) hb
        rw [hg, show wO own k = own[k] from getD_at hb] at hro
        (repeat (first | refine awp_seq ?_ | refine awp_block ?_ | ((first | refine awp_runG [0, 1, 4, 5, 6, 21, 25, 49, 53, 88] hX ?_ | refine awp_drawnG [0, 1, 4, 5, 6, 21, 25, 49, 53, 88] hX mixed ?_ | refine awp_ret ?_ | refine awp_skip ?_ | refine awp_exit ?_); (simp [go_sem, hb, hkS, q1, q2]; try (refine ⟨by kernel_rfl, ?_⟩)))))
        refine awp_cond (b := decide (¬ ((0 ≤ own[k] ∧ own[k] ≤ 1099511627776) ∧ S[k].length = own.length))) (by simp [go_sem, hb, hkS, q1, q2]; try grind) (fun hd => ?_) (fun hd => ?_)
        · have e : ¬ PR own S := fun h => by
            have := ((PR_iff own S).1 h).2 k hb
            have := hro.1 this
            simp [this.1, this.2.1] at hd
          (repeat (first | refine awp_seq ?_ | refine awp_block ?_ | ((first | refine awp_runG [0, 1, 4, 5, 6, 21, 25, 49, 53, 88] hX ?_ | refine awp_drawnG [0, 1, 4, 5, 6, 21, 25, 49, 53, 88] hX mixed ?_ | refine awp_ret ?_ | refine awp_skip ?_ | refine awp_exit ?_); (simp [go_sem, e]; try (refine ⟨by kernel_rfl, ?_⟩)))))
        · have hd : 0 ≤ own[k] ∧ own[k] ≤ 1099511627776 ∧ S[k].length = own.length := by simpa using hd
          (repeat (first | refine awp_seq ?_ | refine awp_block ?_ | ((first | refine awp_runG [0, 1, 4, 5, 6, 21, 25, 49, 53, 88] hX ?_ | refine awp_drawnG [0, 1, 4, 5, 6, 21, 25, 49, 53, 88] hX mixed ?_ | refine awp_ret ?_ | refine awp_skip ?_ | refine awp_exit ?_); (simp [go_sem]; try (refine ⟨by kernel_rfl, ?_⟩)))))
          refine awp_loop (fun j : Nat => ⟨mkE [(0, il own), (1, ill S), (5, ii k), (6, ii j)], []⟩) (fun j => j ≤ own.length ∧ cellsTo S k j) (fun j => own.length - j) 0 ?_ ?_ ?_
          · refine sub_of _ [] (by simp [go_sem]) ?_
            simp [go_sem]
          · exact ⟨by omega, fun j hj => by omega⟩
          · rintro j ⟨hj, hc⟩
            have wj := w64 (x := (j : Int) + 1) (by omega) (by omega)
            (repeat (first | refine awp_seq ?_ | refine awp_block ?_ | ((first | refine awp_runG [0, 1, 4, 5, 6, 21, 25, 49, 53, 88] hX ?_ | refine awp_drawnG [0, 1, 4, 5, 6, 21, 25, 49, 53, 88] hX mixed ?_ | refine awp_ret ?_ | refine awp_skip ?_ | refine awp_exit ?_); (simp [go_sem]; try (refine ⟨by kernel_rfl, ?_⟩)))))
            refine awp_cond (b := decide (j < own.length)) (by simp [go_sem]) (fun hb2 => ?_) (fun hb2 => ?_)
            · simp only [decide_eq_true_eq] at hb2
              have hjS : j < S[k].length := by omega
              have q3 := nth_ii hjS
              have hso : S[k][j] = sO S k j := by unfold sO; rw [hg]; exact (getD_at hjS).symm
              rw [hso] at q3
              have hco : cellOk S k j ↔ 0 ≤ sO S k j ∧ sO S k j ≤ 1000 ∧ (k = j → sO S k j = 0) := Iff.rfl
              generalize sO S k j = v at *
              (repeat (first | refine awp_seq ?_ | refine awp_block ?_ | ((first | refine awp_runG [0, 1, 4, 5, 6, 21, 25, 49, 53, 88] hX ?_ | refine awp_drawnG [0, 1, 4, 5, 6, 21, 25, 49, 53, 88] hX mixed ?_ | refine awp_ret ?_ | refine awp_skip ?_ | refine awp_exit ?_); (simp [go_sem, hb2, hkS, hjS, q2, q3]; try (refine ⟨by kernel_rfl, ?_⟩)))))
              refine ⟨fun h1 h2 h3 => ⟨⟨h1, h2⟩, h3⟩, ?_⟩
              refine awp_cond (b := decide (v < 0) || decide (1000 < v) || decide ((k : Int) = (j : Int)) && !decide (v = 0)) (by simp [go_sem]) (fun hd2 => ?_) (fun hd2 => ?_)
              · simp only [Bool.or_eq_true, Bool.and_eq_true, Bool.not_eq_true', decide_eq_true_eq, decide_eq_false_iff_not] at hd2
                have e : ¬ PR own S := fun h => by
                  have := ((PR_iff own S).1 h).2 k hb
                  have := hco.1 ((hro.1 this).2.2 j hb2)
                  omega
                (repeat (first | refine awp_seq ?_ | refine awp_block ?_ | ((first | refine awp_runG [0, 1, 4, 5, 6, 21, 25, 49, 53, 88] hX ?_ | refine awp_drawnG [0, 1, 4, 5, 6, 21, 25, 49, 53, 88] hX mixed ?_ | refine awp_ret ?_ | refine awp_skip ?_ | refine awp_exit ?_); (simp [go_sem, e]; try (refine ⟨by kernel_rfl, ?_⟩)))))
              · simp only [Bool.or_eq_false_iff, Bool.and_eq_false_iff, Bool.not_eq_false', decide_eq_true_eq, decide_eq_false_iff_not] at hd2
                have hd2 : cellOk S k j := hco.2 (by omega)
                (repeat (first | refine awp_seq ?_ | refine awp_block ?_ | ((first | refine awp_runG [0, 1, 4, 5, 6, 21, 25, 49, 53, 88] hX ?_ | refine awp_drawnG [0, 1, 4, 5, 6, 21, 25, 49, 53, 88] hX mixed ?_ | refine awp_ret ?_ | refine awp_skip ?_ | refine awp_exit ?_); (simp [go_sem, wj]; try (refine ⟨by kernel_rfl, ?_⟩)))))
                refine ⟨j + 1, ⟨by omega, fun t ht => ?_⟩, by omega, ?_⟩
                · by_cases e : t = j
                  · subst e; exact hd2
                  · exact hc t (by omega)
                · refine sub_of _ [] (by simp [go_sem]) ?_
                  simp [go_sem]
            · simp only [decide_eq_false_iff_not] at hb2
              have : j = own.length := by omega
              subst this
              (repeat (first | refine awp_seq ?_ | refine awp_block ?_ | ((first | refine awp_runG [0, 1, 4, 5, 6, 21, 25, 49, 53, 88] hX ?_ | refine awp_drawnG [0, 1, 4, 5, 6, 21, 25, 49, 53, 88] hX mixed ?_ | refine awp_ret ?_ | refine awp_skip ?_ | refine awp_exit ?_); (simp [go_sem, wk]; try (refine ⟨by kernel_rfl, ?_⟩)))))
              refine ⟨k + 1, ⟨by omega, fun t ht => ?_⟩, by omega, ?_⟩
              · by_cases e : t = k
                · subst e; exact hro.2 ⟨⟨hd.1, hd.2.1⟩, hd.2.2, hc⟩
                · exact hp t (by omega)
              · refine sub_of _ [] (by simp [go_sem]) ?_
                simp [go_sem]
      · simp only [decide_eq_false_iff_not] at hb
        have hk2 : k = own.length := by omega
        subst hk2
        have e : PR own S := (PR_iff own S).2 ⟨h0, hp⟩
        (repeat (first | refine awp_seq ?_ | refine awp_block ?_ | ((first | refine awp_runG [0, 1, 4, 5, 6, 21, 25, 49, 53, 88] hX ?_ | refine awp_drawnG [0, 1, 4, 5, 6, 21, 25, 49, 53, 88] hX mixed ?_ | refine awp_ret ?_ | refine awp_skip ?_ | refine awp_exit ?_); (simp [go_sem, e]; try (refine ⟨by kernel_rfl, ?_⟩)))))
  · have e : ¬ PR own S := fun h => h0 ⟨h.pos, h.most, h.len⟩
    refine means_fn false 89 [.tmp 4] Tryz.func17 rfl rfl rfl (by simp) (by decide) rfl fun X hX => ?_
    (repeat (first | refine awp_seq ?_ | refine awp_block ?_ | ((first | refine awp_runG [0, 1, 4, 5, 6, 21, 25, 49, 53, 88] hX ?_ | refine awp_drawnG [0, 1, 4, 5, 6, 21, 25, 49, 53, 88] hX mixed ?_ | refine awp_ret ?_ | refine awp_skip ?_ | refine awp_exit ?_); (simp [go_sem]; try (refine ⟨by kernel_rfl, ?_⟩)))))
    refine awp_cond (b := true) (by simp [go_sem]; omega) (fun _ => ?_) (fun h => by cases h)
    (repeat (first | refine awp_seq ?_ | refine awp_block ?_ | ((first | refine awp_runG [0, 1, 4, 5, 6, 21, 25, 49, 53, 88] hX ?_ | refine awp_drawnG [0, 1, 4, 5, 6, 21, 25, 49, 53, 88] hX mixed ?_ | refine awp_ret ?_ | refine awp_skip ?_ | refine awp_exit ?_); (simp [go_sem, e]; try (refine ⟨by kernel_rfl, ?_⟩)))))
theorem rBad_m (own : List Int) (S : List (List Int)) (hl : own.length ≤ 9223372036854775807) (hS : S.length ≤ 9223372036854775807) : Means false Tryz.prog 20 [il own, ill S] (ii (badP own S)) := by
  have c1 := rRight38 own S hl hS
  refine means_fn false 22 [.tmp 4] Tryz.func20 rfl rfl rfl (by simp) (by decide) rfl fun X hX => ?_
  (repeat (first | refine awp_seq ?_ | refine awp_block ?_ | ((first | refine awp_runG [0, 1, 4, 5, 9, 13, 21] hX ?_ | refine awp_drawnG [0, 1, 4, 5, 9, 13, 21] hX mixed ?_ | refine awp_ret ?_ | refine awp_skip ?_ | refine awp_exit ?_); (simp [go_sem]; try (refine ⟨by kernel_rfl, ?_⟩)))))
  first | refine callK_intro (c1) rfl (by simp [go_sem]) rfl ?_ | refine callT_intro (c1) rfl (by simp [go_sem]) rfl ?_
  try (simp [go_sem]; try (refine ⟨by kernel_rfl, ?_⟩))
  by_cases h : PR own S
  · refine awp_cond (b := false) (by simp [go_sem, h]) (fun h => by cases h) (fun _ => ?_)
    (repeat (first | refine awp_seq ?_ | refine awp_block ?_ | ((first | refine awp_runG [0, 1, 4, 5, 9, 13, 21] hX ?_ | refine awp_drawnG [0, 1, 4, 5, 9, 13, 21] hX mixed ?_ | refine awp_ret ?_ | refine awp_skip ?_ | refine awp_exit ?_); (simp [go_sem]; try (refine ⟨by kernel_rfl, ?_⟩)))))
    refine awp_loop (fun k : Nat => ⟨mkE [(1, ill S), (5, ii k)], []⟩) (fun k => k ≤ S.length ∧ ∀ l ∈ S.take k, sumI l < 1000) (fun k => S.length - k) 0 ?_ ?_ ?_
    · refine sub_of _ [] (by simp [go_sem]) ?_
      simp [go_sem]
    · exact ⟨by omega, by simp⟩
    · rintro k ⟨hk, hp⟩
      have hsl := h.len
      have hmo := h.most
      have wk := w64 (x := (k : Int) + 1) (by omega) (by omega)
      (repeat (first | refine awp_seq ?_ | refine awp_block ?_ | ((first | refine awp_runG [0, 1, 4, 5, 9, 13, 21] hX ?_ | refine awp_drawnG [0, 1, 4, 5, 9, 13, 21] hX mixed ?_ | refine awp_ret ?_ | refine awp_skip ?_ | refine awp_exit ?_); (simp [go_sem]; try (refine ⟨by kernel_rfl, ?_⟩)))))
      refine awp_cond (b := decide (k < S.length)) (by simp [go_sem]) (fun hb => ?_) (fun hb => ?_)
      · simp only [decide_eq_true_eq] at hb
        have q2 := nthE_L (L := S) hb
        have hpr := PR_row h (List.getElem_mem hb)
        have c2 := rgiven_m S[k] (by omega) hpr.2
        (repeat (first | refine awp_seq ?_ | refine awp_block ?_ | ((first | refine awp_runG [0, 1, 4, 5, 9, 13, 21] hX ?_ | refine awp_drawnG [0, 1, 4, 5, 9, 13, 21] hX mixed ?_ | refine awp_ret ?_ | refine awp_skip ?_ | refine awp_exit ?_); (simp [go_sem, hb, q2]; try (refine ⟨by kernel_rfl, ?_⟩)))))
        first | refine callK_intro (c2) rfl (by simp [go_sem]) rfl ?_ | refine callT_intro (c2) rfl (by simp [go_sem]) rfl ?_
        try (simp [go_sem]; try (refine ⟨by kernel_rfl, ?_⟩))
        refine awp_cond (b := decide (1000 ≤ sumI S[k])) (by simp [go_sem]) (fun hd => ?_) (fun hd => ?_)
        · simp only [decide_eq_true_eq] at hd
          have e : badP own S = 23 := by
            unfold badP
            rw [if_pos h, if_neg fun hv => by have := hv.lt _ (List.getElem_mem hb); omega]
          (repeat (first | refine awp_seq ?_ | refine awp_block ?_ | ((first | refine awp_runG [0, 1, 4, 5, 9, 13, 21] hX ?_ | refine awp_drawnG [0, 1, 4, 5, 9, 13, 21] hX mixed ?_ | refine awp_ret ?_ | refine awp_skip ?_ | refine awp_exit ?_); (simp [go_sem, e]; try (refine ⟨by kernel_rfl, ?_⟩)))))
        · simp only [decide_eq_false_iff_not] at hd
          (repeat (first | refine awp_seq ?_ | refine awp_block ?_ | ((first | refine awp_runG [0, 1, 4, 5, 9, 13, 21] hX ?_ | refine awp_drawnG [0, 1, 4, 5, 9, 13, 21] hX mixed ?_ | refine awp_ret ?_ | refine awp_skip ?_ | refine awp_exit ?_); (simp [go_sem, wk]; try (refine ⟨by kernel_rfl, ?_⟩)))))
          refine ⟨k + 1, ⟨by omega, fun l hl => ?_⟩, by omega, ?_⟩
          · rw [List.take_succ_eq_append_getElem hb] at hl
            rcases List.mem_append.1 hl with hl | hl
            · exact hp l hl
            · simp at hl; subst hl; omega
          · refine sub_of _ [] (by simp [go_sem]) ?_
            simp [go_sem]
      · simp only [decide_eq_false_iff_not] at hb
        rw [List.take_of_length_le (by omega)] at hp
        have e : badP own S = 0 := by unfold badP; rw [if_pos h, if_pos ⟨h, hp⟩]
        (repeat (first | refine awp_seq ?_ | refine awp_block ?_ | ((first | refine awp_runG [0, 1, 4, 5, 9, 13, 21] hX ?_ | refine awp_drawnG [0, 1, 4, 5, 9, 13, 21] hX mixed ?_ | refine awp_ret ?_ | refine awp_skip ?_ | refine awp_exit ?_); (simp [go_sem, e]; try (refine ⟨by kernel_rfl, ?_⟩)))))
  · have e : badP own S = 1 := by unfold badP; rw [if_neg h]
    rw [e]
    refine awp_cond (b := true) (by simp [go_sem, h]) (fun _ => ?_) (fun h => by cases h)
    (repeat (first | refine awp_seq ?_ | refine awp_block ?_ | ((first | refine awp_runG [0, 1, 4, 5, 9, 13, 21] hX ?_ | refine awp_drawnG [0, 1, 4, 5, 9, 13, 21] hX mixed ?_ | refine awp_ret ?_ | refine awp_skip ?_ | refine awp_exit ?_); (simp [go_sem]; try (refine ⟨by kernel_rfl, ?_⟩)))))
end Go.Proofs.YthibhamepjhfjaaGreatDoor

namespace Go.Proofs.YthibhamepjhfjaaGreatDoor
open Go.RowKit Go.Ab
theorem cast_nn {z : Int} (h : 0 ≤ z) : (0 : Rat) ≤ (z : Rat) := show ((0 : Int) : Rat) ≤ _ from Rat.intCast_le_intCast.2 h
theorem sumR_add (f g : Nat → Rat) (n : Nat) : sumR (fun k => f k + g k) n = sumR f n + sumR g n := by
  have := sumR_lin f g 1 1 n
  have e : (fun k => f k + g k) = fun k => 1 * f k + 1 * g k := by funext k; grind
  rw [e, this]; grind
theorem sumR_mul (f : Nat → Rat) (c : Rat) (n : Nat) : sumR (fun k => c * f k) n = c * sumR f n := by
  have := sumR_lin f (fun _ => 0) c 0 n
  have e : (fun k => c * f k) = fun k => c * f k + 0 * 0 := by funext k; grind
  rw [e, this]; grind
theorem sumR_swap (f : Nat → Nat → Rat) (n : Nat) : ∀ m, sumR (fun i => sumR (fun t => f i t) m) n = sumR (fun t => sumR (fun i => f i t) n) m
  | 0 => by simp only [sumR]; exact sumR_zero fun _ _ => rfl
  | m + 1 => by
    simp only [sumR]
    rw [sumR_add, sumR_swap f n m]
variable {own : List Int} {S : List (List Int)}
theorem kept_eq (h : PV own S) {t : Nat} (ht : t < own.length) : keptX own S t = allX own S t - sumR (fun i => allX own S t * (((sO S t i : Int) : Rat) / 1000)) own.length := by
  obtain ⟨l, hl, hS, hs⟩ := row_sum h.toPR ht
  have hg : S.getD t [] = l := by rw [List.getD_eq_getElem?_getD, hS]; rfl
  have e : sumR (fun i => allX own S t * (((sO S t i : Int) : Rat) / 1000)) own.length = allX own S t * (((sumI l : Int) : Rat) / 1000) := by
    rw [← hs]
    have e2 : (fun i => allX own S t * (((sO S t i : Int) : Rat) / 1000)) = fun i => (allX own S t / 1000) * ((sO S t i : Int) : Rat) := by funext i; grind
    rw [e2, sumR_mul]; grind
  unfold keptX
  rw [e, hg, Rat.intCast_sub]
  have : ((1000 : Int) : Rat) = 1000 := rfl
  rw [this]; grind
theorem kept_sum (h : PV own S) : sumR (keptX own S) own.length = ((sumI own : Int) : Rat) := by
  have e1 : sumR (keptX own S) own.length = sumR (fun t => allX own S t + (-1) * sumR (fun i => allX own S t * (((sO S t i : Int) : Rat) / 1000)) own.length) own.length := sumR_congr fun t ht => by rw [kept_eq h ht]; grind
  have e2 : sumR (allX own S) own.length = sumR (fun i => ((wO own i : Int) : Rat) + sumR (fun t => allX own S t * (((sO S t i : Int) : Rat) / 1000)) own.length) own.length := sumR_congr fun i hi => all_eq h hi
  rw [sumR_add, own_sum, sumR_swap] at e2
  rw [e1, sumR_add, sumR_mul, e2]; grind
theorem kept_nonneg (h : PV own S) {k : Nat} (hk : k < own.length) : 0 ≤ keptX own S k := by
  have h1 := all_nonneg h hk
  have h2 := part_bd h hk
  unfold keptX
  refine Rat.mul_nonneg h1 ?_
  have h3 : (0 : Rat) ≤ ((1000 - sumI (S.getD k []) : Int) : Rat) := cast_nn (by omega)
  have h4 : ((1000 : Int) : Rat) = 1000 := rfl
  rw [h4]
  grind
theorem all_own (h : PV own S) {k : Nat} (hk : k < own.length) : ((wO own k : Int) : Rat) ≤ allX own S k := by
  rw [all_eq h hk]
  have : 0 ≤ sumR (fun t => allX own S t * (((sO S t k : Int) : Rat) / 1000)) own.length := sumR_nonneg fun t ht => by
    have h1 := all_nonneg h ht
    have h2 := (h.s t k ht hk).1
    have h3 : (0 : Rat) ≤ ((sO S t k : Int) : Rat) := cast_nn h2
    refine Rat.mul_nonneg h1 ?_
    grind
  grind
theorem sumI_bd {B : Int} (hB : 0 ≤ B) : ∀ (l : List Int), (∀ x ∈ l, 0 ≤ x ∧ x ≤ B) → 0 ≤ sumI l ∧ sumI l ≤ B * l.length
  | [], _ => by simp [sumI]
  | x :: l, h => by
    have h1 := h x (by simp)
    have h2 := sumI_bd hB l fun y hy => h y (by simp [hy])
    simp only [sumI, List.length_cons]
    have : B * ((l.length + 1 : Nat) : Int) = B * l.length + B := by rw [Int.natCast_add, Int.mul_add]; simp
    omega
theorem own_bd (h : PV own S) (h6 : own.length ≤ 6) : 0 ≤ sumI own ∧ sumI own ≤ 6597069766656 := by
  have := sumI_bd (B := 1099511627776) (by decide) own fun x hx => by
    obtain ⟨k, hk, rfl⟩ := List.getElem_of_mem hx
    have := h.w k hk
    rwa [show wO own k = own[k] from getD_at hk] at this
  omega
end Go.Proofs.YthibhamepjhfjaaGreatDoor

namespace Go.Proofs.YthibhamepjhfjaaGreatDoor
open Go.RowKit Go.Ab
attribute [local irreducible] AWP Go.Ab.Sub Means MeansH MeansX CallK CallG CallT CallGT CallU
structure coinOk (f : Rat) (l : Int) : Prop where
  less : ((l - 1 : Int) : Rat) < f
  more : f < ((l + 1 : Int) : Rat)
  whole : ((fl f : Int) : Rat) = f → ((l : Int) : Rat) = f
  bd : 0 ≤ l ∧ l ≤ 9000000000000
  nn : 0 ≤ f
  top : f ≤ ((6597069766656 : Int) : Rat)
theorem sumI_succ {l : List Int} {i : Nat} (h : i < l.length) : sumI (l.take (i + 1)) = sumI (l.take i) + l[i] := by rw [List.take_succ_eq_append_getElem h, sumI_snoc]
end Go.Proofs.YthibhamepjhfjaaGreatDoor

namespace Go.Proofs.YthibhamepjhfjaaGreatDoor
open Go.RowKit Go.Ab
attribute [local irreducible] AWP Go.Ab.Sub Means MeansH MeansX CallK CallG CallT CallGT CallU
def qsum (K : List Rat) (i : Nat) : Rat := sumR (fun t => K.getD t 0) i
theorem qsum_succ (K : List Rat) (i : Nat) : qsum K (i + 1) = qsum K i + K.getD i 0 := rfl
theorem qsum_bt {K : List Rat} (h : ∀ k ∈ K, bt 320 k.num ∧ bt 80 k.den) : ∀ i, i ≤ K.length → bt (320 + 81 * i) (qsum K i).num ∧ bt (80 * i) (qsum K i).den
  | 0, _ => ⟨(Nat.zero_le _ : (0 : Nat) ≤ 2 ^ (320 + 81 * 0)), (Nat.one_le_two_pow : 1 ≤ 2 ^ (80 * 0))⟩
  | i + 1, hi => by
    obtain ⟨h1, h2⟩ := qsum_bt h i (by omega)
    have hg : K.getD i 0 = K[i] := by rw [List.getD_eq_getElem?_getD, List.getElem?_eq_getElem (by omega)]; rfl
    obtain ⟨h3, h4⟩ := h K[i] (List.getElem_mem _)
    rw [qsum_succ, hg]
    have := add_bt (c := 400 + 81 * i) h1 h2 h3 h4 (by omega) (by omega)
    refine ⟨?_, ?_⟩
    · have e : 400 + 81 * i + 1 = 320 + 81 * (i + 1) := by omega
      rw [← e]; exact this.1
    · rw [Nat.mul_add, Nat.mul_one]; exact this.2
theorem qsum_ok {K : List Rat} (h : ∀ k ∈ K, bt 320 k.num ∧ bt 80 k.den) {i : Nat} (hi : i < K.length) (h7 : K.length ≤ 7) : okAdd (qsum K i) K[i] := by
  obtain ⟨h1, h2⟩ := qsum_bt h i (by omega)
  obtain ⟨h3, h4⟩ := h K[i] (List.getElem_mem _)
  exact okAdd_bt h1 h2 h3 h4 (by omega) (by omega) (by omega)
theorem qsum_rq {K : List Rat} (h : ∀ k ∈ K, bt 320 k.num ∧ bt 80 k.den) {i : Nat} (hi : i ≤ K.length) (h7 : K.length ≤ 7) : rq (qsum K i) := by
  obtain ⟨h1, h2⟩ := qsum_bt h i hi
  exact rq_bt h1 h2 (by omega) (by omega)
set_option maxHeartbeats 4000000 in
theorem total_m (K : List Rat) (h : ∀ k ∈ K, bt 320 k.num ∧ bt 80 k.den) (h7 : K.length ≤ 7) : Means false Tryz.prog 23 [fql K] (.tup [frq (qsum K K.length), bb true]) := by
  have o0 := Of_q 0 1 (by decide) (by decide) (by decide)
  rw [cast1] at o0
  have hq0 : ((0 : Int) : Rat) = qsum K 0 := rfl
  rw [hq0] at o0
  refine means_fn false 33 [.cell 2 41, .tmp 3] Tryz.func23 rfl rfl rfl (by simp) (by decide) rfl fun X hX => ?_
  (repeat (first | refine awp_seq ?_ | refine awp_block ?_ | ((first | refine awp_runG [0, 2, 3, 4, 5, 6, 18] hX ?_ | refine awp_drawnG [0, 2, 3, 4, 5, 6, 18] hX mixed ?_ | refine awp_ret ?_ | refine awp_skip ?_ | refine awp_exit ?_); (simp [go_sem]; try (refine ⟨by kernel_rfl, ?_⟩)))))
  first | refine callK_intro (o0) rfl (by simp [go_sem]) rfl ?_ | refine callT_intro (o0) rfl (by simp [go_sem]) rfl ?_
  try (simp [go_sem]; try (refine ⟨by kernel_rfl, ?_⟩))
  (repeat (first | refine awp_seq ?_ | refine awp_block ?_ | ((first | refine awp_runG [0, 2, 3, 4, 5, 6, 18] hX ?_ | refine awp_drawnG [0, 2, 3, 4, 5, 6, 18] hX mixed ?_ | refine awp_ret ?_ | refine awp_skip ?_ | refine awp_exit ?_); (simp [go_sem]; try (refine ⟨by kernel_rfl, ?_⟩)))))
  refine awp_loop (fun i : Nat => ⟨mkE [(0, fql K), (2, .el 0 4 0 0), (4, .el 1 4 0 0), (5, ii 0), (6, ii i)], [.row ⟨41, 4, [frZ 0 0]⟩, .row ⟨41, 4, [frq (qsum K i)]⟩]⟩) (fun i => i ≤ K.length) (fun i => K.length - i) 0 ?_ ?_ ?_
  · refine sub_of _ [.old 0 ⟨41, 4, [frZ 0 0]⟩, .old 1 ⟨41, 4, [frq (qsum K 0)]⟩] (by simp [go_sem]) ?_
    simp [go_sem]
  · omega
  · intro i hi
    have wi := w64 (x := (i : Int) + 1) (by omega) (by omega)
    (repeat (first | refine awp_seq ?_ | refine awp_block ?_ | ((first | refine awp_runG [0, 2, 3, 4, 5, 6, 18] hX ?_ | refine awp_drawnG [0, 2, 3, 4, 5, 6, 18] hX mixed ?_ | refine awp_ret ?_ | refine awp_skip ?_ | refine awp_exit ?_); (simp [go_sem]; try (refine ⟨by kernel_rfl, ?_⟩)))))
    refine awp_cond (b := decide (i < K.length)) (by simp [go_sem]) (fun hb => ?_) (fun hb => ?_)
    · simp only [decide_eq_true_eq] at hb
      have q1 : nth (K.map frq) i = frq K[i] := nth_map _ hb
      have hg : K.getD i 0 = K[i] := by rw [List.getD_eq_getElem?_getD, List.getElem?_eq_getElem hb]; rfl
      have hkq : rq K[i] := bt_rq (h _ (List.getElem_mem hb)) (by decide) (by decide)
      have c1 := Add_qt (qsum_rq h (i := i) (by omega) h7) hkq (qsum_ok h hb h7)
      have es := qsum_succ K i
      rw [hg] at es
      rw [← es] at c1
      clear es
      generalize qsum K i = s0 at *
      obtain ⟨s1, hs1⟩ : ∃ s, qsum K (i + 1) = s := ⟨_, rfl⟩
      rw [hs1] at c1
      (repeat (first | refine awp_seq ?_ | refine awp_block ?_ | ((first | refine awp_runG [0, 2, 3, 4, 5, 6, 18] hX ?_ | refine awp_drawnG [0, 2, 3, 4, 5, 6, 18] hX mixed ?_ | refine awp_ret ?_ | refine awp_skip ?_ | refine awp_exit ?_); (simp [go_sem, q1, hb]; try (refine ⟨by kernel_rfl, ?_⟩)))))
      first | refine callK_intro (c1) rfl (by simp [go_sem]) rfl ?_ | refine callT_intro (c1) rfl (by simp [go_sem]) rfl ?_
      try (simp [go_sem]; try (refine ⟨by kernel_rfl, ?_⟩))
      (repeat (first | refine awp_seq ?_ | refine awp_block ?_ | ((first | refine awp_runG [0, 2, 3, 4, 5, 6, 18] hX ?_ | refine awp_drawnG [0, 2, 3, 4, 5, 6, 18] hX mixed ?_ | refine awp_ret ?_ | refine awp_skip ?_ | refine awp_exit ?_); (simp [go_sem, wi]; try (refine ⟨by kernel_rfl, ?_⟩)))))
      refine ⟨i + 1, by omega, by omega, ?_⟩
      rw [hs1]
      refine sub_of _ [.old 0 ⟨41, 4, [frZ 0 0]⟩, .old 1 ⟨41, 4, [frq s1]⟩] (by simp [go_sem]) ?_
      simp [go_sem]
    · have : i = K.length := by simp at hb; omega
      subst this
      (repeat (first | refine awp_seq ?_ | refine awp_block ?_ | ((first | refine awp_runG [0, 2, 3, 4, 5, 6, 18] hX ?_ | refine awp_drawnG [0, 2, 3, 4, 5, 6, 18] hX mixed ?_ | refine awp_ret ?_ | refine awp_skip ?_ | refine awp_exit ?_); (simp [go_sem]; try (refine ⟨by kernel_rfl, ?_⟩)))))
variable {own : List Int} {S : List (List Int)}
theorem chk_all (hv : PV own S) {xs ys : List Rat} (h : chkQ own S xs ys) {i : Nat} (hi : i < own.length) : xs.getD i 0 = allX own S i :=
  all_uniq hv (x := fun t => xs.getD t 0) (fun j hj => ((h j hj).1).symm) hi
theorem getD_set {K : List Rat} {i : Nat} (hi : i < K.length) (o : Rat) : (K.set i o).getD i 0 = o := by
  rw [List.getD_eq_getElem?_getD, List.getElem?_set_self hi]; rfl
theorem set_same {K : List Rat} {i : Nat} (hi : i < K.length) : K.set i (K.getD i 0) = K := by
  rw [getQ_lt hi]; exact List.set_getElem_self hi
theorem chk_bent (hv : PV own S) {i : Nat} (hi : i < own.length) (o : Rat) : chkQ own S ((allQ own S).set i o) (keptQ own S) ↔ o = (allQ own S).getD i 0 := by
  constructor
  · intro h
    have h1 := chk_all hv h hi
    rw [getD_set (by rw [allQ_len]; exact hi)] at h1
    rw [h1, allQ_at hi]
  · rintro rfl
    rw [set_same (by rw [allQ_len]; exact hi)]
    exact all_check hv
theorem chk_torn (hv : PV own S) {i : Nat} (hi : i < own.length) (o : Rat) : chkQ own S (allQ own S) ((keptQ own S).set i o) ↔ o = (keptQ own S).getD i 0 := by
  constructor
  · intro h
    have h1 := (h i hi).2
    rw [getD_set (by rw [keptQ_len]; exact hi)] at h1
    rw [← h1, keptQ_at hi, allQ_at hi]; rfl
  · rintro rfl
    rw [set_same (by rw [keptQ_len]; exact hi)]
    exact all_check hv
end Go.Proofs.YthibhamepjhfjaaGreatDoor

namespace Go.Proofs.YthibhamepjhfjaaGreatDoor
open Go.RowKit Go.Ab
attribute [local irreducible] AWP Go.Ab.Sub Means MeansH MeansX CallK CallG CallT CallGT CallU
theorem frq_set (K : List Rat) (k : Nat) (o : Rat) : (K.map frq).set k (frq o) = (K.set k o).map frq := (List.map_set ..).symm
theorem chk_int (c : Prop) [Decidable c] : decide ((if c then (0 : Int) else 21) = 0) = decide c := by split <;> simp_all
set_option maxHeartbeats 16000000 in
set_option maxRecDepth 200000 in
theorem cedeSolves_m (own : List Int) (hl : own.length ≤ 9223372036854775807) (S : List (List Int)) (hS : S.length ≤ 9223372036854775807) (at' : Int) (hat : -9223372036854775808 ≤ at' ∧ at' ≤ 9223372036854775807) (p : Int) (hp : -9223372036854775808 ≤ p ∧ p ≤ 9223372036854775807) (q : Int) (hq : -9223372036854775808 ≤ q ∧ q ≤ 9223372036854775807) :
    Means false Tryz.prog 4 [il own, ill S, ii at', ii p, ii q] (bb true) := by
  have cs := small_m
  have cf := few_m own S
  have cb := rBad_m own S hl hS
  refine means_fn false 208 [.tmp 10] Tryz.func4 rfl rfl rfl (by simp) (by decide) rfl fun X hX => ?_
  (repeat (first | refine awp_seq ?_ | refine awp_block ?_ | ((first | refine awp_runG [0, 1, 2, 3, 4, 10, 11, 12, 13, 14, 15, 16, 17, 18, 19, 21, 22, 23, 24, 25, 26, 27, 28, 29, 30, 41, 73, 77, 117, 139, 157] hX ?_ | refine awp_drawnG [0, 1, 2, 3, 4, 10, 11, 12, 13, 14, 15, 16, 17, 18, 19, 21, 22, 23, 24, 25, 26, 27, 28, 29, 30, 41, 73, 77, 117, 139, 157] hX mixed ?_ | refine awp_ret ?_ | refine awp_skip ?_ | refine awp_exit ?_); (simp [go_sem]; try (refine ⟨by kernel_rfl, ?_⟩)))))
  first | refine callK_intro (cs) rfl (by simp [go_sem]) rfl ?_ | refine callT_intro (cs) rfl (by simp [go_sem]) rfl ?_
  try (simp [go_sem]; try (refine ⟨by kernel_rfl, ?_⟩))
  (repeat (first | refine awp_seq ?_ | refine awp_block ?_ | ((first | refine awp_runG [0, 1, 2, 3, 4, 10, 11, 12, 13, 14, 15, 16, 17, 18, 19, 21, 22, 23, 24, 25, 26, 27, 28, 29, 30, 41, 73, 77, 117, 139, 157] hX ?_ | refine awp_drawnG [0, 1, 2, 3, 4, 10, 11, 12, 13, 14, 15, 16, 17, 18, 19, 21, 22, 23, 24, 25, 26, 27, 28, 29, 30, 41, 73, 77, 117, 139, 157] hX mixed ?_ | refine awp_ret ?_ | refine awp_skip ?_ | refine awp_exit ?_); (simp [go_sem]; try (refine ⟨by kernel_rfl, ?_⟩)))))
  first | refine callK_intro (cf) rfl (by simp [go_sem]) rfl ?_ | refine callT_intro (cf) rfl (by simp [go_sem]) rfl ?_
  try (simp [go_sem]; try (refine ⟨by kernel_rfl, ?_⟩))
  first | refine callG_intro (fun hg => cb) rfl (by simp [go_sem]) rfl ?_ | refine callGT_intro (fun hg => cb) rfl (by simp [go_sem]) rfl ?_
  try (simp [go_sem]; try (refine ⟨by kernel_rfl, ?_⟩))
  by_cases hgo : fewP own S ∧ badP own S = 0
  · refine awp_cond (b := false) (by simp [go_sem, hgo.1, hgo.2]) (fun h => by cases h) (fun _ => ?_)
    obtain ⟨hfw, hb0⟩ := hgo
    have hv : PV own S := by
      unfold badP at hb0
      split at hb0
      · split at hb0
        · assumption
        · cases hb0
      · cases hb0
    have h6 := hfw.1
    have c1 := Solve_q hv h6
    have hab := allQ_mem hv h6
    have hkb := keptQ_mem hv h6
    have hAl : (allQ own S).length = own.length := allQ_len _ _
    have hKl : (keptQ own S).length = own.length := keptQ_len _ _
    have hAq : ∀ x ∈ allQ own S, rq x := fun x hx => bt_rq (hab x hx) (by decide) (by decide)
    have hKq : ∀ x ∈ keptQ own S, rq x := fun x hx => bt_rq (hkb x hx) (by decide) (by decide)
    have hchk := fun xs ys h1 h2 h3 h4 => Check_q own S hv h6 xs ys h1 h2 h3 h4
    have ck' := hchk (allQ own S) (keptQ own S) hAl hKl (fun x hx => ⟨(hab x hx).1, bt_mono (hab x hx).2 (by decide)⟩) hKq
    rw [if_pos (all_check hv)] at ck'
    have ct := total_m (keptQ own S) hkb (by omega)
    have hsum : qsum (keptQ own S) (keptQ own S).length = ((sumI own : Int) : Rat) := by
      rw [keptQ_len, ← kept_sum hv]
      exact sumR_congr fun t ht => keptQ_at ht
    rw [hsum] at ct
    have hwb : ∀ x ∈ own, 0 ≤ x ∧ x ≤ 1099511627776 := fun x hx => by
      obtain ⟨k, hk, rfl⟩ := List.getElem_of_mem hx
      have := hv.w k hk
      rwa [show wO own k = own[k] from getD_at hk] at this
    have hob := own_bd hv h6
    have hAo : ∀ i (hi : i < own.length) (hi' : i < (allQ own S).length), ((own[i] : Int) : Rat) ≤ (allQ own S)[i] := fun i hi hi' => by
      have := all_own hv hi
      rwa [show wO own i = own[i] from getD_at hi, ← allQ_at hi, getQ_lt hi'] at this
    have hKo : ∀ i (_ : i < own.length) (hi' : i < (keptQ own S).length), 0 ≤ (keptQ own S)[i] := fun i hi hi' => by
      have := kept_nonneg hv hi
      rwa [← keptQ_at hi, getQ_lt hi'] at this
    have hbent := fun {i : Nat} (hi : i < own.length) (o : Rat) => chk_bent hv hi o
    have htorn := fun {i : Nat} (hi : i < own.length) (o : Rat) => chk_torn hv hi o
    have hab2 : ∀ x ∈ allQ own S, bt 310 x.num ∧ bt 160 x.den := fun x hx => ⟨(hab x hx).1, bt_mono (hab x hx).2 (by decide)⟩
    generalize allQ own S = A at *
    generalize keptQ own S = K at *
    clear hab hkb hb0 cb cf hsum
    (repeat (first | refine awp_seq ?_ | refine awp_block ?_ | ((first | refine awp_runG [0, 1, 2, 3, 4, 10, 11, 12, 13, 14, 15, 16, 17, 18, 19, 21, 22, 23, 24, 25, 26, 27, 28, 29, 30, 41, 73, 77, 117, 139, 157] hX ?_ | refine awp_drawnG [0, 1, 2, 3, 4, 10, 11, 12, 13, 14, 15, 16, 17, 18, 19, 21, 22, 23, 24, 25, 26, 27, 28, 29, 30, 41, 73, 77, 117, 139, 157] hX mixed ?_ | refine awp_ret ?_ | refine awp_skip ?_ | refine awp_exit ?_); (simp [go_sem]; try (refine ⟨by kernel_rfl, ?_⟩)))))
    first | refine callK_intro (c1) rfl (by simp [go_sem]) rfl ?_ | refine callT_intro (c1) rfl (by simp [go_sem]) rfl ?_
    try (simp [go_sem]; try (refine ⟨by kernel_rfl, ?_⟩))
    (repeat (first | refine awp_seq ?_ | refine awp_block ?_ | ((first | refine awp_runG [0, 1, 2, 3, 4, 10, 11, 12, 13, 14, 15, 16, 17, 18, 19, 21, 22, 23, 24, 25, 26, 27, 28, 29, 30, 41, 73, 77, 117, 139, 157] hX ?_ | refine awp_drawnG [0, 1, 2, 3, 4, 10, 11, 12, 13, 14, 15, 16, 17, 18, 19, 21, 22, 23, 24, 25, 26, 27, 28, 29, 30, 41, 73, 77, 117, 139, 157] hX mixed ?_ | refine awp_ret ?_ | refine awp_skip ?_ | refine awp_exit ?_); (simp [go_sem]; try (refine ⟨by kernel_rfl, ?_⟩)))))
    first | refine callG_intro (fun hg => ck') rfl (by simp [go_sem]) rfl ?_ | refine callGT_intro (fun hg => ck') rfl (by simp [go_sem]) rfl ?_
    try (simp [go_sem]; try (refine ⟨by kernel_rfl, ?_⟩))
    refine awp_cond (b := false) (by simp [go_sem, hAl, hKl]) (fun h => by cases h) (fun _ => ?_)
    (repeat (first | refine awp_seq ?_ | refine awp_block ?_ | ((first | refine awp_runG [0, 1, 2, 3, 4, 10, 11, 12, 13, 14, 15, 16, 17, 18, 19, 21, 22, 23, 24, 25, 26, 27, 28, 29, 30, 41, 73, 77, 117, 139, 157] hX ?_ | refine awp_drawnG [0, 1, 2, 3, 4, 10, 11, 12, 13, 14, 15, 16, 17, 18, 19, 21, 22, 23, 24, 25, 26, 27, 28, 29, 30, 41, 73, 77, 117, 139, 157] hX mixed ?_ | refine awp_ret ?_ | refine awp_skip ?_ | refine awp_exit ?_); (simp [go_sem]; try (refine ⟨by kernel_rfl, ?_⟩)))))
    refine awp_loop (fun i : Nat => ⟨mkE [(0, il own), (1, ill S), (2, ii at'), (3, ii p), (4, ii q), (11, bb true), (12, fql A), (13, fql K), (15, ii (sumI (own.take i))), (16, ii i)], []⟩) (fun i => i ≤ own.length) (fun i => own.length - i) 0 ?_ ?_ ?_
    · refine sub_of _ [] (by simp [go_sem]) ?_
      simp [go_sem, sumI]
    · omega
    · intro i hi
      have wi := w64 (x := (i : Int) + 1) (by omega) (by omega)
      (repeat (first | refine awp_seq ?_ | refine awp_block ?_ | ((first | refine awp_runG [0, 1, 2, 3, 4, 10, 11, 12, 13, 14, 15, 16, 17, 18, 19, 21, 22, 23, 24, 25, 26, 27, 28, 29, 30, 41, 73, 77, 117, 139, 157] hX ?_ | refine awp_drawnG [0, 1, 2, 3, 4, 10, 11, 12, 13, 14, 15, 16, 17, 18, 19, 21, 22, 23, 24, 25, 26, 27, 28, 29, 30, 41, 73, 77, 117, 139, 157] hX mixed ?_ | refine awp_ret ?_ | refine awp_skip ?_ | refine awp_exit ?_); (simp [go_sem]; try (refine ⟨by kernel_rfl, ?_⟩)))))
      refine awp_cond (b := decide (i < own.length)) (by simp [go_sem]) (fun hb => ?_) (fun hb => ?_)
      · simp only [decide_eq_true_eq] at hb
        have hiA : i < A.length := by omega
        have hiK : i < K.length := by omega
        have q1 := nth_ii hb
        have q2 : nth (A.map frq) i = frq A[i] := nth_map _ hiA
        have q3 : nth (K.map frq) i = frq K[i] := nth_map _ hiK
        have haq := hAq _ (List.getElem_mem hiA)
        have hkq := hKq _ (List.getElem_mem hiK)
        have bw := hwb _ (List.getElem_mem hb)
        have b1 := hAo i hb hiA
        have b2 := hKo i hb hiK
        have t1 := sumI_bd (B := 1099511627776) (by decide) (own.take i) fun x hx => hwb x (List.mem_of_mem_take hx)
        rw [List.length_take] at t1
        have e1 := sumI_succ hb
        generalize sumI (own.take i) = A0 at *
        generalize own[i] = w at *
        generalize A[i] = f at *
        generalize K[i] = g at *
        have w1 := w64 (x := A0 + w) (by omega) (by omega)
        have o1 := Of_q w 1 (by omega) (by decide) (by decide)
        have o2 := Of_q 0 1 (by decide) (by decide) (by decide)
        rw [cast1] at o1 o2
        have m1 := Compare_q haq (rq_int (z := w) (by omega))
        have m2 := Compare_q hkq (rq_int (z := 0) (by omega))
        have z1 : ¬ cmpR f ((w : Int) : Rat) < 0 := fun h => absurd ((cmpR_lt _ _).1 h) (Rat.not_lt.2 b1)
        have z2 : ¬ cmpR g ((0 : Int) : Rat) < 0 := fun h => absurd ((cmpR_lt _ _).1 h) (Rat.not_lt.2 b2)
        generalize ((w : Int) : Rat) = n1 at *
        generalize ((0 : Int) : Rat) = n2 at *
        (repeat (first | refine awp_seq ?_ | refine awp_block ?_ | ((first | refine awp_runG [0, 1, 2, 3, 4, 10, 11, 12, 13, 14, 15, 16, 17, 18, 19, 21, 22, 23, 24, 25, 26, 27, 28, 29, 30, 41, 73, 77, 117, 139, 157] hX ?_ | refine awp_drawnG [0, 1, 2, 3, 4, 10, 11, 12, 13, 14, 15, 16, 17, 18, 19, 21, 22, 23, 24, 25, 26, 27, 28, 29, 30, 41, 73, 77, 117, 139, 157] hX mixed ?_ | refine awp_ret ?_ | refine awp_skip ?_ | refine awp_exit ?_); (simp [go_sem, hb, hiA, hiK, q1, q2, q3, w1]; try (refine ⟨by kernel_rfl, ?_⟩)))))
        first | refine callK_intro (o1) rfl (by simp [go_sem]) rfl ?_ | refine callT_intro (o1) rfl (by simp [go_sem]) rfl ?_
        try (simp [go_sem]; try (refine ⟨by kernel_rfl, ?_⟩))
        (repeat (first | refine awp_seq ?_ | refine awp_block ?_ | ((first | refine awp_runG [0, 1, 2, 3, 4, 10, 11, 12, 13, 14, 15, 16, 17, 18, 19, 21, 22, 23, 24, 25, 26, 27, 28, 29, 30, 41, 73, 77, 117, 139, 157] hX ?_ | refine awp_drawnG [0, 1, 2, 3, 4, 10, 11, 12, 13, 14, 15, 16, 17, 18, 19, 21, 22, 23, 24, 25, 26, 27, 28, 29, 30, 41, 73, 77, 117, 139, 157] hX mixed ?_ | refine awp_ret ?_ | refine awp_skip ?_ | refine awp_exit ?_); (simp [go_sem]; try (refine ⟨by kernel_rfl, ?_⟩)))))
        first | refine callK_intro (o2) rfl (by simp [go_sem]) rfl ?_ | refine callT_intro (o2) rfl (by simp [go_sem]) rfl ?_
        try (simp [go_sem]; try (refine ⟨by kernel_rfl, ?_⟩))
        (repeat (first | refine awp_seq ?_ | refine awp_block ?_ | ((first | refine awp_runG [0, 1, 2, 3, 4, 10, 11, 12, 13, 14, 15, 16, 17, 18, 19, 21, 22, 23, 24, 25, 26, 27, 28, 29, 30, 41, 73, 77, 117, 139, 157] hX ?_ | refine awp_drawnG [0, 1, 2, 3, 4, 10, 11, 12, 13, 14, 15, 16, 17, 18, 19, 21, 22, 23, 24, 25, 26, 27, 28, 29, 30, 41, 73, 77, 117, 139, 157] hX mixed ?_ | refine awp_ret ?_ | refine awp_skip ?_ | refine awp_exit ?_); (simp [go_sem, hb, hiA, hiK, q2, q3]; try (refine ⟨by kernel_rfl, ?_⟩)))))
        first | refine callG_intro (fun hg => m1) rfl (by simp [go_sem]) rfl ?_ | refine callGT_intro (fun hg => m1) rfl (by simp [go_sem]) rfl ?_
        try (simp [go_sem, hb, hiA, hiK, q2, q3]; try (refine ⟨by kernel_rfl, ?_⟩))
        first | refine callG_intro (fun hg => m2) rfl (by simp [go_sem]) rfl ?_ | refine callGT_intro (fun hg => m2) rfl (by simp [go_sem]) rfl ?_
        try (simp [go_sem, hb, hiA, hiK, q2, q3]; try (refine ⟨by kernel_rfl, ?_⟩))
        refine awp_cond (b := false) (by simp [go_sem, z1, z2]) (fun h => by cases h) (fun _ => ?_)
        (repeat (first | refine awp_seq ?_ | refine awp_block ?_ | ((first | refine awp_runG [0, 1, 2, 3, 4, 10, 11, 12, 13, 14, 15, 16, 17, 18, 19, 21, 22, 23, 24, 25, 26, 27, 28, 29, 30, 41, 73, 77, 117, 139, 157] hX ?_ | refine awp_drawnG [0, 1, 2, 3, 4, 10, 11, 12, 13, 14, 15, 16, 17, 18, 19, 21, 22, 23, 24, 25, 26, 27, 28, 29, 30, 41, 73, 77, 117, 139, 157] hX mixed ?_ | refine awp_ret ?_ | refine awp_skip ?_ | refine awp_exit ?_); (simp [go_sem, wi]; try (refine ⟨by kernel_rfl, ?_⟩)))))
        refine ⟨i + 1, by omega, by omega, ?_⟩
        rw [e1]
        refine sub_of _ [] (by simp [go_sem]) ?_
        simp [go_sem]
      · have : i = own.length := by simp at hb; omega
        subst this
        rw [List.take_length]
        have o1 := Of_q (sumI own) 1 (by omega) (by decide) (by decide)
        rw [cast1] at o1
        have rs1 := rq_int (z := sumI own) (by omega)
        have m1 := Compare_q rs1 rs1
        have z1 : cmpR ((sumI own : Int) : Rat) ((sumI own : Int) : Rat) = 0 := (cmpR_eq _ _).2 rfl
        rw [z1] at m1
        generalize ((sumI own : Int) : Rat) = n1 at *
        (repeat (first | refine awp_seq ?_ | refine awp_block ?_ | ((first | refine awp_runG [0, 1, 2, 3, 4, 10, 11, 12, 13, 14, 15, 16, 17, 18, 19, 21, 22, 23, 24, 25, 26, 27, 28, 29, 30, 41, 73, 77, 117, 139, 157] hX ?_ | refine awp_drawnG [0, 1, 2, 3, 4, 10, 11, 12, 13, 14, 15, 16, 17, 18, 19, 21, 22, 23, 24, 25, 26, 27, 28, 29, 30, 41, 73, 77, 117, 139, 157] hX mixed ?_ | refine awp_ret ?_ | refine awp_skip ?_ | refine awp_exit ?_); (simp [go_sem]; try (refine ⟨by kernel_rfl, ?_⟩)))))
        first | refine callK_intro (o1) rfl (by simp [go_sem]) rfl ?_ | refine callT_intro (o1) rfl (by simp [go_sem]) rfl ?_
        try (simp [go_sem]; try (refine ⟨by kernel_rfl, ?_⟩))
        (repeat (first | refine awp_seq ?_ | refine awp_block ?_ | ((first | refine awp_runG [0, 1, 2, 3, 4, 10, 11, 12, 13, 14, 15, 16, 17, 18, 19, 21, 22, 23, 24, 25, 26, 27, 28, 29, 30, 41, 73, 77, 117, 139, 157] hX ?_ | refine awp_drawnG [0, 1, 2, 3, 4, 10, 11, 12, 13, 14, 15, 16, 17, 18, 19, 21, 22, 23, 24, 25, 26, 27, 28, 29, 30, 41, 73, 77, 117, 139, 157] hX mixed ?_ | refine awp_ret ?_ | refine awp_skip ?_ | refine awp_exit ?_); (simp [go_sem]; try (refine ⟨by kernel_rfl, ?_⟩)))))
        first | refine callK_intro (ct) rfl (by simp [go_sem]) rfl ?_ | refine callT_intro (ct) rfl (by simp [go_sem]) rfl ?_
        try (simp [go_sem]; try (refine ⟨by kernel_rfl, ?_⟩))
        (repeat (first | refine awp_seq ?_ | refine awp_block ?_ | ((first | refine awp_runG [0, 1, 2, 3, 4, 10, 11, 12, 13, 14, 15, 16, 17, 18, 19, 21, 22, 23, 24, 25, 26, 27, 28, 29, 30, 41, 73, 77, 117, 139, 157] hX ?_ | refine awp_drawnG [0, 1, 2, 3, 4, 10, 11, 12, 13, 14, 15, 16, 17, 18, 19, 21, 22, 23, 24, 25, 26, 27, 28, 29, 30, 41, 73, 77, 117, 139, 157] hX mixed ?_ | refine awp_ret ?_ | refine awp_skip ?_ | refine awp_exit ?_); (simp [go_sem]; try (refine ⟨by kernel_rfl, ?_⟩)))))
        first | refine callG_intro (fun hg => m1) rfl (by simp [go_sem]) rfl ?_ | refine callGT_intro (fun hg => m1) rfl (by simp [go_sem]) rfl ?_
        try (simp [go_sem]; try (refine ⟨by kernel_rfl, ?_⟩))
        refine awp_cond (b := false) (by simp [go_sem]) (fun h => by cases h) (fun _ => ?_)
        (repeat (first | refine awp_seq ?_ | refine awp_block ?_ | ((first | refine awp_runG [0, 1, 2, 3, 4, 10, 11, 12, 13, 14, 15, 16, 17, 18, 19, 21, 22, 23, 24, 25, 26, 27, 28, 29, 30, 41, 73, 77, 117, 139, 157] hX ?_ | refine awp_drawnG [0, 1, 2, 3, 4, 10, 11, 12, 13, 14, 15, 16, 17, 18, 19, 21, 22, 23, 24, 25, 26, 27, 28, 29, 30, 41, 73, 77, 117, 139, 157] hX mixed ?_ | refine awp_ret ?_ | refine awp_skip ?_ | refine awp_exit ?_); (simp [go_sem]; try (refine ⟨by kernel_rfl, ?_⟩)))))
        by_cases hq0 : q = 0
        · subst hq0
          first | refine callK_intro (Of_f0 p hp) rfl (by simp [go_sem]) rfl ?_ | refine callT_intro (Of_f0 p hp) rfl (by simp [go_sem]) rfl ?_
          try (simp [go_sem]; try (refine ⟨by kernel_rfl, ?_⟩))
          (repeat (first | refine awp_seq ?_ | refine awp_block ?_ | ((first | refine awp_runG [0, 1, 2, 3, 4, 10, 11, 12, 13, 14, 15, 16, 17, 18, 19, 21, 22, 23, 24, 25, 26, 27, 28, 29, 30, 41, 73, 77, 117, 139, 157] hX ?_ | refine awp_drawnG [0, 1, 2, 3, 4, 10, 11, 12, 13, 14, 15, 16, 17, 18, 19, 21, 22, 23, 24, 25, 26, 27, 28, 29, 30, 41, 73, 77, 117, 139, 157] hX mixed ?_ | refine awp_ret ?_ | refine awp_skip ?_ | refine awp_exit ?_); (simp [go_sem]; try (refine ⟨by kernel_rfl, ?_⟩)))))
          refine awp_cond (b := true) (by simp [go_sem]) (fun _ => ?_) (fun h => by cases h)
          (repeat (first | refine awp_seq ?_ | refine awp_block ?_ | ((first | refine awp_runG [0, 1, 2, 3, 4, 10, 11, 12, 13, 14, 15, 16, 17, 18, 19, 21, 22, 23, 24, 25, 26, 27, 28, 29, 30, 41, 73, 77, 117, 139, 157] hX ?_ | refine awp_drawnG [0, 1, 2, 3, 4, 10, 11, 12, 13, 14, 15, 16, 17, 18, 19, 21, 22, 23, 24, 25, 26, 27, 28, 29, 30, 41, 73, 77, 117, 139, 157] hX mixed ?_ | refine awp_ret ?_ | refine awp_skip ?_ | refine awp_exit ?_); (simp [go_sem]; try (refine ⟨by kernel_rfl, ?_⟩)))))
        · have o3 := Of_q p q hp hq hq0
          have hoq := of_rq hp hq hq0
          have hbt : bt 64 ((p : Rat) / (q : Rat)).num ∧ bt 64 ((p : Rat) / (q : Rat)).den := by
            have h64 : ∀ z : Int, (-9223372036854775808 ≤ z ∧ z ≤ 9223372036854775807) → bt 64 z := fun z hz => by
              unfold bt
              have : (2 : Nat) ^ 64 = 18446744073709551616 := by decide
              omega
            exact of_bt hq0 (h64 p hp) (h64 q hq)
          generalize (p : Rat) / (q : Rat) = o at *
          first | refine callK_intro (o3) rfl (by simp [go_sem]) rfl ?_ | refine callT_intro (o3) rfl (by simp [go_sem]) rfl ?_
          try (simp [go_sem]; try (refine ⟨by kernel_rfl, ?_⟩))
          (repeat (first | refine awp_seq ?_ | refine awp_block ?_ | ((first | refine awp_runG [0, 1, 2, 3, 4, 10, 11, 12, 13, 14, 15, 16, 17, 18, 19, 21, 22, 23, 24, 25, 26, 27, 28, 29, 30, 41, 73, 77, 117, 139, 157] hX ?_ | refine awp_drawnG [0, 1, 2, 3, 4, 10, 11, 12, 13, 14, 15, 16, 17, 18, 19, 21, 22, 23, 24, 25, 26, 27, 28, 29, 30, 41, 73, 77, 117, 139, 157] hX mixed ?_ | refine awp_ret ?_ | refine awp_skip ?_ | refine awp_exit ?_); (simp [go_sem]; try (refine ⟨by kernel_rfl, ?_⟩)))))
          by_cases hin : 0 ≤ at' ∧ at' < own.length
          · obtain ⟨k, rfl⟩ : ∃ k : Nat, at' = (k : Int) := ⟨at'.toNat, by omega⟩
            have hk : k < own.length := by omega
            have hkA : k < A.length := by omega
            have hkK : k < K.length := by omega
            have q2 : nth (A.map frq) k = frq A[k] := nth_map _ hkA
            have q3 : nth (K.map frq) k = frq K[k] := nth_map _ hkK
            have k1 := hchk (A.set k o) K (by simpa using hAl) hKl (fun x hx => by
              rcases List.mem_or_eq_of_mem_set hx with h | rfl
              · exact hab2 x h
              · exact ⟨bt_mono hbt.1 (by decide), bt_mono hbt.2 (by decide)⟩) hKq
            have k2 := hchk A (K.set k o) hAl (by simpa using hKl) hab2 (fun x hx => by
              rcases List.mem_or_eq_of_mem_set hx with h | rfl
              · exact hKq x h
              · exact hoq)
            have m2 := Compare_q hoq (hAq _ (List.getElem_mem hkA))
            have m3 := Compare_q hoq (hKq _ (List.getElem_mem hkK))
            have z2 : decide ((if chkQ own S (A.set k o) K then (0 : Int) else 21) = 0) = decide (cmpR o A[k] = 0) := by
              rw [chk_int, decide_eq_decide, hbent hk o, cmpR_eq, getQ_lt hkA]
            have z3 : decide ((if chkQ own S A (K.set k o) then (0 : Int) else 21) = 0) = decide (cmpR o K[k] = 0) := by
              rw [chk_int, decide_eq_decide, htorn hk o, cmpR_eq, getQ_lt hkK]
            have hz1 : zoneEs ((A.map frq).set k (frq o)) = true := by rw [frq_set]; exact zoneEs_map _ _ fun _ => rfl
            have hz2 : zoneEs ((K.map frq).set k (frq o)) = true := by rw [frq_set]; exact zoneEs_map _ _ fun _ => rfl
            unfold fql at k1 k2
            rw [← frq_set] at k1 k2
            generalize (if chkQ own S (A.set k o) K then (0 : Int) else 21) = v1 at *
            generalize (if chkQ own S A (K.set k o) then (0 : Int) else 21) = v2 at *
            generalize A[k] = fa at *
            generalize K[k] = fk at *
            refine awp_cond (b := false) (by simp [go_sem]; omega) (fun h => by cases h) (fun _ => ?_)
            (repeat (first | refine awp_seq ?_ | refine awp_block ?_ | ((first | refine awp_runG [0, 1, 2, 3, 4, 10, 11, 12, 13, 14, 15, 16, 17, 18, 19, 21, 22, 23, 24, 25, 26, 27, 28, 29, 30, 41, 73, 77, 117, 139, 157] hX ?_ | refine awp_drawnG [0, 1, 2, 3, 4, 10, 11, 12, 13, 14, 15, 16, 17, 18, 19, 21, 22, 23, 24, 25, 26, 27, 28, 29, 30, 41, 73, 77, 117, 139, 157] hX mixed ?_ | refine awp_ret ?_ | refine awp_skip ?_ | refine awp_exit ?_); (simp [go_sem, hkA, hkK]; try (refine ⟨by kernel_rfl, ?_⟩)))))
            refine ⟨⟨by omega, by unfold maxLen; omega⟩, ?_⟩
            (repeat (first | refine awp_seq ?_ | refine awp_block ?_ | ((first | refine awp_runG [0, 1, 2, 3, 4, 10, 11, 12, 13, 14, 15, 16, 17, 18, 19, 21, 22, 23, 24, 25, 26, 27, 28, 29, 30, 41, 73, 77, 117, 139, 157] hX ?_ | refine awp_drawnG [0, 1, 2, 3, 4, 10, 11, 12, 13, 14, 15, 16, 17, 18, 19, 21, 22, 23, 24, 25, 26, 27, 28, 29, 30, 41, 73, 77, 117, 139, 157] hX mixed ?_ | refine awp_ret ?_ | refine awp_skip ?_ | refine awp_exit ?_); (simp [go_sem, hkA, hkK, q2, q3, hz1, hz2]; try (refine ⟨by kernel_rfl, ?_⟩)))))
            try (refine ⟨⟨by omega, by unfold maxLen; omega⟩, ?_⟩)
            (repeat (first | refine awp_seq ?_ | refine awp_block ?_ | ((first | refine awp_runG [0, 1, 2, 3, 4, 10, 11, 12, 13, 14, 15, 16, 17, 18, 19, 21, 22, 23, 24, 25, 26, 27, 28, 29, 30, 41, 73, 77, 117, 139, 157] hX ?_ | refine awp_drawnG [0, 1, 2, 3, 4, 10, 11, 12, 13, 14, 15, 16, 17, 18, 19, 21, 22, 23, 24, 25, 26, 27, 28, 29, 30, 41, 73, 77, 117, 139, 157] hX mixed ?_ | refine awp_ret ?_ | refine awp_skip ?_ | refine awp_exit ?_); (simp [go_sem, hkA, hkK, q2, q3, hz1, hz2]; try (refine ⟨by kernel_rfl, ?_⟩)))))
            first | refine callK_intro (k1) rfl (by simp [go_sem]) rfl ?_ | refine callT_intro (k1) rfl (by simp [go_sem]) rfl ?_
            try (simp [go_sem]; try (refine ⟨by kernel_rfl, ?_⟩))
            (repeat (first | refine awp_seq ?_ | refine awp_block ?_ | ((first | refine awp_runG [0, 1, 2, 3, 4, 10, 11, 12, 13, 14, 15, 16, 17, 18, 19, 21, 22, 23, 24, 25, 26, 27, 28, 29, 30, 41, 73, 77, 117, 139, 157] hX ?_ | refine awp_drawnG [0, 1, 2, 3, 4, 10, 11, 12, 13, 14, 15, 16, 17, 18, 19, 21, 22, 23, 24, 25, 26, 27, 28, 29, 30, 41, 73, 77, 117, 139, 157] hX mixed ?_ | refine awp_ret ?_ | refine awp_skip ?_ | refine awp_exit ?_); (simp [go_sem]; try (refine ⟨by kernel_rfl, ?_⟩)))))
            first | refine callK_intro (k2) rfl (by simp [go_sem]) rfl ?_ | refine callT_intro (k2) rfl (by simp [go_sem]) rfl ?_
            try (simp [go_sem]; try (refine ⟨by kernel_rfl, ?_⟩))
            (repeat (first | refine awp_seq ?_ | refine awp_block ?_ | ((first | refine awp_runG [0, 1, 2, 3, 4, 10, 11, 12, 13, 14, 15, 16, 17, 18, 19, 21, 22, 23, 24, 25, 26, 27, 28, 29, 30, 41, 73, 77, 117, 139, 157] hX ?_ | refine awp_skip ?_ | refine awp_exit ?_); (simp [go_sem]; try (refine ⟨by kernel_rfl, ?_⟩)))))
            generalize cmpR o fa = ca at *
            generalize cmpR o fk = ck at *
            refine awp_sub (sub_of [(2, ii k), (11, bb true), (12, fql A), (13, fql K), (25, .el 0 4 0 0), (29, bb (decide (ca = 0))), (30, bb (decide (ck = 0)))] [.old 2 ⟨41, 4, [frq o]⟩] (by simp [go_sem]) (by simp [go_sem, z2, z3])) ?_
            simp only [List.map_cons, List.map_nil, Src.cell]
            clear k1 k2 c1 ck' ct hchk hbent htorn hob hab2 hAo hKo z2 z3
            (repeat (first | refine awp_seq ?_ | refine awp_block ?_ | ((first | refine awp_runG [0, 1, 2, 3, 4, 10, 11, 12, 13, 14, 15, 16, 17, 18, 19, 21, 22, 23, 24, 25, 26, 27, 28, 29, 30, 41, 73, 77, 117, 139, 157] hX ?_ | refine awp_drawnG [0, 1, 2, 3, 4, 10, 11, 12, 13, 14, 15, 16, 17, 18, 19, 21, 22, 23, 24, 25, 26, 27, 28, 29, 30, 41, 73, 77, 117, 139, 157] hX mixed ?_ | refine awp_ret ?_ | refine awp_skip ?_ | refine awp_exit ?_); (simp [go_sem, hkA, hkK, q2, q3]; try (refine ⟨by kernel_rfl, ?_⟩)))))
            first | refine callG_intro (fun hg => m2) rfl (by simp [go_sem]) rfl ?_ | refine callGT_intro (fun hg => m2) rfl (by simp [go_sem]) rfl ?_
            try (simp [go_sem, hkA, hkK, q2, q3]; try (refine ⟨by kernel_rfl, ?_⟩))
            try (refine ⟨.inr trivial, ?_⟩)
            try (simp [go_sem, hkA, hkK, q2, q3]; try (refine ⟨by kernel_rfl, ?_⟩))
            first | refine callG_intro (fun hg => m3) rfl (by simp [go_sem]) rfl ?_ | refine callGT_intro (fun hg => m3) rfl (by simp [go_sem]) rfl ?_
            try (simp [go_sem, hkA, hkK, q2, q3]; try (refine ⟨by kernel_rfl, ?_⟩))
            (repeat (first | refine awp_seq ?_ | refine awp_block ?_ | ((first | refine awp_runG [0, 1, 2, 3, 4, 10, 11, 12, 13, 14, 15, 16, 17, 18, 19, 21, 22, 23, 24, 25, 26, 27, 28, 29, 30, 41, 73, 77, 117, 139, 157] hX ?_ | refine awp_drawnG [0, 1, 2, 3, 4, 10, 11, 12, 13, 14, 15, 16, 17, 18, 19, 21, 22, 23, 24, 25, 26, 27, 28, 29, 30, 41, 73, 77, 117, 139, 157] hX mixed ?_ | refine awp_ret ?_ | refine awp_skip ?_ | refine awp_exit ?_); (simp [go_sem]; try (refine ⟨by kernel_rfl, ?_⟩)))))
          · refine awp_cond (b := true) (by simp [go_sem]; omega) (fun _ => ?_) (fun h => by cases h)
            (repeat (first | refine awp_seq ?_ | refine awp_block ?_ | ((first | refine awp_runG [0, 1, 2, 3, 4, 10, 11, 12, 13, 14, 15, 16, 17, 18, 19, 21, 22, 23, 24, 25, 26, 27, 28, 29, 30, 41, 73, 77, 117, 139, 157] hX ?_ | refine awp_drawnG [0, 1, 2, 3, 4, 10, 11, 12, 13, 14, 15, 16, 17, 18, 19, 21, 22, 23, 24, 25, 26, 27, 28, 29, 30, 41, 73, 77, 117, 139, 157] hX mixed ?_ | refine awp_ret ?_ | refine awp_skip ?_ | refine awp_exit ?_); (simp [go_sem]; try (refine ⟨by kernel_rfl, ?_⟩)))))
  · refine awp_cond (b := true) (by rcases Classical.not_and_iff_not_or_not.1 hgo with h | h <;> simp [go_sem, h]) (fun _ => ?_) (fun h => by cases h)
    (repeat (first | refine awp_seq ?_ | refine awp_block ?_ | ((first | refine awp_runG [0, 1, 2, 3, 4, 10, 11, 12, 13, 14, 15, 16, 17, 18, 19, 21, 22, 23, 24, 25, 26, 27, 28, 29, 30, 41, 73, 77, 117, 139, 157] hX ?_ | refine awp_drawnG [0, 1, 2, 3, 4, 10, 11, 12, 13, 14, 15, 16, 17, 18, 19, 21, 22, 23, 24, 25, 26, 27, 28, 29, 30, 41, 73, 77, 117, 139, 157] hX mixed ?_ | refine awp_ret ?_ | refine awp_skip ?_ | refine awp_exit ?_); (simp [go_sem]; try (refine ⟨by kernel_rfl, ?_⟩)))))
end Go.Proofs.YthibhamepjhfjaaGreatDoor

namespace Go.Proofs.YthibhamepjhfjaaGreatDoor
open Go.ChangeShapes Go.WideShapes Go.ChangeAt Go.RowKit Go.Ab
theorem Tryz.own : ownKnob Tryz.prog.godebug = none := by kernel_rfl
theorem Tryz.laidOut : laidOutB Tryz.prog = true := by kernel_rfl
set_option maxRecDepth 100000 in
theorem rep_is {H : Type} {enc : TypeId × Value → H} {W : World} {base : Nat} {v : Value} {d : DataW H} {p : List MemPlace} {M : Nat → Prop} {r : Go.Reach} {b0 : Nat} (hM : ∀ b, b < W.heap.size → M b)
    (hval : Value.okWide Tryz.prog W r b0 22 v) (h : DataW.Trod enc Tryz.prog W base (fun _ => true) true 22 v d p) : ∃ L : List Int, L.length ≤ maxLen ∧ RepZ W M v (.sl (L.map ii)) :=
  rep_sliceV ii 1 (by decide) (fun _ => rfl) Tryz.underlying22 (by kernel_rfl) hM (el_int Tryz.underlying3) hval h
set_option maxRecDepth 100000 in
theorem el_is {H : Type} {enc : TypeId × Value → H} {W : World} {base : Nat} {M : Nat → Prop} (hM : ∀ b, b < W.heap.size → M b) : ∀ n cs y, DataW.trod enc Tryz.prog W base (fun _ => true) true n 22 cs = some y → cs.length = 1 → ∃ x : List Int, ∀ (j : Nat) (c : Value) (z : AV), cs[j]? = some c → (il x).flat[j]? = some z → RepZ W M c z := by
  intro n cs y h hl
  match cs, hl with
  | [c0], _ =>
    obtain ⟨v, hv, L, hL, hr⟩ := rep_slice (M := M) ii 1 (by decide) (fun _ => rfl) Tryz.underlying22 (by kernel_rfl) hM (el_int Tryz.underlying3) h
    have : v = c0 := by simpa using hv.symm
    subst this
    refine ⟨L, fun j x z hx hz => ?_⟩
    match j with
    | 0 => simp [AV.flat] at hx hz; subst hx; subst hz; exact hr
    | j + 1 => simp at hx
set_option maxRecDepth 100000 in
theorem rep_iis {H : Type} {enc : TypeId × Value → H} {W : World} {base : Nat} {v : Value} {d : DataW H} {p : List MemPlace} {M : Nat → Prop} {r : Go.Reach} {b0 : Nat} (hM : ∀ b, b < W.heap.size → M b)
    (hval : Value.okWide Tryz.prog W r b0 23 v) (h : DataW.Trod enc Tryz.prog W base (fun _ => true) true 23 v d p) : ∃ L : List (List Int), L.length ≤ maxLen ∧ RepZ W M v (ill L) :=
  rep_sliceV il 1 (by decide) (fun _ => rfl) Tryz.underlying23 (by kernel_rfl) hM (el_is hM) hval h
set_option maxRecDepth 100000 in
theorem glob_of_laid {W : World} (h : laidMet Tryz.prog Rows.cedeCoinsRow.laid W) : GlobW W (fun b => b < W.heap.size) :=
  globW_one (g := 0) (cs := Lib.pow10Tab.map fun z => Value.int .u64 z) (by rw [globs]; kernel_rfl)
    (glob_ints (zs := Lib.pow10Tab) h (n := "internal/strconv.uint64pow10") (List.mem_of_getElem? (i := 2) (by kernel_rfl)) (len := 20) (by kernel_rfl) (by kernel_rfl) Tryz.underlying149 Tryz.underlying88 (by kernel_rfl) (by kernel_rfl))
    (fun g hg => by rw [globI] at hg; simp at hg)
noncomputable def laidWorld (os : Os) : World := layAll Tryz.prog (World.holding Tryz.prog os ⟨#[], #[], []⟩) Rows.cedeCoinsRow.laid
set_option maxRecDepth 100000 in
theorem laid_met (os : Os) (args : Array Value) : laidMet Tryz.prog Rows.cedeCoinsRow.laid ((laidWorld os).forCall (fun _ _ => 0) ⟨#[], args, []⟩).memory :=
  laidMet_of_run3 8 (by kernel_rfl) (by kernel_rfl) (by kernel_rfl)
end Go.Proofs.YthibhamepjhfjaaGreatDoor

