/-
  The walks of layer 14: the reference's tokens.
-/
import Derived.Test.YtgkafceckdoabaaDoorLexE
set_option linter.all false
namespace Go.Proofs.YtgkafceckdoabaaDoor
open Go.RowKit Go.Ab
attribute [local irreducible] AWP Go.Ab.Sub Means MeansH CallK CallG CallT CallGT

def signLen (l : By) : Nat := match l with
  | [] => 0
  | c :: r => if c == 61 && r.head? == some 61 then 2 else if isSign1 c then 1 else 0
def ones : By := [59, 44, 61, 60, 43, 45, 42, 47, 40, 41]
theorem getAt {l : By} {p : Nat} (h : p < l.length) : l.drop p = l[p] :: l.drop (p + 1) := List.drop_eq_getElem_cons h
theorem u8_ne (c d : UInt8) : ((c.toNat : Int) = (d.toNat : Int)) ↔ c = d := by
  have := u8_eq c d
  rw [Bool.eq_iff_iff] at this
  simpa using this
theorem c61 {c : UInt8} : (c.toNat : Int) = 61 ↔ c = 61 := u8_ne c 61

set_option maxRecDepth 20000 in
theorem sign_m (l : By) (p : Nat) (hp : p < l.length) (hl : l.length ≤ 100000) : Means true Tryd.prog 34 [ss l, ii p] (ii (signLen (l.drop p))) := by
  have hd := getAt hp
  refine means_fn true 38 [.tmp 4] Tryd.func34 rfl rfl rfl (by simp) (by decide) rfl fun X hX => ?_
  have h2 : signLen (l.drop p) = if l[p] = 61 ∧ l[p + 1]? = some 61 then 2 else if isSign1 l[p] then 1 else 0 := by rw [hd]; simp [signLen]
  (repeat (first | refine awp_seq ?_ | refine awp_block ?_ | (refine awp_runG [0, 1, 4, 5, 6, 24, 28, 37] hX ?_; (simp [go_sem, hp]; (try simp (disch := omega) only [w64, td, tm]); try (refine ⟨by kernel_rfl, ?_⟩))) | (refine awp_drawnG [0, 1, 4, 5, 6, 24, 28, 37] hX mixed ?_; (simp [go_sem, hp]; (try simp (disch := omega) only [w64, td, tm]); try (refine ⟨by kernel_rfl, ?_⟩))) | (refine awp_ret ?_; (simp [go_sem, hp]; (try simp (disch := omega) only [w64, td, tm]); try (refine ⟨by kernel_rfl, ?_⟩))) | (refine awp_skip ?_; (simp [go_sem, hp]; (try simp (disch := omega) only [w64, td, tm]); try (refine ⟨by kernel_rfl, ?_⟩))) | (refine awp_exit ?_; (simp [go_sem, hp]; (try simp (disch := omega) only [w64, td, tm]); try (refine ⟨by kernel_rfl, ?_⟩)))))
  (repeat refine And.intro (by first | omega | (unfold maxLen; omega) | kernel_rfl | (refine ⟨by first | omega | (unfold maxLen; omega), by first | omega | (unfold maxLen; omega)⟩) | grind) ?_)
  refine awp_cond (b := decide (l[p] = 61 ∧ l[p + 1]? = some 61)) ?_ (fun hb => ?_) (fun hb => ?_)
  · simp [go_sem, c61]
    by_cases h1 : p + 1 < l.length
    · have h1' : (p : Int) + 1 < l.length := by omega
      simp [h1, h1', c61]
      try (rw [Bool.eq_iff_iff]; simp; try exact and_comm)
    · have h1' : ¬ (p : Int) + 1 < l.length := by omega
      have e3 : l[p + 1]? = none := List.getElem?_eq_none (by omega)
      simp [h1', e3]
  · (repeat (first | refine awp_seq ?_ | refine awp_block ?_ | (refine awp_runG [0, 1, 4, 5, 6, 24, 28, 37] hX ?_; (simp [go_sem]; try (refine ⟨by kernel_rfl, ?_⟩))) | (refine awp_drawnG [0, 1, 4, 5, 6, 24, 28, 37] hX mixed ?_; (simp [go_sem]; try (refine ⟨by kernel_rfl, ?_⟩))) | (refine awp_ret ?_; (simp [go_sem]; try (refine ⟨by kernel_rfl, ?_⟩))) | (refine awp_skip ?_; (simp [go_sem]; try (refine ⟨by kernel_rfl, ?_⟩))) | (refine awp_exit ?_; (simp [go_sem]; try (refine ⟨by kernel_rfl, ?_⟩)))))
    simp only [decide_eq_true_eq] at hb
    rw [h2, if_pos hb]; rfl
  · (repeat (first | refine awp_seq ?_ | refine awp_block ?_ | (refine awp_runG [0, 1, 4, 5, 6, 24, 28, 37] hX ?_; (simp [go_sem]; try (refine ⟨by kernel_rfl, ?_⟩))) | (refine awp_drawnG [0, 1, 4, 5, 6, 24, 28, 37] hX mixed ?_; (simp [go_sem]; try (refine ⟨by kernel_rfl, ?_⟩))) | (refine awp_ret ?_; (simp [go_sem]; try (refine ⟨by kernel_rfl, ?_⟩))) | (refine awp_skip ?_; (simp [go_sem]; try (refine ⟨by kernel_rfl, ?_⟩))) | (refine awp_exit ?_; (simp [go_sem]; try (refine ⟨by kernel_rfl, ?_⟩)))))
    refine awp_loop (fun k : Nat => ⟨mkE [(0, ss l), (1, ii p), (5, ss ones), (6, ii k)], []⟩) (fun k => k ≤ 10 ∧ ∀ j (h : j < ones.length), j < k → ones[j] ≠ l[p]) (fun k => 10 - k) 0 ?_ ?_ ?_
    · refine sub_of _ [] (by simp [go_sem]) ?_
      simp [go_sem, ones]
    · simp
    · rintro k ⟨hk, hn⟩
      have ho : ones.length = 10 := rfl
      (repeat (first | refine awp_seq ?_ | refine awp_block ?_ | (refine awp_runG [0, 1, 4, 5, 6, 24, 28, 37] hX ?_; (simp [go_sem]; try (refine ⟨by kernel_rfl, ?_⟩))) | (refine awp_drawnG [0, 1, 4, 5, 6, 24, 28, 37] hX mixed ?_; (simp [go_sem]; try (refine ⟨by kernel_rfl, ?_⟩))) | (refine awp_ret ?_; (simp [go_sem]; try (refine ⟨by kernel_rfl, ?_⟩))) | (refine awp_skip ?_; (simp [go_sem]; try (refine ⟨by kernel_rfl, ?_⟩))) | (refine awp_exit ?_; (simp [go_sem]; try (refine ⟨by kernel_rfl, ?_⟩)))))
      refine awp_cond (b := decide (k < 10)) (by simp [go_sem, ho]; try omega) (fun hc => ?_) (fun hc => ?_)
      · simp at hc
        have hk2 : k < ones.length := hc
        (repeat (first | refine awp_seq ?_ | refine awp_block ?_ | (refine awp_runG [0, 1, 4, 5, 6, 24, 28, 37] hX ?_; (simp [go_sem, hp, hk2]; try (refine ⟨by kernel_rfl, ?_⟩))) | (refine awp_drawnG [0, 1, 4, 5, 6, 24, 28, 37] hX mixed ?_; (simp [go_sem, hp, hk2]; try (refine ⟨by kernel_rfl, ?_⟩))) | (refine awp_ret ?_; (simp [go_sem, hp, hk2]; try (refine ⟨by kernel_rfl, ?_⟩))) | (refine awp_skip ?_; (simp [go_sem, hp, hk2]; try (refine ⟨by kernel_rfl, ?_⟩))) | (refine awp_exit ?_; (simp [go_sem, hp, hk2]; try (refine ⟨by kernel_rfl, ?_⟩)))))
        (repeat refine And.intro (by first | omega | (unfold maxLen; omega) | kernel_rfl | (refine ⟨by first | omega | (unfold maxLen; omega), by first | omega | (unfold maxLen; omega)⟩) | grind) ?_)
        refine awp_cond (b := decide (ones[k] = l[p])) (by simp [go_sem, u8_ne]; try (constructor <;> intro h <;> exact h.symm)) (fun hd2 => ?_) (fun hd2 => ?_)
        · simp at hd2
          (repeat (first | refine awp_seq ?_ | refine awp_block ?_ | (refine awp_runG [0, 1, 4, 5, 6, 24, 28, 37] hX ?_; (simp [go_sem]; try (refine ⟨by kernel_rfl, ?_⟩))) | (refine awp_drawnG [0, 1, 4, 5, 6, 24, 28, 37] hX mixed ?_; (simp [go_sem]; try (refine ⟨by kernel_rfl, ?_⟩))) | (refine awp_ret ?_; (simp [go_sem]; try (refine ⟨by kernel_rfl, ?_⟩))) | (refine awp_skip ?_; (simp [go_sem]; try (refine ⟨by kernel_rfl, ?_⟩))) | (refine awp_exit ?_; (simp [go_sem]; try (refine ⟨by kernel_rfl, ?_⟩)))))
          have hm : isSign1 ones[k] = true := by
            have : ones[k] ∈ ones := List.getElem_mem hk2
            simpa [isSign1, ones] using this
          rw [hd2] at hm
          simp only [decide_eq_false_iff_not] at hb
          rw [h2, if_neg hb, if_pos hm]; rfl
        · simp at hd2
          (repeat (first | refine awp_seq ?_ | refine awp_block ?_ | (refine awp_runG [0, 1, 4, 5, 6, 24, 28, 37] hX ?_; (simp [go_sem]; (try simp (disch := omega) only [w64, td, tm]); try (refine ⟨by kernel_rfl, ?_⟩))) | (refine awp_drawnG [0, 1, 4, 5, 6, 24, 28, 37] hX mixed ?_; (simp [go_sem]; (try simp (disch := omega) only [w64, td, tm]); try (refine ⟨by kernel_rfl, ?_⟩))) | (refine awp_ret ?_; (simp [go_sem]; (try simp (disch := omega) only [w64, td, tm]); try (refine ⟨by kernel_rfl, ?_⟩))) | (refine awp_skip ?_; (simp [go_sem]; (try simp (disch := omega) only [w64, td, tm]); try (refine ⟨by kernel_rfl, ?_⟩))) | (refine awp_exit ?_; (simp [go_sem]; (try simp (disch := omega) only [w64, td, tm]); try (refine ⟨by kernel_rfl, ?_⟩)))))
          refine ⟨k + 1, ⟨by omega, fun j h1 h3 => ?_⟩, by omega, ?_⟩
          · by_cases hjk : j = k
            · subst hjk; exact hd2
            · exact hn j h1 (by omega)
          · refine sub_of _ [] (by simp [go_sem]) ?_
            simp [go_sem]
      · have hk11 : k = 10 := by simp at hc; omega
        subst hk11
        (repeat (first | refine awp_seq ?_ | refine awp_block ?_ | (refine awp_runG [0, 1, 4, 5, 6, 24, 28, 37] hX ?_; (simp [go_sem]; try (refine ⟨by kernel_rfl, ?_⟩))) | (refine awp_drawnG [0, 1, 4, 5, 6, 24, 28, 37] hX mixed ?_; (simp [go_sem]; try (refine ⟨by kernel_rfl, ?_⟩))) | (refine awp_ret ?_; (simp [go_sem]; try (refine ⟨by kernel_rfl, ?_⟩))) | (refine awp_skip ?_; (simp [go_sem]; try (refine ⟨by kernel_rfl, ?_⟩))) | (refine awp_exit ?_; (simp [go_sem]; try (refine ⟨by kernel_rfl, ?_⟩)))))
        have : isSign1 l[p] = false := by
          cases hs : isSign1 l[p] with
          | false => rfl
          | true =>
            have : l[p] ∈ ones := by simpa [isSign1, ones] using hs
            obtain ⟨j, hj, e⟩ := List.getElem_of_mem this
            exact (hn j hj hj e).elim
        simp only [decide_eq_false_iff_not] at hb
        rw [h2, if_neg hb, this]; rfl

theorem tw_at {f : UInt8 → Bool} {m : By} {j : Nat} (hj : j ≤ m.length) (hn : (m.take j).all f = true) (he : ∀ h : j < m.length, f m[j] = false) : m.takeWhile f = m.take j := by
  by_cases h : j < m.length
  · exact (tw_step h hn).2 (he h)
  · have : j = m.length := by omega
    subst this
    rw [tw_end hn, List.take_length]
theorem cut_at {l : By} {p j : Nat} (hp : p < l.length) : (l.take (p + 1 + j)).drop p = l[p] :: (l.drop (p + 1)).take j := by
  rw [List.drop_take, getAt hp, show p + 1 + j - p = j + 1 by omega, List.take_succ_cons]
theorem tok_sign {c : UInt8} {r : By} (hl : isLetter c = false) (hd : isDigit c = false) : tok (c :: r) = if signLen (c :: r) = 0 then .err 11 else .ok 3 ((c :: r).take (signLen (c :: r))) 0 := by
  by_cases h : (c == 61 && r.head? == some 61) = true
  · have e : signLen (c :: r) = 2 := by simp only [signLen, h, if_true]
    simp only [tok, hl, hd, Bool.false_eq_true, if_false, h, if_true, e]
    simp only [Bool.and_eq_true, beq_iff_eq] at h
    obtain ⟨rfl, h⟩ := h
    cases r with
    | nil => simp at h
    | cons d r => simp at h; subst h; simp
  · by_cases h2 : isSign1 c = true
    · have e : signLen (c :: r) = 1 := by simp only [signLen, h, h2, if_true, Bool.false_eq_true, if_false]
      simp only [tok, hl, hd, Bool.false_eq_true, if_false, h, h2, if_true, e]
      simp
    · have e : signLen (c :: r) = 0 := by simp only [signLen, h, h2, Bool.false_eq_true, if_false]
      simp only [tok, hl, hd, Bool.false_eq_true, if_false, h, h2, if_true, e]

set_option maxHeartbeats 2000000 in
set_option maxRecDepth 20000 in
theorem token_m (l : By) (p : Nat) (hp : p < l.length) (hl : l.length ≤ 100000) : Means true Tryd.prog 25 [ss l, ii p] (tokAV p (tok (l.drop p))) := by
  have hd := getAt hp
  have hsg := sign_m l p hp hl
  have hml : (l.drop (p + 1)).length = l.length - (p + 1) := List.length_drop
  refine means_fn true 93 [.cell 4 25, .tmp 5] Tryd.func25 rfl rfl rfl (by simp) (by decide) rfl fun X hX => ?_
  (repeat (first | refine awp_seq ?_ | refine awp_block ?_ | (refine awp_runG [0, 1, 4, 5, 6, 7, 8, 9, 15, 31, 37, 48, 58, 70, 83] hX ?_; (simp [go_sem, hp]; (try simp (disch := omega) only [w64, td, tm]); try (refine ⟨by kernel_rfl, ?_⟩))) | (refine awp_drawnG [0, 1, 4, 5, 6, 7, 8, 9, 15, 31, 37, 48, 58, 70, 83] hX mixed ?_; (simp [go_sem, hp]; (try simp (disch := omega) only [w64, td, tm]); try (refine ⟨by kernel_rfl, ?_⟩))) | (refine awp_ret ?_; (simp [go_sem, hp]; (try simp (disch := omega) only [w64, td, tm]); try (refine ⟨by kernel_rfl, ?_⟩))) | (refine awp_skip ?_; (simp [go_sem, hp]; (try simp (disch := omega) only [w64, td, tm]); try (refine ⟨by kernel_rfl, ?_⟩))) | (refine awp_exit ?_; (simp [go_sem, hp]; (try simp (disch := omega) only [w64, td, tm]); try (refine ⟨by kernel_rfl, ?_⟩)))))
  (repeat refine And.intro (by first | omega | (unfold maxLen; omega) | kernel_rfl | (refine ⟨by first | omega | (unfold maxLen; omega), by first | omega | (unfold maxLen; omega)⟩) | grind) ?_)
  first | refine callK_intro (rletter_m l[p]) rfl (by simp [go_sem]) rfl ?_ | refine callT_intro (rletter_m l[p]) rfl (by simp [go_sem]) rfl ?_
  try (simp [go_sem]; try (refine ⟨by kernel_rfl, ?_⟩))
  (repeat (first | refine awp_seq ?_ | refine awp_block ?_ | (refine awp_runG [0, 1, 4, 5, 6, 7, 8, 9, 15, 31, 37, 48, 58, 70, 83] hX ?_; (simp [go_sem]; try (refine ⟨by kernel_rfl, ?_⟩))) | (refine awp_drawnG [0, 1, 4, 5, 6, 7, 8, 9, 15, 31, 37, 48, 58, 70, 83] hX mixed ?_; (simp [go_sem]; try (refine ⟨by kernel_rfl, ?_⟩))) | (refine awp_ret ?_; (simp [go_sem]; try (refine ⟨by kernel_rfl, ?_⟩))) | (refine awp_skip ?_; (simp [go_sem]; try (refine ⟨by kernel_rfl, ?_⟩))) | (refine awp_exit ?_; (simp [go_sem]; try (refine ⟨by kernel_rfl, ?_⟩)))))
  refine awp_cond (b := isLetter l[p]) (by simp [go_sem]) (fun hlt => ?_) (fun hlt => ?_)
  · (repeat (first | refine awp_seq ?_ | refine awp_block ?_ | (refine awp_runG [0, 1, 4, 5, 6, 7, 8, 9, 15, 31, 37, 48, 58, 70, 83] hX ?_; (simp [go_sem]; try (refine ⟨by kernel_rfl, ?_⟩))) | (refine awp_drawnG [0, 1, 4, 5, 6, 7, 8, 9, 15, 31, 37, 48, 58, 70, 83] hX mixed ?_; (simp [go_sem]; try (refine ⟨by kernel_rfl, ?_⟩))) | (refine awp_ret ?_; (simp [go_sem]; try (refine ⟨by kernel_rfl, ?_⟩))) | (refine awp_skip ?_; (simp [go_sem]; try (refine ⟨by kernel_rfl, ?_⟩))) | (refine awp_exit ?_; (simp [go_sem]; try (refine ⟨by kernel_rfl, ?_⟩)))))
    refine awp_loop (fun e : Nat => ⟨mkE [(0, ss l), (1, ii p), (4, .el 0 4 0 0), (5, ii 0), (6, ii e)], [.row ⟨25, 4, [tk ⟨0, [], 0, 0⟩]⟩]⟩) (fun e => p + 1 ≤ e ∧ e ≤ l.length ∧ ((l.drop (p + 1)).take (e - (p + 1))).all isAl = true) (fun e => l.length - e) (p + 1) ?_ ?_ ?_
    · refine sub_of _ [.old 0 ⟨25, 4, [tk ⟨0, [], 0, 0⟩]⟩] (by simp [go_sem]) ?_
      simp [go_sem]
    · exact ⟨by omega, by omega, by simp⟩
    · rintro e ⟨he1, he2, hn⟩
      obtain ⟨j, hje⟩ : ∃ j, e = p + 1 + j := ⟨e - (p + 1), by omega⟩
      rw [show e - (p + 1) = j by omega] at hn
      have hj : j ≤ (l.drop (p + 1)).length := by omega
      have hcut : (l.drop p).take (e - p) = l[p] :: (l.drop (p + 1)).take j := by rw [getAt hp, show e - p = j + 1 by omega, List.take_succ_cons]
      have hget : ∀ (h : j < (l.drop (p + 1)).length) (h2 : e < l.length), (l.drop (p + 1))[j] = l[e] := fun h h2 => by simp [hje]
      have fin : (∀ h : j < (l.drop (p + 1)).length, isAl (l.drop (p + 1))[j] = false) → tok (l.drop p) = if e ≤ 20 + p then .ok 1 ((l.drop p).take (e - p)) 0 else .err 13 := fun he => by
        have h1 := tw_at hj hn he
        have hl1 : (l[p] :: (l.drop (p + 1)).take j).length = e - p := by rw [List.length_cons, List.length_take, Nat.min_eq_left hj]; omega
        have h2 : (l[p] :: l.drop (p + 1)).takeWhile isAl = l[p] :: (l.drop (p + 1)).take j := by
          rw [List.takeWhile_cons, h1, if_pos (by simp [isAl, hlt])]
        rw [hcut, hd]
        simp only [tok, hlt, if_true, h2, hl1]
        by_cases h20 : e ≤ 20 + p
        · rw [if_pos h20, if_pos (by omega)]
        · rw [if_neg h20, if_neg (by omega)]
      by_cases hjl : j < (l.drop (p + 1)).length
      · have hk : e < l.length := by omega
        have hki : (e : Int) < l.length := by omega
        obtain ⟨t1, _⟩ := tw_step hjl hn
        rw [hget hjl hk] at t1
        (repeat (first | refine awp_seq ?_ | refine awp_block ?_ | (refine awp_runG [0, 1, 4, 5, 6, 7, 8, 9, 15, 31, 37, 48, 58, 70, 83] hX ?_; (simp [go_sem, hk, hki]; (try simp (disch := omega) only [w64, td, tm]); try (refine ⟨by kernel_rfl, ?_⟩))) | (refine awp_drawnG [0, 1, 4, 5, 6, 7, 8, 9, 15, 31, 37, 48, 58, 70, 83] hX mixed ?_; (simp [go_sem, hk, hki]; (try simp (disch := omega) only [w64, td, tm]); try (refine ⟨by kernel_rfl, ?_⟩))) | (refine awp_ret ?_; (simp [go_sem, hk, hki]; (try simp (disch := omega) only [w64, td, tm]); try (refine ⟨by kernel_rfl, ?_⟩))) | (refine awp_skip ?_; (simp [go_sem, hk, hki]; (try simp (disch := omega) only [w64, td, tm]); try (refine ⟨by kernel_rfl, ?_⟩))) | (refine awp_exit ?_; (simp [go_sem, hk, hki]; (try simp (disch := omega) only [w64, td, tm]); try (refine ⟨by kernel_rfl, ?_⟩)))))
        (repeat refine And.intro (by first | omega | (unfold maxLen; omega) | kernel_rfl | (refine ⟨by first | omega | (unfold maxLen; omega), by first | omega | (unfold maxLen; omega)⟩) | grind) ?_)
        first | refine callG_intro (fun hg => rletter_m l[e]) rfl (by simp [go_sem]) rfl ?_ | refine callGT_intro (fun hg => rletter_m l[e]) rfl (by simp [go_sem]) rfl ?_
        try (simp [go_sem, hk, hki]; try (refine ⟨by kernel_rfl, ?_⟩))
        (repeat refine And.intro (by first | omega | (unfold maxLen; omega) | kernel_rfl | (refine ⟨by first | omega | (unfold maxLen; omega), by first | omega | (unfold maxLen; omega)⟩) | grind) ?_)
        first | refine callG_intro (fun hg => rdigit_m l[e]) rfl (by simp [go_sem]) rfl ?_ | refine callGT_intro (fun hg => rdigit_m l[e]) rfl (by simp [go_sem]) rfl ?_
        try (simp [go_sem]; try (refine ⟨by kernel_rfl, ?_⟩))
        (repeat (first | refine awp_seq ?_ | refine awp_block ?_ | (refine awp_runG [0, 1, 4, 5, 6, 7, 8, 9, 15, 31, 37, 48, 58, 70, 83] hX ?_; (simp [go_sem]; try (refine ⟨by kernel_rfl, ?_⟩))) | (refine awp_drawnG [0, 1, 4, 5, 6, 7, 8, 9, 15, 31, 37, 48, 58, 70, 83] hX mixed ?_; (simp [go_sem]; try (refine ⟨by kernel_rfl, ?_⟩))) | (refine awp_ret ?_; (simp [go_sem]; try (refine ⟨by kernel_rfl, ?_⟩))) | (refine awp_skip ?_; (simp [go_sem]; try (refine ⟨by kernel_rfl, ?_⟩))) | (refine awp_exit ?_; (simp [go_sem]; try (refine ⟨by kernel_rfl, ?_⟩)))))
        refine awp_cond (b := isAl l[e]) (by simp [go_sem, isAl]; try (cases isLetter l[e] <;> simp)) (fun hc => ?_) (fun hc => ?_)
        · (repeat (first | refine awp_seq ?_ | refine awp_block ?_ | (refine awp_runG [0, 1, 4, 5, 6, 7, 8, 9, 15, 31, 37, 48, 58, 70, 83] hX ?_; (simp [go_sem]; (try simp (disch := omega) only [w64, td, tm]); try (refine ⟨by kernel_rfl, ?_⟩))) | (refine awp_drawnG [0, 1, 4, 5, 6, 7, 8, 9, 15, 31, 37, 48, 58, 70, 83] hX mixed ?_; (simp [go_sem]; (try simp (disch := omega) only [w64, td, tm]); try (refine ⟨by kernel_rfl, ?_⟩))) | (refine awp_ret ?_; (simp [go_sem]; (try simp (disch := omega) only [w64, td, tm]); try (refine ⟨by kernel_rfl, ?_⟩))) | (refine awp_skip ?_; (simp [go_sem]; (try simp (disch := omega) only [w64, td, tm]); try (refine ⟨by kernel_rfl, ?_⟩))) | (refine awp_exit ?_; (simp [go_sem]; (try simp (disch := omega) only [w64, td, tm]); try (refine ⟨by kernel_rfl, ?_⟩)))))
          refine ⟨e + 1, ⟨by omega, by omega, by rw [show e + 1 - (p + 1) = j + 1 by omega]; simpa using t1 hc⟩, by omega, ?_⟩
          refine sub_of _ [.old 0 ⟨25, 4, [tk ⟨0, [], 0, 0⟩]⟩] (by simp [go_sem]) ?_
          simp [go_sem]
        · have hf := fin (fun h => by rw [hget h hk]; exact hc)
          rw [hf]
          (repeat (first | refine awp_seq ?_ | refine awp_block ?_ | (refine awp_runG [0, 1, 4, 5, 6, 7, 8, 9, 15, 31, 37, 48, 58, 70, 83] hX ?_; (simp [go_sem]; (try simp (disch := omega) only [w64, td, tm]); try (refine ⟨by kernel_rfl, ?_⟩))) | (refine awp_drawnG [0, 1, 4, 5, 6, 7, 8, 9, 15, 31, 37, 48, 58, 70, 83] hX mixed ?_; (simp [go_sem]; (try simp (disch := omega) only [w64, td, tm]); try (refine ⟨by kernel_rfl, ?_⟩))) | (refine awp_ret ?_; (simp [go_sem]; (try simp (disch := omega) only [w64, td, tm]); try (refine ⟨by kernel_rfl, ?_⟩))) | (refine awp_skip ?_; (simp [go_sem]; (try simp (disch := omega) only [w64, td, tm]); try (refine ⟨by kernel_rfl, ?_⟩))) | (refine awp_exit ?_; (simp [go_sem]; (try simp (disch := omega) only [w64, td, tm]); try (refine ⟨by kernel_rfl, ?_⟩)))))
          refine awp_cond (b := decide (20 < e - p)) (by simp [go_sem]; try omega) (fun hd2 => ?_) (fun hd2 => ?_)
          · simp at hd2
            (repeat (first | refine awp_seq ?_ | refine awp_block ?_ | (refine awp_runG [0, 1, 4, 5, 6, 7, 8, 9, 15, 31, 37, 48, 58, 70, 83] hX ?_; (simp [go_sem]; try (refine ⟨by kernel_rfl, ?_⟩))) | (refine awp_drawnG [0, 1, 4, 5, 6, 7, 8, 9, 15, 31, 37, 48, 58, 70, 83] hX mixed ?_; (simp [go_sem]; try (refine ⟨by kernel_rfl, ?_⟩))) | (refine awp_ret ?_; (simp [go_sem]; try (refine ⟨by kernel_rfl, ?_⟩))) | (refine awp_skip ?_; (simp [go_sem]; try (refine ⟨by kernel_rfl, ?_⟩))) | (refine awp_exit ?_; (simp [go_sem]; try (refine ⟨by kernel_rfl, ?_⟩)))))
            simp [tokAV, show ¬ e ≤ 20 + p by omega]
          · simp at hd2
            (repeat (first | refine awp_seq ?_ | refine awp_block ?_ | (refine awp_runG [0, 1, 4, 5, 6, 7, 8, 9, 15, 31, 37, 48, 58, 70, 83] hX ?_; (simp [go_sem]; try (refine ⟨by kernel_rfl, ?_⟩))) | (refine awp_drawnG [0, 1, 4, 5, 6, 7, 8, 9, 15, 31, 37, 48, 58, 70, 83] hX mixed ?_; (simp [go_sem]; try (refine ⟨by kernel_rfl, ?_⟩))) | (refine awp_ret ?_; (simp [go_sem]; try (refine ⟨by kernel_rfl, ?_⟩))) | (refine awp_skip ?_; (simp [go_sem]; try (refine ⟨by kernel_rfl, ?_⟩))) | (refine awp_exit ?_; (simp [go_sem]; try (refine ⟨by kernel_rfl, ?_⟩)))))
            (repeat refine And.intro (by first | omega | (unfold maxLen; omega) | kernel_rfl | (refine ⟨by first | omega | (unfold maxLen; omega), by first | omega | (unfold maxLen; omega)⟩) | grind) ?_)
            (repeat (first | refine awp_seq ?_ | refine awp_block ?_ | (refine awp_runG [0, 1, 4, 5, 6, 7, 8, 9, 15, 31, 37, 48, 58, 70, 83] hX ?_; (simp [go_sem]; try (refine ⟨by kernel_rfl, ?_⟩))) | (refine awp_drawnG [0, 1, 4, 5, 6, 7, 8, 9, 15, 31, 37, 48, 58, 70, 83] hX mixed ?_; (simp [go_sem]; try (refine ⟨by kernel_rfl, ?_⟩))) | (refine awp_ret ?_; (simp [go_sem]; try (refine ⟨by kernel_rfl, ?_⟩))) | (refine awp_skip ?_; (simp [go_sem]; try (refine ⟨by kernel_rfl, ?_⟩))) | (refine awp_exit ?_; (simp [go_sem]; try (refine ⟨by kernel_rfl, ?_⟩)))))
            simp [tokAV, show e ≤ 20 + p by omega, List.drop_take]
      · have hki : ¬ e < l.length := by clear fin; omega
        have hf := fin (fun h => absurd h hjl)
        clear fin
        rw [hf]
        (repeat (first | refine awp_seq ?_ | refine awp_block ?_ | (refine awp_runG [0, 1, 4, 5, 6, 7, 8, 9, 15, 31, 37, 48, 58, 70, 83] hX ?_; (simp [go_sem, hki]; (try simp (disch := omega) only [w64, td, tm]); try (refine ⟨by kernel_rfl, ?_⟩))) | (refine awp_drawnG [0, 1, 4, 5, 6, 7, 8, 9, 15, 31, 37, 48, 58, 70, 83] hX mixed ?_; (simp [go_sem, hki]; (try simp (disch := omega) only [w64, td, tm]); try (refine ⟨by kernel_rfl, ?_⟩))) | (refine awp_ret ?_; (simp [go_sem, hki]; (try simp (disch := omega) only [w64, td, tm]); try (refine ⟨by kernel_rfl, ?_⟩))) | (refine awp_skip ?_; (simp [go_sem, hki]; (try simp (disch := omega) only [w64, td, tm]); try (refine ⟨by kernel_rfl, ?_⟩))) | (refine awp_exit ?_; (simp [go_sem, hki]; (try simp (disch := omega) only [w64, td, tm]); try (refine ⟨by kernel_rfl, ?_⟩)))))
        (repeat refine And.intro (by first | omega | (unfold maxLen; omega) | kernel_rfl | (refine ⟨by first | omega | (unfold maxLen; omega), by first | omega | (unfold maxLen; omega)⟩) | grind) ?_)
        first | refine callG_intro (fun hg => (show Means true Tryd.prog _ _ (bb false) by cases hg)) rfl (by simp [go_sem]) rfl ?_ | refine callGT_intro (fun hg => (show Means true Tryd.prog _ _ (bb false) by cases hg)) rfl (by simp [go_sem]) rfl ?_
        try (simp [go_sem]; try (refine ⟨by kernel_rfl, ?_⟩))
        (repeat refine And.intro (by first | omega | (unfold maxLen; omega) | kernel_rfl | (refine ⟨by first | omega | (unfold maxLen; omega), by first | omega | (unfold maxLen; omega)⟩) | grind) ?_)
        first | refine callG_intro (fun hg => (show Means true Tryd.prog _ _ (bb false) by cases hg)) rfl (by simp [go_sem]) rfl ?_ | refine callGT_intro (fun hg => (show Means true Tryd.prog _ _ (bb false) by cases hg)) rfl (by simp [go_sem]) rfl ?_
        try (simp [go_sem]; try (refine ⟨by kernel_rfl, ?_⟩))
        (repeat (first | refine awp_seq ?_ | refine awp_block ?_ | (refine awp_runG [0, 1, 4, 5, 6, 7, 8, 9, 15, 31, 37, 48, 58, 70, 83] hX ?_; (simp [go_sem]; try (refine ⟨by kernel_rfl, ?_⟩))) | (refine awp_drawnG [0, 1, 4, 5, 6, 7, 8, 9, 15, 31, 37, 48, 58, 70, 83] hX mixed ?_; (simp [go_sem]; try (refine ⟨by kernel_rfl, ?_⟩))) | (refine awp_ret ?_; (simp [go_sem]; try (refine ⟨by kernel_rfl, ?_⟩))) | (refine awp_skip ?_; (simp [go_sem]; try (refine ⟨by kernel_rfl, ?_⟩))) | (refine awp_exit ?_; (simp [go_sem]; try (refine ⟨by kernel_rfl, ?_⟩)))))
        refine awp_cond (b := false) (by simp [go_sem]) (fun h => by cases h) (fun _ => ?_)
        (repeat (first | refine awp_seq ?_ | refine awp_block ?_ | (refine awp_runG [0, 1, 4, 5, 6, 7, 8, 9, 15, 31, 37, 48, 58, 70, 83] hX ?_; (simp [go_sem]; (try simp (disch := omega) only [w64, td, tm]); try (refine ⟨by kernel_rfl, ?_⟩))) | (refine awp_drawnG [0, 1, 4, 5, 6, 7, 8, 9, 15, 31, 37, 48, 58, 70, 83] hX mixed ?_; (simp [go_sem]; (try simp (disch := omega) only [w64, td, tm]); try (refine ⟨by kernel_rfl, ?_⟩))) | (refine awp_ret ?_; (simp [go_sem]; (try simp (disch := omega) only [w64, td, tm]); try (refine ⟨by kernel_rfl, ?_⟩))) | (refine awp_skip ?_; (simp [go_sem]; (try simp (disch := omega) only [w64, td, tm]); try (refine ⟨by kernel_rfl, ?_⟩))) | (refine awp_exit ?_; (simp [go_sem]; (try simp (disch := omega) only [w64, td, tm]); try (refine ⟨by kernel_rfl, ?_⟩)))))
        refine awp_cond (b := decide (20 < e - p)) (by simp [go_sem]; try omega) (fun hd2 => ?_) (fun hd2 => ?_)
        · simp at hd2
          (repeat (first | refine awp_seq ?_ | refine awp_block ?_ | (refine awp_runG [0, 1, 4, 5, 6, 7, 8, 9, 15, 31, 37, 48, 58, 70, 83] hX ?_; (simp [go_sem]; try (refine ⟨by kernel_rfl, ?_⟩))) | (refine awp_drawnG [0, 1, 4, 5, 6, 7, 8, 9, 15, 31, 37, 48, 58, 70, 83] hX mixed ?_; (simp [go_sem]; try (refine ⟨by kernel_rfl, ?_⟩))) | (refine awp_ret ?_; (simp [go_sem]; try (refine ⟨by kernel_rfl, ?_⟩))) | (refine awp_skip ?_; (simp [go_sem]; try (refine ⟨by kernel_rfl, ?_⟩))) | (refine awp_exit ?_; (simp [go_sem]; try (refine ⟨by kernel_rfl, ?_⟩)))))
          simp [tokAV, show ¬ e ≤ 20 + p by omega]
        · simp at hd2
          (repeat (first | refine awp_seq ?_ | refine awp_block ?_ | (refine awp_runG [0, 1, 4, 5, 6, 7, 8, 9, 15, 31, 37, 48, 58, 70, 83] hX ?_; (simp [go_sem]; try (refine ⟨by kernel_rfl, ?_⟩))) | (refine awp_drawnG [0, 1, 4, 5, 6, 7, 8, 9, 15, 31, 37, 48, 58, 70, 83] hX mixed ?_; (simp [go_sem]; try (refine ⟨by kernel_rfl, ?_⟩))) | (refine awp_ret ?_; (simp [go_sem]; try (refine ⟨by kernel_rfl, ?_⟩))) | (refine awp_skip ?_; (simp [go_sem]; try (refine ⟨by kernel_rfl, ?_⟩))) | (refine awp_exit ?_; (simp [go_sem]; try (refine ⟨by kernel_rfl, ?_⟩)))))
          (repeat refine And.intro (by first | omega | (unfold maxLen; omega) | kernel_rfl | (refine ⟨by first | omega | (unfold maxLen; omega), by first | omega | (unfold maxLen; omega)⟩) | grind) ?_)
          (repeat (first | refine awp_seq ?_ | refine awp_block ?_ | (refine awp_runG [0, 1, 4, 5, 6, 7, 8, 9, 15, 31, 37, 48, 58, 70, 83] hX ?_; (simp [go_sem]; try (refine ⟨by kernel_rfl, ?_⟩))) | (refine awp_drawnG [0, 1, 4, 5, 6, 7, 8, 9, 15, 31, 37, 48, 58, 70, 83] hX mixed ?_; (simp [go_sem]; try (refine ⟨by kernel_rfl, ?_⟩))) | (refine awp_ret ?_; (simp [go_sem]; try (refine ⟨by kernel_rfl, ?_⟩))) | (refine awp_skip ?_; (simp [go_sem]; try (refine ⟨by kernel_rfl, ?_⟩))) | (refine awp_exit ?_; (simp [go_sem]; try (refine ⟨by kernel_rfl, ?_⟩)))))
          simp [tokAV, show e ≤ 20 + p by omega, List.drop_take]
  · (repeat (first | refine awp_seq ?_ | refine awp_block ?_ | (refine awp_runG [0, 1, 4, 5, 6, 7, 8, 9, 15, 31, 37, 48, 58, 70, 83] hX ?_; (simp [go_sem, hp]; try (refine ⟨by kernel_rfl, ?_⟩))) | (refine awp_drawnG [0, 1, 4, 5, 6, 7, 8, 9, 15, 31, 37, 48, 58, 70, 83] hX mixed ?_; (simp [go_sem, hp]; try (refine ⟨by kernel_rfl, ?_⟩))) | (refine awp_ret ?_; (simp [go_sem, hp]; try (refine ⟨by kernel_rfl, ?_⟩))) | (refine awp_skip ?_; (simp [go_sem, hp]; try (refine ⟨by kernel_rfl, ?_⟩))) | (refine awp_exit ?_; (simp [go_sem, hp]; try (refine ⟨by kernel_rfl, ?_⟩)))))
    (repeat refine And.intro (by first | omega | (unfold maxLen; omega) | kernel_rfl | (refine ⟨by first | omega | (unfold maxLen; omega), by first | omega | (unfold maxLen; omega)⟩) | grind) ?_)
    first | refine callK_intro (rdigit_m l[p]) rfl (by simp [go_sem]) rfl ?_ | refine callT_intro (rdigit_m l[p]) rfl (by simp [go_sem]) rfl ?_
    try (simp [go_sem]; try (refine ⟨by kernel_rfl, ?_⟩))
    (repeat (first | refine awp_seq ?_ | refine awp_block ?_ | (refine awp_runG [0, 1, 4, 5, 6, 7, 8, 9, 15, 31, 37, 48, 58, 70, 83] hX ?_; (simp [go_sem]; try (refine ⟨by kernel_rfl, ?_⟩))) | (refine awp_drawnG [0, 1, 4, 5, 6, 7, 8, 9, 15, 31, 37, 48, 58, 70, 83] hX mixed ?_; (simp [go_sem]; try (refine ⟨by kernel_rfl, ?_⟩))) | (refine awp_ret ?_; (simp [go_sem]; try (refine ⟨by kernel_rfl, ?_⟩))) | (refine awp_skip ?_; (simp [go_sem]; try (refine ⟨by kernel_rfl, ?_⟩))) | (refine awp_exit ?_; (simp [go_sem]; try (refine ⟨by kernel_rfl, ?_⟩)))))
    refine awp_cond (b := isDigit l[p]) (by simp [go_sem]) (fun hdt => ?_) (fun hdt => ?_)
    · (repeat (first | refine awp_seq ?_ | refine awp_block ?_ | (refine awp_runG [0, 1, 4, 5, 6, 7, 8, 9, 15, 31, 37, 48, 58, 70, 83] hX ?_; (simp [go_sem]; try (refine ⟨by kernel_rfl, ?_⟩))) | (refine awp_drawnG [0, 1, 4, 5, 6, 7, 8, 9, 15, 31, 37, 48, 58, 70, 83] hX mixed ?_; (simp [go_sem]; try (refine ⟨by kernel_rfl, ?_⟩))) | (refine awp_ret ?_; (simp [go_sem]; try (refine ⟨by kernel_rfl, ?_⟩))) | (refine awp_skip ?_; (simp [go_sem]; try (refine ⟨by kernel_rfl, ?_⟩))) | (refine awp_exit ?_; (simp [go_sem]; try (refine ⟨by kernel_rfl, ?_⟩)))))
      refine awp_loop (fun e : Nat => ⟨mkE [(0, ss l), (1, ii p), (4, .el 0 4 0 0), (5, ii 0), (6, ii e)], [.row ⟨25, 4, [tk ⟨0, [], 0, 0⟩]⟩]⟩) (fun e => p + 1 ≤ e ∧ e ≤ l.length ∧ ((l.drop (p + 1)).take (e - (p + 1))).all isDigit = true) (fun e => l.length - e) (p + 1) ?_ ?_ ?_
      · refine sub_of _ [.old 0 ⟨25, 4, [tk ⟨0, [], 0, 0⟩]⟩] (by simp [go_sem]) ?_
        simp [go_sem]
      · exact ⟨by omega, by omega, by simp⟩
      · rintro e ⟨he1, he2, hn⟩
        obtain ⟨j, hje⟩ : ∃ j, e = p + 1 + j := ⟨e - (p + 1), by omega⟩
        rw [show e - (p + 1) = j by omega] at hn
        have hj : j ≤ (l.drop (p + 1)).length := by omega
        have hcut : (l.drop p).take (e - p) = l[p] :: (l.drop (p + 1)).take j := by rw [getAt hp, show e - p = j + 1 by omega, List.take_succ_cons]
        have hget : ∀ (h : j < (l.drop (p + 1)).length) (h2 : e < l.length), (l.drop (p + 1))[j] = l[e] := fun h h2 => by simp [hje]
        have fin : (∀ h : j < (l.drop (p + 1)).length, isDigit (l.drop (p + 1))[j] = false) → tok (l.drop p) = if isNum ((l.drop p).take (e - p)) then .ok 2 ((l.drop p).take (e - p)) (numVal ((l.drop p).take (e - p))) else .err 3 := fun he => by
          have h1 := tw_at hj hn he
          have h2 : (l[p] :: l.drop (p + 1)).takeWhile isDigit = l[p] :: (l.drop (p + 1)).take j := by
            rw [List.takeWhile_cons, h1, if_pos hdt]
          rw [hcut, hd]
          simp only [tok, hlt, hdt, if_true, Bool.false_eq_true, if_false, h2]
        have hnum : Means true Tryd.prog 14 [ss ((l.take e).drop p)] (numAV ((l.drop p).take (e - p))) := by rw [List.drop_take]; exact rnumber_m _ (by rw [List.length_take, List.length_drop]; omega)
        by_cases hjl : j < (l.drop (p + 1)).length
        · have hk : e < l.length := by omega
          have hki : (e : Int) < l.length := by omega
          obtain ⟨t1, _⟩ := tw_step hjl hn
          rw [hget hjl hk] at t1
          (repeat (first | refine awp_seq ?_ | refine awp_block ?_ | (refine awp_runG [0, 1, 4, 5, 6, 7, 8, 9, 15, 31, 37, 48, 58, 70, 83] hX ?_; (simp [go_sem, hk, hki]; (try simp (disch := omega) only [w64, td, tm]); try (refine ⟨by kernel_rfl, ?_⟩))) | (refine awp_drawnG [0, 1, 4, 5, 6, 7, 8, 9, 15, 31, 37, 48, 58, 70, 83] hX mixed ?_; (simp [go_sem, hk, hki]; (try simp (disch := omega) only [w64, td, tm]); try (refine ⟨by kernel_rfl, ?_⟩))) | (refine awp_ret ?_; (simp [go_sem, hk, hki]; (try simp (disch := omega) only [w64, td, tm]); try (refine ⟨by kernel_rfl, ?_⟩))) | (refine awp_skip ?_; (simp [go_sem, hk, hki]; (try simp (disch := omega) only [w64, td, tm]); try (refine ⟨by kernel_rfl, ?_⟩))) | (refine awp_exit ?_; (simp [go_sem, hk, hki]; (try simp (disch := omega) only [w64, td, tm]); try (refine ⟨by kernel_rfl, ?_⟩)))))
          (repeat refine And.intro (by first | omega | (unfold maxLen; omega) | kernel_rfl | (refine ⟨by first | omega | (unfold maxLen; omega), by first | omega | (unfold maxLen; omega)⟩) | grind) ?_)
          first | refine callG_intro (fun hg => rdigit_m l[e]) rfl (by simp [go_sem]) rfl ?_ | refine callGT_intro (fun hg => rdigit_m l[e]) rfl (by simp [go_sem]) rfl ?_
          try (simp [go_sem, hk, hki]; try (refine ⟨by kernel_rfl, ?_⟩))
          (repeat (first | refine awp_seq ?_ | refine awp_block ?_ | (refine awp_runG [0, 1, 4, 5, 6, 7, 8, 9, 15, 31, 37, 48, 58, 70, 83] hX ?_; (simp [go_sem]; try (refine ⟨by kernel_rfl, ?_⟩))) | (refine awp_drawnG [0, 1, 4, 5, 6, 7, 8, 9, 15, 31, 37, 48, 58, 70, 83] hX mixed ?_; (simp [go_sem]; try (refine ⟨by kernel_rfl, ?_⟩))) | (refine awp_ret ?_; (simp [go_sem]; try (refine ⟨by kernel_rfl, ?_⟩))) | (refine awp_skip ?_; (simp [go_sem]; try (refine ⟨by kernel_rfl, ?_⟩))) | (refine awp_exit ?_; (simp [go_sem]; try (refine ⟨by kernel_rfl, ?_⟩)))))
          refine awp_cond (b := isDigit l[e]) (by simp [go_sem]) (fun hc => ?_) (fun hc => ?_)
          · (repeat (first | refine awp_seq ?_ | refine awp_block ?_ | (refine awp_runG [0, 1, 4, 5, 6, 7, 8, 9, 15, 31, 37, 48, 58, 70, 83] hX ?_; (simp [go_sem]; (try simp (disch := omega) only [w64, td, tm]); try (refine ⟨by kernel_rfl, ?_⟩))) | (refine awp_drawnG [0, 1, 4, 5, 6, 7, 8, 9, 15, 31, 37, 48, 58, 70, 83] hX mixed ?_; (simp [go_sem]; (try simp (disch := omega) only [w64, td, tm]); try (refine ⟨by kernel_rfl, ?_⟩))) | (refine awp_ret ?_; (simp [go_sem]; (try simp (disch := omega) only [w64, td, tm]); try (refine ⟨by kernel_rfl, ?_⟩))) | (refine awp_skip ?_; (simp [go_sem]; (try simp (disch := omega) only [w64, td, tm]); try (refine ⟨by kernel_rfl, ?_⟩))) | (refine awp_exit ?_; (simp [go_sem]; (try simp (disch := omega) only [w64, td, tm]); try (refine ⟨by kernel_rfl, ?_⟩)))))
            refine ⟨e + 1, ⟨by omega, by omega, by rw [show e + 1 - (p + 1) = j + 1 by omega]; simpa using t1 hc⟩, by omega, ?_⟩
            refine sub_of _ [.old 0 ⟨25, 4, [tk ⟨0, [], 0, 0⟩]⟩] (by simp [go_sem]) ?_
            simp [go_sem]
          · have hf := fin (fun h => by rw [hget h hk]; exact hc)
            rw [hf]
            (repeat (first | refine awp_seq ?_ | refine awp_block ?_ | (refine awp_runG [0, 1, 4, 5, 6, 7, 8, 9, 15, 31, 37, 48, 58, 70, 83] hX ?_; (simp [go_sem]; (try simp (disch := omega) only [w64, td, tm]); try (refine ⟨by kernel_rfl, ?_⟩))) | (refine awp_drawnG [0, 1, 4, 5, 6, 7, 8, 9, 15, 31, 37, 48, 58, 70, 83] hX mixed ?_; (simp [go_sem]; (try simp (disch := omega) only [w64, td, tm]); try (refine ⟨by kernel_rfl, ?_⟩))) | (refine awp_ret ?_; (simp [go_sem]; (try simp (disch := omega) only [w64, td, tm]); try (refine ⟨by kernel_rfl, ?_⟩))) | (refine awp_skip ?_; (simp [go_sem]; (try simp (disch := omega) only [w64, td, tm]); try (refine ⟨by kernel_rfl, ?_⟩))) | (refine awp_exit ?_; (simp [go_sem]; (try simp (disch := omega) only [w64, td, tm]); try (refine ⟨by kernel_rfl, ?_⟩)))))
            (repeat refine And.intro (by first | omega | (unfold maxLen; omega) | kernel_rfl | (refine ⟨by first | omega | (unfold maxLen; omega), by first | omega | (unfold maxLen; omega)⟩) | grind) ?_)
            (repeat (first | refine awp_seq ?_ | refine awp_block ?_ | (refine awp_runG [0, 1, 4, 5, 6, 7, 8, 9, 15, 31, 37, 48, 58, 70, 83] hX ?_; (simp [go_sem]; (try simp (disch := omega) only [w64, td, tm]); try (refine ⟨by kernel_rfl, ?_⟩))) | (refine awp_drawnG [0, 1, 4, 5, 6, 7, 8, 9, 15, 31, 37, 48, 58, 70, 83] hX mixed ?_; (simp [go_sem]; (try simp (disch := omega) only [w64, td, tm]); try (refine ⟨by kernel_rfl, ?_⟩))) | (refine awp_ret ?_; (simp [go_sem]; (try simp (disch := omega) only [w64, td, tm]); try (refine ⟨by kernel_rfl, ?_⟩))) | (refine awp_skip ?_; (simp [go_sem]; (try simp (disch := omega) only [w64, td, tm]); try (refine ⟨by kernel_rfl, ?_⟩))) | (refine awp_exit ?_; (simp [go_sem]; (try simp (disch := omega) only [w64, td, tm]); try (refine ⟨by kernel_rfl, ?_⟩)))))
            first | refine callK_intro (hnum) rfl (by simp [go_sem]) rfl ?_ | refine callT_intro (hnum) rfl (by simp [go_sem]) rfl ?_
            try (simp [go_sem]; try (refine ⟨by kernel_rfl, ?_⟩))
            (repeat (first | refine awp_seq ?_ | refine awp_block ?_ | (refine awp_runG [0, 1, 4, 5, 6, 7, 8, 9, 15, 31, 37, 48, 58, 70, 83] hX ?_; (simp [go_sem]; try (refine ⟨by kernel_rfl, ?_⟩))) | (refine awp_drawnG [0, 1, 4, 5, 6, 7, 8, 9, 15, 31, 37, 48, 58, 70, 83] hX mixed ?_; (simp [go_sem]; try (refine ⟨by kernel_rfl, ?_⟩))) | (refine awp_ret ?_; (simp [go_sem]; try (refine ⟨by kernel_rfl, ?_⟩))) | (refine awp_skip ?_; (simp [go_sem]; try (refine ⟨by kernel_rfl, ?_⟩))) | (refine awp_exit ?_; (simp [go_sem]; try (refine ⟨by kernel_rfl, ?_⟩)))))
            refine awp_cond (b := !isNum ((l.drop p).take (e - p))) (by simp [go_sem]) (fun hd2 => ?_) (fun hd2 => ?_)
            · simp at hd2
              (repeat (first | refine awp_seq ?_ | refine awp_block ?_ | (refine awp_runG [0, 1, 4, 5, 6, 7, 8, 9, 15, 31, 37, 48, 58, 70, 83] hX ?_; (simp [go_sem]; try (refine ⟨by kernel_rfl, ?_⟩))) | (refine awp_drawnG [0, 1, 4, 5, 6, 7, 8, 9, 15, 31, 37, 48, 58, 70, 83] hX mixed ?_; (simp [go_sem]; try (refine ⟨by kernel_rfl, ?_⟩))) | (refine awp_ret ?_; (simp [go_sem]; try (refine ⟨by kernel_rfl, ?_⟩))) | (refine awp_skip ?_; (simp [go_sem]; try (refine ⟨by kernel_rfl, ?_⟩))) | (refine awp_exit ?_; (simp [go_sem]; try (refine ⟨by kernel_rfl, ?_⟩)))))
              simp [tokAV, hd2, List.drop_take]
            · simp at hd2
              (repeat (first | refine awp_seq ?_ | refine awp_block ?_ | (refine awp_runG [0, 1, 4, 5, 6, 7, 8, 9, 15, 31, 37, 48, 58, 70, 83] hX ?_; (simp [go_sem]; try (refine ⟨by kernel_rfl, ?_⟩))) | (refine awp_drawnG [0, 1, 4, 5, 6, 7, 8, 9, 15, 31, 37, 48, 58, 70, 83] hX mixed ?_; (simp [go_sem]; try (refine ⟨by kernel_rfl, ?_⟩))) | (refine awp_ret ?_; (simp [go_sem]; try (refine ⟨by kernel_rfl, ?_⟩))) | (refine awp_skip ?_; (simp [go_sem]; try (refine ⟨by kernel_rfl, ?_⟩))) | (refine awp_exit ?_; (simp [go_sem]; try (refine ⟨by kernel_rfl, ?_⟩)))))
              (repeat refine And.intro (by first | omega | (unfold maxLen; omega) | kernel_rfl | (refine ⟨by first | omega | (unfold maxLen; omega), by first | omega | (unfold maxLen; omega)⟩) | grind) ?_)
              (repeat (first | refine awp_seq ?_ | refine awp_block ?_ | (refine awp_runG [0, 1, 4, 5, 6, 7, 8, 9, 15, 31, 37, 48, 58, 70, 83] hX ?_; (simp [go_sem]; try (refine ⟨by kernel_rfl, ?_⟩))) | (refine awp_drawnG [0, 1, 4, 5, 6, 7, 8, 9, 15, 31, 37, 48, 58, 70, 83] hX mixed ?_; (simp [go_sem]; try (refine ⟨by kernel_rfl, ?_⟩))) | (refine awp_ret ?_; (simp [go_sem]; try (refine ⟨by kernel_rfl, ?_⟩))) | (refine awp_skip ?_; (simp [go_sem]; try (refine ⟨by kernel_rfl, ?_⟩))) | (refine awp_exit ?_; (simp [go_sem]; try (refine ⟨by kernel_rfl, ?_⟩)))))
              simp [tokAV, hd2, List.drop_take]
        · have hki : ¬ e < l.length := by clear fin; omega
          have hf := fin (fun h => absurd h hjl)
          clear fin
          rw [hf]
          (repeat (first | refine awp_seq ?_ | refine awp_block ?_ | (refine awp_runG [0, 1, 4, 5, 6, 7, 8, 9, 15, 31, 37, 48, 58, 70, 83] hX ?_; (simp [go_sem, hki]; (try simp (disch := omega) only [w64, td, tm]); try (refine ⟨by kernel_rfl, ?_⟩))) | (refine awp_drawnG [0, 1, 4, 5, 6, 7, 8, 9, 15, 31, 37, 48, 58, 70, 83] hX mixed ?_; (simp [go_sem, hki]; (try simp (disch := omega) only [w64, td, tm]); try (refine ⟨by kernel_rfl, ?_⟩))) | (refine awp_ret ?_; (simp [go_sem, hki]; (try simp (disch := omega) only [w64, td, tm]); try (refine ⟨by kernel_rfl, ?_⟩))) | (refine awp_skip ?_; (simp [go_sem, hki]; (try simp (disch := omega) only [w64, td, tm]); try (refine ⟨by kernel_rfl, ?_⟩))) | (refine awp_exit ?_; (simp [go_sem, hki]; (try simp (disch := omega) only [w64, td, tm]); try (refine ⟨by kernel_rfl, ?_⟩)))))
          (repeat refine And.intro (by first | omega | (unfold maxLen; omega) | kernel_rfl | (refine ⟨by first | omega | (unfold maxLen; omega), by first | omega | (unfold maxLen; omega)⟩) | grind) ?_)
          first | refine callG_intro (fun hg => (show Means true Tryd.prog _ _ (bb false) by cases hg)) rfl (by simp [go_sem]) rfl ?_ | refine callGT_intro (fun hg => (show Means true Tryd.prog _ _ (bb false) by cases hg)) rfl (by simp [go_sem]) rfl ?_
          try (simp [go_sem]; try (refine ⟨by kernel_rfl, ?_⟩))
          (repeat (first | refine awp_seq ?_ | refine awp_block ?_ | (refine awp_runG [0, 1, 4, 5, 6, 7, 8, 9, 15, 31, 37, 48, 58, 70, 83] hX ?_; (simp [go_sem]; try (refine ⟨by kernel_rfl, ?_⟩))) | (refine awp_drawnG [0, 1, 4, 5, 6, 7, 8, 9, 15, 31, 37, 48, 58, 70, 83] hX mixed ?_; (simp [go_sem]; try (refine ⟨by kernel_rfl, ?_⟩))) | (refine awp_ret ?_; (simp [go_sem]; try (refine ⟨by kernel_rfl, ?_⟩))) | (refine awp_skip ?_; (simp [go_sem]; try (refine ⟨by kernel_rfl, ?_⟩))) | (refine awp_exit ?_; (simp [go_sem]; try (refine ⟨by kernel_rfl, ?_⟩)))))
          refine awp_cond (b := false) (by simp [go_sem]) (fun h => by cases h) (fun _ => ?_)
          (repeat (first | refine awp_seq ?_ | refine awp_block ?_ | (refine awp_runG [0, 1, 4, 5, 6, 7, 8, 9, 15, 31, 37, 48, 58, 70, 83] hX ?_; (simp [go_sem]; (try simp (disch := omega) only [w64, td, tm]); try (refine ⟨by kernel_rfl, ?_⟩))) | (refine awp_drawnG [0, 1, 4, 5, 6, 7, 8, 9, 15, 31, 37, 48, 58, 70, 83] hX mixed ?_; (simp [go_sem]; (try simp (disch := omega) only [w64, td, tm]); try (refine ⟨by kernel_rfl, ?_⟩))) | (refine awp_ret ?_; (simp [go_sem]; (try simp (disch := omega) only [w64, td, tm]); try (refine ⟨by kernel_rfl, ?_⟩))) | (refine awp_skip ?_; (simp [go_sem]; (try simp (disch := omega) only [w64, td, tm]); try (refine ⟨by kernel_rfl, ?_⟩))) | (refine awp_exit ?_; (simp [go_sem]; (try simp (disch := omega) only [w64, td, tm]); try (refine ⟨by kernel_rfl, ?_⟩)))))
          (repeat refine And.intro (by first | omega | (unfold maxLen; omega) | kernel_rfl | (refine ⟨by first | omega | (unfold maxLen; omega), by first | omega | (unfold maxLen; omega)⟩) | grind) ?_)
          (repeat (first | refine awp_seq ?_ | refine awp_block ?_ | (refine awp_runG [0, 1, 4, 5, 6, 7, 8, 9, 15, 31, 37, 48, 58, 70, 83] hX ?_; (simp [go_sem]; (try simp (disch := omega) only [w64, td, tm]); try (refine ⟨by kernel_rfl, ?_⟩))) | (refine awp_drawnG [0, 1, 4, 5, 6, 7, 8, 9, 15, 31, 37, 48, 58, 70, 83] hX mixed ?_; (simp [go_sem]; (try simp (disch := omega) only [w64, td, tm]); try (refine ⟨by kernel_rfl, ?_⟩))) | (refine awp_ret ?_; (simp [go_sem]; (try simp (disch := omega) only [w64, td, tm]); try (refine ⟨by kernel_rfl, ?_⟩))) | (refine awp_skip ?_; (simp [go_sem]; (try simp (disch := omega) only [w64, td, tm]); try (refine ⟨by kernel_rfl, ?_⟩))) | (refine awp_exit ?_; (simp [go_sem]; (try simp (disch := omega) only [w64, td, tm]); try (refine ⟨by kernel_rfl, ?_⟩)))))
          first | refine callK_intro (hnum) rfl (by simp [go_sem]) rfl ?_ | refine callT_intro (hnum) rfl (by simp [go_sem]) rfl ?_
          try (simp [go_sem]; try (refine ⟨by kernel_rfl, ?_⟩))
          (repeat (first | refine awp_seq ?_ | refine awp_block ?_ | (refine awp_runG [0, 1, 4, 5, 6, 7, 8, 9, 15, 31, 37, 48, 58, 70, 83] hX ?_; (simp [go_sem]; try (refine ⟨by kernel_rfl, ?_⟩))) | (refine awp_drawnG [0, 1, 4, 5, 6, 7, 8, 9, 15, 31, 37, 48, 58, 70, 83] hX mixed ?_; (simp [go_sem]; try (refine ⟨by kernel_rfl, ?_⟩))) | (refine awp_ret ?_; (simp [go_sem]; try (refine ⟨by kernel_rfl, ?_⟩))) | (refine awp_skip ?_; (simp [go_sem]; try (refine ⟨by kernel_rfl, ?_⟩))) | (refine awp_exit ?_; (simp [go_sem]; try (refine ⟨by kernel_rfl, ?_⟩)))))
          refine awp_cond (b := !isNum ((l.drop p).take (e - p))) (by simp [go_sem]) (fun hd2 => ?_) (fun hd2 => ?_)
          · simp at hd2
            (repeat (first | refine awp_seq ?_ | refine awp_block ?_ | (refine awp_runG [0, 1, 4, 5, 6, 7, 8, 9, 15, 31, 37, 48, 58, 70, 83] hX ?_; (simp [go_sem]; try (refine ⟨by kernel_rfl, ?_⟩))) | (refine awp_drawnG [0, 1, 4, 5, 6, 7, 8, 9, 15, 31, 37, 48, 58, 70, 83] hX mixed ?_; (simp [go_sem]; try (refine ⟨by kernel_rfl, ?_⟩))) | (refine awp_ret ?_; (simp [go_sem]; try (refine ⟨by kernel_rfl, ?_⟩))) | (refine awp_skip ?_; (simp [go_sem]; try (refine ⟨by kernel_rfl, ?_⟩))) | (refine awp_exit ?_; (simp [go_sem]; try (refine ⟨by kernel_rfl, ?_⟩)))))
            simp [tokAV, hd2, List.drop_take]
          · simp at hd2
            (repeat (first | refine awp_seq ?_ | refine awp_block ?_ | (refine awp_runG [0, 1, 4, 5, 6, 7, 8, 9, 15, 31, 37, 48, 58, 70, 83] hX ?_; (simp [go_sem]; try (refine ⟨by kernel_rfl, ?_⟩))) | (refine awp_drawnG [0, 1, 4, 5, 6, 7, 8, 9, 15, 31, 37, 48, 58, 70, 83] hX mixed ?_; (simp [go_sem]; try (refine ⟨by kernel_rfl, ?_⟩))) | (refine awp_ret ?_; (simp [go_sem]; try (refine ⟨by kernel_rfl, ?_⟩))) | (refine awp_skip ?_; (simp [go_sem]; try (refine ⟨by kernel_rfl, ?_⟩))) | (refine awp_exit ?_; (simp [go_sem]; try (refine ⟨by kernel_rfl, ?_⟩)))))
            (repeat refine And.intro (by first | omega | (unfold maxLen; omega) | kernel_rfl | (refine ⟨by first | omega | (unfold maxLen; omega), by first | omega | (unfold maxLen; omega)⟩) | grind) ?_)
            (repeat (first | refine awp_seq ?_ | refine awp_block ?_ | (refine awp_runG [0, 1, 4, 5, 6, 7, 8, 9, 15, 31, 37, 48, 58, 70, 83] hX ?_; (simp [go_sem]; try (refine ⟨by kernel_rfl, ?_⟩))) | (refine awp_drawnG [0, 1, 4, 5, 6, 7, 8, 9, 15, 31, 37, 48, 58, 70, 83] hX mixed ?_; (simp [go_sem]; try (refine ⟨by kernel_rfl, ?_⟩))) | (refine awp_ret ?_; (simp [go_sem]; try (refine ⟨by kernel_rfl, ?_⟩))) | (refine awp_skip ?_; (simp [go_sem]; try (refine ⟨by kernel_rfl, ?_⟩))) | (refine awp_exit ?_; (simp [go_sem]; try (refine ⟨by kernel_rfl, ?_⟩)))))
            simp [tokAV, hd2, List.drop_take]
    · (repeat (first | refine awp_seq ?_ | refine awp_block ?_ | (refine awp_runG [0, 1, 4, 5, 6, 7, 8, 9, 15, 31, 37, 48, 58, 70, 83] hX ?_; (simp [go_sem]; try (refine ⟨by kernel_rfl, ?_⟩))) | (refine awp_drawnG [0, 1, 4, 5, 6, 7, 8, 9, 15, 31, 37, 48, 58, 70, 83] hX mixed ?_; (simp [go_sem]; try (refine ⟨by kernel_rfl, ?_⟩))) | (refine awp_ret ?_; (simp [go_sem]; try (refine ⟨by kernel_rfl, ?_⟩))) | (refine awp_skip ?_; (simp [go_sem]; try (refine ⟨by kernel_rfl, ?_⟩))) | (refine awp_exit ?_; (simp [go_sem]; try (refine ⟨by kernel_rfl, ?_⟩)))))
      have hts := tok_sign (r := l.drop (p + 1)) hlt hdt
      rw [← hd] at hts
      first | refine callK_intro (hsg) rfl (by simp [go_sem]) rfl ?_ | refine callT_intro (hsg) rfl (by simp [go_sem]) rfl ?_
      try (simp [go_sem]; try (refine ⟨by kernel_rfl, ?_⟩))
      (repeat (first | refine awp_seq ?_ | refine awp_block ?_ | (refine awp_runG [0, 1, 4, 5, 6, 7, 8, 9, 15, 31, 37, 48, 58, 70, 83] hX ?_; (simp [go_sem]; try (refine ⟨by kernel_rfl, ?_⟩))) | (refine awp_drawnG [0, 1, 4, 5, 6, 7, 8, 9, 15, 31, 37, 48, 58, 70, 83] hX mixed ?_; (simp [go_sem]; try (refine ⟨by kernel_rfl, ?_⟩))) | (refine awp_ret ?_; (simp [go_sem]; try (refine ⟨by kernel_rfl, ?_⟩))) | (refine awp_skip ?_; (simp [go_sem]; try (refine ⟨by kernel_rfl, ?_⟩))) | (refine awp_exit ?_; (simp [go_sem]; try (refine ⟨by kernel_rfl, ?_⟩)))))
      refine awp_cond (b := decide (signLen (l.drop p) = 0)) (by simp [go_sem]) (fun hd2 => ?_) (fun hd2 => ?_)
      · simp only [decide_eq_true_eq] at hd2
        (repeat (first | refine awp_seq ?_ | refine awp_block ?_ | (refine awp_runG [0, 1, 4, 5, 6, 7, 8, 9, 15, 31, 37, 48, 58, 70, 83] hX ?_; (simp [go_sem]; try (refine ⟨by kernel_rfl, ?_⟩))) | (refine awp_drawnG [0, 1, 4, 5, 6, 7, 8, 9, 15, 31, 37, 48, 58, 70, 83] hX mixed ?_; (simp [go_sem]; try (refine ⟨by kernel_rfl, ?_⟩))) | (refine awp_ret ?_; (simp [go_sem]; try (refine ⟨by kernel_rfl, ?_⟩))) | (refine awp_skip ?_; (simp [go_sem]; try (refine ⟨by kernel_rfl, ?_⟩))) | (refine awp_exit ?_; (simp [go_sem]; try (refine ⟨by kernel_rfl, ?_⟩)))))
        rw [hts, if_pos hd2]
        simp [tokAV]
      · simp only [decide_eq_false_iff_not] at hd2
        have hle : p + signLen (l.drop p) ≤ l.length := by
          rw [hd] at hd2 ⊢
          simp only [signLen] at hd2 ⊢
          split
          · rename_i h
            simp only [Bool.and_eq_true, beq_iff_eq] at h
            have h3 := h.2
            cases hr : l.drop (p + 1) with
            | nil => rw [hr] at h3; simp at h3
            | cons d r => have := congrArg List.length hr; simp only [List.length_drop, List.length_cons] at this; omega
          · split <;> omega
        rw [hts, if_neg hd2]
        generalize signLen (l.drop p) = q at *
        (repeat (first | refine awp_seq ?_ | refine awp_block ?_ | (refine awp_runG [0, 1, 4, 5, 6, 7, 8, 9, 15, 31, 37, 48, 58, 70, 83] hX ?_; (simp [go_sem]; (try simp (disch := omega) only [w64, td, tm]); try (refine ⟨by kernel_rfl, ?_⟩))) | (refine awp_drawnG [0, 1, 4, 5, 6, 7, 8, 9, 15, 31, 37, 48, 58, 70, 83] hX mixed ?_; (simp [go_sem]; (try simp (disch := omega) only [w64, td, tm]); try (refine ⟨by kernel_rfl, ?_⟩))) | (refine awp_ret ?_; (simp [go_sem]; (try simp (disch := omega) only [w64, td, tm]); try (refine ⟨by kernel_rfl, ?_⟩))) | (refine awp_skip ?_; (simp [go_sem]; (try simp (disch := omega) only [w64, td, tm]); try (refine ⟨by kernel_rfl, ?_⟩))) | (refine awp_exit ?_; (simp [go_sem]; (try simp (disch := omega) only [w64, td, tm]); try (refine ⟨by kernel_rfl, ?_⟩)))))
        (repeat refine And.intro (by first | omega | (unfold maxLen; omega) | kernel_rfl | (refine ⟨by first | omega | (unfold maxLen; omega), by first | omega | (unfold maxLen; omega)⟩) | grind) ?_)
        (repeat (first | refine awp_seq ?_ | refine awp_block ?_ | (refine awp_runG [0, 1, 4, 5, 6, 7, 8, 9, 15, 31, 37, 48, 58, 70, 83] hX ?_; (simp [go_sem]; (try simp (disch := omega) only [w64, td, tm]); try (refine ⟨by kernel_rfl, ?_⟩))) | (refine awp_drawnG [0, 1, 4, 5, 6, 7, 8, 9, 15, 31, 37, 48, 58, 70, 83] hX mixed ?_; (simp [go_sem]; (try simp (disch := omega) only [w64, td, tm]); try (refine ⟨by kernel_rfl, ?_⟩))) | (refine awp_ret ?_; (simp [go_sem]; (try simp (disch := omega) only [w64, td, tm]); try (refine ⟨by kernel_rfl, ?_⟩))) | (refine awp_skip ?_; (simp [go_sem]; (try simp (disch := omega) only [w64, td, tm]); try (refine ⟨by kernel_rfl, ?_⟩))) | (refine awp_exit ?_; (simp [go_sem]; (try simp (disch := omega) only [w64, td, tm]); try (refine ⟨by kernel_rfl, ?_⟩)))))
        simp [tokAV]
        rw [show ((p : Int) + q).toNat = p + q by omega, List.drop_take, Nat.add_sub_cancel_left]

end Go.Proofs.YtgkafceckdoabaaDoor
