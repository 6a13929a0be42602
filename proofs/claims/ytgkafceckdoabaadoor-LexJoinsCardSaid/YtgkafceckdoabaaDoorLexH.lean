/-
  The walks of layer 14: the reference's splitting; lists; texts.
-/
import Derived.Test.YtgkafceckdoabaaDoorLexG
import Derived.Test.YtgkafceckdoabaaDoorAbsLib
import Derived.Test.YtgkafceckdoabaaDoorShelf
set_option linter.all false
namespace Go.Proofs.YtgkafceckdoabaaDoor
open Go.RowKit Go.Ab
attribute [local irreducible] AWP Go.Ab.Sub Means MeansH CallK CallG CallT CallGT

set_option maxHeartbeats 2000000 in
set_option maxRecDepth 20000 in
theorem rlex_m (l : By) : Means true Tryd.prog 12 [ss l] (lexAV l) := by
  refine means_fn true 47 [.tmp 2, .tmp 3, .tmp 4] Tryd.func12 rfl rfl rfl (by simp) (by decide) rfl fun X hX => ?_
  (repeat (first | refine awp_seq ?_ | refine awp_block ?_ | (refine awp_runG [0, 2, 3, 4, 5, 6, 7, 8, 11, 15, 19, 29] hX ?_; (simp [go_sem]; try (refine ⟨by kernel_rfl, ?_⟩))) | (refine awp_drawnG [0, 2, 3, 4, 5, 6, 7, 8, 11, 15, 19, 29] hX mixed ?_; (simp [go_sem]; try (refine ⟨by kernel_rfl, ?_⟩))) | (refine awp_ret ?_; (simp [go_sem]; try (refine ⟨by kernel_rfl, ?_⟩))) | (refine awp_skip ?_; (simp [go_sem]; try (refine ⟨by kernel_rfl, ?_⟩))) | (refine awp_exit ?_; (simp [go_sem]; try (refine ⟨by kernel_rfl, ?_⟩)))))
  refine awp_cond (b := decide (2000 < l.length)) (by simp [go_sem]; try omega) (fun hb => ?_) (fun hb => ?_)
  · (repeat (first | refine awp_seq ?_ | refine awp_block ?_ | (refine awp_runG [0, 2, 3, 4, 5, 6, 7, 8, 11, 15, 19, 29] hX ?_; (simp [go_sem]; try (refine ⟨by kernel_rfl, ?_⟩))) | (refine awp_drawnG [0, 2, 3, 4, 5, 6, 7, 8, 11, 15, 19, 29] hX mixed ?_; (simp [go_sem]; try (refine ⟨by kernel_rfl, ?_⟩))) | (refine awp_ret ?_; (simp [go_sem]; try (refine ⟨by kernel_rfl, ?_⟩))) | (refine awp_skip ?_; (simp [go_sem]; try (refine ⟨by kernel_rfl, ?_⟩))) | (refine awp_exit ?_; (simp [go_sem]; try (refine ⟨by kernel_rfl, ?_⟩)))))
    simp at hb
    simp [lexAV, hb]
  · simp at hb
    (repeat (first | refine awp_seq ?_ | refine awp_block ?_ | (refine awp_runG [0, 2, 3, 4, 5, 6, 7, 8, 11, 15, 19, 29] hX ?_; (simp [go_sem]; try (refine ⟨by kernel_rfl, ?_⟩))) | (refine awp_drawnG [0, 2, 3, 4, 5, 6, 7, 8, 11, 15, 19, 29] hX mixed ?_; (simp [go_sem]; try (refine ⟨by kernel_rfl, ?_⟩))) | (refine awp_ret ?_; (simp [go_sem]; try (refine ⟨by kernel_rfl, ?_⟩))) | (refine awp_skip ?_; (simp [go_sem]; try (refine ⟨by kernel_rfl, ?_⟩))) | (refine awp_exit ?_; (simp [go_sem]; try (refine ⟨by kernel_rfl, ?_⟩)))))
    refine awp_loop (fun x : Nat × List Tk => ⟨mkE [(0, ss l), (5, .ow 0), (6, ii x.1)], [.row ⟨25, 4, x.2.map tk⟩]⟩) (fun x => x.1 ≤ l.length ∧ x.2.length ≤ x.1 ∧ lexA l 0 = (lexA (l.drop x.1) x.1).pre x.2) (fun x => l.length - x.1) (0, []) ?_ ?_ ?_
    · refine sub_of _ [.birth 25 4] (by simp [go_sem]) ?_
      simp [go_sem]
    · refine ⟨by simp, by simp, ?_⟩
      simp only [List.drop_zero]
      cases lexA l 0 <;> simp [Lx.pre]
    · rintro ⟨p, ts⟩ ⟨hp, hts, hI⟩
      simp only [] at hp hts hI
      (repeat (first | refine awp_seq ?_ | refine awp_block ?_ | (refine awp_runG [0, 2, 3, 4, 5, 6, 7, 8, 11, 15, 19, 29] hX ?_; (simp [go_sem]; try (refine ⟨by kernel_rfl, ?_⟩))) | (refine awp_drawnG [0, 2, 3, 4, 5, 6, 7, 8, 11, 15, 19, 29] hX mixed ?_; (simp [go_sem]; try (refine ⟨by kernel_rfl, ?_⟩))) | (refine awp_ret ?_; (simp [go_sem]; try (refine ⟨by kernel_rfl, ?_⟩))) | (refine awp_skip ?_; (simp [go_sem]; try (refine ⟨by kernel_rfl, ?_⟩))) | (refine awp_exit ?_; (simp [go_sem]; try (refine ⟨by kernel_rfl, ?_⟩)))))
      refine awp_cond (b := decide (p < l.length)) (by simp [go_sem]) (fun hc => ?_) (fun hc => ?_)
      · simp at hc
        have hd := getAt hc
        (repeat (first | refine awp_seq ?_ | refine awp_block ?_ | (refine awp_runG [0, 2, 3, 4, 5, 6, 7, 8, 11, 15, 19, 29] hX ?_; (simp [go_sem, hc]; try (refine ⟨by kernel_rfl, ?_⟩))) | (refine awp_drawnG [0, 2, 3, 4, 5, 6, 7, 8, 11, 15, 19, 29] hX mixed ?_; (simp [go_sem, hc]; try (refine ⟨by kernel_rfl, ?_⟩))) | (refine awp_ret ?_; (simp [go_sem, hc]; try (refine ⟨by kernel_rfl, ?_⟩))) | (refine awp_skip ?_; (simp [go_sem, hc]; try (refine ⟨by kernel_rfl, ?_⟩))) | (refine awp_exit ?_; (simp [go_sem, hc]; try (refine ⟨by kernel_rfl, ?_⟩)))))
        first | refine callK_intro (rblank_m l[p]) rfl (by simp [go_sem]) rfl ?_ | refine callT_intro (rblank_m l[p]) rfl (by simp [go_sem]) rfl ?_
        try (simp [go_sem]; try (refine ⟨by kernel_rfl, ?_⟩))
        (repeat (first | refine awp_seq ?_ | refine awp_block ?_ | (refine awp_runG [0, 2, 3, 4, 5, 6, 7, 8, 11, 15, 19, 29] hX ?_; (simp [go_sem]; try (refine ⟨by kernel_rfl, ?_⟩))) | (refine awp_drawnG [0, 2, 3, 4, 5, 6, 7, 8, 11, 15, 19, 29] hX mixed ?_; (simp [go_sem]; try (refine ⟨by kernel_rfl, ?_⟩))) | (refine awp_ret ?_; (simp [go_sem]; try (refine ⟨by kernel_rfl, ?_⟩))) | (refine awp_skip ?_; (simp [go_sem]; try (refine ⟨by kernel_rfl, ?_⟩))) | (refine awp_exit ?_; (simp [go_sem]; try (refine ⟨by kernel_rfl, ?_⟩)))))
        refine awp_cond (b := isBlank l[p]) (by simp [go_sem]) (fun hbl => ?_) (fun hbl => ?_)
        · rw [hd, lexA_blank hbl] at hI
          (repeat (first | refine awp_seq ?_ | refine awp_block ?_ | (refine awp_runG [0, 2, 3, 4, 5, 6, 7, 8, 11, 15, 19, 29] hX ?_; (simp [go_sem]; (try simp (disch := omega) only [w64, td, tm]); try (refine ⟨by kernel_rfl, ?_⟩))) | (refine awp_drawnG [0, 2, 3, 4, 5, 6, 7, 8, 11, 15, 19, 29] hX mixed ?_; (simp [go_sem]; (try simp (disch := omega) only [w64, td, tm]); try (refine ⟨by kernel_rfl, ?_⟩))) | (refine awp_ret ?_; (simp [go_sem]; (try simp (disch := omega) only [w64, td, tm]); try (refine ⟨by kernel_rfl, ?_⟩))) | (refine awp_skip ?_; (simp [go_sem]; (try simp (disch := omega) only [w64, td, tm]); try (refine ⟨by kernel_rfl, ?_⟩))) | (refine awp_exit ?_; (simp [go_sem]; (try simp (disch := omega) only [w64, td, tm]); try (refine ⟨by kernel_rfl, ?_⟩)))))
          refine ⟨p + 1, ts, ⟨by omega, by omega, hI⟩, by omega, ?_⟩
          refine sub_of _ [.old 0 ⟨25, 4, ts.map tk⟩] (by simp [go_sem]) ?_
          simp [go_sem]
        · have hn := token_m l p hc (by omega)
          rw [hd] at hI hn
          (repeat (first | refine awp_seq ?_ | refine awp_block ?_ | (refine awp_runG [0, 2, 3, 4, 5, 6, 7, 8, 11, 15, 19, 29] hX ?_; (simp [go_sem]; try (refine ⟨by kernel_rfl, ?_⟩))) | (refine awp_drawnG [0, 2, 3, 4, 5, 6, 7, 8, 11, 15, 19, 29] hX mixed ?_; (simp [go_sem]; try (refine ⟨by kernel_rfl, ?_⟩))) | (refine awp_ret ?_; (simp [go_sem]; try (refine ⟨by kernel_rfl, ?_⟩))) | (refine awp_skip ?_; (simp [go_sem]; try (refine ⟨by kernel_rfl, ?_⟩))) | (refine awp_exit ?_; (simp [go_sem]; try (refine ⟨by kernel_rfl, ?_⟩)))))
          cases ht : tok (l[p] :: l.drop (p + 1)) with
          | err e =>
            rw [ht] at hn
            have he : e ≠ 0 := by rcases tok_errs ht with h | h | h <;> omega
            have hr : lexA l 0 = .err p e := by rw [hI, lexA_err hbl ht]; rfl
            rw [lexAV_err hb hr]
            first | refine callK_intro (hn) rfl (by simp [go_sem]) rfl ?_ | refine callT_intro (hn) rfl (by simp [go_sem]) rfl ?_
            try (simp [go_sem, tokAV]; try (refine ⟨by kernel_rfl, ?_⟩))
            (repeat (first | refine awp_seq ?_ | refine awp_block ?_ | (refine awp_runG [0, 2, 3, 4, 5, 6, 7, 8, 11, 15, 19, 29] hX ?_; (simp [go_sem]; try (refine ⟨by kernel_rfl, ?_⟩))) | (refine awp_drawnG [0, 2, 3, 4, 5, 6, 7, 8, 11, 15, 19, 29] hX mixed ?_; (simp [go_sem]; try (refine ⟨by kernel_rfl, ?_⟩))) | (refine awp_ret ?_; (simp [go_sem]; try (refine ⟨by kernel_rfl, ?_⟩))) | (refine awp_skip ?_; (simp [go_sem]; try (refine ⟨by kernel_rfl, ?_⟩))) | (refine awp_exit ?_; (simp [go_sem]; try (refine ⟨by kernel_rfl, ?_⟩)))))
            refine awp_cond (b := true) (by simp [go_sem, he]) (fun _ => ?_) (fun h => by cases h)
            (repeat (first | refine awp_seq ?_ | refine awp_block ?_ | (refine awp_runG [0, 2, 3, 4, 5, 6, 7, 8, 11, 15, 19, 29] hX ?_; (simp [go_sem]; try (refine ⟨by kernel_rfl, ?_⟩))) | (refine awp_drawnG [0, 2, 3, 4, 5, 6, 7, 8, 11, 15, 19, 29] hX mixed ?_; (simp [go_sem]; try (refine ⟨by kernel_rfl, ?_⟩))) | (refine awp_ret ?_; (simp [go_sem]; try (refine ⟨by kernel_rfl, ?_⟩))) | (refine awp_skip ?_; (simp [go_sem]; try (refine ⟨by kernel_rfl, ?_⟩))) | (refine awp_exit ?_; (simp [go_sem]; try (refine ⟨by kernel_rfl, ?_⟩)))))
          | ok k t n =>
            rw [ht] at hn
            obtain ⟨t1, t2, t3⟩ := tok_len ht
            rw [← hd, List.length_drop] at t2
            rw [lexA_ok hbl ht, ← hd, List.drop_drop] at hI
            first | refine callK_intro (hn) rfl (by simp [go_sem]) rfl ?_ | refine callT_intro (hn) rfl (by simp [go_sem]) rfl ?_
            try (simp [go_sem, tokAV]; try (refine ⟨by kernel_rfl, ?_⟩))
            (repeat (first | refine awp_seq ?_ | refine awp_block ?_ | (refine awp_runG [0, 2, 3, 4, 5, 6, 7, 8, 11, 15, 19, 29] hX ?_; (simp [go_sem]; try (refine ⟨by kernel_rfl, ?_⟩))) | (refine awp_drawnG [0, 2, 3, 4, 5, 6, 7, 8, 11, 15, 19, 29] hX mixed ?_; (simp [go_sem]; try (refine ⟨by kernel_rfl, ?_⟩))) | (refine awp_ret ?_; (simp [go_sem]; try (refine ⟨by kernel_rfl, ?_⟩))) | (refine awp_skip ?_; (simp [go_sem]; try (refine ⟨by kernel_rfl, ?_⟩))) | (refine awp_exit ?_; (simp [go_sem]; try (refine ⟨by kernel_rfl, ?_⟩)))))
            refine awp_cond (b := false) (by simp [go_sem]) (fun h => by cases h) (fun _ => ?_)
            (repeat (first | refine awp_seq ?_ | refine awp_block ?_ | (refine awp_runG [0, 2, 3, 4, 5, 6, 7, 8, 11, 15, 19, 29] hX ?_; (simp [go_sem]; try (refine ⟨by kernel_rfl, ?_⟩))) | (refine awp_drawnG [0, 2, 3, 4, 5, 6, 7, 8, 11, 15, 19, 29] hX mixed ?_; (simp [go_sem]; try (refine ⟨by kernel_rfl, ?_⟩))) | (refine awp_ret ?_; (simp [go_sem]; try (refine ⟨by kernel_rfl, ?_⟩))) | (refine awp_skip ?_; (simp [go_sem]; try (refine ⟨by kernel_rfl, ?_⟩))) | (refine awp_exit ?_; (simp [go_sem]; try (refine ⟨by kernel_rfl, ?_⟩)))))
            (repeat refine And.intro (by first | omega | (unfold maxLen; omega) | kernel_rfl | (refine ⟨by first | omega | (unfold maxLen; omega), by first | omega | (unfold maxLen; omega)⟩) | grind) ?_)
            (repeat (first | refine awp_seq ?_ | refine awp_block ?_ | (refine awp_runG [0, 2, 3, 4, 5, 6, 7, 8, 11, 15, 19, 29] hX ?_; (simp [go_sem]; (try simp (disch := omega) only [w64, td, tm]); try (refine ⟨by kernel_rfl, ?_⟩))) | (refine awp_drawnG [0, 2, 3, 4, 5, 6, 7, 8, 11, 15, 19, 29] hX mixed ?_; (simp [go_sem]; (try simp (disch := omega) only [w64, td, tm]); try (refine ⟨by kernel_rfl, ?_⟩))) | (refine awp_ret ?_; (simp [go_sem]; (try simp (disch := omega) only [w64, td, tm]); try (refine ⟨by kernel_rfl, ?_⟩))) | (refine awp_skip ?_; (simp [go_sem]; (try simp (disch := omega) only [w64, td, tm]); try (refine ⟨by kernel_rfl, ?_⟩))) | (refine awp_exit ?_; (simp [go_sem]; (try simp (disch := omega) only [w64, td, tm]); try (refine ⟨by kernel_rfl, ?_⟩)))))
            refine ⟨p + t.length, ts ++ [⟨k, t, n, p⟩], ⟨by omega, by simp; omega, ?_⟩, by omega, ?_⟩
            · rw [hI]
              cases lexA (l.drop (p + t.length)) (p + t.length) <;> simp [Lx.cons, Lx.pre]
            · refine sub_of _ [.old 3 ⟨25, 4, (ts ++ [(⟨k, t, n, p⟩ : Tk)]).map tk⟩] (by simp [go_sem]) ?_
              simp [go_sem]
      · have hkl : p = l.length := by simp at hc; omega
        subst hkl
        rw [List.drop_length, lexA_nil] at hI
        have hr : lexA l 0 = .ok (ts ++ [⟨0, [], 0, l.length⟩]) := hI
        rw [lexAV_ok hb hr]
        (repeat (first | refine awp_seq ?_ | refine awp_block ?_ | (refine awp_runG [0, 2, 3, 4, 5, 6, 7, 8, 11, 15, 19, 29] hX ?_; (simp [go_sem]; try (refine ⟨by kernel_rfl, ?_⟩))) | (refine awp_drawnG [0, 2, 3, 4, 5, 6, 7, 8, 11, 15, 19, 29] hX mixed ?_; (simp [go_sem]; try (refine ⟨by kernel_rfl, ?_⟩))) | (refine awp_ret ?_; (simp [go_sem]; try (refine ⟨by kernel_rfl, ?_⟩))) | (refine awp_skip ?_; (simp [go_sem]; try (refine ⟨by kernel_rfl, ?_⟩))) | (refine awp_exit ?_; (simp [go_sem]; try (refine ⟨by kernel_rfl, ?_⟩)))))
        (repeat refine And.intro (by first | omega | (unfold maxLen; omega) | kernel_rfl | (refine ⟨by first | omega | (unfold maxLen; omega), by first | omega | (unfold maxLen; omega)⟩) | grind) ?_)
        (repeat (first | refine awp_seq ?_ | refine awp_block ?_ | (refine awp_runG [0, 2, 3, 4, 5, 6, 7, 8, 11, 15, 19, 29] hX ?_; (simp [go_sem]; try (refine ⟨by kernel_rfl, ?_⟩))) | (refine awp_drawnG [0, 2, 3, 4, 5, 6, 7, 8, 11, 15, 19, 29] hX mixed ?_; (simp [go_sem]; try (refine ⟨by kernel_rfl, ?_⟩))) | (refine awp_ret ?_; (simp [go_sem]; try (refine ⟨by kernel_rfl, ?_⟩))) | (refine awp_skip ?_; (simp [go_sem]; try (refine ⟨by kernel_rfl, ?_⟩))) | (refine awp_exit ?_; (simp [go_sem]; try (refine ⟨by kernel_rfl, ?_⟩)))))

theorem Tk.core_iff (a b : Tk) : a.core = b.core ↔ a.kind = b.kind ∧ a.text = b.text ∧ a.n = b.n := by cases a; cases b; simp [Tk.core]
set_option maxHeartbeats 400000 in
theorem same_m (A C : List Tk) (hl : A.length ≤ 9223372036854775807) : Means true Tryd.prog 15 [.sl (A.map tk), .sl (C.map tk)] (bb (decide (A = C))) := by
  refine means_fn true 26 [.tmp 4] Tryd.func15 rfl rfl rfl (by simp) (by decide) rfl fun X hX => ?_
  (repeat (first | refine awp_seq ?_ | refine awp_block ?_ | (refine awp_runG [0, 1, 4, 5, 10, 14, 25] hX ?_; (simp [go_sem]; try (refine ⟨by kernel_rfl, ?_⟩))) | (refine awp_drawnG [0, 1, 4, 5, 10, 14, 25] hX mixed ?_; (simp [go_sem]; try (refine ⟨by kernel_rfl, ?_⟩))) | (refine awp_ret ?_; (simp [go_sem]; try (refine ⟨by kernel_rfl, ?_⟩))) | (refine awp_skip ?_; (simp [go_sem]; try (refine ⟨by kernel_rfl, ?_⟩))) | (refine awp_exit ?_; (simp [go_sem]; try (refine ⟨by kernel_rfl, ?_⟩)))))
  refine awp_cond (b := !decide ((A.length : Int) = C.length)) (by simp [go_sem]) (fun hb => ?_) (fun hb => ?_)
  · simp at hb
    (repeat (first | refine awp_seq ?_ | refine awp_block ?_ | (refine awp_runG [0, 1, 4, 5, 10, 14, 25] hX ?_; (simp [go_sem]; try (refine ⟨by kernel_rfl, ?_⟩))) | (refine awp_drawnG [0, 1, 4, 5, 10, 14, 25] hX mixed ?_; (simp [go_sem]; try (refine ⟨by kernel_rfl, ?_⟩))) | (refine awp_ret ?_; (simp [go_sem]; try (refine ⟨by kernel_rfl, ?_⟩))) | (refine awp_skip ?_; (simp [go_sem]; try (refine ⟨by kernel_rfl, ?_⟩))) | (refine awp_exit ?_; (simp [go_sem]; try (refine ⟨by kernel_rfl, ?_⟩)))))
    have : A ≠ C := by rintro rfl; exact hb rfl
    simp [this]
  · simp at hb
    have hb : A.length = C.length := by omega
    (repeat (first | refine awp_seq ?_ | refine awp_block ?_ | (refine awp_runG [0, 1, 4, 5, 10, 14, 25] hX ?_; (simp [go_sem]; try (refine ⟨by kernel_rfl, ?_⟩))) | (refine awp_drawnG [0, 1, 4, 5, 10, 14, 25] hX mixed ?_; (simp [go_sem]; try (refine ⟨by kernel_rfl, ?_⟩))) | (refine awp_ret ?_; (simp [go_sem]; try (refine ⟨by kernel_rfl, ?_⟩))) | (refine awp_skip ?_; (simp [go_sem]; try (refine ⟨by kernel_rfl, ?_⟩))) | (refine awp_exit ?_; (simp [go_sem]; try (refine ⟨by kernel_rfl, ?_⟩)))))
    refine awp_loop (fun k : Nat => ⟨mkE [(0, .sl (A.map tk)), (1, .sl (C.map tk)), (4, bb false), (5, ii k)], []⟩) (fun k => k ≤ A.length ∧ A.take k = C.take k) (fun k => A.length - k) 0 ?_ ?_ ?_
    · refine sub_of _ [] (by simp [go_sem]) ?_
      simp [go_sem]
    · simp
    · rintro k ⟨hk, hn⟩
      (repeat (first | refine awp_seq ?_ | refine awp_block ?_ | (refine awp_runG [0, 1, 4, 5, 10, 14, 25] hX ?_; (simp [go_sem]; try (refine ⟨by kernel_rfl, ?_⟩))) | (refine awp_drawnG [0, 1, 4, 5, 10, 14, 25] hX mixed ?_; (simp [go_sem]; try (refine ⟨by kernel_rfl, ?_⟩))) | (refine awp_ret ?_; (simp [go_sem]; try (refine ⟨by kernel_rfl, ?_⟩))) | (refine awp_skip ?_; (simp [go_sem]; try (refine ⟨by kernel_rfl, ?_⟩))) | (refine awp_exit ?_; (simp [go_sem]; try (refine ⟨by kernel_rfl, ?_⟩)))))
      refine awp_cond (b := decide (k < A.length)) (by simp [go_sem]) (fun hc => ?_) (fun hc => ?_)
      · simp at hc
        have hc' : k < C.length := by omega
        (repeat (first | refine awp_seq ?_ | refine awp_block ?_ | (refine awp_runG [0, 1, 4, 5, 10, 14, 25] hX ?_; (simp [go_sem, hc, hc']; try (refine ⟨by kernel_rfl, ?_⟩))) | (refine awp_drawnG [0, 1, 4, 5, 10, 14, 25] hX mixed ?_; (simp [go_sem, hc, hc']; try (refine ⟨by kernel_rfl, ?_⟩))) | (refine awp_ret ?_; (simp [go_sem, hc, hc']; try (refine ⟨by kernel_rfl, ?_⟩))) | (refine awp_skip ?_; (simp [go_sem, hc, hc']; try (refine ⟨by kernel_rfl, ?_⟩))) | (refine awp_exit ?_; (simp [go_sem, hc, hc']; try (refine ⟨by kernel_rfl, ?_⟩)))))
        refine awp_cond (b := !decide (A[k] = C[k])) (by simp [go_sem, Tk.eq_iff]) (fun hd => ?_) (fun hd => ?_)
        · simp at hd
          (repeat (first | refine awp_seq ?_ | refine awp_block ?_ | (refine awp_runG [0, 1, 4, 5, 10, 14, 25] hX ?_; (simp [go_sem]; try (refine ⟨by kernel_rfl, ?_⟩))) | (refine awp_drawnG [0, 1, 4, 5, 10, 14, 25] hX mixed ?_; (simp [go_sem]; try (refine ⟨by kernel_rfl, ?_⟩))) | (refine awp_ret ?_; (simp [go_sem]; try (refine ⟨by kernel_rfl, ?_⟩))) | (refine awp_skip ?_; (simp [go_sem]; try (refine ⟨by kernel_rfl, ?_⟩))) | (refine awp_exit ?_; (simp [go_sem]; try (refine ⟨by kernel_rfl, ?_⟩)))))
          have : A ≠ C := by rintro rfl; exact hd rfl
          simp [this]
        · simp at hd
          (repeat (first | refine awp_seq ?_ | refine awp_block ?_ | (refine awp_runG [0, 1, 4, 5, 10, 14, 25] hX ?_; (simp [go_sem]; (try simp (disch := omega) only [w64, td, tm]); try (refine ⟨by kernel_rfl, ?_⟩))) | (refine awp_drawnG [0, 1, 4, 5, 10, 14, 25] hX mixed ?_; (simp [go_sem]; (try simp (disch := omega) only [w64, td, tm]); try (refine ⟨by kernel_rfl, ?_⟩))) | (refine awp_ret ?_; (simp [go_sem]; (try simp (disch := omega) only [w64, td, tm]); try (refine ⟨by kernel_rfl, ?_⟩))) | (refine awp_skip ?_; (simp [go_sem]; (try simp (disch := omega) only [w64, td, tm]); try (refine ⟨by kernel_rfl, ?_⟩))) | (refine awp_exit ?_; (simp [go_sem]; (try simp (disch := omega) only [w64, td, tm]); try (refine ⟨by kernel_rfl, ?_⟩)))))
          refine ⟨k + 1, ⟨by omega, by rw [List.take_succ_eq_append_getElem hc, List.take_succ_eq_append_getElem hc', hn, hd]⟩, by omega, ?_⟩
          refine sub_of _ [] (by simp [go_sem]) ?_
          simp [go_sem]
      · simp at hc
        (repeat (first | refine awp_seq ?_ | refine awp_block ?_ | (refine awp_runG [0, 1, 4, 5, 10, 14, 25] hX ?_; (simp [go_sem]; try (refine ⟨by kernel_rfl, ?_⟩))) | (refine awp_drawnG [0, 1, 4, 5, 10, 14, 25] hX mixed ?_; (simp [go_sem]; try (refine ⟨by kernel_rfl, ?_⟩))) | (refine awp_ret ?_; (simp [go_sem]; try (refine ⟨by kernel_rfl, ?_⟩))) | (refine awp_skip ?_; (simp [go_sem]; try (refine ⟨by kernel_rfl, ?_⟩))) | (refine awp_exit ?_; (simp [go_sem]; try (refine ⟨by kernel_rfl, ?_⟩)))))
        have : k = A.length := by omega
        subst this
        rw [List.take_length, hb, List.take_length] at hn
        simp [hn]

set_option maxHeartbeats 400000 in
set_option maxRecDepth 20000 in
theorem like_m (A C : List Tk) (hl : A.length ≤ 9223372036854775807) : Means true Tryd.prog 20 [.sl (A.map tk), .sl (C.map tk)] (bb (decide (A.map Tk.core = C.map Tk.core))) := by
  refine means_fn true 54 [.tmp 4] Tryd.func20 rfl rfl rfl (by simp) (by decide) rfl fun X hX => ?_
  (repeat (first | refine awp_seq ?_ | refine awp_block ?_ | (refine awp_runG [0, 1, 4, 5, 10, 14, 53] hX ?_; (simp [go_sem]; try (refine ⟨by kernel_rfl, ?_⟩))) | (refine awp_drawnG [0, 1, 4, 5, 10, 14, 53] hX mixed ?_; (simp [go_sem]; try (refine ⟨by kernel_rfl, ?_⟩))) | (refine awp_ret ?_; (simp [go_sem]; try (refine ⟨by kernel_rfl, ?_⟩))) | (refine awp_skip ?_; (simp [go_sem]; try (refine ⟨by kernel_rfl, ?_⟩))) | (refine awp_exit ?_; (simp [go_sem]; try (refine ⟨by kernel_rfl, ?_⟩)))))
  refine awp_cond (b := !decide ((A.length : Int) = C.length)) (by simp [go_sem]) (fun hb => ?_) (fun hb => ?_)
  · simp at hb
    (repeat (first | refine awp_seq ?_ | refine awp_block ?_ | (refine awp_runG [0, 1, 4, 5, 10, 14, 53] hX ?_; (simp [go_sem]; try (refine ⟨by kernel_rfl, ?_⟩))) | (refine awp_drawnG [0, 1, 4, 5, 10, 14, 53] hX mixed ?_; (simp [go_sem]; try (refine ⟨by kernel_rfl, ?_⟩))) | (refine awp_ret ?_; (simp [go_sem]; try (refine ⟨by kernel_rfl, ?_⟩))) | (refine awp_skip ?_; (simp [go_sem]; try (refine ⟨by kernel_rfl, ?_⟩))) | (refine awp_exit ?_; (simp [go_sem]; try (refine ⟨by kernel_rfl, ?_⟩)))))
    have : A.map Tk.core ≠ C.map Tk.core := fun h => hb (by have := congrArg List.length h; simp at this; omega)
    simp [this]
  · simp at hb
    have hb : A.length = C.length := by omega
    (repeat (first | refine awp_seq ?_ | refine awp_block ?_ | (refine awp_runG [0, 1, 4, 5, 10, 14, 53] hX ?_; (simp [go_sem]; try (refine ⟨by kernel_rfl, ?_⟩))) | (refine awp_drawnG [0, 1, 4, 5, 10, 14, 53] hX mixed ?_; (simp [go_sem]; try (refine ⟨by kernel_rfl, ?_⟩))) | (refine awp_ret ?_; (simp [go_sem]; try (refine ⟨by kernel_rfl, ?_⟩))) | (refine awp_skip ?_; (simp [go_sem]; try (refine ⟨by kernel_rfl, ?_⟩))) | (refine awp_exit ?_; (simp [go_sem]; try (refine ⟨by kernel_rfl, ?_⟩)))))
    refine awp_loop (fun k : Nat => ⟨mkE [(0, .sl (A.map tk)), (1, .sl (C.map tk)), (4, bb false), (5, ii k)], []⟩) (fun k => k ≤ A.length ∧ (A.take k).map Tk.core = (C.take k).map Tk.core) (fun k => A.length - k) 0 ?_ ?_ ?_
    · refine sub_of _ [] (by simp [go_sem]) ?_
      simp [go_sem]
    · simp
    · rintro k ⟨hk, hn⟩
      (repeat (first | refine awp_seq ?_ | refine awp_block ?_ | (refine awp_runG [0, 1, 4, 5, 10, 14, 53] hX ?_; (simp [go_sem]; try (refine ⟨by kernel_rfl, ?_⟩))) | (refine awp_drawnG [0, 1, 4, 5, 10, 14, 53] hX mixed ?_; (simp [go_sem]; try (refine ⟨by kernel_rfl, ?_⟩))) | (refine awp_ret ?_; (simp [go_sem]; try (refine ⟨by kernel_rfl, ?_⟩))) | (refine awp_skip ?_; (simp [go_sem]; try (refine ⟨by kernel_rfl, ?_⟩))) | (refine awp_exit ?_; (simp [go_sem]; try (refine ⟨by kernel_rfl, ?_⟩)))))
      refine awp_cond (b := decide (k < A.length)) (by simp [go_sem]) (fun hc => ?_) (fun hc => ?_)
      · simp at hc
        have hc' : k < C.length := by omega
        (repeat (first | refine awp_seq ?_ | refine awp_block ?_ | (refine awp_runG [0, 1, 4, 5, 10, 14, 53] hX ?_; (simp [go_sem, hc, hc']; try (refine ⟨by kernel_rfl, ?_⟩))) | (refine awp_drawnG [0, 1, 4, 5, 10, 14, 53] hX mixed ?_; (simp [go_sem, hc, hc']; try (refine ⟨by kernel_rfl, ?_⟩))) | (refine awp_ret ?_; (simp [go_sem, hc, hc']; try (refine ⟨by kernel_rfl, ?_⟩))) | (refine awp_skip ?_; (simp [go_sem, hc, hc']; try (refine ⟨by kernel_rfl, ?_⟩))) | (refine awp_exit ?_; (simp [go_sem, hc, hc']; try (refine ⟨by kernel_rfl, ?_⟩)))))
        refine awp_cond (b := !decide (A[k].core = C[k].core)) (by simp [go_sem, Tk.core_iff]; try grind) (fun hd => ?_) (fun hd => ?_)
        · simp at hd
          (repeat (first | refine awp_seq ?_ | refine awp_block ?_ | (refine awp_runG [0, 1, 4, 5, 10, 14, 53] hX ?_; (simp [go_sem]; try (refine ⟨by kernel_rfl, ?_⟩))) | (refine awp_drawnG [0, 1, 4, 5, 10, 14, 53] hX mixed ?_; (simp [go_sem]; try (refine ⟨by kernel_rfl, ?_⟩))) | (refine awp_ret ?_; (simp [go_sem]; try (refine ⟨by kernel_rfl, ?_⟩))) | (refine awp_skip ?_; (simp [go_sem]; try (refine ⟨by kernel_rfl, ?_⟩))) | (refine awp_exit ?_; (simp [go_sem]; try (refine ⟨by kernel_rfl, ?_⟩)))))
          have : A.map Tk.core ≠ C.map Tk.core := fun h => by
            have := congrArg (fun l => l[k]?) h
            simp [hc, hc'] at this
            exact hd this
          simp [this]
        · simp at hd
          (repeat (first | refine awp_seq ?_ | refine awp_block ?_ | (refine awp_runG [0, 1, 4, 5, 10, 14, 53] hX ?_; (simp [go_sem]; (try simp (disch := omega) only [w64, td, tm]); try (refine ⟨by kernel_rfl, ?_⟩))) | (refine awp_drawnG [0, 1, 4, 5, 10, 14, 53] hX mixed ?_; (simp [go_sem]; (try simp (disch := omega) only [w64, td, tm]); try (refine ⟨by kernel_rfl, ?_⟩))) | (refine awp_ret ?_; (simp [go_sem]; (try simp (disch := omega) only [w64, td, tm]); try (refine ⟨by kernel_rfl, ?_⟩))) | (refine awp_skip ?_; (simp [go_sem]; (try simp (disch := omega) only [w64, td, tm]); try (refine ⟨by kernel_rfl, ?_⟩))) | (refine awp_exit ?_; (simp [go_sem]; (try simp (disch := omega) only [w64, td, tm]); try (refine ⟨by kernel_rfl, ?_⟩)))))
          refine ⟨k + 1, ⟨by omega, ?_⟩, by omega, ?_⟩
          · rw [← List.map_take, ← List.map_take, List.take_succ_eq_append_getElem hc, List.take_succ_eq_append_getElem hc', List.map_append, List.map_append, hn]
            simp [hd]
          · refine sub_of _ [] (by simp [go_sem]) ?_
            simp [go_sem]
      · simp at hc
        (repeat (first | refine awp_seq ?_ | refine awp_block ?_ | (refine awp_runG [0, 1, 4, 5, 10, 14, 53] hX ?_; (simp [go_sem]; try (refine ⟨by kernel_rfl, ?_⟩))) | (refine awp_drawnG [0, 1, 4, 5, 10, 14, 53] hX mixed ?_; (simp [go_sem]; try (refine ⟨by kernel_rfl, ?_⟩))) | (refine awp_ret ?_; (simp [go_sem]; try (refine ⟨by kernel_rfl, ?_⟩))) | (refine awp_skip ?_; (simp [go_sem]; try (refine ⟨by kernel_rfl, ?_⟩))) | (refine awp_exit ?_; (simp [go_sem]; try (refine ⟨by kernel_rfl, ?_⟩)))))
        have : k = A.length := by omega
        subst this
        rw [List.take_length, hb, List.take_length] at hn
        simp [hn]

/-- The texts, one behind the other. -/
theorem join_eq (xs : List By) : Lib.join xs [32] = joinB xs := by
  match xs with
  | [] => rfl
  | [x] => simp [Lib.join_one, joinB]
  | x :: y :: xs =>
    have ih := join_eq (y :: xs)
    show [32].intercalate (x :: y :: xs) = x ++ 32 :: joinB (y :: xs)
    rw [← ih]
    simp [Lib.join, List.intercalate]
def lenB (xs : List By) : Nat := (xs.map List.length).sum + xs.length
theorem joinB_len : ∀ xs : List By, (joinB xs).length ≤ lenB xs
  | [] => by simp [joinB]
  | [x] => by simp [joinB, lenB]
  | x :: y :: xs => by
    have := joinB_len (y :: xs)
    simp only [joinB, lenB, List.length_append, List.length_cons, List.map_cons, List.sum_cons] at this ⊢
    omega
theorem joinB_app : ∀ (xs : List By) (t : By), joinB (xs ++ [t]) = if xs = [] then t else joinB xs ++ 32 :: t
  | [], t => rfl
  | [x], t => rfl
  | x :: y :: xs, t => by
    have := joinB_app (y :: xs) t
    rw [if_neg (by simp)] at this ⊢
    show x ++ 32 :: joinB (y :: xs ++ [t]) = _
    rw [this]
    simp [joinB]

theorem join_m (xs : List By) (hx : lenB xs ≤ 1000000000) : MeansH Tryd.prog 31 [.row ⟨9, 1, xs.map ss⟩] [.ow 0, ss [32]] (ss (joinB xs)) [.row ⟨9, 1, xs.map ss⟩] := by
  have hl := joinB_len xs
  have e1 : (xs.map B).map (·.data.toList) = xs := by simp [List.map_map, Function.comp_def]
  have e2 : (B [32]).data.toList = [32] := by simp
  have h := join_h (P := Tryd.prog) (f := 31) (E := 9) (fun bk o c xs sep w h1 h2 h3 h4 h5 => Tryd.strings_Join bk o c xs sep w h1 h2 h3 h4 h5) (fun a c sep w => Tryd.strings_Join_none a c sep w) (xs.map B) (B [32])
    (by rw [e1, e2, join_eq]; omega) (by rw [List.length_map]; unfold lenB at hx; omega)
  rw [e1, e2, join_eq, List.map_map] at h
  exact h

/-- The texts of the tokens that are not the end. -/
def texts (ts : List Tk) : List By := (ts.filter fun x => x.kind != 0).map Tk.text
theorem texts_succ {ts : List Tk} {k : Nat} (h : k < ts.length) : texts (ts.take (k + 1)) = if ts[k].kind = 0 then texts (ts.take k) else texts (ts.take k) ++ [ts[k].text] := by
  unfold texts
  rw [List.take_succ_eq_append_getElem h, List.filter_append]
  by_cases hk : ts[k].kind = 0 <;> simp [hk]
theorem texts_len (ts : List Tk) (k : Nat) : (texts (ts.take k)).length ≤ k := by
  unfold texts
  rw [List.length_map]
  exact Nat.le_trans (List.length_filter_le _ _) (by rw [List.length_take]; exact Nat.min_le_left _ _)
theorem textOf_eq (ts : List Tk) : textOf ts = joinB (texts ts) := rfl

set_option maxHeartbeats 1000000 in
set_option maxRecDepth 20000 in
theorem text_m (ts : List Tk) (hl : ts.length ≤ 100000) (hx : lenB (texts ts) ≤ 1000000000) : Means true Tryd.prog 18 [.sl (ts.map tk)] (ss (textOf ts)) := by
  refine means_fn true 23 [.tmp 2] Tryd.func18 rfl rfl rfl (by simp) (by decide) rfl fun X hX => ?_
  (repeat (first | refine awp_seq ?_ | refine awp_block ?_ | (refine awp_runG [0, 2, 3, 5, 6, 7, 8, 9, 14] hX ?_; (simp [go_sem]; try (refine ⟨by kernel_rfl, ?_⟩))) | (refine awp_drawnG [0, 2, 3, 5, 6, 7, 8, 9, 14] hX mixed ?_; (simp [go_sem]; try (refine ⟨by kernel_rfl, ?_⟩))) | (refine awp_ret ?_; (simp [go_sem]; try (refine ⟨by kernel_rfl, ?_⟩))) | (refine awp_skip ?_; (simp [go_sem]; try (refine ⟨by kernel_rfl, ?_⟩))) | (refine awp_exit ?_; (simp [go_sem]; try (refine ⟨by kernel_rfl, ?_⟩)))))
  refine awp_loop (fun k : Nat => ⟨mkE [(0, .sl (ts.map tk)), (3, .ow 0), (6, .sl (ts.map tk)), (7, ii ts.length), (8, ii k)], [.row ⟨9, 1, (texts (ts.take k)).map ss⟩]⟩) (fun k => k ≤ ts.length) (fun k => ts.length - k) 0 ?_ ?_ ?_
  · refine sub_of _ [.birth 9 1] (by simp [go_sem, texts]) ?_
    simp [go_sem]
  · simp
  · intro k hk
    (repeat (first | refine awp_seq ?_ | refine awp_block ?_ | (refine awp_runG [0, 2, 3, 5, 6, 7, 8, 9, 14] hX ?_; (simp [go_sem]; try (refine ⟨by kernel_rfl, ?_⟩))) | (refine awp_drawnG [0, 2, 3, 5, 6, 7, 8, 9, 14] hX mixed ?_; (simp [go_sem]; try (refine ⟨by kernel_rfl, ?_⟩))) | (refine awp_ret ?_; (simp [go_sem]; try (refine ⟨by kernel_rfl, ?_⟩))) | (refine awp_skip ?_; (simp [go_sem]; try (refine ⟨by kernel_rfl, ?_⟩))) | (refine awp_exit ?_; (simp [go_sem]; try (refine ⟨by kernel_rfl, ?_⟩)))))
    refine awp_cond (b := decide (k < ts.length)) (by simp [go_sem]) (fun hc => ?_) (fun hc => ?_)
    · simp at hc
      have hs := texts_succ hc
      have htl := texts_len ts k
      (repeat (first | refine awp_seq ?_ | refine awp_block ?_ | (refine awp_runG [0, 2, 3, 5, 6, 7, 8, 9, 14] hX ?_; (simp [go_sem, hc]; try (refine ⟨by kernel_rfl, ?_⟩))) | (refine awp_drawnG [0, 2, 3, 5, 6, 7, 8, 9, 14] hX mixed ?_; (simp [go_sem, hc]; try (refine ⟨by kernel_rfl, ?_⟩))) | (refine awp_ret ?_; (simp [go_sem, hc]; try (refine ⟨by kernel_rfl, ?_⟩))) | (refine awp_skip ?_; (simp [go_sem, hc]; try (refine ⟨by kernel_rfl, ?_⟩))) | (refine awp_exit ?_; (simp [go_sem, hc]; try (refine ⟨by kernel_rfl, ?_⟩)))))
      refine awp_cond (b := !decide (ts[k].kind = 0)) (by simp [go_sem]) (fun hd => ?_) (fun hd => ?_)
      · simp at hd
        rw [if_neg hd] at hs
        (repeat (first | refine awp_seq ?_ | refine awp_block ?_ | (refine awp_runG [0, 2, 3, 5, 6, 7, 8, 9, 14] hX ?_; (simp [go_sem]; try (refine ⟨by kernel_rfl, ?_⟩))) | (refine awp_drawnG [0, 2, 3, 5, 6, 7, 8, 9, 14] hX mixed ?_; (simp [go_sem]; try (refine ⟨by kernel_rfl, ?_⟩))) | (refine awp_ret ?_; (simp [go_sem]; try (refine ⟨by kernel_rfl, ?_⟩))) | (refine awp_skip ?_; (simp [go_sem]; try (refine ⟨by kernel_rfl, ?_⟩))) | (refine awp_exit ?_; (simp [go_sem]; try (refine ⟨by kernel_rfl, ?_⟩)))))
        (repeat refine And.intro (by first | omega | (unfold maxLen; omega) | kernel_rfl | (refine ⟨by first | omega | (unfold maxLen; omega), by first | omega | (unfold maxLen; omega)⟩) | grind) ?_)
        (repeat (first | refine awp_seq ?_ | refine awp_block ?_ | (refine awp_runG [0, 2, 3, 5, 6, 7, 8, 9, 14] hX ?_; (simp [go_sem]; (try simp (disch := omega) only [w64, td, tm]); try (refine ⟨by kernel_rfl, ?_⟩))) | (refine awp_drawnG [0, 2, 3, 5, 6, 7, 8, 9, 14] hX mixed ?_; (simp [go_sem]; (try simp (disch := omega) only [w64, td, tm]); try (refine ⟨by kernel_rfl, ?_⟩))) | (refine awp_ret ?_; (simp [go_sem]; (try simp (disch := omega) only [w64, td, tm]); try (refine ⟨by kernel_rfl, ?_⟩))) | (refine awp_skip ?_; (simp [go_sem]; (try simp (disch := omega) only [w64, td, tm]); try (refine ⟨by kernel_rfl, ?_⟩))) | (refine awp_exit ?_; (simp [go_sem]; (try simp (disch := omega) only [w64, td, tm]); try (refine ⟨by kernel_rfl, ?_⟩)))))
        refine ⟨k + 1, by omega, by omega, ?_⟩
        refine sub_of _ [.old 3 ⟨9, 1, (texts (ts.take (k + 1))).map ss⟩] (by simp [go_sem, hs]) ?_
        simp [go_sem]
      · simp at hd
        rw [if_pos hd] at hs
        (repeat (first | refine awp_seq ?_ | refine awp_block ?_ | (refine awp_runG [0, 2, 3, 5, 6, 7, 8, 9, 14] hX ?_; (simp [go_sem]; (try simp (disch := omega) only [w64, td, tm]); try (refine ⟨by kernel_rfl, ?_⟩))) | (refine awp_drawnG [0, 2, 3, 5, 6, 7, 8, 9, 14] hX mixed ?_; (simp [go_sem]; (try simp (disch := omega) only [w64, td, tm]); try (refine ⟨by kernel_rfl, ?_⟩))) | (refine awp_ret ?_; (simp [go_sem]; (try simp (disch := omega) only [w64, td, tm]); try (refine ⟨by kernel_rfl, ?_⟩))) | (refine awp_skip ?_; (simp [go_sem]; (try simp (disch := omega) only [w64, td, tm]); try (refine ⟨by kernel_rfl, ?_⟩))) | (refine awp_exit ?_; (simp [go_sem]; (try simp (disch := omega) only [w64, td, tm]); try (refine ⟨by kernel_rfl, ?_⟩)))))
        refine ⟨k + 1, by omega, by omega, ?_⟩
        refine sub_of _ [.old 0 ⟨9, 1, (texts (ts.take (k + 1))).map ss⟩] (by simp [go_sem, hs]) ?_
        simp [go_sem]
    · have hkl : k = ts.length := by simp at hc; omega
      subst hkl
      rw [List.take_length]
      (repeat (first | refine awp_seq ?_ | refine awp_block ?_ | (refine awp_runG [0, 2, 3, 5, 6, 7, 8, 9, 14] hX ?_; (simp [go_sem]; try (refine ⟨by kernel_rfl, ?_⟩))) | (refine awp_drawnG [0, 2, 3, 5, 6, 7, 8, 9, 14] hX mixed ?_; (simp [go_sem]; try (refine ⟨by kernel_rfl, ?_⟩))) | (refine awp_ret ?_; (simp [go_sem]; try (refine ⟨by kernel_rfl, ?_⟩))) | (refine awp_skip ?_; (simp [go_sem]; try (refine ⟨by kernel_rfl, ?_⟩))) | (refine awp_exit ?_; (simp [go_sem]; try (refine ⟨by kernel_rfl, ?_⟩)))))
      first | refine callH_intro [0] (join_m (texts ts) hx) (by simp [go_sem]) ?_ | refine callTQ_intro [0] (join_m (texts ts) hx) (by simp [go_sem]) ?_ | refine callTE_intro [0] (join_m (texts ts) hx) (by simp [go_sem]) ?_
      try (simp [go_sem]; try (refine ⟨by kernel_rfl, ?_⟩))
      (repeat (first | refine awp_seq ?_ | refine awp_block ?_ | (refine awp_runG [0, 2, 3, 5, 6, 7, 8, 9, 14] hX ?_; (simp [go_sem]; try (refine ⟨by kernel_rfl, ?_⟩))) | (refine awp_drawnG [0, 2, 3, 5, 6, 7, 8, 9, 14] hX mixed ?_; (simp [go_sem]; try (refine ⟨by kernel_rfl, ?_⟩))) | (refine awp_ret ?_; (simp [go_sem]; try (refine ⟨by kernel_rfl, ?_⟩))) | (refine awp_skip ?_; (simp [go_sem]; try (refine ⟨by kernel_rfl, ?_⟩))) | (refine awp_exit ?_; (simp [go_sem]; try (refine ⟨by kernel_rfl, ?_⟩)))))
      rw [textOf_eq]

set_option maxHeartbeats 1000000 in
set_option maxRecDepth 20000 in
theorem rtext_m (ts : List Tk) (hl : ts.length ≤ 100000) (hx : ∀ k, lenB (texts (ts.take k)) ≤ 1000000000) : Means true Tryd.prog 19 [.sl (ts.map tk)] (ss (textOf ts)) := by
  refine means_fn true 30 [.tmp 2] Tryd.func19 rfl rfl rfl (by simp) (by decide) rfl fun X hX => ?_
  (repeat (first | refine awp_seq ?_ | refine awp_block ?_ | (refine awp_runG [0, 2, 3, 4, 5, 9, 17, 19] hX ?_; (simp [go_sem]; try (refine ⟨by kernel_rfl, ?_⟩))) | (refine awp_drawnG [0, 2, 3, 4, 5, 9, 17, 19] hX mixed ?_; (simp [go_sem]; try (refine ⟨by kernel_rfl, ?_⟩))) | (refine awp_ret ?_; (simp [go_sem]; try (refine ⟨by kernel_rfl, ?_⟩))) | (refine awp_skip ?_; (simp [go_sem]; try (refine ⟨by kernel_rfl, ?_⟩))) | (refine awp_exit ?_; (simp [go_sem]; try (refine ⟨by kernel_rfl, ?_⟩)))))
  refine awp_loop (fun k : Nat => ⟨mkE [(0, .sl (ts.map tk)), (3, ss (joinB (texts (ts.take k)))), (4, bb (decide (texts (ts.take k) = []))), (5, ii k)], []⟩) (fun k => k ≤ ts.length) (fun k => ts.length - k) 0 ?_ ?_ ?_
  · refine sub_of _ [] (by simp [go_sem]) ?_
    simp [go_sem, joinB, texts]
  · simp
  · intro k hk
    (repeat (first | refine awp_seq ?_ | refine awp_block ?_ | (refine awp_runG [0, 2, 3, 4, 5, 9, 17, 19] hX ?_; (simp [go_sem]; try (refine ⟨by kernel_rfl, ?_⟩))) | (refine awp_drawnG [0, 2, 3, 4, 5, 9, 17, 19] hX mixed ?_; (simp [go_sem]; try (refine ⟨by kernel_rfl, ?_⟩))) | (refine awp_ret ?_; (simp [go_sem]; try (refine ⟨by kernel_rfl, ?_⟩))) | (refine awp_skip ?_; (simp [go_sem]; try (refine ⟨by kernel_rfl, ?_⟩))) | (refine awp_exit ?_; (simp [go_sem]; try (refine ⟨by kernel_rfl, ?_⟩)))))
    refine awp_cond (b := decide (k < ts.length)) (by simp [go_sem]) (fun hc => ?_) (fun hc => ?_)
    · simp at hc
      have hs := texts_succ hc
      have hj := joinB_len (texts (ts.take k))
      have hj2 := joinB_len (texts (ts.take (k + 1)))
      have hx1 := hx k
      have hx2 := hx (k + 1)
      (repeat (first | refine awp_seq ?_ | refine awp_block ?_ | (refine awp_runG [0, 2, 3, 4, 5, 9, 17, 19] hX ?_; (simp [go_sem, hc]; try (refine ⟨by kernel_rfl, ?_⟩))) | (refine awp_drawnG [0, 2, 3, 4, 5, 9, 17, 19] hX mixed ?_; (simp [go_sem, hc]; try (refine ⟨by kernel_rfl, ?_⟩))) | (refine awp_ret ?_; (simp [go_sem, hc]; try (refine ⟨by kernel_rfl, ?_⟩))) | (refine awp_skip ?_; (simp [go_sem, hc]; try (refine ⟨by kernel_rfl, ?_⟩))) | (refine awp_exit ?_; (simp [go_sem, hc]; try (refine ⟨by kernel_rfl, ?_⟩)))))
      refine awp_cond (b := decide (ts[k].kind = 0)) (by simp [go_sem]) (fun hd => ?_) (fun hd => ?_)
      · simp at hd
        rw [if_pos hd] at hs
        (repeat (first | refine awp_seq ?_ | refine awp_block ?_ | (refine awp_runG [0, 2, 3, 4, 5, 9, 17, 19] hX ?_; (simp [go_sem]; (try simp (disch := omega) only [w64, td, tm]); try (refine ⟨by kernel_rfl, ?_⟩))) | (refine awp_drawnG [0, 2, 3, 4, 5, 9, 17, 19] hX mixed ?_; (simp [go_sem]; (try simp (disch := omega) only [w64, td, tm]); try (refine ⟨by kernel_rfl, ?_⟩))) | (refine awp_ret ?_; (simp [go_sem]; (try simp (disch := omega) only [w64, td, tm]); try (refine ⟨by kernel_rfl, ?_⟩))) | (refine awp_skip ?_; (simp [go_sem]; (try simp (disch := omega) only [w64, td, tm]); try (refine ⟨by kernel_rfl, ?_⟩))) | (refine awp_exit ?_; (simp [go_sem]; (try simp (disch := omega) only [w64, td, tm]); try (refine ⟨by kernel_rfl, ?_⟩)))))
        refine ⟨k + 1, by omega, by omega, ?_⟩
        refine sub_of _ [] (by simp [go_sem]) ?_
        simp [go_sem, hs]
      · simp at hd
        rw [if_neg hd] at hs
        have ha := joinB_app (texts (ts.take k)) ts[k].text
        rw [← hs] at ha
        (repeat (first | refine awp_seq ?_ | refine awp_block ?_ | (refine awp_runG [0, 2, 3, 4, 5, 9, 17, 19] hX ?_; (simp [go_sem]; try (refine ⟨by kernel_rfl, ?_⟩))) | (refine awp_drawnG [0, 2, 3, 4, 5, 9, 17, 19] hX mixed ?_; (simp [go_sem]; try (refine ⟨by kernel_rfl, ?_⟩))) | (refine awp_ret ?_; (simp [go_sem]; try (refine ⟨by kernel_rfl, ?_⟩))) | (refine awp_skip ?_; (simp [go_sem]; try (refine ⟨by kernel_rfl, ?_⟩))) | (refine awp_exit ?_; (simp [go_sem]; try (refine ⟨by kernel_rfl, ?_⟩)))))
        refine awp_cond (b := !decide (texts (ts.take k) = [])) (by simp [go_sem]) (fun he => ?_) (fun he => ?_)
        · simp at he
          rw [if_neg he] at ha
          have hlen := congrArg List.length ha
          rw [List.length_append, List.length_cons] at hlen
          have hne : texts (ts.take (k + 1)) ≠ [] := by rw [hs]; simp
          (repeat (first | refine awp_seq ?_ | refine awp_block ?_ | (refine awp_runG [0, 2, 3, 4, 5, 9, 17, 19] hX ?_; (simp [go_sem, hc]; try (refine ⟨by kernel_rfl, ?_⟩))) | (refine awp_drawnG [0, 2, 3, 4, 5, 9, 17, 19] hX mixed ?_; (simp [go_sem, hc]; try (refine ⟨by kernel_rfl, ?_⟩))) | (refine awp_ret ?_; (simp [go_sem, hc]; try (refine ⟨by kernel_rfl, ?_⟩))) | (refine awp_skip ?_; (simp [go_sem, hc]; try (refine ⟨by kernel_rfl, ?_⟩))) | (refine awp_exit ?_; (simp [go_sem, hc]; try (refine ⟨by kernel_rfl, ?_⟩)))))
          (repeat refine And.intro (by first | omega | (unfold maxLen; omega) | kernel_rfl | (refine ⟨by first | omega | (unfold maxLen; omega), by first | omega | (unfold maxLen; omega)⟩) | grind) ?_)
          (repeat (first | refine awp_seq ?_ | refine awp_block ?_ | (refine awp_runG [0, 2, 3, 4, 5, 9, 17, 19] hX ?_; (simp [go_sem, hc]; (try simp (disch := omega) only [w64, td, tm]); try (refine ⟨by kernel_rfl, ?_⟩))) | (refine awp_drawnG [0, 2, 3, 4, 5, 9, 17, 19] hX mixed ?_; (simp [go_sem, hc]; (try simp (disch := omega) only [w64, td, tm]); try (refine ⟨by kernel_rfl, ?_⟩))) | (refine awp_ret ?_; (simp [go_sem, hc]; (try simp (disch := omega) only [w64, td, tm]); try (refine ⟨by kernel_rfl, ?_⟩))) | (refine awp_skip ?_; (simp [go_sem, hc]; (try simp (disch := omega) only [w64, td, tm]); try (refine ⟨by kernel_rfl, ?_⟩))) | (refine awp_exit ?_; (simp [go_sem, hc]; (try simp (disch := omega) only [w64, td, tm]); try (refine ⟨by kernel_rfl, ?_⟩)))))
          (repeat refine And.intro (by first | omega | (unfold maxLen; omega) | kernel_rfl | (refine ⟨by first | omega | (unfold maxLen; omega), by first | omega | (unfold maxLen; omega)⟩) | grind) ?_)
          (repeat (first | refine awp_seq ?_ | refine awp_block ?_ | (refine awp_runG [0, 2, 3, 4, 5, 9, 17, 19] hX ?_; (simp [go_sem]; (try simp (disch := omega) only [w64, td, tm]); try (refine ⟨by kernel_rfl, ?_⟩))) | (refine awp_drawnG [0, 2, 3, 4, 5, 9, 17, 19] hX mixed ?_; (simp [go_sem]; (try simp (disch := omega) only [w64, td, tm]); try (refine ⟨by kernel_rfl, ?_⟩))) | (refine awp_ret ?_; (simp [go_sem]; (try simp (disch := omega) only [w64, td, tm]); try (refine ⟨by kernel_rfl, ?_⟩))) | (refine awp_skip ?_; (simp [go_sem]; (try simp (disch := omega) only [w64, td, tm]); try (refine ⟨by kernel_rfl, ?_⟩))) | (refine awp_exit ?_; (simp [go_sem]; (try simp (disch := omega) only [w64, td, tm]); try (refine ⟨by kernel_rfl, ?_⟩)))))
          refine ⟨k + 1, by omega, by omega, ?_⟩
          refine sub_of _ [] (by simp [go_sem]) ?_
          simp [go_sem, ha, hne]
        · simp at he
          rw [if_pos he] at ha
          have hlen := congrArg List.length ha
          have hne : texts (ts.take (k + 1)) ≠ [] := by rw [hs]; simp
          (repeat (first | refine awp_seq ?_ | refine awp_block ?_ | (refine awp_runG [0, 2, 3, 4, 5, 9, 17, 19] hX ?_; (simp [go_sem, hc]; try (refine ⟨by kernel_rfl, ?_⟩))) | (refine awp_drawnG [0, 2, 3, 4, 5, 9, 17, 19] hX mixed ?_; (simp [go_sem, hc]; try (refine ⟨by kernel_rfl, ?_⟩))) | (refine awp_ret ?_; (simp [go_sem, hc]; try (refine ⟨by kernel_rfl, ?_⟩))) | (refine awp_skip ?_; (simp [go_sem, hc]; try (refine ⟨by kernel_rfl, ?_⟩))) | (refine awp_exit ?_; (simp [go_sem, hc]; try (refine ⟨by kernel_rfl, ?_⟩)))))
          (repeat refine And.intro (by first | omega | (unfold maxLen; omega) | kernel_rfl | (refine ⟨by first | omega | (unfold maxLen; omega), by first | omega | (unfold maxLen; omega)⟩) | grind) ?_)
          (repeat (first | refine awp_seq ?_ | refine awp_block ?_ | (refine awp_runG [0, 2, 3, 4, 5, 9, 17, 19] hX ?_; (simp [go_sem, hc]; (try simp (disch := omega) only [w64, td, tm]); try (refine ⟨by kernel_rfl, ?_⟩))) | (refine awp_drawnG [0, 2, 3, 4, 5, 9, 17, 19] hX mixed ?_; (simp [go_sem, hc]; (try simp (disch := omega) only [w64, td, tm]); try (refine ⟨by kernel_rfl, ?_⟩))) | (refine awp_ret ?_; (simp [go_sem, hc]; (try simp (disch := omega) only [w64, td, tm]); try (refine ⟨by kernel_rfl, ?_⟩))) | (refine awp_skip ?_; (simp [go_sem, hc]; (try simp (disch := omega) only [w64, td, tm]); try (refine ⟨by kernel_rfl, ?_⟩))) | (refine awp_exit ?_; (simp [go_sem, hc]; (try simp (disch := omega) only [w64, td, tm]); try (refine ⟨by kernel_rfl, ?_⟩)))))
          (repeat refine And.intro (by first | omega | (unfold maxLen; omega) | kernel_rfl | (refine ⟨by first | omega | (unfold maxLen; omega), by first | omega | (unfold maxLen; omega)⟩) | grind) ?_)
          (repeat (first | refine awp_seq ?_ | refine awp_block ?_ | (refine awp_runG [0, 2, 3, 4, 5, 9, 17, 19] hX ?_; (simp [go_sem]; (try simp (disch := omega) only [w64, td, tm]); try (refine ⟨by kernel_rfl, ?_⟩))) | (refine awp_drawnG [0, 2, 3, 4, 5, 9, 17, 19] hX mixed ?_; (simp [go_sem]; (try simp (disch := omega) only [w64, td, tm]); try (refine ⟨by kernel_rfl, ?_⟩))) | (refine awp_ret ?_; (simp [go_sem]; (try simp (disch := omega) only [w64, td, tm]); try (refine ⟨by kernel_rfl, ?_⟩))) | (refine awp_skip ?_; (simp [go_sem]; (try simp (disch := omega) only [w64, td, tm]); try (refine ⟨by kernel_rfl, ?_⟩))) | (refine awp_exit ?_; (simp [go_sem]; (try simp (disch := omega) only [w64, td, tm]); try (refine ⟨by kernel_rfl, ?_⟩)))))
          refine ⟨k + 1, by omega, by omega, ?_⟩
          refine sub_of _ [] (by simp [go_sem]) ?_
          simp [go_sem, ha, hne, he, joinB]
    · have hkl : k = ts.length := by simp at hc; omega
      subst hkl
      rw [List.take_length]
      (repeat (first | refine awp_seq ?_ | refine awp_block ?_ | (refine awp_runG [0, 2, 3, 4, 5, 9, 17, 19] hX ?_; (simp [go_sem]; try (refine ⟨by kernel_rfl, ?_⟩))) | (refine awp_drawnG [0, 2, 3, 4, 5, 9, 17, 19] hX mixed ?_; (simp [go_sem]; try (refine ⟨by kernel_rfl, ?_⟩))) | (refine awp_ret ?_; (simp [go_sem]; try (refine ⟨by kernel_rfl, ?_⟩))) | (refine awp_skip ?_; (simp [go_sem]; try (refine ⟨by kernel_rfl, ?_⟩))) | (refine awp_exit ?_; (simp [go_sem]; try (refine ⟨by kernel_rfl, ?_⟩)))))
      rw [textOf_eq]

end Go.Proofs.YtgkafceckdoabaaDoor
