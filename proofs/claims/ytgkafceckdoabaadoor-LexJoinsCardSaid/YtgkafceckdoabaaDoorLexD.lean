/-
  The walks of layer 14: splitting.
-/
import Derived.Test.YtgkafceckdoabaaDoorLexC
set_option linter.all false
namespace Go.Proofs.YtgkafceckdoabaaDoor
open Go.RowKit Go.Ab
attribute [local irreducible] AWP Go.Ab.Sub Means MeansH CallK CallG CallT CallGT

def Lx.pre (ts : List Tk) : Lx → Lx
  | .ok us => .ok (ts ++ us)
  | .err i e => .err i e
theorem lexA_skip : ∀ (l : By) (p : Nat), lexA l p = lexA (l.drop (l.takeWhile isBlank).length) (p + (l.takeWhile isBlank).length)
  | [], p => by simp
  | c :: l, p => by
    simp only [List.takeWhile_cons]
    split
    · rename_i h
      rw [lexA_blank h, lexA_skip l]
      simp only [List.length_cons, List.drop_succ_cons]
      rw [show p + 1 + (l.takeWhile isBlank).length = p + ((l.takeWhile isBlank).length + 1) by omega]
    · simp
theorem drop_tw (f : UInt8 → Bool) : ∀ (l : By) (c : UInt8) (r : By), l.drop (l.takeWhile f).length = c :: r → f c = false
  | [], c, r, h => by simp at h
  | d :: l, c, r, h => by
    simp only [List.takeWhile_cons] at h
    split at h
    · simp only [List.length_cons, List.drop_succ_cons] at h
      exact drop_tw f l c r h
    · rename_i hd
      simp at h
      rw [← h.1]; simpa using hd

/-- What splitting returns. -/
def lexAV (l : By) : AV := if 2000 < l.length then .tup [.sl [], ii 0, ii 6] else match lexA l 0 with
  | .err i e => .tup [.sl [], ii i, ii e]
  | .ok ts => .tup [.sl (ts.map tk), ii 0, ii 0]

theorem lexAV_err {l : By} (hb : l.length ≤ 2000) {i : Nat} {e : Int} (h : lexA l 0 = .err i e) : lexAV l = .tup [.sl [], ii i, ii e] := by rw [lexAV, if_neg (by omega), h]
theorem lexAV_ok {l : By} (hb : l.length ≤ 2000) {ts : List Tk} (h : lexA l 0 = .ok ts) : lexAV l = .tup [.sl (ts.map tk), ii 0, ii 0] := by rw [lexAV, if_neg (by omega), h]

set_option maxHeartbeats 2000000 in
set_option maxRecDepth 20000 in
theorem lex_m (l : By) : Means true Tryd.prog 11 [ss l] (lexAV l) := by
  refine means_fn true 49 [.tmp 2, .tmp 3, .tmp 4] Tryd.func11 rfl rfl rfl (by simp) (by decide) rfl fun X hX => ?_
  (repeat (first | refine awp_seq ?_ | refine awp_block ?_ | (refine awp_runG [0, 2, 3, 4, 5, 6, 7, 8, 11, 21, 35] hX ?_; (simp [go_sem]; try (refine ⟨by kernel_rfl, ?_⟩))) | (refine awp_drawnG [0, 2, 3, 4, 5, 6, 7, 8, 11, 21, 35] hX mixed ?_; (simp [go_sem]; try (refine ⟨by kernel_rfl, ?_⟩))) | (refine awp_ret ?_; (simp [go_sem]; try (refine ⟨by kernel_rfl, ?_⟩))) | (refine awp_skip ?_; (simp [go_sem]; try (refine ⟨by kernel_rfl, ?_⟩))) | (refine awp_exit ?_; (simp [go_sem]; try (refine ⟨by kernel_rfl, ?_⟩)))))
  refine awp_cond (b := decide (2000 < l.length)) (by simp [go_sem]; try omega) (fun hb => ?_) (fun hb => ?_)
  · (repeat (first | refine awp_seq ?_ | refine awp_block ?_ | (refine awp_runG [0, 2, 3, 4, 5, 6, 7, 8, 11, 21, 35] hX ?_; (simp [go_sem]; try (refine ⟨by kernel_rfl, ?_⟩))) | (refine awp_drawnG [0, 2, 3, 4, 5, 6, 7, 8, 11, 21, 35] hX mixed ?_; (simp [go_sem]; try (refine ⟨by kernel_rfl, ?_⟩))) | (refine awp_ret ?_; (simp [go_sem]; try (refine ⟨by kernel_rfl, ?_⟩))) | (refine awp_skip ?_; (simp [go_sem]; try (refine ⟨by kernel_rfl, ?_⟩))) | (refine awp_exit ?_; (simp [go_sem]; try (refine ⟨by kernel_rfl, ?_⟩)))))
    simp at hb
    simp [lexAV, hb]
  · simp at hb
    have hav : lexAV l = match lexA l 0 with
      | .err i e => .tup [.sl [], ii i, ii e]
      | .ok ts => .tup [.sl (ts.map tk), ii 0, ii 0] := by rw [lexAV, if_neg (by omega)]
    (repeat (first | refine awp_seq ?_ | refine awp_block ?_ | (refine awp_runG [0, 2, 3, 4, 5, 6, 7, 8, 11, 21, 35] hX ?_; (simp [go_sem]; try (refine ⟨by kernel_rfl, ?_⟩))) | (refine awp_drawnG [0, 2, 3, 4, 5, 6, 7, 8, 11, 21, 35] hX mixed ?_; (simp [go_sem]; try (refine ⟨by kernel_rfl, ?_⟩))) | (refine awp_ret ?_; (simp [go_sem]; try (refine ⟨by kernel_rfl, ?_⟩))) | (refine awp_skip ?_; (simp [go_sem]; try (refine ⟨by kernel_rfl, ?_⟩))) | (refine awp_exit ?_; (simp [go_sem]; try (refine ⟨by kernel_rfl, ?_⟩)))))
    refine awp_loop (fun x : Nat × List Tk => ⟨mkE [(0, ss l), (5, .ow 0), (6, ii x.1)], [.row ⟨25, 4, x.2.map tk⟩]⟩) (fun x => x.1 ≤ l.length ∧ x.2.length ≤ x.1 ∧ lexA l 0 = (lexA (l.drop x.1) x.1).pre x.2) (fun x => l.length - x.1) (0, []) ?_ ?_ ?_
    · refine sub_of _ [.birth 25 4] (by simp [go_sem]) ?_
      simp [go_sem]
    · refine ⟨by simp, by simp, ?_⟩
      simp only [List.drop_zero]
      cases lexA l 0 <;> simp [Lx.pre]
    · rintro ⟨p, ts⟩ ⟨hp, hts, hI⟩
      simp only [] at hp hts hI
      rw [lexA_skip (l.drop p)] at hI
      have hle := tw_len isBlank (l.drop p)
      rw [List.length_drop] at hle
      have hbl := drop_tw isBlank (l.drop p)
      rw [List.drop_drop] at hI hbl
      obtain ⟨q, hq⟩ : ∃ q, q = p + ((l.drop p).takeWhile isBlank).length := ⟨_, rfl⟩
      have hcast : (p : Int) + (((l.drop p).takeWhile isBlank).length : Int) = (q : Int) := by omega
      rw [← hq] at hI hbl
      (repeat (first | refine awp_seq ?_ | refine awp_block ?_ | (refine awp_runG [0, 2, 3, 4, 5, 6, 7, 8, 11, 21, 35] hX ?_; (simp [go_sem]; try (refine ⟨by kernel_rfl, ?_⟩))) | (refine awp_drawnG [0, 2, 3, 4, 5, 6, 7, 8, 11, 21, 35] hX mixed ?_; (simp [go_sem]; try (refine ⟨by kernel_rfl, ?_⟩))) | (refine awp_ret ?_; (simp [go_sem]; try (refine ⟨by kernel_rfl, ?_⟩))) | (refine awp_skip ?_; (simp [go_sem]; try (refine ⟨by kernel_rfl, ?_⟩))) | (refine awp_exit ?_; (simp [go_sem]; try (refine ⟨by kernel_rfl, ?_⟩)))))
      (repeat refine And.intro (by first | omega | (unfold maxLen; omega) | kernel_rfl | (refine ⟨by first | omega | (unfold maxLen; omega), by first | omega | (unfold maxLen; omega)⟩) | grind) ?_)
      (repeat (first | refine awp_seq ?_ | refine awp_block ?_ | (refine awp_runG [0, 2, 3, 4, 5, 6, 7, 8, 11, 21, 35] hX ?_; (simp [go_sem]; try (refine ⟨by kernel_rfl, ?_⟩))) | (refine awp_drawnG [0, 2, 3, 4, 5, 6, 7, 8, 11, 21, 35] hX mixed ?_; (simp [go_sem]; try (refine ⟨by kernel_rfl, ?_⟩))) | (refine awp_ret ?_; (simp [go_sem]; try (refine ⟨by kernel_rfl, ?_⟩))) | (refine awp_skip ?_; (simp [go_sem]; try (refine ⟨by kernel_rfl, ?_⟩))) | (refine awp_exit ?_; (simp [go_sem]; try (refine ⟨by kernel_rfl, ?_⟩)))))
      first | refine callK_intro (span_m 23 isBlank (by simp [go_sem]) blank_m (l.drop p) (by rw [List.length_drop]; omega)) rfl (by simp [go_sem]) rfl ?_ | refine callT_intro (span_m 23 isBlank (by simp [go_sem]) blank_m (l.drop p) (by rw [List.length_drop]; omega)) rfl (by simp [go_sem]) rfl ?_
      try (simp [go_sem]; try (refine ⟨by kernel_rfl, ?_⟩))
      (repeat (first | refine awp_seq ?_ | refine awp_block ?_ | (refine awp_runG [0, 2, 3, 4, 5, 6, 7, 8, 11, 21, 35] hX ?_; (simp [go_sem, hcast]; (try simp (disch := omega) only [w64, td, tm]); try (refine ⟨by kernel_rfl, ?_⟩))) | (refine awp_drawnG [0, 2, 3, 4, 5, 6, 7, 8, 11, 21, 35] hX mixed ?_; (simp [go_sem, hcast]; (try simp (disch := omega) only [w64, td, tm]); try (refine ⟨by kernel_rfl, ?_⟩))) | (refine awp_ret ?_; (simp [go_sem, hcast]; (try simp (disch := omega) only [w64, td, tm]); try (refine ⟨by kernel_rfl, ?_⟩))) | (refine awp_skip ?_; (simp [go_sem, hcast]; (try simp (disch := omega) only [w64, td, tm]); try (refine ⟨by kernel_rfl, ?_⟩))) | (refine awp_exit ?_; (simp [go_sem, hcast]; (try simp (disch := omega) only [w64, td, tm]); try (refine ⟨by kernel_rfl, ?_⟩)))))
      refine awp_cond (b := decide (q = l.length)) (by simp [go_sem]; try omega) (fun hc => ?_) (fun hc => ?_)
      · simp at hc
        have hr : lexA l 0 = .ok (ts ++ [⟨0, [], 0, q⟩]) := by rw [hI, hc, List.drop_length, lexA_nil]; rfl
        rw [hav, hr]
        (repeat (first | refine awp_seq ?_ | refine awp_block ?_ | (refine awp_runG [0, 2, 3, 4, 5, 6, 7, 8, 11, 21, 35] hX ?_; (simp [go_sem]; try (refine ⟨by kernel_rfl, ?_⟩))) | (refine awp_drawnG [0, 2, 3, 4, 5, 6, 7, 8, 11, 21, 35] hX mixed ?_; (simp [go_sem]; try (refine ⟨by kernel_rfl, ?_⟩))) | (refine awp_ret ?_; (simp [go_sem]; try (refine ⟨by kernel_rfl, ?_⟩))) | (refine awp_skip ?_; (simp [go_sem]; try (refine ⟨by kernel_rfl, ?_⟩))) | (refine awp_exit ?_; (simp [go_sem]; try (refine ⟨by kernel_rfl, ?_⟩)))))
        (repeat refine And.intro (by first | omega | (unfold maxLen; omega) | kernel_rfl | (refine ⟨by first | omega | (unfold maxLen; omega), by first | omega | (unfold maxLen; omega)⟩) | grind) ?_)
        (repeat (first | refine awp_seq ?_ | refine awp_block ?_ | (refine awp_runG [0, 2, 3, 4, 5, 6, 7, 8, 11, 21, 35] hX ?_; (simp [go_sem]; try (refine ⟨by kernel_rfl, ?_⟩))) | (refine awp_drawnG [0, 2, 3, 4, 5, 6, 7, 8, 11, 21, 35] hX mixed ?_; (simp [go_sem]; try (refine ⟨by kernel_rfl, ?_⟩))) | (refine awp_ret ?_; (simp [go_sem]; try (refine ⟨by kernel_rfl, ?_⟩))) | (refine awp_skip ?_; (simp [go_sem]; try (refine ⟨by kernel_rfl, ?_⟩))) | (refine awp_exit ?_; (simp [go_sem]; try (refine ⟨by kernel_rfl, ?_⟩)))))
      · simp at hc
        have hql : q < l.length := by omega
        obtain ⟨c, r, hcr⟩ : ∃ c r, l.drop q = c :: r := ⟨l[q], l.drop (q + 1), List.drop_eq_getElem_cons hql⟩
        have hbc := hbl c r hcr
        have hlen : (c :: r).length ≤ 100000 := by rw [← hcr, List.length_drop]; omega
        have hn : Means true Tryd.prog 24 [ss (l.drop q)] (tokAV 0 (tok (c :: r))) := by rw [hcr]; exact next_m c r hlen
        rw [hcr] at hI
        (repeat (first | refine awp_seq ?_ | refine awp_block ?_ | (refine awp_runG [0, 2, 3, 4, 5, 6, 7, 8, 11, 21, 35] hX ?_; (simp [go_sem]; try (refine ⟨by kernel_rfl, ?_⟩))) | (refine awp_drawnG [0, 2, 3, 4, 5, 6, 7, 8, 11, 21, 35] hX mixed ?_; (simp [go_sem]; try (refine ⟨by kernel_rfl, ?_⟩))) | (refine awp_ret ?_; (simp [go_sem]; try (refine ⟨by kernel_rfl, ?_⟩))) | (refine awp_skip ?_; (simp [go_sem]; try (refine ⟨by kernel_rfl, ?_⟩))) | (refine awp_exit ?_; (simp [go_sem]; try (refine ⟨by kernel_rfl, ?_⟩)))))
        (repeat refine And.intro (by first | omega | (unfold maxLen; omega) | kernel_rfl | (refine ⟨by first | omega | (unfold maxLen; omega), by first | omega | (unfold maxLen; omega)⟩) | grind) ?_)
        (repeat (first | refine awp_seq ?_ | refine awp_block ?_ | (refine awp_runG [0, 2, 3, 4, 5, 6, 7, 8, 11, 21, 35] hX ?_; (simp [go_sem]; try (refine ⟨by kernel_rfl, ?_⟩))) | (refine awp_drawnG [0, 2, 3, 4, 5, 6, 7, 8, 11, 21, 35] hX mixed ?_; (simp [go_sem]; try (refine ⟨by kernel_rfl, ?_⟩))) | (refine awp_ret ?_; (simp [go_sem]; try (refine ⟨by kernel_rfl, ?_⟩))) | (refine awp_skip ?_; (simp [go_sem]; try (refine ⟨by kernel_rfl, ?_⟩))) | (refine awp_exit ?_; (simp [go_sem]; try (refine ⟨by kernel_rfl, ?_⟩)))))
        cases ht : tok (c :: r) with
        | err e =>
          rw [ht] at hn
          have he : e ≠ 0 := by rcases tok_errs ht with h | h | h <;> omega
          have hr : lexA l 0 = .err q e := by rw [hI, lexA_err hbc ht]; rfl
          rw [hav, hr]
          first | refine callK_intro (hn) rfl (by simp [go_sem]) rfl ?_ | refine callT_intro (hn) rfl (by simp [go_sem]) rfl ?_
          try (simp [go_sem, tokAV]; try (refine ⟨by kernel_rfl, ?_⟩))
          (repeat (first | refine awp_seq ?_ | refine awp_block ?_ | (refine awp_runG [0, 2, 3, 4, 5, 6, 7, 8, 11, 21, 35] hX ?_; (simp [go_sem]; try (refine ⟨by kernel_rfl, ?_⟩))) | (refine awp_drawnG [0, 2, 3, 4, 5, 6, 7, 8, 11, 21, 35] hX mixed ?_; (simp [go_sem]; try (refine ⟨by kernel_rfl, ?_⟩))) | (refine awp_ret ?_; (simp [go_sem]; try (refine ⟨by kernel_rfl, ?_⟩))) | (refine awp_skip ?_; (simp [go_sem]; try (refine ⟨by kernel_rfl, ?_⟩))) | (refine awp_exit ?_; (simp [go_sem]; try (refine ⟨by kernel_rfl, ?_⟩)))))
          refine awp_cond (b := true) (by simp [go_sem, he]) (fun _ => ?_) (fun h => by cases h)
          (repeat (first | refine awp_seq ?_ | refine awp_block ?_ | (refine awp_runG [0, 2, 3, 4, 5, 6, 7, 8, 11, 21, 35] hX ?_; (simp [go_sem]; try (refine ⟨by kernel_rfl, ?_⟩))) | (refine awp_drawnG [0, 2, 3, 4, 5, 6, 7, 8, 11, 21, 35] hX mixed ?_; (simp [go_sem]; try (refine ⟨by kernel_rfl, ?_⟩))) | (refine awp_ret ?_; (simp [go_sem]; try (refine ⟨by kernel_rfl, ?_⟩))) | (refine awp_skip ?_; (simp [go_sem]; try (refine ⟨by kernel_rfl, ?_⟩))) | (refine awp_exit ?_; (simp [go_sem]; try (refine ⟨by kernel_rfl, ?_⟩)))))
        | ok k t n =>
          rw [ht] at hn
          obtain ⟨t1, t2, t3⟩ := tok_len ht
          rw [← hcr, List.length_drop] at t2
          rw [lexA_ok hbc ht, ← hcr, List.drop_drop] at hI
          first | refine callK_intro (hn) rfl (by simp [go_sem]) rfl ?_ | refine callT_intro (hn) rfl (by simp [go_sem]) rfl ?_
          try (simp [go_sem, tokAV]; try (refine ⟨by kernel_rfl, ?_⟩))
          (repeat (first | refine awp_seq ?_ | refine awp_block ?_ | (refine awp_runG [0, 2, 3, 4, 5, 6, 7, 8, 11, 21, 35] hX ?_; (simp [go_sem]; try (refine ⟨by kernel_rfl, ?_⟩))) | (refine awp_drawnG [0, 2, 3, 4, 5, 6, 7, 8, 11, 21, 35] hX mixed ?_; (simp [go_sem]; try (refine ⟨by kernel_rfl, ?_⟩))) | (refine awp_ret ?_; (simp [go_sem]; try (refine ⟨by kernel_rfl, ?_⟩))) | (refine awp_skip ?_; (simp [go_sem]; try (refine ⟨by kernel_rfl, ?_⟩))) | (refine awp_exit ?_; (simp [go_sem]; try (refine ⟨by kernel_rfl, ?_⟩)))))
          refine awp_cond (b := false) (by simp [go_sem]) (fun h => by cases h) (fun _ => ?_)
          (repeat (first | refine awp_seq ?_ | refine awp_block ?_ | (refine awp_runG [0, 2, 3, 4, 5, 6, 7, 8, 11, 21, 35] hX ?_; (simp [go_sem]; try (refine ⟨by kernel_rfl, ?_⟩))) | (refine awp_drawnG [0, 2, 3, 4, 5, 6, 7, 8, 11, 21, 35] hX mixed ?_; (simp [go_sem]; try (refine ⟨by kernel_rfl, ?_⟩))) | (refine awp_ret ?_; (simp [go_sem]; try (refine ⟨by kernel_rfl, ?_⟩))) | (refine awp_skip ?_; (simp [go_sem]; try (refine ⟨by kernel_rfl, ?_⟩))) | (refine awp_exit ?_; (simp [go_sem]; try (refine ⟨by kernel_rfl, ?_⟩)))))
          (repeat refine And.intro (by first | omega | (unfold maxLen; omega) | kernel_rfl | (refine ⟨by first | omega | (unfold maxLen; omega), by first | omega | (unfold maxLen; omega)⟩) | grind) ?_)
          (repeat (first | refine awp_seq ?_ | refine awp_block ?_ | (refine awp_runG [0, 2, 3, 4, 5, 6, 7, 8, 11, 21, 35] hX ?_; (simp [go_sem]; (try simp (disch := omega) only [w64, td, tm]); try (refine ⟨by kernel_rfl, ?_⟩))) | (refine awp_drawnG [0, 2, 3, 4, 5, 6, 7, 8, 11, 21, 35] hX mixed ?_; (simp [go_sem]; (try simp (disch := omega) only [w64, td, tm]); try (refine ⟨by kernel_rfl, ?_⟩))) | (refine awp_ret ?_; (simp [go_sem]; (try simp (disch := omega) only [w64, td, tm]); try (refine ⟨by kernel_rfl, ?_⟩))) | (refine awp_skip ?_; (simp [go_sem]; (try simp (disch := omega) only [w64, td, tm]); try (refine ⟨by kernel_rfl, ?_⟩))) | (refine awp_exit ?_; (simp [go_sem]; (try simp (disch := omega) only [w64, td, tm]); try (refine ⟨by kernel_rfl, ?_⟩)))))
          refine ⟨q + t.length, ts ++ [⟨k, t, n, q⟩], ⟨by omega, by simp; omega, ?_⟩, by omega, ?_⟩
          · rw [hI]
            cases lexA (l.drop (q + t.length)) (q + t.length) <;> simp [Lx.cons, Lx.pre]
          · refine sub_of _ [.old 3 ⟨25, 4, (ts ++ [(⟨k, t, n, q⟩ : Tk)]).map tk⟩] (by simp [go_sem]) ?_
            simp [go_sem]

end Go.Proofs.YtgkafceckdoabaaDoor
