/-
  The walks of layer 6: the ring.
-/
import Derived.Test.YtgfgajofilcniaaSealS
set_option linter.all false
namespace Go.Proofs.Ytgfgajofilcniaa
open Go.RowKit Go.Ab
attribute [local irreducible] AWP Go.Ab.Sub Means MeansH CallK CallG CallT CallGT

theorem key_m (k : Int) : Means true Try.prog 13 [ii k] (bb (isKey k)) := by
  refine means_fn true 9 [.tmp 2] Try.func13 rfl rfl rfl (by simp) (by decide) rfl fun X hX => ?_
  (repeat (refine awp_stepG [0, 2] hX mixed rfl ?_; (simp [go_sem]; try (refine ⟨by kernel_rfl, ?_⟩))))
  simp [isKey]

theorem clone_m (L : List E) (hl : L.length ≤ 100000) : Means true Try.prog 14 [.sl (L.map eo)] (.sl (L.map eo)) := by
  refine means_fn true 8 [.tmp 2] Try.func14 rfl rfl rfl (by simp) (by decide) rfl fun X hX => ?_
  (repeat (refine awp_stepG [0, 2, 4] hX mixed rfl ?_; (simp [go_sem]; try (refine ⟨by kernel_rfl, ?_⟩))))
  refine ⟨?_, fun hL => ?_⟩
  · refine awp_cond (b := false) (by simp [go_sem]) (fun hb => by cases hb) (fun _ => ?_)
    (repeat (refine awp_stepG [0, 2, 4] hX mixed rfl ?_; (simp [go_sem]; try (refine ⟨by kernel_rfl, ?_⟩))))
    (repeat refine And.intro (by first | omega | (unfold maxLen; omega) | kernel_rfl | (refine ⟨by first | omega | (unfold maxLen; omega), by first | omega | (unfold maxLen; omega)⟩) | grind) ?_)
    (repeat (refine awp_stepG [0, 2, 4] hX mixed rfl ?_; (simp [go_sem]; try (refine ⟨by kernel_rfl, ?_⟩))))
  · subst hL
    refine awp_cond (b := true) (by simp [go_sem]) (fun _ => ?_) (fun hb => by cases hb)
    (repeat (refine awp_stepG [0, 2, 4] hX mixed rfl ?_; (simp [go_sem]; try (refine ⟨by kernel_rfl, ?_⟩))))

/-- A ring in memory. -/
abbrev ringH (L : List E) : List Cell := [.row ⟨42, 2, [.agg [.ow 1, .ow 2]]⟩, .row ⟨24, 2, L.map eo⟩, .map ⟨24, 3, marks 0 L⟩]
/-- What its signing leaves. -/
abbrev ringN (L : List E) : List Cell := [.row ⟨42, 2, [.agg [.ow 3, .ow 2]]⟩, .dead, .map ⟨24, 3, marks 0 L⟩, .row ⟨24, 2, L.map eo⟩]

@[go_sem] theorem look_marks (e : E) (L : List E) : lookA Try.prog 24 3 (eo e) (marks 0 L) true = some (.tup [ii (if e ∈ L then (L.findIdx (· = e) : Nat) else 0), bb (decide (e ∈ L))]) := by
  unfold lookA
  rw [find_marks, tk3]
  by_cases h : e ∈ L <;> simp [h, foundA]
@[go_sem] theorem keyOK_eo (e : E) : keyEq Try.prog 24 (eo e) (eo e) = some true := by rw [keyEq_eo]; simp

/-- Whether a signature holds. -/
def holds (L : List E) (g : G) : Bool := decide (⟨g.key, g.text⟩ ∈ L) && decide ((L.findIdx (· = ⟨g.key, g.text⟩) : Int) = g.mark)

theorem valid_m (L : List E) (g : G) : MeansH Try.prog 11 (ringH L) [.el 0 2 0 0, go g] (bb (holds L g)) (ringH L) := by
  refine meansH_fn 3 27 [.tmp 4] Try.func11 rfl rfl rfl (by simp) (by decide) rfl fun X hX => ?_
  (repeat (refine awp_stepH [0, 1, 3, 4, 5, 6, 1000000, 1000001, 1000002] hX mixed rfl ?_; (simp [go_sem, look_marks ⟨g.key, g.text⟩ L, keyOK_eo ⟨g.key, g.text⟩]; try (refine ⟨by kernel_rfl, ?_⟩))))
  refine awp_ret ?_; (try simp only [thenQ, blkQ, loopQ]); refine retH_ret [(4, bb (holds L g)), (1000000, .ow 0), (1000001, .ow 1), (1000002, .ow 2)] [.old 0 ⟨42, 2, [.agg [.ow 1, .ow 2]]⟩, .old 1 ⟨24, 2, L.map eo⟩, .oldM 2 ⟨24, 3, marks 0 L⟩] ?_
  simp [go_sem, holds]
  by_cases h : (⟨g.key, g.text⟩ : E) ∈ L <;> simp [h]

/-- What signing returns, and the entries behind it. -/
def sigOf (L : List E) (k : Int) (t : ByteArray) : G := if isKey k then ⟨k, t, if ⟨k, t⟩ ∈ L then (L.findIdx (· = ⟨k, t⟩) : Nat) else L.length⟩ else ⟨0, ⟨#[]⟩, 0⟩
def sigL (L : List E) (k : Int) (t : ByteArray) : List E := if isKey k && !decide (⟨k, t⟩ ∈ L) then L ++ [⟨k, t⟩] else L

set_option maxHeartbeats 400000 in
theorem sign_m (L : List E) (hl : L.length ≤ 1000) (k : Int) (t : ByteArray) : MeansH Try.prog 7 (ringH L) [.el 0 2 0 0, ii k, ss t] (go (sigOf L k t)) (ringN (sigL L k t)) := by
  refine meansH_fn 3 53 [.cell 6 31] Try.func7 rfl rfl rfl (by simp) (by decide) rfl fun X hX => ?_
  (repeat (refine awp_stepH [0, 1, 2, 6, 7, 8, 9, 12, 27, 1000000, 1000001, 1000002] hX mixed rfl ?_; (simp [go_sem]; try (refine ⟨by kernel_rfl, ?_⟩))))
  first | refine callKa (key_m k) ?_ | refine callTa (key_m k) ?_
  try (simp [go_sem]; try (refine ⟨by kernel_rfl, ?_⟩))
  (repeat (refine awp_stepH [0, 1, 2, 6, 7, 8, 9, 12, 27, 1000000, 1000001, 1000002] hX mixed rfl ?_; (simp [go_sem]; try (refine ⟨by kernel_rfl, ?_⟩))))
  refine awp_cond (b := !isKey k) (by simp [go_sem]) (fun hb => ?_) (fun hb => ?_)
  · simp at hb
    (repeat (refine awp_stepH [0, 1, 2, 6, 7, 8, 9, 12, 27, 1000000, 1000001, 1000002] hX mixed rfl ?_; (simp [go_sem]; try (refine ⟨by kernel_rfl, ?_⟩))))
    refine awp_ret ?_; (try simp only [thenQ, blkQ, loopQ]); refine retH_ret [(1000000, .ow 0), (1000001, .ow 1), (1000002, .ow 2)] [.old 0 ⟨42, 2, [.agg [.ow 3, .ow 2]]⟩, .gone 1, .oldM 2 ⟨24, 3, marks 0 L⟩, .old 1 ⟨24, 2, L.map eo⟩] ?_
    simp [go_sem, sigOf, sigL, hb]
  · simp at hb
    (repeat (refine awp_stepH [0, 1, 2, 6, 7, 8, 9, 12, 27, 1000000, 1000001, 1000002] hX mixed rfl ?_; (simp [go_sem, look_marks ⟨k, t⟩ L, keyOK_eo ⟨k, t⟩]; try (refine ⟨by kernel_rfl, ?_⟩))))
    refine awp_cond (b := !decide (⟨k, t⟩ ∈ L)) (by simp [go_sem]) (fun hc => ?_) (fun hc => ?_)
    · simp at hc
      have hu := upd_marks ⟨k, t⟩ L 0 hc
      rw [Nat.zero_add] at hu
      (repeat (refine awp_stepH [0, 1, 2, 6, 7, 8, 9, 12, 27, 1000000, 1000001, 1000002] hX mixed rfl ?_; (simp [go_sem, hu, keyOK_eo ⟨k, t⟩]; try (refine ⟨by kernel_rfl, ?_⟩))))
      (repeat refine And.intro (by first | omega | (unfold maxLen; omega) | kernel_rfl | (refine ⟨by first | omega | (unfold maxLen; omega), by first | omega | (unfold maxLen; omega)⟩) | grind) ?_)
      (repeat (refine awp_stepH [0, 1, 2, 6, 7, 8, 9, 12, 27, 1000000, 1000001, 1000002] hX mixed rfl ?_; (simp [go_sem, hu, keyOK_eo ⟨k, t⟩]; try (refine ⟨by kernel_rfl, ?_⟩))))
      refine awp_ret ?_; (try simp only [thenQ, blkQ, loopQ]); refine retH_ret [(1000000, .ow 0), (1000001, .ow 1), (1000002, .ow 2)] [.old 0 ⟨42, 2, [.agg [.ow 3, .ow 2]]⟩, .gone 1, .oldM 2 ⟨24, 3, marks 0 (L ++ [⟨k, t⟩])⟩, .old 6 ⟨24, 2, L.map eo ++ [eo ⟨k, t⟩]⟩] ?_
      simp [go_sem, sigOf, sigL, hb, hc]
    · simp at hc
      (repeat (refine awp_stepH [0, 1, 2, 6, 7, 8, 9, 12, 27, 1000000, 1000001, 1000002] hX mixed rfl ?_; (simp [go_sem]; try (refine ⟨by kernel_rfl, ?_⟩))))
      refine awp_ret ?_; (try simp only [thenQ, blkQ, loopQ]); refine retH_ret [(1000000, .ow 0), (1000001, .ow 1), (1000002, .ow 2)] [.old 0 ⟨42, 2, [.agg [.ow 3, .ow 2]]⟩, .gone 1, .oldM 2 ⟨24, 3, marks 0 L⟩, .old 1 ⟨24, 2, L.map eo⟩] ?_
      simp [go_sem, sigOf, sigL, hb, hc]

theorem new_m : MeansH Try.prog 5 [] [] (.el 0 2 0 0) (ringH []) := by
  refine meansH_fn 0 4 [.tmp 0] Try.func5 rfl rfl rfl (by simp) (by decide) rfl fun X hX => ?_
  (repeat (refine awp_stepH [0] hX mixed rfl ?_; (simp [go_sem]; try (refine ⟨by kernel_rfl, ?_⟩))))
  refine awp_ret ?_; (try simp only [thenQ, blkQ, loopQ]); refine retH_ret [(0, .el 0 2 0 0)] [.old 1 ⟨42, 2, [.agg [.ow 1, .ow 2]]⟩, .birth 24 2, .oldM 0 ⟨24, 3, []⟩] ?_
  simp [go_sem, marks]

theorem all_m (L : List E) (hl : L.length ≤ 100000) : MeansH Try.prog 8 (ringH L) [.el 0 2 0 0] (.sl (L.map eo)) (ringH L) := by
  refine meansH_fn 3 8 [.tmp 2] Try.func8 rfl rfl rfl (by simp) (by decide) rfl fun X hX => ?_
  (repeat (refine awp_stepH [0, 2, 1000000, 1000001, 1000002] hX mixed rfl ?_; (simp [go_sem]; try (refine ⟨by kernel_rfl, ?_⟩))))
  first | refine callKa (clone_m L hl) ?_ | refine callTa (clone_m L hl) ?_
  try (simp [go_sem]; try (refine ⟨by kernel_rfl, ?_⟩))
  (repeat (refine awp_stepH [0, 2, 1000000, 1000001, 1000002] hX mixed rfl ?_; (simp [go_sem]; try (refine ⟨by kernel_rfl, ?_⟩))))
  refine awp_ret ?_; (try simp only [thenQ, blkQ, loopQ]); refine retH_ret [(2, .sl (L.map eo)), (1000000, .ow 0), (1000001, .ow 1), (1000002, .ow 2)] [.old 0 ⟨42, 2, [.agg [.ow 1, .ow 2]]⟩, .old 1 ⟨24, 2, L.map eo⟩, .oldM 2 ⟨24, 3, marks 0 L⟩] ?_
  simp [go_sem]

/-- All that are signed one after the other. -/
def signAll (l : List E) (L : List E) : List E := l.foldl (fun L e => sigL L e.key e.text) L


end Go.Proofs.Ytgfgajofilcniaa
