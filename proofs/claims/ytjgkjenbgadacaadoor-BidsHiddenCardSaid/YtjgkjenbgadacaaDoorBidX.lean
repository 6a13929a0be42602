/-
  Layer 24: the ring of signatures.
-/
import Derived.Test.YtjgkjenbgadacaaDoorFacts
import Derived.Test.YtjgkjenbgadacaaDoorBidK
set_option linter.all false
namespace Go.Proofs.YtjgkjenbgadacaaDoor.S
open Go.RowKit Go.Ab

abbrev ii (n : Int) : AV := .v (.int .i64 n)
abbrev bb (b : Bool) : AV := .v (.bool b)
abbrev ss (s : ByteArray) : AV := .v (.string s)
theorem mixed : Tryd.prog.follows .mixedOrders = true := by kernel_rfl

/-- An entry. -/
structure E where
  key : Int
  text : ByteArray
  deriving DecidableEq
abbrev eo (e : E) : AV := .agg [ii e.key, ss e.text]
/-- A signature. -/
structure G where
  key : Int
  text : ByteArray
  mark : Int
  deriving DecidableEq
abbrev go (g : G) : AV := .agg [ii g.key, ss g.text, ii g.mark]
@[go_sem] theorem nth_eo {L : List E} {k : Nat} (h : k < L.length) : nth (L.map eo) k = eo L[k] := nth_map eo h
@[go_sem] theorem nth_go {L : List G} {k : Nat} (h : k < L.length) : nth (L.map go) k = go L[k] := nth_map go h
@[go_sem] theorem beqB (a b : Bool) : (a == b) = decide (a = b) := by cases a <;> cases b <;> rfl
@[go_sem] theorem beqI (a b : Int) : (a == b) = decide (a = b) := by rw [Bool.eq_iff_iff]; simp
@[go_sem] theorem beqS (a b : ByteArray) : (a == b) = decide (a = b) := by rw [Bool.eq_iff_iff, beq_ba]; simp
@[go_sem] theorem bneI (a b : Int) : (a != b) = !decide (a = b) := by rw [bne, beqI]
@[go_sem] theorem bneS (a b : ByteArray) : (a != b) = !decide (a = b) := by rw [bne, beqS]
theorem E.eq_iff (a b : E) : a = b ↔ a.key = b.key ∧ a.text = b.text := by cases a; cases b; simp
theorem G.eq_iff (a b : G) : a = b ↔ a.key = b.key ∧ a.text = b.text ∧ a.mark = b.mark := by cases a; cases b; simp

def isKey (k : Int) : Bool := decide (0 ≤ k) && decide (k < 200)
/-- The marks, as the map keeps them. -/
def marks : Nat → List E → List (AV × AV)
  | _, [] => []
  | i, e :: l => (eo e, ii i) :: marks (i + 1) l
/-- Where an entry stands. -/
def posE (e : E) (L : List E) : Option Nat := if e ∈ L then some (L.findIdx (· = e)) else none
theorem posE_none {e : E} {L : List E} (h : e ∉ L) : posE e L = none := if_neg h
theorem posE_some {e : E} {L : List E} (h : e ∈ L) : posE e L = some (L.findIdx (· = e)) := if_pos h

theorem keyEq_eo (a b : E) : keyEq Tryd.prog 74 (eo a) (eo b) = some (decide (a = b)) := by
  simp only [keyEq, tk74, ek74, if_true, eqFs, tk3, tk9, eqV]
  simp only [E.eq_iff, beqS]
  rw [Option.some.injEq, Bool.eq_iff_iff]; simp

theorem find_marks (e : E) : ∀ (L : List E) (i : Nat), findA Tryd.prog 74 (eo e) (marks i L) = some (if e ∈ L then some (ii ((i + L.findIdx (· = e) : Nat))) else none)
  | [], i => by simp [marks, findA]
  | a :: L, i => by
    simp only [marks, findA, keyEq_eo]
    by_cases h : e = a
    · subst h; simp [List.findIdx_cons]
    · have hd : decide (e = a) = false := by simp [h]
      have hd2 : decide (a = e) = false := by simp [Ne.symm h]
      rw [hd]
      simp only []
      rw [find_marks e L (i + 1)]
      by_cases hm : e ∈ L
      · simp only [hm, if_true, List.mem_cons, or_true, List.findIdx_cons, hd2, cond_false]
        congr 4; omega
      · simp [hm, h]

theorem upd_marks (e : E) : ∀ (L : List E) (i : Nat), e ∉ L → updA Tryd.prog 74 (eo e) (ii (i + L.length : Nat)) (marks i L) = some (marks i (L ++ [e]))
  | [], i, _ => by simp [marks, updA]
  | a :: L, i, h => by
    simp only [List.mem_cons, not_or] at h
    have hd : decide (e = a) = false := by simp [h.1]
    simp only [marks, updA, keyEq_eo, hd, List.cons_append]
    have := upd_marks e L (i + 1) h.2
    rw [show i + 1 + L.length = i + (a :: L).length by simp; omega] at this
    rw [this]; rfl


attribute [local irreducible] AWP Go.Ab.Sub Means MeansH CallK CallG CallT CallGT CallU
theorem key_m (k : Int) : Means true Tryd.prog 50 [ii k] (bb (isKey k)) := by
  refine means_fn true 9 [.tmp 2] Tryd.func50 rfl rfl rfl (by simp) (by decide) rfl fun X hX => ?_
  (repeat (first | refine awp_seq ?_ | refine awp_block ?_ | ((first | refine awp_runG [0, 2] hX ?_ | refine awp_drawnG [0, 2] hX mixed ?_ | refine awp_ret ?_ | refine awp_skip ?_ | refine awp_exit ?_); (simp [go_sem]; try (refine ⟨by kernel_rfl, ?_⟩)))))
  simp [isKey]

/-- A ring in memory. -/
abbrev ringH (L : List E) : List Cell := [.row ⟨72, 2, [.agg [.ow 1, .ow 2]]⟩, .row ⟨74, 2, L.map eo⟩, .map ⟨74, 3, marks 0 L⟩]
/-- What its signing leaves. -/
abbrev ringN (L : List E) : List Cell := [.row ⟨72, 2, [.agg [.ow 3, .ow 2]]⟩, .dead, .map ⟨74, 3, marks 0 L⟩, .row ⟨74, 2, L.map eo⟩]

@[go_sem] theorem look_marks (e : E) (L : List E) : lookA Tryd.prog 74 3 (eo e) (marks 0 L) true = some (.tup [ii (if e ∈ L then (L.findIdx (· = e) : Nat) else 0), bb (decide (e ∈ L))]) := by
  unfold lookA
  rw [find_marks, tk3]
  by_cases h : e ∈ L <;> simp [h, foundA]
@[go_sem] theorem keyOK_eo (e : E) : keyEq Tryd.prog 74 (eo e) (eo e) = some true := by rw [keyEq_eo]; simp

/-- Whether a signature holds. -/
def holds (L : List E) (g : G) : Bool := decide (⟨g.key, g.text⟩ ∈ L) && decide ((L.findIdx (· = ⟨g.key, g.text⟩) : Int) = g.mark)

theorem valid_m (L : List E) (g : G) : MeansH Tryd.prog 51 (ringH L) [.el 0 2 0 0, go g] (bb (holds L g)) (ringH L) := by
  refine meansH_fn 3 27 [.tmp 4] Tryd.func51 rfl rfl rfl (by simp) (by decide) rfl fun X hX => ?_
  (repeat (first | refine awp_seq ?_ | refine awp_block ?_ | ((first | refine awp_runG [0, 1, 3, 4, 5, 6, 1000000, 1000001, 1000002] hX ?_ | refine awp_drawnG [0, 1, 3, 4, 5, 6, 1000000, 1000001, 1000002] hX mixed ?_ | refine awp_skip ?_ | refine awp_exit ?_); (simp [go_sem, look_marks ⟨g.key, g.text⟩ L, keyOK_eo ⟨g.key, g.text⟩]; try (refine ⟨by kernel_rfl, ?_⟩)))))
  refine awp_ret ?_; (try simp only [thenQ, blkQ, loopQ]); refine retH_ret [(4, bb (holds L g)), (1000000, .ow 0), (1000001, .ow 1), (1000002, .ow 2)] [.old 0 ⟨72, 2, [.agg [.ow 1, .ow 2]]⟩, .old 1 ⟨74, 2, L.map eo⟩, .oldM 2 ⟨74, 3, marks 0 L⟩] ?_
  simp [go_sem, holds]
  by_cases h : (⟨g.key, g.text⟩ : E) ∈ L <;> simp [h]

/-- What signing returns, and the entries behind it. -/
def sigOf (L : List E) (k : Int) (t : ByteArray) : G := if isKey k then ⟨k, t, if ⟨k, t⟩ ∈ L then (L.findIdx (· = ⟨k, t⟩) : Nat) else L.length⟩ else ⟨0, ⟨#[]⟩, 0⟩
def sigL (L : List E) (k : Int) (t : ByteArray) : List E := if isKey k && !decide (⟨k, t⟩ ∈ L) then L ++ [⟨k, t⟩] else L

set_option maxHeartbeats 400000 in
theorem sign_m (L : List E) (hl : L.length ≤ 1000) (k : Int) (t : ByteArray) : MeansH Tryd.prog 28 (ringH L) [.el 0 2 0 0, ii k, ss t] (go (sigOf L k t)) (ringN (sigL L k t)) := by
  refine meansH_fn 3 53 [.cell 6 51] Tryd.func28 rfl rfl rfl (by simp) (by decide) rfl fun X hX => ?_
  (repeat (first | refine awp_seq ?_ | refine awp_block ?_ | ((first | refine awp_runG [0, 1, 2, 6, 7, 8, 9, 12, 27, 1000000, 1000001, 1000002] hX ?_ | refine awp_drawnG [0, 1, 2, 6, 7, 8, 9, 12, 27, 1000000, 1000001, 1000002] hX mixed ?_ | refine awp_skip ?_ | refine awp_exit ?_); (simp [go_sem]; try (refine ⟨by kernel_rfl, ?_⟩)))))
  first | refine callK_intro (key_m k) rfl (by simp [go_sem]) rfl ?_ | refine callT_intro (key_m k) rfl (by simp [go_sem]) rfl ?_
  try (simp [go_sem]; try (refine ⟨by kernel_rfl, ?_⟩))
  (repeat (first | refine awp_seq ?_ | refine awp_block ?_ | ((first | refine awp_runG [0, 1, 2, 6, 7, 8, 9, 12, 27, 1000000, 1000001, 1000002] hX ?_ | refine awp_drawnG [0, 1, 2, 6, 7, 8, 9, 12, 27, 1000000, 1000001, 1000002] hX mixed ?_ | refine awp_skip ?_ | refine awp_exit ?_); (simp [go_sem]; try (refine ⟨by kernel_rfl, ?_⟩)))))
  refine awp_cond (b := !isKey k) (by simp [go_sem]) (fun hb => ?_) (fun hb => ?_)
  · simp at hb
    (repeat (first | refine awp_seq ?_ | refine awp_block ?_ | ((first | refine awp_runG [0, 1, 2, 6, 7, 8, 9, 12, 27, 1000000, 1000001, 1000002] hX ?_ | refine awp_drawnG [0, 1, 2, 6, 7, 8, 9, 12, 27, 1000000, 1000001, 1000002] hX mixed ?_ | refine awp_skip ?_ | refine awp_exit ?_); (simp [go_sem]; try (refine ⟨by kernel_rfl, ?_⟩)))))
    refine awp_ret ?_; (try simp only [thenQ, blkQ, loopQ]); refine retH_ret [(1000000, .ow 0), (1000001, .ow 1), (1000002, .ow 2)] [.old 0 ⟨72, 2, [.agg [.ow 3, .ow 2]]⟩, .gone 1, .oldM 2 ⟨74, 3, marks 0 L⟩, .old 1 ⟨74, 2, L.map eo⟩] ?_
    simp [go_sem, sigOf, sigL, hb]
  · simp at hb
    (repeat (first | refine awp_seq ?_ | refine awp_block ?_ | ((first | refine awp_runG [0, 1, 2, 6, 7, 8, 9, 12, 27, 1000000, 1000001, 1000002] hX ?_ | refine awp_drawnG [0, 1, 2, 6, 7, 8, 9, 12, 27, 1000000, 1000001, 1000002] hX mixed ?_ | refine awp_skip ?_ | refine awp_exit ?_); (simp [go_sem, look_marks ⟨k, t⟩ L, keyOK_eo ⟨k, t⟩]; try (refine ⟨by kernel_rfl, ?_⟩)))))
    refine awp_cond (b := !decide (⟨k, t⟩ ∈ L)) (by simp [go_sem]) (fun hc => ?_) (fun hc => ?_)
    · simp at hc
      have hu := upd_marks ⟨k, t⟩ L 0 hc
      rw [Nat.zero_add] at hu
      (repeat (first | refine awp_seq ?_ | refine awp_block ?_ | ((first | refine awp_runG [0, 1, 2, 6, 7, 8, 9, 12, 27, 1000000, 1000001, 1000002] hX ?_ | refine awp_drawnG [0, 1, 2, 6, 7, 8, 9, 12, 27, 1000000, 1000001, 1000002] hX mixed ?_ | refine awp_skip ?_ | refine awp_exit ?_); (simp [go_sem, hu, keyOK_eo ⟨k, t⟩]; try (refine ⟨by kernel_rfl, ?_⟩)))))
      (repeat refine And.intro (by first | omega | (unfold maxLen; omega) | kernel_rfl | (refine ⟨by first | omega | (unfold maxLen; omega), by first | omega | (unfold maxLen; omega)⟩) | grind) ?_)
      (repeat (first | refine awp_seq ?_ | refine awp_block ?_ | ((first | refine awp_runG [0, 1, 2, 6, 7, 8, 9, 12, 27, 1000000, 1000001, 1000002] hX ?_ | refine awp_drawnG [0, 1, 2, 6, 7, 8, 9, 12, 27, 1000000, 1000001, 1000002] hX mixed ?_ | refine awp_skip ?_ | refine awp_exit ?_); (simp [go_sem, hu, keyOK_eo ⟨k, t⟩]; try (refine ⟨by kernel_rfl, ?_⟩)))))
      refine awp_ret ?_; (try simp only [thenQ, blkQ, loopQ]); refine retH_ret [(1000000, .ow 0), (1000001, .ow 1), (1000002, .ow 2)] [.old 0 ⟨72, 2, [.agg [.ow 3, .ow 2]]⟩, .gone 1, .oldM 2 ⟨74, 3, marks 0 (L ++ [⟨k, t⟩])⟩, .old 6 ⟨74, 2, L.map eo ++ [eo ⟨k, t⟩]⟩] ?_
      simp [go_sem, sigOf, sigL, hb, hc]
    · simp at hc
      (repeat (first | refine awp_seq ?_ | refine awp_block ?_ | ((first | refine awp_runG [0, 1, 2, 6, 7, 8, 9, 12, 27, 1000000, 1000001, 1000002] hX ?_ | refine awp_drawnG [0, 1, 2, 6, 7, 8, 9, 12, 27, 1000000, 1000001, 1000002] hX mixed ?_ | refine awp_skip ?_ | refine awp_exit ?_); (simp [go_sem]; try (refine ⟨by kernel_rfl, ?_⟩)))))
      refine awp_ret ?_; (try simp only [thenQ, blkQ, loopQ]); refine retH_ret [(1000000, .ow 0), (1000001, .ow 1), (1000002, .ow 2)] [.old 0 ⟨72, 2, [.agg [.ow 3, .ow 2]]⟩, .gone 1, .oldM 2 ⟨74, 3, marks 0 L⟩, .old 1 ⟨74, 2, L.map eo⟩] ?_
      simp [go_sem, sigOf, sigL, hb, hc]

theorem new_m : MeansH Tryd.prog 27 [] [] (.el 0 2 0 0) (ringH []) := by
  refine meansH_fn 0 4 [.tmp 0] Tryd.func27 rfl rfl rfl (by simp) (by decide) rfl fun X hX => ?_
  (repeat (first | refine awp_seq ?_ | refine awp_block ?_ | ((first | refine awp_runG [0] hX ?_ | refine awp_drawnG [0] hX mixed ?_ | refine awp_skip ?_ | refine awp_exit ?_); (simp [go_sem]; try (refine ⟨by kernel_rfl, ?_⟩)))))
  refine awp_ret ?_; (try simp only [thenQ, blkQ, loopQ]); refine retH_ret [(0, .el 0 2 0 0)] [.old 1 ⟨72, 2, [.agg [.ow 1, .ow 2]]⟩, .birth 74 2, .oldM 0 ⟨74, 3, []⟩] ?_
  simp [go_sem, marks]

end Go.Proofs.YtjgkjenbgadacaaDoor.S
