/-
  Layer 6 in plain words: entries, marks.
-/
import Derived.Test.YtgfgajofilcniaaFacts
set_option linter.all false
namespace Go.Proofs.Ytgfgajofilcniaa
open Go.RowKit Go.Ab

abbrev ii (n : Int) : AV := .v (.int .i64 n)
abbrev bb (b : Bool) : AV := .v (.bool b)
abbrev ss (s : ByteArray) : AV := .v (.string s)
theorem mixed : Try.prog.follows .mixedOrders = true := by kernel_rfl

/-- An entry. -/
structure E where
  key : Int
  text : ByteArray
  deriving DecidableEq
abbrev eo (e : E) : AV := .agg [ii e.key, ss e.text]
/-- A signature. -/
structure G where
  key : Int
  text : ByteArray
  mark : Int
  deriving DecidableEq
abbrev go (g : G) : AV := .agg [ii g.key, ss g.text, ii g.mark]
@[go_sem] theorem nth_eo {L : List E} {k : Nat} (h : k < L.length) : nth (L.map eo) k = eo L[k] := nth_map eo h
@[go_sem] theorem nth_go {L : List G} {k : Nat} (h : k < L.length) : nth (L.map go) k = go L[k] := nth_map go h
@[go_sem] theorem beqB (a b : Bool) : (a == b) = decide (a = b) := by cases a <;> cases b <;> rfl
@[go_sem] theorem beqI (a b : Int) : (a == b) = decide (a = b) := by rw [Bool.eq_iff_iff]; simp
@[go_sem] theorem beqS (a b : ByteArray) : (a == b) = decide (a = b) := by rw [Bool.eq_iff_iff, beq_ba]; simp
@[go_sem] theorem bneI (a b : Int) : (a != b) = !decide (a = b) := by rw [bne, beqI]
@[go_sem] theorem bneS (a b : ByteArray) : (a != b) = !decide (a = b) := by rw [bne, beqS]
theorem E.eq_iff (a b : E) : a = b ↔ a.key = b.key ∧ a.text = b.text := by cases a; cases b; simp
theorem G.eq_iff (a b : G) : a = b ↔ a.key = b.key ∧ a.text = b.text ∧ a.mark = b.mark := by cases a; cases b; simp

def isKey (k : Int) : Bool := decide (0 ≤ k) && decide (k < 200)
/-- The marks, as the map keeps them. -/
def marks : Nat → List E → List (AV × AV)
  | _, [] => []
  | i, e :: l => (eo e, ii i) :: marks (i + 1) l
/-- Where an entry stands. -/
def posE (e : E) (L : List E) : Option Nat := if e ∈ L then some (L.findIdx (· = e)) else none
theorem posE_none {e : E} {L : List E} (h : e ∉ L) : posE e L = none := if_neg h
theorem posE_some {e : E} {L : List E} (h : e ∈ L) : posE e L = some (L.findIdx (· = e)) := if_pos h

theorem keyEq_eo (a b : E) : keyEq Try.prog 24 (eo a) (eo b) = some (decide (a = b)) := by
  simp only [keyEq, tk24, ek24, if_true, eqFs, tk3, tk9, eqV]
  simp only [E.eq_iff, beqS]
  rw [Option.some.injEq, Bool.eq_iff_iff]; simp

theorem find_marks (e : E) : ∀ (L : List E) (i : Nat), findA Try.prog 24 (eo e) (marks i L) = some (if e ∈ L then some (ii ((i + L.findIdx (· = e) : Nat))) else none)
  | [], i => by simp [marks, findA]
  | a :: L, i => by
    simp only [marks, findA, keyEq_eo]
    by_cases h : e = a
    · subst h; simp [List.findIdx_cons]
    · have hd : decide (e = a) = false := by simp [h]
      have hd2 : decide (a = e) = false := by simp [Ne.symm h]
      rw [hd]
      simp only []
      rw [find_marks e L (i + 1)]
      by_cases hm : e ∈ L
      · simp only [hm, if_true, List.mem_cons, or_true, List.findIdx_cons, hd2, cond_false]
        congr 4; omega
      · simp [hm, h]

theorem upd_marks (e : E) : ∀ (L : List E) (i : Nat), e ∉ L → updA Try.prog 24 (eo e) (ii (i + L.length : Nat)) (marks i L) = some (marks i (L ++ [e]))
  | [], i, _ => by simp [marks, updA]
  | a :: L, i, h => by
    simp only [List.mem_cons, not_or] at h
    have hd : decide (e = a) = false := by simp [h.1]
    simp only [marks, updA, keyEq_eo, hd, List.cons_append]
    have := upd_marks e L (i + 1) h.2
    rw [show i + 1 + L.length = i + (a :: L).length by simp; omega] at this
    rw [this]; rfl

end Go.Proofs.Ytgfgajofilcniaa
