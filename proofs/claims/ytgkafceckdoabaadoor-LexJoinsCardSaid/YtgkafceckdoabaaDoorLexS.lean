/-
  Layer 14: how tokens and strings lie in memory.
-/
import Derived.Test.YtgkafceckdoabaaDoorFacts
import Derived.Test.YtgkafceckdoabaaDoorLexP
set_option linter.all false
namespace Go.Proofs.YtgkafceckdoabaaDoor
open Go.RowKit Go.Ab

abbrev ii (n : Int) : AV := .v (.int .i64 n)
abbrev bb (b : Bool) : AV := .v (.bool b)
abbrev B (l : By) : ByteArray := ⟨l.toArray⟩
abbrev ss (l : By) : AV := .v (.string (B l))
abbrev uu (c : UInt8) : AV := .v (.int .u8 c.toNat)
abbrev fv (f : Nat) : AV := .v (.func (.func f) #[] #[])
theorem mixed : Tryd.prog.follows .mixedOrders = true := by kernel_rfl

abbrev tk (x : Tk) : AV := .agg [ii x.kind, ss x.text, ii x.n, ii x.pos]
@[go_sem] theorem nth_tk {L : List Tk} {k : Nat} (h : k < L.length) : nth (L.map tk) k = tk L[k] := nth_map tk h
@[go_sem] theorem nth_ss {L : List By} {k : Nat} (h : k < L.length) : nth (L.map ss) k = ss L[k] := nth_map ss h
@[go_sem] theorem beqB (a b : Bool) : (a == b) = decide (a = b) := by cases a <;> cases b <;> rfl
@[go_sem] theorem beqI (a b : Int) : (a == b) = decide (a = b) := by rw [Bool.eq_iff_iff]; simp
theorem B_inj {a b : By} : B a = B b ↔ a = b := by
  constructor
  · intro h; have := congrArg (fun s : ByteArray => s.data.toList) h; simpa using this
  · rintro rfl; rfl
@[go_sem] theorem beqS (a b : By) : (B a == B b) = decide (a = b) := by rw [Bool.eq_iff_iff, beq_ba]; simp [B_inj]
@[go_sem] theorem bneI (a b : Int) : (a != b) = !decide (a = b) := by rw [bne, beqI]
@[go_sem] theorem bneS (a b : By) : (B a != B b) = !decide (a = b) := by rw [bne, beqS]
@[go_sem] theorem sizeB (l : By) : (B l).size = l.length := by simp [ByteArray.size]
@[go_sem] theorem getB (l : By) (n : Nat) (d : UInt8) : l.toArray.getD n d = l.getD n d := by simp [Array.getD_eq_getD_getElem?, List.getD_eq_getElem?_getD]
@[go_sem] theorem getL {l : By} {n : Nat} (h : n < l.length) (d : UInt8) : l.getD n d = l[n] := by simp [List.getD_eq_getElem?_getD, h]
theorem ba_ext (x y : ByteArray) (h : x.data = y.data) : x = y := by cases x; cases y; simp at h; rw [h]
@[go_sem] theorem extB (l : By) (a b : Nat) : (B l).extract a b = B ((l.take b).drop a) := by
  apply ba_ext
  simp [List.drop_take]
@[go_sem] theorem appB (a b : By) : B a ++ B b = B (a ++ b) := by
  apply ba_ext; simp
@[go_sem] theorem takeLen (l : By) : l.take l.length = l := List.take_length
theorem Tk.eq_iff (a b : Tk) : a = b ↔ a.kind = b.kind ∧ a.text = b.text ∧ a.n = b.n ∧ a.pos = b.pos := by cases a; cases b; simp
theorem toB (s : ByteArray) : ∃ l : By, s = B l := ⟨s.data.toList, by simp⟩

/-- The signs. -/
def signs : List By := [[61, 61], [59], [44], [61], [60], [43], [45], [42], [47], [40], [41]]
@[go_sem] theorem gl0 : globV 0 = .ro (signs.map ss) := by rfl

theorem u8_eq (c d : UInt8) : decide ((c.toNat : Int) = (d.toNat : Int)) = (c == d) := by
  rw [Bool.eq_iff_iff]; simp
  exact ⟨fun h => UInt8.toNat_inj.1 (by omega), fun h => by rw [h]⟩

end Go.Proofs.YtgkafceckdoabaaDoor
