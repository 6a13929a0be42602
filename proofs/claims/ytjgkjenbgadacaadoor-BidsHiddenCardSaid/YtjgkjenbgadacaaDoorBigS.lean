/-
  Layer 4: how big integers lie in memory; bits.
-/
import Derived.Test.YtjgkjenbgadacaaDoorFacts
import Derived.Test.YtjgkjenbgadacaaDoorFw5
import Derived.Test.YtjgkjenbgadacaaDoorBigP
set_option linter.all false
namespace Go.Proofs.YtjgkjenbgadacaaDoor
open Go.RowKit Go.Ab

abbrev ii (n : Int) : AV := .v (.int .i64 n)
abbrev uu (n : Int) : AV := .v (.int .u64 n)
abbrev bb (b : Bool) : AV := .v (.bool b)
abbrev il (l : List Int) : AV := .sl (l.map ii)
theorem mixed : Tryd.prog.follows .mixedOrders = true := by kernel_rfl
@[go_sem] theorem nth_ii {L : List Int} {k : Nat} (h : k < L.length) : nth (L.map ii) k = ii L[k] := nth_map ii h
@[go_sem] theorem beqI (a b : Int) : (a == b) = decide (a = b) := by rw [Bool.eq_iff_iff]; simp
@[go_sem] theorem bneI (a b : Int) : (a != b) = !decide (a = b) := by rw [bne, beqI]
@[go_sem] theorem beqB (a b : Bool) : (a == b) = decide (a = b) := by cases a <;> cases b <;> rfl

@[go_sem] theorem wm1 : IntKind.i64.wrap (-1) = -1 := by decide

@[go_sem] theorem nth_nil (n : Nat) : nth [] n = .bad := rfl

theorem nat_mask (n : Nat) : n &&& 1048575 = n % 1048576 := Nat.and_two_pow_sub_one_eq_mod n 20
theorem nat_one (n : Nat) : n &&& 1 = n % 2 := Nat.and_two_pow_sub_one_eq_mod n 1
@[go_sem] theorem and_mask (x : Int) : andI .i64 x 1048575 = x % 1048576 := by
  unfold andI
  rw [BitVec.toNat_and, BitVec.toNat_ofInt, BitVec.toNat_ofInt]
  show IntKind.i64.wrap (((x % (2 ^ 64 : Nat)).toNat &&& ((1048575 : Int) % (2 ^ 64 : Nat)).toNat : Nat) : Int) = _
  rw [show ((1048575 : Int) % (2 ^ 64 : Nat)).toNat = 1048575 by decide, nat_mask, IntWalk.i64_in _ (by omega)]
  omega
@[go_sem] theorem and_one (x : Int) : andI .i64 x 1 = x % 2 := by
  unfold andI
  rw [BitVec.toNat_and, BitVec.toNat_ofInt, BitVec.toNat_ofInt]
  show IntKind.i64.wrap (((x % (2 ^ 64 : Nat)).toNat &&& ((1 : Int) % (2 ^ 64 : Nat)).toNat : Nat) : Int) = _
  rw [show ((1 : Int) % (2 ^ 64 : Nat)).toNat = 1 by decide, nat_one, IntWalk.i64_in _ (by omega)]
  omega
@[go_sem] theorem fdB (x : Int) : x.fdiv 1048576 = x / 1048576 := Int.fdiv_eq_ediv_of_nonneg _ (by decide)
theorem or_dig {r a : Int} (h1 : 0 ≤ r) (h2 : r < 8796093022208) (h3 : 0 ≤ a) (h4 : a < 1048576) : orI .i64 (r * 1048576) a = r * 1048576 + a := by
  obtain ⟨m, rfl⟩ := Int.eq_ofNat_of_zero_le h1
  obtain ⟨n, rfl⟩ := Int.eq_ofNat_of_zero_le h3
  unfold orI
  rw [BitVec.toNat_or, BitVec.toNat_ofInt, BitVec.toNat_ofInt]
  show IntKind.i64.wrap (((((m : Int) * 1048576) % (2 ^ 64 : Nat)).toNat ||| ((n : Int) % (2 ^ 64 : Nat)).toNat : Nat) : Int) = _
  rw [show (((m : Int) * 1048576) % (2 ^ 64 : Nat)).toNat = m <<< 20 by rw [Nat.shiftLeft_eq]; omega, show ((n : Int) % (2 ^ 64 : Nat)).toNat = n by omega,
    ← Nat.shiftLeft_add_eq_or_of_lt (by omega), Nat.shiftLeft_eq, IntWalk.i64_in _ (by omega)]
  omega

end Go.Proofs.YtjgkjenbgadacaaDoor
