/-
  Layer 24: the text of a hidden bid.
-/
import Derived.Test.YtjgkjenbgadacaaDoorBidS
import Derived.Test.YtjgkjenbgadacaaDoorBidC
import Derived.Test.YtjgkjenbgadacaaDoorShelf
import Derived.Test.YtjgkjenbgadacaaDoorFw5
import Derived.Lib.QuietBelow
set_option linter.all false
namespace Go.Proofs.YtjgkjenbgadacaaDoor
open Go.RowKit Go.Ab
attribute [local irreducible] AWP Go.Ab.Sub Means MeansH CallK CallG CallT CallGT CallU

abbrev sb (l : List UInt8) : AV := .v (.string ⟨l.toArray⟩)
@[go_sem] theorem sb_app (a b : List UInt8) : ((⟨a.toArray⟩ : ByteArray) ++ ⟨b.toArray⟩) = ⟨(a ++ b).toArray⟩ := by
  apply ByteArray.ext; simp
@[go_sem] theorem sb_size (a : List UInt8) : (⟨a.toArray⟩ : ByteArray).size = a.length := by simp [ByteArray.size]
theorem sb_eq (a b : List UInt8) : (((⟨a.toArray⟩ : ByteArray) = ⟨b.toArray⟩)) = (a = b) := by
  apply propext
  constructor
  · intro h; have := congrArg (fun s : ByteArray => s.data.toList) h; simpa using this
  · intro h; rw [h]

theorem pow10 {w : World} {M : Nat → Prop} (h : GlobW w M) : Lib.TabIs Tryd.prog w "internal/strconv.uint64pow10" .u64 Lib.pow10Tab := by
  have := glob_var h (P := Tryd.prog) (n := "internal/strconv.uint64pow10") (g := 0) (cs := Lib.pow10Tab.map fun z => Value.int .u64 z) (by kernel_rfl) (by rw [globs]; exact List.mem_cons.2 (.inl (by kernel_rfl)))
  exact this

theorem itoa_m (n : Int) (h0 : 0 ≤ n) (h1 : n ≤ 9223372036854775807) : Means true Tryd.prog 76 [ii n] (sb (Lib.decDigits n.toNat)) := by
  have hi : Lib.itoa n = Lib.decDigits n.toNat := by unfold Lib.itoa; rw [if_neg (by omega)]
  refine means_scal (args := [.int .i64 n]) (x := .string ⟨(Lib.decDigits n.toNat).toArray⟩) (fun _ _ => .v _) fun w M hM hg => ?_
  refine (Tryd.strconv_Itoa n (by omega) (by omega) w (pow10 hg)).mono fun e w' ⟨he, k, os, hw⟩ => ?_
  rw [hi] at he
  refine ⟨he, ?_⟩
  rw [hw]
  exact ⟨rfl, rfl, rfl, by simp [Go.Sort.grow, World.drewN], fun k hk => by simp [Go.Sort.grow, World.drewN, Array.getElem?_append_left hk]⟩

theorem nd_le : ∀ (k u : Nat), u < 10 ^ (k + 1) → Lib.nDigits u ≤ k + 1
  | 0, u, h => by rw [Lib.nDigits_small (by simpa using h)]; omega
  | k + 1, u, h => by
    by_cases hu : u < 10
    · rw [Lib.nDigits_small hu]; omega
    · rw [Lib.nDigits_big hu]
      have : u / 10 < 10 ^ (k + 1) := by rw [Nat.div_lt_iff_lt_mul (by omega), ← Nat.pow_succ]; exact h
      have := nd_le k (u / 10) this
      omega
theorem dd_len {n : Int} (h : 0 ≤ n ∧ n ≤ 9223372036854775807) : (Lib.decDigits n.toNat).length ≤ 19 := by
  rw [Lib.decDigits_length]
  exact nd_le 18 _ (by omega)

/-- A number as text; none for a negative one. -/
def numT (n : Int) : List UInt8 := if n < 0 then [] else Lib.decDigits n.toNat ++ [59]
theorem numT_len {n : Int} (h : n ≤ 9223372036854775807) : (numT n).length ≤ 20 := by
  unfold numT
  split
  · simp
  · have := dd_len (n := n) (by omega)
    simp; omega
def hidT (c p n : Int) : List UInt8 := if c < 0 ∨ p < 0 ∨ n < 0 then [] else [98, 105, 100, 58] ++ numT c ++ numT p ++ numT n

theorem wint_m (n : Int) (h0 : 0 ≤ n) (h1 : n ≤ 9223372036854775807) : Means true Tryd.prog 61 [ii n] (sb (numT n)) := by
  have c1 := itoa_m n h0 h1
  have hl := dd_len ⟨h0, h1⟩
  have e : numT n = Lib.decDigits n.toNat ++ [59] := if_neg (by omega)
  rw [e]
  generalize Lib.decDigits n.toNat = D at *
  refine means_fn true 6 [.tmp 2] Tryd.func61 rfl rfl rfl (by simp) (by decide) rfl fun X hX => ?_
  (repeat (first | refine awp_seq ?_ | refine awp_block ?_ | ((first | refine awp_runG [0, 2] hX ?_ | refine awp_drawnG [0, 2] hX mixed ?_ | refine awp_ret ?_ | refine awp_skip ?_ | refine awp_exit ?_); (simp [go_sem]; try (refine ⟨by kernel_rfl, ?_⟩)))))
  first | refine callK_intro (c1) rfl (by simp [go_sem]) rfl ?_ | refine callT_intro (c1) rfl (by simp [go_sem]) rfl ?_
  try (simp [go_sem]; try (refine ⟨by kernel_rfl, ?_⟩))
  (repeat (first | refine awp_seq ?_ | refine awp_block ?_ | ((first | refine awp_runG [0, 2] hX ?_ | refine awp_drawnG [0, 2] hX mixed ?_ | refine awp_ret ?_ | refine awp_skip ?_ | refine awp_exit ?_); (simp [go_sem]; try (refine ⟨by kernel_rfl, ?_⟩)))))
  try (repeat refine And.intro (by first | omega | (unfold maxLen; omega) | kernel_rfl | (refine ⟨by first | omega | (unfold maxLen; omega), by first | omega | (unfold maxLen; omega)⟩) | grind) ?_)
  try (repeat (first | refine awp_seq ?_ | refine awp_block ?_ | ((first | refine awp_runG [0, 2] hX ?_ | refine awp_drawnG [0, 2] hX mixed ?_ | refine awp_ret ?_ | refine awp_skip ?_ | refine awp_exit ?_); (simp [go_sem]; try (refine ⟨by kernel_rfl, ?_⟩)))))
theorem num_m (n : Int) (h1 : n ≤ 9223372036854775807) : Means true Tryd.prog 48 [ii n] (sb (numT n)) := by
  by_cases h : n < 0
  · have e : numT n = [] := if_pos h
    rw [e]
    refine means_fn true 7 [.tmp 2] Tryd.func48 rfl rfl rfl (by simp) (by decide) rfl fun X hX => ?_
    (repeat (first | refine awp_seq ?_ | refine awp_block ?_ | ((first | refine awp_runG [0, 2, 4] hX ?_ | refine awp_drawnG [0, 2, 4] hX mixed ?_ | refine awp_ret ?_ | refine awp_skip ?_ | refine awp_exit ?_); (simp [go_sem]; try (refine ⟨by kernel_rfl, ?_⟩)))))
    refine awp_cond (b := true) (by simp [go_sem, h]) (fun _ => ?_) (fun hb => by cases hb)
    (repeat (first | refine awp_seq ?_ | refine awp_block ?_ | ((first | refine awp_runG [0, 2, 4] hX ?_ | refine awp_drawnG [0, 2, 4] hX mixed ?_ | refine awp_ret ?_ | refine awp_skip ?_ | refine awp_exit ?_); (simp [go_sem]; try (refine ⟨by kernel_rfl, ?_⟩)))))
  · have c1 := wint_m n (by omega) h1
    refine means_fn true 7 [.tmp 2] Tryd.func48 rfl rfl rfl (by simp) (by decide) rfl fun X hX => ?_
    (repeat (first | refine awp_seq ?_ | refine awp_block ?_ | ((first | refine awp_runG [0, 2, 4] hX ?_ | refine awp_drawnG [0, 2, 4] hX mixed ?_ | refine awp_ret ?_ | refine awp_skip ?_ | refine awp_exit ?_); (simp [go_sem]; try (refine ⟨by kernel_rfl, ?_⟩)))))
    refine awp_cond (b := false) (by simp [go_sem]; omega) (fun hb => by cases hb) (fun _ => ?_)
    (repeat (first | refine awp_seq ?_ | refine awp_block ?_ | ((first | refine awp_runG [0, 2, 4] hX ?_ | refine awp_drawnG [0, 2, 4] hX mixed ?_ | refine awp_ret ?_ | refine awp_skip ?_ | refine awp_exit ?_); (simp [go_sem]; try (refine ⟨by kernel_rfl, ?_⟩)))))
    first | refine callK_intro (c1) rfl (by simp [go_sem]) rfl ?_ | refine callT_intro (c1) rfl (by simp [go_sem]) rfl ?_
    try (simp [go_sem]; try (refine ⟨by kernel_rfl, ?_⟩))
    (repeat (first | refine awp_seq ?_ | refine awp_block ?_ | ((first | refine awp_runG [0, 2, 4] hX ?_ | refine awp_drawnG [0, 2, 4] hX mixed ?_ | refine awp_ret ?_ | refine awp_skip ?_ | refine awp_exit ?_); (simp [go_sem]; try (refine ⟨by kernel_rfl, ?_⟩)))))

theorem hidden_m (c p n : Int) (hc : c ≤ 9223372036854775807) (hp : p ≤ 9223372036854775807) (hn : n ≤ 9223372036854775807) : Means true Tryd.prog 23 [ii c, ii p, ii n] (sb (hidT c p n)) := by
  by_cases h : c < 0 ∨ p < 0 ∨ n < 0
  · have e : hidT c p n = [] := if_pos h
    rw [e]
    refine means_fn true 21 [.tmp 6] Tryd.func23 rfl rfl rfl (by simp) (by decide) rfl fun X hX => ?_
    (repeat (first | refine awp_seq ?_ | refine awp_block ?_ | ((first | refine awp_runG [0, 1, 2, 6, 11] hX ?_ | refine awp_drawnG [0, 1, 2, 6, 11] hX mixed ?_ | refine awp_ret ?_ | refine awp_skip ?_ | refine awp_exit ?_); (simp [go_sem]; try (refine ⟨by kernel_rfl, ?_⟩)))))
    refine awp_cond (b := true) (by simp [go_sem]; omega) (fun _ => ?_) (fun hb => by cases hb)
    (repeat (first | refine awp_seq ?_ | refine awp_block ?_ | ((first | refine awp_runG [0, 1, 2, 6, 11] hX ?_ | refine awp_drawnG [0, 1, 2, 6, 11] hX mixed ?_ | refine awp_ret ?_ | refine awp_skip ?_ | refine awp_exit ?_); (simp [go_sem]; try (refine ⟨by kernel_rfl, ?_⟩)))))
  · have e : hidT c p n = [98, 105, 100, 58] ++ numT c ++ numT p ++ numT n := if_neg h
    rw [e]
    have c1 := num_m c hc
    have c2 := num_m p hp
    have c3 := num_m n hn
    have l1 := numT_len hc
    have l2 := numT_len hp
    have l3 := numT_len hn
    have es : ∀ l : List UInt8, (⟨#[98, 105, 100, 58]⟩ : ByteArray) ++ ⟨l.toArray⟩ = ⟨([98, 105, 100, 58] ++ l).toArray⟩ := fun l => sb_app [98, 105, 100, 58] l
    have ez : (⟨#[98, 105, 100, 58]⟩ : ByteArray).size = 4 := rfl
    have hmn : ¬ min (min c p) n < 0 := by omega
    generalize numT c = A at *
    generalize numT p = B at *
    generalize numT n = C at *
    refine means_fn true 21 [.tmp 6] Tryd.func23 rfl rfl rfl (by simp) (by decide) rfl fun X hX => ?_
    (repeat (first | refine awp_seq ?_ | refine awp_block ?_ | ((first | refine awp_runG [0, 1, 2, 6, 11] hX ?_ | refine awp_drawnG [0, 1, 2, 6, 11] hX mixed ?_ | refine awp_ret ?_ | refine awp_skip ?_ | refine awp_exit ?_); (simp [go_sem]; try (refine ⟨by kernel_rfl, ?_⟩)))))
    refine awp_cond (b := false) (by simp [go_sem]; omega) (fun hb => by cases hb) (fun _ => ?_)
    (repeat (first | refine awp_seq ?_ | refine awp_block ?_ | ((first | refine awp_runG [0, 1, 2, 6, 11] hX ?_ | refine awp_drawnG [0, 1, 2, 6, 11] hX mixed ?_ | refine awp_ret ?_ | refine awp_skip ?_ | refine awp_exit ?_); (simp [go_sem]; try (refine ⟨by kernel_rfl, ?_⟩)))))
    first | refine callK_intro (c1) rfl (by simp [go_sem]) rfl ?_ | refine callT_intro (c1) rfl (by simp [go_sem]) rfl ?_
    try (simp [go_sem, es, ez]; try (refine ⟨by kernel_rfl, ?_⟩))
    try (repeat refine And.intro (by first | omega | (unfold maxLen; omega) | kernel_rfl | (refine ⟨by first | omega | (unfold maxLen; omega), by first | omega | (unfold maxLen; omega)⟩) | grind) ?_)
    try (simp [go_sem, es, ez]; try (refine ⟨by kernel_rfl, ?_⟩))
    first | refine callK_intro (c2) rfl (by simp [go_sem]) rfl ?_ | refine callT_intro (c2) rfl (by simp [go_sem]) rfl ?_
    try (simp [go_sem, es, ez]; try (refine ⟨by kernel_rfl, ?_⟩))
    try (repeat refine And.intro (by first | omega | (unfold maxLen; omega) | kernel_rfl | (refine ⟨by first | omega | (unfold maxLen; omega), by first | omega | (unfold maxLen; omega)⟩) | grind) ?_)
    try (simp [go_sem, es, ez]; try (refine ⟨by kernel_rfl, ?_⟩))
    first | refine callK_intro (c3) rfl (by simp [go_sem]) rfl ?_ | refine callT_intro (c3) rfl (by simp [go_sem]) rfl ?_
    try (simp [go_sem, es, ez]; try (refine ⟨by kernel_rfl, ?_⟩))
    try (repeat refine And.intro (by first | omega | (unfold maxLen; omega) | kernel_rfl | (refine ⟨by first | omega | (unfold maxLen; omega), by first | omega | (unfold maxLen; omega)⟩) | grind) ?_)
    try (simp [go_sem, es, ez]; try (refine ⟨by kernel_rfl, ?_⟩))
    (repeat (first | refine awp_seq ?_ | refine awp_block ?_ | ((first | refine awp_runG [0, 1, 2, 6, 11] hX ?_ | refine awp_drawnG [0, 1, 2, 6, 11] hX mixed ?_ | refine awp_ret ?_ | refine awp_skip ?_ | refine awp_exit ?_); (simp [go_sem]; try (refine ⟨by kernel_rfl, ?_⟩)))))

end Go.Proofs.YtjgkjenbgadacaaDoor
