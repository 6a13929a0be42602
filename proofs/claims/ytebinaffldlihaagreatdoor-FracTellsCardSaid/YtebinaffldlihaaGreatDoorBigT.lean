import Derived.Test.YtebinaffldlihaaGreatDoorBigK
import Derived.Test.YtebinaffldlihaaGreatDoorShelf
import Derived.Test.YtebinaffldlihaaGreatDoorFw5
import Derived.Shelf.Strings.SlTrimAscii
import Derived.Lib.QuietBelow
set_option linter.all false
namespace Go.Proofs.YtebinaffldlihaaGreatDoor
open Go.RowKit Go.Ab
abbrev sb (l : List UInt8) : AV := .v (.string ⟨l.toArray⟩)
theorem A3 {w : World} {M : Nat → Prop} (h : GlobW w M) : Lib.TabIs Tryz.prog w "internal/strconv.uint64pow10" .u64 Lib.pow10Tab := by
  have := v8 h (P := Tryz.prog) (n := "internal/strconv.uint64pow10") (g := 3) (cs := Lib.pow10Tab.map fun z => Value.int .u64 z) (by kernel_rfl) (by rw [globs]; exact List.mem_cons.2 (.inl (by kernel_rfl)))
  exact this
theorem yN (n : Int) (h0 : 0 ≤ n) (h1 : n ≤ 99999) : Means true Tryz.prog 82 [ii n] (sb (Lib.decDigits n.toNat)) := by
  have hi : Lib.itoa n = Lib.decDigits n.toNat := by unfold Lib.itoa; rw [if_neg (by omega)]
  refine dQ (args := [.int .i64 n]) (x := .string ⟨(Lib.decDigits n.toNat).toArray⟩) (fun _ _ => .v _) fun w M hM hg => ?_
  refine (Tryz.strconv_Itoa n (by omega) (by omega) w (A3 hg)).mono fun e w' ⟨he, k, os, hw⟩ => ?_
  rw [hi] at he
  refine ⟨he, ?_⟩
  rw [hw]
  exact ⟨rfl, rfl, rfl, by simp [Go.Sort.grow, World.drewN], fun k hk => by simp [Go.Sort.grow, World.drewN, Array.getElem?_append_left hk]⟩
theorem uK (c : Nat) (hc : c ≤ 5) : Means true Tryz.prog 83 [sb [48], ii c] (sb (Lib.repeatL [48] c)) := by
  refine dQ (args := [.string ⟨#[48]⟩, .int .i64 c]) (x := .string ⟨(Lib.repeatL [48] c).toArray⟩) (fun _ _ => .v _) fun w M hM hg => ?_
  refine (Tryz.strings_Repeat ⟨#[48]⟩ c w (by omega) (by show 1 * c ≤ _; omega)).mono fun e w' ⟨he, hw⟩ => ⟨he, hw⟩
theorem A4 (s p : List UInt8) : Means true Tryz.prog 69 [sb s, sb p] (.tup [sb (Lib.trimPrefix s p), bb (Lib.hasPrefix s p)]) := by
  refine dQ (args := [.string ⟨s.toArray⟩, .string ⟨p.toArray⟩]) (x := .tuple #[.string ⟨(Lib.trimPrefix s p).toArray⟩, .bool (Lib.hasPrefix s p)]) (fun w M => ?_) fun w M hM hg => ?_
  · refine .tup _ _ rfl fun j c e h1 h2 => ?_
    match j with
    | 0 => simp at h1 h2; subst h1 h2; exact .v _
    | 1 => simp at h1 h2; subst h1 h2; exact .v _
    | j + 2 => simp at h1
  · refine (Tryz.strings_CutPrefix ⟨s.toArray⟩ ⟨p.toArray⟩ w).mono fun e w' ⟨he, hw⟩ => ⟨?_, by rw [hw]; exact Below.refl _ _⟩
    simpa using he
def digs : List UInt8 := [48, 49, 50, 51, 52, 53, 54, 55, 56, 57]
theorem nA (s : List UInt8) (hs : s.length ≤ 1000000) : Means true Tryz.prog 70 [sb s, sb digs] (sb (Lib.trimS s digs)) := by
  refine dQ (args := [.string ⟨s.toArray⟩, .string ⟨digs.toArray⟩]) (x := .string ⟨(Lib.trimS s digs).toArray⟩) (fun _ _ => .v _) fun w M hM hg => ?_
  refine (Any.strings_Trim_laid Tryz.lays160 (by kernel_rfl) ⟨s.toArray⟩ ⟨digs.toArray⟩ w (by show s.length ≤ _; omega) (by decide) (ascii_of_all (by decide))).mono fun e w' ⟨he, hw⟩ => ⟨he, hw⟩
theorem sJ (xs : List (List UInt8)) (hx : xs.length ≤ 1000000) :
    MeansH Tryz.prog 84 [.row ⟨9, 1, xs.map sb⟩] [.ow 0] (.tup []) [.row ⟨9, 1, xs.reverse.map sb⟩] := by
  have := wP (P := Tryz.prog) (f := 84) (E := 9) (xs := xs.map fun l => Value.string ⟨l.toArray⟩) (ys := xs.reverse.map fun l => Value.string ⟨l.toArray⟩) (by simp) (fun y hy => by
    obtain ⟨l, _, rfl⟩ := List.mem_map.1 hy; rfl) (fun g c w h1 h2 h3 => ?_) (fun w => Tryz.slices_Reverse_string_empty none 0 w)
  · simpa [List.map_map, Function.comp_def] using this
  · have hS : Lib.strsOf (fun i => (⟨(xs.getD i []).toArray⟩ : ByteArray)) xs.length = xs := by
      apply List.ext_getElem
      · simp [Lib.strsOf]
      · intro i h1 h2
        simp [Lib.strsOf, h2]
    rw [List.length_map] at h2 ⊢
    have h := Tryz.slices_Reverse_string_cells g 0 xs.length c (fun i => ⟨(xs.getD i []).toArray⟩) w (by omega) (fun i hi => by
      rw [Nat.zero_add]
      refine h1 i _ ?_
      rw [List.getElem?_map, List.getElem?_eq_getElem hi]
      simp [hi]) (fun j hj => by rw [Nat.zero_add]; exact h2 j hj)
    rw [hS] at h
    exact h
theorem xR (xs : List (List UInt8)) : Lib.join xs [] = xs.flatten := by
  cases xs with
  | nil => rfl
  | cons x r =>
    rw [Lib.join_cons, Lib.joinTail]
    simp
theorem yO (xs : List (List UInt8)) (hx : xs.flatten.length ≤ 1000000) (hl : xs.length ≤ 1000000) : MeansH Tryz.prog 85 [.row ⟨9, 1, xs.map sb⟩] [.ow 0, sb []] (sb xs.flatten) [.row ⟨9, 1, xs.map sb⟩] := by
  have e1 : (xs.map fun l => (⟨l.toArray⟩ : ByteArray)).map (·.data.toList) = xs := by simp [List.map_map, Function.comp_def]
  have e2 : (⟨([] : List UInt8).toArray⟩ : ByteArray).data.toList = [] := rfl
  have h := yY (P := Tryz.prog) (f := 85) (E := 9) (fun bk o c xs sep w h1 h2 h3 h4 h5 => Tryz.strings_Join bk o c xs sep w h1 h2 h3 h4 h5) (fun a c sep w => Tryz.strings_Join_none a c sep w) (xs.map fun l => ⟨l.toArray⟩) ⟨([] : List UInt8).toArray⟩
    (by rw [e1, e2, xR]; omega) (by rw [List.length_map]; omega)
  rw [e1, e2, xR, List.map_map] at h
  exact h
end Go.Proofs.YtebinaffldlihaaGreatDoor
