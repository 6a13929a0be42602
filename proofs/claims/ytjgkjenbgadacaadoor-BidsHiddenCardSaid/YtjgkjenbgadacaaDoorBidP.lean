/-
  Layer 24 in plain words: bids, which of them count, how they are ranked.
-/
import Derived.Test.YtjgkjenbgadacaaDoorSymP
set_option linter.all false
namespace Go.Proofs.YtjgkjenbgadacaaDoor

structure Bd where
  m : Int
  w : Int
  n : Int
  o : Bool
  deriving DecidableEq
instance : Inhabited Bd := ⟨⟨0, 0, 0, false⟩⟩
theorem Bd.eq_iff (a b : Bd) : a = b ↔ a.m = b.m ∧ a.w = b.w ∧ a.n = b.n ∧ a.o = b.o := by cases a; cases b; simp

def keyB (k : Int) : Bool := decide (0 ≤ k) && decide (k < 200)
def coinB (n : Int) : Bool := decide (0 ≤ n) && decide (n ≤ 1099511627776)
/-- A bid that is right. -/
def okB (b : Bd) : Bool := decide (0 ≤ b.m) && decide (b.m ≤ 1073741824) && keyB b.w && (if b.o then coinB b.n else decide (b.n = -1))
/-- A list of bids that is right. -/
def okL (L : List Bd) : Bool := L.all okB && decide (L.map Bd.m).Nodup && decide (L.map Bd.w).Nodup
def clashB (L : List Bd) (b : Bd) : Bool := L.any fun x => decide (x.m = b.m) || decide (x.w = b.w)

theorem okL_iff (L : List Bd) : okL L = true ↔ (∀ x ∈ L, okB x = true) ∧ (L.map Bd.m).Nodup ∧ (L.map Bd.w).Nodup := by
  simp only [okL, Bool.and_eq_true, List.all_eq_true, decide_eq_true_eq, and_assoc]
theorem okL_nil : okL [] = true := rfl
theorem clash_iff (L : List Bd) (b : Bd) : clashB L b = true ↔ b.m ∈ L.map Bd.m ∨ b.w ∈ L.map Bd.w := by
  simp only [clashB, List.any_eq_true, Bool.or_eq_true, decide_eq_true_eq, List.mem_map]
  constructor
  · rintro ⟨x, hx, h | h⟩
    · exact .inl ⟨x, hx, h⟩
    · exact .inr ⟨x, hx, h⟩
  · rintro (⟨x, hx, h⟩ | ⟨x, hx, h⟩)
    · exact ⟨x, hx, .inl h⟩
    · exact ⟨x, hx, .inr h⟩
/-- One more bid. -/
theorem okL_snoc (L : List Bd) (b : Bd) : okL (L ++ [b]) = true ↔ okL L = true ∧ okB b = true ∧ clashB L b = false := by
  rw [okL_iff, okL_iff, ← Bool.not_eq_true, clash_iff]
  simp only [List.map_append, List.map_cons, List.map_nil, List.nodup_append, List.mem_append, List.mem_singleton]
  constructor
  · rintro ⟨h1, ⟨h2, _, h3⟩, h4, _, h5⟩
    refine ⟨⟨fun x hx => h1 x (.inl hx), h2, h4⟩, h1 b (.inr rfl), ?_⟩
    rintro (h | h)
    · exact h3 _ h _ rfl rfl
    · exact h5 _ h _ rfl rfl
  · rintro ⟨⟨h1, h2, h3⟩, h4, h5⟩
    refine ⟨?_, ⟨h2, by simp, ?_⟩, h3, by simp, ?_⟩
    · rintro x (hx | rfl)
      · exact h1 x hx
      · exact h4
    · rintro x hx y rfl rfl; exact h5 (.inl hx)
    · rintro x hx y rfl rfl; exact h5 (.inr hx)
theorem okL_take {L : List Bd} {k : Nat} (hk : k < L.length) : okL (L.take (k + 1)) = true ↔ okL (L.take k) = true ∧ okB L[k] = true ∧ clashB (L.take k) L[k] = false := by
  rw [List.take_succ_eq_append_getElem hk, okL_snoc]
theorem okL_pre {L : List Bd} (h : okL L = true) (k : Nat) : okL (L.take k) = true := by
  rw [okL_iff] at h ⊢
  refine ⟨fun x hx => h.1 x (List.mem_of_mem_take hx), ?_, ?_⟩
  · rw [List.map_take]; exact h.2.1.sublist (List.take_sublist _ _)
  · rw [List.map_take]; exact h.2.2.sublist (List.take_sublist _ _)
theorem okL_not {L : List Bd} {k : Nat} (h : okL (L.take k) = false) : okL L = false := by
  rw [← Bool.not_eq_true] at h ⊢
  exact fun hl => h (okL_pre hl k)

/-- A bid that counts. -/
def cntB (P : Int) (b : Bd) : Bool := b.o && decide (b.n ≤ P)
def cntAt (L : List Bd) (P : Int) (k : Nat) : Bool := match L[k]? with | some b => cntB P b | none => false
/-- The places of the bids that count, among the first k. -/
def plc (L : List Bd) (P : Int) : Nat → List Int
  | 0 => []
  | k + 1 => if cntAt L P k then plc L P k ++ [(k : Int)] else plc L P k
theorem plc_mem (L : List Bd) (P : Int) (x : Int) : ∀ k : Nat, x ∈ plc L P k ↔ ∃ j : Nat, j < k ∧ x = j ∧ cntAt L P j = true
  | 0 => by simp [plc]
  | k + 1 => by
    unfold plc
    split
    · rename_i h
      rw [List.mem_append, plc_mem L P x k, List.mem_singleton]
      constructor
      · rintro (⟨j, h1, h2, h3⟩ | rfl)
        · exact ⟨j, by omega, h2, h3⟩
        · exact ⟨k, by omega, rfl, h⟩
      · rintro ⟨j, h1, h2, h3⟩
        by_cases e : j = k
        · subst e; exact .inr h2
        · exact .inl ⟨j, by omega, h2, h3⟩
    · rename_i h
      rw [plc_mem L P x k]
      constructor
      · rintro ⟨j, h1, h2, h3⟩; exact ⟨j, by omega, h2, h3⟩
      · rintro ⟨j, h1, h2, h3⟩
        by_cases e : j = k
        · subst e; exact absurd h3 h
        · exact ⟨j, by omega, h2, h3⟩
theorem plc_lt (L : List Bd) (P : Int) : ∀ k : Nat, (plc L P k).Pairwise (· < ·)
  | 0 => .nil
  | k + 1 => by
    unfold plc
    split
    · rw [List.pairwise_append]
      refine ⟨plc_lt L P k, by simp, fun x hx y hy => ?_⟩
      obtain ⟨j, h1, h2, _⟩ := (plc_mem L P x k).1 hx
      simp at hy
      omega
    · exact plc_lt L P k
theorem plc_len (L : List Bd) (P : Int) : ∀ k : Nat, k ≤ L.length → (plc L P k).length = ((L.take k).filter (cntB P)).length
  | 0, _ => by simp [plc]
  | k + 1, h => by
    have ih := plc_len L P k (by omega)
    have hk : k < L.length := by omega
    have hca : cntAt L P k = cntB P L[k] := by simp [cntAt, List.getElem?_eq_getElem hk]
    rw [List.take_succ_eq_append_getElem hk, List.filter_append, List.length_append]
    unfold plc
    rw [hca]
    cases hc : cntB P L[k] with
    | true => simp [hc, ih]
    | false => simp [hc, ih]
theorem plc_le (L : List Bd) (P : Int) (k : Nat) : (plc L P k).length ≤ k := by
  induction k with
  | zero => simp [plc]
  | succ k ih =>
    unfold plc
    split
    · rw [List.length_append, List.length_singleton]; omega
    · omega
theorem cntAt_lt {L : List Bd} {P : Int} {k : Nat} (h : cntAt L P k = true) : ∃ hk : k < L.length, cntB P L[k] = true := by
  unfold cntAt at h
  split at h
  · rename_i b hb
    obtain ⟨h1, rfl⟩ := List.getElem?_eq_some_iff.1 hb
    exact ⟨h1, h⟩
  · cases h

namespace B
/-- What a bid asks less, by its place. -/
def kf (R : List Bd) (x : Int) : Int := (R.getD x.toNat default).n
theorem kf_at {R : List Bd} {x : Int} (h : 0 ≤ x ∧ x < R.length) : ∃ k, ∃ hk : k < R.length, x = (k : Int) ∧ kf R x = R[k].n :=
  ⟨x.toNat, by omega, by omega, by unfold kf; rw [List.getD_eq_getElem?_getD, List.getElem?_eq_getElem (by omega)]; rfl⟩
theorem kf_nat {R : List Bd} {k : Nat} (hk : k < R.length) : kf R k = R[k].n := by
  unfold kf; rw [Int.toNat_natCast, List.getD_eq_getElem?_getD, List.getElem?_eq_getElem hk]; rfl
end B

/-- The places that count, ranked. -/
def ranked (L : List Bd) (P : Int) : List Int := srt (B.kf L) (plc L P L.length)
theorem plc_nodup (L : List Bd) (P : Int) (k : Nat) : (plc L P k).Nodup := (plc_lt L P k).imp fun h e => by omega
theorem ranked_perm (L : List Bd) (P : Int) : (ranked L P).Perm (plc L P L.length) := srt_perm _ _
theorem ranked_sorted (L : List Bd) (P : Int) : (ranked L P).Pairwise (bef (B.kf L)) := srt_sorted (plc_nodup _ _ _)
theorem ranked_len (L : List Bd) (P : Int) : (ranked L P).length = (L.filter (cntB P)).length := by
  rw [(ranked_perm L P).length_eq, plc_len L P _ (Nat.le_refl _), List.take_length]
theorem ranked_le (L : List Bd) (P : Int) : (ranked L P).length ≤ L.length := by rw [(ranked_perm L P).length_eq]; exact plc_le _ _ _
theorem ranked_mem (L : List Bd) (P x : Int) : x ∈ ranked L P ↔ ∃ j : Nat, x = j ∧ ∃ hj : j < L.length, cntB P L[j] = true := by
  rw [(ranked_perm L P).mem_iff, plc_mem]
  constructor
  · rintro ⟨j, h1, h2, h3⟩; exact ⟨j, h2, cntAt_lt h3⟩
  · rintro ⟨j, h2, h3, h4⟩; exact ⟨j, h3, h2, by simp [cntAt, List.getElem?_eq_getElem h3, h4]⟩

/-- Who wins: the place, or none. -/
def wins (L : List Bd) (P : Int) : Option Nat := (ranked L P).head?.map Int.toNat
theorem wins_none {L : List Bd} {P : Int} : wins L P = none ↔ ∀ x ∈ L, cntB P x = false := by
  unfold wins
  rw [Option.map_eq_none_iff, List.head?_eq_none_iff, ← List.length_eq_zero_iff, ranked_len, List.length_eq_zero_iff, List.filter_eq_nil_iff]
  simp
theorem wins_some {L : List Bd} {P : Int} {k : Nat} : wins L P = some k ↔ ∃ hk : k < L.length, cntB P L[k] = true ∧ ∀ j (hj : j < L.length), cntB P L[j] = true → L[j].n < L[k].n ∨ L[j].n = L[k].n ∧ k ≤ j := by
  unfold wins
  have hs := ranked_sorted L P
  have hm := ranked_mem L P
  cases hr : ranked L P with
  | nil =>
    rw [hr] at hm
    simp only [List.head?_nil, Option.map_none, reduceCtorEq, false_iff]
    rintro ⟨hk, h1, _⟩
    have := (hm k).2 ⟨k, rfl, hk, h1⟩
    simp at this
  | cons x xs =>
    rw [hr] at hs hm
    rw [List.pairwise_cons] at hs
    obtain ⟨q, rfl, hq, hqc⟩ := (hm x).1 List.mem_cons_self
    have hbest : ∀ j (hj : j < L.length), cntB P L[j] = true → L[j].n < L[q].n ∨ L[j].n = L[q].n ∧ q ≤ j := fun j hj hc => by
      rcases List.mem_cons.1 ((hm j).2 ⟨j, rfl, hj, hc⟩) with h | h
      · have : j = q := by omega
        subst this; exact .inr ⟨rfl, Nat.le_refl _⟩
      · have := hs.1 _ h
        unfold bef at this
        rw [B.kf_nat hq, B.kf_nat hj] at this
        omega
    simp only [List.head?_cons, Option.map_some, Int.toNat_natCast, Option.some.injEq]
    constructor
    · rintro rfl; exact ⟨hq, hqc, hbest⟩
    · rintro ⟨hk, hkc, hkb⟩
      have h1 := hbest k hk hkc
      have h2 := hkb q hq hqc
      omega

end Go.Proofs.YtjgkjenbgadacaaDoor
