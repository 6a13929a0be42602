/-
  Layer 6 in plain words: signing one after the other.
-/
import Derived.Test.YtgfgajofilcniaaSealB
set_option linter.all false
namespace Go.Proofs.Ytgfgajofilcniaa
open Go.RowKit Go.Ab

abbrev sigE (L : List E) (e : E) : List E := sigL L e.key e.text
abbrev sg (L : List E) (e : E) : G := sigOf L e.key e.text
/-- The entries once the list is signed. -/
def ent (l : List E) : List E := l.foldl sigE []
/-- The signatures of the first k. -/
def madeN (l : List E) (k : Nat) : List G := (List.range k).map fun i => sg (ent (l.take i)) (l[i]?.getD ⟨0, ⟨#[]⟩⟩)

theorem ent_nil : ent [] = [] := rfl
theorem ent_succ {l : List E} {k : Nat} (h : k < l.length) : ent (l.take (k + 1)) = sigE (ent (l.take k)) l[k] := by
  unfold ent; rw [List.take_succ_eq_append_getElem h, List.foldl_append]; rfl
theorem madeN_zero (l : List E) : madeN l 0 = [] := rfl
theorem madeN_succ {l : List E} {k : Nat} (h : k < l.length) : madeN l (k + 1) = madeN l k ++ [sg (ent (l.take k)) l[k]] := by
  unfold madeN; rw [List.range_succ, List.map_append]; simp [h]
@[simp] theorem madeN_len (l : List E) (k : Nat) : (madeN l k).length = k := by simp [madeN]
theorem madeN_get {l : List E} {k i : Nat} (h : i < k) (hk : k ≤ l.length) : (madeN l k)[i]'(by simpa using h) = sg (ent (l.take i)) (l[i]'(by omega)) := by
  have : i < l.length := by omega
  simp [madeN, this]
theorem sigE_len (L : List E) (e : E) : (sigE L e).length ≤ L.length + 1 := by
  simp only [sigL]; split <;> simp
theorem ent_len (l : List E) : ∀ k, k ≤ l.length → (ent (l.take k)).length ≤ k
  | 0, _ => by simp [ent_nil]
  | k + 1, h => by
    rw [ent_succ (by omega)]
    have := ent_len l k (by omega)
    have := sigE_len (ent (l.take k)) l[k]
    omega
theorem few_len {L : List E} {n : Int} (h : few L n = true) : (L.length : Int) ≤ n := by
  simp [few] at h; exact h.1

theorem sigE_bad {L : List E} {e : E} (h : isKey e.key = false) : sigE L e = L := by simp [sigL, h]
theorem sigE_old {L : List E} {e : E} (h : e ∈ L) : sigE L e = L := by
  simp [sigL, show (⟨e.key, e.text⟩ : E) = e from rfl, h]
theorem sigE_new {L : List E} {e : E} (hk : isKey e.key = true) (h : e ∉ L) : sigE L e = L ++ [e] := by
  simp [sigL, show (⟨e.key, e.text⟩ : E) = e from rfl, h, hk]
theorem sg_bad {L : List E} {e : E} (h : isKey e.key = false) : sg L e = ⟨0, ⟨#[]⟩, 0⟩ := by simp [sigOf, h]
theorem sg_mem {L : List E} {e : E} (hk : isKey e.key = true) (h : e ∈ L) : sg L e = ⟨e.key, e.text, (L.findIdx (· = e) : Nat)⟩ := by
  simp [sigOf, show (⟨e.key, e.text⟩ : E) = e from rfl, h, hk]
theorem sg_new {L : List E} {e : E} (hk : isKey e.key = true) (h : e ∉ L) : sg L e = ⟨e.key, e.text, (L.length : Nat)⟩ := by
  simp [sigOf, show (⟨e.key, e.text⟩ : E) = e from rfl, h, hk]
theorem findIdx_app {L M : List E} {e : E} (h : e ∈ L) : (L ++ M).findIdx (· = e) = L.findIdx (· = e) := by
  rw [List.findIdx_append, if_pos]
  exact List.findIdx_lt_length_of_exists ⟨e, h, by simp⟩
theorem findIdx_new {L : List E} {e : E} (h : e ∉ L) : (L ++ [e]).findIdx (· = e) = L.length := by
  rw [List.findIdx_append, if_neg]
  · simp
  · intro hlt
    have := List.findIdx_getElem (w := hlt)
    simp only [decide_eq_true_eq] at this
    exact h (this ▸ List.getElem_mem _)
theorem findIdx_mem {L : List E} {e : E} (h : e ∈ L) : L.findIdx (· = e) < L.length := List.findIdx_lt_length_of_exists ⟨e, h, by simp⟩
theorem findIdx_at {L : List E} {e : E} (h : L.findIdx (· = e) < L.length) : L[L.findIdx (· = e)] = e := by
  have := List.findIdx_getElem (w := h)
  simpa using this
/-- Signing appends. -/
theorem sigE_app (L : List E) (e : E) : ∃ M, sigE L e = L ++ M := by
  simp only [sigL]; split
  · exact ⟨_, rfl⟩
  · exact ⟨[], by simp⟩
theorem ent_app (l : List E) (i : Nat) : ∀ k, i ≤ k → k ≤ l.length → ∃ M, ent (l.take k) = ent (l.take i) ++ M
  | 0, h, _ => by
    have : i = 0 := by omega
    subst this; exact ⟨[], by simp⟩
  | k + 1, h, hk => by
    by_cases he : i = k + 1
    · subst he; exact ⟨[], by simp⟩
    · obtain ⟨M, hM⟩ := ent_app l i k (by omega) (by omega)
      obtain ⟨N, hN⟩ := sigE_app (ent (l.take k)) l[k]
      exact ⟨M ++ N, by rw [ent_succ (by omega), hN, hM, List.append_assoc]⟩
theorem mem_sigE {L : List E} {e : E} (hk : isKey e.key = true) : e ∈ sigE L e := by
  by_cases h : e ∈ L
  · rw [sigE_old h]; exact h
  · rw [sigE_new hk h]; simp
/-- The mark stays. -/
theorem sg_stays {L : List E} {e : E} (hk : isKey e.key = true) (M : List E) : sg L e = ⟨e.key, e.text, ((sigE L e ++ M).findIdx (· = e) : Nat)⟩ := by
  rw [findIdx_app (mem_sigE hk)]
  by_cases h : e ∈ L
  · rw [sigE_old h, sg_mem hk h]
  · rw [sigE_new hk h, sg_new hk h, findIdx_new h]
/-- Each is an entry at the end. -/
theorem mem_ent {l : List E} {i k : Nat} (hi : i < k) (hk : k ≤ l.length) (hy : isKey (l[i]'(by omega)).key = true) : l[i]'(by omega) ∈ ent (l.take k) := by
  obtain ⟨M, hM⟩ := ent_app l (i + 1) k (by omega) hk
  rw [hM, ent_succ (by omega)]
  exact List.mem_append_left _ (mem_sigE hy)
/-- Signing again: the same entries, the same signature. -/
theorem again {l : List E} {i k : Nat} (hi : i < k) (hk : k ≤ l.length) : sigE (ent (l.take k)) (l[i]'(by omega)) = ent (l.take k) ∧ sg (ent (l.take k)) (l[i]'(by omega)) = sg (ent (l.take i)) (l[i]'(by omega)) := by
  by_cases hy : isKey (l[i]'(by omega)).key = true
  · have hm := mem_ent hi hk hy
    refine ⟨sigE_old hm, ?_⟩
    obtain ⟨M, hM⟩ := ent_app l (i + 1) k (by omega) hk
    rw [sg_mem hy hm, hM, ent_succ (by omega)]
    exact (sg_stays hy M).symm
  · have hy : isKey (l[i]'(by omega)).key = false := by simpa using hy
    exact ⟨sigE_bad hy, by rw [sg_bad hy, sg_bad hy]⟩

theorem old_step {W : List E} {e : E} {j : Nat} (h : j < W.length) : (decide (e ∈ W.take j) || decide (W[j].key = e.key) && decide (W[j].text = e.text)) = decide (e ∈ W.take (j + 1)) := by
  rw [List.take_succ_eq_append_getElem h, Bool.eq_iff_iff]
  simp only [Bool.or_eq_true, Bool.and_eq_true, decide_eq_true_eq, List.mem_append, List.mem_singleton, ← E.eq_iff]
  rw [show W[j] = e ↔ e = W[j] from ⟨Eq.symm, Eq.symm⟩]
theorem nth_last (L : List E) (x : AV) : nth (L.map eo ++ [x]) L.length = x := by
  unfold nth; simp

end Go.Proofs.Ytgfgajofilcniaa
