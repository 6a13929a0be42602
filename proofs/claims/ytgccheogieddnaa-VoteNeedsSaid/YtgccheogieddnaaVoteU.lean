/-
  Plain laws on how many voices are needed.
-/
import Derived.Test.YtgccheogieddnaaVoteT
set_option linter.all false
namespace Go.Proofs.Ytgccheogieddnaa

def rng (n : Nat) : List Int := (List.range n).map Int.ofNat
def spv (n : Nat) (need : Int) (st k : Nat) : V := ⟨0, Int.ofNat ((k + st) % n), decide ((k : Int) < need), 3⟩
def sp (n : Nat) (need : Int) (st : Nat) (k : Nat) : List V := (List.range k).map (spv n need st)
theorem rng_succ (n : Nat) : rng (n + 1) = rng n ++ [Int.ofNat n] := by simp [rng, List.range_succ]
theorem sp_succ (n : Nat) (need : Int) (st k : Nat) : sp n need st (k + 1) = sp n need st k ++ [spv n need st k] := by simp [sp, List.range_succ]
theorem rng_len (n : Nat) : (rng n).length = n := by simp [rng]
theorem sp_len (n : Nat) (need : Int) (st k : Nat) : (sp n need st k).length = k := by simp [sp]
theorem sp_take (n : Nat) (need : Int) (st : Nat) {k j : Nat} (h : j ≤ k) : (sp n need st k).take j = sp n need st j := by
  unfold sp
  rw [← List.map_take, List.take_range, Nat.min_eq_left h]
theorem nodup_map_inj {α β : Type} {f : α → β} : ∀ {l : List α}, l.Nodup → (∀ a ∈ l, ∀ b ∈ l, f a = f b → a = b) → (l.map f).Nodup
  | [], _, _ => List.nodup_nil
  | a :: l, h, hf => by
    rw [List.nodup_cons] at h
    rw [List.map_cons, List.nodup_cons]
    refine ⟨fun hm => ?_, nodup_map_inj h.2 fun x hx y hy => hf x (by simp [hx]) y (by simp [hy])⟩
    obtain ⟨b, hb, e⟩ := List.mem_map.1 hm
    have := hf b (by simp [hb]) a (by simp) e
    exact h.1 (this ▸ hb)
theorem rng_ok {n : Nat} (h1 : 1 ≤ n) (h2 : n ≤ 60) : okM (rng n) = true := by
  unfold okM
  rw [rng_len]
  have h3 : (rng n).all inK = true := by
    rw [List.all_eq_true]
    intro x hx
    obtain ⟨i, hi, rfl⟩ := List.mem_map.1 hx
    simp at hi
    simp [inK]
    omega
  have h4 : (rng n).Nodup := nodup_map_inj List.nodup_range fun a _ b _ h => Int.ofNat.inj h
  simp [h3, h4]
  omega
theorem add_mod_lt {n a b : Nat} (ha : a < n) (hb : b < n) : (a + b) % n = if a + b < n then a + b else a + b - n := by
  split
  · exact Nat.mod_eq_of_lt (by assumption)
  · rw [Nat.mod_eq_sub_mod (by omega)]
    exact Nat.mod_eq_of_lt (by omega)
theorem mod_inj {n st i j : Nat} (hi : i < n) (hj : j < n) (h : (i + st) % n = (j + st) % n) : i = j := by
  have hn : st % n < n := Nat.mod_lt _ (by omega)
  rw [Nat.add_mod i st, Nat.add_mod j st, Nat.mod_eq_of_lt hi, Nat.mod_eq_of_lt hj, add_mod_lt hi hn, add_mod_lt hj hn] at h
  split at h <;> split at h <;> omega
theorem sp_clean (n : Nat) (need : Int) (st : Nat) (h1 : 1 ≤ n) : clean (rng n) 3 (sp n need st n) := by
  refine ⟨fun v hv => ?_, ?_⟩
  · obtain ⟨k, hk, rfl⟩ := List.mem_map.1 hv
    refine ⟨by simp [spv], ?_⟩
    unfold rng spv
    refine List.mem_map.2 ⟨(k + st) % n, ?_, rfl⟩
    simp
    exact Nat.mod_lt _ (by omega)
  · unfold sp
    rw [List.map_map]
    refine nodup_map_inj List.nodup_range fun a ha b hb h => ?_
    simp at ha hb
    exact mod_inj ha hb (Int.ofNat.inj h)
theorem clean_take {L : List Int} {u : Int} {t : List V} (k : Nat) (h : clean L u t) : clean L u (t.take k) :=
  ⟨fun v hv => h.1 v (List.mem_of_mem_take hv), by
    have := h.2
    rw [← List.take_append_drop k t, List.map_append, List.nodup_append] at this
    exact this.1⟩
theorem clean_drop {L : List Int} {u : Int} {t : List V} (k : Nat) (h : clean L u t) : clean L u (t.drop k) :=
  ⟨fun v hv => h.1 v (List.mem_of_mem_drop hv), by
    have := h.2
    rw [← List.take_append_drop k t, List.map_append, List.nodup_append] at this
    exact this.2.1⟩
theorem sp_yes (n : Nat) (need st : Nat) : ∀ k, yesN (sp n need st k) = min k need
  | 0 => by simp [sp, yesN]
  | k + 1 => by
    have := sp_yes n need st k
    unfold yesN at this ⊢
    rw [sp_succ, List.filter_append, List.length_append, this]
    by_cases h : k < need
    · have : (spv n need st k).yes = true := by simp [spv, h]
      simp [this]; omega
    · have : (spv n need st k).yes = false := by simp [spv]; omega
      simp [this]; omega
theorem sp_yes1 (n : Nat) (need st k : Nat) (hn : 1 ≤ need) (hk : 1 ≤ k) : yesN ((sp n need st k).drop 1) = min k need - 1 := by
  have h := sp_yes n need st k
  have e : sp n need st k = (sp n need st k).take 1 ++ (sp n need st k).drop 1 := (List.take_append_drop 1 _).symm
  rw [e] at h
  have h1 := sp_yes n need st 1
  rw [sp_take n need st hk] at h
  unfold yesN at h h1 ⊢
  rw [List.filter_append, List.length_append, h1] at h
  omega
theorem need_spec {n : Nat} {s : Int} (h1 : 1 ≤ n) (h2 : n ≤ 60) (h3 : 0 ≤ s) (h4 : s ≤ 1000) :
    ∃ q : Nat, nNeed n s = q ∧ 1 ≤ q ∧ q ≤ n ∧ (n : Int) * s ≤ q * 1000 ∧ (1 < q → ((q : Int) - 1) * 1000 < n * s) := by
  have hp := mul_bd (m := n) (s := s) (by omega) (by omega) h3 h4
  have h6 : (n : Int) * s ≤ n * 1000 := Int.mul_le_mul_of_nonneg_left h4 (by omega)
  refine ⟨(nNeed n s).toNat, ?_, ?_, ?_, ?_, ?_⟩ <;> unfold nNeed <;> omega
theorem tBad_rng {n : Nat} {s : Int} (h1 : 1 ≤ n) (h2 : n ≤ 60) (h3 : 0 ≤ s) (h4 : s ≤ 1000) : tBad (rng n) s = false := tBad_ok (rng_ok h1 h2) h3 h4
/-- The law in plain words. -/
theorem needs {n : Nat} {s : Int} (h1 : 1 ≤ n) (h2 : n ≤ 60) (h3 : 0 ≤ s) (h4 : s ≤ 1000) {q : Nat} (hq : nNeed n s = q) (hq1 : 1 ≤ q) (hqn : q ≤ n) (st : Nat) :
    tally (rng n) (sp n q st n) s 3 3 = 1 ∧ tally (rng n) ((sp n q st n).take (q - 1)) s 3 3 = 0 ∧ tally (rng n) ((sp n q st n).drop 1) s 3 4 = 2 ∧ dec (rng n) (sp n q st n) s 3 = some (q - 1) := by
  have hb := tBad_rng h1 h2 h3 h4
  have hok := rng_ok h1 h2
  have hc := sp_clean n q st h1
  have ho : ∀ k, k ≤ n → outc (rng n) (sp n q st k) s 3 = if q ≤ k then (if q ≤ min k q then 1 else 0) else 0 := by
    intro k hk
    have hck := clean_take k hc
    rw [sp_take n q st hk] at hck
    unfold outc
    rw [clean_fix hck, rng_len, hq]
    unfold says
    rw [sp_yes, sp_len]
    by_cases h : q ≤ k
    · have e : min k q = q := by omega
      simp [h, e]
    · have e : ¬ ((q : Int) ≤ ((min k q : Nat) : Int)) := by omega
      have e2 : ¬ ((n : Int) - q < (k : Int) - ((min k q : Nat) : Int)) := by omega
      simp only [h, e, e2, if_false]
  refine ⟨?_, ?_, ?_, ?_⟩
  · rw [tally_out hok hb, ho n (Nat.le_refl _)]
    simp [hqn]
  · rw [sp_take n q st (by omega), tally_out hok hb, ho _ (by omega)]
    have : ¬ q ≤ q - 1 := by omega
    simp [this]
  · rw [tally_out hok hb]
    have : outc (rng n) ((sp n q st n).drop 1) s 3 = 0 := by
      unfold outc
      rw [clean_fix (clean_drop 1 hc), rng_len, hq]
      unfold says
      rw [sp_yes1 n q st n hq1 h1, List.length_drop, sp_len]
      have e : ¬ ((q : Int) ≤ ((min n q - 1 : Nat) : Int)) := by omega
      have e2 : ¬ ((n : Int) - q < ((n - 1 : Nat) : Int) - ((min n q - 1 : Nat) : Int)) := by omega
      simp only [e, e2, if_false]
    rw [this]
    simp
  · refine dec_at (by rw [sp_len]; omega) ?_ (fun i hi => ?_)
    · rw [decAt_out hok hb, sp_take n q st (by omega), ho _ (by omega)]
      have : q - 1 + 1 = q := by omega
      simp [this]
    · rw [decAt_out hok hb, sp_take n q st (by omega), ho _ (by omega)]
      have : ¬ q ≤ i + 1 := by omega
      simp [this]

end Go.Proofs.Ytgccheogieddnaa
