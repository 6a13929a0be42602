/-
  Layer 35 in plain words: what a jury decides; how it is drawn.
-/
import Derived.Test.YtflcmfeafiippaaVoteS
set_option linter.all false
namespace Go.Proofs.Ytflcmfeafiippaa

/-- The first voice of somebody. -/
def fst1 (w : Int) (vs : List V) : Option V := vs.find? fun v => v.who == w
def yP (vs : List V) (w : Int) : Bool := (fst1 w vs).any (·.yes)
def nP (vs : List V) (w : Int) : Bool := (fst1 w vs).any (!·.yes)
def yN (L : List Int) (vs : List V) : Nat := L.countP (yP vs)
def nN (L : List Int) (vs : List V) : Nat := L.countP (nP vs)
/-- What a jury of n decides by so many voices. -/
def verd (n y m : Int) : Int := if n < 2 * y then 1 else if 2 * (n - m) ≤ n then 2 else 0
def jver (L : List Int) (vs : List V) : Int := if okM L then verd L.length (yN L vs) (nN L vs) else 0
def jerr (L : List Int) : Int := if okM L then 0 else 1

theorem countP_one {L : List Int} (hn : L.Nodup) {x : Int} (hx : x ∈ L) {q r : Int → Bool} (h : ∀ w ∈ L, w ≠ x → r w = q w) (h0 : q x = false) : L.countP r = L.countP q + if r x then 1 else 0 := by
  induction L with
  | nil => simp at hx
  | cons a L ih =>
    rw [List.nodup_cons] at hn
    rw [List.countP_cons, List.countP_cons]
    by_cases e : a = x
    · subst e
      have : L.countP r = L.countP q := List.countP_congr fun w hw => by rw [h w (List.mem_cons_of_mem _ hw) (fun e => hn.1 (e ▸ hw))]
      rw [this, h0]
      simp
    · have := ih hn.2 ((List.mem_cons.1 hx).resolve_left fun e2 => e e2.symm) (fun w hw => h w (List.mem_cons_of_mem _ hw))
      rw [this, h a (by simp) e]
      omega
theorem yn_le (L : List Int) (vs : List V) : yN L vs + nN L vs ≤ L.length := by
  unfold yN nN
  induction L with
  | nil => simp
  | cons a L ih =>
    rw [List.countP_cons, List.countP_cons, List.length_cons]
    have : ¬ (yP vs a = true ∧ nP vs a = true) := by
      unfold yP nP
      cases fst1 a vs <;> simp
    by_cases h1 : yP vs a = true <;> by_cases h2 : nP vs a = true <;> simp_all <;> omega
theorem fst1_app (w : Int) (a b : List V) : fst1 w (a ++ b) = (fst1 w a).or (fst1 w b) := List.find?_append
theorem fst1_none {w : Int} {vs : List V} : fst1 w vs = none ↔ w ∉ vs.map V.who := by
  unfold fst1
  rw [List.find?_eq_none]
  simp
/-- More voices: nobody's first one changes. -/
theorem yP_app {w : Int} {a b : List V} (h : yP a w = true) : yP (a ++ b) w = true := by
  unfold yP at *; rw [fst1_app]; cases hf : fst1 w a <;> simp_all
theorem nP_app {w : Int} {a b : List V} (h : nP a w = true) : nP (a ++ b) w = true := by
  unfold nP at *; rw [fst1_app]; cases hf : fst1 w a <;> simp_all
theorem yN_app (L : List Int) (a b : List V) : yN L a ≤ yN L (a ++ b) := List.countP_mono_left fun _ _ => yP_app
theorem nN_app (L : List Int) (a b : List V) : nN L a ≤ nN L (a ++ b) := List.countP_mono_left fun _ _ => nP_app
theorem verd_stays {L : List Int} {a b : List V} (h : verd L.length (yN L a) (nN L a) ≠ 0) : verd L.length (yN L (a ++ b)) (nN L (a ++ b)) = verd L.length (yN L a) (nN L a) := by
  have h1 := yN_app L a b
  have h2 := nN_app L a b
  have h3 := yn_le L (a ++ b)
  unfold verd at *
  split at h
  · rw [if_pos (by omega), if_pos (by omega)]
  · split at h
    · rw [if_neg (by omega), if_pos (by omega), if_neg (by omega), if_pos (by omega)]
    · exact absurd rfl h

/-- The voices that count, whenever. -/
def late (vs : List V) : Int := vs.foldl (fun u v => max u v.day) 0
theorem late_ge : ∀ (vs : List V) (u0 : Int), u0 ≤ vs.foldl (fun u v => max u v.day) u0 ∧ ∀ v ∈ vs, v.day ≤ vs.foldl (fun u v => max u v.day) u0
  | [], u0 => ⟨Int.le_refl _, by simp⟩
  | v :: vs, u0 => by
    have h := late_ge vs (max u0 v.day)
    simp only [List.foldl_cons]
    refine ⟨by omega, fun x hx => ?_⟩
    rcases List.mem_cons.1 hx with rfl | hx
    · omega
    · exact h.2 x hx
theorem late_succ {vs : List V} {k : Nat} (h : k < vs.length) : late (vs.take (k + 1)) = max (late (vs.take k)) vs[k].day := by
  unfold late
  rw [List.take_succ_eq_append_getElem h, List.foldl_append]; rfl
theorem late_bd {vs : List V} {k : Nat} (h : ∀ v ∈ vs, -9223372036854775808 ≤ v.day ∧ v.day ≤ 9223372036854775807) : 0 ≤ late (vs.take k) := (late_ge _ 0).1

theorem cnt_fst {L : List Int} {u : Int} {vs : List V} (hd : ∀ v ∈ vs, v.day ≤ u) : ∀ k, k ≤ vs.length → ∀ w ∈ L, fst1 w (cnt L u (vs.take k)) = fst1 w (vs.take k)
  | 0, _, _, _ => by simp [cnt]
  | k + 1, hk, w, hw => by
    have hk' : k < vs.length := by omega
    have ih := cnt_fst hd k (by omega) w hw
    rw [cnt_succ hk', List.take_succ_eq_append_getElem hk', fst1_app, ← ih]
    unfold cstep
    by_cases hs : skips L u (cnt L u (vs.take k)) vs[k] = true
    · rw [if_pos hs]
      have hd := hd vs[k] (List.getElem_mem hk')
      have hnd : ¬ u < vs[k].day := by omega
      simp only [skips, hnd, decide_false, Bool.false_or, Bool.or_eq_true, spoke, decide_eq_true_eq, Bool.not_eq_true', decide_eq_false_iff_not] at hs
      by_cases hw2 : vs[k].who = w
      · rcases hs with hs | hs
        · rw [hw2] at hs
          cases hf : fst1 w (cnt L u (vs.take k)) with
          | none => exact absurd hs (fst1_none.1 hf)
          | some v => rfl
        · exact absurd (hw2 ▸ hw) hs
      · have : fst1 w [vs[k]] = none := by simp [fst1, hw2]
        rw [this]; cases fst1 w (cnt L u (vs.take k)) <;> rfl
    · rw [if_neg hs, fst1_app]

theorem clean_count {L : List Int} (hn : L.Nodup) {p : V → Bool} : ∀ {t : List V}, (∀ v ∈ t, v.who ∈ L) → (t.map V.who).Nodup → L.countP (fun w => (fst1 w t).any p) = t.countP p
  | [], _, _ => by simp [fst1, List.countP_eq_zero]
  | v :: t, h, hd => by
    rw [List.map_cons, List.nodup_cons] at hd
    have ih := clean_count hn (p := p) (t := t) (fun x hx => h x (by simp [hx])) hd.2
    rw [List.countP_cons, ← ih]
    have h0 : fst1 v.who t = none := fst1_none.2 hd.1
    rw [countP_one hn (h v (by simp)) (q := fun w => (fst1 w t).any p) (fun w _ hw => by
      have : (v.who == w) = false := by simpa using fun e => hw e.symm
      simp [fst1, List.find?_cons, this]) (by simp [h0])]
    congr 1
    simp [fst1]
theorem cnt_split {L : List Int} {u : Int} {vs : List V} (hn : L.Nodup) (hd : ∀ v ∈ vs, v.day ≤ u) (hc : (∀ v ∈ cnt L u vs, v.who ∈ L) ∧ ((cnt L u vs).map V.who).Nodup) :
    yesN (cnt L u vs) = yN L vs ∧ (cnt L u vs).length = yN L vs + nN L vs := by
  have hf : ∀ w ∈ L, fst1 w (cnt L u vs) = fst1 w vs := fun w hw => by
    have := cnt_fst hd vs.length (Nat.le_refl _) w hw
    rwa [List.take_length] at this
  have hy : yN L vs = (cnt L u vs).countP (·.yes) := by
    rw [← clean_count hn hc.1 hc.2]
    exact List.countP_congr fun w hw => by unfold yP; rw [hf w hw]
  have hno : nN L vs = (cnt L u vs).countP (!·.yes) := by
    rw [← clean_count hn hc.1 hc.2]
    exact List.countP_congr fun w hw => by unfold nP; rw [hf w hw]
  refine ⟨by rw [hy, yesN, List.countP_eq_length_filter], ?_⟩
  rw [hy, hno]
  have := List.length_eq_countP_add_countP (fun v : V => v.yes) (l := cnt L u vs)
  simpa using this
/-- Counting again changes nothing. -/
theorem fst_cnt {L : List Int} {u : Int} {vs : List V} (hd : ∀ v ∈ vs, v.day ≤ u) : yN L (cnt L u vs) = yN L vs ∧ nN L (cnt L u vs) = nN L vs := by
  have hf : ∀ w ∈ L, fst1 w (cnt L u vs) = fst1 w vs := fun w hw => by
    have := cnt_fst hd vs.length (Nat.le_refl _) w hw
    rwa [List.take_length] at this
  exact ⟨List.countP_congr fun w hw => by unfold yP; rw [hf w hw], List.countP_congr fun w hw => by unfold nP; rw [hf w hw]⟩

/-- The numbers of a seed. -/
def gx (x : Int) : Int := (1103515245 * x + 12345) % 2147483648
def g0 (s : Int) : Int := s % 2147483648
theorem gx_bd (x : Int) : 0 ≤ gx x ∧ gx x < 2147483648 := by unfold gx; omega
theorem g0_bd (x : Int) : 0 ≤ g0 x ∧ g0 x < 2147483648 := by unfold g0; omega
def swp (l : List Int) (i j : Nat) : List Int := (l.set i (l.getD j 0)).set j (l.getD i 0)
@[simp] theorem swp_len (l : List Int) (i j : Nat) : (swp l i j).length = l.length := by simp [swp]
/-- The place with which place i is exchanged. -/
def jat (n i : Nat) (x : Int) : Nat := i + ((x / 65536) % ((n : Int) - i)).toNat
theorem jat_bd {n i : Nat} (h : i < n) (x : Int) : i ≤ jat n i x ∧ jat n i x < n := by
  unfold jat
  have h1 := Int.emod_nonneg (x / 65536) (b := (n : Int) - i) (by omega)
  have h2 := Int.emod_lt_of_pos (x / 65536) (b := (n : Int) - i) (by omega)
  omega
def iota (n : Nat) : List Int := (List.range n).map fun (i : Nat) => (i : Int)
@[simp] theorem iota_len (n : Nat) : (iota n).length = n := by simp [iota]
theorem iota_succ (n : Nat) : iota (n + 1) = iota n ++ [(n : Int)] := by simp [iota, List.range_succ]
/-- The generator and the list after k exchanges. -/
def drawSt (seed : Int) (n : Nat) : Nat → Int × List Int
  | 0 => (g0 seed, iota n)
  | k + 1 => let p := drawSt seed n k; (gx p.1, swp p.2 k (jat n k (gx p.1)))
theorem dx_bd (seed : Int) (n k : Nat) : 0 ≤ (drawSt seed n k).1 ∧ (drawSt seed n k).1 < 2147483648 := by
  cases k with
  | zero => exact g0_bd seed
  | succ k => exact gx_bd _
@[simp] theorem dl_len (seed : Int) (n k : Nat) : (drawSt seed n k).2.length = n := by
  induction k with
  | zero => simp [drawSt]
  | succ k ih => simp [drawSt, ih]
def drw (seed : Int) (n k : Nat) : List Int := (drawSt seed n k).2.take k

theorem swp_perm {l : List Int} {i j : Nat} (hi : i < l.length) (hj : j < l.length) : (swp l i j).Perm l := by
  rw [List.perm_iff_count]
  intro a
  unfold swp
  rw [List.getD_eq_getElem?_getD, List.getD_eq_getElem?_getD, List.getElem?_eq_getElem hi, List.getElem?_eq_getElem hj]
  simp only [Option.getD_some]
  rw [List.count_set (by simpa using hj), List.count_set hi]
  have e : (l.set i l[j])[j]'(by simpa using hj) = l[j] := by
    rw [List.getElem_set]; split
    · rfl
    · rfl
  rw [e]
  have h1 : ∀ (k : Nat) (hk : k < l.length), (l[k] == a) = true → 0 < l.count a := fun k hk e => by
    rw [List.count_pos_iff]
    have := List.getElem_mem hk
    rwa [eq_of_beq e] at this
  have h2 := h1 i hi
  have h3 := h1 j hj
  by_cases ha : (l[i] == a) = true <;> by_cases hb : (l[j] == a) = true <;> simp_all <;> omega
theorem dl_perm (seed : Int) (n : Nat) : ∀ k, k ≤ n → (drawSt seed n k).2.Perm (iota n)
  | 0, _ => .refl _
  | k + 1, h => by
    have hb := jat_bd (n := n) (i := k) (by omega) (gx (drawSt seed n k).1)
    exact (swp_perm (by simp; omega) (by simp; omega)).trans (dl_perm seed n k (by omega))
theorem swp_take {l : List Int} {i j : Nat} (h : i ≤ j) : (swp l i j).take i = l.take i := by
  unfold swp
  rw [List.take_set_of_le h, List.take_set_of_le (Nat.le_refl _)]
/-- A smaller draw is a beginning. -/
theorem drw_take (seed : Int) (n : Nat) {k : Nat} : ∀ {m}, k ≤ m → m ≤ n → (drawSt seed n m).2.take k = drw seed n k
  | 0, h, _ => by
    have : k = 0 := by omega
    subst this; rfl
  | m + 1, h, hm => by
    by_cases e : k = m + 1
    · subst e; rfl
    · have hb := jat_bd (n := n) (i := m) (by omega) (gx (drawSt seed n m).1)
      have : (drawSt seed n (m + 1)).2 = swp (drawSt seed n m).2 m (jat n m (gx (drawSt seed n m).1)) := rfl
      rw [this]
      have h2 := congrArg (List.take k) (swp_take (l := (drawSt seed n m).2) hb.1)
      rw [List.take_take, List.take_take, Nat.min_eq_left (by omega)] at h2
      rw [h2]
      exact drw_take seed n (by omega) (by omega)
theorem drw_len (seed : Int) {n k : Nat} (h : k ≤ n) : (drw seed n k).length = k := by simp [drw]; omega
theorem drw_mem {seed : Int} {n k : Nat} (h : k ≤ n) {x : Int} (hx : x ∈ drw seed n k) : 0 ≤ x ∧ x < n := by
  have := (dl_perm seed n k h).mem_iff.1 (List.mem_of_mem_take hx)
  simp [iota] at this
  obtain ⟨a, ha, rfl⟩ := this
  omega
theorem drw_nodup (seed : Int) {n k : Nat} (h : k ≤ n) : (drw seed n k).Nodup := by
  have h1 : (iota n).Nodup := by
    unfold iota
    rw [List.nodup_iff_pairwise_ne, List.pairwise_map]
    exact (List.nodup_range (n := n)).imp fun h e => h (by omega)
  exact ((dl_perm seed n k h).nodup_iff.2 h1).sublist (List.take_sublist _ _)

/-- Who may be drawn. -/
def canL (M B : List Int) : List Int := M.filter fun k => !decide (k ∈ B)
def jbad (M : List Int) (s : Int) : Bool := !okM M || decide (s < 1) || decide (60 < s)
def pickL (C : List Int) (s : Int) (seed : Int) : List Int := (drw seed C.length (min s.toNat C.length)).map fun i => C.getD i.toNat 0
/-- The jury that is drawn, the error. -/
def jdr (M : List Int) (s : Int) (B : List Int) (seed : Int) : List Int := if jbad M s then [] else pickL (canL M B) s seed
def jde (M : List Int) (s : Int) (B : List Int) : Int := if jbad M s then 1 else if canL M B = [] then 24 else 0
def abad (J : List Int) : Bool := decide (J.length = 0) || decide (60 < (J.length : Int))
def agr (M J B : List Int) (seed : Int) : List Int := if abad J then [] else jdr M (min ((J.length : Int) + 2) 60) (B ++ J) seed
def age (M J B : List Int) : Int := if abad J then 1 else jde M (min ((J.length : Int) + 2) 60) (B ++ J)

theorem pick_len (C : List Int) (s : Int) (seed : Int) : (pickL C s seed).length = min s.toNat C.length := by simp [pickL, drw_len seed (Nat.min_le_right _ _)]
theorem pick_nil (s seed : Int) : pickL [] s seed = [] := by simp [pickL, drw]
theorem getD_at {C : List Int} {i : Int} (h : 0 ≤ i ∧ i < C.length) : ∃ k, ∃ hk : k < C.length, i = (k : Int) ∧ C.getD i.toNat 0 = C[k] := by
  refine ⟨i.toNat, by omega, by omega, ?_⟩
  rw [List.getD_eq_getElem?_getD, List.getElem?_eq_getElem (by omega)]; rfl
theorem pick_mem {C : List Int} {s seed x : Int} (h : x ∈ pickL C s seed) : x ∈ C := by
  unfold pickL at h
  obtain ⟨i, hi, rfl⟩ := List.mem_map.1 h
  obtain ⟨k, hk, _, e⟩ := getD_at (drw_mem (Nat.min_le_right _ _) hi)
  rw [e]; exact List.getElem_mem hk
theorem pick_nodup {C : List Int} (hC : C.Nodup) (s seed : Int) : (pickL C s seed).Nodup := by
  unfold pickL
  rw [List.nodup_iff_pairwise_ne, List.pairwise_map]
  have h1 := drw_nodup seed (n := C.length) (k := min s.toNat C.length) (Nat.min_le_right _ _)
  have h2 : ∀ x ∈ drw seed C.length (min s.toNat C.length), 0 ≤ x ∧ x < C.length := fun x hx => drw_mem (Nat.min_le_right _ _) hx
  generalize drw seed C.length (min s.toNat C.length) = D at h1 h2
  rw [List.nodup_iff_pairwise_ne] at h1
  refine h1.imp_of_mem fun {a b} ha hb hab e => ?_
  obtain ⟨k, hk, e1, e2⟩ := getD_at (h2 a ha)
  obtain ⟨m, hm, e3, e4⟩ := getD_at (h2 b hb)
  rw [e2, e4] at e
  have := (List.getElem_inj hC).1 e
  omega
theorem pick_take (C : List Int) {s t : Int} (seed : Int) (h : t ≤ s) : pickL C t seed = (pickL C s seed).take (pickL C t seed).length := by
  rw [pick_len]
  unfold pickL
  rw [← List.map_take]
  congr 1
  have h1 : min t.toNat C.length ≤ min s.toNat C.length := by omega
  have := drw_take seed C.length h1 (Nat.min_le_right _ _)
  rw [← this]
  unfold drw
  rw [List.take_take, Nat.min_eq_left h1]

end Go.Proofs.Ytflcmfeafiippaa
