import Derived.Test.YtebinaffldlihaaGreatDoorBigP
set_option linter.all false
namespace Go.Proofs.YtebinaffldlihaaGreatDoor
theorem cS : ∀ (a b : List Int), val (a ++ b) = val a + 1048576 ^ a.length * val b
  | [], b => by simp [val]
  | x :: xs, b => by
    simp only [List.cons_append, val, cS xs b, List.length_cons, Int.pow_succ]
    rw [show (1048576 : Int) ^ xs.length * 1048576 * val b = 1048576 * (1048576 ^ xs.length * val b) by rw [Int.mul_comm _ 1048576, Int.mul_assoc]]
    omega
theorem iK (l : List Int) (n : Nat) (h : n ≤ l.length) : val l = val (l.take n) + 1048576 ^ n * val (l.drop n) := by
  have := cS (l.take n) (l.drop n)
  rwa [List.take_append_drop, List.length_take, Nat.min_eq_left h] at this
def padD : Nat → Int → List Int
  | 0, _ => []
  | k + 1, x => x % 1048576 :: padD k (x / 1048576)
theorem pA : ∀ k x, (padD k x).length = k
  | 0, _ => rfl
  | k + 1, x => by simp [padD, pA]
theorem rS : ∀ k x, okD (padD k x)
  | 0, _ => c6
  | k + 1, x => aS.2 ⟨by omega, rS k _⟩
theorem pB : ∀ {l : List Int}, okD l → padD l.length (val l) = l
  | [], _ => rfl
  | d :: l, h => by
    rw [aS] at h
    simp only [List.length_cons, padD, val]
    rw [show (d + 1048576 * val l) % 1048576 = d by omega, show (d + 1048576 * val l) / 1048576 = val l by omega, pB h.2]
theorem pC : ∀ (k : Nat) (x : Int), 0 ≤ x → x < 1048576 ^ k → val (padD k x) = x
  | 0, x, h1, h2 => by simp [padD, val] at h2 ⊢; omega
  | k + 1, x, h1, h2 => by
    rw [Int.pow_succ] at h2
    have := pC k (x / 1048576) (by omega) (by omega)
    simp only [padD, val, this]; omega
theorem wT {l : List Int} {k : Nat} (ho : okD l) (hl : l.length = k) {x : Int} (h : val l = x) : padD k x = l := by
  subst hl h; exact pB ho
def smC (g : Int) : Int → List Int → List Int → List Int
  | c, [], _ => [c]
  | c, x :: xs, ys => (x - c - g * ys.headD 0) % 1048576 :: smC g (-((x - c - g * ys.headD 0) / 1048576)) xs ys.tail
theorem rT (g : Int) : ∀ (c : Int) (ws vs T : List Int) (c' : Int), vs.length ≤ ws.length → smC g c ws vs = T ++ [c'] → val T - 1048576 ^ ws.length * c' = val ws - c - g * val vs
  | c, [], vs, T, c', hl, h => by
    have hv : vs = [] := by simpa using hl
    subst hv
    have : T = [] ∧ c' = c := by
      cases T with
      | nil => simpa [smC, eq_comm] using h
      | cons t T => simp [smC] at h
    obtain ⟨rfl, rfl⟩ := this
    simp [val]
  | c, x :: xs, vs, T, c', hl, h => by
    cases T with
    | nil =>
      have := congrArg List.length h
      cases xs <;> simp [smC] at this
    | cons t T =>
      simp only [smC, List.cons_append, List.cons.injEq] at h
      obtain ⟨rfl, h⟩ := h
      have ih := rT g _ xs vs.tail T c' (by simp at hl ⊢; omega) h
      have hvs := iL vs
      simp only [val, List.length_cons, Int.pow_succ]
      rw [show (1048576 : Int) ^ xs.length * 1048576 * c' = 1048576 * (1048576 ^ xs.length * c') by rw [Int.mul_comm _ 1048576, Int.mul_assoc]]
      rw [hvs, Int.mul_add, Int.mul_left_comm g 1048576]
      generalize (1048576 : Int) ^ xs.length * c' = p at *
      generalize g * val vs.tail = s at *
      generalize g * vs.headD 0 = t at *
      omega
theorem zF {g c x y : Int} (hg : 0 ≤ g) (hc : 0 ≤ c ∧ c ≤ g) (hx : 0 ≤ x ∧ x < 1048576) (hy : 0 ≤ y ∧ y < 1048576) :
    (0 ≤ g * y ∧ g * y ≤ g * 1048575) ∧ 0 ≤ -((x - c - g * y) / 1048576) ∧ -((x - c - g * y) / 1048576) ≤ g := by
  have h1 : 0 ≤ g * y := Int.mul_nonneg hg hy.1
  have h2 : g * y ≤ g * 1048575 := Int.mul_le_mul_of_nonneg_left (by omega) hg
  refine ⟨⟨h1, h2⟩, ?_⟩
  generalize g * y = p at *
  omega
theorem vJ {P l l' V2 T3 q : Int} (hP : 0 < P) (hl : 0 ≤ l) (hl' : l' < P) (hq : 0 ≤ q) (h : q * (l + P * V2) ≤ l' + P * T3) : q * V2 ≤ T3 := by
  refine Decidable.byContradiction fun hn => ?_
  have h1 : P * (T3 + 1) ≤ P * (q * V2) := Int.mul_le_mul_of_nonneg_left (by omega) (by omega)
  have h2 : 0 ≤ q * l := Int.mul_nonneg hq hl
  rw [Int.mul_add, Int.mul_left_comm q P V2] at h
  rw [Int.mul_add] at h1
  omega
theorem vK {P l l' V2 T3 q g : Int} (hP : 0 < P) (hl : 0 ≤ l ∧ l < P) (hl' : 0 ≤ l') (hg : 0 ≤ g ∧ g < 1048576) (h : g * V2 ≤ T3) (hB : 1048576 ≤ V2) (hq : l' + P * T3 < (q + 1) * (l + P * V2)) : g ≤ q + 1 := by
  refine Decidable.byContradiction fun hn => ?_
  have hV : 0 < l + P * V2 := by have := Int.mul_pos hP (show 0 < V2 by omega); omega
  have h1 : (q + 2) * (l + P * V2) ≤ g * (l + P * V2) := Int.mul_le_mul_of_nonneg_right (by omega) (by omega)
  have h2 : P * (g * V2) ≤ P * T3 := Int.mul_le_mul_of_nonneg_left h (by omega)
  have h3 : g * l ≤ 1048576 * l := Int.mul_le_mul_of_nonneg_right (by omega) hl.1
  have h4 : P * 1048576 ≤ P * V2 := Int.mul_le_mul_of_nonneg_left hB (by omega)
  rw [show q + 2 = (q + 1) + 1 by omega, Int.add_mul (q + 1) 1, Int.one_mul] at h1
  rw [Int.mul_add g, Int.mul_left_comm g P V2] at h1
  generalize (q + 1) * (l + P * V2) = z at *
  omega
theorem jZ {V : List Int} {k : Nat} (h : V.length = k + 2) : val V = val (V.take k) + 1048576 ^ k * (V[k] + 1048576 * V[k + 1]) := by
  rw [iK V k (by omega), List.drop_eq_getElem_cons (by omega), List.drop_eq_getElem_cons (by omega), List.drop_of_length_le (by omega)]
  simp [val]
theorem vL {w : List Int} {k : Nat} (h : w.length = k + 3) : val w = val (w.take k) + 1048576 ^ k * ((w[k + 2] * 1048576 + w[k + 1]) * 1048576 + w[k]) := by
  rw [iK w k (by omega), List.drop_eq_getElem_cons (by omega), List.drop_eq_getElem_cons (by omega), List.drop_eq_getElem_cons (by omega), List.drop_of_length_le (by omega)]
  have e : w[k + 2] = w[k + 1 + 1] := rfl
  rw [e]
  simp only [val]
  congr 2
  omega
theorem yC {L V : List Int} {i n : Nat} (hL : okD L) (hV : okD V) (hn : V.length = n) (hi : i + n < L.length) (hr : val (L.drop (i + 1)) < val V) :
    val (L.drop (i + n + 1)) = 0 ∧ val ((L.drop i).take (n + 1)) = L[i] + 1048576 * val (L.drop (i + 1)) := by
  have h1 := c7 hV
  rw [hn] at h1
  have h2 := iK (L.drop (i + 1)) n (by simp; omega)
  rw [List.drop_drop, show i + 1 + n = i + n + 1 by omega] at h2
  have h3 := aT (bC (bH hL (i + 1)) n)
  have h4 := aT (bH hL (i + n + 1))
  have h0 : val (L.drop (i + n + 1)) = 0 := by
    refine Decidable.byContradiction fun hne => ?_
    have := Int.mul_le_mul_of_nonneg_left (show 1 ≤ val (L.drop (i + n + 1)) by omega) (show (0 : Int) ≤ 1048576 ^ n by have := bE n; omega)
    omega
  refine ⟨h0, ?_⟩
  rw [List.drop_eq_getElem_cons (show i < L.length by omega), List.take_succ_cons]
  simp only [val]
  rw [h0] at h2
  omega
theorem nR {L V : List Int} {i k : Nat} {q : Int} (hL : okD L) (hV : okD V) (hVl : V.length = k + 2) (hi : i + k + 2 < L.length) (hq0 : 0 ≤ q) (h1 : q * val V ≤ val ((L.drop i).take (k + 2 + 1)))
    (h2 : val ((L.drop i).take (k + 2 + 1)) < (q + 1) * val V) (hv1 : 1 ≤ V[k + 1]) :
    q * (V[k] + 1048576 * V[k + 1]) ≤ (L[i + k + 2] * 1048576 + L[i + k + 1]) * 1048576 + L[i + k] ∧ q * V[k + 1] ≤ L[i + k + 2] * 1048576 + L[i + k + 1] ∧
    ∀ g, 0 ≤ g → g < 1048576 → g * (V[k] + 1048576 * V[k + 1]) ≤ (L[i + k + 2] * 1048576 + L[i + k + 1]) * 1048576 + L[i + k] → g ≤ q + 1 := by
  have hwl : ((L.drop i).take (k + 2 + 1)).length = k + 3 := by simp; omega
  have hw := vL hwl
  have e0 : ((L.drop i).take (k + 2 + 1))[k]'(by omega) = L[i + k] := by simp
  have e1 : ((L.drop i).take (k + 2 + 1))[k + 1]'(by omega) = L[i + k + 1] := by simp [Nat.add_assoc]
  have e2 : ((L.drop i).take (k + 2 + 1))[k + 2]'(by omega) = L[i + k + 2] := by simp [Nat.add_assoc]
  rw [e0, e1, e2] at hw
  have hV2 := jZ hVl
  have hlo1 := aT (bC hV k)
  have hlo2 := c7 (bC hV k)
  have hwo := bC (bC (bH hL i) (k + 2 + 1)) k
  have hlw1 := aT hwo
  have hlw2 := c7 hwo
  rw [List.length_take, Nat.min_eq_left (by omega)] at hlo2 hlw2
  have hP := bE k
  have hx := b7 hV (i := k) (by omega)
  have hy := b7 hL (i := i + k) (by omega)
  rw [hw, hV2] at h1 h2
  have hup := vJ hP hlo1 hlw2 hq0 h1
  refine ⟨hup, ?_, fun g hg0 hg1 hg => vK hP ⟨hlo1, hlo2⟩ hlw1 ⟨hg0, hg1⟩ hg (by omega) h2⟩
  rw [Int.mul_add, Int.mul_left_comm] at hup
  have := Int.mul_nonneg hq0 hx.1
  omega
theorem zG {V : List Int} {k : Nat} (hV : okD V) (hk : V.length = k + 2) (h : 1 ≤ V[k + 1]) : 1048576 ^ (k + 1) ≤ val V := by
  have h2 := jZ hk
  have h3 := aT (bC hV k)
  have hx := b7 hV (i := k) (by omega)
  have h4 := Int.mul_le_mul_of_nonneg_left (show 1048576 ≤ V[k] + 1048576 * V[k + 1] by omega) (show (0 : Int) ≤ 1048576 ^ k by have := bE k; omega)
  rw [Int.pow_succ]; omega
theorem sB {U V : List Int} {k m : Nat} (hU : okD U) (hV : okD V) (hk : V.length = k + 2) (hm : U.length + 1 = m + (k + 2)) (h : 1 ≤ V[k + 1]) : val ((U ++ [0]).drop m) < val V := by
  have h1 := zG hV hk h
  have h2 := c7 (bH hU m)
  rw [List.length_drop, show U.length - m = k + 1 by omega] at h2
  rw [List.drop_append_of_le_length (by omega), cS]
  simp only [val]
  omega
theorem tV {L Q u0 V : List Int} {i k m : Nat} {q W : Int} (hL : L.length = m + (k + 2)) (hLo : okD L) (hQ : Q.length = m) (hQo : okD (Q.drop (i + 1))) (hi : i < m) (hu : u0.length = m + (k + 2))
    (hLu : L.take (i + 1) = u0.take (i + 1)) (hV : okD V) (hk : V.length = k + 2) (hz : val (L.drop (i + (k + 2) + 1)) = 0) (hWv : W = L[i] + 1048576 * val (L.drop (i + 1))) (hq : 0 ≤ q ∧ q < 1048576)
    (h1 : q * val V ≤ W) (h2 : W < (q + 1) * val V) (hE : val (Q.drop (i + 1)) * val V + val (L.drop (i + 1)) = val (u0.drop (i + 1))) (L2 : List Int)
    (hL2 : L2 = L.take i ++ padD (k + 2 + 1) (W - q * val V) ++ L.drop (i + (k + 2 + 1))) :
    L2.length = m + (k + 2) ∧ okD L2 ∧ okD ((Q.set i q).drop i) ∧ L2.take i = u0.take i ∧ (0 ≤ val (L2.drop i) ∧ val (L2.drop i) < val V) ∧ val ((Q.set i q).drop i) * val V + val (L2.drop i) = val (u0.drop i) := by
  have hVl := c7 hV
  rw [hk] at hVl
  rw [Int.add_mul, Int.one_mul] at h2
  have hpow : (1048576 : Int) ^ (k + 2 + 1) = 1048576 ^ (k + 2) * 1048576 := Int.pow_succ _ _
  have hpp := bE (k + 2)
  have hti : (L.take i).length = i := by rw [List.length_take]; omega
  have hpad := pC (k + 2 + 1) (W - q * val V) (by omega) (by omega)
  have hd : val (L2.drop i) = W - q * val V := by
    rw [hL2, List.append_assoc, List.drop_append, List.drop_of_length_le (by omega), hti, Nat.sub_self, List.drop_zero, List.nil_append, cS, hpad]
    rw [show i + (k + 2 + 1) = i + (k + 2) + 1 by omega, hz, Int.mul_zero, Int.add_zero]
  have hQs : (Q.set i q).drop i = q :: Q.drop (i + 1) := by
    rw [List.drop_eq_getElem_cons (by simp; omega), List.drop_set_of_lt (by omega)]
    simp
  have hui : u0[i]'(by omega) = L[i] := by
    have e := congrArg (fun l => l[i]?) hLu
    simp only [List.getElem?_take] at e
    rw [if_pos (by omega), if_pos (by omega), List.getElem?_eq_getElem (by omega), List.getElem?_eq_getElem (by omega)] at e
    exact (Option.some.inj e).symm
  refine ⟨?_, ?_, ?_, ?_, ?_, ?_⟩
  · rw [hL2]; simp [pA]; omega
  · rw [hL2]; exact cT.2 ⟨cT.2 ⟨bC hLo i, rS _ _⟩, bH hLo _⟩
  · rw [hQs]; exact aS.2 ⟨hq, hQo⟩
  · rw [hL2, List.append_assoc, List.take_append_of_le_length (by omega), List.take_of_length_le (by omega)]
    have e := congrArg (List.take i) hLu
    rwa [List.take_take, List.take_take, Nat.min_eq_left (by omega)] at e
  · rw [hd]; omega
  · rw [hd, hQs, List.drop_eq_getElem_cons (show i < u0.length by omega), hui]
    simp only [val]
    rw [Int.add_mul, Int.mul_assoc, ← hE, hWv]
    omega
theorem w9 {A b s Q R : Int} (hs : 0 < s) (hR : 0 ≤ R ∧ R < b * s) (h : Q * (b * s) + R = A * s) : Q = A / b ∧ R / s = A % b := by
  have e : R = (A - Q * b) * s := by rw [Int.sub_mul, Int.mul_assoc]; omega
  obtain ⟨h1, h2⟩ := hR
  generalize ht : A - Q * b = t at *
  have h3 : 0 ≤ t := by
    refine Decidable.byContradiction fun hn => ?_
    have := Int.mul_lt_mul_of_pos_right (show t < 0 by omega) hs
    omega
  have h4 : t < b := by
    refine Decidable.byContradiction fun hn => ?_
    have := Int.mul_le_mul_of_nonneg_right (show b ≤ t by omega) (show 0 ≤ s by omega)
    omega
  have e2 : A = t + Q * b := by omega
  rw [e2, Int.add_mul_ediv_right _ _ (by omega), Int.add_mul_emod_self_right, Int.ediv_eq_zero_of_lt h3 h4, Int.emod_eq_of_lt h3 h4, e, Int.mul_ediv_cancel _ (by omega)]
  exact ⟨by omega, rfl⟩
end Go.Proofs.YtebinaffldlihaaGreatDoor
