/-
  Lemmas for the statement at the top.
-/
import Derived.Test.YthibhamepjhfjaaGreatDoorTeP16
import Derived.Test.YthibhamepjhfjaaGreatDoorTeFw5
import Derived.Test.YthibhamepjhfjaaGreatDoorTeP10
import Derived.Test.YthibhamepjhfjaaGreatDoorTeP15
set_option linter.all false
namespace Go.Proofs.YthibhamepjhfjaaGreatDoor
open Go.RowKit Go.Ab
def q16x0 : List Nat :=[0,1,2,3,4,5,6,7,8,9,12,13,14,15,16,17,18]
def q16x1 : List Nat :=[0,1,4,5,6,21,25,49,53,88]
def q16x2 : List Nat :=[0,1,4,5,10,14,25]
def q16x3 : List Nat :=[0,1,4,5,9,13,21]
def q16x4 : List Nat :=[0,1,2,3,4,5,6,7,8,9,10,11,19]
def q16x5 : List Nat :=[0,2,3,4,8]
def q16x6 : List Nat :=[0,1,4,5,13,21]
attribute [go_sem] q16x0 q16x1 q16x2 q16x3 q16x4 q16x5 q16x6
def rM (own : List Int) (S : List (List Int)) : Mx :=fun k t => if t = own.length then ((wO own k : Int) : Rat) else (((sO S t k : Int) : Rat) / ((1000 : Int) : Rat))
def rO (T : Mx) (i t : Nat) : Rat :=if t = i then 0 else T i t
def rR (T : Mx) (i t : Nat) : Rat :=rO T i t / (1 - T i i)
def rStep (T : Mx) (i : Nat) : Mx :=fun j t => if j = i then rR T i t else (if t = i then 0 else T j t) + T j i * rR T i t
def gR (T : Mx) : Nat → Mx
 | 0 => T
 | i + 1 => rStep (gR T i) i
def rD (T : Mx) (i k : Nat) : Mx :=fun j t => if j = i then (if t < k then rR T i t else rO T i t) else T j t
def rJ (T : Mx) (i j k : Nat) : Mx :=fun j' t => if j' = i then rR T i t else if j' < j ∨ (j' = j ∧ t < k) then rStep T i j' t else T j' t
theorem GD (T : Mx) (i k : Nat) : updM (rD T i k) i k (rR T i k) = rD T i (k + 1) :=by
 funext j t
 unfold updM rD
 by_cases h : j = i
 · subst h
   by_cases h2 : t = k
   · subst h2; simp
   · rw [if_neg (by omega),if_pos rfl,if_pos rfl]
     by_cases h3 : t < k
     · rw [if_pos h3,if_pos (by omega)]
     · rw [if_neg h3,if_neg (by omega)]
 · rw [if_neg (by omega),if_neg h,if_neg h]
theorem GB (T : Mx) (i : Nat) : updM T i i 0 = rD T i 0 :=by
 funext j t
 unfold updM rD rO
 by_cases h : j = i
 · subst h
   by_cases h2 : t = j
   · subst h2; simp
   · rw [if_neg (by omega),if_pos rfl,if_neg (by omega),if_neg h2]
 · rw [if_neg (by omega),if_neg h]
theorem KQ (T : Mx) (i k : Nat) : rD T i k i k = rO T i k :=by
 unfold rD
 rw [if_pos rfl,if_neg (by omega)]
theorem DN (T : Mx) (n i : Nat) : mxL (rD T i (n + 1)) n = mxL (rJ T i 0 0) n :=j4 fun j t hj ht => by
 unfold rD rJ
 by_cases h : j = i
 · rw [if_pos h,if_pos h,if_pos (by omega)]
 · rw [if_neg h,if_neg h,if_neg (by omega)]
theorem GE (T : Mx) (i j k : Nat) (h : j ≠ i) : updM (rJ T i j k) j k (rStep T i j k) = rJ T i j (k + 1) :=by
 funext j' t
 unfold updM rJ
 by_cases h1 : j' = j ∧ t = k
 · obtain ⟨rfl,rfl⟩ :=h1
   rw [if_pos ⟨rfl,rfl⟩,if_neg h,if_pos (.inr ⟨rfl,by omega⟩)]
 · rw [if_neg h1]
   by_cases h2 : j' = i
   · rw [if_pos h2,if_pos h2]
   · rw [if_neg h2,if_neg h2]
     by_cases h3 : j' < j ∨ (j' = j ∧ t < k)
     · rw [if_pos h3,if_pos (by omega)]
     · rw [if_neg h3,if_neg (by omega)]
theorem J1 (T : Mx) (n i j : Nat) : mxL (rJ T i j (n + 1)) n = mxL (rJ T i (j + 1) 0) n :=j4 fun j' t hj ht => by
 unfold rJ
 by_cases h2 : j' = i
 · rw [if_pos h2,if_pos h2]
 · rw [if_neg h2,if_neg h2]
   by_cases h3 : j' < j ∨ (j' = j ∧ t < n + 1)
   · rw [if_pos h3,if_pos (by omega)]
   · rw [if_neg h3,if_neg (by omega)]
theorem GF (T : Mx) (i : Nat) : rJ T i i 0 = rJ T i (i + 1) 0 :=by
 funext j' t
 unfold rJ
 by_cases h2 : j' = i
 · rw [if_pos h2,if_pos h2]
 · rw [if_neg h2,if_neg h2]
   by_cases h3 : j' < i ∨ (j' = i ∧ t < 0)
   · rw [if_pos h3,if_pos (by omega)]
   · rw [if_neg h3,if_neg (by omega)]
theorem GG (T : Mx) (n i : Nat) : mxL (rJ T i n 0) n = mxL (rStep T i) n :=j4 fun j t hj ht => by
 unfold rJ
 by_cases h2 : j = i
 · rw [if_pos h2]; unfold rStep; rw [if_pos h2]
 · rw [if_neg h2,if_pos (.inl hj)]
theorem DO {T : Mx} {i j k t : Nat} (h : j ≠ i) (ht : k ≤ t) : rJ T i j k j t = T j t :=by
 unfold rJ
 rw [if_neg h,if_neg (by omega)]
theorem J0 (T : Mx) (i j k t : Nat) : rJ T i j k i t = rR T i t :=if_pos rfl
theorem fY {T : Mx} {i j : Nat} (h : j ≠ i) (t : Nat) : rStep T i j t = (if t = i then 0 else T j t) + T j i * rR T i t :=if_neg h
structure InvR (T : Mx) (n i : Nat) : Prop where
 nn : ∀ j t,j < n → t < n → 0 ≤ T j t
 col : ∀ t,i ≤ t → t < n → sumR (fun j => if i ≤ j then T j t else 0) n < 1
 zero : ∀ j t,j < n → t < i → t < n → T j t = 0
theorem gE {T : Mx} {n i : Nat} (h : InvR T n i) (hi : i < n) : 0 < 1 - T i i :=by
 have h1 :=h.col i (Nat.le_refl _) hi
 have h2 : (if i ≤ i then T i i else 0) ≤ sumR (fun j => if i ≤ j then T j i else 0) n :=rT (f :=fun j => if i ≤ j then T j i else 0) hi fun j hj => by
  show 0 ≤ (if i ≤ j then T j i else 0)
  split
  · exact h.nn j i hj hi
  · exact Rat.le_refl
 rw [if_pos (Nat.le_refl _)] at h2
 grind
theorem FO {a b : Rat} (ha : 0 ≤ a) (hb : 0 < b) : 0 ≤ a / b :=by
 have : a / b * b = a :=by grind
 refine Rat.not_lt.1 fun hlt => ?_
 have :=Rat.mul_pos (show 0 < -(a / b) by grind) hb
 grind
theorem FP {T : Mx} {n i t : Nat} (h : InvR T n i) (hi : i < n) (ht : t < n) : 0 ≤ rR T i t :=by
 unfold rR rO
 refine FO ?_ (gE h hi)
 split
 · exact Rat.le_refl
 · exact h.nn i t hi ht
theorem HJ {T : Mx} {n i t : Nat} (h : InvR T n i) (hi : i < n) (ht : t < n) (hti : t ≤ i) : rR T i t = 0 :=by
 unfold rR rO
 have hz : (if t = i then 0 else T i t) = 0 :=by
  split
  · rfl
  · exact h.zero i t hi (by omega) ht
 rw [hz]; grind
theorem CJ {T : Mx} {n i : Nat} (h : InvR T n i) (hi : i < n) : InvR (rStep T i) n (i + 1) :=by
 have hl :=gE h hi
 refine ⟨fun j t hj ht => ?_,fun t hit ht => ?_,fun j t hj hti ht => ?_⟩
 · unfold rStep
   split
   · exact FP h hi ht
   · have h1 :=FP h hi ht
     have h2 :=Rat.mul_nonneg (h.nn j i hj hi) h1
     split
     · grind
     · have :=h.nn j t hj ht; grind
 ·
  have e1 : sumR (fun j => if i + 1 ≤ j then rStep T i j t else 0) n = sumR (fun j => (if i ≤ j then T j t else 0) + (if i ≤ j then T j i else 0) * rR T i t) n - (T i t + T i i * rR T i t) :=by
   have : sumR (fun j => (if i ≤ j then T j t else 0) + (if i ≤ j then T j i else 0) * rR T i t) n = sumR (fun j => (if i + 1 ≤ j then rStep T i j t else 0) + (if j = i then T i t + T i i * rR T i t else 0)) n :=b8 fun j hj => by
    by_cases h1 : j = i
    · subst h1
      rw [if_pos (Nat.le_refl _),if_pos (Nat.le_refl _),if_neg (by omega),if_pos rfl]; grind
    · by_cases h2 : i + 1 ≤ j
      · rw [if_pos (by omega),if_pos (by omega),if_pos h2,if_neg h1,fY h1,if_neg (by omega)]; grind
      · rw [if_neg (by omega),if_neg (by omega),if_neg h2,if_neg h1]; grind
   rw [this,l5,dM (f :=fun j => if j = i then T i t + T i i * rR T i t else 0) hi fun j _ hne => if_neg hne,if_pos rfl]
   grind
  have e2 : sumR (fun j => (if i ≤ j then T j t else 0) + (if i ≤ j then T j i else 0) * rR T i t) n = sumR (fun j => if i ≤ j then T j t else 0) n + rR T i t * sumR (fun j => if i ≤ j then T j i else 0) n :=by
   rw [l5,← l6]
   congr 1
   exact b8 fun j _ => by grind
  have h1 :=h.col t (by omega) ht
  have h2 :=h.col i (Nat.le_refl _) hi
  have h3 :=FP h hi ht
  have h4 : rR T i t * (1 - T i i) = T i t :=by
   unfold rR rO
   rw [if_neg (by omega)]
   grind
  rw [e1,e2]
  generalize sumR (fun j => if i ≤ j then T j t else 0) n = S1 at *
  generalize sumR (fun j => if i ≤ j then T j i else 0) n = S2 at *
  generalize rR T i t = r at *
  have h5 : r * S2 ≤ r * 1 :=Rat.mul_le_mul_of_nonneg_left (Rat.le_of_lt h2) h3
  grind
 · have hz :=HJ h hi ht (by omega)
   unfold rStep
   split
   · exact hz
   · rw [hz]
     split
     · grind
     · rw [h.zero j t hj (by omega) ht]; grind
theorem lV {T : Mx} {n : Nat} (h : InvR T n 0) : ∀ i,i ≤ n → InvR (gR T i) n i
 | 0,_ => h
 | i + 1,hi => CJ (lV h i (by omega)) (by omega)
def SolR (T : Mx) (n : Nat) (x : Nat → Rat) : Prop :=∀ j,j < n → x j = sumR (fun t => T j t * x t) n + T j n
theorem rW {f : Nat → Rat} {n i : Nat} (hi : i < n) : sumR (fun t => if t = i then 0 else f t) n = sumR f n - f i :=by
 have : sumR f n = sumR (fun t => (if t = i then 0 else f t) + (if t = i then f i else 0)) n :=b8 fun t _ => by
  split
  · rename_i e; subst e; grind
  · grind
 rw [this,l5,dM (f :=fun t => if t = i then f i else 0) hi fun j _ hne => if_neg hne,if_pos rfl]
 grind
theorem CK {T : Mx} {n i : Nat} {x : Nat → Rat} (h : InvR T n i) (hi : i < n) (hs : SolR T n x) : SolR (rStep T i) n x :=by
 have hl :=gE h hi
 have hxi : x i = sumR (fun t => rR T i t * x t) n + rR T i n :=by
  have h1 :=hs i hi
  have e1 : sumR (fun t => rR T i t * x t) n * (1 - T i i) = sumR (fun t => T i t * x t) n - T i i * x i :=by
   rw [← rW (f :=fun t => T i t * x t) hi,Rat.mul_comm,← l6]
   refine b8 fun t _ => ?_
   unfold rR rO
   split
   · grind
   · grind
  have e2 : rR T i n * (1 - T i i) = T i n :=by
   unfold rR rO
   rw [if_neg (by omega)]; grind
  grind
 intro j hj
 by_cases hji : j = i
 · subst hji
   have e : sumR (fun t => rStep T j j t * x t) n = sumR (fun t => rR T j t * x t) n :=b8 fun t _ => by unfold rStep; rw [if_pos rfl]
   rw [e]
   show x j = _ + rStep T j j n
   unfold rStep; rw [if_pos rfl]; exact hxi
 · have h1 :=hs j hj
   have e : sumR (fun t => rStep T i j t * x t) n = (sumR (fun t => T j t * x t) n - T j i * x i) + T j i * sumR (fun t => rR T i t * x t) n :=by
    rw [← rW (f :=fun t => T j t * x t) hi,← l6,← l5]
    refine b8 fun t _ => ?_
    show rStep T i j t * x t = (if t = i then 0 else T j t * x t) + T j i * (rR T i t * x t)
    rw [fY hji]
    split
    · grind
    · grind
   rw [e,fY hji,if_neg (by omega)]
   grind
theorem AO {T : Mx} {n : Nat} {x : Nat → Rat} (h : InvR T n 0) (hs : SolR T n x) : ∀ i,i ≤ n → SolR (gR T i) n x
 | 0,_ => hs
 | i + 1,hi => CK (lV h i (by omega)) (by omega) (AO h hs i (by omega))
theorem FQ {T : Mx} {n : Nat} {x : Nat → Rat} (h : InvR T n 0) (hs : SolR T n x) {j : Nat} (hj : j < n) : gR T n j n = x j :=by
 have h1 :=AO h hs n (Nat.le_refl _) j hj
 rw [l9 (f :=fun t => gR T n j t * x t) fun t ht => by
  rw [(lV h n (Nat.le_refl _)).zero j t hj ht ht]; grind] at h1
 grind
theorem rX {T : Mx} {n i d a c : Nat} (hv : InvR T n i) (h : Stg T n d a c) (hda : d ≤ a) (hi : i < n) : Stg (rStep T i) n (d + d) (2 * a + 1) (a + c + 1) ∧ (a ≤ c → ∀ t,t ≤ n → bt c (rR T i t).num ∧ bt d (rR T i t).den) ∧ bt d (1 - T i i).num ∧ bt d (1 - T i i).den :=by
 obtain ⟨D,hD,hDl,hs⟩ :=h
 have hl :=gE hv hi
 have hnn :=hv.nn i i hi hi
 obtain ⟨q,hqz,hql⟩ :=(hs i hi).1 i hi
 have hDR : (0 : Rat) < ((D : Int) : Rat) :=by
  have : ((0 : Int) : Rat) < ((D : Int) : Rat) :=Rat.intCast_lt_intCast.2 (by omega)
  exact this
 have hpz : (1 - T i i) * ((D : Int) : Rat) = (((D : Int) - q : Int) : Rat) :=by
  rw [Rat.intCast_sub,← hqz]; grind
 have hq0 : 0 ≤ q :=by
  have : ((0 : Int) : Rat) ≤ (q : Rat) :=by rw [← hqz]; exact Rat.mul_nonneg hnn (Rat.le_of_lt hDR)
  exact Rat.intCast_le_intCast.1 this
 have hp0 : 0 < (D : Int) - q :=by
  have : ((0 : Int) : Rat) < (((D : Int) - q : Int) : Rat) :=by rw [← hpz]; exact Rat.mul_pos hl hDR
  exact Rat.intCast_lt_intCast.1 this
 obtain ⟨p,hp⟩ : ∃ p : Nat,(D : Int) - q = (p : Int) :=⟨((D : Int) - q).toNat,by omega⟩
 rw [hp] at hpz
 have hpl : p ≤ D :=by omega
 have hpp : 0 < p :=by omega
 have hcast : (((D * p : Nat) : Int) : Rat) = ((D : Int) : Rat) * ((1 - T i i) * ((D : Int) : Rat)) :=by
  rw [hpz,Int.natCast_mul,Rat.intCast_mul]
 have hpi : intB (2 ^ d) ((1 - T i i) * ((D : Int) : Rat)) :=⟨p,hpz,by simp; omega⟩
 have pr : ∀ {x : Rat} {N : Nat},intB (2 ^ N) (x * ((D : Int) : Rat)) → intB (2 ^ (d + N)) (x * (((D * p : Nat) : Int) : Rat)) :=by
  intro x N hx
  rw [hcast,Nat.pow_add]
  have e : x * (((D : Int) : Rat) * ((1 - T i i) * ((D : Int) : Rat))) = (1 - T i i) * ((D : Int) : Rat) * (x * ((D : Int) : Rat)) :=by grind
  rw [e]; exact eG hpi hx
 have rN : ∀ {x : Rat},x / (1 - T i i) * (((D * p : Nat) : Int) : Rat) = (x * ((D : Int) : Rat)) * ((D : Int) : Rat) :=by
  intro x
  rw [hcast]; grind
 have hDi : intB (2 ^ d) ((D : Int) : Rat) :=⟨D,rfl,by simpa using hDl⟩
 have rP : ∀ {x : Rat} {N : Nat},intB (2 ^ N) (x * ((D : Int) : Rat)) → intB (2 ^ (N + d)) (x / (1 - T i i) * (((D * p : Nat) : Int) : Rat)) :=by
  intro x N hx
  rw [rN,Nat.pow_add]
  exact eG hx hDi
 have two : ∀ {x y z : Rat} {N : Nat},a ≤ N ∨ d ≤ a → intB (2 ^ N) (x * ((D : Int) : Rat)) → intB (2 ^ a) (y * ((D : Int) : Rat)) → intB (2 ^ N) (z * ((D : Int) : Rat)) → intB (2 ^ (a + N + 1)) ((x + y * (z / (1 - T i i))) * (((D * p : Nat) : Int) : Rat)) :=by
  intro x y z N _ hx hy hz
  have h1 :=cV (pr hx) (Nat.pow_le_pow_right (show 0 < 2 by decide) (show d + N ≤ a + N by omega))
  have h2 :=eG hy hz
  rw [← Nat.pow_add] at h2
  have h3 :=oB h1 h2
  rw [← Nat.two_mul,Nat.mul_comm,← Nat.pow_succ] at h3
  have e : (x + y * (z / (1 - T i i))) * (((D * p : Nat) : Int) : Rat) = x * (((D * p : Nat) : Int) : Rat) + (y * ((D : Int) : Rat)) * (z * ((D : Int) : Rat)) :=by
   rw [hcast]; grind
  rw [e]; exact h3
 have i0 : ∀ N : Nat,intB (2 ^ N) (0 * ((D : Int) : Rat)) :=fun N => ⟨0,by grind,by simp⟩
 have hO : ∀ t,t < n → intB (2 ^ a) (rO T i t * ((D : Int) : Rat)) :=fun t ht => by
  unfold rO
  split
  · exact i0 a
  · exact (hs i hi).1 t ht
 have hOn : intB (2 ^ c) (rO T i n * ((D : Int) : Rat)) :=by
  unfold rO
  rw [if_neg (by omega)]
  exact (hs i hi).2
 refine ⟨⟨D * p,Nat.mul_pos hD hpp,by rw [Nat.pow_add]; exact Nat.mul_le_mul hDl (by omega),fun j hj => ⟨fun t ht => ?_,?_⟩⟩,fun hac t ht => ?_,?_⟩
 · by_cases h : j = i
   · have e : rStep T i j t = rO T i t / (1 - T i i) :=by unfold rStep; rw [if_pos h]; rfl
     rw [e]
     exact cV (rP (hO t ht)) (Nat.pow_le_pow_right (by decide) (by omega))
   · rw [fY h]
     have e1 : a + a + 1 = 2 * a + 1 :=by omega
     rw [← e1]
     refine two (.inr hda) ?_ ((hs j hj).1 i hi) (hO t ht)
     split
     · exact i0 a
     · exact (hs j hj).1 t ht
 · by_cases h : j = i
   · have e : rStep T i j n = rO T i n / (1 - T i i) :=by unfold rStep; rw [if_pos h]; rfl
     rw [e]
     exact cV (rP hOn) (Nat.pow_le_pow_right (by decide) (by omega))
   · rw [fY h,if_neg (by omega)]
     exact two (.inr hda) (hs j hj).2 ((hs j hj).1 i hi) hOn
 · have hz : intB (2 ^ c) (rO T i t * ((D : Int) : Rat)) :=by
    by_cases htn : t < n
    · exact cV (hO t htn) (Nat.pow_le_pow_right (by decide) hac)
    · have : t = n :=by omega
      subst this; exact hOn
   have e : rR T i t * ((p : Int) : Rat) = rO T i t * ((D : Int) : Rat) :=by
    rw [← hpz]; unfold rR; grind
   obtain ⟨h1,h2⟩ :=jW (D :=p) (N :=2 ^ c) (r :=rR T i t) ⟨hpp,by rw [e]; exact hz⟩
   exact ⟨h1,by unfold bt; simp only [Int.natAbs_natCast]; omega⟩
 · obtain ⟨h1,h2⟩ :=jW (D :=D) (N :=2 ^ d) (r :=1 - T i i) ⟨hD,hpi⟩
   exact ⟨h1,by unfold bt; simp only [Int.natAbs_natCast]; omega⟩
def bE : Nat → Nat
 | 0 => 10
 | i + 1 => bE i + bE i
theorem qF : (∀ i,i ≤ 5 → bE i ≤ 320 ∧ bE i ≤ bA 10 i ∧ bA 10 i ≤ 351 ∧ bC 10 50 i ≤ 391 ∧ bA 10 i ≤ bC 10 50 i) ∧ bE 6 ≤ 640 ∧ bA 10 6 ≤ 703 ∧ bC 10 50 6 ≤ 743 ∧ bA 10 6 ≤ bC 10 50 6 :=by decide
theorem AP {T : Mx} {n : Nat} (hv : InvR T n 0) (h6 : n ≤ 6) (h : Stg T n 10 10 50) : ∀ i,i ≤ n → Stg (gR T i) n (bE i) (bA 10 i) (bC 10 50 i)
 | 0,_ => h
 | i + 1,hi => by
   have hb :=qF.1 i (by omega)
   have h1 :=(rX (lV hv i (by omega)) (AP hv h6 h i (by omega)) hb.2.1 (by omega)).1
   rw [yW]
   exact h1
structure FitR (T : Mx) (n : Nat) : Prop where
 ent : ∀ i j t,i ≤ n → j < n → t ≤ n → rq (gR T i j t)
 piv : ∀ i,i < n → 1 - gR T i i i ≠ 0
 less : ∀ i,i < n → okSub 1 (gR T i i i)
 div : ∀ i t,i < n → t ≤ n → okDiv (rO (gR T i) i t) (1 - gR T i i i)
 mul : ∀ i j t,i < n → j < n → j ≠ i → t ≤ n → okMul (gR T i j i) (rR (gR T i) i t)
 add : ∀ i j t,i < n → j < n → j ≠ i → t ≤ n → okAdd (if t = i then 0 else gR T i j t) (gR T i j i * rR (gR T i) i t)
theorem LK {k m : Nat} : bt k ((0 : Rat)).num ∧ bt m ((0 : Rat)).den :=⟨mW k,bR sJ (Nat.zero_le m)⟩
theorem LS {k m : Nat} : bt k ((1 : Rat)).num ∧ bt m ((1 : Rat)).den :=⟨bR (k :=0) (by show (1 : Nat) ≤ 2 ^ 0; decide) (Nat.zero_le k),bR (k :=0) (by show (1 : Nat) ≤ 2 ^ 0; decide) (Nat.zero_le m)⟩
theorem HK {T : Mx} {n : Nat} (hv : InvR T n 0) (h6 : n ≤ 6) (h : Stg T n 10 10 50) : FitR T n :=by
 have hst :=AP hv h6 h
 have sz : ∀ i,i ≤ n → ∀ j t,j < n → t ≤ n → bt (bC 10 50 i) (gR T i j t).num ∧ bt (bE i) (gR T i j t).den ∧ (t < n → bt (bA 10 i) (gR T i j t).num) :=fun i hi j t hj ht => by
  refine gJ (hst i hi) ?_ hj ht
  by_cases h5 : i ≤ 5
  · exact (qF.1 i h5).2.2.2.2
  · have : i = 6 :=by omega
    subst this; exact qF.2.2.2.2
 have lo : ∀ i,i < n → (∀ t,t ≤ n → bt (bC 10 50 i) (rR (gR T i) i t).num ∧ bt (bE i) (rR (gR T i) i t).den) ∧ bt (bE i) (1 - gR T i i i).num ∧ bt (bE i) (1 - gR T i i i).den :=fun i hi => by
  have hb :=qF.1 i (by omega)
  have h1 :=rX (lV hv i (by omega)) (hst i (by omega)) hb.2.1 hi
  exact ⟨h1.2.1 hb.2.2.2.2,h1.2.2⟩
 refine ⟨fun i j t hi hj ht => ?_,fun i hi => ?_,fun i hi => ?_,fun i t hi ht => ?_,fun i j t hi hj hne ht => ?_,fun i j t hi hj hne ht => ?_⟩
 · obtain ⟨h1,h2,_⟩ :=sz i hi j t hj ht
   by_cases h5 : i ≤ 5
   · have hb :=qF.1 i h5
     exact hI h1 h2 (by omega) (by omega)
   · have : i = 6 :=by omega
     subst this
     have hb :=qF.2
     exact hI h1 h2 (by omega) (by omega)
 · have :=gE (lV hv i (by omega)) hi
   intro e; rw [e] at this; exact absurd this (by decide)
 · have hb :=qF.1 i (by omega)
   obtain ⟨h1,h2,h3⟩ :=sz i (by omega) i i hi (by omega)
   have h0 :=LS (k :=0) (m :=0)
   exact oD h0.1 h0.2 (h3 hi) h2 (by omega) (by omega) (by omega)
 · have hb :=qF.1 i (by omega)
   obtain ⟨_,h3,h4⟩ :=lo i hi
   have h1 : bt (bC 10 50 i) (rO (gR T i) i t).num ∧ bt (bE i) (rO (gR T i) i t).den :=by
    unfold rO
    split
    · exact LK
    · have :=sz i (by omega) i t hi ht
      exact ⟨this.1,this.2.1⟩
   exact i7 h1.1 h1.2 h3 h4 (by omega) (by omega)
 · have hb :=qF.1 i (by omega)
   obtain ⟨h1,h2,h3⟩ :=sz i (by omega) j i hj (by omega)
   obtain ⟨h4,h5⟩ :=(lo i hi).1 t ht
   exact f0 (h3 hi) h2 h4 h5 (by omega) (by omega)
 · have hb :=qF.1 i (by omega)
   obtain ⟨h1,h2,h3⟩ :=sz i (by omega) j i hj (by omega)
   obtain ⟨h4,h5⟩ :=(lo i hi).1 t ht
   have hm :=yL (h3 hi) h2 h4 h5
   have ho : bt (bC 10 50 i) (if t = i then 0 else gR T i j t).num ∧ bt (bE i) (if t = i then 0 else gR T i j t).den :=by
    split
    · exact LK
    · have :=sz i (by omega) j t hj ht
      exact ⟨this.1,this.2.1⟩
   exact oC ho.1 ho.2 hm.1 hm.2 (by omega) (by omega) (by omega)
variable {own : List Int} {S : List (List Int)}
theorem uW {k t : Nat} (ht : t < own.length) : rM own S k t = (((sO S t k : Int) : Rat) / ((1000 : Int) : Rat)) :=if_neg (by omega)
theorem xR (k : Nat) : rM own S k own.length = ((wO own k : Int) : Rat) :=if_pos rfl
theorem FR (h : PV own S) : InvR (rM own S) own.length 0 :=by
 have hc : ((1000 : Int) : Rat) = 1000 :=rfl
 refine ⟨fun j t hj ht => ?_,fun t _ ht => ?_,fun j t hj h0 => by omega⟩
 · rw [uW ht]
   have h1 :=(h.s t j ht hj).1
   have h2 : (0 : Rat) ≤ ((sO S t j : Int) : Rat) :=Rat.intCast_le_intCast.2 h1
   exact FO h2 (by decide)
 · have e : sumR (fun j => if 0 ≤ j then rM own S j t else 0) own.length = (1 / 1000) * sumR (fun j => ((sO S t j : Int) : Rat)) own.length :=by
    rw [← l6]
    refine b8 fun j _ => ?_
    rw [if_pos (by omega),uW ht,hc]; grind
   have :=K4 h ht
   rw [e]; grind
theorem K6 (h : PV own S) : SolR (rM own S) own.length (allX own S) :=fun j hj => by
 rw [xR,EV h hj]
 have hc : ((1000 : Int) : Rat) = 1000 :=rfl
 have e : sumR (fun t => rM own S j t * allX own S t) own.length = sumR (fun t => allX own S t * (((sO S t j : Int) : Rat) / 1000)) own.length :=b8 fun t ht => by
  rw [uW ht,hc]; grind
 rw [e]; grind
theorem K7 (h : PR own S) : Stg (rM own S) own.length 10 10 50 :=by
 have hc : (((1000 : Nat) : Int) : Rat) = 1000 :=rfl
 have hc2 : ((1000 : Int) : Rat) = 1000 :=rfl
 refine ⟨1000,by decide,by decide,fun k hk => ⟨fun t ht => ?_,?_⟩⟩
 · rw [uW ht]
   have h1 :=h.s t k ht hk
   refine ⟨sO S t k,by rw [hc,hc2]; grind,?_⟩
   have : (2 : Nat) ^ 10 = 1024 :=by decide
   omega
 · rw [xR]
   have h1 :=h.w k hk
   refine ⟨wO own k * 1000,by rw [hc,Rat.intCast_mul]; rfl,?_⟩
   have : (2 : Nat) ^ 50 = 1125899906842624 :=by decide
   omega
theorem IY (h : PV own S) (h6 : own.length ≤ 6) : FitR (rM own S) own.length :=HK (FR h) h6 (K7 h.toPR)
theorem IZ (h : PV own S) {j : Nat} (hj : j < own.length) : gR (rM own S) own.length j own.length = allX own S j :=FQ (FR h) (K6 h) hj
end Go.Proofs.YthibhamepjhfjaaGreatDoor

namespace Go.Proofs.YthibhamepjhfjaaGreatDoor
open Go.RowKit Go.Ab
theorem FS {P : Program} {f : FuncId} {fr : Bool} {H : List Cell} {largs args2 : List AV} {rv : Value} (l : List Nat) (h : Means fr P f args2 (.v rv)) (hf : frzOK H l) (ha : largs.map (argA (frzRows H l)) = args2) (ho : args2.all AV.argOK = true) : MeansH P f H largs (.v rv) H :=by
 subst ha
 intro w M loc vs hM hgl hH hl hvs
 let X : Ctx :=⟨w,M,0,blks H loc,loc,hgl,fun p hp hb => eV hH hb (hgl.1 p hp).1,fun g hg hb => eV hH hb (hgl.2 g hg).1⟩
 let a0 : Act :={ tmps :=#[],defers :=[] }
 have hrr : RR X M loc ⟨argE 0 [],H⟩ a0 w :=by
  refine ⟨fun s => ?_,Nat.zero_le _,rfl,rfl,fun id o ho => (hH.obj id o ho).imp fun b hb => .inr hb,hH.sep,fun id m hm => (hH.mobj id m hm).imp fun b hb => .inr hb,hH.msep,⟨rfl,rfl,rfl,Nat.le_refl _,fun _ _ _ => rfl⟩,fun b hb => ⟨hM b hb,.inl hb⟩,fun b hb => hb,fun b hb => hM b hb,hH.one,fun s => ?_⟩
  · show Rep w M loc _ (argE 0 [] s)
    rw [fB (Nat.zero_le _)]
    exact (RepZ.bad _).rep
  · show (argE 0 [] s).idLt H.length
    rw [fB (Nat.zero_le _)]; trivial
 obtain ⟨M1,hM1,hr1⟩ :=RR.frzRows l hrr hf
 have hM2 : ∀ b,M1 b → b < w.heap.size :=fun b hb => (hr1.zone b hb).1
 have hz : ∀ (j : Nat) (x : Value) (e : AV),vs[j]? = some x → (largs.map (argA (frzRows H l)))[j]? = some e → RepZ w (fun b => b < w.heap.size) x e :=fun j x e h1 h2 => by
  rw [List.getElem?_map] at h2
  cases h3 : largs[j]? with
  | none => rw [h3] at h2; cases h2
  | some e0 =>
    rw [h3] at h2
    obtain rfl : argA (frzRows H l) e0 = e :=by simpa using h2
    obtain ⟨h4,h5⟩ :=hvs j x e0 h1 h3
    have h6 : Rep w M1 loc x e0 :=Rep.mono (n :=H.length) (fun _ _ => rfl) hM1 (fun _ _ => rfl) h4 h5
    refine fK hr1 hM2 h6 (List.all_eq_true.1 ho _ (List.mem_map.2 ⟨e0,List.mem_of_getElem? h3,rfl⟩)) fun id o _ e2 g hg => ?_
    obtain ⟨xs,hown,_⟩ :=(hr1.obj id o e2).own
    exact (hown.lt g hg).2
 refine (h (fun b => b < w.heap.size) w vs (fun _ h => h) (hgl.mono (fun _ _ => rfl) fun b hb => hM2 b (hM1 b hb)) (by simp [hl]) hz).mono fun e w' ⟨x,he,hb,hx⟩ => ?_
 have hxr : x = rv :=(RepZ.rep (loc :=loc) hx).v_inv
 subst hxr
 exact ⟨x,M,loc,he,m9 hM hH hb,⟨hb.os,hb.tape,hb.output,hb.size,fun k hk _ => hb.block k hk⟩,fun _ h => h,fun b hb' => ⟨Nat.lt_of_lt_of_le (hM b hb') hb.size,.inl hb'⟩,fun _ _ => rfl,(RepZ.v x).rep,trivial,Nat.le_refl _⟩
end Go.Proofs.YthibhamepjhfjaaGreatDoor

namespace Go.Proofs.YthibhamepjhfjaaGreatDoor
open Go.RowKit Go.Ab
attribute [local irreducible] AWP Go.Ab.Sub Means MeansH MeansX CallK CallG CallT CallGT CallU
theorem xG (a b : List Int) (hla : a.length ≤ 9223372036854775807) (hlb : b.length ≤ 9223372036854775807) : Means false Tryz.prog 15 [il a,il b] (bb (decide (a = b))) :=by
 refine aF false 26 [.tmp 4] Tryz.func15 rfl rfl rfl (by simp) (by decide) rfl fun X hX => ?_
 by_cases hl : a.length = b.length
 · (repeat (refine a7 q16x2 hX mixed rfl ?_;simp [go_sem,hl];try refine ⟨by kernel_rfl,?_⟩))
   refine aB (b :=false) (by simp [go_sem,hl]) (fun hb => by cases hb) (fun _ => ?_)
   (repeat (refine a7 q16x2 hX mixed rfl ?_;simp [go_sem];try refine ⟨by kernel_rfl,?_⟩))
   refine aH (fun n : Nat => ⟨mkE [(0,il a),(1,il b),(5,ii n)],[]⟩) (fun n => n ≤ a.length ∧ a.take n = b.take n) (fun n => a.length - n) 0 ?_ ?_ ?_
   · refine aG _ [] (by simp [go_sem]) ?_
     simp [go_sem]
   · exact ⟨Nat.zero_le _,by simp⟩
   · rintro n ⟨hn,he⟩
     (repeat (refine a7 q16x2 hX mixed rfl ?_;simp [go_sem];try refine ⟨by kernel_rfl,?_⟩))
     refine aB (b :=decide (n < a.length)) (by simp [go_sem]) (fun hd2 => ?_) (fun hd2 => ?_)
     · simp at hd2
       have h2 : n < b.length :=by omega
       (repeat (refine a7 q16x2 hX mixed rfl ?_;simp [go_sem,hd2,h2]; (try simp (disch :=omega) only [w64,td,tm]);try refine ⟨by kernel_rfl,?_⟩))
       (repeat refine And.intro (by first | omega | (unfold maxLen;omega) | kernel_rfl | (constructor <;> first | omega | (unfold maxLen;omega)) | grind) ?_)
       try (simp [go_sem,hd2,h2];try refine ⟨by kernel_rfl,?_⟩)
       refine aB (b :=decide (a[n] ≠ b[n])) (by simp [go_sem,hd2,h2]; try omega) (fun hc => ?_) (fun hc => ?_)
       · simp only [decide_eq_true_eq] at hc
         have hne : ¬ a = b :=fun e => hc (by simp only [e])
         (repeat (refine a7 q16x2 hX mixed rfl ?_;simp [go_sem,hne];try refine ⟨by kernel_rfl,?_⟩))
       · simp at hc
         (repeat (refine a7 q16x2 hX mixed rfl ?_;simp [go_sem]; (try simp (disch :=omega) only [w64,td,tm]);try refine ⟨by kernel_rfl,?_⟩))
         refine ⟨n + 1,⟨by omega,?_⟩,by omega,?_⟩
         · rw [List.take_succ_eq_append_getElem hd2,List.take_succ_eq_append_getElem h2,he,hc]
         · refine aG _ [] (by simp [go_sem]) ?_
           simp [go_sem]
     · have hnl : n = a.length :=by simp at hd2; omega
       subst hnl
       have hab : a = b :=by rwa [List.take_length,hl,List.take_length] at he
       (repeat (refine a7 q16x2 hX mixed rfl ?_;simp [go_sem,hab];try refine ⟨by kernel_rfl,?_⟩))
 · have hne : ¬ a = b :=fun e => hl (by rw [e])
   (repeat (refine a7 q16x2 hX mixed rfl ?_;simp [go_sem,hl];try refine ⟨by kernel_rfl,?_⟩))
   refine aB (b :=true) (by simp [go_sem,hl]; try omega) (fun _ => ?_) (fun hb => by cases hb)
   (repeat (refine a7 q16x2 hX mixed rfl ?_;simp [go_sem,hne];try refine ⟨by kernel_rfl,?_⟩))
def txts : List Rat → List UInt8
 | [] => []
 | r :: l => ftxt r.num r.den ++ (32 :: txts l)
theorem rY : ∀ (l : List Rat) (r : Rat),txts (l ++ [r]) = txts l ++ ftxt r.num r.den ++ [32]
 | [],r => by simp [txts]
 | a :: l,r => by
   show ftxt a.num a.den ++ (32 :: txts (l ++ [r])) = ftxt a.num a.den ++ (32 :: txts l) ++ ftxt r.num r.den ++ [32]
   rw [rY l r]; simp
theorem wZ {r : Rat} (h : rq r) : (ftxt r.num r.den).length ≤ 2000 :=by
 have h1 :=nR h.1
 have h2 :=nR h.2
 unfold ftxt
 simp only [List.length_append,List.length_cons]
 omega
theorem x3 : ∀ {l : List Rat},(∀ r ∈ l,rq r) → (txts l).length ≤ 2001 * l.length
 | [],_ => by simp [txts]
 | a :: l,h => by
   have h1 :=wZ (h a (by simp))
   have h2 :=x3 (l :=l) fun r hr => h r (by simp [hr])
   simp only [txts,List.length_append,List.length_cons]; omega
set_option maxHeartbeats 4000000 in
theorem jJ (ks : List Rat) (hq : ∀ k ∈ ks,rq k) (hl : ks.length ≤ 1000) : Means false Tryz.prog 27 [fql ks] (sb (txts ks)) :=by
 refine aF false 20 [.tmp 2] Tryz.func27 rfl rfl rfl (by simp) (by decide) rfl fun X hX => ?_
 (repeat (refine a7 q16x5 hX mixed rfl ?_;simp [go_sem];try refine ⟨by kernel_rfl,?_⟩))
 refine aH (fun i : Nat => ⟨mkE [(0,fql ks),(3,sb (txts (ks.take i))),(4,ii i)],[]⟩) (fun i => i ≤ ks.length) (fun i => ks.length - i) 0 ?_ ?_ ?_
 · refine aG _ [] (by simp [go_sem]) ?_
   simp [go_sem,txts]
 · omega
 · intro i hi
   (repeat (refine a7 q16x5 hX mixed rfl ?_;simp [go_sem];try refine ⟨by kernel_rfl,?_⟩))
   refine aB (b :=decide (i < ks.length)) (by simp [go_sem]) (fun hb => ?_) (fun hb => ?_)
   · simp only [decide_eq_true_eq] at hb
     have q1 :=dD hb
     have hg : ks.getD i 0 = ks[i] :=by rw [List.getD_eq_getElem?_getD,List.getElem?_eq_getElem hb]; rfl
     rw [hg] at q1
     have hkq :=hq ks[i] (List.getElem_mem hb)
     have c1 :=JX ks[i].num ks[i].den hkq.1 hkq.2
     rw [if_pos (dL hkq)] at c1
     have l1 :=wZ hkq
     have l2 :=x3 (l :=ks.take i) fun r hr => hq r (List.mem_of_mem_take hr)
     rw [List.length_take] at l2
     have e : txts (ks.take (i + 1)) = txts (ks.take i) ++ (ftxt ks[i].num ks[i].den ++ [32]) :=by
      rw [List.take_succ_eq_append_getElem hb,rY,List.append_assoc]
     have wi :=w64 (x :=(i : Int) + 1) (by omega) (by omega)
     (repeat (refine a7 q16x5 hX mixed rfl ?_;simp [go_sem,q1,hb];try refine ⟨by kernel_rfl,?_⟩))
     first | refine a8 (c1) ?_ | refine aA (c1) ?_
     try (simp [go_sem];try refine ⟨by kernel_rfl,?_⟩)
     refine ⟨by unfold maxLen; omega,?_⟩
     try (simp [go_sem];try refine ⟨by kernel_rfl,?_⟩)
     refine ⟨by unfold maxLen; omega,?_⟩
     (repeat (refine a7 q16x5 hX mixed rfl ?_;simp [go_sem,wi];try refine ⟨by kernel_rfl,?_⟩))
     refine ⟨i + 1,by omega,by omega,?_⟩
     rw [e]
     refine aG _ [] (by simp [go_sem]) ?_
     simp [go_sem]
   · have : i = ks.length :=by simp at hb; omega
     subst this
     rw [List.take_length]
     (repeat (refine a7 q16x5 hX mixed rfl ?_;simp [go_sem];try refine ⟨by kernel_rfl,?_⟩))
abbrev p1 : List Int × List (List Int) :=([100,50],[[0,500],[0,0]])
abbrev p2 : List Int × List (List Int) :=([100,0],[[0,500],[500,0]])
abbrev p3 : List Int × List (List Int) :=([1,1,1],[[0,999,0],[0,0,999],[999,0,0]])
abbrev p4 : List Int × List (List Int) :=([1,1],[[0,1000],[0,0]])
theorem HL {own : List Int} {S : List (List Int)} (h : ∀ i,i < own.length → ∀ j,j < own.length → 0 ≤ sO S i j ∧ sO S i j ≤ 1000) : ∀ i j,i < own.length → j < own.length → 0 ≤ sO S i j ∧ sO S i j ≤ 1000 :=fun i j hi hj => h i hi j hj
theorem pv1 : PV p1.1 p1.2 :=⟨⟨by decide,by decide,by decide,by decide,by decide,HL (by decide),by decide⟩,by decide⟩
theorem pv2 : PV p2.1 p2.2 :=⟨⟨by decide,by decide,by decide,by decide,by decide,HL (by decide),by decide⟩,by decide⟩
theorem pv3 : PV p3.1 p3.2 :=⟨⟨by decide,by decide,by decide,by decide,by decide,HL (by decide),by decide⟩,by decide⟩
theorem pb4 : badP p4.1 p4.2 = 23 :=by
 have h1 : PR p4.1 p4.2 :=⟨by decide,by decide,by decide,by decide,by decide,HL (by decide),by decide⟩
 have h2 : ¬ PV p4.1 p4.2 :=fun h => absurd (h.lt [0,1000] (by decide)) (by decide)
 unfold badP; rw [if_pos h1,if_neg h2]
theorem LL : allQ p1.1 p1.2 = [100,100] :=by decide +kernel
theorem IF : keptQ p1.1 p1.2 = [50,100] :=by decide +kernel
theorem LM : allQ p2.1 p2.2 = [400 / 3,200 / 3] :=by decide +kernel
theorem IG : keptQ p2.1 p2.2 = [200 / 3,100 / 3] :=by decide +kernel
theorem LN : allQ p3.1 p3.2 = [1000,1000,1000] :=by decide +kernel
theorem IH : keptQ p3.1 p3.2 = [1,1,1] :=by decide +kernel
abbrev tx (l : List Nat) : List UInt8 :=l.map UInt8.ofNat
theorem tx1 : txts [(100 : Rat),100] = tx [49,48,48,47,49,32,49,48,48,47,49,32] :=by decide +kernel
theorem tx2 : txts [(50 : Rat),100] = tx [53,48,47,49,32,49,48,48,47,49,32] :=by decide +kernel
theorem tx3 : txts [(400 / 3 : Rat),200 / 3] = tx [52,48,48,47,51,32,50,48,48,47,51,32] :=by decide +kernel
theorem tx4 : txts [(200 / 3 : Rat),100 / 3] = tx [50,48,48,47,51,32,49,48,48,47,51,32] :=by decide +kernel
theorem tx5 : txts [(1000 : Rat),1000,1000] = tx [49,48,48,48,47,49,32,49,48,48,48,47,49,32,49,48,48,48,47,49,32] :=by decide +kernel
theorem tx6 : txts [(1 : Rat),1,1] = tx [49,47,49,32,49,47,49,32,49,47,49,32] :=by decide +kernel
theorem co1 : coinL [(50 : Rat),100] = [50,100] :=by decide +kernel
theorem co2 : coinL [(200 / 3 : Rat),100 / 3] = [67,33] :=by decide +kernel
theorem su1 : rsum [(50 : Rat),100] 2 = ((fl (rsum [(50 : Rat),100] 2) : Int) : Rat) :=by decide +kernel
theorem su2 : rsum [(200 / 3 : Rat),100 / 3] 2 = ((fl (rsum [(200 / 3 : Rat),100 / 3] 2) : Int) : Rat) :=by decide +kernel
set_option maxHeartbeats 8000000 in
set_option maxRecDepth 20000 in
theorem FZ : Means false Tryz.prog 7 [] (bb true) :=by
 have c1 :=mU pv1 (by decide)
 have c2 :=mU pv2 (by decide)
 have c3 :=mU pv3 (by decide)
 have c4 :=qO p4.1 p4.2 (by decide) (by decide) (by decide) (by rw [pb4]; decide)
 have b1 :=gZ pv1 (by decide)
 have b2 :=j1 pv1 (by decide)
 have b3 :=gZ pv2 (by decide)
 have b4 :=j1 pv2 (by decide)
 have b5 :=gZ pv3 (by decide)
 have b6 :=j1 pv3 (by decide)
 have hch :=CC pv2
 rw [pb4] at c4
 rw [LL,IF] at c1
 rw [LM,IG] at c2 hch
 rw [LN,IH] at c3
 rw [LL] at b1
 rw [IF] at b2
 rw [LM] at b3
 rw [IG] at b4
 rw [LN] at b5
 rw [IH] at b6
 have d1 :=AI (ks :=[50,100]) (fun k hk => ⟨(by decide +kernel : ∀ k ∈ [(50 : Rat),100],0 ≤ k ∧ k ≤ most) k hk,b2 k hk⟩) (by decide) (by decide) su1
 have d2 :=AI (ks :=[200 / 3,100 / 3]) (fun k hk => ⟨(by decide +kernel : ∀ k ∈ [(200 / 3 : Rat),100 / 3],0 ≤ k ∧ k ≤ most) k hk,b4 k hk⟩) (by decide) (by decide) su2
 rw [co1] at d1
 rw [co2] at d2
 have ck :=AK p2.1 p2.2 pv2 (by decide) [400 / 3,200 / 3] [200 / 3,100 / 3] rfl rfl (fun x hx => ⟨(b3 x hx).1,bR (b3 x hx).2 (by decide)⟩) (fun y hy => kD (b4 y hy) (by decide) (by decide))
 rw [if_pos hch] at ck
 have t1 :=jJ [100,100] (fun k hk => kD (b1 k hk) (by decide) (by decide)) (by decide)
 have t2 :=jJ [50,100] (fun k hk => kD (b2 k hk) (by decide) (by decide)) (by decide)
 have t3 :=jJ [400 / 3,200 / 3] (fun k hk => kD (b3 k hk) (by decide) (by decide)) (by decide)
 have t4 :=jJ [200 / 3,100 / 3] (fun k hk => kD (b4 k hk) (by decide) (by decide)) (by decide)
 have t5 :=jJ [1000,1000,1000] (fun k hk => kD (b5 k hk) (by decide) (by decide)) (by decide)
 have t6 :=jJ [1,1,1] (fun k hk => kD (b6 k hk) (by decide) (by decide)) (by decide)
 rw [tx1] at t1
 rw [tx2] at t2
 rw [tx3] at t3
 rw [tx4] at t4
 rw [tx5] at t5
 rw [tx6] at t6
 have hba : ∀ a : ByteArray,(a == a) = true :=fun a => xY.2 rfl
 have i1 :=xG [50,100] [50,100] (by decide) (by decide)
 have i2 :=xG [67,33] [67,33] (by decide) (by decide)
 clear b1 b2 b3 b4 b5 b6 hch
 obtain ⟨A1,hA1⟩ : ∃ A,[(100 : Rat),100] = A :=⟨_,rfl⟩
 obtain ⟨K1,hK1⟩ : ∃ A,[(50 : Rat),100] = A :=⟨_,rfl⟩
 obtain ⟨A2,hA2⟩ : ∃ A,[(400 / 3 : Rat),200 / 3] = A :=⟨_,rfl⟩
 obtain ⟨K2,hK2⟩ : ∃ A,[(200 / 3 : Rat),100 / 3] = A :=⟨_,rfl⟩
 obtain ⟨A3,hA3⟩ : ∃ A,[(1000 : Rat),1000,1000] = A :=⟨_,rfl⟩
 obtain ⟨K3,hK3⟩ : ∃ A,[(1 : Rat),1,1] = A :=⟨_,rfl⟩
 rw [hA1] at c1 t1
 rw [hK1] at c1 t2 d1
 rw [hA2] at c2 t3 ck
 rw [hK2] at c2 t4 d2 ck
 rw [hA3] at c3 t5
 rw [hK3] at c3 t6
 have ckh : MeansH Tryz.prog 18 [.row ⟨3,1,[ii 100,ii 0]⟩,.row ⟨3,1,[ii 0,ii 500]⟩,.row ⟨3,1,[ii 500,ii 0]⟩,.row ⟨22,1,[.ow 1,.ow 2]⟩] [.ow 0,.ow 3,fql A2,fql K2] (ii 0) [.row ⟨3,1,[ii 100,ii 0]⟩,.row ⟨3,1,[ii 0,ii 500]⟩,.row ⟨3,1,[ii 500,ii 0]⟩,.row ⟨22,1,[.ow 1,.ow 2]⟩] :=
  FS [3] ck (by simp [frzOK,nestIds,AV.flat,AV.idB]) rfl (by rfl)
 refine aF false 140 [.tmp 0] Tryz.func7 rfl rfl rfl (by simp) (by decide) rfl fun X hX => ?_
 (repeat (refine a7 q16x0 hX mixed rfl ?_;simp [go_sem];try refine ⟨by kernel_rfl,?_⟩))
 refine fN [3] c1 (by simp [go_sem]) (by simp [go_sem]) (by simp [go_sem]) (by simp [go_sem]) ?_
 try (simp [go_sem];try refine ⟨by kernel_rfl,?_⟩)
 (repeat (refine a7 q16x0 hX mixed rfl ?_;simp [go_sem];try refine ⟨by kernel_rfl,?_⟩))
 refine fN [7] c2 (by simp [go_sem]) (by simp [go_sem]) (by simp [go_sem]) (by simp [go_sem]) ?_
 try (simp [go_sem];try refine ⟨by kernel_rfl,?_⟩)
 (repeat (refine a7 q16x0 hX mixed rfl ?_;simp [go_sem];try refine ⟨by kernel_rfl,?_⟩))
 refine fN [12] c3 (by simp [go_sem]) (by simp [go_sem]) (by simp [go_sem]) (by simp [go_sem]) ?_
 try (simp [go_sem];try refine ⟨by kernel_rfl,?_⟩)
 (repeat (refine a7 q16x0 hX mixed rfl ?_;simp [go_sem];try refine ⟨by kernel_rfl,?_⟩))
 refine fN [16] c4 (by simp [go_sem]) (by simp [go_sem]) (by simp [go_sem]) (by simp [go_sem]) ?_
 try (simp [go_sem];try refine ⟨by kernel_rfl,?_⟩)
 (repeat (refine a7 q16x0 hX mixed rfl ?_;simp [go_sem];try refine ⟨by kernel_rfl,?_⟩))
 first | refine a8 (d1) ?_ | refine aA (d1) ?_
 try (simp [go_sem];try refine ⟨by kernel_rfl,?_⟩)
 (repeat (refine a7 q16x0 hX mixed rfl ?_;simp [go_sem];try refine ⟨by kernel_rfl,?_⟩))
 first | refine a8 (d2) ?_ | refine aA (d2) ?_
 try (simp [go_sem];try refine ⟨by kernel_rfl,?_⟩)
 (repeat (refine a7 q16x0 hX mixed rfl ?_;simp [go_sem];try refine ⟨by kernel_rfl,?_⟩))
 first | refine a8 (t1) ?_ | refine aA (t1) ?_
 try (simp [go_sem];try refine ⟨by kernel_rfl,?_⟩)
 first | refine aP (fun hg => t2) ?_ | refine aM (fun hg => t2) ?_
 try (simp [go_sem];try refine ⟨by kernel_rfl,?_⟩)
 first | refine aP (fun hg => t3) ?_ | refine aM (fun hg => t3) ?_
 try (simp [go_sem];try refine ⟨by kernel_rfl,?_⟩)
 first | refine aP (fun hg => t4) ?_ | refine aM (fun hg => t4) ?_
 try (simp [go_sem];try refine ⟨by kernel_rfl,?_⟩)
 first | refine aP (fun hg => t5) ?_ | refine aM (fun hg => t5) ?_
 try (simp [go_sem];try refine ⟨by kernel_rfl,?_⟩)
 first | refine aP (fun hg => t6) ?_ | refine aM (fun hg => t6) ?_
 try (simp [go_sem];try refine ⟨by kernel_rfl,?_⟩)
 (repeat (refine a7 q16x0 hX mixed rfl ?_;simp [go_sem,hba];try refine ⟨by kernel_rfl,?_⟩))
 try (simp [go_sem,hba];try refine ⟨by kernel_rfl,?_⟩)
 first | refine aP (fun hg => i1) ?_ | refine aM (fun hg => i1) ?_
 try (simp [go_sem];try refine ⟨by kernel_rfl,?_⟩)
 first | refine aP (fun hg => i2) ?_ | refine aM (fun hg => i2) ?_
 try (simp [go_sem];try refine ⟨by kernel_rfl,?_⟩)
 first | refine kQ [19,20,21,22] (fun hg => ckh) (by simp [go_sem]) (by simp [go_sem]) ?_ | refine jQ [19,20,21,22] (fun hg => ckh) (by simp [go_sem]) ?_
 try (simp [go_sem];try refine ⟨by kernel_rfl,?_⟩)
 (repeat (refine a7 q16x0 hX mixed rfl ?_;simp [go_sem];try refine ⟨by kernel_rfl,?_⟩))
end Go.Proofs.YthibhamepjhfjaaGreatDoor

namespace Go.Proofs.YthibhamepjhfjaaGreatDoor
open Go.RowKit Go.Ab
attribute [local irreducible] AWP Go.Ab.Sub Means MeansH MeansX CallK CallG CallT CallGT CallU
def fewTo (S : List (List Int)) (i : Nat) : Prop :=∀ k,k < i → (S.getD k []).length ≤ 14
def fewP (own : List Int) (S : List (List Int)) : Prop :=own.length ≤ 6 ∧ S.length ≤ 6 ∧ fewTo S S.length
noncomputable instance (own : List Int) (S : List (List Int)) : Decidable (fewP own S) :=Classical.propDecidable _
theorem u9 {S : List (List Int)} {k : Nat} (h : k < S.length) : S.getD k [] = S[k] :=by rw [List.getD_eq_getElem?_getD,List.getElem?_eq_getElem h]; rfl
set_option maxHeartbeats 4000000 in
theorem KJ (own : List Int) (S : List (List Int)) : Means false Tryz.prog 8 [il own,ill S] (bb (decide (fewP own S))) :=by
 refine aF false 30 [.tmp 4] Tryz.func8 rfl rfl rfl (by simp) (by decide) rfl fun X hX => ?_
 (repeat (refine a7 q16x6 hX mixed rfl ?_;simp [go_sem];try refine ⟨by kernel_rfl,?_⟩))
 refine aH (fun i : Nat => ⟨mkE [(0,il own),(1,ill S),(5,ii i)],[]⟩) (fun i => i ≤ S.length ∧ i ≤ 7 ∧ fewTo S i) (fun i => 7 - i) 0 ?_ ?_ ?_
 · refine aG _ [] (by simp [go_sem]) ?_
   simp [go_sem]
 · exact ⟨by omega,by omega,fun k hk => by omega⟩
 · rintro i ⟨h1,h2,h3⟩
   have wi :=w64 (x :=(i : Int) + 1) (by omega) (by omega)
   (repeat (refine a7 q16x6 hX mixed rfl ?_;simp [go_sem];try refine ⟨by kernel_rfl,?_⟩))
   refine aB (b :=decide (i < S.length) && decide ((i : Int) < 7)) (by simp [go_sem]) (fun hb => ?_) (fun hb => ?_)
   · simp only [Bool.and_eq_true,decide_eq_true_eq] at hb
     obtain ⟨hb,h7⟩ :=hb
     have q1 :=dW (L :=S) hb
     have hg :=u9 hb
     (repeat (refine a7 q16x6 hX mixed rfl ?_;simp [go_sem,hb,q1];try refine ⟨by kernel_rfl,?_⟩))
     refine aB (b :=decide (14 < S[i].length)) (by simp [go_sem,hb,q1]; try omega) (fun hd => ?_) (fun hd => ?_)
     · simp only [decide_eq_true_eq] at hd
       have e : ¬ fewP own S :=fun h => by
        have :=h.2.2 i hb
        rw [hg] at this; omega
       (repeat (refine a7 q16x6 hX mixed rfl ?_;simp [go_sem,e];try refine ⟨by kernel_rfl,?_⟩))
     · simp only [decide_eq_false_iff_not] at hd
       (repeat (refine a7 q16x6 hX mixed rfl ?_;simp [go_sem,wi];try refine ⟨by kernel_rfl,?_⟩))
       refine ⟨i + 1,⟨by omega,by omega,fun k hk => ?_⟩,by omega,?_⟩
       · by_cases e : k = i
         · subst e; rw [hg]; omega
         · exact h3 k (by omega)
       · refine aG _ [] (by simp [go_sem]) ?_
         simp [go_sem]
   · simp only [Bool.and_eq_false_iff,decide_eq_false_iff_not] at hb
     (repeat (refine a7 q16x6 hX mixed rfl ?_;simp [go_sem];try refine ⟨by kernel_rfl,?_⟩))
     have e : decide (fewP own S) = (decide ((own.length : Int) ≤ 6) && decide ((S.length : Int) ≤ 6)) :=by
      rw [Bool.eq_iff_iff]
      simp only [Bool.and_eq_true,decide_eq_true_eq]
      constructor
      · rintro ⟨h4,h5,_⟩
        omega
      · rintro ⟨h4,h5⟩
        refine ⟨by omega,by omega,?_⟩
        have : i = S.length :=by omega
        rw [← this]; exact h3
     rw [e]
theorem oL (l : List Int) (hl : l.length ≤ 1000) (h : ∀ x ∈ l,0 ≤ x ∧ x ≤ 1000) : Means false Tryz.prog 40 [il l] (ii (sumI l)) :=by
 refine aF false 18 [.tmp 2] Tryz.func40 rfl rfl rfl (by simp) (by decide) rfl fun X hX => ?_
 (repeat (refine a7 q16x5 hX mixed rfl ?_;simp [go_sem];try refine ⟨by kernel_rfl,?_⟩))
 refine aH (fun k : Nat => ⟨mkE [(0,il l),(3,ii (sumI (l.take k))),(4,ii k)],[]⟩) (fun k => k ≤ l.length) (fun k => l.length - k) 0 ?_ ?_ ?_
 · refine aG _ [] (by simp [go_sem]) ?_
   simp [go_sem,sumI]
 · omega
 · intro k hk
   (repeat (refine a7 q16x5 hX mixed rfl ?_;simp [go_sem];try refine ⟨by kernel_rfl,?_⟩))
   refine aB (b :=decide (k < l.length)) (by simp [go_sem]) (fun hb => ?_) (fun hb => ?_)
   · simp only [decide_eq_true_eq] at hb
     have q1 :=cX hb
     have b1 :=eP l k h
     have b2 :=eP l (k + 1) h
     have e : sumI (l.take (k + 1)) = sumI (l.take k) + l[k] :=by rw [List.take_succ_eq_append_getElem hb,lS]
     rw [e] at b2
     have w1 :=w64 (x :=sumI (l.take k) + l[k]) (by omega) (by omega)
     have w2 :=w64 (x :=(k : Int) + 1) (by omega) (by omega)
     (repeat (refine a7 q16x5 hX mixed rfl ?_;simp [go_sem,hb,q1,w1,w2];try refine ⟨by kernel_rfl,?_⟩))
     refine ⟨k + 1,by omega,by omega,?_⟩
     rw [e]
     refine aG _ [] (by simp [go_sem]) ?_
     simp [go_sem]
   · simp only [decide_eq_false_iff_not] at hb
     have hk2 : k = l.length :=by omega
     subst hk2
     rw [List.take_length]
     (repeat (refine a7 q16x5 hX mixed rfl ?_;simp [go_sem];try refine ⟨by kernel_rfl,?_⟩))
def cellOk (S : List (List Int)) (k j : Nat) : Prop :=0 ≤ sO S k j ∧ sO S k j ≤ 1000 ∧ (k = j → sO S k j = 0)
noncomputable instance (S : List (List Int)) (k j : Nat) : Decidable (cellOk S k j) :=Classical.propDecidable _
def cellsTo (S : List (List Int)) (k j : Nat) : Prop :=∀ t,t < j → cellOk S k t
def rowsTo (own : List Int) (S : List (List Int)) (i : Nat) : Prop :=∀ k,k < i → rowOk own S k
theorem CL {own : List Int} {S : List (List Int)} {k : Nat} (hk : k < own.length) : rowOk own S k ↔ (0 ≤ wO own k ∧ wO own k ≤ 1099511627776) ∧ (S.getD k []).length = own.length ∧ cellsTo S k own.length :=by
 unfold rowOk cellsTo cellOk
 constructor
 · rintro ⟨h1,h2,h3,h4⟩
   refine ⟨h1,h2,fun t ht => ?_⟩
   have ht' : t < (S.getD k []).length :=by omega
   have : sO S k t = (S.getD k [])[t] :=by unfold sO; exact bS ht'
   have h5 :=h3 _ (List.getElem_mem ht')
   rw [← this] at h5
   exact ⟨h5.1,h5.2,fun e => e ▸ h4⟩
 · rintro ⟨h1,h2,h3⟩
   refine ⟨h1,h2,fun x hx => ?_,(h3 k hk).2.2 rfl⟩
   obtain ⟨t,ht,rfl⟩ :=List.getElem_of_mem hx
   have : sO S k t = (S.getD k [])[t] :=by unfold sO; exact bS ht
   have :=h3 t (by omega)
   omega
set_option maxHeartbeats 8000000 in
set_option maxRecDepth 20000 in
theorem uN (own : List Int) (S : List (List Int)) (hl : own.length ≤ 9223372036854775807) (hS : S.length ≤ 9223372036854775807) : Means false Tryz.prog 17 [il own,ill S] (bb (decide (PR own S))) :=by
 by_cases h0 : 0 < own.length ∧ own.length ≤ 12 ∧ S.length = own.length
 · refine aF false 89 [.tmp 4] Tryz.func17 rfl rfl rfl (by simp) (by decide) rfl fun X hX => ?_
   (repeat (refine a7 q16x1 hX mixed rfl ?_;simp [go_sem];try refine ⟨by kernel_rfl,?_⟩))
   refine aC (by simp [go_sem,h0.2.2]; omega) ?_
   (repeat (refine a7 q16x1 hX mixed rfl ?_;simp [go_sem];try refine ⟨by kernel_rfl,?_⟩))
   refine aH (fun k : Nat => ⟨mkE [(0,il own),(1,ill S),(5,ii k)],[]⟩) (fun k => k ≤ own.length ∧ rowsTo own S k) (fun k => own.length - k) 0 ?_ ?_ ?_
   · refine aG _ [] (by simp [go_sem]) ?_
     simp [go_sem]
   · exact ⟨by omega,fun j hj => by omega⟩
   · rintro k ⟨hk,hp⟩
     have wk :=w64 (x :=(k : Int) + 1) (by omega) (by omega)
     (repeat (refine a7 q16x1 hX mixed rfl ?_;simp [go_sem];try refine ⟨by kernel_rfl,?_⟩))
     refine aB (b :=decide (k < own.length)) (by simp [go_sem]) (fun hb => ?_) (fun hb => ?_)
     · simp only [decide_eq_true_eq] at hb
       have hkS : k < S.length :=by omega
       have q1 :=cX hb
       have q2 :=dW (L :=S) hkS
       have hg :=u9 hkS
       have hro :=CL (S :=S) hb
       rw [hg,show wO own k = own[k] from bS hb] at hro
       (repeat (refine a7 q16x1 hX mixed rfl ?_;simp [go_sem,hb,hkS,q1,q2];try refine ⟨by kernel_rfl,?_⟩))
       refine aB (b :=decide (¬ ((0 ≤ own[k] ∧ own[k] ≤ 1099511627776) ∧ S[k].length = own.length))) (by simp [go_sem,hb,hkS,q1,q2]; try grind) (fun hd => ?_) (fun hd => ?_)
       · have e : ¬ PR own S :=fun h => by
          have :=((iU own S).1 h).2 k hb
          have :=hro.1 this
          simp [this.1,this.2.1] at hd
         (repeat (refine a7 q16x1 hX mixed rfl ?_;simp [go_sem,e];try refine ⟨by kernel_rfl,?_⟩))
       · have hd : 0 ≤ own[k] ∧ own[k] ≤ 1099511627776 ∧ S[k].length = own.length :=by simpa using hd
         (repeat (refine a7 q16x1 hX mixed rfl ?_;simp [go_sem];try refine ⟨by kernel_rfl,?_⟩))
         refine aH (fun j : Nat => ⟨mkE [(0,il own),(1,ill S),(5,ii k),(6,ii j)],[]⟩) (fun j => j ≤ own.length ∧ cellsTo S k j) (fun j => own.length - j) 0 ?_ ?_ ?_
         · refine aG _ [] (by simp [go_sem]) ?_
           simp [go_sem]
         · exact ⟨by omega,fun j hj => by omega⟩
         · rintro j ⟨hj,hc⟩
           have wj :=w64 (x :=(j : Int) + 1) (by omega) (by omega)
           (repeat (refine a7 q16x1 hX mixed rfl ?_;simp [go_sem];try refine ⟨by kernel_rfl,?_⟩))
           refine aB (b :=decide (j < own.length)) (by simp [go_sem]) (fun hb2 => ?_) (fun hb2 => ?_)
           · simp only [decide_eq_true_eq] at hb2
             have hjS : j < S[k].length :=by omega
             have q3 :=cX hjS
             have hso : S[k][j] = sO S k j :=by unfold sO; rw [hg]; exact (bS hjS).symm
             rw [hso] at q3
             have hco : cellOk S k j ↔ 0 ≤ sO S k j ∧ sO S k j ≤ 1000 ∧ (k = j → sO S k j = 0) :=Iff.rfl
             generalize sO S k j = v at *
             (repeat (refine a7 q16x1 hX mixed rfl ?_;simp [go_sem,hb2,hkS,hjS,q2,q3];try refine ⟨by kernel_rfl,?_⟩))
             refine ⟨fun h1 h2 h3 => ⟨⟨h1,h2⟩,h3⟩,?_⟩
             refine aB (b :=decide (v < 0) || decide (1000 < v) || decide ((k : Int) = (j : Int)) && !decide (v = 0)) (by simp [go_sem]) (fun hd2 => ?_) (fun hd2 => ?_)
             · simp only [Bool.or_eq_true,Bool.and_eq_true,Bool.not_eq_true',decide_eq_true_eq,decide_eq_false_iff_not] at hd2
               have e : ¬ PR own S :=fun h => by
                have :=((iU own S).1 h).2 k hb
                have :=hco.1 ((hro.1 this).2.2 j hb2)
                omega
               (repeat (refine a7 q16x1 hX mixed rfl ?_;simp [go_sem,e];try refine ⟨by kernel_rfl,?_⟩))
             · simp only [Bool.or_eq_false_iff,Bool.and_eq_false_iff,Bool.not_eq_false',decide_eq_true_eq,decide_eq_false_iff_not] at hd2
               have hd2 : cellOk S k j :=hco.2 (by omega)
               (repeat (refine a7 q16x1 hX mixed rfl ?_;simp [go_sem,wj];try refine ⟨by kernel_rfl,?_⟩))
               refine ⟨j + 1,⟨by omega,fun t ht => ?_⟩,by omega,?_⟩
               · by_cases e : t = j
                 · subst e; exact hd2
                 · exact hc t (by omega)
               · refine aG _ [] (by simp [go_sem]) ?_
                 simp [go_sem]
           · simp only [decide_eq_false_iff_not] at hb2
             have : j = own.length :=by omega
             subst this
             (repeat (refine a7 q16x1 hX mixed rfl ?_;simp [go_sem,wk];try refine ⟨by kernel_rfl,?_⟩))
             refine ⟨k + 1,⟨by omega,fun t ht => ?_⟩,by omega,?_⟩
             · by_cases e : t = k
               · subst e; exact hro.2 ⟨⟨hd.1,hd.2.1⟩,hd.2.2,hc⟩
               · exact hp t (by omega)
             · refine aG _ [] (by simp [go_sem]) ?_
               simp [go_sem]
     · simp only [decide_eq_false_iff_not] at hb
       have hk2 : k = own.length :=by omega
       subst hk2
       have e : PR own S :=(iU own S).2 ⟨h0,hp⟩
       (repeat (refine a7 q16x1 hX mixed rfl ?_;simp [go_sem,e];try refine ⟨by kernel_rfl,?_⟩))
 · have e : ¬ PR own S :=fun h => h0 ⟨h.pos,h.most,h.len⟩
   refine aF false 89 [.tmp 4] Tryz.func17 rfl rfl rfl (by simp) (by decide) rfl fun X hX => ?_
   (repeat (refine a7 q16x1 hX mixed rfl ?_;simp [go_sem];try refine ⟨by kernel_rfl,?_⟩))
   refine aK (by simp [go_sem]; omega) ?_
   (repeat (refine a7 q16x1 hX mixed rfl ?_;simp [go_sem,e];try refine ⟨by kernel_rfl,?_⟩))
theorem xB (own : List Int) (S : List (List Int)) (hl : own.length ≤ 9223372036854775807) (hS : S.length ≤ 9223372036854775807) : Means false Tryz.prog 20 [il own,ill S] (ii (badP own S)) :=by
 have c1 :=uN own S hl hS
 refine aF false 22 [.tmp 4] Tryz.func20 rfl rfl rfl (by simp) (by decide) rfl fun X hX => ?_
 (repeat (refine a7 q16x3 hX mixed rfl ?_;simp [go_sem];try refine ⟨by kernel_rfl,?_⟩))
 first | refine a8 (c1) ?_ | refine aA (c1) ?_
 try (simp [go_sem];try refine ⟨by kernel_rfl,?_⟩)
 by_cases h : PR own S
 · refine aC (by simp [go_sem,h]) ?_
   (repeat (refine a7 q16x3 hX mixed rfl ?_;simp [go_sem];try refine ⟨by kernel_rfl,?_⟩))
   refine aH (fun k : Nat => ⟨mkE [(1,ill S),(5,ii k)],[]⟩) (fun k => k ≤ S.length ∧ ∀ l ∈ S.take k,sumI l < 1000) (fun k => S.length - k) 0 ?_ ?_ ?_
   · refine aG _ [] (by simp [go_sem]) ?_
     simp [go_sem]
   · exact ⟨by omega,by simp⟩
   · rintro k ⟨hk,hp⟩
     have hsl :=h.len
     have hmo :=h.most
     have wk :=w64 (x :=(k : Int) + 1) (by omega) (by omega)
     (repeat (refine a7 q16x3 hX mixed rfl ?_;simp [go_sem];try refine ⟨by kernel_rfl,?_⟩))
     refine aB (b :=decide (k < S.length)) (by simp [go_sem]) (fun hb => ?_) (fun hb => ?_)
     · simp only [decide_eq_true_eq] at hb
       have q2 :=dW (L :=S) hb
       have hpr :=dN h (List.getElem_mem hb)
       have c2 :=oL S[k] (by omega) hpr.2
       (repeat (refine a7 q16x3 hX mixed rfl ?_;simp [go_sem,hb,q2];try refine ⟨by kernel_rfl,?_⟩))
       first | refine a8 (c2) ?_ | refine aA (c2) ?_
       try (simp [go_sem];try refine ⟨by kernel_rfl,?_⟩)
       refine aB (b :=decide (1000 ≤ sumI S[k])) (by simp [go_sem]) (fun hd => ?_) (fun hd => ?_)
       · simp only [decide_eq_true_eq] at hd
         have e : badP own S = 23 :=by
          unfold badP
          rw [if_pos h,if_neg fun hv => by have :=hv.lt _ (List.getElem_mem hb); omega]
         (repeat (refine a7 q16x3 hX mixed rfl ?_;simp [go_sem,e];try refine ⟨by kernel_rfl,?_⟩))
       · simp only [decide_eq_false_iff_not] at hd
         (repeat (refine a7 q16x3 hX mixed rfl ?_;simp [go_sem,wk];try refine ⟨by kernel_rfl,?_⟩))
         refine ⟨k + 1,⟨by omega,fun l hl => ?_⟩,by omega,?_⟩
         · rw [List.take_succ_eq_append_getElem hb] at hl
           rcases List.mem_append.1 hl with hl | hl
           · exact hp l hl
           · simp at hl; subst hl; omega
         · refine aG _ [] (by simp [go_sem]) ?_
           simp [go_sem]
     · simp only [decide_eq_false_iff_not] at hb
       rw [List.take_of_length_le (by omega)] at hp
       have e : badP own S = 0 :=by unfold badP; rw [if_pos h,if_pos ⟨h,hp⟩]
       (repeat (refine a7 q16x3 hX mixed rfl ?_;simp [go_sem,e];try refine ⟨by kernel_rfl,?_⟩))
 · have e : badP own S = 1 :=by unfold badP; rw [if_neg h]
   rw [e]
   refine aK (by simp [go_sem,h]) ?_
   (repeat (refine a7 q16x3 hX mixed rfl ?_;simp [go_sem];try refine ⟨by kernel_rfl,?_⟩))
end Go.Proofs.YthibhamepjhfjaaGreatDoor

namespace Go.Proofs.YthibhamepjhfjaaGreatDoor
open Go.RowKit Go.Ab
attribute [local irreducible] AWP Go.Ab.Sub Means MeansH CallK CallG CallT CallGT CallU
theorem CU {a b : Rat} (ha : rq a) (hb : rq b) : Means false Tryz.prog 51 [frq a,frq b] (qv (okAdd a b) (a + b)) :=by
 have :=JK a.num a.den b.num b.den (dL ha) (dL hb)
 obtain ⟨h1,h2⟩ :=eM (iW a b) (nP a b)
 by_cases h : okAdd a b
 · rw [cY h,h1,h2] at this
   rw [gX h]; exact this
 · rw [cO h] at this
   rw [qA h]; exact this
theorem HM {a b : Rat} (ha : rq a) (hb : rq b) (h : okAdd a b) : Means false Tryz.prog 51 [frq a,frq b] (.tup [frq (a + b),ii 0]) :=by
 have :=CU ha hb
 rwa [gX h] at this
theorem K8 {a b : Rat} (ha : rq a) (hb : rq b) : Means false Tryz.prog 36 [frq a,frq b] (qv (okSub a b) (a - b)) :=by
 have :=JL a.num a.den b.num b.den (dL ha) (dL hb)
 obtain ⟨h1,h2⟩ :=eM (iW a b) (tZ a b)
 by_cases h : okSub a b
 · rw [cY h,h1,h2] at this
   rw [gX h]; exact this
 · rw [cO h] at this
   rw [qA h]; exact this
theorem yQ {a b : Rat} (ha : rq a) (hb : rq b) (h : okSub a b) : Means false Tryz.prog 36 [frq a,frq b] (.tup [frq (a - b),ii 0]) :=by
 have :=K8 ha hb
 rwa [gX h] at this
theorem K9 {a b : Rat} (ha : rq a) (hb : rq b) : Means false Tryz.prog 39 [frq a,frq b] (qv (okMul a b) (a * b)) :=by
 have :=JM a.num a.den b.num b.den (dL ha) (dL hb)
 obtain ⟨h1,h2⟩ :=eM (iW a b) (nO a b)
 by_cases h : okMul a b
 · rw [cY h,h1,h2] at this
   rw [gX h]; exact this
 · rw [cO h] at this
   rw [qA h]; exact this
theorem sM {a b : Rat} (ha : rq a) (hb : rq b) (h : okMul a b) : Means false Tryz.prog 39 [frq a,frq b] (.tup [frq (a * b),ii 0]) :=by
 have :=K9 ha hb
 rwa [gX h] at this
theorem KA {a b : Rat} (ha : rq a) (hb : rq b) (h0 : b ≠ 0) : Means false Tryz.prog 37 [frq a,frq b] (qv (okDiv a b) (a / b)) :=by
 have :=JN a.num a.den b.num b.den (dL ha) (dL hb) (yN h0)
 obtain ⟨h1,h2⟩ :=eM (FC a h0) (u5 a b h0)
 by_cases h : okDiv a b
 · rw [cY h,h1,h2] at this
   rw [gX h]; exact this
 · rw [cO h] at this
   rw [qA h]; exact this
theorem GC {a b : Rat} (ha : rq a) (hb : rq b) (h0 : b ≠ 0) (h : okDiv a b) : Means false Tryz.prog 37 [frq a,frq b] (.tup [frq (a / b),ii 0]) :=by
 have :=KA ha hb h0
 rwa [gX h] at this
end Go.Proofs.YthibhamepjhfjaaGreatDoor

namespace Go.Proofs.YthibhamepjhfjaaGreatDoor
open Go.RowKit Go.Ab
attribute [local irreducible] AWP Go.Ab.Sub Means MeansH MeansX CallK CallG CallT CallGT CallU
theorem LO (p q : Int) (hp : -9223372036854775808 ≤ p ∧ p ≤ 9223372036854775807) (hq : -9223372036854775808 ≤ q ∧ q ≤ 9223372036854775807) (h0 : q ≠ 0) : Means false Tryz.prog 71 [ii p,ii q] (.tup [frq ((p : Rat) / (q : Rat)),ii 0]) :=by
 have :=KV p q _ _ 0 hp hq (yI p q (jK hp) (jK hq) h0)
 obtain ⟨h1,h2⟩ :=eM (r :=(p : Rat) / (q : Rat)) h0 (ofq h0)
 rwa [h1,h2] at this
theorem uX (p q : Int) (hp : -9223372036854775808 ≤ p ∧ p ≤ 9223372036854775807) (hq : -9223372036854775808 ≤ q ∧ q ≤ 9223372036854775807) (h0 : q ≠ 0) : Means false Tryz.prog 35 [ii p,ii q] (frq ((p : Rat) / (q : Rat))) :=by
 have c1 :=LO p q hp hq h0
 generalize (p : Rat) / (q : Rat) = r at *
 refine aF false 14 [.cell 4 41] Tryz.func35 rfl rfl rfl (by simp) (by decide) rfl fun X hX => ?_
 (repeat (refine a7 [0,1,4,5] hX mixed rfl ?_;simp [go_sem];try refine ⟨by kernel_rfl,?_⟩))
 first | refine a8 (c1) ?_ | refine aA (c1) ?_
 try (simp [go_sem];try refine ⟨by kernel_rfl,?_⟩)
 (repeat (refine a7 [0,1,4,5] hX mixed rfl ?_;simp [go_sem];try refine ⟨by kernel_rfl,?_⟩))
theorem lX (p : Int) (hp : -9223372036854775808 ≤ p ∧ p ≤ 9223372036854775807) : Means false Tryz.prog 35 [ii p,ii 1] (frq ((p : Int) : Rat)) :=by
 have :=uX p 1 hp (by decide) (by decide)
 rwa [mL] at this
theorem z7 {a b c : Rat} (ha : rq a) (hb : rq b) (hc : rq c) (h1 : okMul b c) (h2 : okAdd a (b * c)) : Means false Tryz.prog 38 [frq a,frq b,frq c] (.tup [frq (a + b * c),ii 0]) :=by
 have c1 :=sM hb hc h1
 have c2 :=HM ha (oJ h1) h2
 generalize a + b * c = r at *
 generalize b * c = m at *
 refine aF false 30 [.cell 6 41,.tmp 7] Tryz.func38 rfl rfl rfl (by simp) (by decide) rfl fun X hX => ?_
 (repeat (refine a7 q16x4 hX mixed rfl ?_;simp [go_sem];try refine ⟨by kernel_rfl,?_⟩))
 first | refine a8 (c1) ?_ | refine aA (c1) ?_
 try (simp [go_sem];try refine ⟨by kernel_rfl,?_⟩)
 (repeat (refine a7 q16x4 hX mixed rfl ?_;simp [go_sem];try refine ⟨by kernel_rfl,?_⟩))
 refine aC (by simp [go_sem]) ?_
 (repeat (refine a7 q16x4 hX mixed rfl ?_;simp [go_sem];try refine ⟨by kernel_rfl,?_⟩))
 first | refine a8 (c2) ?_ | refine aA (c2) ?_
 try (simp [go_sem];try refine ⟨by kernel_rfl,?_⟩)
 (repeat (refine a7 q16x4 hX mixed rfl ?_;simp [go_sem];try refine ⟨by kernel_rfl,?_⟩))
end Go.Proofs.YthibhamepjhfjaaGreatDoor

