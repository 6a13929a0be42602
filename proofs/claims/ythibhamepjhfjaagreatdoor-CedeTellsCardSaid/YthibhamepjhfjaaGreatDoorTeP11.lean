/-
  Lemmas for the statement at the top.
-/
import Init
import Derived.Test.YthibhamepjhfjaaGreatDoorTeP10
import Derived.Test.YthibhamepjhfjaaGreatDoorTeFw5
set_option linter.all false
namespace Go.Proofs.YthibhamepjhfjaaGreatDoor
def q10x0 : List Nat :=[0,1,4,5,6,7,8,9,10,11,14,15,16,18,19,20,24,44,74,75,76,1000000]
attribute [go_sem] q10x0
def sumR (f : Nat → Rat) : Nat → Rat
 | 0 => 0
 | n + 1 => sumR f n + f n
theorem b8 {f g : Nat → Rat} : ∀ {n : Nat},(∀ k,k < n → f k = g k) → sumR f n = sumR g n
 | 0,_ => rfl
 | n + 1,h => by simp only [sumR]; rw [b8 fun k hk => h k (by omega),h n (by omega)]
theorem cS (f g : Nat → Rat) (a b : Rat) : ∀ n,sumR (fun k => a * f k + b * g k) n = a * sumR f n + b * sumR g n
 | 0 => by simp only [sumR]; grind
 | n + 1 => by simp only [sumR]; rw [cS f g a b n]; grind
theorem l9 {f : Nat → Rat} : ∀ {n : Nat},(∀ k,k < n → f k = 0) → sumR f n = 0
 | 0,_ => rfl
 | n + 1,h => by simp only [sumR]; rw [l9 fun k hk => h k (by omega),h n (by omega)]; grind
theorem dM {f : Nat → Rat} {i : Nat} : ∀ {n : Nat},i < n → (∀ k,k < n → k ≠ i → f k = 0) → sumR f n = f i
 | 0,h,_ => by omega
 | n + 1,h,h0 => by
   simp only [sumR]
   by_cases hi : i = n
   · subst hi
     rw [l9 fun k hk => h0 k (by omega) (by omega)]; grind
   · rw [dM (i :=i) (n :=n) (by omega) fun k hk hne => h0 k (by omega) hne,h0 n (by omega) (fun e => hi e.symm)]; grind
theorem uQ {f : Nat → Rat} {i : Nat} : ∀ {n : Nat},i + 1 < n → (∀ k,k < n → k ≠ i → k ≠ i + 1 → f k = 0) → sumR f n = f i + f (i + 1)
 | 0,h,_ => by omega
 | n + 1,h,h0 => by
   simp only [sumR]
   by_cases hi : i + 1 = n
   · subst hi
     rw [dM (i :=i) (n :=i + 1) (by omega) fun k hk hne => h0 k (by omega) hne (by omega)]
   · rw [uQ (i :=i) (n :=n) (by omega) fun k hk h1 h2 => h0 k (by omega) h1 h2,h0 n (by omega) (by omega) (by omega)]; grind
theorem i6 {f : Nat → Rat} : ∀ {n : Nat},(∀ k,k < n → 0 ≤ f k) → 0 ≤ sumR f n
 | 0,_ => by simp only [sumR]; decide
 | n + 1,h => by
   simp only [sumR]
   have h1 :=i6 fun k (hk : k < n) => h k (by omega)
   have h2 :=h n (by omega)
   grind
theorem sF {f : Nat → Rat} {i : Nat} : ∀ {n : Nat},i < n → (∀ k,k < n → k ≠ i → f k ≤ 0) → sumR f n ≤ f i
 | 0,h,_ => by omega
 | n + 1,h,h0 => by
   simp only [sumR]
   by_cases hi : i = n
   · subst hi
     have : 0 ≤ sumR (fun k => (-1) * f k + 0 * f k) i :=i6 fun k hk => by have :=h0 k (by omega) (by omega); grind
     rw [cS] at this
     grind
   · have h1 :=sF (i :=i) (n :=n) (by omega) fun k hk hne => h0 k (by omega) hne
     have h2 :=h0 n (by omega) (fun e => hi e.symm)
     grind
abbrev Mx :=Nat → Nat → Rat
def Sol (A : Mx) (n : Nat) (x : Nat → Rat) : Prop :=∀ k,k < n → sumR (fun t => A k t * x t) n = A k n
def elimP (A : Mx) (i k : Nat) : Mx :=fun k' t => if k' ≠ i ∧ k' < k ∧ i ≤ t then A k' t - A k' i / A i i * A i t else A k' t
def gj (A : Mx) (n : Nat) : Nat → Mx
 | 0 => A
 | i + 1 => elimP (gj A n i) i n
structure Inv (A : Mx) (n i : Nat) : Prop where
 zero : ∀ k t,k < n → t < i → k ≠ t → A k t = 0
 off : ∀ k t,k < n → i ≤ t → t < n → k ≠ t → A k t ≤ 0
 col : ∀ t,i ≤ t → t < n → 0 < sumR (fun k => if i ≤ k then A k t else 0) n
 rhs : ∀ k,k < n → 0 ≤ A k n
 dpos : ∀ k,k < i → k < n → 0 < A k k
theorem eZ {a p : Rat} (ha : a ≤ 0) (hp : 0 < p) : a / p ≤ 0 :=by
 have h1 : 0 ≤ -a :=by grind
 have h2 : 0 ≤ p⁻¹ :=by have :=Rat.inv_pos.2 hp; grind
 have :=Rat.mul_nonneg h1 h2
 rw [Rat.div_def]; grind
theorem D2 {a b : Rat} (ha : a ≤ 0) (hb : b ≤ 0) : 0 ≤ a * b :=by
 have :=Rat.mul_nonneg (show 0 ≤ -a by grind) (show 0 ≤ -b by grind)
 grind
theorem xH {a b : Rat} (ha : 0 ≤ a) (hb : b ≤ 0) : a * b ≤ 0 :=by
 have :=Rat.mul_nonneg ha (show 0 ≤ -b by grind)
 grind
theorem lA {A : Mx} {n i : Nat} (h : Inv A n i) (hi : i < n) : 0 < A i i :=by
 have h1 :=h.col i (Nat.le_refl _) hi
 have h2 :=sF (f :=fun k => if i ≤ k then A k i else 0) hi fun k hk hne => by
  split
  · exact h.off k i hk (Nat.le_refl _) hi hne
  · grind
 rw [if_pos (Nat.le_refl _)] at h2
 grind
theorem eF (A : Mx) (i k t : Nat) : elimP A i k i t = A i t :=if_neg (by omega)
theorem cU {A : Mx} {i n k t : Nat} (hk : k < n) (hne : k ≠ i) (ht : i ≤ t) : elimP A i n k t = A k t - A k i / A i i * A i t :=if_pos ⟨hne,hk,ht⟩
theorem j3 {A : Mx} {i n k t : Nat} (ht : t < i) : elimP A i n k t = A k t :=if_neg (by omega)
theorem D3 {A : Mx} {n i : Nat} (h : Inv A n i) (hi : i < n) : Inv (elimP A i n) n (i + 1) :=by
 have hp :=lA h hi
 refine ⟨fun k t hk ht hne => ?_,fun k t hk ht htn hne => ?_,fun t ht htn => ?_,fun k hk => ?_,fun k hk hkn => ?_⟩
 · by_cases hti : t = i
   · subst hti
     rw [cU hk hne (Nat.le_refl _)]
     grind
   · rw [j3 (by omega)]
     exact h.zero k t hk (by omega) hne
 · by_cases hki : k = i
   · subst hki
     rw [eF]
     exact h.off k t hk (by omega) htn hne
   · rw [cU hk hki (by omega)]
     have h1 :=h.off k t hk (by omega) htn hne
     have h2 :=eZ (h.off k i hk (Nat.le_refl _) hi hki) hp
     have h3 :=D2 h2 (h.off i t hi (by omega) htn (by omega))
     grind
 · have e : sumR (fun k => if i + 1 ≤ k then elimP A i n k t else 0) n = sumR (fun k => 1 * (if i ≤ k then A k t else 0) + (-(A i t / A i i)) * (if i ≤ k then A k i else 0)) n :=by
    refine b8 fun k hk => ?_
    by_cases h1 : k < i
    · rw [if_neg (by omega),if_neg (by omega),if_neg (by omega)]; grind
    · by_cases h2 : k = i
      · subst h2
        rw [if_neg (by omega),if_pos (by omega),if_pos (by omega)]; grind
      · rw [if_pos (by omega),if_pos (by omega),if_pos (by omega),cU hk h2 (by omega)]; grind
   rw [e,cS]
   have h1 :=h.col t (by omega) htn
   have h2 :=h.col i (Nat.le_refl _) hi
   have h3 :=xH (Rat.le_of_lt h2) (eZ (h.off i t hi (by omega) htn (by omega)) hp)
   grind
 · by_cases hki : k = i
   · subst hki
     rw [eF]; exact h.rhs k hk
   · rw [cU hk hki (by omega)]
     have h1 :=h.rhs k hk
     have h2 :=eZ (h.off k i hk (Nat.le_refl _) hi hki) hp
     have h3 :=xH (h.rhs i hi) h2
     grind
 · by_cases hki : k = i
   · subst hki
     rw [eF]; exact hp
   · rw [j3 (by omega)]
     exact h.dpos k (by omega) hkn
theorem o9 {A : Mx} {n : Nat} (h : Inv A n 0) : ∀ i,i ≤ n → Inv (gj A n i) n i
 | 0,_ => h
 | i + 1,hi => D3 (o9 h i (by omega)) (by omega)
theorem yV (A : Mx) (n k : Nat) : ∀ i,k ≤ i → gj A n i k k = gj A n k k k
 | 0,h => by have : k = 0 :=by omega
             subst this; rfl
 | i + 1,h => by
   by_cases hk : k = i + 1
   · rw [hk]
   · rw [← yV A n k i (by omega)]
     show elimP (gj A n i) i n k k = _
     by_cases hki : k = i
     · subst hki; exact eF _ _ _ _
     · exact j3 (by omega)
theorem D4 {A : Mx} {n i : Nat} {x : Nat → Rat} (hi : i < n) (hp : A i i ≠ 0) (hz : ∀ t,t < i → A i t = 0) : Sol (elimP A i n) n x ↔ Sol A n x :=by
 have row : ∀ k,k < n → k ≠ i → sumR (fun t => elimP A i n k t * x t) n = sumR (fun t => A k t * x t) n - A k i / A i i * sumR (fun t => A i t * x t) n :=by
  intro k hk hne
  have : sumR (fun t => elimP A i n k t * x t) n = sumR (fun t => 1 * (A k t * x t) + (-(A k i / A i i)) * (A i t * x t)) n :=by
   refine b8 fun t ht => ?_
   by_cases h : i ≤ t
   · rw [cU hk hne h]; grind
   · rw [j3 (by omega),hz t (by omega)]; grind
  rw [this,cS]; grind
 have rowi : sumR (fun t => elimP A i n i t * x t) n = sumR (fun t => A i t * x t) n :=b8 fun t _ => by rw [eF]
 constructor
 · intro h k hk
   have hi' :=h i hi
   rw [rowi,eF] at hi'
   by_cases hne : k = i
   · subst hne; exact hi'
   · have :=h k hk
     rw [row k hk hne,cU hk hne (by omega),hi'] at this
     grind
 · intro h k hk
   by_cases hne : k = i
   · subst hne; rw [rowi,eF]; exact h k hk
   · rw [row k hk hne,cU hk hne (by omega),h k hk,h i hi]
theorem D5 {A : Mx} {n : Nat} {x : Nat → Rat} (h : Inv A n 0) : ∀ i,i ≤ n → (Sol (gj A n i) n x ↔ Sol A n x)
 | 0,_ => Iff.rfl
 | i + 1,hi => by
   have hv :=o9 h i (by omega)
   have hp :=lA hv (by omega)
   rw [← D5 h i (by omega)]
   exact D4 (by omega) (by grind) fun t ht => hv.zero i t (by omega) ht (by omega)
def solx (A : Mx) (n k : Nat) : Rat :=gj A n n k n / gj A n n k k
theorem D6 {A : Mx} {n : Nat} {x : Nat → Rat} (h : Inv A n 0) : Sol A n x ↔ ∀ k,k < n → x k = solx A n k :=by
 have hv :=o9 h n (Nat.le_refl _)
 rw [← D5 h n (Nat.le_refl _)]
 have one : ∀ k,k < n → sumR (fun t => gj A n n k t * x t) n = gj A n n k k * x k :=fun k hk =>
  dM hk fun t ht hne => by rw [hv.zero k t hk ht (fun e => hne e.symm)]; grind
 constructor
 · intro hs k hk
   have h1 :=hs k hk
   rw [one k hk] at h1
   have h2 :=hv.dpos k hk hk
   unfold solx
   rw [← h1]; grind
 · intro hs k hk
   have h2 :=hv.dpos k hk hk
   rw [one k hk,hs k hk]
   unfold solx; grind
theorem uR {A : Mx} {n : Nat} (h : Inv A n 0) : Sol A n (solx A n) :=(D6 h).2 fun _ _ => rfl
theorem D7 {A : Mx} {n i : Nat} (h : Inv A n 0) (hi : i < n) : 0 < gj A n i i i :=lA (o9 h i (by omega)) hi
end Go.Proofs.YthibhamepjhfjaaGreatDoor

namespace Go.Proofs.YthibhamepjhfjaaGreatDoor
def sgn (j : Nat) : Rat :=if j % 2 = 0 then 1 else -1
theorem D8 (j : Nat) : sgn (j + 1) = - sgn j :=by
 unfold sgn
 by_cases h : j % 2 = 0
 · rw [if_neg (by omega),if_pos h]
 · rw [if_pos (by omega),if_neg h]; decide
def minor (j : Nat) (A : Mx) : Mx :=fun k t => A (k + 1) (if t < j then t else t + 1)
def det : Nat → Mx → Rat
 | 0,_ => 1
 | n + 1,A => sumR (fun j => sgn j * A 0 j * det n (minor j A)) (n + 1)
theorem dT : ∀ (n : Nat) {A B : Mx},(∀ k t,k < n → t < n → A k t = B k t) → det n A = det n B
 | 0,_,_,_ => rfl
 | n + 1,A,B,h => by
   unfold det
   refine b8 fun j hj => ?_
   rw [h 0 j (by omega) hj,dT n (A :=minor j A) (B :=minor j B) fun k t hk ht => ?_]
   unfold minor
   split
   · exact h _ _ (by omega) (by omega)
   · exact h _ _ (by omega) (by omega)
def setCol (A : Mx) (c : Nat) (v : Nat → Rat) : Mx :=fun k t => if t = c then v k else A k t
theorem xI (A : Mx) (c : Nat) (v : Nat → Rat) : minor c (setCol A c v) = minor c A :=by
 funext k t
 unfold minor setCol
 split <;> rw [if_neg (by omega)]
theorem uS (A : Mx) (c j : Nat) (v : Nat → Rat) (h : j ≠ c) : minor j (setCol A c v) = setCol (minor j A) (if c < j then c else c - 1) (fun k => v (k + 1)) :=by
 funext k t
 unfold minor setCol
 by_cases h1 : c < j
 · rw [if_pos h1]
   by_cases ht : t < j
   · simp only [if_pos ht]
   · rw [if_neg ht,if_neg (by omega),if_neg (by omega)]
     simp only [if_neg ht]
 · rw [if_neg h1]
   by_cases ht : t < j
   · rw [if_pos ht,if_neg (by omega),if_neg (by omega)]
     simp only [if_pos ht]
   · rw [if_neg ht]
     by_cases h2 : t + 1 = c
     · rw [if_pos h2,if_pos (by omega)]
     · rw [if_neg h2,if_neg (by omega)]
       simp only [if_neg ht]
theorem dU (A : Mx) (c : Nat) (v : Nat → Rat) (k : Nat) : setCol A c v k c = v k :=if_pos rfl
theorem dG (A : Mx) (c : Nat) (v : Nat → Rat) (k : Nat) {t : Nat} (h : t ≠ c) : setCol A c v k t = A k t :=if_neg h
theorem gI : ∀ (n : Nat) (A : Mx) (c : Nat) (u v : Nat → Rat) (a b : Rat),c < n →
  det n (setCol A c fun k => a * u k + b * v k) = a * det n (setCol A c u) + b * det n (setCol A c v)
 | 0,_,c,_,_,_,_,h => by omega
 | n + 1,A,c,u,v,a,b,h => by
   unfold det
   rw [← cS]
   refine b8 fun j hj => ?_
   by_cases hc : j = c
   · subst hc
     simp only [xI,dU]
     grind
   · simp only [uS _ _ _ _ hc,dG _ _ _ _ hc]
     rw [gI n (minor j A) (if c < j then c else c - 1) (fun k => u (k + 1)) (fun k => v (k + 1)) a b (by split <;> omega)]
     grind
theorem sG : ∀ (n : Nat) (A : Mx) (c : Nat),c + 1 < n → (∀ k,k < n → A k c = A k (c + 1)) → det n A = 0
 | 0,_,c,h,_ => by omega
 | n + 1,A,c,h,he => by
   unfold det
   rw [uQ h fun j hj h1 h2 => ?_]
   · rw [he 0 (by omega),D8,dT n (A :=minor c A) (B :=minor (c + 1) A) fun k t hk ht => ?_]
     · grind
     · unfold minor
       by_cases h1 : t < c
       · rw [if_pos h1,if_pos (by omega)]
       · rw [if_neg h1]
         by_cases h2 : t < c + 1
         · rw [if_pos h2]
           have : t = c :=by omega
           subst this
           exact (he (k + 1) (by omega)).symm
         · rw [if_neg h2]
   · rw [sG n (minor j A) (if c < j then c else c - 1) (by split <;> omega) fun k hk => ?_]
     · grind
     · unfold minor
       by_cases h3 : c < j
       · rw [if_pos h3,if_pos (by omega),if_pos (by omega)]; exact he _ (by omega)
       · rw [if_neg h3,if_neg (by omega),if_neg (by omega)]
         have : c - 1 + 1 = c :=by omega
         rw [this]
         exact he _ (by omega)
theorem fI (A : Mx) (c : Nat) : setCol A c (fun k => A k c) = A :=by
 funext k t
 unfold setCol
 split
 · rename_i h; rw [h]
 · rfl
def swapC (A : Mx) (c : Nat) : Mx :=setCol (setCol A c fun k => A k (c + 1)) (c + 1) fun k => A k c
theorem D9 (n : Nat) (A : Mx) (c : Nat) (h : c + 1 < n) : det n (swapC A c) = - det n A :=by
 have e0 : ∀ (u v : Nat → Rat),(∀ k,u k = v k) → det n (setCol (setCol A c u) (c + 1) v) = 0 :=fun u v huv =>
  sG n _ c h fun k _ => by rw [dU,dG _ _ _ _ (by omega),dU,huv k]
 let p : Nat → Rat :=fun k => A k c
 let q : Nat → Rat :=fun k => A k (c + 1)
 have comm : ∀ (u v : Nat → Rat),setCol (setCol A c u) (c + 1) v = setCol (setCol A (c + 1) v) c u :=fun u v => by
  funext k t
  unfold setCol
  by_cases h1 : t = c + 1
  · subst h1
    rw [if_pos rfl,if_neg (by omega),if_pos rfl]
  · simp only [if_neg h1]
 have h1 :=e0 (fun k => 1 * p k + 1 * q k) (fun k => 1 * p k + 1 * q k) (fun _ => rfl)
 rw [gI n _ (c + 1) p q 1 1 h,comm _ p,comm _ q,gI n _ c p q 1 1 (by omega),gI n _ c p q 1 1 (by omega),← comm,← comm,← comm,← comm] at h1
 have h2 :=e0 p p (fun _ => rfl)
 have h3 :=e0 q q (fun _ => rfl)
 have h4 : setCol (setCol A c p) (c + 1) q = A :=by rw [show setCol A c p = A from fI A c]; exact fI A (c + 1)
 rw [h2,h3,h4] at h1
 show det n (setCol (setCol A c q) (c + 1) p) = _
 grind
theorem xJ : ∀ (m n : Nat) (A : Mx) (c : Nat),c + 1 + m < n → (∀ k,k < n → A k c = A k (c + 1 + m)) → det n A = 0
 | 0,n,A,c,h,he => sG n A c h he
 | m + 1,n,A,c,h,he => by
   have h1 :=D9 n A (c + 1 + m) (by omega)
   have h2 :=xJ m n (swapC A (c + 1 + m)) c (by omega) fun k hk => by
    unfold swapC
    rw [dG _ _ _ _ (by omega),dG _ _ _ _ (by omega),dG _ _ _ _ (by omega),dU]
    rw [he k hk]; congr 1
   rw [h2] at h1
   grind
theorem uT {n : Nat} {A : Mx} {c d : Nat} (hc : c < n) (hd : d < n) (hne : c ≠ d) (he : ∀ k,k < n → A k c = A k d) : det n A = 0 :=by
 rcases Nat.lt_or_gt_of_ne hne with h | h
 · refine xJ (d - c - 1) n A c (by omega) fun k hk => ?_
   have : c + 1 + (d - c - 1) = d :=by omega
   rw [this]; exact he k hk
 · refine xJ (c - d - 1) n A d (by omega) fun k hk => ?_
   have : d + 1 + (c - d - 1) = c :=by omega
   rw [this]; exact (he k hk).symm
theorem G3 {n : Nat} (A : Mx) {c d : Nat} (hc : c < n) (hd : d < n) (hne : c ≠ d) (a : Rat) : det n (setCol A c fun k => A k c + a * A k d) = det n A :=by
 have h1 :=gI n A c (fun k => A k c) (fun k => A k d) 1 a hc
 have h2 : det n (setCol A c fun k => A k d) = 0 :=uT hc hd hne fun k _ => by rw [dU,dG _ _ _ _ (fun e => hne e.symm)]
 rw [h2,fI] at h1
 have h3 : (fun k => A k c + a * A k d) = fun k => 1 * A k c + a * A k d :=by funext k; grind
 rw [h3,h1]; grind
theorem IR {A : Mx} {n : Nat} {x : Nat → Rat} (h : Sol A n x) {j : Nat} (hj : j < n) : det n (setCol A j fun k => A k n) = x j * det n A :=by
 have h1 : det n (setCol A j fun k => A k n) = det n (setCol A j fun k => sumR (fun t => A k t * x t) n) :=dT n fun k t hk _ => by
  unfold setCol
  split
  · exact (h k hk).symm
  · rfl
 have h2 : ∀ m,det n (setCol A j fun k => sumR (fun t => A k t * x t) m) = sumR (fun t => x t * det n (setCol A j fun k => A k t)) m :=by
  intro m
  induction m with
  | zero =>
    have :=gI n A j (fun _ => 0) (fun _ => 0) 0 0 hj
    simp only [sumR]
    have e : (fun k : Nat => (0 : Rat) * 0 + 0 * 0) = fun _ => (0 : Rat) :=by funext k; grind
    rw [e] at this
    rw [this]; grind
  | succ m ih =>
    have :=gI n A j (fun k => sumR (fun t => A k t * x t) m) (fun k => A k m) 1 (x m) hj
    have e : (fun k => sumR (fun t => A k t * x t) (m + 1)) = fun k => 1 * sumR (fun t => A k t * x t) m + x m * A k m :=by funext k; simp only [sumR]; grind
    rw [e,this,ih]
    simp only [sumR]; grind
 rw [h1,h2,dM hj fun t ht hne => ?_]
 · rw [fI]
 · rw [uT hj ht (fun e => hne e.symm) fun k _ => by rw [dU,dG _ _ _ _ hne]]; grind
structure MM (A : Mx) (n : Nat) : Prop where
 off : ∀ k t,k < n → t < n → k ≠ t → A k t ≤ 0
 col : ∀ t,t < n → 0 < sumR (fun k => A k t) n
def schur (A : Mx) : Mx :=fun k t => A (k + 1) (t + 1) - A (k + 1) 0 / A 0 0 * A 0 (t + 1)
theorem oA (f : Nat → Rat) : ∀ n,sumR f (n + 1) = f 0 + sumR (fun k => f (k + 1)) n
 | 0 => by simp only [sumR]; grind
 | n + 1 => by rw [sumR,oA f n]; simp only [sumR]; grind
theorem uU {A : Mx} {n : Nat} (h : MM A (n + 1)) : 0 < A 0 0 :=by
 have h1 :=h.col 0 (by omega)
 have h2 :=sF (f :=fun k => A k 0) (i :=0) (n :=n + 1) (by omega) fun k hk hne => h.off k 0 hk (by omega) hne
 grind
theorem DB {A : Mx} {n : Nat} (h : MM A (n + 1)) : MM (schur A) n :=by
 have hp :=uU h
 refine ⟨fun k t hk ht hne => ?_,fun t ht => ?_⟩
 · have h1 :=h.off (k + 1) (t + 1) (by omega) (by omega) (by omega)
   have h2 :=D2 (eZ (h.off (k + 1) 0 (by omega) (by omega) (by omega)) hp) (h.off 0 (t + 1) (by omega) (by omega) (by omega))
   unfold schur; grind
 · have h1 :=h.col (t + 1) (by omega)
   have h2 :=h.col 0 (by omega)
   rw [oA] at h1 h2
   have e : sumR (fun k => schur A k t) n = 1 * sumR (fun k => A (k + 1) (t + 1)) n + (-(A 0 (t + 1) / A 0 0)) * sumR (fun k => A (k + 1) 0) n :=by
    rw [← cS]
    exact b8 fun k _ => by unfold schur; grind
   rw [e]
   have h3 :=xH (Rat.le_of_lt h2) (eZ (h.off 0 (t + 1) (by omega) (by omega) (by omega)) hp)
   generalize sumR (fun k => A (k + 1) (t + 1)) n = S at *
   generalize sumR (fun k => A (k + 1) 0) n = T at *
   generalize A 0 (t + 1) = a at *
   generalize A 0 0 = p at *
   have h4 : (p + T) * (a / p) = a + a / p * T :=by grind
   grind
theorem B6 {A : Mx} {n : Nat} (hp : A 0 0 ≠ 0) : det (n + 1) A = A 0 0 * det n (schur A) :=by
 let B : Nat → Mx :=fun m k t => if 1 ≤ t ∧ t < m then A k t - A 0 t / A 0 0 * A k 0 else A k t
 have step : ∀ m,m ≤ n + 1 → det (n + 1) (B m) = det (n + 1) A :=by
  intro m hm
  induction m with
  | zero => exact dT _ fun k t _ _ => if_neg (by omega)
  | succ m ih =>
    rw [← ih (by omega)]
    by_cases h0 : m = 0
    · subst h0
      exact dT _ fun k t _ _ => by
       show (if _ then _ else _) = (if _ then _ else _)
       rw [if_neg (by omega),if_neg (by omega)]
    · rw [← G3 (B m) (c :=m) (d :=0) (by omega) (by omega) h0 (-(A 0 m / A 0 0))]
      refine dT _ fun k t _ _ => ?_
      show (if _ then _ else _) = setCol _ _ _ _ _
      by_cases ht : t = m
      · subst ht
        rw [if_pos (by omega),dU]
        show _ = (if _ then _ else _) + _ * (if _ then _ else _)
        rw [if_neg (by omega),if_neg (by omega)]
        grind
      · rw [dG _ _ _ _ ht]
        show _ = (if _ then _ else _)
        by_cases h1 : 1 ≤ t ∧ t < m
        · rw [if_pos (by omega),if_pos h1]
        · rw [if_neg (by omega),if_neg h1]
 rw [← step (n + 1) (Nat.le_refl _)]
 have b0 : ∀ k,B (n + 1) k 0 = A k 0 :=fun k => if_neg (by omega)
 have bt : ∀ k t,t < n → B (n + 1) k (t + 1) = A k (t + 1) - A 0 (t + 1) / A 0 0 * A k 0 :=fun k t ht => if_pos (by omega)
 show sumR (fun j => sgn j * B (n + 1) 0 j * det n (minor j (B (n + 1)))) (n + 1) = A 0 0 * det n (schur A)
 rw [dM (i :=0) (by omega) fun j hj hne => ?_]
 · rw [b0]
   have : sgn 0 = 1 :=rfl
   rw [this,dT n (A :=minor 0 (B (n + 1))) (B :=schur A) fun k t hk ht => ?_]
   · grind
   · unfold minor schur
     rw [if_neg (by omega),bt _ _ ht]
     grind
 · obtain ⟨j,rfl⟩ : ∃ i,j = i + 1 :=⟨j - 1,by omega⟩
   rw [bt 0 j (by omega)]
   have : A 0 (j + 1) - A 0 (j + 1) / A 0 0 * A 0 0 = 0 :=by grind
   rw [this]; grind
theorem DC : ∀ {n : Nat} {A : Mx},MM A n → 0 < det n A
 | 0,_,_ => by unfold det; decide
 | n + 1,A,h => by
   have hp :=uU h
   rw [B6 (by grind)]
   exact Rat.mul_pos hp (DC (DB h))
def intB (N : Nat) (r : Rat) : Prop :=∃ z : Int,r = z ∧ z.natAbs ≤ N
theorem eG {N M : Nat} {r s : Rat} (h1 : intB N r) (h2 : intB M s) : intB (N * M) (r * s) :=by
 obtain ⟨z,rfl,hz⟩ :=h1
 obtain ⟨y,rfl,hy⟩ :=h2
 exact ⟨z * y,by rw [Rat.intCast_mul],by rw [Int.natAbs_mul]; exact Nat.mul_le_mul hz hy⟩
theorem oB {N M : Nat} {r s : Rat} (h1 : intB N r) (h2 : intB M s) : intB (N + M) (r + s) :=by
 obtain ⟨z,rfl,hz⟩ :=h1
 obtain ⟨y,rfl,hy⟩ :=h2
 exact ⟨z + y,by rw [Rat.intCast_add],by omega⟩
theorem DD {N : Nat} {r : Rat} (h : intB N r) : intB N (-r) :=by
 obtain ⟨z,rfl,hz⟩ :=h
 exact ⟨-z,by rw [Rat.intCast_neg],by omega⟩
theorem cV {N M : Nat} {r : Rat} (h : intB N r) (hl : N ≤ M) : intB M r :=by
 obtain ⟨z,rfl,hz⟩ :=h
 exact ⟨z,rfl,by omega⟩
theorem DE (j : Nat) : intB 1 (sgn j) :=by
 unfold sgn
 split
 · exact ⟨1,rfl,by decide⟩
 · exact ⟨-1,rfl,by decide⟩
theorem uV {f : Nat → Rat} {N : Nat} : ∀ {n : Nat},(∀ k,k < n → intB N (f k)) → intB (n * N) (sumR f n)
 | 0,_ => ⟨0,rfl,by simp⟩
 | n + 1,h => by
   simp only [sumR]
   rw [Nat.add_mul,Nat.one_mul]
   exact oB (uV fun k hk => h k (by omega)) (h n (by omega))
def detN : Nat → Nat → Nat
 | 0,_ => 1
 | n + 1,c => (n + 1) * (c * detN n c)
theorem sI : ∀ {n : Nat} {A : Mx} {c : Nat},(∀ k t,k < n → t < n → intB c (A k t)) → intB (detN n c) (det n A)
 | 0,_,_,_ => ⟨1,rfl,by simp [detN]⟩
 | n + 1,A,c,h => by
   unfold det detN
   refine uV fun j hj => ?_
   have h1 :=eG (eG (DE j) (h 0 j (by omega) hj)) (sI (n :=n) (A :=minor j A) (c :=c) fun k t hk ht => by
    unfold minor
    split
    · exact h _ _ (by omega) (by omega)
    · exact h _ _ (by omega) (by omega))
   rw [Nat.one_mul] at h1
   exact h1
end Go.Proofs.YthibhamepjhfjaaGreatDoor

namespace Go.Proofs.YthibhamepjhfjaaGreatDoor
def szB (D N : Nat) (r : Rat) : Prop :=0 < D ∧ intB N (r * ((D : Int) : Rat))
theorem DF (r : Rat) : (r.num : Rat) = r * ((r.den : Int) : Rat) :=by
 have h :=Rat.num_divInt_den r
 rw [Rat.divInt_eq_div] at h
 have hd : (((r.den : Int)) : Rat) ≠ 0 :=by
  have :=r.den_pos
  intro e
  have : ((r.den : Int) : Rat) = ((0 : Int) : Rat) :=e
  have :=Rat.intCast_inj.1 this
  omega
 grind
theorem jW {D N : Nat} {r : Rat} (h : szB D N r) : r.num.natAbs ≤ N ∧ r.den ≤ D :=by
 obtain ⟨hD,z,hz,hN⟩ :=h
 have h1 :=DF r
 have h2 : r.num * (D : Int) = z * (r.den : Int) :=by
  have : ((r.num * (D : Int) : Int) : Rat) = ((z * (r.den : Int) : Int) : Rat) :=by
   rw [Rat.intCast_mul,Rat.intCast_mul,h1,← hz]; grind
  exact Rat.intCast_inj.1 this
 have h3 : r.den ∣ r.num.natAbs * D :=⟨z.natAbs,by
  have :=congrArg Int.natAbs h2
  rw [Int.natAbs_mul,Int.natAbs_mul] at this
  simp only [Int.natAbs_natCast] at this
  rw [this,Nat.mul_comm]⟩
 have h4 : r.den ∣ D :=(Nat.Coprime.symm r.reduced).dvd_of_dvd_mul_left h3
 obtain ⟨c,hc⟩ :=h4
 have hdp :=r.den_pos
 have hcp : 0 < c :=by
  rcases Nat.eq_zero_or_pos c with h0 | h0
  · subst h0; omega
  · exact h0
 have h5 : r.num.natAbs * c = z.natAbs :=by
  have :=congrArg Int.natAbs h2
  rw [Int.natAbs_mul,Int.natAbs_mul] at this
  simp only [Int.natAbs_natCast] at this
  rw [hc] at this
  have : r.den * (r.num.natAbs * c) = r.den * z.natAbs :=by rw [Nat.mul_comm r.den z.natAbs,← this]; rw [Nat.mul_left_comm]
  exact Nat.eq_of_mul_eq_mul_left hdp this
 refine ⟨?_,?_⟩
 · have :=Nat.mul_le_mul_left r.num.natAbs hcp
   omega
 · rw [hc]; have :=Nat.mul_le_mul_left r.den hcp; omega
def bt (k : Nat) (z : Int) : Prop :=z.natAbs ≤ 2 ^ k
theorem bR {k m : Nat} {z : Int} (h : bt k z) (hl : k ≤ m) : bt m z :=Nat.le_trans h (Nat.pow_le_pow_right (by decide) hl)
theorem dE {k m : Nat} {z y : Int} (h1 : bt k z) (h2 : bt m y) : bt (k + m) (z * y) :=by
 unfold bt; rw [Int.natAbs_mul,Nat.pow_add]; exact Nat.mul_le_mul h1 h2
theorem xK {k : Nat} {z y : Int} (h1 : bt k z) (h2 : bt k y) : bt (k + 1) (z + y) :=by
 unfold bt at *; rw [Nat.pow_succ]; omega
theorem IS {k : Nat} {z : Int} (h : bt k z) : bt k (-z) :=by unfold bt at *; omega
theorem mW (k : Nat) : bt k 0 :=by unfold bt; simp
def Stg (A : Mx) (n d a c : Nat) : Prop :=∃ D : Nat,0 < D ∧ D ≤ 2 ^ d ∧ ∀ k,k < n → (∀ t,t < n → intB (2 ^ a) (A k t * ((D : Int) : Rat))) ∧ intB (2 ^ c) (A k n * ((D : Int) : Rat))
theorem DG {A : Mx} {n i d a c : Nat} (h : Stg A n d a c) (hi : i < n) (hp : 0 < A i i) : Stg (elimP A i n) n (d + a) (2 * a + 1) (a + c + 1) :=by
 obtain ⟨D,hD,hDl,hs⟩ :=h
 obtain ⟨p,hpz,hpl⟩ :=(hs i hi).1 i hi
 have hDR : (0 : Rat) < ((D : Int) : Rat) :=by
  have : ((0 : Int) : Rat) < ((D : Int) : Rat) :=Rat.intCast_lt_intCast.2 (by omega)
  exact this
 have hp0 : 0 < p :=by
  have : ((0 : Int) : Rat) < (p : Rat) :=by rw [← hpz]; exact Rat.mul_pos hp hDR
  exact Rat.intCast_lt_intCast.1 this
 have hpn : ((p.natAbs : Int)) = p :=by omega
 have hcast : (((D * p.natAbs : Nat) : Int) : Rat) = ((D : Int) : Rat) * (A i i * ((D : Int) : Rat)) :=by
  rw [hpz,Int.natCast_mul,hpn,Rat.intCast_mul]
 have pr : ∀ {x N},intB (2 ^ N) (x * ((D : Int) : Rat)) → intB (2 ^ (a + N)) (x * (((D * p.natAbs : Nat) : Int) : Rat)) :=by
  intro x N hx
  rw [hcast,hpz,Nat.pow_add]
  have :=eG (⟨p,rfl,hpl⟩ : intB (2 ^ a) (p : Rat)) hx
  have e : x * (((D : Int) : Rat) * (p : Rat)) = (p : Rat) * (x * ((D : Int) : Rat)) :=by grind
  rw [e]; exact this
 have two : ∀ {x y z N},intB (2 ^ N) (x * ((D : Int) : Rat)) → intB (2 ^ a) (y * ((D : Int) : Rat)) → intB (2 ^ N) (z * ((D : Int) : Rat)) → intB (2 ^ (a + N + 1)) ((x - y / A i i * z) * (((D * p.natAbs : Nat) : Int) : Rat)) :=by
  intro x y z N hx hy hz
  have h1 :=pr hx
  have h2 :=DD (eG hy hz)
  have h3 :=oB h1 h2
  rw [← Nat.pow_add,← Nat.two_mul,Nat.mul_comm,← Nat.pow_succ] at h3
  have e : (x - y / A i i * z) * (((D * p.natAbs : Nat) : Int) : Rat) = x * (((D * p.natAbs : Nat) : Int) : Rat) + -(y * ((D : Int) : Rat) * (z * ((D : Int) : Rat))) :=by
   rw [hcast]; grind
  rw [e]; exact h3
 refine ⟨D * p.natAbs,Nat.mul_pos hD (by omega),by rw [Nat.pow_add]; exact Nat.mul_le_mul hDl hpl,fun k hk => ⟨fun t ht => ?_,?_⟩⟩
 · have hk1 :=(hs k hk).1
   have e1 : a + a + 1 = 2 * a + 1 :=by omega
   by_cases h : k ≠ i ∧ k < n ∧ i ≤ t
   · rw [cU h.2.1 h.1 h.2.2,← e1]
     exact two (hk1 t ht) (hk1 i hi) ((hs i hi).1 t ht)
   · have : elimP A i n k t = A k t :=if_neg h
     rw [this,← e1]
     exact cV (pr (hk1 t ht)) (Nat.pow_le_pow_right (by decide) (by omega))
 · have hk2 :=(hs k hk).2
   by_cases h : k ≠ i ∧ k < n ∧ i ≤ n
   · rw [cU h.2.1 h.1 h.2.2]
     exact two hk2 ((hs k hk).1 i hi) (hs i hi).2
   · have : elimP A i n k n = A k n :=if_neg h
     rw [this]
     exact cV (pr hk2) (Nat.pow_le_pow_right (by decide) (by omega))
def bD (d a : Nat) : Nat → Nat
 | 0 => d
 | i + 1 => bD d a i + (a + 1) * 2 ^ i - 1
def bA (a i : Nat) : Nat :=(a + 1) * 2 ^ i - 1
def bC (a c : Nat) : Nat → Nat
 | 0 => c
 | i + 1 => bA a i + bC a c i + 1
theorem yW (a i : Nat) : bA a (i + 1) = 2 * bA a i + 1 :=by
 unfold bA
 rw [Nat.pow_succ]
 have : 0 < (a + 1) * 2 ^ i :=Nat.mul_pos (by omega) (Nat.pow_pos (by decide))
 have e : (a + 1) * (2 ^ i * 2) = (a + 1) * 2 ^ i * 2 :=by rw [Nat.mul_assoc]
 omega
theorem DH {A : Mx} {n d a c : Nat} (hv : Inv A n 0) (h : Stg A n d a c) : ∀ i,i ≤ n → Stg (gj A n i) n (bD d a i) (bA a i) (bC a c i)
 | 0,_ => by
   have : bA a 0 = a :=by simp [bA]
   rw [this]; exact h
 | i + 1,hi => by
   have h1 :=DG (DH hv h i (by omega)) (by omega) (D7 hv (by omega))
   have e : bD d a (i + 1) = bD d a i + bA a i :=by
    show bD d a i + (a + 1) * 2 ^ i - 1 = _
    unfold bA
    have : 0 < (a + 1) * 2 ^ i :=Nat.mul_pos (by omega) (Nat.pow_pos (by decide))
    omega
   rw [yW,e]
   exact h1
theorem gJ {A : Mx} {n d a c k t : Nat} (h : Stg A n d a c) (hac : a ≤ c) (hk : k < n) (ht : t ≤ n) : bt c (A k t).num ∧ bt d (A k t).den ∧ (t < n → bt a (A k t).num) :=by
 obtain ⟨D,hD,hDl,hs⟩ :=h
 by_cases htn : t < n
 · obtain ⟨h1,h2⟩ :=jW (D :=D) (N :=2 ^ a) (r :=A k t) ⟨hD,(hs k hk).1 t htn⟩
   exact ⟨bR (k :=a) h1 hac,by unfold bt; simp only [Int.natAbs_natCast]; omega,fun _ => h1⟩
 · have : t = n :=by omega
   subst this
   obtain ⟨h1,h2⟩ :=jW (D :=D) (N :=2 ^ c) (r :=A k t) ⟨hD,(hs k hk).2⟩
   exact ⟨h1,by unfold bt; simp only [Int.natAbs_natCast]; omega,fun h => absurd h htn⟩
theorem I0 {A : Mx} {n d a c k t i : Nat} (h : Stg A n d a c) (hac : a ≤ c) (hi : i < n) (hp : 0 < A i i) (hk : k < n) (ht : t ≤ n) :
  bt a (A k i / A i i).num ∧ bt a (A k i / A i i).den ∧ bt (a + c) (A k i / A i i * A i t).num ∧ bt (d + a) (A k i / A i i * A i t).den :=by
 obtain ⟨D,hD,hDl,hs⟩ :=h
 obtain ⟨p,hpz,hpl⟩ :=(hs i hi).1 i hi
 have hDR : (0 : Rat) < ((D : Int) : Rat) :=by
  have : ((0 : Int) : Rat) < ((D : Int) : Rat) :=Rat.intCast_lt_intCast.2 (by omega)
  exact this
 have hp0 : 0 < p :=by
  have : ((0 : Int) : Rat) < (p : Rat) :=by rw [← hpz]; exact Rat.mul_pos hp hDR
  exact Rat.intCast_lt_intCast.1 this
 have hpn : ((p.natAbs : Int)) = p :=by omega
 have f1 : A k i / A i i * (((p.natAbs : Nat) : Int) : Rat) = A k i * ((D : Int) : Rat) :=by rw [hpn,← hpz]; grind
 have hit : intB (2 ^ c) (A i t * ((D : Int) : Rat)) :=by
  by_cases htn : t < n
  · exact cV ((hs i hi).1 t htn) (Nat.pow_le_pow_right (by decide) hac)
  · have : t = n :=by omega
    subst this; exact (hs i hi).2
 obtain ⟨h1,h2⟩ :=jW (D :=p.natAbs) (N :=2 ^ a) (r :=A k i / A i i) ⟨by omega,by rw [f1]; exact (hs k hk).1 i hi⟩
 obtain ⟨h3,h4⟩ :=jW (D :=p.natAbs * D) (N :=2 ^ (a + c)) (r :=A k i / A i i * A i t) ⟨Nat.mul_pos (by omega) hD,by
  rw [Int.natCast_mul,Rat.intCast_mul,Nat.pow_add]
  have e : A k i / A i i * A i t * ((((p.natAbs : Nat) : Int) : Rat) * ((D : Int) : Rat)) = A k i / A i i * (((p.natAbs : Nat) : Int) : Rat) * (A i t * ((D : Int) : Rat)) :=by grind
  rw [e,f1]
  exact eG ((hs k hk).1 i hi) hit⟩
 have h5 : p.natAbs * D ≤ 2 ^ (d + a) :=by rw [Nat.pow_add,Nat.mul_comm]; exact Nat.mul_le_mul hDl hpl
 exact ⟨h1,by unfold bt; simp only [Int.natAbs_natCast]; omega,h3,by unfold bt; simp only [Int.natAbs_natCast]; omega⟩
end Go.Proofs.YthibhamepjhfjaaGreatDoor

namespace Go.Proofs.YthibhamepjhfjaaGreatDoor
theorem mX (z : Int) : ab z = (z.natAbs : Int) :=by unfold ab; split <;> omega
theorem KL (k : Nat) : (1048576 : Nat) ^ k = 2 ^ (20 * k) :=by rw [show (1048576 : Nat) = 2 ^ 20 from rfl,← Nat.pow_mul]
theorem fJ {k : Nat} {z : Int} (h : bt k z) (hk : k ≤ 1199) : rz z :=by
 unfold rz
 rw [mX]
 have h1 : ∀ m,k < 20 * m → z.natAbs < 1048576 ^ m :=fun m hm => by
  rw [KL]
  exact Nat.lt_of_le_of_lt h (Nat.pow_lt_pow_right (by decide) hm)
 have h1 :=h1 60 (by omega)
 have h2 : ((z.natAbs : Nat) : Int) < (((1048576 : Nat) ^ 60 : Nat) : Int) :=Int.ofNat_lt.2 h1
 rw [Int.natCast_pow] at h2
 exact h2
theorem sJ : bt 0 ((0 : Rat).den) :=by show (1 : Nat) ≤ 2 ^ 0; decide
theorem hI {k m : Nat} {r : Rat} (h1 : bt k r.num) (h2 : bt m r.den) (hk : k ≤ 1199) (hm : m ≤ 1199) : rq r :=⟨fJ h1 hk,fJ h2 hm⟩
theorem f0 {k m k' m' : Nat} {a b : Rat} (h1 : bt k a.num) (h2 : bt m a.den) (h3 : bt k' b.num) (h4 : bt m' b.den) (hk : k + k' ≤ 1199) (hm : m + m' ≤ 1199) : okMul a b :=⟨fJ (dE h1 h3) hk,fJ (dE h2 h4) hm⟩
theorem i7 {k m k' m' : Nat} {a b : Rat} (h1 : bt k a.num) (h2 : bt m a.den) (h3 : bt k' b.num) (h4 : bt m' b.den) (hk : k + m' ≤ 1199) (hm : m + k' ≤ 1199) : okDiv a b :=⟨fJ (dE h1 h4) hk,fJ (dE h2 h3) hm⟩
theorem oC {k m k' m' : Nat} {a b : Rat} (h1 : bt k a.num) (h2 : bt m a.den) (h3 : bt k' b.num) (h4 : bt m' b.den) (hk : k + m' ≤ 1198) (hk' : k' + m ≤ 1198) (hm : m + m' ≤ 1199) : okAdd a b :=by
 have e1 :=dE h1 h4
 have e2 :=dE h3 h2
 exact ⟨⟨fJ e1 (by omega),fJ e2 (by omega),fJ (xK (bR e1 hk) (bR e2 hk')) (by omega)⟩,fJ (dE h2 h4) hm⟩
theorem oD {k m k' m' : Nat} {a b : Rat} (h1 : bt k a.num) (h2 : bt m a.den) (h3 : bt k' b.num) (h4 : bt m' b.den) (hk : k + m' ≤ 1198) (hk' : k' + m ≤ 1198) (hm : m + m' ≤ 1199) : okSub a b :=by
 have e1 :=dE h1 h4
 have e2 :=dE (IS h3) h2
 exact ⟨⟨fJ e1 (by omega),fJ e2 (by omega),fJ (xK (bR e1 hk) (bR e2 hk')) (by omega)⟩,fJ (dE h2 h4) hm⟩
structure Fit (A : Mx) (n : Nat) : Prop where
 piv : ∀ i,i < n → gj A n i i i ≠ 0
 ent : ∀ i k t,i ≤ n → k < n → t ≤ n → rq (gj A n i k t)
 div : ∀ i k,i < n → k < n → k ≠ i → okDiv (gj A n i k i) (gj A n i i i)
 mul : ∀ i k t,i < n → k < n → k ≠ i → i ≤ t → t ≤ n → okMul (gj A n i k i / gj A n i i i) (gj A n i i t)
 sub : ∀ i k t,i < n → k < n → k ≠ i → i ≤ t → t ≤ n → okSub (gj A n i k t) (gj A n i k i / gj A n i i i * gj A n i i t)
 fin : ∀ k,k < n → okDiv (gj A n n k n) (gj A n n k k)
 dpos : ∀ k,k < n → gj A n n k k ≠ 0
theorem bts : (∀ i,i ≤ 5 → bD 0 10 i ≤ 336 ∧ bA 10 i ≤ 351 ∧ bC 10 50 i ≤ 391 ∧ bA 10 i ≤ bC 10 50 i) ∧ bD 0 10 6 ≤ 687 ∧ bA 10 6 ≤ 703 ∧ bC 10 50 6 ≤ 743 :=by decide
theorem B7 {A : Mx} {i n : Nat} (h : ∀ k,k < n → k ≠ i → A k i = 0) : elimP A i n = A :=by
 funext k t
 by_cases hc : k ≠ i ∧ k < n ∧ i ≤ t
 · rw [cU hc.2.1 hc.1 hc.2.2,h k hc.2.1 hc.1]; grind
 · exact if_neg hc
def col6 (A : Mx) (n : Nat) : Prop :=n ≤ 6 ∨ n = 7 ∧ (∀ k,k < 6 → A k 6 = 0) ∧ (∀ t,t < 6 → A 6 t = 0)
theorem sL {A : Mx} (h : ∀ k,k < 6 → A k 6 = 0) (h2 : ∀ t,t < 6 → A 6 t = 0) : ∀ i,i ≤ 6 → (∀ k,k < 6 → gj A 7 i k 6 = 0) ∧ (∀ t,t < 6 → gj A 7 i 6 t = 0)
 | 0,_ => ⟨h,h2⟩
 | i + 1,hi => by
   obtain ⟨h3,h4⟩ :=sL h h2 i (by omega)
   refine ⟨fun k hk => ?_,fun t ht => ?_⟩
   · show elimP (gj A 7 i) i 7 k 6 = 0
     by_cases hc : k ≠ i ∧ k < 7 ∧ i ≤ 6
     · rw [cU hc.2.1 hc.1 hc.2.2,h3 k hk,h3 i (by omega)]; grind
     · rw [show elimP (gj A 7 i) i 7 k 6 = gj A 7 i k 6 from if_neg hc]; exact h3 k hk
   · show elimP (gj A 7 i) i 7 6 t = 0
     by_cases hc : 6 ≠ i ∧ 6 < 7 ∧ i ≤ t
     · rw [cU hc.2.1 hc.1 hc.2.2,h4 t ht,h4 i (by omega)]; grind
     · rw [show elimP (gj A 7 i) i 7 6 t = gj A 7 i 6 t from if_neg hc]; exact h4 t ht
theorem yX {A : Mx} (h : ∀ k,k < 6 → A k 6 = 0) (h2 : ∀ t,t < 6 → A 6 t = 0) (t : Nat) : ∀ i,i ≤ 7 → gj A 7 i 6 t = A 6 t
 | 0,_ => rfl
 | i + 1,hi => by
   rw [← yX h h2 t i (by omega)]
   show elimP (gj A 7 i) i 7 6 t = _
   by_cases hc : 6 ≠ i ∧ 6 < 7 ∧ i ≤ t
   · rw [cU hc.2.1 hc.1 hc.2.2,(sL h h2 i (by omega)).2 i (by omega)]; grind
   · exact if_neg hc
theorem IT {A : Mx} {n : Nat} (hv : Inv A n 0) (hs : Stg A n 0 10 50) (h6 : col6 A n) : Fit A n :=by
 have hn7 : n ≤ 7 :=by rcases h6 with h | h <;> omega
 have hst :=DH hv hs
 have hpv : ∀ i,i < n → 0 < gj A n i i i :=fun i hi => D7 hv hi
 have hzero : ∀ i,6 ≤ i → i < n → ∀ k,k < n → k ≠ i → gj A n i k i = 0 :=fun i h1 h2 k hk hne => by
  rcases h6 with h | ⟨rfl,h3,h4⟩
  · omega
  · have : i = 6 :=by omega
    subst this
    exact (sL h3 h4 6 (by omega)).1 k (by omega)
 have h76 : n = 7 → gj A n 7 = gj A n 6 :=fun e => by
  subst e
  exact B7 fun k hk hne => hzero 6 (by omega) (by omega) k hk hne
 have num : ∀ i k t,i ≤ n → k < n → t ≤ n → bt 743 (gj A n i k t).num ∧ bt 687 (gj A n i k t).den :=by
  intro i k t hi hk ht
  have low : ∀ i,i ≤ 6 → i ≤ n → bt 743 (gj A n i k t).num ∧ bt 687 (gj A n i k t).den :=fun i hi6 hin => by
   by_cases h5 : i ≤ 5
   · obtain ⟨b1,b2,b3,b4⟩ :=bts.1 i h5
     obtain ⟨c1,c2,_⟩ :=gJ (hst i hin) b4 hk ht
     exact ⟨bR c1 (by omega),bR c2 (by omega)⟩
   · have : i = 6 :=by omega
     subst this
     obtain ⟨c1,c2,_⟩ :=gJ (hst 6 hin) (by decide) hk ht
     exact ⟨bR c1 bts.2.2.2,bR c2 bts.2.1⟩
  by_cases h7 : i ≤ 6
  · exact low i h7 hi
  · have e1 : i = 7 :=by omega
    have e2 : n = 7 :=by omega
    rw [e1,h76 e2]
    exact low 6 (by omega) (by omega)
 have z0 : ∀ i k,i < n → 6 ≤ i → k < n → k ≠ i → gj A n i k i / gj A n i i i = 0 :=fun i k hi h6 hk hne => by
  rw [hzero i h6 hi k hk hne]; grind
 refine ⟨fun i hi => by have :=hpv i hi; grind,fun i k t hi hk ht => ?_,fun i k hi hk hne => ?_,fun i k t hi hk hne hit ht => ?_,fun i k t hi hk hne hit ht => ?_,fun k hk => ?_,fun k hk => ?_⟩
 · obtain ⟨c1,c2⟩ :=num i k t hi hk ht
   exact hI c1 c2 (by omega) (by omega)
 · by_cases h5 : i ≤ 5
   · obtain ⟨b1,b2,b3,b4⟩ :=bts.1 i h5
     obtain ⟨c1,c2,c3⟩ :=gJ (hst i (by omega)) b4 hk (Nat.le_of_lt hi)
     obtain ⟨d1,d2,d3⟩ :=gJ (hst i (by omega)) b4 hi (Nat.le_of_lt hi)
     exact i7 (c3 hi) c2 (d3 hi) d2 (by omega) (by omega)
   · rw [hzero i (by omega) hi k hk hne]
     obtain ⟨c1,c2⟩ :=num i i i (by omega) hi (by omega)
     exact i7 (k :=0) (m :=0) (mW _) sJ c1 c2 (by omega) (by omega)
 · by_cases h5 : i ≤ 5
   · obtain ⟨b1,b2,b3,b4⟩ :=bts.1 i h5
     obtain ⟨c1,c2,c3⟩ :=gJ (hst i (by omega)) b4 hi ht
     obtain ⟨f1,f2,_,_⟩ :=I0 (t :=t) (hst i (by omega)) b4 hi (hpv i hi) hk ht
     exact f0 f1 f2 c1 c2 (by omega) (by omega)
   · rw [z0 i k hi (by omega) hk hne]
     obtain ⟨c1,c2⟩ :=num i i t (by omega) hi ht
     exact f0 (k :=0) (m :=0) (mW _) sJ c1 c2 (by omega) (by omega)
 · by_cases h5 : i ≤ 5
   · obtain ⟨b1,b2,b3,b4⟩ :=bts.1 i h5
     obtain ⟨c1,c2,c3⟩ :=gJ (hst i (by omega)) b4 hk ht
     obtain ⟨_,_,f3,f4⟩ :=I0 (t :=t) (hst i (by omega)) b4 hi (hpv i hi) hk ht
     exact oD c1 c2 f3 f4 (by omega) (by omega) (by omega)
   · rw [z0 i k hi (by omega) hk hne]
     have : (0 : Rat) * gj A n i i t = 0 :=by grind
     rw [this]
     obtain ⟨c1,c2⟩ :=num i k t (by omega) hk ht
     exact oD (k' :=0) (m' :=0) c1 c2 (mW _) sJ (by omega) (by omega) (by omega)
 · obtain ⟨c1,c2⟩ :=num n k n (by omega) hk (by omega)
   rw [yV A n k n (by omega)]
   by_cases h5 : k ≤ 5
   · obtain ⟨b1,b2,b3,b4⟩ :=bts.1 k h5
     obtain ⟨d1,d2,d3⟩ :=gJ (hst k (by omega)) b4 hk (Nat.le_of_lt hk)
     exact i7 c1 c2 (d3 hk) d2 (by omega) (by omega)
   · have e2 : n = 7 :=by rcases h6 with h | h <;> omega
     subst e2
     have e1 : k = 6 :=by omega
     subst e1
     obtain ⟨_,h3,h4⟩ : 7 = 7 ∧ (∀ k,k < 6 → A k 6 = 0) ∧ (∀ t,t < 6 → A 6 t = 0) :=by
      rcases h6 with h | h
      · omega
      · exact h
     rw [yX h3 h4 6 6 (by omega)]
     obtain ⟨d1,d2,d3⟩ :=gJ hs (by decide) (k :=6) (t :=6) (by omega) (by omega)
     exact i7 c1 c2 (d3 (by omega)) d2 (by omega) (by omega)
 · have :=(o9 hv n (Nat.le_refl _)).dpos k hk hk
   grind
end Go.Proofs.YthibhamepjhfjaaGreatDoor

namespace Go.Ab
open Go.RowKit
def mapT (φ : Nat → Nat) (t : TagT) : TagT :=⟨t.t.map φ,t.w.map φ,t.e⟩
theorem xL (φ : Nat → Nat) {a b : TagT} (h : noMeetT (mapT φ a) (mapT φ b) = true) : noMeetT a b = true :=by
 unfold noMeetT mapT at *
 simp only [Bool.and_eq_true,List.all_eq_true,List.mem_map,forall_exists_index,and_imp,forall_apply_eq_imp_iff₂,Bool.not_eq_true',List.contains_eq_mem,decide_eq_false_iff_not] at h ⊢
 exact ⟨⟨h.1.1,fun x hx hm => h.1.2 x hx ⟨x,hm,rfl⟩⟩,fun x hx hm => h.2 x hx ⟨x,hm,rfl⟩⟩
theorem xM {ops : Array Oper} {ts : List TagT} (φ : Nat → Nat) (ts' : List TagT) (h : ts.map (mapT φ) = ts') (hd : drawOK ops (meetT ts') = true) : drawOK ops (meetT ts) = true :=by
 subst h
 have hg : ∀ i,(ts.map (mapT φ)).getD i default = mapT φ (ts.getD i default) :=by
  intro i
  rw [List.getD_eq_getElem?_getD,List.getD_eq_getElem?_getD,List.getElem?_map]
  cases ts[i]? <;> rfl
 unfold drawOK at *
 simp only [List.all_eq_true,Bool.and_eq_true,Bool.or_eq_true] at hd ⊢
 intro p hp
 refine ⟨(hd p hp).1,fun q hq => ?_⟩
 rcases (hd p hp).2 q hq with h1 | h1
 · exact .inl h1
 · refine .inr ⟨h1.1,?_⟩
   have h2 :=h1.2
   unfold meetT at *
   rw [hg,hg] at h2
   exact xL φ h2
def phi (a b x : Nat) : Nat :=if x < a then x else if x < b then a else a + 1 + (x - b)
theorem cF {ops : Array Oper} {ts : List TagT} (a b : Nat) (hd : drawOK ops (meetT (ts.map (mapT (phi a b)))) = true) : drawOK ops (meetT ts) = true :=xM (phi a b) _ rfl hd
theorem bT (a : Nat) : newIds a a = [] :=by unfold newIds; rw [Nat.sub_self]; rfl
theorem xN (a : Nat) : newIds a (a + 1) = [a] :=by unfold newIds; rw [Nat.add_sub_cancel_left]; rfl
theorem lB (n : Nat) : upN (List.range n) n = id :=by
 funext i
 unfold upN
 by_cases h : i < n
 · rw [if_pos (by simpa using h),List.getD_eq_getElem?_getD,List.getElem?_range h]; rfl
 · rw [if_neg (by simpa using h),List.length_range]
   show n + (i - n) = i
   omega
theorem DI (e : AV) : renB id e = e :=by cases e <;> rfl
theorem mY (l : List AV) : l.map (renB id) = l :=by rw [show renB id = id from funext DI,List.map_id]
theorem yY (e : AV) : ren id e = e :=by
 induction e using AV.zone.induct with
 | case4 f a b => simp only [ren,mY]
 | case5 g y ih => simp only [ren,ih]
 | case6 es => simp only [ren,mY]
 | case7 es => simp only [ren,mY]
 | case1 i => rfl
 | case2 a b c d => rfl
 | case3 a b c d => rfl
 | case8 e h1 h2 h3 h4 h5 h6 h7 =>
   cases e <;> first | rfl | exact (h1 _ rfl).elim | exact (h2 _ _ _ _ rfl).elim | exact (h3 _ _ _ _ rfl).elim | exact (h4 _ _ _ rfl).elim | exact (h5 _ _ rfl).elim | exact (h6 _ rfl).elim | exact (h7 _ rfl).elim
theorem DJ (e : AV) : renF id e = e :=by
 cases e with
 | agg cs => simp only [renF,mY]
 | _ => rfl
theorem oE (c : Cell) : renCell id c = c :=by
 cases c with
 | row o =>
   have : renEs id o.es = o.es :=by
    unfold renEs
    rw [show renF id = id from funext DJ,List.map_id]
    cases zoneEs o.es <;> rfl
   simp only [renCell,this]
 | _ => rfl
theorem kE : ∀ (H G : List Cell) (b : Nat),(∀ i c,H[i]? = some c → G[b + i]? = some c) → okCells id G ((List.range H.length).map (· + b)) H
 | [],G,b,_ => trivial
 | c :: H,G,b,h => by
   rw [List.length_cons,List.range_succ_eq_map,List.map_cons,List.map_map]
   refine ⟨by rw [oE]; simpa using h 0 c rfl,?_⟩
   have :=kE H G (b + 1) fun i d hi => by
    have :=h (i + 1) d (by simpa using hi)
    rw [← this]; congr 1; omega
   have e : List.map ((fun x => x + b) ∘ Nat.succ) (List.range H.length) = List.map (fun x => x + (b + 1)) (List.range H.length) :=List.map_congr_left fun x _ => by simp only [Function.comp_apply]; omega
   rw [e]; exact this
theorem qB (H : List Cell) : okCells id H (List.range H.length) H :=by
 have :=kE H H 0 fun i c h => by rw [Nat.zero_add]; exact h
 simpa using this
theorem lZ {m : Nat} : ∀ {al : List AV},(∀ e ∈ al,e.idLt m) → okArgs id m al al
 | [],_ => trivial
 | a :: al,h => ⟨⟨.inl (yY a).symm,h a (by simp)⟩,lZ fun e he => h e (List.mem_cons_of_mem _ he)⟩
theorem m5 {H : List Cell} {args : List AV} (ho : okRowIds H.length H) (ha : ∀ e ∈ args,e.idLt H.length) : CallHC H args (List.range H.length) H args :=by
 unfold CallHC
 rw [lB]
 exact ⟨List.nodup_range,fun c hc => by simpa using hc,qB H,ho,lZ ha⟩
theorem B8 (H H' : List Cell) (hl : H.length ≤ H'.length) : heapAfter H (List.range H.length) H' = H' :=by
 have hlen : (heapAfter H (List.range H.length) H').length = H'.length :=by rw [dH,List.length_range]; omega
 apply List.ext_getElem?
 intro i
 by_cases hi : i < H'.length
 · have h1 :=qP (Hc :=H) (ps :=List.range H.length) (H' :=H') List.nodup_range (fun c hc => by simpa using hc) (by simpa using hl) (List.getElem?_eq_getElem hi)
   rw [lB,oE] at h1
   rw [List.getElem?_eq_getElem hi]; exact h1
 · rw [List.getElem?_eq_none (by omega),List.getElem?_eq_none (by omega)]
theorem B9 {P : Program} {f : FuncId} {args : List AV} {b ok : Bool} {H : List Cell} {raw : List AV} {s : Bool} {k : Bool → AV → List Cell → Prop} {largs : List AV} {r : AV} {H' : List Cell} (h : MeansH P f H largs r H') (hr : raw = largs) (ho : okRowIds H.length H) (ha : ∀ e ∈ largs,e.idLt H.length) (hl : H.length ≤ H'.length) (hk : k true r H') : CallK P f args b ok H raw false s k :=by
 subst hr
 refine .inr (.inl ⟨rfl,List.range H.length,H,raw,r,H',h,m5 ho ha,?_⟩)
 rw [lB,yY,B8 H H' hl]; exact hk
theorem BB {P : Program} {f : FuncId} {args : List AV} {b ok : Bool} {c0 : Cell} {R : List Cell} {raw : List AV} {s : Bool} {k : Bool → AV → List Cell → Prop} {largs : List AV} {c0' : Cell} {o : Ob} (h : MeansX P f 1 (c0 :: R) largs (.ow 1) [c0',.row o]) (hr : raw = largs) (ho : okRowIds (R.length + 1) (c0 :: R)) (ha : ∀ e ∈ largs,e.idLt (R.length + 1)) (hz0 : renCell (upN [0] (R.length + 1)) c0' = c0') (hz : zoneEs o.es = true)
  (hk : ∀ D : List Cell,D.length = R.length → k true (.ow (R.length + 1)) (c0' :: (D ++ [.row o]))) : CallK P f args b ok (c0 :: R) raw false s k :=by
 subst hr
 have e0 : List.range (c0 :: R).length = [0] ++ (List.range R.length).map (· + 1) :=by rw [List.length_cons,List.range_succ_eq_map]; rfl
 have hc :=m5 (H :=c0 :: R) (args :=raw) ho ha
 rw [e0] at hc
 refine .inr (.inr (.inr (.inl ⟨rfl,[0],(List.range R.length).map (· + 1),c0 :: R,raw,.ow 1,[c0',.row o],h,hc,?_⟩)))
 have e1 : ren (upN [0] (c0 :: R).length) (.ow 1) = .ow (R.length + 1) :=by
  simp only [ren,upN,List.length_cons,List.length_nil]
  rw [if_neg (by omega)]
 have e2 : ∀ D : List Cell,D.length = R.length + 1 → ∃ D',D'.length = R.length ∧ heapAfter D [0] [c0',.row o] = c0' :: (D' ++ [.row o]) :=by
  intro D hD
  match D,hD with
  | d :: D',hD =>
    refine ⟨D',by simpa using hD,?_⟩
    simp only [heapAfter,setAll,List.map_cons,List.map_nil,List.length_cons,List.length_nil,List.drop_succ_cons,List.drop_zero,List.set_cons_zero,List.cons_append]
    have hD2 : D'.length + 1 = R.length + 1 :=by simpa using hD
    rw [hD2,hz0]
    have : renCell (upN [0] (R.length + 1)) (.row o) = .row o :=by simp only [renCell,renEs,hz,cond_true]
    rw [this]
 obtain ⟨D',h1,h2⟩ :=e2 (killH (c0 :: R) ((List.range R.length).map (· + 1))) (by rw [dI]; rfl)
 rw [e1,h2]
 exact hk D' h1
theorem c8 {X : Ctx} {a b c : St} (h1 : Sub X a b) (h2 : Sub X b c) : Sub X a c :=fun t w hr => h1 t w (h2 t w hr)
theorem m6 {l : List Nat} {q b n : Nat} (h1 : l.Nodup) (h2 : q ∉ l) (h3 : ∀ x ∈ l,x < b ∨ b + n ≤ x) (h4 : q < b ∨ b + n ≤ q) : (l ++ q :: (List.range n).map fun k => k + b).Nodup :=by
 rw [List.nodup_append]
 refine ⟨h1,?_,?_⟩
 · rw [List.nodup_cons]
   refine ⟨fun hm => ?_,?_⟩
   · obtain ⟨k,hk,e⟩ :=List.mem_map.1 hm
     have : k < n :=by simpa using hk
     omega
   · refine List.pairwise_map.2 (List.Pairwise.imp (fun {x y} (h : x ≠ y) (e : x + b = y + b) => h (by omega)) List.nodup_range)
 · intro a ha c hc e
   subst e
   rcases List.mem_cons.1 hc with rfl | hm
   · exact h2 ha
   · obtain ⟨k,hk,e⟩ :=List.mem_map.1 hm
     have : k < n :=by simpa using hk
     have :=h3 a ha
     omega
theorem G4 {H : List Cell} (HS0 : List Src) (q : Nat) (f : Nat → Nat) {E1 E2 k2 : Nat} (M : List (List AV))
  (hq : H[q]? = some (.row ⟨E1,1,(List.range M.length).map fun k => AV.ow (f k)⟩))
  (hf : ∀ j es,M[j]? = some es → H[f j]? = some (.row ⟨E2,k2,es⟩) ∧ zoneEs es = true)
  (h0 : okS0 (HS0 ++ .old q ⟨E1,1,outN (HS0.length + 1) M.length⟩ :: matS f E2 k2 0 M) H HS0)
  (hn : (HS0.filterMap Src.rid ++ q :: (List.range M.length).map f).Nodup) :
  okS (HS0 ++ .old q ⟨E1,1,outN (HS0.length + 1) M.length⟩ :: matS f E2 k2 0 M) H (HS0 ++ .old q ⟨E1,1,outN (HS0.length + 1) M.length⟩ :: matS f E2 k2 0 M) :=by
 refine lC (fun s hs => ?_) ?_
 · rcases List.mem_append.1 hs with hs | hs
   · exact oF h0 s hs
   · rcases List.mem_cons.1 hs with rfl | hs
     · show okR _ _ _ _
       rw [hq]
       refine ⟨⟨rfl,rfl⟩,.inr ?_⟩
       refine jX f (fun k => k + (HS0.length + 1)) _ fun j hj => ?_
       have hj' : j < M.length :=by simpa using hj
       refine ⟨⟨E2,k2,M[j]⟩,?_⟩
       rw [List.getElem?_append_right (by omega)]
       have : j + (HS0.length + 1) - HS0.length = j + 1 :=by omega
       rw [this,List.getElem?_cons_succ,i8,List.getElem?_eq_getElem hj',Nat.zero_add]; rfl
     · obtain ⟨j,hj,rfl⟩ :=List.getElem_of_mem hs
       rw [f5] at hj
       have hg : (matS f E2 k2 0 M)[j]? = some (.old (f j) ⟨E2,k2,M[j]⟩) :=by rw [i8,List.getElem?_eq_getElem hj,Nat.zero_add]; rfl
       have he : (matS f E2 k2 0 M)[j]'(by rw [f5]; exact hj) = .old (f j) ⟨E2,k2,M[j]⟩ :=by
        rw [List.getElem?_eq_getElem (by rw [f5]; exact hj)] at hg
        exact Option.some.inj hg
       rw [he]
       obtain ⟨h1,h2⟩ :=hf j M[j] (List.getElem?_eq_getElem hj)
       show okR _ _ _ _
       rw [h1]
       exact ⟨⟨rfl,rfl⟩,.inl ⟨rfl,h2⟩⟩
 · rw [List.filterMap_append,List.filterMap_cons]
   simp only [Src.rid]
   rw [oG]
   simpa using hn
theorem lD {X : Ctx} {env : Nat → AV} (L : List (Nat × AV)) (s0 s1 : Src) (a b : Cell) {E1 E2 k2 : Nat} (M : List (List AV)) (T : List Cell) (n : Nat) (hn : M.length = n) (hz : ∀ es ∈ M,zoneEs es = true)
  (h0 : okS0 (s0 :: s1 :: .old 2 ⟨E1,1,outN 3 n⟩ :: matS (fun k => k + 3) E2 k2 0 M) (a :: b :: .row ⟨E1,1,outN 3 n⟩ :: (matC E2 k2 M ++ T)) [s0,s1])
  (hd : ([s0,s1].filterMap Src.rid).Nodup) (hi : ∀ x ∈ [s0,s1].filterMap Src.rid,x < 2 ∨ n + 3 ≤ x)
  (hL : okL (s0 :: s1 :: .old 2 ⟨E1,1,outN 3 n⟩ :: matS (fun k => k + 3) E2 k2 0 M) ⟨env,a :: b :: .row ⟨E1,1,outN 3 n⟩ :: (matC E2 k2 M ++ T)⟩ L) :
  Sub X ⟨mkE L,s0.cell :: s1.cell :: .row ⟨E1,1,outN 3 n⟩ :: matC E2 k2 M⟩ ⟨env,a :: b :: .row ⟨E1,1,outN 3 n⟩ :: (matC E2 k2 M ++ T)⟩ :=by
 subst hn
 exact gK (st :=⟨env,a :: b :: .row ⟨E1,1,outN 3 M.length⟩ :: (matC E2 k2 M ++ T)⟩) L [s0,s1] 2 (fun k => k + 3) M rfl (fun j es h => ⟨by
   show (matC E2 k2 M ++ T)[j]? = _
   rw [List.getElem?_append_left (by rw [b9]; exact (List.getElem?_eq_some_iff.1 h).1)]
   exact bM h,hz es (List.mem_of_getElem? h)⟩) h0
  (m6 hd (fun h => by have :=hi _ h; omega) (fun x hx => by have :=hi x hx; omega) (by omega)) hL
theorem yZ {X : Ctx} {env : Nat → AV} (L : List (Nat × AV)) (s0 s1 : Src) (a b c : Cell) {E1 E2 k2 : Nat} (M : List (List AV)) (es : List AV) (c0 c1 : Cell) (n : Nat) (hn : M.length = n) (hz : ∀ es ∈ M,zoneEs es = true) (hz2 : zoneEs es = true)
  (h0 : okS0 (s0 :: s1 :: .old (n + 6) ⟨E1,1,outN 3 (n + 1)⟩ :: matS (fun k => if k < n then k + 3 else n + 4) E2 k2 0 (M ++ [es])) (a :: b :: c :: (matC E2 k2 M ++ [c0,.row ⟨E2,k2,es⟩,c1,.row ⟨E1,1,outN 3 n ++ [.ow (n + 4)]⟩])) [s0,s1])
  (hd : ([s0,s1].filterMap Src.rid).Nodup) (hi : ∀ x ∈ [s0,s1].filterMap Src.rid,x < 2)
  (hL : okL (s0 :: s1 :: .old (n + 6) ⟨E1,1,outN 3 (n + 1)⟩ :: matS (fun k => if k < n then k + 3 else n + 4) E2 k2 0 (M ++ [es])) ⟨env,a :: b :: c :: (matC E2 k2 M ++ [c0,.row ⟨E2,k2,es⟩,c1,.row ⟨E1,1,outN 3 n ++ [.ow (n + 4)]⟩])⟩ L) :
  Sub X ⟨mkE L,s0.cell :: s1.cell :: .row ⟨E1,1,outN 3 (n + 1)⟩ :: matC E2 k2 (M ++ [es])⟩ ⟨env,a :: b :: c :: (matC E2 k2 M ++ [c0,.row ⟨E2,k2,es⟩,c1,.row ⟨E1,1,outN 3 n ++ [.ow (n + 4)]⟩])⟩ :=by
 subst hn
 have hl : (M ++ [es]).length = M.length + 1 :=by simp
 have hr : (List.range (M.length + 1)).map (fun k => AV.ow (if k < M.length then k + 3 else M.length + 4)) = outN 3 M.length ++ [.ow (M.length + 4)] :=by
  rw [List.range_succ,List.map_append]
  congr 1
  · exact List.map_congr_left fun k hk => by
     have : k < M.length :=by simpa using hk
     rw [if_pos this]
  · simp
 have h :=gK (X :=X) (st :=⟨env,a :: b :: c :: (matC E2 k2 M ++ [c0,.row ⟨E2,k2,es⟩,c1,.row ⟨E1,1,outN 3 M.length ++ [.ow (M.length + 4)]⟩])⟩) (E1 :=E1) (E2 :=E2) (k2 :=k2) L [s0,s1] (M.length + 6) (fun k => if k < M.length then k + 3 else M.length + 4) (M ++ [es]) (by
   show (matC E2 k2 M ++ [c0,.row ⟨E2,k2,es⟩,c1,.row ⟨E1,1,outN 3 M.length ++ [.ow (M.length + 4)]⟩])[M.length + 3]? = _
   rw [List.getElem?_append_right (by rw [b9]; omega),b9,Nat.add_sub_cancel_left,hl,hr]
   rfl) (fun j es' hj => ?_) (by rw [hl]; exact h0) ?_ (by rw [hl]; exact hL)
 · rw [hl] at h; exact h
 · by_cases hjm : j < M.length
   · simp only [if_pos hjm]
     show (matC E2 k2 M ++ [c0,.row ⟨E2,k2,es⟩,c1,.row ⟨E1,1,outN 3 M.length ++ [.ow (M.length + 4)]⟩])[j]? = _ ∧ _
     rw [List.getElem?_append_left hjm] at hj
     rw [List.getElem?_append_left (by rw [b9]; exact hjm)]
     exact ⟨bM hj,hz es' (List.mem_of_getElem? hj)⟩
   · have hjl :=(List.getElem?_eq_some_iff.1 hj).1
     have : j = M.length :=by simp at hjl; omega
     subst this
     simp only [if_neg hjm]
     show (matC E2 k2 M ++ [c0,.row ⟨E2,k2,es⟩,c1,.row ⟨E1,1,outN 3 M.length ++ [.ow (M.length + 4)]⟩])[M.length + 1]? = _ ∧ _
     rw [List.getElem?_append_right (by omega),Nat.sub_self] at hj
     simp at hj
     subst hj
     rw [List.getElem?_append_right (by rw [b9]; omega),b9,Nat.add_sub_cancel_left]
     exact ⟨rfl,hz2⟩
 · rw [hl,List.nodup_append]
   refine ⟨hd,?_,?_⟩
   · rw [List.nodup_cons]
     refine ⟨fun hm => ?_,?_⟩
     · obtain ⟨k,hk,e⟩ :=List.mem_map.1 hm
       have : k < M.length + 1 :=by simpa using hk
       split at e <;> omega
     · refine List.pairwise_map.2 (List.Pairwise.imp_of_mem (fun {x y} hx hy (h : x ≠ y) e => ?_) List.nodup_range)
       have hx' : x < M.length + 1 :=by simpa using hx
       have hy' : y < M.length + 1 :=by simpa using hy
       split at e <;> split at e <;> omega
   · intro u hu v hv e
     subst e
     have :=hi u hu
     rcases List.mem_cons.1 hv with rfl | hm
     · omega
     · obtain ⟨k,hk,e⟩ :=List.mem_map.1 hm
       split at e <;> omega
attribute [go_sem] xN bT
end Go.Ab

namespace Go.Proofs.YthibhamepjhfjaaGreatDoor
open Go.RowKit Go.Ab
attribute [local irreducible] AWP Go.Ab.Sub Means MeansH MeansX CallK CallG CallT CallGT CallU
theorem oH {a b : Rat} (ha : rq a) (hb : rq b) (h : okMul a b) : MeansH Tryz.prog 32 [calC 0] [.el 0 1 0 0,frq a,frq b] (frq (a * b)) [calC 0] :=KM 0 (IU ha hb h)
theorem IV {a b : Rat} (ha : rq a) (hb : rq b) (h : okSub a b) : MeansH Tryz.prog 43 [calC 0] [.el 0 1 0 0,frq a,frq b] (frq (a - b)) [calC 0] :=I1 0 (DK ha hb h)
theorem DL {a b : Rat} (ha : rq a) (hb : rq b) (h0 : b ≠ 0) (h : okDiv a b) : MeansH Tryz.prog 69 [calC 0] [.el 0 1 0 0,frq a,frq b] (frq (a / b)) [calC 0] :=KN 0 (IW ha hb h0 h)
theorem z6 {p q : Int} (hp : -9223372036854775808 ≤ p ∧ p ≤ 9223372036854775807) (hq : -9223372036854775808 ≤ q ∧ q ≤ 9223372036854775807) (h0 : q ≠ 0) : MeansH Tryz.prog 33 [calC 0] [.el 0 1 0 0,ii p,ii q] (frq ((p : Rat) / (q : Rat))) [calC 0] :=KO 0 (KP p q hp hq h0)
def rowL (A : Mx) (n k : Nat) : List AV :=(List.range (n + 1)).map fun t => frq (A k t)
def mxL (A : Mx) (n : Nat) : List (List AV) :=(List.range n).map fun k => rowL A n k
theorem aW (A : Mx) (n k : Nat) : (rowL A n k).length = n + 1 :=by simp [rowL]
theorem aX (A : Mx) (n : Nat) : (mxL A n).length = n :=by simp [mxL]
theorem cD {A : Mx} {n k t : Nat} (h : t ≤ n) : nth (rowL A n k) t = frq (A k t) :=f6 (by
 have : t < n + 1 :=by omega
 simp [rowL,this])
theorem cL {A : Mx} {n k : Nat} (h : k < n) : (mxL A n)[k]? = some (rowL A n k) :=by simp [mxL,h]
theorem oI {A B : Mx} {n k : Nat} (h : ∀ t,t ≤ n → A k t = B k t) : rowL A n k = rowL B n k :=List.map_congr_left fun t ht => by rw [h t (by simp at ht; omega)]
theorem j4 {A B : Mx} {n : Nat} (h : ∀ k t,k < n → t ≤ n → A k t = B k t) : mxL A n = mxL B n :=List.map_congr_left fun k hk => oI fun t ht => h k t (by simpa using hk) ht
theorem lE (A : Mx) (n k : Nat) : zoneEs (rowL A n k) = true :=by
 unfold zoneEs rowL
 rw [List.all_eq_true]
 intro e he
 obtain ⟨t,_,rfl⟩ :=List.mem_map.1 he
 rfl
def updM (A : Mx) (k j : Nat) (x : Rat) : Mx :=fun k' t => if k' = k ∧ t = j then x else A k' t
theorem mZ {A : Mx} {n k j : Nat} (x : Rat) (hk : k < n) (hj : j ≤ n) : (mxL A n).set k ((rowL A n k).set j (frq x)) = mxL (updM A k j x) n :=by
 apply List.ext_getElem?
 intro q
 rw [List.getElem?_set]
 by_cases hq : k = q
 · subst hq
   rw [if_pos rfl,if_pos (by rw [aX]; exact hk),cL hk]
   congr 1
   apply List.ext_getElem?
   intro t
   rw [List.getElem?_set]
   by_cases ht : j = t
   · subst ht
     rw [if_pos rfl,if_pos (by rw [aW]; omega)]
     have : j < n + 1 :=by omega
     simp [rowL,updM,this]
   · rw [if_neg ht]
     unfold rowL
     rw [List.getElem?_map,List.getElem?_map]
     cases h : (List.range (n + 1))[t]? with
     | none => rfl
     | some y =>
       have : y = t :=by
        have :=List.getElem?_eq_some_iff.1 h
        simpa using this.2.symm
       subst this
       simp only [Option.map_some,updM]
       rw [if_neg (by omega)]
 · rw [if_neg hq]
   unfold mxL
   rw [List.getElem?_map,List.getElem?_map]
   cases h : (List.range n)[q]? with
   | none => rfl
   | some y =>
     have : y = q :=by
      have :=List.getElem?_eq_some_iff.1 h
      simpa using this.2.symm
     subst this
     simp only [Option.map_some]
     congr 1
     exact oI fun t _ => by unfold updM; rw [if_neg (by omega)]
def elimJ (A : Mx) (i k j : Nat) : Mx :=fun k' t => if (k' ≠ i ∧ k' < k ∧ i ≤ t) ∨ (k' = k ∧ i ≤ t ∧ t < j) then A k' t - A k' i / A i i * A i t else A k' t
theorem G5 (A : Mx) (i k : Nat) : elimJ A i k i = elimP A i k :=by
 funext k' t
 unfold elimJ elimP
 by_cases h : k' ≠ i ∧ k' < k ∧ i ≤ t
 · rw [if_pos (.inl h),if_pos h]
 · rw [if_neg (by omega),if_neg h]
theorem xO (A : Mx) (i k j : Nat) (hij : i ≤ j) : updM (elimJ A i k j) k j (A k j - A k i / A i i * A i j) = elimJ A i k (j + 1) :=by
 funext k' t
 unfold updM elimJ
 by_cases h : k' = k ∧ t = j
 · obtain ⟨rfl,rfl⟩ :=h
   rw [if_pos ⟨rfl,rfl⟩,if_pos (.inr ⟨rfl,hij,by omega⟩)]
 · rw [if_neg h]
   by_cases h2 : (k' ≠ i ∧ k' < k ∧ i ≤ t) ∨ (k' = k ∧ i ≤ t ∧ t < j)
   · rw [if_pos h2,if_pos (by omega)]
   · rw [if_neg h2,if_neg (by omega)]
theorem BC (A : Mx) (n i k : Nat) (hne : k ≠ i) : mxL (elimJ A i k (n + 1)) n = mxL (elimP A i (k + 1)) n :=j4 fun k' t hk ht => by
 unfold elimJ elimP
 by_cases h2 : (k' ≠ i ∧ k' < k ∧ i ≤ t) ∨ (k' = k ∧ i ≤ t ∧ t < n + 1)
 · rw [if_pos h2,if_pos (by omega)]
 · rw [if_neg h2,if_neg (by omega)]
theorem G6 {A : Mx} {i k j t : Nat} (h : j ≤ t) : elimJ A i k j k t = A k t :=if_neg (by omega)
theorem G7 {A : Mx} {i k j t : Nat} (h : k ≠ i) : elimJ A i k j i t = A i t :=if_neg (by omega)
theorem xP (A : Mx) (i : Nat) : elimP A i (i + 1) = elimP A i i :=by
 funext k' t
 unfold elimP
 by_cases h : k' ≠ i ∧ k' < i ∧ i ≤ t
 · rw [if_pos h,if_pos (by omega)]
 · rw [if_neg h,if_neg (by omega)]
theorem G8 {A : Mx} {i k t : Nat} : elimP A i k k t = A k t :=if_neg (by omega)
theorem G9 (A : Mx) (i : Nat) : elimP A i 0 = A :=by
 funext k' t
 exact if_neg (by omega)
abbrev mxC (A : Mx) (n : Nat) : List Cell :=matC 41 4 (mxL A n)
abbrev outC (b n : Nat) : Cell :=.row ⟨24,1,outN b n⟩
theorem d7 {A : Mx} {n j : Nat} {es : List AV} (h : (mxL A n)[j]? = some es) : zoneEs es = true :=by
 obtain ⟨h1,rfl⟩ :=List.getElem?_eq_some_iff.1 h
 have : (mxL A n)[j] = rowL A n j :=by
  have h2 :=cL (A :=A) (n :=n) (k :=j) (by rw [aX] at h1; exact h1)
  rw [List.getElem?_eq_getElem h1] at h2
  exact Option.some.inj h2
 rw [this]; exact lE _ _ _
theorem iA {l : List Nat} {q b n : Nat} (h1 : l.Nodup) (h2 : q ∉ l) (h3 : ∀ x ∈ l,x < b ∨ b + n ≤ x) (h4 : q < b ∨ b + n ≤ q) : (l ++ q :: (List.range n).map fun k => k + b).Nodup :=by
 rw [List.nodup_append]
 refine ⟨h1,?_,?_⟩
 · rw [List.nodup_cons]
   refine ⟨fun hm => ?_,?_⟩
   · obtain ⟨k,hk,e⟩ :=List.mem_map.1 hm
     have : k < n :=by simpa using hk
     omega
   · refine List.pairwise_map.2 (List.Pairwise.imp (fun {x y} (h : x ≠ y) (e : x + b = y + b) => h (by omega)) List.nodup_range)
 · intro a ha c hc e
   subst e
   rcases List.mem_cons.1 hc with rfl | hm
   · exact h2 ha
   · obtain ⟨k,hk,e⟩ :=List.mem_map.1 hm
     have : k < n :=by simpa using hk
     have :=h3 a ha
     omega
theorem GA {X : Ctx} {env : Nat → AV} (L : List (Nat × AV)) (c1 : Cell) (B : Mx) (n : Nat)
  (hL : okL ([.old 0 ⟨56,1,[.agg [ii 0]]⟩,.gone 0] ++ .old 2 ⟨24,1,outN 3 n⟩ :: matS (fun k => k + 3) 41 4 0 (mxL B n)) ⟨env,calC 0 :: c1 :: outC 3 n :: mxC B n⟩ L) :
  Go.Ab.Sub X ⟨mkE L,calC 0 :: .dead :: outC 3 n :: mxC B n⟩ ⟨env,calC 0 :: c1 :: outC 3 n :: mxC B n⟩ :=by
 have :=gK (X :=X) (st :=⟨env,calC 0 :: c1 :: outC 3 n :: mxC B n⟩) L [.old 0 ⟨56,1,[.agg [ii 0]]⟩,.gone 0] 2 (fun k => k + 3) (E1 :=24) (E2 :=41) (k2 :=4) (mxL B n) (by simp [outN,aX]) (fun j es h => ⟨bM h,d7 h⟩) (by simp [okS0,okS1,go_sem]) (iA (by simp [Src.rid,List.filterMap_cons]) (by simp [Src.rid,List.filterMap_cons]) (by simp [Src.rid,List.filterMap_cons]) (by simp)) (by simpa only [aX,List.length_cons,List.length_nil] using hL)
 simpa only [aX,List.length_cons,List.length_nil,List.map_cons,List.map_nil,Src.cell,List.cons_append,List.nil_append] using this
set_option maxHeartbeats 8000000 in
set_option maxRecDepth 20000 in
theorem IX (A : Mx) (n : Nat) (hn : n ≤ 1000) (hF : Fit A n) : MeansX Tryz.prog 30 1 (calC 0 :: outC 2 n :: mxC A n) [.el 0 1 0 0,.ow 1] (.ow 1) [calC 0,.row ⟨41,4,(List.range n).map fun k => frq (solx A n k)⟩] :=by
 refine BD 1 99 [.tmp 4] Tryz.func30 rfl rfl rfl (by simp) (by decide) (by simp) fun X hX => ?_
 refine eO (gK [(0,.el 0 1 0 0),(1,.ow 2),(1000000,.ow 0)] [.old 0 ⟨56,1,[.agg [ii 0]]⟩,.gone 0] 1 (fun k => k + 2) (E1 :=24) (E2 :=41) (k2 :=4) (mxL A n) (by simp [outN,aX]) (fun j es h => ⟨bM h,d7 h⟩) (by simp [okS0,okS1,go_sem]) (iA (by simp [Src.rid,List.filterMap_cons]) (by simp [Src.rid,List.filterMap_cons]) (by simp [Src.rid,List.filterMap_cons]) (by simp)) (by simp [go_sem])) ?_
 simp only [aX,List.length_cons,List.length_nil,List.map_cons,List.map_nil,Src.cell,List.cons_append,List.nil_append]
 (repeat (refine aD q10x0 hX mixed rfl ?_;simp [go_sem];try refine ⟨by kernel_rfl,?_⟩))
 simp only [b7]
 refine aH (fun i : Nat => ⟨mkE [(0,.el 0 1 0 0),(1,.ow 2),(5,ii n),(14,ii n),(15,ii i),(1000000,.ow 0)],calC 0 :: .dead :: outC 3 n :: mxC (gj A n i) n⟩) (fun i => i ≤ n) (fun i => n - i) 0 ?_ ?_ ?_
 · exact bJ _ _ rfl (by simp [go_sem])
 · omega
 · intro i hi
   (repeat (refine aD q10x0 hX mixed rfl ?_;simp [go_sem];try refine ⟨by kernel_rfl,?_⟩))
   refine aB (b :=decide (i < n)) (by simp [go_sem]) (fun hb => ?_) (fun hb => ?_)
   · simp at hb
     have wi :=w64 (x :=(i : Int) + 1) (by omega) (by omega)
     (repeat (refine aD q10x0 hX mixed rfl ?_;simp [go_sem];try refine ⟨by kernel_rfl,?_⟩))
     refine aH (fun k : Nat => ⟨mkE [(0,.el 0 1 0 0),(1,.ow 2),(5,ii n),(6,ii i),(14,ii n),(15,ii i),(18,ii n),(19,ii k),(1000000,.ow 0)],calC 0 :: .dead :: outC 3 n :: mxC (elimP (gj A n i) i k) n⟩) (fun k => k ≤ n) (fun k => n - k) 0 ?_ ?_ ?_
     · exact bJ _ _ (by rw [G9]) (by simp [go_sem])
     · omega
     · intro k hk
       (repeat (refine aD q10x0 hX mixed rfl ?_;simp [go_sem];try refine ⟨by kernel_rfl,?_⟩))
       refine aB (b :=decide (k < n)) (by simp [go_sem]) (fun hc => ?_) (fun hc => ?_)
       · simp at hc
         have wk :=w64 (x :=(k : Int) + 1) (by omega) (by omega)
         (repeat (refine aD q10x0 hX mixed rfl ?_;simp [go_sem];try refine ⟨by kernel_rfl,?_⟩))
         refine aB (b :=decide (k = i)) (by simp [go_sem]; try omega) (fun hd => ?_) (fun hd => ?_)
         · simp only [decide_eq_true_eq] at hd
           (repeat (refine aD q10x0 hX mixed rfl ?_;simp [go_sem,wk];try refine ⟨by kernel_rfl,?_⟩))
           refine ⟨k + 1,by omega,by omega,bJ _ _ (by rw [hd,xP]) (by simp [go_sem])⟩
         · simp only [decide_eq_false_iff_not] at hd
           have hF1 :=hF.div i k hb hc hd
           have hp :=hF.piv i hb
           have e1 :=hF.ent i k i hi hc hi
           have e2 :=hF.ent i i i hi hb hi
           have q1 :=fX (b :=3) hc
           have q2 :=fX (b :=3) hb
           have g1 :=bM (E :=41) (k :=4) (cL (A :=elimP (gj A n i) i k) hc)
           have g2 :=bM (E :=41) (k :=4) (cL (A :=elimP (gj A n i) i k) hb)
           have r1 :=cD (A :=elimP (gj A n i) i k) (k :=k) hi
           have r2 :=cD (A :=elimP (gj A n i) i k) (k :=i) hi
           rw [G8] at r1
           rw [eF] at r2
           have c1 :=DL e1 e2 hp hF1
           have hin : i < n + 1 :=by omega
           have hBl : (mxC (elimP (gj A n i) i k) n).length = n :=by rw [b9,aX]
           (repeat (refine aD q10x0 hX mixed rfl ?_;simp [go_sem,q1,q2,g1,g2,hb,hc,r1,r2,b7,aW,hin];try refine ⟨by kernel_rfl,?_⟩))
           (repeat refine And.intro (by first | omega | (unfold maxLen;omega) | kernel_rfl | (constructor <;> first | omega | (unfold maxLen;omega)) | grind) ?_)
           first | refine aL [0] (c1) (by simp [go_sem]) ?_ | refine aJ [0] (c1) (by simp [go_sem]) ?_ | refine aI [0] (c1) (by simp [go_sem]) ?_
           (simp [go_sem])
           refine ⟨cF 3 (n + 3) (by rw [hBl]; simp [mapT,phi,bT,hb,hc]; kernel_rfl),?_⟩
           have hfb : ∀ x : Cell,(mxC (elimP (gj A n i) i k) n ++ [x])[n]? = some x :=fun x => by rw [List.getElem?_append_right (by omega),hBl,Nat.sub_self]; rfl
           refine eO (gK [(0,.el 0 1 0 0),(1,.ow 2),(5,ii n),(6,ii i),(7,ii k),(8,.el 1 4 0 0),(14,ii n),(15,ii i),(18,ii n),(19,ii k),(1000000,.ow 0)] [.old 0 ⟨56,1,[.agg [ii 0]]⟩,.old (n + 3) ⟨41,4,[frq (gj A n i k i / gj A n i i i)]⟩] 2 (fun k => k + 3) (E1 :=24) (E2 :=41) (k2 :=4) (mxL (elimP (gj A n i) i k) n) (by simp [outN,aX]) (fun j es h => ⟨?_,d7 h⟩) (by simp [go_sem,hfb]) (iA (by simp [Src.rid,List.filterMap_cons]) (by simp [Src.rid,List.filterMap_cons]) (by simp [Src.rid,List.filterMap_cons,aX]; try omega) (by simp)) (by simp [go_sem,hBl])) ?_
           · show (mxC (elimP (gj A n i) i k) n ++ _)[j]? = _
             rw [List.getElem?_append_left (by have :=(List.getElem?_eq_some_iff.1 h).1; rw [aX] at this; omega)]
             exact bM h
           simp only [aX,List.length_cons,List.length_nil,List.map_cons,List.map_nil,Src.cell,List.cons_append,List.nil_append]
           clear hBl hfb r1 r2 g1 g2
           obtain ⟨f,hf⟩ : ∃ f,gj A n i k i / gj A n i i i = f :=⟨_,rfl⟩
           have hfq : rq f :=by rw [← hf]; exact xQ hp hF1
           have hFm :=fun t h1 h2 => hF.mul i k t hb hc hd h1 h2
           have hFs :=fun t h1 h2 => hF.sub i k t hb hc hd h1 h2
           have hstep :=xO (gj A n i) i k
           rw [hf] at hFm hFs hstep ⊢
           rw [← G5 (gj A n i) i k]
           (repeat (refine aD q10x0 hX mixed rfl ?_;simp [go_sem];try refine ⟨by kernel_rfl,?_⟩))
           refine aH (fun j : Nat => ⟨mkE [(0,.el 0 1 0 0),(1,.ow 2),(5,ii n),(6,ii i),(7,ii k),(8,.el 1 4 0 0),(9,ii j),(14,ii n),(15,ii i),(18,ii n),(19,ii k),(1000000,.ow 0)],calC 0 :: .row ⟨41,4,[frq f]⟩ :: outC 3 n :: mxC (elimJ (gj A n i) i k j) n⟩) (fun j => i ≤ j ∧ j ≤ n + 1) (fun j => n + 1 - j) i ?_ ?_ ?_
           · exact bJ _ _ rfl (by simp [go_sem])
           · omega
           · rintro j ⟨hij,hj⟩
             have wj :=w64 (x :=(j : Int) + 1) (by omega) (by omega)
             (repeat (refine aD q10x0 hX mixed rfl ?_;simp [go_sem];try refine ⟨by kernel_rfl,?_⟩))
             refine aB (b :=decide (j ≤ n)) (by simp [go_sem]) (fun he => ?_) (fun he => ?_)
             · simp only [decide_eq_true_eq] at he
               have g1 :=bM (E :=41) (k :=4) (cL (A :=elimJ (gj A n i) i k j) hc)
               have g2 :=bM (E :=41) (k :=4) (cL (A :=elimJ (gj A n i) i k j) hb)
               have r1 :=cD (A :=elimJ (gj A n i) i k j) (k :=k) he
               have r2 :=cD (A :=elimJ (gj A n i) i k j) (k :=i) he
               rw [G6 (Nat.le_refl _)] at r1
               rw [G7 hd] at r2
               have x1 :=hF.ent i k j hi hc he
               have x2 :=hF.ent i i j hi hb he
               have c2 :=oH hfq x2 (hFm j hij he)
               have c3 :=IV x1 (oJ (hFm j hij he)) (hFs j hij he)
               have hjn : j < n + 1 :=by omega
               have hBl : (mxC (elimJ (gj A n i) i k j) n).length = n :=by rw [b9,aX]
               have hset :=mZ (A :=elimJ (gj A n i) i k j) (n :=n) (gj A n i k j - f * gj A n i i j) hc he
               rw [hstep j hij] at hset
               (repeat (refine aD q10x0 hX mixed rfl ?_;simp [go_sem,q1,q2,g1,g2,hb,hc,r1,r2,b7,aW,hjn];try refine ⟨by kernel_rfl,?_⟩))
               (repeat refine And.intro (by first | omega | (unfold maxLen;omega) | kernel_rfl | (constructor <;> first | omega | (unfold maxLen;omega)) | grind) ?_)
               first | refine aL [0] (c2) (by simp [go_sem]) ?_ | refine aJ [0] (c2) (by simp [go_sem]) ?_ | refine aI [0] (c2) (by simp [go_sem]) ?_
               (simp [go_sem,q1,q2,g1,g2,hb,hc,r1,r2,b7,aW,hjn])
               (repeat refine And.intro (by first | omega | (unfold maxLen;omega) | kernel_rfl | (constructor <;> first | omega | (unfold maxLen;omega)) | grind) ?_)
               first | refine aL [0] (c3) (by simp [go_sem]) ?_ | refine aJ [0] (c3) (by simp [go_sem]) ?_ | refine aI [0] (c3) (by simp [go_sem]) ?_
               (simp [go_sem,q1,q2,g1,g2,hb,hc,r1,r2,b7,aW,hjn])
               (repeat refine And.intro (by first | omega | (unfold maxLen; omega) | (refine ⟨by omega,by omega⟩)) ?_)
               refine ⟨cF 3 (n + 3) (by simp [mapT,phi,bT,hb,hc,hBl]; kernel_rfl),?_⟩
               (repeat (refine aD q10x0 hX mixed rfl ?_;simp [go_sem,wj];try refine ⟨by kernel_rfl,?_⟩))
               refine ⟨j + 1,⟨by omega,by omega⟩,by omega,?_⟩
               exact bJ _ _ (by dsimp only [mxC]; rw [← hset,← kF]) (by simp [go_sem])
             · simp only [decide_eq_false_iff_not] at he
               have hjn : j = n + 1 :=by omega
               subst hjn
               (repeat (refine aD q10x0 hX mixed rfl ?_;simp [go_sem,wk];try refine ⟨by kernel_rfl,?_⟩))
               refine ⟨k + 1,by omega,by omega,?_⟩
               rw [mxC,← BC (gj A n i) n i k hd]
               exact GA _ _ _ _ (by simp [go_sem])
       · simp only [decide_eq_false_iff_not] at hc
         have hkn : k = n :=by omega
         subst hkn
         (repeat (refine aD q10x0 hX mixed rfl ?_;simp [go_sem,wi];try refine ⟨by kernel_rfl,?_⟩))
         exact ⟨i + 1,by omega,by omega,bJ _ _ rfl (by simp [go_sem])⟩
   · simp only [decide_eq_false_iff_not] at hb
     have hin : i = n :=by omega
     subst hin
     (repeat (refine aD q10x0 hX mixed rfl ?_;simp [go_sem];try refine ⟨by kernel_rfl,?_⟩))
     refine aH (fun k : Nat => ⟨mkE [(0,.el 0 1 0 0),(1,.ow 2),(5,ii i),(10,.ow 1),(74,ii i),(75,ii k),(1000000,.ow 0)],calC 0 :: .row ⟨41,4,(List.range k).map fun k => frq (solx A i k)⟩ :: outC 3 i :: mxC (gj A i i) i⟩) (fun k => k ≤ i) (fun k => i - k) 0 ?_ ?_ ?_
     · have :=gK (X :=X) (st :=⟨mkE [(0,AV.el 0 1 0 0),(1,AV.ow 2),(5,ii i),(10,.nil),(74,ii i),(75,ii 0),(1000000,AV.ow 0)],calC 0 :: .dead :: outC 3 i :: mxC (gj A i i) i⟩) [(0,.el 0 1 0 0),(1,.ow 2),(5,ii i),(10,.ow 1),(74,ii i),(75,ii 0),(1000000,.ow 0)] [.old 0 ⟨56,1,[.agg [ii 0]]⟩,.birth 41 4] 2 (fun k => k + 3) (E1 :=24) (E2 :=41) (k2 :=4) (mxL (gj A i i) i) (by simp [outN,aX]) (fun j es h => ⟨bM h,d7 h⟩) (by simp [okS0,okS1,go_sem]) (iA (by simp [Src.rid,List.filterMap_cons]) (by simp [Src.rid,List.filterMap_cons]) (by simp [Src.rid,List.filterMap_cons]) (by simp)) (by simp [go_sem])
       simp only [aX,List.length_cons,List.length_nil,List.map_cons,List.map_nil,Src.cell,List.cons_append,List.nil_append] at this
       exact c8 this (bJ _ _ rfl (by simp [go_sem]))
     · omega
     · intro k hk
       (repeat (refine aD q10x0 hX mixed rfl ?_;simp [go_sem];try refine ⟨by kernel_rfl,?_⟩))
       refine aB (b :=decide (k < i)) (by simp [go_sem]) (fun hc => ?_) (fun hc => ?_)
       · simp only [decide_eq_true_eq] at hc
         have q1 :=fX (b :=3) hc
         have g1 :=bM (E :=41) (k :=4) (cL (A :=gj A i i) hc)
         have r1 :=cD (A :=gj A i i) (k :=k) (Nat.le_refl i)
         have r2 :=cD (A :=gj A i i) (k :=k) (Nat.le_of_lt hc)
         have e1 :=hF.ent i k i (Nat.le_refl _) hc (Nat.le_refl _)
         have e2 :=hF.ent i k k (Nat.le_refl _) hc (Nat.le_of_lt hc)
         have c1 :=DL e1 e2 (hF.dpos k hc) (hF.fin k hc)
         have hki : k < i + 1 :=by omega
         have hBl : (mxC (gj A i i) i).length = i :=by rw [b9,aX]
         have wk :=w64 (x :=(k : Int) + 1) (by omega) (by omega)
         (repeat (refine aD q10x0 hX mixed rfl ?_;simp [go_sem,q1,g1,hc,r1,r2,b7,aW,hki];try refine ⟨by kernel_rfl,?_⟩))
         (repeat refine And.intro (by first | omega | (unfold maxLen;omega) | kernel_rfl | (constructor <;> first | omega | (unfold maxLen;omega)) | grind) ?_)
         first | refine aL [0] (c1) (by simp [go_sem]) ?_ | refine aJ [0] (c1) (by simp [go_sem]) ?_ | refine aI [0] (c1) (by simp [go_sem]) ?_
         (simp [go_sem,q1,g1,hc,r1,r2,b7,aW,hki])
         (repeat refine And.intro (by first | omega | (unfold maxLen; omega) | (refine ⟨by omega,by omega⟩)) ?_)
         refine ⟨cF 3 (i + 3) (by simp [mapT,phi,bT,hc,hBl]; kernel_rfl),?_⟩
         (repeat (refine aD q10x0 hX mixed rfl ?_;simp [go_sem,wk];try refine ⟨by kernel_rfl,?_⟩))
         refine ⟨k + 1,by omega,by omega,?_⟩
         have hfb : ∀ x y : Cell,(mxC (gj A i i) i ++ [x,y])[i + 1]? = some y :=fun x y => by
          rw [List.getElem?_append_right (by omega),hBl,Nat.add_sub_cancel_left]; rfl
         have hsn : (List.range (k + 1)).map (fun k => frq (solx A i k)) = (List.range k).map (fun k => frq (solx A i k)) ++ [frq (solx A i k)] :=by rw [List.range_succ,List.map_append]; rfl
         have hsx : solx A i k = gj A i i k i / gj A i i k k :=rfl
         rw [hsn,hsx]
         refine c8 ?_ (bJ [(0,.el 0 1 0 0),(1,.ow 2),(5,ii i),(10,.ow (i + 4)),(74,ii i),(75,ii ((k + 1 : Nat) : Int)),(1000000,.ow 0)] _ rfl (by simp [go_sem,hBl]))
         have :=gK (X :=X) (st :=⟨mkE [(0,.el 0 1 0 0),(1,.ow 2),(5,ii i),(10,.ow (i + 4)),(74,ii i),(75,ii ((k + 1 : Nat) : Int)),(1000000,.ow 0)],calC 0 :: .dead :: outC 3 i :: (mxC (gj A i i) i ++ [.row ⟨41,4,[frq (gj A i i k i / gj A i i k k)]⟩,.row ⟨41,4,(List.range k).map (fun k => frq (solx A i k)) ++ [frq (gj A i i k i / gj A i i k k)]⟩])⟩) [(0,.el 0 1 0 0),(1,.ow 2),(5,ii i),(10,.ow 1),(74,ii i),(75,ii ((k + 1 : Nat) : Int)),(1000000,.ow 0)] [.old 0 ⟨56,1,[.agg [ii 0]]⟩,.old (i + 4) ⟨41,4,(List.range k).map (fun k => frq (solx A i k)) ++ [frq (gj A i i k i / gj A i i k k)]⟩] 2 (fun k => k + 3) (E1 :=24) (E2 :=41) (k2 :=4) (mxL (gj A i i) i) (by simp [outN,aX]) (fun j es h => ⟨by
          show (mxC (gj A i i) i ++ _)[j]? = _
          rw [List.getElem?_append_left (by have :=(List.getElem?_eq_some_iff.1 h).1; rw [aX] at this; omega)]
          exact bM h,d7 h⟩) (by simp [go_sem,hfb]) (iA (by simp [Src.rid,List.filterMap_cons]) (by simp [Src.rid,List.filterMap_cons]) (by simp [Src.rid,List.filterMap_cons,aX]; try omega) (by simp)) (by simp [go_sem])
         simpa only [aX,List.length_cons,List.length_nil,List.map_cons,List.map_nil,Src.cell,List.cons_append,List.nil_append] using this
       · simp only [decide_eq_false_iff_not] at hc
         have hki : k = i :=by omega
         subst hki
         (repeat (refine aD q10x0 hX mixed rfl ?_;simp [go_sem];try refine ⟨by kernel_rfl,?_⟩))
         refine bN ?_; (try simp only [thenQ,blkQ,loopQ]); refine bO [(4,.ow 1),(1000000,.ow 0)] [.old 0 ⟨56,1,[.agg [ii 0]]⟩,.old 1 ⟨41,4,(List.range k).map fun q => frq (solx A k q)⟩] ?_
         simp [go_sem]
end Go.Proofs.YthibhamepjhfjaaGreatDoor

