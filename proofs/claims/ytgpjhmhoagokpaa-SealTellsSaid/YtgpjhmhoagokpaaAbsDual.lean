/-
  A region that draws its order, where an allocation and a call over rows stand unordered: whichever comes first, the ends are named apart and meet in one state.
-/
import Derived.Test.YtgpjhmhoagokpaaAbsSimp
set_option linter.all false
namespace Go.Ab
open Go.RowKit

section
variable {P : Program}

theorem filt_at {i : Nat} : ∀ {A B : List Nat}, (A ++ i :: B).Pairwise (· < ·) → (A ++ i :: B).filter (· != i) = A ++ B := by
  intro A B hL
  have h1 : ∀ a ∈ A, a ≠ i := fun a ha => by have := (List.pairwise_append.1 hL).2.2 a ha i (by simp); omega
  have h2 : ∀ b ∈ B, b ≠ i := fun b hb => by have := (List.pairwise_cons.1 (List.pairwise_append.1 hL).2.1).1 b hb; omega
  rw [List.filter_append, List.filter_cons, List.filter_eq_self.2 (fun a ha => by simpa using h1 a ha), List.filter_eq_self.2 (fun b hb => by simpa using h2 b hb)]
  simp

theorem left_mem {ops : Array Oper} {listed : Array Bool} {i : Nat} (hi : i ∈ leftL ops listed) : ops[i]? = some (ops.getD i default) ∧ listed.getD i true = false ∧ i < ops.size := by
  simp only [leftL, List.mem_filter, List.mem_range, Bool.not_eq_true'] at hi
  exact ⟨by rw [Array.getD_eq_getD_getElem?, Array.getElem?_eq_getElem hi.1]; rfl, hi.2, hi.1⟩

/-- Something is ready. -/
theorem ready_ne {ops : Array Oper} {listed : Array Bool} (hs : listed.size = ops.size) (hback : ∀ j oj, ops[j]? = some oj → ∀ e ∈ oj.after, Region.binds .any e = true → e.on < j) (hL : leftL ops listed ≠ []) : Region.ready .any ops listed ≠ [] := by
  intro h0
  cases hL' : leftL ops listed with
  | nil => exact hL hL'
  | cons k L =>
    have hk : k ∈ leftL ops listed := by rw [hL']; simp
    have : k ∈ Region.ready .any ops listed := by
      refine ready_iff.2 ⟨hk, fun o ho e he hbn => ?_⟩
      have hlt := hback k o ho e he hbn
      have hkk : k < ops.size := (Array.getElem?_eq_some_iff.1 ho).1
      cases hg : listed.getD e.on false with
      | true => rfl
      | false =>
        exfalso
        have hsz : e.on < listed.size := by omega
        have hmem : e.on ∈ leftL ops listed := by
          simp only [leftL, List.mem_filter, List.mem_range, Bool.not_eq_true']
          refine ⟨by omega, ?_⟩
          rw [Array.getD_eq_getD_getElem?, Array.getElem?_eq_getElem hsz] at hg ⊢
          exact hg
        have hsort := left_sorted ops listed
        rw [hL'] at hsort hmem
        rcases List.mem_cons.1 hmem with h | h
        · omega
        · have := (List.pairwise_cons.1 hsort).1 _ h; omega
    rw [h0] at this; cases this

theorem closed_set {ops : Array Oper} {listed : Array Bool} {i : Nat} (hil : i < listed.size)
    (hip : ∀ o, ops[i]? = some o → ∀ e ∈ o.after, Region.binds .any e = true → listed.getD e.on false = true)
    (hcl : ∀ j o, ops[j]? = some o → listed.getD j false = true → ∀ e ∈ o.after, Region.binds .any e = true → listed.getD e.on false = true) :
    ∀ j o, ops[j]? = some o → (listed.setIfInBounds i true).getD j false = true → ∀ e ∈ o.after, Region.binds .any e = true → (listed.setIfInBounds i true).getD e.on false = true := by
  intro j o hj hlj e he hbn
  have hset : ∀ q, listed.getD q false = true → (listed.setIfInBounds i true).getD q false = true := fun q hq => by
    by_cases hqi : q = i
    · subst hqi
      rw [Array.getD_eq_getD_getElem?, Array.getElem?_setIfInBounds_self_of_lt hil]; rfl
    · rw [Array.getD_eq_getD_getElem?, Array.getElem?_setIfInBounds_ne (by omega), ← Array.getD_eq_getD_getElem?]; exact hq
  by_cases hji : j = i
  · subst hji
    exact hset _ (hip o hj e he hbn)
  · rw [Array.getD_eq_getD_getElem?, Array.getElem?_setIfInBounds_ne (by omega), ← Array.getD_eq_getD_getElem?] at hlj
    exact hset _ (hcl j o hj hlj e he hbn)
theorem set_true {listed : Array Bool} {i q : Nat} (h : listed.getD q true = true) : (listed.setIfInBounds i true).getD q true = true := by
  by_cases hqi : q = i
  · subst hqi
    rw [Array.getD_eq_getD_getElem?, Array.getElem?_setIfInBounds_self]; split <;> rfl
  · rw [Array.getD_eq_getD_getElem?, Array.getElem?_setIfInBounds_ne (by omega), ← Array.getD_eq_getD_getElem?]; exact h
theorem set_self {listed : Array Bool} {i : Nat} : (listed.setIfInBounds i true).getD i true = true := by
  rw [Array.getD_eq_getD_getElem?, Array.getElem?_setIfInBounds_self]; split <;> rfl
theorem reach_no {ops : Array Oper} {listed : Array Bool} {i k : Nat} (hcl : ∀ j o, ops[j]? = some o → listed.getD j false = true → ∀ e ∈ o.after, Region.binds .any e = true → listed.getD e.on false = true)
    (hip : ∀ o, ops[i]? = some o → ∀ e ∈ o.after, Region.binds .any e = true → listed.getD e.on false = true) (hs : listed.size = ops.size) (hk : k ∈ leftL ops listed) (h : Reach ops k i) : False := by
  have := reach_listed hcl h hip
  obtain ⟨_, hlk, hk2⟩ := left_mem hk
  rw [Array.getD_eq_getD_getElem?, Array.getElem?_eq_getElem (by omega)] at this hlk
  simp at this hlk
  rw [hlk] at this; cases this

/-- One operation, and on. -/
theorem pick_one {X : Ctx} {ops : Array Oper} {L0 : Nat} {Q : Exit → Act → World → Prop} {i fuel : Nat} {t : TagT} {listed : Array Bool} {st st1 : St} {a : Act} {w : World} (hoi : ops[i]? = some (ops.getD i default))
    (h1 : StepT P ops X.n L0 (ops.getD i default) t st st1) (hL0 : L0 ≤ st.heap.length) (hR : R X st a w) (hk : ∀ a' w', R X st1 a' w' → wpAny P .any ops Q fuel (listed.setIfInBounds i true) a' w') :
    wpOp P ops Q i (wpAny P .any ops Q fuel (listed.setIfInBounds i true)) a w := by
  unfold wpOp
  rw [hoi]
  simp only []
  have hstep := stepT_ok (Q := Q) (K := wpAny P .any ops Q fuel (listed.setIfInBounds i true)) h1 hL0 hR hk
  split
  · rename_i hw
    rw [if_pos hw] at hstep
    exact .inl hstep
  · rename_i hw
    rw [if_neg hw] at hstep
    exact hstep


/-- One order, as any_runT; but c and z may be unordered, as one of them is over. -/
theorem any_runX {X : Ctx} {ops : Array Oper} {L0 : Nat} {Q : Exit → Act → World → Prop} {T : Nat → TagT} {sf : St} (c z : Nat) (hq : ∀ a w, R X sf a w → Q .normal a w)
    (hback : ∀ j oj, ops[j]? = some oj → ∀ e ∈ oj.after, Region.binds .any e = true → e.on < j)
    (hind : ∀ i j oi oj, ops[i]? = some oi → ops[j]? = some oj → i < j → (i = c ∧ j = z) ∨ Reach ops i j ∨ (oi.apart ops oj = true ∧ noMeetT (T i) (T j) = true)) :
    ∀ (fuel : Nat) (listed : Array Bool) (st : St) (a : Act) (w : World), listed.size = ops.size → (leftL ops listed).length = fuel → L0 ≤ st.heap.length →
      (∀ j o, ops[j]? = some o → listed.getD j false = true → ∀ e ∈ o.after, Region.binds .any e = true → listed.getD e.on false = true) →
      (listed.getD c true = true ∨ listed.getD z true = true) →
      RunTX P ops X.n L0 ((leftL ops listed).map fun i => (ops.getD i default, T i)) st sf → R X st a w → wpAny P .any ops Q fuel listed a w := by
  intro fuel
  induction fuel with
  | zero =>
    intro listed st a w hs hl hL0 _ _ hr hR
    have h0 : leftL ops listed = [] := List.eq_nil_of_length_eq_zero hl
    rw [h0] at hr
    simp only [List.map_nil, RunTX] at hr
    subst hr
    refine ⟨?_, hq a w hR⟩
    refine List.eq_nil_iff_forall_not_mem.2 fun i hi => ?_
    have := (ready_iff.1 hi).1
    rw [h0] at this; cases this
  | succ fuel ih =>
    intro listed st a w hs hl hL0 hcl hcz hr hR
    have hb : BndT L0 st := by obtain ⟨M, loc, hRR⟩ := hR; exact ⟨hRR.ids, hL0⟩
    refine ⟨fun h0 => ?_, fun i hi => ?_⟩
    · exact (ready_ne hs hback (by intro h; rw [h] at hl; simp at hl) h0).elim
    · obtain ⟨hil, hip⟩ := ready_iff.1 hi
      obtain ⟨hoi, hli, hlt⟩ := left_mem hil
      obtain ⟨A, B, hAB, hA, hf⟩ := split_at (left_sorted ops listed) hil
      rw [hAB, List.map_append, List.map_cons] at hr
      have hbub := bubbleT (A.map fun i => (ops.getD i default, T i)) st hr hb (fun x hx => by
        obtain ⟨k, hk, rfl⟩ := List.mem_map.1 hx
        have hkl : k ∈ leftL ops listed := by rw [hAB]; simp [hk]
        obtain ⟨hok, hlk, _⟩ := left_mem hkl
        rcases hind k i _ _ hok hoi (hA k hk) with ⟨rfl, rfl⟩ | h1 | ⟨h1, h2⟩
        · exfalso
          rcases hcz with h | h
          · rw [hlk] at h; cases h
          · rw [hli] at h; cases h
        · exact (reach_no hcl hip hs hkl h1).elim
        · exact ⟨h1, h2⟩)
      obtain ⟨st1, h1, h2⟩ := hbub
      refine pick_one hoi h1 hL0 hR fun a' w' hR' => ih (listed.setIfInBounds i true) st1 a' w' (by simpa using hs) ?_ (h1.bnd hb).2 (closed_set (by omega) hip hcl) (hcz.imp set_true set_true) ?_ hR'
      · rw [left_set hs hil, hf]
        rw [hAB] at hl
        simp at hl ⊢; omega
      · rw [left_set hs hil, hf, List.map_append]; exact h2

/-- Two orders: z ahead of c, or behind it. What stands ahead of c is common. -/
theorem any_dual {X : Ctx} {ops : Array Oper} {L0 : Nat} {Q : Exit → Act → World → Prop} {TA TB : Nat → TagT} {sA sB : St} {c z : Nat} {R1 R2 : List Nat} (hqA : ∀ a w, R X sA a w → Q .normal a w) (hqB : ∀ a w, R X sB a w → Q .normal a w)
    (hback : ∀ j oj, ops[j]? = some oj → ∀ e ∈ oj.after, Region.binds .any e = true → e.on < j)
    (hA : ∀ i j oi oj, ops[i]? = some oi → ops[j]? = some oj → i < j → (i = c ∧ j = z) ∨ Reach ops i j ∨ (oi.apart ops oj = true ∧ noMeetT (TA i) (TA j) = true))
    (hB : ∀ i j oi oj, ops[i]? = some oi → ops[j]? = some oj → i < j → (i = c ∧ j = z) ∨ Reach ops i j ∨ (oi.apart ops oj = true ∧ noMeetT (TB i) (TB j) = true))
    (hT : ∀ k, k < c → TA k = TB k) (hfar : ∀ j ∈ R1 ++ R2, Reach ops c j) :
    ∀ (fuel : Nat) (listed : Array Bool) (Pl : List Nat) (st sm : St) (a : Act) (w : World), listed.size = ops.size → (leftL ops listed).length = fuel → L0 ≤ st.heap.length →
      (∀ j o, ops[j]? = some o → listed.getD j false = true → ∀ e ∈ o.after, Region.binds .any e = true → listed.getD e.on false = true) →
      leftL ops listed = Pl ++ c :: (R1 ++ z :: R2) →
      RunTX P ops X.n L0 (Pl.map fun i => (ops.getD i default, TB i)) st sm →
      RunTX P ops X.n L0 ((z :: c :: (R1 ++ R2)).map fun i => (ops.getD i default, TA i)) sm sA →
      RunTX P ops X.n L0 ((c :: (R1 ++ z :: R2)).map fun i => (ops.getD i default, TB i)) sm sB → R X st a w → wpAny P .any ops Q fuel listed a w := by
  have app : ∀ {l l' : List (Oper × TagT)} {s s1 s2 : St}, RunTX P ops X.n L0 l s s1 → RunTX P ops X.n L0 l' s1 s2 → RunTX P ops X.n L0 (l ++ l') s s2 := by
    intro l
    induction l with
    | nil => intro l' s s1 s2 h1 h2; simp only [RunTX] at h1; subst h1; exact h2
    | cons x l ih => intro l' s s1 s2 h1 h2; obtain ⟨s', g1, g2⟩ := h1; exact ⟨s', g1, ih g2 h2⟩
  have unapp : ∀ {l l' : List (Oper × TagT)} {s s2 : St}, RunTX P ops X.n L0 (l ++ l') s s2 → ∃ s1, RunTX P ops X.n L0 l s s1 ∧ RunTX P ops X.n L0 l' s1 s2 := by
    intro l
    induction l with
    | nil => intro l' s s2 h; exact ⟨s, rfl, h⟩
    | cons x l ih => intro l' s s2 h; obtain ⟨s', g1, g2⟩ := h; obtain ⟨s1, k1, k2⟩ := ih g2; exact ⟨s1, ⟨s', g1, k1⟩, k2⟩
  intro fuel
  induction fuel with
  | zero =>
    intro listed Pl st sm a w hs hl hL0 _ hL
    rw [hL] at hl; simp at hl
  | succ fuel ih =>
    intro listed Pl st sm a w hs hl hL0 hcl hL hr hrA hrB hR
    have hb : BndT L0 st := by obtain ⟨M, loc, hRR⟩ := hR; exact ⟨hRR.ids, hL0⟩
    have hsort := left_sorted ops listed
    rw [hL] at hsort
    have hPc : ∀ k ∈ Pl, k < c := fun k hk => (List.pairwise_append.1 hsort).2.2 k hk c (by simp)
    have hcz : c < z := (List.pairwise_cons.1 (List.pairwise_append.1 hsort).2.1).1 z (by simp)
    have hPl : ∀ k ∈ Pl, k ∈ leftL ops listed := fun k hk => by rw [hL]; simp [hk]
    have hcm : c ∈ leftL ops listed := by rw [hL]; simp
    have hzm : z ∈ leftL ops listed := by rw [hL]; simp
    refine ⟨fun h0 => ?_, fun i hi => ?_⟩
    · exact (ready_ne hs hback (by rw [hL]; simp) h0).elim
    · obtain ⟨hil, hip⟩ := ready_iff.1 hi
      obtain ⟨hoi, hli, hlt⟩ := left_mem hil
      have hcase : i ∈ Pl ∨ i = c ∨ i = z ∨ i ∈ R1 ++ R2 := by
        have h := hil
        rw [hL] at h
        simp only [List.mem_append, List.mem_cons] at h ⊢
        rcases h with h | h | h | h | h
        · exact .inl h
        · exact .inr (.inl h)
        · exact .inr (.inr (.inr (.inl h)))
        · exact .inr (.inr (.inl h))
        · exact .inr (.inr (.inr (.inr h)))
      rcases hcase with h | h | h | h
      · -- of the common ones
        obtain ⟨A, B, rfl⟩ := List.append_of_mem h
        have hAi : ∀ k ∈ A, k < i := fun k hk => (List.pairwise_append.1 (List.pairwise_append.1 hsort).1).2.2 k hk i (by simp)
        rw [List.map_append, List.map_cons] at hr
        have hbub := bubbleT (A.map fun i => (ops.getD i default, TB i)) st hr hb (fun x hx => by
          obtain ⟨k, hk, rfl⟩ := List.mem_map.1 hx
          have hkl : k ∈ leftL ops listed := hPl k (by simp [hk])
          obtain ⟨hok, hlk, _⟩ := left_mem hkl
          rcases hB k i _ _ hok hoi (hAi k hk) with ⟨rfl, rfl⟩ | h1 | ⟨h1, h2⟩
          · exfalso; have := hPc k (by simp [hk]); omega
          · exact (reach_no hcl hip hs hkl h1).elim
          · exact ⟨h1, h2⟩)
        obtain ⟨st1, h1, h2⟩ := hbub
        have hnew : leftL ops (listed.setIfInBounds i true) = (A ++ B) ++ c :: (R1 ++ z :: R2) := by
          have hassoc : (A ++ i :: B) ++ c :: (R1 ++ z :: R2) = A ++ i :: (B ++ c :: (R1 ++ z :: R2)) := by simp
          rw [left_set hs hil, hL, hassoc, filt_at (by rw [← hassoc]; exact hsort)]; simp
        refine pick_one hoi h1 hL0 hR fun a' w' hR' => ih (listed.setIfInBounds i true) (A ++ B) st1 sm a' w' (by simpa using hs) ?_ (h1.bnd hb).2 (closed_set (by omega) hip hcl) hnew ?_ hrA hrB hR'
        · rw [hnew]; rw [hL] at hl; simp at hl ⊢; omega
        · rw [List.map_append]; exact h2
      · -- the call
        subst h
        have hall := app hr hrB
        rw [List.map_cons] at hall
        have hbub := bubbleT (Pl.map fun i => (ops.getD i default, TB i)) st hall hb (fun x hx => by
          obtain ⟨k, hk, rfl⟩ := List.mem_map.1 hx
          obtain ⟨hok, hlk, _⟩ := left_mem (hPl k hk)
          rcases hB k i _ _ hok hoi (hPc k hk) with ⟨rfl, rfl⟩ | h1 | ⟨h1, h2⟩
          · exfalso; omega
          · exact (reach_no hcl hip hs (hPl k hk) h1).elim
          · exact ⟨h1, h2⟩)
        obtain ⟨st1, h1, h2⟩ := hbub
        have hnew : leftL ops (listed.setIfInBounds i true) = Pl ++ (R1 ++ z :: R2) := by
          rw [left_set hs hil, hL, filt_at hsort]
        refine pick_one hoi h1 hL0 hR fun a' w' hR' => any_runX i z hqB hback hB fuel (listed.setIfInBounds i true) st1 a' w' (by simpa using hs) ?_ (h1.bnd hb).2 (closed_set (by omega) hip hcl) (.inl set_self) ?_ hR'
        · rw [hnew]; rw [hL] at hl; simp at hl ⊢; omega
        · rw [hnew, List.map_append]; exact h2
      · -- the allocation
        subst h
        have hr' : RunTX P ops X.n L0 (Pl.map fun i => (ops.getD i default, TA i)) st sm := by
          have : (Pl.map fun i => (ops.getD i default, TA i)) = Pl.map fun i => (ops.getD i default, TB i) := List.map_congr_left fun k hk => by rw [hT k (hPc k hk)]
          rw [this]; exact hr
        have hall := app hr' hrA
        rw [List.map_cons] at hall
        have hbub := bubbleT (Pl.map fun i => (ops.getD i default, TA i)) st hall hb (fun x hx => by
          obtain ⟨k, hk, rfl⟩ := List.mem_map.1 hx
          obtain ⟨hok, hlk, _⟩ := left_mem (hPl k hk)
          have := hPc k hk
          rcases hA k i _ _ hok hoi (by omega) with ⟨e1, _⟩ | h1 | ⟨h1, h2⟩
          · exfalso; omega
          · exact (reach_no hcl hip hs (hPl k hk) h1).elim
          · exact ⟨h1, h2⟩)
        obtain ⟨st1, h1, h2⟩ := hbub
        have hnew : leftL ops (listed.setIfInBounds i true) = Pl ++ c :: (R1 ++ R2) := by
          have hassoc : Pl ++ c :: (R1 ++ i :: R2) = (Pl ++ c :: R1) ++ i :: R2 := by simp
          rw [left_set hs hil, hL, hassoc, filt_at (by rw [← hassoc]; exact hsort)]; simp
        refine pick_one hoi h1 hL0 hR fun a' w' hR' => any_runX c i hqA hback hA fuel (listed.setIfInBounds i true) st1 a' w' (by simpa using hs) ?_ (h1.bnd hb).2 (closed_set (by omega) hip hcl) (.inr set_self) ?_ hR'
        · rw [hnew]; rw [hL] at hl; simp at hl ⊢; omega
        · rw [hnew, List.map_append]; exact h2
      · -- none of the others is ready
        exact (reach_no hcl hip hs hcm (hfar i h)).elim


def fO (ops : Array Oper) (i : Nat) : Oper := ops.getD i default
def idxA (n c z : Nat) : List Nat := (List.range n).take c ++ z :: c :: (((List.range n).drop (c + 1)).take (z - c - 1) ++ (List.range n).drop (z + 1))
/-- The operations from c on, z ahead. -/
def lstA (ops : Array Oper) (c z : Nat) : List Oper := fO ops z :: fO ops c :: ((ops.toList.drop (c + 1)).take (z - c - 1) ++ ops.toList.drop (z + 1))
def drawOK2 (ops : Array Oper) (meet : Nat → Nat → Bool) (c z : Nat) : Bool :=
  let ms := masks ops.toList []
  ops.toList.zipIdx.all fun (oj, j) => (oj.after.all fun e => !Region.binds .any e || e.on < j) &&
    ops.toList.zipIdx.all fun (oi, i) => !(i < j) || (i == c && j == z) || (ms.getD j 0).testBit i || (oi.apart ops oj && meet i j)
def farOK (ops : Array Oper) (c z : Nat) : Bool :=
  let ms := masks ops.toList []
  decide (c < z) && decide (z < ops.size) && ops.toList.zipIdx.all fun (_, j) => !(c < j) || j == z || (ms.getD j 0).testBit c
def meetI (Is : List Nat) (ts : List TagT) (i j : Nat) : Bool := noMeetT (ts.getD (Is.idxOf i) default) (ts.getD (Is.idxOf j) default)
def meetN (ts : List TagT) (i j : Nat) : Bool := noMeetT (ts.getD i default) (ts.getD j default)

theorem mem_zi {ops : Array Oper} {i : Nat} {oi : Oper} (hi : ops[i]? = some oi) : (oi, i) ∈ ops.toList.zipIdx := by
  rw [List.mem_zipIdx_iff_getElem?]; simpa using hi
theorem masks_at {ops : Array Oper} {i j : Nat} (h : ((masks ops.toList []).getD j 0).testBit i = true) : Reach ops i j :=
  masks_reach ops.toList [] (fun k _ => by simp) (fun j hj => by simp at hj) j h
theorem drawOK2_spec {ops : Array Oper} {meet : Nat → Nat → Bool} {c z : Nat} (h : drawOK2 ops meet c z = true) :
    (∀ j oj, ops[j]? = some oj → ∀ e ∈ oj.after, Region.binds .any e = true → e.on < j) ∧
    ∀ i j oi oj, ops[i]? = some oi → ops[j]? = some oj → i < j → (i = c ∧ j = z) ∨ Reach ops i j ∨ (oi.apart ops oj = true ∧ meet i j = true) := by
  unfold drawOK2 at h
  simp only [List.all_eq_true] at h
  refine ⟨fun j oj hj e he hb => ?_, fun i j oi oj hi hj hij => ?_⟩
  · have := h (oj, j) (mem_zi hj)
    simp only [Bool.and_eq_true, Array.all_eq_true_iff_forall_mem] at this
    have := this.1 e he
    simpa [hb] using this
  · have := h (oj, j) (mem_zi hj)
    simp only [Bool.and_eq_true, List.all_eq_true] at this
    have := this.2 (oi, i) (mem_zi hi)
    simp only [hij, decide_true, Bool.not_true, Bool.false_or, Bool.or_eq_true, Bool.and_eq_true, beq_iff_eq] at this
    rcases this with (h1 | h1) | h1
    · exact .inl h1
    · exact .inr (.inl (masks_at h1))
    · exact .inr (.inr h1)

theorem zip_idx {ops : Array Oper} {Is : List Nat} {ts : List TagT} (hn : Is.Nodup) (hl : ts.length = Is.length) : (Is.map (fO ops)).zip ts = Is.map fun i => (ops.getD i default, ts.getD (Is.idxOf i) default) := by
  apply List.ext_getElem
  · simp [hl]
  · intro k h1 h2
    have hk : k < Is.length := by simpa using h2
    have e : Is.idxOf Is[k] = k := hn.idxOf_getElem k hk
    simp [e, fO, hl, hk]
theorem zip_rng {ops : Array Oper} {ts : List TagT} (hl : ts.length = ops.size) : ((List.range ops.size).map (fO ops)).zip ts = (List.range ops.size).map fun i => (ops.getD i default, ts.getD i default) := by
  apply List.ext_getElem
  · simp [hl]
  · intro k h1 h2
    have hk : k < ops.size := by simpa using h2
    simp [fO, hl, hk]
theorem map_rng (ops : Array Oper) : (List.range ops.size).map (fO ops) = ops.toList := by
  apply List.ext_getElem
  · simp
  · intro k h1 h2
    have hk : k < ops.size := by simpa using h2
    simp [fO, hk]

theorem split_rng {n c z : Nat} (hc : c < z) (hz : z < n) : List.range n = (List.range n).take c ++ c :: (((List.range n).drop (c + 1)).take (z - c - 1) ++ z :: (List.range n).drop (z + 1)) := by
  have e1 : List.range n = (List.range n).take c ++ (List.range n).drop c := (List.take_append_drop c _).symm
  have e2 : (List.range n).drop c = c :: (List.range n).drop (c + 1) := by
    rw [List.drop_eq_getElem_cons (by simp; omega)]; simp
  have e3 : (List.range n).drop (c + 1) = ((List.range n).drop (c + 1)).take (z - c - 1) ++ ((List.range n).drop (c + 1)).drop (z - c - 1) := (List.take_append_drop _ _).symm
  have e4 : ((List.range n).drop (c + 1)).drop (z - c - 1) = z :: (List.range n).drop (z + 1) := by
    rw [List.drop_drop, show c + 1 + (z - c - 1) = z by omega, List.drop_eq_getElem_cons (by simp; omega)]; simp
  rw [e4] at e3
  rw [← e3, ← e2, ← e1]

theorem awp_drawn2 {X : Ctx} {N : Nat} {Q : Exit → St → Prop} {st : St} {id : Nat} {ops : Array Oper} (G : List Nat) (c z : Nat) (S : St) (hX : X.n = N) (hm : P.follows .mixedOrders = true) (hf : farOK ops c z = true)
    (h : runT P ops N st.heap.length (ops.toList.take c) [] (fun s ts =>
      runT P ops N st.heap.length (lstA ops c z) ts (fun s ts => drawOK2 ops (meetI (idxA ops.size c z) ts) c z = true ∧ Sub X S (prune G s)) s ∧
      runT P ops N st.heap.length (ops.toList.drop c) ts (fun s ts => drawOK2 ops (meetN ts) c z = true ∧ Sub X S (prune G s)) s) st) (hq : Q .normal S) : AWP P X (.region id ops true) Q st := by
  subst hX
  simp only [farOK, Bool.and_eq_true, decide_eq_true_eq, List.all_eq_true] at hf
  obtain ⟨⟨hcz, hzn⟩, hfar⟩ := hf
  obtain ⟨tp, sm, lp, hp, hA, hB⟩ := runT_ok _ [] st h
  obtain ⟨ta, sA, la, ha, hdA, hsA⟩ := runT_ok _ _ sm hA
  obtain ⟨tb, sB, lb, hb, hdB, hsB⟩ := runT_ok _ _ sm hB
  rw [List.nil_append] at hdA hdB
  obtain ⟨hback, hindA⟩ := drawOK2_spec hdA
  obtain ⟨_, hindB⟩ := drawOK2_spec hdB
  have hR := split_rng hcz hzn
  generalize hR1 : ((List.range ops.size).drop (c + 1)).take (z - c - 1) = R1 at hR
  generalize hR2 : (List.range ops.size).drop (z + 1) = R2 at hR
  generalize hPl : (List.range ops.size).take c = Pl at hR
  have hsort : (Pl ++ c :: (R1 ++ z :: R2)).Pairwise (· < ·) := by rw [← hR]; exact List.pairwise_lt_range
  have hPlen : Pl.length = c := by rw [← hPl]; simp; omega
  have mP : Pl.map (fO ops) = ops.toList.take c := by rw [← hPl, List.map_take, map_rng]
  have mB : (c :: (R1 ++ z :: R2)).map (fO ops) = ops.toList.drop c := by
    have : (List.range ops.size).drop c = c :: (R1 ++ z :: R2) := by
      rw [hR, List.drop_left' hPlen]
    rw [← this, List.map_drop, map_rng]
  have mA : (z :: c :: (R1 ++ R2)).map (fO ops) = lstA ops c z := by
    unfold lstA
    rw [List.map_cons, List.map_cons, List.map_append, ← hR1, ← hR2, List.map_take, List.map_drop, List.map_drop, map_rng]
  have iA : idxA ops.size c z = Pl ++ z :: c :: (R1 ++ R2) := by unfold idxA; rw [hR1, hR2, hPl]
  have hnd : (Pl ++ c :: (R1 ++ z :: R2)).Nodup := hsort.imp (fun h => Nat.ne_of_lt h)
  have hperm : (Pl ++ z :: c :: (R1 ++ R2)).Perm (Pl ++ c :: (R1 ++ z :: R2)) := by
    refine List.Perm.append_left Pl ?_
    refine (List.Perm.swap c z (R1 ++ R2)).trans (List.Perm.cons c ?_)
    exact List.perm_middle.symm
  have hndA : (Pl ++ z :: c :: (R1 ++ R2)).Nodup := hperm.symm.nodup hnd
  have hlenB : (Pl ++ c :: (R1 ++ z :: R2)).length = ops.size := by rw [← hR]; simp
  have hlenA := hperm.length_eq
  have lp' : tp.length = Pl.length := by rw [lp, ← mP, List.length_map]
  have la' : ta.length = (z :: c :: (R1 ++ R2)).length := by rw [la, ← mA, List.length_map]
  have lb' : tb.length = (c :: (R1 ++ z :: R2)).length := by rw [lb, ← mB, List.length_map]
  have zA := zip_idx (ops := ops) (ts := tp ++ ta) hndA (by rw [List.length_append, List.length_append, lp', la'])
  have zB : ((Pl ++ c :: (R1 ++ z :: R2)).map (fO ops)).zip (tp ++ tb) = (Pl ++ c :: (R1 ++ z :: R2)).map fun i => (ops.getD i default, (tp ++ tb).getD i default) := by
    rw [← hR]; exact zip_rng (by rw [List.length_append, lp', lb', ← List.length_append]; exact hlenB)
  rw [List.map_append, List.zip_append (by simp [lp']), List.map_append, mP, mA] at zA
  rw [List.map_append, List.zip_append (by simp [lp']), List.map_append, mP, mB] at zB
  have lz : ((ops.toList.take c).zip tp).length = Pl.length := by rw [← mP]; simp [lp']
  obtain ⟨zA1, zA2⟩ := List.append_inj zA (by rw [lz, List.length_map])
  obtain ⟨zB1, zB2⟩ := List.append_inj zB (by rw [lz, List.length_map])
  rw [zB1] at hp
  rw [zA2] at ha
  rw [zB2] at hb
  have memP : ∀ k, k < c → k ∈ Pl := fun k hk => by
    have : k ∈ List.range ops.size := by simp; omega
    rw [hR] at this
    rcases List.mem_append.1 this with h | h
    · exact h
    · exfalso
      rcases List.mem_cons.1 h with h | h
      · omega
      · have := (List.pairwise_cons.1 (List.pairwise_append.1 hsort).2.1).1 k h; omega
  have hT : ∀ k, k < c → (tp ++ ta).getD ((Pl ++ z :: c :: (R1 ++ R2)).idxOf k) default = (tp ++ tb).getD k default := by
    intro k hk
    have hm := memP k hk
    have e := zA1.symm.trans zB1
    obtain ⟨q, hq, rfl⟩ := List.mem_iff_getElem.1 hm
    have e1 := congrArg (fun l => l[q]?) e
    simp only [List.getElem?_map, List.getElem?_eq_getElem hq, Option.map_some, Option.some.injEq, Prod.mk.injEq, true_and] at e1
    exact e1
  intro a w hr
  refine wp_region_any hm ?_
  have hall : leftL ops (Array.replicate ops.size false) = List.range ops.size := by
    unfold leftL
    refine List.filter_eq_self.2 fun i hi => ?_
    simp only [List.mem_range] at hi
    rw [Array.getD_eq_getD_getElem?]
    simp [hi]
  rw [iA] at hindA
  refine any_dual (L0 := st.heap.length) (TA := fun i => (tp ++ ta).getD ((Pl ++ z :: c :: (R1 ++ R2)).idxOf i) default) (TB := fun i => (tp ++ tb).getD i default) (sA := sA) (sB := sB) (c := c) (z := z) (R1 := R1) (R2 := R2)
    (fun a' w' hr' => ⟨S, hq, hsA a' w' (prune_sub G a' w' hr')⟩) (fun a' w' hr' => ⟨S, hq, hsB a' w' (prune_sub G a' w' hr')⟩) hback hindA hindB hT (fun j hj => ?_) ops.size _ Pl st sm a _ (by simp) ?_ (Nat.le_refl _) ?_ ?_ hp ha hb hr.drew
  · have hjm : j ∈ List.range ops.size := by rw [hR]; simp only [List.mem_append, List.mem_cons] at hj ⊢; rcases hj with h | h <;> simp [h]
    have hjc : c < j ∧ j ≠ z := by
      have h1 := (List.pairwise_append.1 hsort).2.1
      have h2 := List.pairwise_cons.1 h1
      refine ⟨h2.1 j (by simp only [List.mem_append, List.mem_cons] at hj ⊢; rcases hj with h | h <;> simp [h]), ?_⟩
      have h3 := List.pairwise_append.1 h2.2
      rcases List.mem_append.1 hj with h | h
      · have := h3.2.2 j h z (by simp); omega
      · have := (List.pairwise_cons.1 h3.2.1).1 j h; omega
    have hjs : j < ops.size := by simpa using hjm
    have := hfar (ops[j], j) (mem_zi (by simp [hjs]))
    simp only [hjc.1, decide_true, Bool.not_true, Bool.false_or, Bool.or_eq_true, beq_iff_eq] at this
    exact masks_at (this.resolve_left hjc.2)
  · rw [hall]; simp
  · intro j o hj hl
    rw [Array.getD_eq_getD_getElem?] at hl
    simp [Array.getElem?_replicate] at hl
    split at hl <;> simp at hl
  · rw [hall]; exact hR

/-- Wherever a piece ends, it goes on from one state. -/
def cutQ (X : Ctx) (S : St) : Exit → St → Prop
  | .normal, st => Sub X S st
  | _, _ => False
theorem awp_cut {X : Ctx} {c : Code} {Q : Exit → St → Prop} {st : St} (S : St) (h : AWP P X c (cutQ X S) st) (hq : Q .normal S) : AWP P X c Q st := by
  intro a w hr
  refine wp_mono (h a w hr) fun e a' w' ⟨st', h1, h2⟩ => ?_
  cases e with
  | normal => exact ⟨S, hq, h1 a' w' h2⟩
  | _ => exact h1.elim

attribute [go_sem] lstA fO cutQ

end
end Go.Ab
