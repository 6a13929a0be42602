/-
  A region that draws its order: whatever order is drawn, the end is that of the text's order.
-/
import Derived.Test.YtgkafceckdoabaaDoorAbsDraw
set_option linter.all false
namespace Go.Ab
open Go.RowKit

section
variable {P : Program}

def leftL (ops : Array Oper) (listed : Array Bool) : List Nat := (List.range ops.size).filter fun i => !listed.getD i true

theorem ready_iff {ops : Array Oper} {listed : Array Bool} {i : Nat} : i ∈ Region.ready .any ops listed ↔ i ∈ leftL ops listed ∧ ∀ o, ops[i]? = some o → ∀ e ∈ o.after, Region.binds .any e = true → listed.getD e.on false = true := by
  unfold Region.ready leftL
  simp only [List.mem_filter, List.mem_range, Bool.and_eq_true]
  constructor
  · rintro ⟨h1, h2, h3⟩
    refine ⟨⟨h1, h2⟩, fun o ho e he hb => ?_⟩
    rw [ho] at h3
    simp only [Option.map_some, Option.getD_some, Array.all_eq_true_iff_forall_mem] at h3
    have := h3 e he
    simpa [hb] using this
  · rintro ⟨⟨h1, h2⟩, h3⟩
    refine ⟨h1, h2, ?_⟩
    rw [Array.getElem?_eq_getElem h1]
    simp only [Option.map_some, Option.getD_some, Array.all_eq_true_iff_forall_mem]
    intro e he
    have := h3 _ (Array.getElem?_eq_getElem h1) e he
    cases hb : Region.binds .any e
    · simp
    · simp [this hb]

theorem left_set {ops : Array Oper} {listed : Array Bool} {i : Nat} (hs : listed.size = ops.size) (hi : i ∈ leftL ops listed) : leftL ops (listed.setIfInBounds i true) = (leftL ops listed).filter (· != i) := by
  unfold leftL
  rw [List.filter_filter]
  refine List.filter_congr fun k hk => ?_
  simp only [List.mem_range] at hk
  by_cases h : k = i
  · subst h
    have : (listed.setIfInBounds k true).getD k true = true := by
      rw [Array.getD_eq_getD_getElem?, Array.getElem?_setIfInBounds_self_of_lt (by omega)]; rfl
    simp [this]
  · have : (listed.setIfInBounds i true).getD k true = listed.getD k true := by
      rw [Array.getD_eq_getD_getElem?, Array.getElem?_setIfInBounds_ne (by omega), ← Array.getD_eq_getD_getElem?]
    simp [this, h]

theorem left_sorted (ops : Array Oper) (listed : Array Bool) : (leftL ops listed).Pairwise (· < ·) := (List.pairwise_lt_range).filter _

theorem split_at {L : List Nat} (hL : L.Pairwise (· < ·)) {i : Nat} (hi : i ∈ L) : ∃ A B, L = A ++ i :: B ∧ (∀ a ∈ A, a < i) ∧ L.filter (· != i) = A ++ B := by
  obtain ⟨A, B, rfl⟩ := List.append_of_mem hi
  refine ⟨A, B, rfl, fun a ha => ?_, ?_⟩
  · exact (List.pairwise_append.1 hL).2.2 a ha i (by simp)
  · have h1 : ∀ a ∈ A, a ≠ i := fun a ha => by have := (List.pairwise_append.1 hL).2.2 a ha i (by simp); omega
    have h2 : ∀ b ∈ B, b ≠ i := fun b hb => by have := (List.pairwise_cons.1 (List.pairwise_append.1 hL).2.1).1 b hb; omega
    rw [List.filter_append, List.filter_cons, List.filter_eq_self.2 (fun a ha => by simpa using h1 a ha), List.filter_eq_self.2 (fun b hb => by simpa using h2 b hb)]
    simp

theorem any_run {X : Ctx} {ops : Array Oper} {Q : Exit → Act → World → Prop} {T : Nat → Tag} {sf : St} (hq : ∀ a w, R X sf a w → Q .normal a w) {meet : Nat → Oper → Nat → Oper → Bool}
    (hback : ∀ j oj, ops[j]? = some oj → ∀ e ∈ oj.after, Region.binds .any e = true → e.on < j)
    (hind : ∀ i j oi oj, ops[i]? = some oi → ops[j]? = some oj → i < j → Reach ops i j ∨ (oi.apart ops oj = true ∧ meet i oi j oj = true))
    (hmeet : ∀ i j oi oj, ops[i]? = some oi → ops[j]? = some oj → i < j → meet i oi j oj = true → noMeet oi oj (T i) (T j) = true) :
    ∀ (fuel : Nat) (listed : Array Bool) (st : St) (a : Act) (w : World), listed.size = ops.size → (leftL ops listed).length = fuel →
      (∀ j o, ops[j]? = some o → listed.getD j false = true → ∀ e ∈ o.after, Region.binds .any e = true → listed.getD e.on false = true) →
      RunX P ops X.n ((leftL ops listed).map fun i => (ops.getD i default, T i)) st sf → R X st a w → wpAny P .any ops Q fuel listed a w := by
  have hsome : ∀ {listed : Array Bool} {i}, i ∈ leftL ops listed → ops[i]? = some (ops.getD i default) ∧ listed.getD i true = false := by
    intro listed i hi
    simp only [leftL, List.mem_filter, List.mem_range, Bool.not_eq_true'] at hi
    exact ⟨by rw [Array.getD_eq_getD_getElem?, Array.getElem?_eq_getElem hi.1]; rfl, hi.2⟩
  intro fuel
  induction fuel with
  | zero =>
    intro listed st a w hs hl _ hr hR
    have h0 : leftL ops listed = [] := List.eq_nil_of_length_eq_zero hl
    rw [h0] at hr
    simp only [List.map_nil, RunX] at hr
    subst hr
    refine ⟨?_, hq a w hR⟩
    refine List.eq_nil_iff_forall_not_mem.2 fun i hi => ?_
    have := (ready_iff.1 hi).1
    rw [h0] at this; cases this
  | succ fuel ih =>
    intro listed st a w hs hl hcl hr hR
    obtain ⟨M, loc, hRR⟩ := hR
    have hb : Bnd st := hRR.ids
    refine ⟨fun h0 => ?_, fun i hi => ?_⟩
    · exfalso
      cases hL : leftL ops listed with
      | nil => rw [hL] at hl; simp at hl
      | cons k L =>
        have hk : k ∈ leftL ops listed := by rw [hL]; simp
        have : k ∈ Region.ready .any ops listed := by
          refine ready_iff.2 ⟨hk, fun o ho e he hbn => ?_⟩
          have hlt := hback k o ho e he hbn
          have hkk : k < ops.size := (Array.getElem?_eq_some_iff.1 ho).1
          cases hg : listed.getD e.on false with
          | true => rfl
          | false =>
            exfalso
            have hsz : e.on < listed.size := by omega
            have hmem : e.on ∈ leftL ops listed := by
              simp only [leftL, List.mem_filter, List.mem_range, Bool.not_eq_true']
              refine ⟨by omega, ?_⟩
              rw [Array.getD_eq_getD_getElem?, Array.getElem?_eq_getElem hsz] at hg ⊢
              exact hg
            have hsort := left_sorted ops listed
            rw [hL] at hsort hmem
            rcases List.mem_cons.1 hmem with h | h
            · omega
            · have := (List.pairwise_cons.1 hsort).1 _ h; omega
        rw [h0] at this; cases this
    · obtain ⟨hil, hip⟩ := ready_iff.1 hi
      obtain ⟨hoi, hli⟩ := hsome hil
      obtain ⟨A, B, hAB, hA, hf⟩ := split_at (left_sorted ops listed) hil
      rw [hAB, List.map_append, List.map_cons] at hr
      have hbub := bubble (A.map fun i => (ops.getD i default, T i)) st hr hb (fun x hx => by
        obtain ⟨k, hk, rfl⟩ := List.mem_map.1 hx
        have hkl : k ∈ leftL ops listed := by rw [hAB]; simp [hk]
        obtain ⟨hok, hlk⟩ := hsome hkl
        rcases hind k i _ _ hok hoi (hA k hk) with h1 | ⟨h1, h2⟩
        · exfalso
          have := reach_listed hcl h1 hip
          have hk2 : k < listed.size := by
            simp only [leftL, List.mem_filter, List.mem_range] at hkl; omega
          rw [Array.getD_eq_getD_getElem?, Array.getElem?_eq_getElem hk2] at this hlk
          simp at this hlk
          rw [hlk] at this; cases this
        · exact ⟨h1, hmeet k i _ _ hok hoi (hA k hk) h2⟩)
      obtain ⟨st1, h1, ht, h2⟩ := hbub
      unfold wpOp
      rw [hoi]
      simp only []
      have hstep := step_ok (Q := Q) (K := wpAny P .any ops Q fuel (listed.setIfInBounds i true)) h1 ⟨M, loc, hRR⟩ (fun a' w' hR' => by
        refine ih (listed.setIfInBounds i true) st1 a' w' (by simpa using hs) ?_ ?_ ?_ hR'
        · rw [left_set hs hil, hf]
          rw [hAB] at hl
          simp at hl ⊢; omega
        · intro j o hj hlj e he hbn
          have hset : ∀ q, listed.getD q false = true → (listed.setIfInBounds i true).getD q false = true := fun q hq => by
            by_cases hqi : q = i
            · subst hqi
              have hqs : q < listed.size := by
                simp only [leftL, List.mem_filter, List.mem_range] at hil; omega
              rw [Array.getD_eq_getD_getElem?, Array.getElem?_setIfInBounds_self_of_lt hqs]; rfl
            · rw [Array.getD_eq_getD_getElem?, Array.getElem?_setIfInBounds_ne (by omega), ← Array.getD_eq_getD_getElem?]; exact hq
          by_cases hji : j = i
          · subst hji
            exact hset _ (hip o hj e he hbn)
          · rw [Array.getD_eq_getD_getElem?, Array.getElem?_setIfInBounds_ne (by omega), ← Array.getD_eq_getD_getElem?] at hlj
            exact hset _ (hcl j o hj hlj e he hbn)
        · rw [left_set hs hil, hf, List.map_append]; exact h2)
      split
      · rename_i hw
        rw [if_pos hw] at hstep
        exact .inl hstep
      · rename_i hw
        rw [if_neg hw] at hstep
        exact hstep

/-- The tags of a walk. -/
theorem runX_of {ops : Array Oper} {n : Nat} {sf : St} : ∀ (l : List Oper) (st : St), RunR P ops n l st sf → ∃ ts : List Tag, ts.length = l.length ∧ RunX P ops n (l.zip ts) st sf ∧ ∀ (j : Nat) (o : Oper) (t : Tag), l[j]? = some o → ts[j]? = some t → ∃ env, t = tagOf env o
  | [], st, h => ⟨[], rfl, h, by simp⟩
  | o :: l, st, h => by
    obtain ⟨st1, h1, h2⟩ := h
    obtain ⟨ts, e1, e2, e3⟩ := runX_of l st1 h2
    refine ⟨tagOf st.env o :: ts, by simp [e1], ⟨st1, h1, rfl, e2⟩, fun j o' t ho ht => ?_⟩
    cases j with
    | zero => simp at ho ht; subst ho; subst ht; exact ⟨_, rfl⟩
    | succ j => exact e3 j o' t (by simpa using ho) (by simpa using ht)

def wrE (o : Oper) : Bool := isE o && (match o.op with | .store .. => true | .mapUpdate .. => true | .call _ => true | _ => false)
def rdE (o : Oper) : Bool := match o.op with | .load .. => true | .indexAddr .. => true | .lookup .. => true | .call _ => true | _ => false

/-- They do not meet, whatever the operands are. -/
def meetS (_ : Nat) (oi : Oper) (_ : Nat) (oj : Oper) : Bool := !(isE oi && isE oj) && (!wrE oi || !rdE oj) && (!wrE oj || !rdE oi)

theorem tag_w {env : Nat → AV} {o : Oper} (h : wrE o = false) : (tagOf env o).w = [] := by
  simp only [tagOf]
  split
  · rename_i he
    simp only [wrE, he, Bool.true_and] at h
    cases ho : o.op <;> simp [ho, wrOf] at h ⊢
  · rfl
theorem tag_t {env : Nat → AV} {o : Oper} (h : rdE o = false) : (tagOf env o).t = [] := by
  simp only [tagOf]
  cases ho : o.op <;> simp [rdE, ho, rdOf] at h ⊢

theorem meetS_ok {oi oj : Oper} {i j : Nat} {e1 e2 : Nat → AV} (h : meetS i oi j oj = true) : noMeet oi oj (tagOf e1 oi) (tagOf e2 oj) = true := by
  simp only [meetS, Bool.and_eq_true, Bool.or_eq_true, Bool.not_eq_true'] at h
  obtain ⟨⟨h1, h2⟩, h3⟩ := h
  simp only [noMeet, Bool.and_eq_true, Bool.not_eq_true', List.all_eq_true]
  refine ⟨⟨h1, ?_⟩, ?_⟩
  · rcases h2 with h2 | h2
    · rw [tag_w h2]; simp
    · rw [tag_t h2]; simp
  · rcases h3 with h3 | h3
    · rw [tag_w h3]; simp
    · rw [tag_t h3]; simp

theorem R.drew {X : Ctx} {st : St} {a : Act} {w : World} (h : R X st a w) : R X st a { w with drawn := w.drawn + 1 } := by
  obtain ⟨M, loc, h⟩ := h
  have hb : Below w.heap.size w { w with drawn := w.drawn + 1 } := ⟨rfl, rfl, rfl, Nat.le_refl _, fun _ _ => rfl⟩
  exact ⟨M, loc, h.world hb (fun _ hb => hb) (fun b hb => .inl hb)⟩

theorem awp_draw {X : Ctx} {Q : Exit → St → Prop} {st st' : St} {id : Nat} {ops : Array Oper} (hm : P.follows .mixedOrders = true) (hd : drawOK ops meetS = true) (h : RunR P ops X.n ops.toList st st') (hq : Q .normal st') : AWP P X (.region id ops true) Q st := by
  intro a w hr
  refine wp_region_any hm ?_
  obtain ⟨ts, e1, e2, e3⟩ := runX_of ops.toList st h
  obtain ⟨hback, hind⟩ := drawOK_spec hd
  have hall : leftL ops (Array.replicate ops.size false) = List.range ops.size := by
    unfold leftL
    refine List.filter_eq_self.2 fun i hi => ?_
    simp only [List.mem_range] at hi
    rw [Array.getD_eq_getD_getElem?]
    simp [hi]
  refine any_run (T := fun i => ts.getD i ⟨[], []⟩) (sf := st') (fun a' w' hr' => ⟨st', hq, hr'⟩) hback hind (fun i j oi oj hi hj _ hmt => ?_) ops.size _ st a _ (by simp) ?_ ?_ ?_ hr.drew
  · have hget : ∀ k o, ops[k]? = some o → ∃ env, ts.getD k ⟨[], []⟩ = tagOf env o := by
      intro k o hk
      have hks : k < ops.size := (Array.getElem?_eq_some_iff.1 hk).1
      have hkt : k < ts.length := by rw [e1]; simpa using hks
      obtain ⟨env, he⟩ := e3 k o (ts[k]) (by simpa using hk) (List.getElem?_eq_getElem hkt)
      exact ⟨env, by rw [List.getD_eq_getElem?_getD, List.getElem?_eq_getElem hkt]; exact he⟩
    obtain ⟨e1, h1⟩ := hget i oi hi
    obtain ⟨e2, h2⟩ := hget j oj hj
    simp only [h1, h2]
    exact meetS_ok hmt
  · rw [hall]; simp
  · intro j o hj hl
    rw [Array.getD_eq_getD_getElem?] at hl
    simp [Array.getElem?_replicate] at hl
    split at hl <;> simp at hl
  · rw [hall]
    have : ((List.range ops.size).map fun i => (ops.getD i default, ts.getD i ⟨[], []⟩)) = ops.toList.zip ts := by
      apply List.ext_getElem?
      intro k
      by_cases hk : k < ops.size
      · have hkt : k < ts.length := by rw [e1]; simpa using hk
        simp [List.getElem?_range hk, List.getElem?_zip_eq_some, hk, hkt, Array.getD_eq_getD_getElem?, List.getD_eq_getElem?_getD, List.getElem?_zipWith, List.zip]
      · have hkt : ¬ k < ts.length := by rw [e1]; simpa using hk
        simp [hk, List.zip, List.getElem?_zipWith]
    rw [this]; exact e2

end
end Go.Ab
