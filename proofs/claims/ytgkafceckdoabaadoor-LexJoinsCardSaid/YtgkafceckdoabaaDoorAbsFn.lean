/-
  A function's contract out of its body's; the walk of a region as one proposition that simp writes out.
-/
import Derived.Test.YtgkafceckdoabaaDoorAbsCode
set_option linter.all false
namespace Go.Ab
open Go.RowKit

/-- The abstract value of a result. -/
def resA (P : Program) (st : St) : ResultVar → Option (Prop × AV)
  | .tmp t => some ((argA st.heap (ev st.env (.tmp t))).argOK = true, argA st.heap (ev st.env (.tmp t)))
  | .cell t T => match tyk P T with
    | some K => match ev st.env (.tmp t) with
      | .el id k i off => (loadA K st.heap (.el id k i off)).map fun (p, r) => (p ∧ r.zone = true, r)
      | _ => none
    | none => none

/-- The result lies in memory that the call made. -/
def freshA (st : St) : ResultVar → Bool
  | .tmp t => match ev st.env (.tmp t) with
    | .ow id => match st.heap[id]? with
      | some (.row o) => o.es.all AV.scal
      | _ => false
    | x => x.scal
  | .cell _ _ => false

def resL (P : Program) (st : St) : List ResultVar → Option (Prop × List AV)
  | [] => some (True, [])
  | r :: l => match resA P st r, resL P st l with
    | some (p, v), some (q, vs) => some (p ∧ q, v :: vs)
    | _, _ => none

def packA : List AV → AV
  | [v] => v
  | vs => .tup vs

/-- What is asked where the function ends. -/
def retQ (P : Program) (rs : List ResultVar) (fr : Bool) (R0 : AV → Prop) : Exit → St → Prop
  | .normal, st | .ret, st => match resL P st rs with
    | some (p, vs) => p ∧ R0 (packA vs) ∧ (fr = true → (packA vs).scal = true ∨ (rs.all (fun r => freshA st r) = true))
    | none => False
  | _, _ => False

/-- The state at a call's beginning. -/
def argE : Nat → List AV → Nat → AV
  | _, [] => fun _ => .bad
  | i, a :: l => upd (argE (i + 1) l) i a

section
variable {P : Program} {w : World} {M : Nat → Prop} {loc : Nat → Value}

theorem argE_lt (i s : Nat) (l : List AV) (h : s < i) : argE i l s = .bad := by
  induction l generalizing i with
  | nil => rfl
  | cons a l ih =>
    simp only [argE, upd]
    rw [if_neg (by omega)]
    exact ih (i + 1) (by omega)

theorem argE_get (i s : Nat) (l : List AV) (h : i ≤ s) : argE i l s = l.getD (s - i) .bad := by
  induction l generalizing i with
  | nil => simp [argE]
  | cons a l ih =>
    simp only [argE, upd]
    split
    · rename_i e; subst e; simp
    · rw [ih (i + 1) (by omega)]
      have : s - i = (s - (i + 1)) + 1 := by omega
      rw [this, List.getD_cons_succ]

theorem argOK_zone {e : AV} (h : e.argOK = true) : e.zone = true := by
  cases e <;> first | rfl | exact h | cases h

def resS (tmps : Array Value) : ResultVar → Sem Value
  | .tmp t => pure (tmps.getD t undef)
  | .cell c t => do loadVar t (← asAddr (tmps.getD c undef))

theorem results_eq (fn : Func) (tmps : Array Value) : results fn tmps = (do let vs ← fn.results.mapM (resS tmps); pure (if h : vs.size = 1 then vs[0] else .tuple vs)) := by
  have : (fun rv : ResultVar => match rv with | .tmp t => pure (tmps.getD t undef) | .cell c t => do loadVar t (← asAddr (tmps.getD c undef)) : ResultVar → Sem Value) = resS tmps := by
    funext rv; cases rv <;> rfl
  rw [← this]
  rfl

theorem scal_argB {H : List Cell} {e : AV} (h : e.scal = true) : (argB H e).scal = true := by
  cases e <;> first | rfl | exact h | simp [AV.scal] at h
theorem scal_argA {H : List Cell} {e : AV} (h : e.scal = true) : (argA H e).scal = true := by
  cases e with
  | agg cs =>
    simp only [AV.scal] at h
    simp only [argA, AV.scal]
    induction cs with
    | nil => rfl
    | cons c cs ih =>
      simp only [AV.scalAll, Bool.and_eq_true] at h
      simp only [List.map_cons, AV.scalAll, Bool.and_eq_true]
      exact ⟨scal_argB h.1, ih h.2⟩
  | _ => first | rfl | exact h | simp [AV.scal] at h
theorem scal_ids {e : AV} (h : e.scal = true) : e.ids = [] := by
  have lst : ∀ cs : List AV, AV.scalAll cs = true → cs.flatMap AV.idB = [] := by
    intro cs h
    rw [List.flatMap_eq_nil_iff]
    intro c hc
    obtain ⟨j, hj, rfl⟩ := List.getElem_of_mem hc
    have := AV.scalAll_mem h (List.getElem?_eq_getElem hj)
    revert this
    cases cs[j] <;> simp [AV.idB, AV.scal]
  cases e with
  | agg cs => exact lst cs h
  | tup cs => exact lst cs h
  | _ => first | rfl | simp [AV.scal] at h

/-- One result. -/
theorem resA_ok {X : Ctx} {st : St} {a : Act} (h : RR X M loc st a w) {rv : ResultVar} {p : Prop} {v : AV} (he : resA P st rv = some (p, v)) (hp : p) :
    ∃ x, (resS a.tmps rv).run P w = .ok x w ∧
      RepZ w (fun b => b < w.heap.size ∧ (X.own b ∨ X.Z b)) x v ∧ (freshA st rv = true → RepZ w (fun b => b < w.heap.size ∧ X.own b) x v) := by
  have hM : ∀ b, M b → b < w.heap.size ∧ (X.own b ∨ X.Z b) := fun b hb => ⟨(h.zone b hb).1, (h.zone b hb).2.symm⟩
  cases rv with
  | tmp t =>
    simp only [resA, Option.some.injEq, Prod.mk.injEq] at he
    obtain ⟨rfl, rfl⟩ := he
    have hr : Rep w M loc (a.tmps.getD t undef) (ev st.env (.tmp t)) := h.ev (.tmp t)
    refine ⟨a.tmps.getD t undef, rfl, argA_ok h hM hr hp (fun id o e1 e2 g hg => ?_), fun hf => ?_⟩
    · have hob := h.obj id o e2
      obtain ⟨xs, hown, _⟩ := hob.own
      exact ⟨(hown.lt g hg).2, .inl (hob.mine g hg)⟩
    · simp only [freshA] at hf
      split at hf
      · rename_i id he
        split at hf
        · rename_i o ho
          have hr' : a.tmps.getD t undef = loc id := by rw [he] at hr; exact hr
          have hze : zoneEs o.es = true := by
            cases hz : zoneEs o.es with
            | true => rfl
            | false => rw [he] at hp; simp [argA, ho, hz, AV.argOK] at hp
          have hzz := h.frozenRow ho hze (M' := fun b => M b ∨ (loc id).ownBlock = some b) (fun b hb => .inl hb) (fun g hg => .inr hg)
          rw [hr', he]
          simp only [argA, ho, hze, cond_true]
          obtain ⟨A, cap, k, f, e1, hk, hA, hc, hrr, hcap, hmax⟩ := hzz.sl_inv
          have hob := h.obj id o ho
          obtain ⟨xs, hown, _⟩ := hob.own
          have hmine := hob.mine
          rw [e1] at hown hmine ⊢
          refine .sl A cap k o.es f hk (fun hne => ?_) hc (fun j e hj => ?_) hcap hmax
          · obtain ⟨ad, rfl, _⟩ := hA hne
            have := hown.lt ad.block rfl
            exact ⟨ad, rfl, this.2, hmine ad.block rfl⟩
          · refine (hrr j e hj).of_scal ?_
            obtain ⟨n, hn, hn2⟩ := List.mem_flatMap.1 (List.mem_of_getElem? hj)
            have hs := List.all_eq_true.1 hf n hn
            obtain ⟨q, hq, rfl⟩ := List.getElem_of_mem hn2
            cases n with
            | agg cs => exact AV.scalAll_mem hs (List.getElem?_eq_getElem hq)
            | _ => simp only [AV.flat] at hq ⊢; simp at hq; subst hq; exact hs
        · cases hf
      · rename_i hno
        have hsc : (argA st.heap (ev st.env (.tmp t))).scal = true ∧ RepZ w (fun b => b < w.heap.size ∧ (X.own b ∨ X.Z b)) (a.tmps.getD t undef) (argA st.heap (ev st.env (.tmp t))) ∨ argA st.heap (ev st.env (.tmp t)) = .sl [] ∧ a.tmps.getD t undef = .slice none 0 0 := by
          cases he : ev st.env (.tmp t) with
          | ow id => exact (hno id he).elim
          | wn a b c d => rw [he] at hf; simp [AV.scal] at hf
          | el a b c d => rw [he] at hf; simp [AV.scal] at hf
          | fn a b c => rw [he] at hf; simp [AV.scal] at hf
          | mb a b => rw [he] at hf; simp [AV.scal] at hf
          | nil =>
            right
            rw [he] at hr
            exact ⟨rfl, hr.nil_inv⟩
          | _ =>
            left
            rw [he] at hf hr hp
            exact ⟨scal_argA hf, argA_ok h hM hr hp (fun id o e1 e2 g hg => by rw [scal_ids hf] at e1; cases e1)⟩
        rcases hsc with ⟨h1, h2⟩ | ⟨h1, h2⟩
        · exact h2.of_scal h1
        · rw [h1, h2]
          exact .sl none 0 0 [] (fun _ => undef) (by simp) (by simp) (by simp) (by simp) (by simp) (by simp)
  | cell c t =>
    simp only [resA] at he
    split at he
    · rename_i K hK
      split at he
      · rename_i id k i off hc
        cases hl : loadA K st.heap (.el id k i off) with
        | none => simp [hl] at he
        | some pr =>
          obtain ⟨p', r⟩ := pr
          simp only [hl, Option.map_some, Option.some.injEq, Prod.mk.injEq] at he
          obtain ⟨rfl, rfl⟩ := he
          have hr : Rep w M loc (a.tmps.getD c undef) (ev st.env (.tmp c)) := h.ev (.tmp c)
          rw [hc] at hr
          obtain ⟨x, h1, h2⟩ := loadA_ok (P := P) (X := X) (fun id o ho => h.obj id o ho) hK hr hl hp.1
          obtain ⟨g, n, cc, _, hv⟩ := hr
          refine ⟨x, ?_, RepZ.mono (fun _ _ => rfl) hM (h2.repZ hp.2), fun hf => by cases hf⟩
          rw [hv] at h1
          simp only [Instr.loadAt, Instr.sureAddr, Sem.run_bind, Sem.run_pure, Result.andThen_ok] at h1
          simp only [resS, hv, asAddr, Sem.run_bind, Sem.run_pure, Result.andThen_ok, h1]
      · cases he
    · cases he

theorem resL_ok {X : Ctx} {st : St} {a : Act} (h : RR X M loc st a w) : ∀ (rs : List ResultVar) (p : Prop) (vs : List AV), resL P st rs = some (p, vs) → p →
    ∃ xs : List Value, (rs.mapM (resS a.tmps)).run P w = .ok xs w ∧ xs.length = vs.length ∧
      (∀ (j : Nat) (x : Value) (v : AV), xs[j]? = some x → vs[j]? = some v → RepZ w (fun b => b < w.heap.size ∧ (X.own b ∨ X.Z b)) x v) ∧
      (rs.all (fun r => freshA st r) = true → ∀ (j : Nat) (x : Value) (v : AV), xs[j]? = some x → vs[j]? = some v → RepZ w (fun b => b < w.heap.size ∧ X.own b) x v)
  | [], p, vs, he, _ => by
    simp only [resL, Option.some.injEq, Prod.mk.injEq] at he
    obtain ⟨-, rfl⟩ := he
    exact ⟨[], by simp, rfl, by simp, by simp⟩
  | r :: rs, p, vs, he, hp => by
    simp only [resL] at he
    split at he
    · rename_i p1 v1 q1 vs1 h1 h2
      simp only [Option.some.injEq, Prod.mk.injEq] at he
      obtain ⟨rfl, rfl⟩ := he
      obtain ⟨x, e1, e2, e3⟩ := resA_ok (P := P) h h1 hp.1
      obtain ⟨xs, f1, f2, f3, f4⟩ := resL_ok h rs q1 vs1 h2 hp.2
      refine ⟨x :: xs, ?_, by simp [f2], fun j y v hy hv => ?_, fun hf j y v hy hv => ?_⟩
      · rw [List.mapM_cons]
        simp only [Sem.run_bind, e1, Result.andThen_ok, f1, Sem.run_pure]
      · cases j with
        | zero => simp at hy hv; subst hy; subst hv; exact e2
        | succ j => exact f3 j y v (by simpa using hy) (by simpa using hv)
      · simp only [List.all_cons, Bool.and_eq_true] at hf
        cases j with
        | zero => simp at hy hv; subst hy; subst hv; exact e3 hf.1
        | succ j => exact f4 hf.2 j y v (by simpa using hy) (by simpa using hv)
    · cases he

/-- How a call begins. -/
theorem start_env {N : Nat} {w : World} {M : Nat → Prop} {loc : Nat → Value} {vs : Array Value} {args : List AV} (hl : vs.size = args.length) (hn : args.length ≤ N) (hvs : ∀ (j : Nat) (x : Value) (e : AV), vs[j]? = some x → args[j]? = some e → Rep w M loc x e) (s : Nat) :
    Rep w M loc ((vs ++ Array.replicate (N - vs.size) undef).getD s undef) (argE 0 args s) := by
  rw [argE_get 0 s args (by omega), List.getD_eq_getElem?_getD, Nat.sub_zero]
  cases hs : args[s]? with
  | none => exact (RepZ.bad _).rep
  | some e =>
    have hsl : s < args.length := (List.getElem?_eq_some_iff.1 hs).1
    have hv : vs[s]? = some (vs[s]'(by omega)) := Array.getElem?_eq_getElem _
    have hg : (vs ++ Array.replicate (N - vs.size) undef).getD s undef = vs[s]'(by omega) := by
      rw [Array.getD_eq_getD_getElem?, Array.getElem?_append_left (by omega), hv]; rfl
    rw [hg]
    exact hvs s _ e hv hs

theorem argE_bad {args : List AV} {s : Nat} (h : args.length ≤ s) : argE 0 args s = .bad := by
  rw [argE_get 0 s args (by omega), List.getD_eq_getElem?_getD, List.getElem?_eq_none (by omega)]; rfl

/-- A FUNCTION's CONTRACT. -/
theorem means_of {f : FuncId} {fn : Func} {c : Code} {args : List AV} {r : AV} (fr : Bool) (hf : P.funcs[f]? = some fn) (hb : fn.body = some c) (hn : args.length ≤ fn.ntmps) (hG : fn.ntmps ≤ G0) (hz : args.all AV.zone = true)
    (h : ∀ X : Ctx, X.n = fn.ntmps → AWP P X c (retQ P fn.results.toList fr (fun v => v = r)) ⟨argE 0 args, []⟩) : Means fr P f args r := by
  intro Z w vs hZ hgl hl hvs
  refine calls_of_wp hf hb ?_
  let X : Ctx := ⟨w, Z, fn.ntmps, fun _ => False, fun _ => undef, hgl, fun _ _ h => h⟩
  have hown : ∀ b, X.own b ↔ w.heap.size ≤ b := fun b => ⟨fun h => h.elim id False.elim, .inl⟩
  let a0 : Act := { tmps := vs ++ Array.replicate (fn.ntmps - vs.size) undef, defers := [] }
  have hrr : RR X Z (fun _ => undef) ⟨argE 0 args, []⟩ a0 w := by
    have hzz : ∀ s, (argE 0 args s).zone = true := by
      intro s
      rw [argE_get 0 s args (by omega), List.getD_eq_getElem?_getD]
      cases hs : args[s - 0]? with
      | none => rfl
      | some e => exact List.all_eq_true.1 hz e (List.mem_of_getElem? hs)
    refine ⟨fun s => ?_, hG, by simp [a0, X]; omega, rfl, fun id o ho => by simp at ho, fun i j oi oj _ hi => by simp at hi, fun id m hm => by simp at hm, fun i j mi mj _ hi => by simp at hi, ⟨rfl, rfl, rfl, Nat.le_refl _, fun _ _ _ => rfl⟩, fun b hb => ⟨hZ b hb, .inl hb⟩, fun b hb => hb, fun b hb => hZ b hb, fun id hid => by simp at hid, fun s => zone_idLt (hzz s) _⟩
    show Rep w Z _ _ (argE 0 args s)
    by_cases hs : s < G0
    · rw [if_pos hs]
      exact start_env hl hn (fun j x e h1 h2 => (hvs j x e h1 h2).rep) s
    · rw [argE_bad (by omega)]; exact (RepZ.bad _).rep
  refine wp_mono (h X rfl a0 w ⟨Z, _, hrr⟩) fun e a' w' ⟨st', hq, hr⟩ => ?_
  obtain ⟨M, loc, hr⟩ := hr
  have key : (match resL P st' fn.results.toList with
    | some (p, vs) => p ∧ packA vs = r ∧ (fr = true → (packA vs).scal = true ∨ (fn.results.toList.all (fun r => freshA st' r) = true))
    | none => False) →
      a'.defers = [] ∧ ∃ v, (results fn a'.tmps).run P w' = .ok v w' ∧ ∃ x, Ending.returned v = .returned x ∧ Below w.heap.size w w' ∧ RepZ w' (fun b => b < w'.heap.size ∧ (w.heap.size ≤ b ∨ (fr = false ∧ Z b))) x r := by
    intro hq
    split at hq
    case h_2 => exact hq.elim
    rename_i p rvs h1
    obtain ⟨h2, rfl, h3⟩ := hq
    obtain ⟨xs, e1, e2, e3, e4⟩ := resL_ok (P := P) hr fn.results.toList p rvs h1 h2
    refine ⟨hr.defers, (if h : xs.toArray.size = 1 then xs.toArray[0] else .tuple xs.toArray), ?_, _, rfl, ⟨hr.below.os, hr.below.tape, hr.below.output, hr.below.size, fun k hk => hr.below.block k hk (fun h => h)⟩, ?_⟩
    · rw [results_eq, Array.mapM_eq_mapM_toList]
      simp only [Sem.run_map, Sem.run_bind, e1, Result.andThen_ok, Sem.run_pure]
    · have pack : ∀ (N : Nat → Prop), (∀ (j : Nat) (x : Value) (v : AV), xs[j]? = some x → rvs[j]? = some v → RepZ w' N x v) → RepZ w' N (if h : xs.toArray.size = 1 then xs.toArray[0] else .tuple xs.toArray) (packA rvs) := by
        intro N hN
        match xs, rvs, e2 with
        | [], [], _ => exact .tup #[] [] rfl (by simp)
        | [x], [v], _ => exact hN 0 x v rfl rfl
        | x :: y :: xs, v :: u :: vs, hl => 
          have hne : ¬ (x :: y :: xs).toArray.size = 1 := by simp
          rw [dif_neg hne]
          exact .tup _ _ (by simpa using hl) (fun j c e hc he => hN j c e (by simpa using hc) he)
      cases fr with
      | false => exact (pack _ e3).mono (fun _ _ => rfl) (fun b hb => ⟨hb.1, hb.2.imp (hown b).1 fun hz => ⟨rfl, hz⟩⟩)
      | true =>
        rcases h3 rfl with h3 | h3
        · exact (pack _ e3).of_scal h3
        · exact (pack _ (e4 h3)).mono (fun _ _ => rfl) (fun b hb => ⟨hb.1, .inl ((hown b).1 hb.2)⟩)
  cases e with
  | normal => exact key hq
  | ret => exact key hq
  | exit i => exact hq.elim
  | goto l => exact hq.elim
  | panic c => exact hq.elim
  | outgrown => exact hq.elim

end
end Go.Ab
