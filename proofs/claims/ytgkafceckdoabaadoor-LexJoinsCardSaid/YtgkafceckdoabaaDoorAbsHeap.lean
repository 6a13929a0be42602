/-
  Contracts of functions that read and write rows that their caller owns.
-/
import Derived.Test.YtgkafceckdoabaaDoorAbsFn
set_option linter.all false
namespace Go.Ab
open Go.RowKit

/-- The blocks of a heap's rows and maps. -/
def blks (H : List Cell) (loc : Nat → Value) (b : Nat) : Prop :=
  (∃ id o, H[id]? = some (.row o) ∧ (loc id).ownBlock = some b) ∨ ∃ id m, H[id]? = some (.map m) ∧ loc id = .map (some b)

/-- A heap's rows and maps lie in memory. -/
structure HeapS (own : Nat → Prop) (M : Nat → Prop) (loc : Nat → Value) (H : List Cell) (w : World) : Prop where
  obj : ∀ id o, H[id]? = some (.row o) → ObjOK own w M loc H.length (loc id) o
  sep : ∀ i j oi oj, i ≠ j → H[i]? = some (.row oi) → H[j]? = some (.row oj) → (loc i).ownBlock = none ∨ (loc i).ownBlock ≠ (loc j).ownBlock
  mobj : ∀ id m, H[id]? = some (.map m) → MapOK own w M (loc id) m
  msep : ∀ i j mi mj, i ≠ j → H[i]? = some (.map mi) → H[j]? = some (.map mj) → loc i ≠ loc j
  one : ∀ id, id < H.length → (loc id).oneCell' = true

/-- Called with such values over such rows, f returns a value that reads as r, and leaves the rows as H' says: those that were there keep their numbers. -/
def MeansH (P : Program) (f : FuncId) (H : List Cell) (args : List AV) (r : AV) (H' : List Cell) : Prop :=
  ∀ (w : World) (M : Nat → Prop) (loc : Nat → Value) (vs : Array Value), (∀ b, M b → b < w.heap.size) → GlobW w M → HeapS (blks H loc) M loc H w → vs.size = args.length →
    (∀ (j : Nat) (x : Value) (e : AV), vs[j]? = some x → args[j]? = some e → Rep w M loc x e ∧ e.idLt H.length) →
    Calls P f vs w fun e w' => ∃ x M' loc', e = .returned x ∧ HeapS (fun b => w.heap.size ≤ b ∨ blks H loc b) M' loc' H' w' ∧ BelowT (blks H loc) w w' ∧ (∀ b, M b → M' b) ∧
      (∀ b, M' b → b < w'.heap.size ∧ (M b ∨ w.heap.size ≤ b ∨ blks H loc b)) ∧ (∀ id, id < H.length → loc' id = loc id) ∧ Rep w' M' loc' x r ∧ r.idLt H'.length ∧ H.length ≤ H'.length

theorem blks_away {H : List Cell} {loc : Nat → Value} {own M : Nat → Prop} {w : World} (h : HeapS own M loc H w) {b : Nat} (hb : blks H loc b) : ¬ M b := by
  rcases hb with ⟨id, o, ho, hg⟩ | ⟨id, m, hm, hg⟩
  · exact (h.obj id o ho).away b hg
  · obtain ⟨g, es, c, h1, _, h3, _⟩ := (h.mobj id m hm).own
    rw [hg] at h1; cases h1; exact h3

theorem ObjOK.imp {own own' : Nat → Prop} {w : World} {M : Nat → Prop} {loc : Nat → Value} {n : Nat} {sv : Value} {o : Ob} (h : ObjOK own w M loc n sv o) (hi : ∀ b, own b → own' b) : ObjOK own' w M loc n sv o :=
  ⟨h.own, h.flat, h.away, fun g hg => hi g (h.mine g hg)⟩
theorem MapOK.imp {own own' : Nat → Prop} {w : World} {M : Nat → Prop} {sv : Value} {m : MOb} (h : MapOK own w M sv m) (hi : ∀ b, own b → own' b) : MapOK own' w M sv m := by
  obtain ⟨g, es, c, h1, h2, h3⟩ := h.own
  exact ⟨g, es, c, h1, hi g h2, h3⟩

/-- The rows that a call begins with are kept in mind. -/
def ghE : Nat → (Nat → AV) → Nat → AV
  | 0, f => f
  | m + 1, f => upd (ghE m f) (G0 + m) (.ow m)

theorem ghE_lt {m s : Nat} {f : Nat → AV} (h : s < G0) : ghE m f s = f s := by
  induction m with
  | zero => rfl
  | succ m ih => simp only [ghE, upd]; rw [if_neg (by omega)]; exact ih
theorem ghE_in {m i : Nat} {f : Nat → AV} (h : i < m) : ghE m f (G0 + i) = .ow i := by
  induction m with
  | zero => omega
  | succ m ih =>
    simp only [ghE, upd]
    by_cases hi : i = m
    · subst hi; rw [if_pos rfl]
    · rw [if_neg (by omega)]; exact ih (by omega)
theorem ghE_out {m i : Nat} {f : Nat → AV} (h : m ≤ i) : ghE m f (G0 + i) = f (G0 + i) := by
  induction m with
  | zero => rfl
  | succ m ih => simp only [ghE, upd]; rw [if_neg (by omega)]; exact ih (by omega)

/-- The abstract value of a result, rows of the call's own among them. -/
def resH (P : Program) (st : St) : ResultVar → Option (Prop × AV)
  | .tmp t => some ((ev st.env (.tmp t)).flatB = true, ev st.env (.tmp t))
  | .cell t T => match tyk P T with
    | some K => match ev st.env (.tmp t) with
      | .el id k i off => (loadA K st.heap (.el id k i off)).map fun (p, r) => (p ∧ r.flatB = true, r)
      | _ => none
    | none => none

def resHL (P : Program) (st : St) : List ResultVar → Option (Prop × List AV)
  | [] => some (True, [])
  | r :: l => match resH P st r, resHL P st l with
    | some (p, v), some (q, vs) => some (p ∧ q, v :: vs)
    | _, _ => none

/-- Which slots hold the rows that the call began with. -/
def okG (L : List (Nat × AV)) : Nat → Prop
  | 0 => True
  | m + 1 => mkE L (G0 + m) = .ow m ∧ okG L m

/-- What is asked where such a function ends. -/
def retH (P : Program) (rs : List ResultVar) (m : Nat) (r : AV) (H' : List Cell) : Exit → St → Prop
  | .normal, st | .ret, st => ∃ L HS, okS HS st.heap HS ∧ okL HS st L ∧ HS.map Src.cell = H' ∧ m ≤ HS.length ∧ okG L m ∧ ((match resHL P ⟨mkE L, HS.map Src.cell⟩ rs with
    | some (p, vs) => p ∧ packA vs = r
    | none => False) ∨ (match resHL P st rs with
    | some (p, vs) => p ∧ (packA vs).zone = true ∧ packA vs = r
    | none => False))
  | _, _ => False

section
variable {P : Program} {w : World} {M : Nat → Prop} {loc : Nat → Value}

theorem okG_get {L : List (Nat × AV)} : ∀ {m i : Nat}, okG L m → i < m → mkE L (G0 + i) = .ow i
  | m + 1, i, h, hi => by
    by_cases he : i = m
    · subst he; exact h.1
    · exact okG_get h.2 (by omega)

theorem resH_ok {X : Ctx} {st : St} {a : Act} (h : RR X M loc st a w) {rv : ResultVar} {p : Prop} {v : AV} (he : resH P st rv = some (p, v)) (hp : p) :
    ∃ x, (resS a.tmps rv).run P w = .ok x w ∧ RepB w M loc x v ∧ v.idLt st.heap.length ∧ v.flatB = true := by
  cases rv with
  | tmp t =>
    simp only [resH, Option.some.injEq, Prod.mk.injEq] at he
    obtain ⟨rfl, rfl⟩ := he
    have hr : Rep w M loc (a.tmps.getD t undef) (ev st.env (.tmp t)) := h.ev (.tmp t)
    exact ⟨a.tmps.getD t undef, rfl, hr.repB hp, h.evLt (.tmp t), hp⟩
  | cell c t =>
    simp only [resH] at he
    split at he
    · rename_i K hK
      split at he
      · rename_i id k i off hc
        cases hl : loadA K st.heap (.el id k i off) with
        | none => simp [hl] at he
        | some pr =>
          obtain ⟨p', r⟩ := pr
          simp only [hl, Option.map_some, Option.some.injEq, Prod.mk.injEq] at he
          obtain ⟨rfl, rfl⟩ := he
          have hr : Rep w M loc (a.tmps.getD c undef) (ev st.env (.tmp c)) := h.ev (.tmp c)
          rw [hc] at hr
          obtain ⟨x, h1, h2⟩ := loadA_ok (P := P) (X := X) (fun id o ho => h.obj id o ho) hK hr hl hp.1
          obtain ⟨g, n, cc, _, hv⟩ := hr
          refine ⟨x, ?_, h2.repB hp.2, loadA_lt (fun id o ho => h.obj id o ho) hl hp.1, hp.2⟩
          rw [hv] at h1
          simp only [Instr.loadAt, Instr.sureAddr, Sem.run_bind, Sem.run_pure, Result.andThen_ok] at h1
          simp only [resS, hv, asAddr, Sem.run_bind, Sem.run_pure, Result.andThen_ok, h1]
      · cases he
    · cases he

theorem resHL_ok {X : Ctx} {st : St} {a : Act} (h : RR X M loc st a w) : ∀ (rs : List ResultVar) (p : Prop) (vs : List AV), resHL P st rs = some (p, vs) → p →
    ∃ xs : List Value, (rs.mapM (resS a.tmps)).run P w = .ok xs w ∧ xs.length = vs.length ∧
      (∀ (j : Nat) (x : Value) (v : AV), xs[j]? = some x → vs[j]? = some v → RepB w M loc x v) ∧ ∀ v ∈ vs, v.idLt st.heap.length ∧ v.flatB = true
  | [], p, vs, he, _ => by
    simp only [resHL, Option.some.injEq, Prod.mk.injEq] at he
    obtain ⟨-, rfl⟩ := he
    exact ⟨[], by simp, rfl, by simp, by simp⟩
  | r :: rs, p, vs, he, hp => by
    simp only [resHL] at he
    split at he
    · rename_i p1 v1 q1 vs1 h1 h2
      simp only [Option.some.injEq, Prod.mk.injEq] at he
      obtain ⟨rfl, rfl⟩ := he
      obtain ⟨x, e1, e2, e3⟩ := resH_ok (P := P) h h1 hp.1
      obtain ⟨xs, f1, f2, f3, f4⟩ := resHL_ok h rs q1 vs1 h2 hp.2
      refine ⟨x :: xs, ?_, by simp [f2], fun j y v hy hv => ?_, fun v hv => ?_⟩
      · rw [List.mapM_cons]
        simp only [Sem.run_bind, e1, Result.andThen_ok, f1, Sem.run_pure]
      · cases j with
        | zero => simp at hy hv; subst hy; subst hv; exact e2
        | succ j => exact f3 j y v (by simpa using hy) (by simpa using hv)
      · rcases List.mem_cons.1 hv with rfl | hv
        · exact e3
        · exact f4 v hv
    · cases he

/-- SUCH A FUNCTION's CONTRACT. -/
theorem meansH_of {f : FuncId} {fn : Func} {c : Code} {H H' : List Cell} {args : List AV} {r : AV} (hf : P.funcs[f]? = some fn) (hb : fn.body = some c) (hn : args.length ≤ fn.ntmps) (hG : fn.ntmps ≤ G0)
    (h : ∀ X : Ctx, X.n = fn.ntmps → AWP P X c (retH P fn.results.toList H.length r H') ⟨ghE H.length (argE 0 args), H⟩) : MeansH P f H args r H' := by
  intro w M loc vs hM hgl hH hl hvs
  refine calls_of_wp hf hb ?_
  let X : Ctx := ⟨w, M, fn.ntmps, blks H loc, loc, hgl, fun p hp hb => blks_away hH hb (hgl p hp).1⟩
  let a0 : Act := { tmps := vs ++ Array.replicate (fn.ntmps - vs.size) undef, defers := [] }
  have hrr : RR X M loc ⟨ghE H.length (argE 0 args), H⟩ a0 w := by
    refine ⟨fun s => ?_, hG, by simp [a0, X]; omega, rfl, fun id o ho => (hH.obj id o ho).imp fun b hb => .inr hb, hH.sep, fun id m hm => (hH.mobj id m hm).imp fun b hb => .inr hb, hH.msep, ⟨rfl, rfl, rfl, Nat.le_refl _, fun _ _ _ => rfl⟩, fun b hb => ⟨hM b hb, .inl hb⟩, fun b hb => hb, fun b hb => hM b hb, hH.one, fun s => ?_⟩
    · show Rep w M loc (if s < G0 then a0.tmps.getD s undef else X.gh (s - G0)) (ghE H.length (argE 0 args) s)
      by_cases hs : s < G0
      · rw [if_pos hs, ghE_lt hs]
        exact start_env hl hn (fun j x e h1 h2 => (hvs j x e h1 h2).1) s
      · rw [if_neg hs]
        obtain ⟨i, rfl⟩ : ∃ i, s = G0 + i := ⟨s - G0, by omega⟩
        by_cases hi : i < H.length
        · rw [ghE_in hi, Nat.add_sub_cancel_left]
          exact RepO.rep (e := .ow i) rfl
        · rw [ghE_out (by omega), argE_bad (by omega)]
          exact (RepZ.bad _).rep
    · show (ghE H.length (argE 0 args) s).idLt H.length
      by_cases hs : s < G0
      · rw [ghE_lt hs, argE_get 0 s args (by omega), List.getD_eq_getElem?_getD, Nat.sub_zero]
        cases hs : args[s]? with
        | none => trivial
        | some e =>
          have hsl : s < args.length := (List.getElem?_eq_some_iff.1 hs).1
          exact (hvs s _ e (Array.getElem?_eq_getElem (by omega)) hs).2
      · obtain ⟨i, rfl⟩ : ∃ i, s = G0 + i := ⟨s - G0, by omega⟩
        by_cases hi : i < H.length
        · rw [ghE_in hi]; exact hi
        · rw [ghE_out (by omega), argE_bad (by omega)]; trivial
  refine wp_mono (h X rfl a0 w ⟨M, loc, hrr⟩) fun e a' w' ⟨st', hq, hr⟩ => ?_
  have key : (∃ L HS, okS HS st'.heap HS ∧ okL HS st' L ∧ HS.map Src.cell = H' ∧ H.length ≤ HS.length ∧ okG L H.length ∧ ((match resHL P ⟨mkE L, HS.map Src.cell⟩ fn.results.toList with
    | some (p, vs) => p ∧ packA vs = r
    | none => False) ∨ (match resHL P st' fn.results.toList with
    | some (p, vs) => p ∧ (packA vs).zone = true ∧ packA vs = r
    | none => False))) → a'.defers = [] ∧ ∃ v, (results fn a'.tmps).run P w' = .ok v w' ∧ (∃ x M' loc', Ending.returned v = .returned x ∧ HeapS (fun b => w.heap.size ≤ b ∨ blks H loc b) M' loc' H' w' ∧ BelowT (blks H loc) w w' ∧ (∀ b, M b → M' b) ∧
      (∀ b, M' b → b < w'.heap.size ∧ (M b ∨ w.heap.size ≤ b ∨ blks H loc b)) ∧ (∀ id, id < H.length → loc' id = loc id) ∧ Rep w' M' loc' x r ∧ r.idLt H'.length ∧ H.length ≤ H'.length) := by
    rintro ⟨L, HS, hS, hL, rfl, hlen, hg, hres⟩
    obtain ⟨M0, loc0, hr0⟩ := hr
    obtain ⟨M', loc', hMM, hr'⟩ := sub_ofM L HS hS hL hr0
    have fin : ∀ (v : Value), (results fn a'.tmps).run P w' = .ok v w' → Rep w' M' loc' v r → r.idLt (HS.map Src.cell).length → a'.defers = [] ∧ ∃ v, (results fn a'.tmps).run P w' = .ok v w' ∧ (∃ x M' loc', Ending.returned v = .returned x ∧ HeapS (fun b => w.heap.size ≤ b ∨ blks H loc b) M' loc' (HS.map Src.cell) w' ∧ BelowT (blks H loc) w w' ∧ (∀ b, M b → M' b) ∧
      (∀ b, M' b → b < w'.heap.size ∧ (M b ∨ w.heap.size ≤ b ∨ blks H loc b)) ∧ (∀ id, id < H.length → loc' id = loc id) ∧ Rep w' M' loc' x r ∧ r.idLt (HS.map Src.cell).length ∧ H.length ≤ (HS.map Src.cell).length) := by
      intro v hv hrv hrl
      refine ⟨hr'.defers, v, hv, _, M', loc', rfl, ⟨hr'.obj, hr'.sep, hr'.mobj, hr'.msep, hr'.one⟩, hr'.below, hr'.zin, hr'.zone, fun id hid => ?_, hrv, hrl, by simpa using hlen⟩
      have := hr'.env (G0 + id)
      rw [Nat.add_sub_cancel_left, if_neg (by omega)] at this
      have e0 : mkE L (G0 + id) = .ow id := okG_get hg hid
      have e2 : Rep w' M' loc' (X.gh id) (.ow id) := by rw [← e0]; exact this
      have e3 : X.gh id = loc' id := e2
      exact e3.symm
    have pack : ∀ (N : Nat) (M : Nat → Prop) (loc : Nat → Value) (xs : List Value) (rvs : List AV), xs.length = rvs.length → (∀ (j : Nat) (x : Value) (v : AV), xs[j]? = some x → rvs[j]? = some v → RepB w' M loc x v) → (∀ v ∈ rvs, v.idLt N ∧ v.flatB = true) →
        Rep w' M loc (if h : xs.toArray.size = 1 then xs.toArray[0] else .tuple xs.toArray) (packA rvs) ∧ (packA rvs).idLt N := by
      intro N M loc xs rvs e2 e3 e4
      refine ⟨?_, ?_⟩
      · match xs, rvs, e2 with
        | [], [], _ => exact RepZ.rep (.tup #[] [] rfl (by simp))
        | [x], [v], _ => exact (e3 0 x v rfl rfl).rep
        | x :: y :: xs, v :: u :: vs, hl =>
          have hne : ¬ (x :: y :: xs).toArray.size = 1 := by simp
          rw [dif_neg hne]
          exact ⟨_, rfl, by simpa using hl, fun j c e hc he => e3 j c e (by simpa using hc) he⟩
      · match rvs with
        | [] => exact fun e he => by cases he
        | [v] => exact (e4 v (by simp)).1
        | v :: u :: vs =>
          intro e he id hid
          have := e4 e he
          rw [AV.idB_ids this.2] at hid
          exact (idLt_iff _ _).1 this.1 id hid
    rcases hres with hres | hres
    · split at hres
      case h_2 => exact hres.elim
      rename_i p rvs h1
      obtain ⟨h2, rfl⟩ := hres
      obtain ⟨xs, e1, e2, e3, e4⟩ := resHL_ok (P := P) hr' fn.results.toList p rvs h1 h2
      obtain ⟨p1, p2⟩ := pack _ M' loc' xs rvs e2 e3 e4
      refine fin _ ?_ p1 p2
      rw [results_eq, Array.mapM_eq_mapM_toList]
      simp only [Sem.run_map, Sem.run_bind, e1, Result.andThen_ok, Sem.run_pure]
    · split at hres
      case h_2 => exact hres.elim
      rename_i p rvs h1
      obtain ⟨h2, hz, rfl⟩ := hres
      obtain ⟨xs, e1, e2, e3, e4⟩ := resHL_ok (P := P) hr0 fn.results.toList p rvs h1 h2
      obtain ⟨p1, _⟩ := pack _ M0 loc0 xs rvs e2 e3 e4
      refine fin _ ?_ ((p1.repZ hz).mono (fun _ _ => rfl) hMM).rep (zone_idLt hz _)
      rw [results_eq, Array.mapM_eq_mapM_toList]
      simp only [Sem.run_map, Sem.run_bind, e1, Result.andThen_ok, Sem.run_pure]
  cases e with
  | normal => exact key hq
  | ret => exact key hq
  | exit i => exact hq.elim
  | goto l => exact hq.elim
  | panic c => exact hq.elim
  | outgrown => exact hq.elim

end
end Go.Ab
