/-
  A step in the order of the text: calls over rows, loads of rows' names.
-/
import Derived.Test.YtgkafceckdoabaaDoorAbsHeap3
set_option linter.all false
namespace Go.Ab
open Go.RowKit

/-- The rows that are handed over are as the contract has them. -/
def okCells (u : Nat → Nat) (H : List Cell) : List Nat → List Cell → Prop
  | [], [] => True
  | p :: ps, c :: cs => H[p]? = some (renCell u c) ∧ okCells u H ps cs
  | _, _ => False

def okRowIds (m : Nat) : List Cell → Prop
  | [] => True
  | .row o :: l => (zoneEs o.es = true ∨ ∀ e ∈ o.es.flatMap AV.flat, e.idLt m) ∧ okRowIds m l
  | _ :: l => okRowIds m l

/-- An argument as the contract has it. -/
def okArg (u : Nat → Nat) (m : Nat) (a e : AV) : Prop := (a = ren u e ∨ a = .nil ∧ e = .sl []) ∧ e.idLt m
def okArgs (u : Nat → Nat) (m : Nat) : List AV → List AV → Prop
  | [], [] => True
  | a :: as, e :: es => okArg u m a e ∧ okArgs u m as es
  | _, _ => False

def CallHC (H : List Cell) (raw : List AV) (ps : List Nat) (Hl : List Cell) (largs : List AV) : Prop :=
  ps.Nodup ∧ (∀ c ∈ ps, c < H.length) ∧ okCells (upN ps H.length) H ps Hl ∧ okRowIds Hl.length Hl ∧ okArgs (upN ps H.length) Hl.length raw largs

/-- A call over rows. -/
def CallHA (P : Program) (H : List Cell) (ρ : Operand → AV) (c : Call) (r : AV) (H2 : List Cell) : Prop :=
  ∃ f first cap ps Hl largs r0 H', tgt ρ c.callee = some (f, first, cap) ∧ callable P f = true ∧ MeansH P f Hl largs r0 H' ∧ CallHC H (first ++ c.args.toList.map ρ ++ cap) ps Hl largs ∧
    r = ren (upN ps H.length) r0 ∧ H2 = heapAfter H ps H'

section
variable {P : Program} {w : World} {M : Nat → Prop} {loc : Nat → Value}

theorem okCells_get {u : Nat → Nat} {H : List Cell} : ∀ {ps : List Nat} {cs : List Cell} {i p : Nat}, okCells u H ps cs → ps[i]? = some p → H[p]? = cs[i]?.map (renCell u)
  | [], [], i, p, _, h => by simp at h
  | q :: ps, c :: cs, 0, p, h, hp => by simp at hp; subst hp; exact h.1
  | q :: ps, c :: cs, i + 1, p, h, hp => by
    have := okCells_get h.2 (i := i) (p := p) (by simpa using hp)
    simpa using this
  | [], _ :: _, _, _, h, _ => h.elim
  | _ :: _, [], _, _, h, _ => h.elim
theorem okCells_len {u : Nat → Nat} {H : List Cell} : ∀ {ps : List Nat} {cs : List Cell}, okCells u H ps cs → cs.length = ps.length
  | [], [], _ => rfl
  | q :: ps, c :: cs, h => by simp [okCells_len h.2]
  | [], _ :: _, h => h.elim
  | _ :: _, [], h => h.elim
theorem okRowIds_get {m : Nat} : ∀ {H : List Cell}, okRowIds m H → okIds m H
  | [], _, i, o, h => by simp at h
  | c :: H, hc, 0, o, h => by
    simp at h
    subst h
    intro e he
    rcases hc.1 with hz | hz
    · obtain ⟨j, hj, rfl⟩ := List.getElem_of_mem he
      exact zone_idLt (zoneEs_flat hz (List.getElem?_eq_getElem hj)) m
    · exact hz e he
  | c :: H, hc, i + 1, o, h => by
    refine okRowIds_get (m := m) (H := H) ?_ i o (by simpa using h)
    cases c with
    | row o => exact hc.2
    | dead => exact hc
    | map m => exact hc
theorem okArgs_len {u : Nat → Nat} {m : Nat} : ∀ {as es : List AV}, okArgs u m as es → as.length = es.length
  | [], [], _ => rfl
  | a :: as, e :: es, h => by simp [okArgs_len h.2]
  | [], _ :: _, h => h.elim
  | _ :: _, [], h => h.elim
theorem okArgs_get {u : Nat → Nat} {m : Nat} : ∀ {as es : List AV} {j : Nat} {e : AV}, okArgs u m as es → es[j]? = some e → ∃ a, as[j]? = some a ∧ okArg u m a e
  | [], [], j, e, _, h => by simp at h
  | a :: as, d :: es, 0, e, h, he => by simp at he; subst he; exact ⟨a, rfl, h.1⟩
  | a :: as, d :: es, j + 1, e, h, he => by
    obtain ⟨b, h1, h2⟩ := okArgs_get h.2 (j := j) (by simpa using he)
    exact ⟨b, by simpa using h1, h2⟩
  | [], _ :: _, _, _, h, _ => h.elim
  | _ :: _, [], _, _, h, _ => h.elim

/-- What such a call does. -/
theorem CallHA_ok {X : Ctx} {st : St} {o : Oper} {a : Act} {ρ : Operand → AV} (h : RR X M loc st a w) {c : Call} (ho : o.op = .call c) (hρ : ∀ x ∈ o.op.operands, Rep w M loc (a.eval x) (ρ x)) {r : AV} {H2 : List Cell} (hc : CallHA P st.heap ρ c r H2) :
    ∃ f vs, (execOp a.eval o).run P w = .ok (.enter f vs) w ∧ Calls P f vs w fun e w' => ∃ x M' loc', e = .returned x ∧ RR X M' loc' ⟨st.env, H2⟩ a w' ∧ Rep w' M' loc' x r ∧ r.idLt H2.length := by
  obtain ⟨f, first, cap, ps, Hl, largs, r0, H', ht, hcall, hm, ⟨hnd, hlt, hcells, hids, hargs⟩, rfl, rfl⟩ := hc
  obtain ⟨dst, op, ty, pos, after, guard⟩ := o
  simp only [] at ho hρ
  subst ho
  obtain ⟨callee, args, ats⟩ := c
  simp only [] at ht hargs hm
  cases callee with
  | invoke x m => simp [tgt] at ht
  | builtin b => simp [tgt] at ht
  | value x =>
    have hx := hρ x (by simp [Op.operands, Call.operands])
    have hclo : ∃ fi ca, a.eval x = .func (.func f) fi ca ∧ fi.size = first.length ∧ ca.size = cap.length ∧
        (∀ (j : Nat) (c : Value) (e : AV), fi[j]? = some c → first[j]? = some e → Rep w M loc c e) ∧ (∀ (j : Nat) (c : Value) (e : AV), ca[j]? = some c → cap[j]? = some e → Rep w M loc c e) := by
      simp only [tgt] at ht
      split at ht
      · rename_i f' fi ca e1
        rw [e1] at hx
        simp only [Option.some.injEq, Prod.mk.injEq] at ht
        obtain ⟨rfl, rfl, rfl⟩ := ht
        have hv : ∀ (l : Array Value) (j : Nat) (c : Value) (e : AV), l[j]? = some c → (l.toList.map AV.v)[j]? = some e → Rep w M loc c e := by
          intro l j c e h1 h2
          rw [List.getElem?_map, Array.getElem?_toList, h1] at h2
          cases h2
          exact (RepZ.v c).rep
        exact ⟨fi, ca, hx.v_inv, by simp, by simp, hv fi, hv ca⟩
      · rename_i f' fi ca e1
        rw [e1] at hx
        simp only [Option.some.injEq, Prod.mk.injEq] at ht
        obtain ⟨rfl, rfl, rfl⟩ := ht
        obtain ⟨fs, cs, h1, h2, h3, h4, h5⟩ := hx
        exact ⟨fs, cs, h1, h2, h3, fun j c e hc he => (h4 j c e hc he).rep, fun j c e hc he => (h5 j c e hc he).rep⟩
      · cases ht
    obtain ⟨fi, ca, hfx, hl1, hl2, hr1, hr2⟩ := hclo
    refine ⟨f, fi ++ args.map a.eval ++ ca, ?_, ?_⟩
    · unfold callable at hcall
      split at hcall
      · rename_i fn hfn
        simp only [Bool.and_eq_true, bne_iff_ne, ne_eq] at hcall
        have h1 : ¬ (fn.name == "runtime.NumGoroutine") = true := by simpa using hcall.1
        have h2 : fn.body.isNone = false := by have := hcall.2; cases hb : fn.body <;> simp [hb] at this ⊢
        simp only [execOp, resolve, hfx, Deferred.ofValue, Sem.run_bind, Sem.run_pure, Result.andThen_ok, invoke, callFunc, run_program, hfn, if_neg h1, h2, Bool.false_eq_true, if_false]
      · cases hcall
    · have hraw : ∀ (j : Nat) (x : Value) (e : AV), (fi ++ args.map a.eval ++ ca)[j]? = some x → (first ++ args.toList.map ρ ++ cap)[j]? = some e → Rep w M loc x e := by
        intro j x e h1 h2
        rw [← Array.getElem?_toList] at h1
        simp only [Array.toList_append, Array.toList_map] at h1
        have key : ∀ (as : List Value) (es : List AV) (bs : List Value) (fs : List AV), as.length = es.length → (∀ (j : Nat) (x : Value) (e : AV), as[j]? = some x → es[j]? = some e → Rep w M loc x e) → (∀ (j : Nat) (x : Value) (e : AV), bs[j]? = some x → fs[j]? = some e → Rep w M loc x e) →
            ∀ (j : Nat) (x : Value) (e : AV), (as ++ bs)[j]? = some x → (es ++ fs)[j]? = some e → Rep w M loc x e := by
          intro as es bs fs hl p q j x e h1 h2
          by_cases hj : j < as.length
          · rw [List.getElem?_append_left hj] at h1
            rw [List.getElem?_append_left (by rw [← hl]; exact hj)] at h2
            exact p j x e h1 h2
          · rw [List.getElem?_append_right (by omega)] at h1
            rw [List.getElem?_append_right (by rw [← hl]; omega), ← hl] at h2
            exact q _ x e h1 h2
        refine key _ _ _ _ (by simp [hl1]) (key _ _ _ _ (by simpa using hl1) (fun j c e hc he => hr1 j c e (by simpa using hc) he) ?_) (fun j c e hc he => hr2 j c e (by simpa using hc) he) j x e h1 h2
        intro j x e h1 h2
        rw [List.getElem?_map] at h1 h2
        cases hy : args.toList[j]? with
        | none => rw [hy] at h1; cases h1
        | some y =>
          rw [hy] at h1 h2
          cases h1; cases h2
          have hmem := List.mem_of_getElem? hy
          refine hρ y ?_
          simp only [Op.operands, Call.operands, Array.mem_append]
          right; simpa using hmem
      have hlen := okArgs_len hargs
      refine callH_ok h hm ps hnd (okCells_len hcells) hlt (fun i hi => ?_) (okRowIds_get hids) (by rw [← hlen]; simp [hl1, hl2, Nat.add_assoc]) (fun j x e hx he => ?_)
      · have hp : ps[i]? = some ps[i] := List.getElem?_eq_getElem hi
        rw [upN_in hp]
        exact okCells_get hcells hp
      · obtain ⟨b, hb, hba, hlt⟩ := okArgs_get hargs he
        have hr := hraw j x b hx hb
        refine ⟨?_, hlt⟩
        rcases hba with rfl | ⟨rfl, rfl⟩
        · exact hr
        · rw [hr.nil_inv]
          exact RepZ.rep (.sl none 0 0 [] (fun _ => undef) (by simp) (by simp) (by simp) (by simp) (by simp) (by simp))

theorem after_same {H : List Cell} {ps : List Nat} {Hl : List Cell} (hnd : ps.Nodup) (hlt : ∀ c ∈ ps, c < H.length) (hcells : okCells (upN ps H.length) H ps Hl) : heapAfter H ps Hl = H := by
  have hlen := okCells_len hcells
  apply List.ext_getElem?
  intro id
  cases hc : (heapAfter H ps Hl)[id]? with
  | none =>
    symm
    rw [List.getElem?_eq_none_iff] at hc ⊢
    rw [after_len] at hc; omega
  | some c =>
    rcases after_inv hnd hlt (by omega) hc with ⟨k, c0, h1, h2, h3⟩ | h1
    · have hk : k < ps.length := by have := (List.getElem?_eq_some_iff.1 h2).1; omega
      have hp : ps[k]? = some ps[k] := List.getElem?_eq_getElem hk
      rw [h1, upN_in hp, okCells_get hcells hp, h2, h3]; rfl
    · exact h1.2.2.symm

/-- What leaves the abstract heap alone, in an ordered region. -/
def DoesX (P : Program) (H : List Cell) (ρ : Operand → AV) (op : Op) (r : AV) : Prop := DoesP P H ρ op r ∨ ∃ p, sliceX P H ρ op = some (p, r) ∧ p

theorem DoesX_ok {X : Ctx} {st : St} {o : Oper} {a : Act} {ρ : Operand → AV} {K : Act → World → Prop} {Q : Exit → Act → World → Prop} (h : RR X M loc st a w) (hρ : ∀ x ∈ o.op.operands, Rep w M loc (a.eval x) (ρ x)) (hlt : ∀ x ∈ o.op.operands, (ρ x).idLt st.heap.length) {r : AV}
    (hd : DoesX P st.heap ρ o.op r) (hk : ∀ v w' M', RR X M' loc st a w' → Rep w' M' loc v r → K (a.put o.dst v) w') : o.wp P a w K Q := by
  rcases hd with hd | ⟨p, he, hp⟩
  · exact DoesP_ok h hρ hlt hd hk
  · obtain ⟨v, h1, h2⟩ := sliceX_ok (fun id o ho => h.obj id o ho) hρ he hp
    unfold Oper.wp
    rw [h1]
    exact hk v w M h h2

/-- A step that an ordered region may take besides. -/
def StepX (P : Program) (ops : Array Oper) (n : Nat) (o : Oper) (st st' : St) : Prop :=
  (∀ d, o.dst = some d → d < n) ∧
  match o.guard with
  | none => (∃ r, DoesX P st.heap (ev st.env) o.op r ∧ r.idLt st.heap.length ∧ st' = ⟨putE st.env o.dst r, st.heap⟩) ∨ ∃ c r H', o.op = .call c ∧ CallHA P st.heap (ev st.env) c r H' ∧ st' = ⟨putE st.env o.dst r, H'⟩
  | some (j, b) => ∃ gb r sel, gvOf ops st.env j b = some gb ∧ (∀ x ∈ o.op.operands, sel x = true → (ev st.env x).okU gb) ∧ r.idLt st.heap.length ∧
      (gb = true → DoesP P st.heap (evS st.env sel) o.op r ∨ ∃ c, o.op = .call c ∧ CallHA P st.heap (evS st.env sel) c r st.heap) ∧ st' = ⟨putE st.env o.dst (.mb gb r), st.heap⟩

theorem stepX_ok {X : Ctx} {st st' : St} {ops : Array Oper} {o : Oper} {a : Act} {K : Act → World → Prop} {Q : Exit → Act → World → Prop} (hs : StepX P ops X.n o st st') (hr : R X st a w) (hk : ∀ a' w', R X st' a' w' → K a' w') :
    if Region.wanted o (yielded ops a.tmps) = true then o.wp P a w K Q else K (a.put o.dst undef) w := by
  obtain ⟨M, loc, h⟩ := hr
  obtain ⟨hd, hs⟩ := hs
  have callCase : ∀ {c : Call} {ρ : Operand → AV} {r : AV} {H' : List Cell} {K : Act → World → Prop}, o.op = .call c → (∀ x ∈ o.op.operands, Rep w M loc (a.eval x) (ρ x)) → CallHA P st.heap ρ c r H' →
      (∀ v w' M' loc', RR X M' loc' ⟨st.env, H'⟩ a w' → Rep w' M' loc' v r → r.idLt H'.length → K (a.put o.dst v) w') → o.wp P a w K Q := by
    intro c ρ r H' K hop hρ hc hk
    obtain ⟨f, vs, h1, h2⟩ := CallHA_ok h hop hρ hc
    unfold Oper.wp
    rw [h1]
    refine h2.mono fun e w' hh => ?_
    obtain ⟨x, M', loc', rfl, h3, h4, h5⟩ := hh
    exact hk x w' M' loc' h3 h4 h5
  split at hs
  · rename_i hg
    have hw : Region.wanted o (yielded ops a.tmps) = true := by simp [Region.wanted, hg]
    rw [if_pos hw]
    rcases hs with ⟨r, hdo, hi, rfl⟩ | ⟨c, r, H', hop, hc, rfl⟩
    · exact DoesX_ok h (fun x _ => h.ev x) (fun x _ => h.evLt x) hdo fun v w' M' h1 h2 => hk _ _ ⟨M', loc, h1.putO hd h2 hi⟩
    · exact callCase hop (fun x _ => h.ev x) hc fun v w' M' loc' h1 h2 h3 => hk _ _ ⟨M', loc', h1.putO hd h2 h3⟩
  · rename_i j b hg
    obtain ⟨gb, r, sel, hv, hok, hi, hdo, rfl⟩ := hs
    have hw := gvOf_ok h hg hv
    rw [hw]
    cases gb with
    | true =>
      rw [if_pos rfl]
      rcases hdo rfl with hdo | ⟨c, hop, hc⟩
      · exact DoesP_ok h (fun x hx => evS_rep (h.ev x) rfl (hok x hx)) (fun x _ => evS_lt (h.evLt x)) hdo fun v w' M' h1 h2 => hk _ _ ⟨M', loc, h1.putO hd ⟨(fun e => by cases e), fun _ => h2⟩ hi⟩
      · exact callCase hop (fun x hx => evS_rep (h.ev x) rfl (hok x hx)) hc fun v w' M' loc' h1 h2 h3 => hk _ _ ⟨M', loc', h1.putO hd ⟨(fun e => by cases e), fun _ => h2⟩ hi⟩
    | false =>
      rw [if_neg (by simp)]
      exact hk _ _ ⟨M, loc, h.putO hd ⟨fun _ => rfl, fun e => by cases e⟩ hi⟩

def StepN (P : Program) (ops : Array Oper) (n : Nat) (dr : Bool) (o : Oper) (st st' : St) : Prop := StepR P ops n o st st' ∨ (dr = false ∧ StepX P ops n o st st')

def RunN (P : Program) (ops : Array Oper) (n : Nat) (dr : Bool) : List Oper → St → St → Prop
  | [], st, st' => st' = st
  | o :: l, st, st' => ∃ st1, StepN P ops n dr o st st1 ∧ RunN P ops n dr l st1 st'

theorem RunN.drawn {ops : Array Oper} {n : Nat} : ∀ {l : List Oper} {st st' : St}, RunN P ops n true l st st' → RunR P ops n l st st'
  | [], _, _, h => h
  | o :: l, st, st', ⟨st1, h1, h2⟩ => ⟨st1, h1.elim id (fun h => by cases h.1), RunN.drawn h2⟩

theorem runN_wp {X : Ctx} {ops : Array Oper} {Q : Exit → Act → World → Prop} {stf : St} {dr : Bool} (hq : ∀ a w, R X stf a w → Q .normal a w) : ∀ (l : List Oper) (st : St) (a : Act) (w : World), RunN P ops X.n dr l st stf → R X st a w → wpList P ops Q l a w
  | [], st, a, w, h, hr => by
    simp only [RunN] at h
    subst h
    exact hq a w hr
  | o :: l, st, a, w, h, hr => by
    obtain ⟨st1, h1, h2⟩ := h
    have : if Region.wanted o (yielded ops a.tmps) = true then o.wp P a w (wpList P ops Q l) Q else wpList P ops Q l (a.put o.dst undef) w := by
      rcases h1 with h1 | h1
      · exact step_ok (Q := Q) (K := wpList P ops Q l) h1 hr (fun a' w' hr' => runN_wp hq l st1 a' w' h2 hr')
      · exact stepX_ok (Q := Q) (K := wpList P ops Q l) h1.2 hr (fun a' w' hr' => runN_wp hq l st1 a' w' h2 hr')
    unfold wpList
    split
    · rename_i hw
      rw [if_pos hw] at this
      exact .inl this
    · rename_i hw
      rw [if_neg hw] at this
      exact this

theorem awp_regionN {X : Ctx} {Q : Exit → St → Prop} {st : St} {id : Nat} {ops : Array Oper} {st' : St} {dr : Bool} (h : RunN P ops X.n dr ops.toList st st') (hq : Q .normal st') : AWP P X (.region id ops false) Q st := fun a w hr =>
  wp_region_list (runN_wp (Q := fun e a' w' => ∃ st', Q e st' ∧ R X st' a' w') (fun a' w' hr' => ⟨st', hq, hr'⟩) ops.toList st a w h hr)

end
end Go.Ab
