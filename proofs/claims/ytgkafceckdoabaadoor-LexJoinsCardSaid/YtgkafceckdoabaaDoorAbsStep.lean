/-
  One operation over abstract states; a region in the order of the text.
-/
import Derived.Test.YtgkafceckdoabaaDoorAbsMap
set_option linter.all false
namespace Go.Ab
open Go.RowKit

/-- Called with values that read so, f returns a value that reads as r; nothing that was there has changed. (fr: the result lies in new memory.) -/
def Means (fr : Bool) (P : Program) (f : FuncId) (args : List AV) (r : AV) : Prop :=
  ∀ (M : Nat → Prop) (w : World) (vs : Array Value), (∀ b, M b → b < w.heap.size) → GlobW w M → vs.size = args.length →
    (∀ (j : Nat) (x : Value) (e : AV), vs[j]? = some x → args[j]? = some e → RepZ w M x e) →
    Calls P f vs w fun e w' => ∃ x, e = .returned x ∧ Below w.heap.size w w' ∧ RepZ w' (fun b => b < w'.heap.size ∧ (w.heap.size ≤ b ∨ (fr = false ∧ M b))) x r

def callable (P : Program) (f : FuncId) : Bool :=
  match P.funcs[f]? with
  | some fn => fn.name != "runtime.NumGoroutine" && fn.body.isSome
  | none => false

/-- Which function is called, and what it has captured. -/
def tgt (ρ : Operand → AV) : Callee → Option (FuncId × List AV × List AV)
  | .value x => match ρ x with
    | .v (.func (.func f) first cap) => some (f, first.toList.map AV.v, cap.toList.map AV.v)
    | .fn f first cap => some (f, first, cap)
    | _ => none
  | _ => none

/-- Rows whose cells name no row. -/
def zoneEs (es : List AV) : Bool := es.all fun e => e.flat.all AV.zone

/-- A cell of an argument as the callee reads it. -/
def argB (H : List Cell) : AV → AV
  | .ow id => match H[id]? with
    | some (.row o) => bif zoneEs o.es then .sl o.es else .bad
    | _ => .bad
  | .nil => .sl []
  | x => x

/-- An argument as the callee reads it. -/
def argA (H : List Cell) : AV → AV
  | .ow id => match H[id]? with
    | some (.row o) => bif zoneEs o.es then .sl o.es else .bad
    | _ => .bad
  | .wn id k lo n => match H[id]? with
    | some (.row o) => if k = o.k ∧ lo + n ≤ o.es.length ∧ zoneEs o.es = true then .sl ((o.es.drop lo).take n) else .bad
    | _ => .bad
  | .nil => .sl []
  | .agg cs => .agg (cs.map (argB H))
  | x => x

def AV.isOw : AV → Bool
  | .ow _ | .wn .. => true
  | .agg cs => cs.any fun c => !c.zoneB
  | _ => false

def AV.argOK : AV → Bool
  | .el .. | .mb .. | .bad | .ow _ | .wn .. | .fn .. | .tup _ => false
  | .agg cs => cs.all AV.zoneB
  | _ => true

/-- A call of a function of the program. -/
def CallA (P : Program) (H : List Cell) (ρ : Operand → AV) (c : Call) (r : AV) : Prop :=
  ∃ f first cap, tgt ρ c.callee = some (f, first, cap) ∧ callable P f = true ∧ (∀ e ∈ first ++ cap, e.argOK = true) ∧ (∀ x ∈ c.args.toList, (argA H (ρ x)).argOK = true) ∧ r.zone = true ∧
    ∃ fr, Means fr P f (first ++ c.args.toList.map (fun x => argA H (ρ x)) ++ cap) r ∧ (fr = true ∨ r.scal = true ∨ ∀ x ∈ c.args.toList, (ρ x).isOw = false)

/-- What leaves the abstract heap alone. -/
def DoesP (P : Program) (H : List Cell) (ρ : Operand → AV) (op : Op) (r : AV) : Prop :=
  (∃ p, purA P H ρ op = some (p, r) ∧ p) ∨ (∃ t parts p, op = .build t parts ∧ buildA P ρ t parts.toList = some (p, r) ∧ p) ∨ (∃ c, op = .call c ∧ CallA P H ρ c r)

def Does (P : Program) (H : List Cell) (ρ : Operand → AV) (op : Op) (r : AV) (H' : List Cell) : Prop :=
  (DoesP P H ρ op r ∧ H' = H) ∨ (∃ p, effA P H ρ op = some (p, r, H') ∧ p)

def putE (env : Nat → AV) : Option Nat → AV → Nat → AV
  | some d, r => upd env d r
  | none, _ => env

/-- Whether a guarded operation is carried out. -/
def gvOf (ops : Array Oper) (env : Nat → AV) (j : Nat) (b : Bool) : Option Bool :=
  match (ops[j]?).bind (fun o => o.dst) with
  | some d => match (if d < G0 then env d else .bad) with
    | .v (.bool g) => some (bif b then g else !g)
    | .mb g0 (.v (.bool g)) => some (g0 && (bif b then g else !g))
    | _ => none
  | none => none

def AV.un : AV → AV
  | .mb _ y => y
  | y => y

def AV.okU (g : Bool) : AV → Prop
  | .mb g' _ => g = true → g' = true
  | _ => True

/-- The rows that an operation's operands name. -/
def tch (ρ : Operand → AV) (op : Op) : List Nat := op.operands.toList.flatMap fun x => (ρ x).ids

def subIds (r : AV) (l : List Nat) : Prop := ∀ id ∈ r.ids, id ∈ l

theorem ids_un (e : AV) : e.un.ids = e.ids := by cases e <;> rfl

theorem subIds_lt {r : AV} {ρ : Operand → AV} {op : Op} {n : Nat} (h : subIds r (tch ρ op)) (hl : ∀ x ∈ op.operands, (ρ x).idLt n) : r.idLt n := by
  rw [idLt_iff]
  intro id hid
  obtain ⟨x, hx, hi⟩ := List.mem_flatMap.1 (h id hid)
  exact (idLt_iff n _).1 (hl x (by simpa using hx)) id hi

/-- Some operands are read as if their guard were known to hold. -/
def evS (env : Nat → AV) (sel : Operand → Bool) : Operand → AV := fun x => bif sel x then (ev env x).un else ev env x

def StepR (P : Program) (ops : Array Oper) (n : Nat) (o : Oper) (st st' : St) : Prop :=
  (∀ d, o.dst = some d → d < n) ∧
  match o.guard with
  | none => (∃ r, DoesP P st.heap (ev st.env) o.op r ∧ subIds r (tch (ev st.env) o.op) ∧ st' = ⟨putE st.env o.dst r, st.heap⟩) ∨ (∃ r H' p, effA P st.heap (ev st.env) o.op = some (p, r, H') ∧ p ∧ r.idLt H'.length ∧ st' = ⟨putE st.env o.dst r, H'⟩)
  | some (j, b) => ∃ gb r sel, gvOf ops st.env j b = some gb ∧ (∀ x ∈ o.op.operands, sel x = true → (ev st.env x).okU gb) ∧ (gb = true → DoesP P st.heap (evS st.env sel) o.op r) ∧ subIds r (tch (ev st.env) o.op) ∧ st' = ⟨putE st.env o.dst (.mb gb r), st.heap⟩

section
variable {P : Program} {w : World} {M : Nat → Prop} {loc : Nat → Value}

theorem zoneEs_flat {es : List AV} (h : zoneEs es = true) {j : Nat} {e : AV} (he : (es.flatMap AV.flat)[j]? = some e) : e.zone = true := by
  obtain ⟨n, hn, hn2⟩ := List.mem_flatMap.1 (List.mem_of_getElem? he)
  unfold zoneEs at h
  have := List.all_eq_true.1 h n hn
  exact List.all_eq_true.1 this e hn2

theorem RR.frozenRow {X : Ctx} {st : St} {a : Act} (h : RR X M loc st a w) {id : Nat} {o : Ob} (ho : st.heap[id]? = some (.row o)) (hz : zoneEs o.es = true) {M' : Nat → Prop} (hM : ∀ b, M b → M' b)
    (hb : ∀ g, (loc id).ownBlock = some g → M' g) : RepZ w M' (loc id) (.sl o.es) := by
  have hob := h.obj id o ho
  obtain ⟨xs, hown, hxs⟩ := hob.repL
  rcases hown.2 with ⟨hn, h0⟩ | ⟨g, cap, cur, hn, hbg, hheap, hnc, hcm, hcs, htake⟩
  · have hes : o.es = [] := List.eq_nil_of_length_eq_zero h0
    rw [hn, hes]
    exact .sl none 0 o.k [] (fun _ => undef) (by simp) (by simp) (by simp) (by simp) (by simp) (by simp)
  · have hcells := hown.cells (g := g) (by rw [hn]; rfl)
    rw [hn] at hb
    have hb' := hb g rfl
    rw [hn]
    refine .sl _ cap o.k o.es (fun j => xs.getD j undef) hob.flat (fun _ => ⟨_, rfl, hb'⟩) (fun ad had j hj => ?_) (fun j e he => ?_) hnc hcm
    · cases had
      have hx : xs[j]? = some (xs[j]'(by rw [hown.1]; exact hj)) := List.getElem?_eq_getElem _
      rw [hcells j _ hx, List.getD_eq_getElem?_getD, hx]; rfl
    · obtain ⟨x, hx, hr⟩ := hxs.own j e he
      have : xs.getD j undef = x := by rw [List.getD_eq_getElem?_getD, hx]; rfl
      rw [this]
      exact (hr.1.repZ (zoneEs_flat hz he)).mono (fun _ _ => rfl) hM

theorem argA_ok {X : Ctx} {st : St} {a : Act} (h : RR X M loc st a w) {M' : Nat → Prop} (hM : ∀ b, M b → M' b) {v : Value} {e : AV} (hv : Rep w M loc v e) (hok : (argA st.heap e).argOK = true)
    (how : ∀ id o, id ∈ e.ids → st.heap[id]? = some (.row o) → ∀ g, (loc id).ownBlock = some g → M' g) : RepZ w M' v (argA st.heap e) := by
  cases e with
  | ow id =>
    simp only [argA] at hok ⊢
    split at hok
    · rename_i o ho
      cases hz : zoneEs o.es with
      | false => rw [hz] at hok; simp [AV.argOK] at hok
      | true =>
        have hv' : v = loc id := hv
        subst hv'
        exact h.frozenRow ho hz hM (how id o (by simp [AV.ids]) ho)
    · simp [AV.argOK] at hok
  | wn id k lo n =>
    simp only [argA] at hok ⊢
    split at hok
    · rename_i o ho
      split at hok
      · rename_i hc
        obtain ⟨rfl, hln, hz⟩ := hc
        rw [if_pos ⟨rfl, hln, hz⟩]
        have hf := h.frozenRow ho hz hM (how id o (by simp [AV.ids]) ho)
        obtain ⟨A, c, rfl, hnc, hcm, hA⟩ := hv
        have hlen : ((o.es.drop lo).take n).length = n := by simp; omega
        by_cases h0 : n = 0
        · subst h0
          have := RepZ.sl (w := w) (M := M') A c o.k [] (fun _ => undef) (by simp) (by simp) (by simp) (by simp) (by simp) hcm
          simpa using this
        · obtain ⟨g, m2, d, hn, rfl⟩ := hA (by omega)
          obtain ⟨A', cap, k', f, e1, hk, hA', hcc, hr, hcap, hmax⟩ := hf.sl_inv
          rw [hn] at e1
          simp only [Value.slice.injEq] at e1
          obtain ⟨rfl, rfl, rfl⟩ := e1
          have hne : o.es ≠ [] := by intro e; rw [e] at hln; simp at hln; omega
          have hkk : k' = o.k := by
            obtain ⟨e, he⟩ := List.exists_mem_of_ne_nil _ hne
            rw [← hk e he, (h.obj id o ho).flat e he]
          generalize hok : o.k = ko at *
          subst hkk
          obtain ⟨ad, had, hMb⟩ := hA' hne
          cases had
          have := RepZ.sl (w := w) (M := M') (some ⟨g, lo * k', none⟩) c k' ((o.es.drop lo).take n) (fun j => f (lo * k' + j)) (fun e he => hk e (List.mem_of_mem_drop (List.mem_of_mem_take he))) (fun _ => ⟨_, rfl, hMb⟩)
            (fun ad had j hj => by
              cases had
              have h1 : (lo + n) * k' ≤ o.es.length * k' := Nat.mul_le_mul_right _ hln
              rw [hlen] at hj
              have := hcc _ rfl (lo * k' + j) (by rw [Nat.add_mul] at h1; omega)
              rw [add_mk, Nat.zero_add] at this
              rw [add_mk]; exact this)
            (fun j e he => by
              have hd := flatMap_take hk lo
              obtain ⟨r, hr2⟩ := flatMap_prefix (o.es.drop lo) n
              refine hr _ e ?_
              rw [← List.getElem?_drop, ← hd, hr2]
              rw [List.getElem?_append_left (List.getElem?_eq_some_iff.1 he).1]
              exact he) (by rw [hlen]; exact hnc) hcm
          rw [hlen] at this
          exact this
      · simp [AV.argOK] at hok
    · simp [AV.argOK] at hok
  | agg cs =>
    simp only [argA, AV.argOK] at hok ⊢
    obtain ⟨ca, rfl, hl, hc⟩ := hv.agg_inv
    refine .agg _ _ (by simpa using hl) fun j c e h1 h2 => ?_
    rw [List.getElem?_map, Option.map_eq_some_iff] at h2
    obtain ⟨d, hd, rfl⟩ := h2
    have hz : (argB st.heap d).zoneB = true := by
      rw [List.all_eq_true] at hok
      exact hok _ (List.mem_map.2 ⟨d, List.mem_of_getElem? hd, rfl⟩)
    have hcd := hc j c d h1 hd
    have hmem : ∀ id ∈ d.idB, id ∈ (AV.agg cs).ids := fun id hid => by
      simp only [AV.ids, List.mem_flatMap]; exact ⟨d, List.mem_of_getElem? hd, hid⟩
    cases d with
    | ow id =>
      simp only [argB] at hz ⊢
      split at hz
      · rename_i o ho
        cases hzz : zoneEs o.es with
        | true =>
          have hv' : c = loc id := by rcases hcd with h3 | h3; exact h3.no_ow.elim; exact h3
          subst hv'
          exact h.frozenRow ho hzz hM (how id o (hmem id (by simp [AV.idB])) ho)
        | false => exact .bad _
      · exact .bad _
    | nil =>
      have := hcd.rep.nil_inv
      subst this
      exact .sl none 0 0 [] (fun _ => undef) (by simp) (by simp) (by simp) (by simp) (by simp) (by simp)
    | el a b c d => simp [argB, AV.zoneB] at hz
    | wn a b c d => simp [argB, AV.zoneB] at hz
    | _ => exact (hcd.repZ' rfl).mono (fun _ _ => rfl) hM
  | nil =>
    have := hv.nil_inv
    subst this
    exact .sl none 0 0 [] (fun _ => undef) (by simp) (by simp) (by simp) (by simp) (by simp) (by simp)
  | bad => simp [argA, AV.argOK] at hok
  | el a b c d => simp [argA, AV.argOK] at hok
  | mb g y => simp [argA, AV.argOK] at hok
  | fn a b c => simp [argA, AV.argOK] at hok
  | tup a => simp [argA, AV.argOK] at hok
  | _ => exact RepZ.mono (fun _ _ => rfl) hM hv

theorem RR.world {X : Ctx} {st : St} {a : Act} (h : RR X M loc st a w) {w' : World} (hb : Below w.heap.size w w') {M' : Nat → Prop} (hM : ∀ b, M b → M' b)
    (hM' : ∀ b, M' b → M b ∨ (w.heap.size ≤ b ∧ b < w'.heap.size)) : RR X M' loc st a w' := by
  have hg : w.grownBy w' none := ⟨hb.os, hb.tape, hb.output, hb.size, fun k hk _ => hb.block k hk⟩
  have hbk : ∀ b, M b → w'.heap[b]? = w.heap[b]? := fun b hb' => hb.block b (h.zone b hb').1
  refine ⟨fun s => Rep.mono (n := st.heap.length) hbk hM (fun _ _ => rfl) (h.env s) (h.ids s), h.nle, h.size, h.defers, fun id o ho => ?_, h.sep, fun id m hm => ?_, h.msep, ⟨hb.os.trans h.below.os, hb.tape.trans h.below.tape, hb.output.trans h.below.output, Nat.le_trans h.below.size hb.size, fun k hk hT => by
    rw [hb.block k (Nat.lt_of_lt_of_le hk h.below.size)]; exact h.below.block k hk hT⟩, fun b hb' => ?_, fun b hb' => hM b (h.zin b hb'), h.zlt, h.one, h.ids⟩
  · have hk := (h.obj id o ho).kept hg (by cases (loc id).ownBlock <;> simp) (fun g e => by cases e) (fun b hb => (h.zone b hb).1) (fun _ _ => rfl) (Nat.le_refl _)
    obtain ⟨xs, h1, h2⟩ := hk.own
    refine ⟨⟨xs, h1, fun j e he => ?_⟩, hk.flat, fun g hg' hm => ?_, hk.mine⟩
    · obtain ⟨x, hx, hr⟩ := h2 j e he
      exact ⟨x, hx, hr.mono (fun _ _ => rfl) hM (fun _ _ => rfl) (Nat.le_refl _)⟩
    · rcases hM' g hm with hm | hm
      · exact hk.away g hg' hm
      · obtain ⟨xs0, hown0, _⟩ := (h.obj id o ho).own
        have := (hown0.lt g hg').2
        omega
  · obtain ⟨g, es, clock, h1, h2, h3, h4, h5⟩ := (h.mobj id m hm).own
    have hgl : g < w.heap.size := (Array.getElem?_eq_some_iff.1 h4).1
    refine ⟨g, es, clock, h1, h2, fun hg' => ?_, by rw [hb.block g hgl]; exact h4, h5.mono hbk hM⟩
    rcases hM' g hg' with hm | hm
    · exact h3 hm
    · omega
  · rcases hM' b hb' with hm | hm
    · exact ⟨Nat.lt_of_lt_of_le (h.zone b hm).1 hb.size, (h.zone b hm).2⟩
    · exact ⟨hm.2, .inr (.inl (Nat.le_trans h.below.size hm.1))⟩

/-- What a call does. -/
theorem CallA_ok {X : Ctx} {st : St} {o : Oper} {a : Act} {ρ : Operand → AV} (h : RR X M loc st a w) {c : Call} (ho : o.op = .call c) (hρ : ∀ x ∈ o.op.operands, Rep w M loc (a.eval x) (ρ x)) {r : AV} (hc : CallA P st.heap ρ c r) :
    ∃ f vs, (execOp a.eval o).run P w = .ok (.enter f vs) w ∧ Calls P f vs w fun e w' => ∃ x M', e = .returned x ∧ RR X M' loc st a w' ∧ Rep w' M' loc x r := by
  obtain ⟨f, first, cap, ht, hcall, hcl, hargs, hz, fr, hm, hown⟩ := hc
  obtain ⟨dst, op, ty, pos, after, guard⟩ := o
  simp only [] at ho hρ
  subst ho
  obtain ⟨callee, args, ats⟩ := c
  simp only [] at ht hargs hm hown
  cases callee with
  | invoke x m => simp [tgt] at ht
  | builtin b => simp [tgt] at ht
  | value x =>
    have hx := hρ x (by simp [Op.operands, Call.operands])
    have hclo : ∃ fi ca, a.eval x = .func (.func f) fi ca ∧ fi.size = first.length ∧ ca.size = cap.length ∧
        (∀ (j : Nat) (c : Value) (e : AV), fi[j]? = some c → first[j]? = some e → RepZ w M c e) ∧ (∀ (j : Nat) (c : Value) (e : AV), ca[j]? = some c → cap[j]? = some e → RepZ w M c e) := by
      simp only [tgt] at ht
      split at ht
      · rename_i f' fi ca e1
        rw [e1] at hx
        simp only [Option.some.injEq, Prod.mk.injEq] at ht
        obtain ⟨rfl, rfl, rfl⟩ := ht
        have hv : ∀ (l : Array Value) (j : Nat) (c : Value) (e : AV), l[j]? = some c → (l.toList.map AV.v)[j]? = some e → RepZ w M c e := by
          intro l j c e h1 h2
          rw [List.getElem?_map, Array.getElem?_toList, h1] at h2
          cases h2
          exact .v c
        exact ⟨fi, ca, hx.v_inv, by simp, by simp, hv fi, hv ca⟩
      · rename_i f' fi ca e1
        rw [e1] at hx
        simp only [Option.some.injEq, Prod.mk.injEq] at ht
        obtain ⟨rfl, rfl, rfl⟩ := ht
        obtain ⟨fs, cs, h1, h2, h3, h4, h5⟩ := hx
        have hz : ∀ e : AV, e.argOK = true → e.zone = true := fun e he => by cases e <;> first | rfl | exact he | cases he
        exact ⟨fs, cs, h1, h2, h3, fun j c e hc he => (h4 j c e hc he).repZ (hz e (hcl e (List.mem_append_left _ (List.mem_of_getElem? he)))), fun j c e hc he => (h5 j c e hc he).repZ (hz e (hcl e (List.mem_append_right _ (List.mem_of_getElem? he))))⟩
      · cases ht
    obtain ⟨fi, ca, hfx, hl1, hl2, hr1, hr2⟩ := hclo
    refine ⟨f, fi ++ args.map a.eval ++ ca, ?_, ?_⟩
    · unfold callable at hcall
      split at hcall
      · rename_i fn hfn
        simp only [Bool.and_eq_true, bne_iff_ne, ne_eq] at hcall
        have h1 : ¬ (fn.name == "runtime.NumGoroutine") = true := by simpa using hcall.1
        have h2 : fn.body.isNone = false := by have := hcall.2; cases hb : fn.body <;> simp [hb] at this ⊢
        simp only [execOp, resolve, hfx, Deferred.ofValue, Sem.run_bind, Sem.run_pure, Result.andThen_ok, invoke, callFunc, run_program, hfn, if_neg h1, h2, Bool.false_eq_true, if_false]
      · cases hcall
    · have : True := trivial
      let M1 : Nat → Prop := fun b => M b ∨ ∃ x ∈ args.toList, ∃ id o, id ∈ (ρ x).ids ∧ (ρ x).isOw = true ∧ st.heap[id]? = some (.row o) ∧ (loc id).ownBlock = some b
      have hM1 : ∀ b, M1 b → b < w.heap.size := by
        rintro b (hb | ⟨x, _, id, o, _, _, ho, hb⟩)
        · exact (h.zone b hb).1
        · obtain ⟨xs, hown, _⟩ := (h.obj id o ho).own
          exact (hown.lt b hb).2
      have hrep : ∀ (j : Nat) (x : Value) (e : AV), (fi ++ args.map a.eval ++ ca)[j]? = some x → (first ++ args.toList.map (fun x => argA st.heap (ρ x)) ++ cap)[j]? = some e → RepZ w M1 x e := by
        intro j x e h1 h2
        rw [← Array.getElem?_toList] at h1
        simp only [Array.toList_append, Array.toList_map] at h1
        have key : ∀ (as : List Value) (es : List AV) (bs : List Value) (fs : List AV), as.length = es.length → (∀ (j : Nat) (x : Value) (e : AV), as[j]? = some x → es[j]? = some e → RepZ w M1 x e) → (∀ (j : Nat) (x : Value) (e : AV), bs[j]? = some x → fs[j]? = some e → RepZ w M1 x e) →
            ∀ (j : Nat) (x : Value) (e : AV), (as ++ bs)[j]? = some x → (es ++ fs)[j]? = some e → RepZ w M1 x e := by
          intro as es bs fs hl p q j x e h1 h2
          by_cases hj : j < as.length
          · rw [List.getElem?_append_left hj] at h1
            rw [List.getElem?_append_left (by rw [← hl]; exact hj)] at h2
            exact p j x e h1 h2
          · rw [List.getElem?_append_right (by omega)] at h1
            rw [List.getElem?_append_right (by rw [← hl]; omega), ← hl] at h2
            exact q _ x e h1 h2
        refine key _ _ _ _ (by simp [hl1]) (key _ _ _ _ (by simpa using hl1) (fun j c e hc he => (hr1 j c e (by simpa using hc) he).mono (fun _ _ => rfl) (fun b hb => .inl hb)) ?_) (fun j c e hc he => (hr2 j c e (by simpa using hc) he).mono (fun _ _ => rfl) (fun b hb => .inl hb)) j x e h1 h2
        intro j x e h1 h2
        rw [List.getElem?_map] at h1 h2
        cases hy : args.toList[j]? with
        | none => rw [hy] at h1; cases h1
        | some y =>
          rw [hy] at h1 h2
          cases h1; cases h2
          have hmem := List.mem_of_getElem? hy
          refine argA_ok h (fun b hb => .inl hb) (hρ y ?_) (hargs y hmem) (fun id o e1 e2 g hg => .inr ⟨y, hmem, id, o, e1, ?_, e2, hg⟩)
          · simp only [Op.operands, Call.operands, Array.mem_append]
            right; simpa using hmem
          · have hok := hargs y hmem
            cases hyy : ρ y with
            | agg cs =>
              rw [hyy] at e1
              simp only [AV.ids, List.mem_flatMap] at e1
              obtain ⟨d, hd, hi⟩ := e1
              simp only [AV.isOw, List.any_eq_true]
              exact ⟨d, hd, by cases d <;> simp [AV.idB] at hi <;> rfl⟩
            | _ => rw [hyy] at e1 hok; simp [AV.ids, AV.isOw, argA, AV.argOK] at *
      refine (hm M1 w _ hM1 (h.globW fun b hb => .inl hb) (by simp [Nat.add_assoc, hl1, hl2]) hrep).mono fun e w' hh => ?_
      obtain ⟨y, rfl, hbel, hy⟩ := hh
      by_cases hsc : r.scal = true
      · exact ⟨y, M, rfl, h.world hbel (fun _ hb => hb) (fun b hb => .inl hb), (hy.of_scal hsc).rep⟩
      · refine ⟨y, fun b => M b ∨ (w.heap.size ≤ b ∧ b < w'.heap.size), rfl, h.world hbel (fun b hb => .inl hb) (fun b hb => hb), (hy.mono (fun _ _ => rfl) ?_).rep⟩
        rintro b ⟨hb1, hb2 | ⟨hfr, hb2⟩⟩
        · exact .inr ⟨hb2, hb1⟩
        · rcases hown with hfr' | hsc' | hno
          · rw [hfr] at hfr'; cases hfr'
          · exact absurd hsc' hsc
          · rcases hb2 with hb2 | ⟨x, hx, id, o, e1, e2, _⟩
            · exact .inl hb2
            · have := hno x hx
              rw [e2] at this
              cases this

theorem RR.putO {X : Ctx} {st : St} {a : Act} (h : RR X M loc st a w) {d : Option Nat} (hd : ∀ k, d = some k → k < X.n) {x : Value} {e : AV}
    (hr : Rep w M loc x e) (hi : e.idLt st.heap.length) : RR X M loc ⟨putE st.env d e, st.heap⟩ (a.put d x) w := by
  cases d with
  | none => exact h
  | some k => exact h.put (hd k rfl) hr hi

theorem DoesP_ok {X : Ctx} {st : St} {o : Oper} {a : Act} {ρ : Operand → AV} {K : Act → World → Prop} {Q : Exit → Act → World → Prop} (h : RR X M loc st a w) (hρ : ∀ x ∈ o.op.operands, Rep w M loc (a.eval x) (ρ x)) (hlt : ∀ x ∈ o.op.operands, (ρ x).idLt st.heap.length) {r : AV}
    (hd : DoesP P st.heap ρ o.op r) (hk : ∀ v w' M', RR X M' loc st a w' → Rep w' M' loc v r → K (a.put o.dst v) w') : o.wp P a w K Q := by
  rcases hd with ⟨p, he, hp⟩ | ⟨t, parts, p, ho, he, hp⟩ | ⟨c, ho, hc⟩
  · obtain ⟨v, h1, h2⟩ := purA_ok h hρ he hp
    unfold Oper.wp
    rw [h1]
    exact hk v w M h h2
  · have hρ' : ∀ x ∈ parts.toList, Rep w M loc (a.eval x.2) (ρ x.2) ∧ (ρ x.2).idLt st.heap.length := by
      intro x hx
      suffices hm : x.2 ∈ o.op.operands from ⟨hρ _ hm, hlt _ hm⟩
      rw [ho]
      simp only [Op.operands]
      simpa using ⟨x.1, by simpa using hx⟩
    obtain ⟨v, h1, h2⟩ := buildA_ok h hρ' he hp
    unfold Oper.wp
    have : (execOp a.eval o).run P w = .ok (.value v) w := by
      obtain ⟨dst, op, ty, pos, after, guard⟩ := o
      simp only [] at ho
      subst ho
      simp only [execOp, Sem.run_bind, h1, Result.andThen_ok, Sem.run_pure]
    rw [this]
    exact hk v w M h h2
  · obtain ⟨f, vs, h1, h2⟩ := CallA_ok h ho hρ hc
    unfold Oper.wp
    rw [h1]
    refine h2.mono fun e w' hh => ?_
    obtain ⟨x, M', rfl, h3, h4⟩ := hh
    exact hk x w' M' h3 h4

theorem gvOf_ok {X : Ctx} {st : St} {a : Act} (h : RR X M loc st a w) {ops : Array Oper} {o : Oper} {j : Nat} {b gb : Bool} (hg : o.guard = some (j, b)) (hv : gvOf ops st.env j b = some gb) :
    Region.wanted o (yielded ops a.tmps) = gb := by
  unfold Region.wanted yielded
  unfold gvOf at hv
  rw [hg]
  simp only []
  cases hd : (ops[j]?).bind (fun o => o.dst) with
  | none => simp [hd] at hv
  | some d =>
    simp only [hd] at hv
    have hr : Rep w M loc (a.tmps.getD d undef) (if d < G0 then st.env d else .bad) := h.ev (.tmp d)
    have hget : ∀ g, a.tmps.getD d undef = .bool g → a.tmps[d]? = some (.bool g) := by
      intro g hg
      rw [Array.getD_eq_getD_getElem?] at hg
      cases ht : a.tmps[d]? with
      | none => rw [ht] at hg; cases hg
      | some v => rw [ht] at hg; simp at hg; rw [hg]
    split at hv
    · rename_i g he
      rw [he] at hr
      obtain rfl := Option.some.inj hv
      have := hget g hr.v_inv
      simp only [Option.bind_some, this]
      cases g <;> cases b <;> rfl
    · rename_i g0 g he
      rw [he] at hr
      obtain rfl := Option.some.inj hv
      cases g0
      · have h0 := hr.1 rfl
        simp only [Option.bind_some]
        cases ht : a.tmps[d]? with
        | none => simp
        | some v =>
          rw [Array.getD_eq_getD_getElem?, ht] at h0
          simp at h0
          rw [h0]
          simp [undef]
      · have := hget g (hr.2 rfl).v_inv
        simp only [Option.bind_some, this]
        cases g <;> cases b <;> rfl
    · cases hv

theorem un_rep {x : Value} {e : AV} {gb : Bool} (h : Rep w M loc x e) (hg : gb = true) (hok : e.okU gb) : Rep w M loc x e.un := by
  cases e with
  | mb g y => exact h.2 (hok hg)
  | _ => exact h

theorem evS_rep {x : Value} {env : Nat → AV} {sel : Operand → Bool} {y : Operand} {gb : Bool} (h : Rep w M loc x (ev env y)) (hg : gb = true) (hok : sel y = true → (ev env y).okU gb) : Rep w M loc x (evS env sel y) := by
  unfold evS
  cases hs : sel y with
  | true => exact un_rep h hg (hok hs)
  | false => exact h

theorem evS_lt {env : Nat → AV} {sel : Operand → Bool} {y : Operand} {n : Nat} (h : (ev env y).idLt n) : (evS env sel y).idLt n := by
  unfold evS
  cases sel y with
  | true => show ((ev env y).un).idLt n; revert h; cases ev env y <;> exact id
  | false => exact h

theorem step_ok {X : Ctx} {st st' : St} {ops : Array Oper} {o : Oper} {a : Act} {K : Act → World → Prop} {Q : Exit → Act → World → Prop} (hs : StepR P ops X.n o st st') (hr : R X st a w) (hk : ∀ a' w', R X st' a' w' → K a' w') :
    if Region.wanted o (yielded ops a.tmps) = true then o.wp P a w K Q else K (a.put o.dst undef) w := by
  obtain ⟨M, loc, h⟩ := hr
  obtain ⟨hd, hs⟩ := hs
  split at hs
  · rename_i hg
    have hw : Region.wanted o (yielded ops a.tmps) = true := by simp [Region.wanted, hg]
    rw [if_pos hw]
    rcases hs with ⟨r, hdo, hi, rfl⟩ | ⟨r, H', p, he, hp, hi, rfl⟩
    · exact DoesP_ok h (fun x _ => h.ev x) (fun x _ => h.evLt x) hdo fun v w' M' h1 h2 => hk _ _ ⟨M', loc, h1.putO hd h2 (subIds_lt hi fun x _ => h.evLt x)⟩
    · obtain ⟨nx, w', loc', v, h1, h2, h3, h4, h5⟩ := effA_ok h he hp
      unfold Oper.wp
      rw [h1]
      have hfin : K (a.put o.dst v) w' := hk _ _ ⟨M, loc', h3.putO hd h4 h5⟩
      rcases h2 with rfl | ⟨rfl, rfl⟩
      · exact hfin
      · exact hfin
  · rename_i j b hg
    obtain ⟨gb, r, sel, hv, hok, hdo, hi, rfl⟩ := hs
    have hw := gvOf_ok h hg hv
    rw [hw]
    cases gb with
    | true =>
      rw [if_pos rfl]
      exact DoesP_ok h (fun x hx => evS_rep (h.ev x) rfl (hok x hx)) (fun x _ => evS_lt (h.evLt x)) (hdo rfl) fun v w' M' h1 h2 => hk _ _ ⟨M', loc, h1.putO hd ⟨(fun e => by cases e), fun _ => h2⟩ (subIds_lt (r := r) hi fun x _ => h.evLt x)⟩
    | false =>
      rw [if_neg (by simp)]
      exact hk _ _ ⟨M, loc, h.putO hd ⟨fun _ => rfl, fun e => by cases e⟩ (subIds_lt (r := r) hi fun x _ => h.evLt x)⟩

/-- The operations in the order of the text. -/
def RunR (P : Program) (ops : Array Oper) (n : Nat) : List Oper → St → St → Prop
  | [], st, st' => st' = st
  | o :: l, st, st' => ∃ st1, StepR P ops n o st st1 ∧ RunR P ops n l st1 st'

theorem run_wp {X : Ctx} {ops : Array Oper} {Q : Exit → Act → World → Prop} {stf : St} (hq : ∀ a w, R X stf a w → Q .normal a w) : ∀ (l : List Oper) (st : St) (a : Act) (w : World), RunR P ops X.n l st stf → R X st a w → wpList P ops Q l a w
  | [], st, a, w, h, hr => by
    simp only [RunR] at h
    subst h
    exact hq a w hr
  | o :: l, st, a, w, h, hr => by
    obtain ⟨st1, h1, h2⟩ := h
    have := step_ok (Q := Q) (K := wpList P ops Q l) h1 hr (fun a' w' hr' => run_wp hq l st1 a' w' h2 hr')
    unfold wpList
    split
    · rename_i hw
      rw [if_pos hw] at this
      exact .inl this
    · rename_i hw
      rw [if_neg hw] at this
      exact this

end
end Go.Ab
