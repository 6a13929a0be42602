/-
  A region's walk as a proposition that simp writes out.
-/
import Derived.Test.YtgkafceckdoabaaDoorAbsNStep
set_option linter.all false
namespace Go.Ab
open Go.RowKit

/-- The operands as a guarded operation reads them. -/
def evU (env : Nat → AV) : Operand → AV := fun x => (ev env x).un

/-- A call: its contract is wanted here. -/
def CallK (P : Program) (f : FuncId) (args : List AV) (b ok : Bool) (H : List Cell) (raw : List AV) (dr : Bool) (k : AV → List Cell → Prop) : Prop :=
  (ok = true ∧ ∃ fr r, Means fr P f args r ∧ r.zone = true ∧ (fr = true ∨ r.scal = true ∨ b = false) ∧ k r H) ∨
  (dr = false ∧ ∃ ps Hl largs r0 H', MeansH P f Hl largs r0 H' ∧ CallHC H raw ps Hl largs ∧ k (ren (upN ps H.length) r0) (heapAfter H ps H'))

/-- A call behind a guard. -/
def CallG (P : Program) (f : FuncId) (args : List AV) (b gb ok : Bool) (H : List Cell) (raw : List AV) (dr : Bool) (k : AV → Prop) : Prop :=
  (ok = true ∧ ∃ r, (gb = true → ∃ fr, Means fr P f args r ∧ (fr = true ∨ r.scal = true ∨ b = false)) ∧ r.zone = true ∧ k r) ∨
  (dr = false ∧ ∃ ps Hl largs r0, (gb = true → MeansH P f Hl largs r0 Hl) ∧ CallHC H raw ps Hl largs ∧ r0.idLt Hl.length ∧ k (ren (upN ps H.length) r0))

theorem CallK_congr {P : Program} {f : FuncId} {args args' : List AV} {b b' ok ok' : Bool} {H H' : List Cell} {raw raw' : List AV} {dr : Bool} {k : AV → List Cell → Prop} (h : args = args') (hb : b = b') (ho : ok = ok') (hH : H = H') (hr : raw = raw') : CallK P f args b ok H raw dr k = CallK P f args' b' ok' H' raw' dr k := by rw [h, hb, ho, hH, hr]
theorem CallG_congr {P : Program} {f : FuncId} {args args' : List AV} {b b' gb gb' ok ok' : Bool} {H H' : List Cell} {raw raw' : List AV} {dr : Bool} {k : AV → Prop} (h : args = args') (hb : b = b') (hg : gb = gb') (ho : ok = ok') (hH : H = H') (hr : raw = raw') : CallG P f args b gb ok H raw dr k = CallG P f args' b' gb' ok' H' raw' dr k := by rw [h, hb, hg, ho, hH, hr]
theorem AWP_congr {P : Program} {X : Ctx} {c : Code} {Q : Exit → St → Prop} {st st' : St} (h : st = st') : AWP P X c Q st = AWP P X c Q st' := by rw [h]
attribute [congr] CallK_congr CallG_congr AWP_congr

/-- What the operations that are no calls do, one by one. -/
def doF (P : Program) (dr : Bool) (H : List Cell) (ρ : Operand → AV) : Op → Option (Prop × AV × List Cell)
  | .alloc e => eff P H ρ (.alloc e)
  | .box e x => eff P H ρ (.box e x)
  | .buildSlice t n ps => eff P H ρ (.buildSlice t n ps)
  | .makeSlice t l c => eff P H ρ (.makeSlice t l c)
  | .store t d x => eff P H ρ (.store t d x)
  | .makeMap t r => mapEff P H ρ (.makeMap t r)
  | .mapUpdate t m k x => mapEff P H ρ (.mapUpdate t m k x)
  | .lookup t m k ok => (mapPur P H ρ (.lookup t m k ok)).map fun (p, r) => (p ∧ (dr = true → subIds r (tch ρ (.lookup t m k ok))), r, H)
  | .build t ps => (buildA P ρ t ps.toList).map fun (p, r) => (p ∧ (dr = true → subIds r (tch ρ (.build t ps))), r, H)
  | .call c => match c.callee with
    | .builtin .append => eff P H ρ (.call c)
    | .builtin _ => (pur P H ρ (.call c)).map fun (p, r) => (p ∧ (dr = true → subIds r (tch ρ (.call c))), r, H)
    | _ => none
  | .slice t x lo hi mx => match ρ x with
    | .ow _ => bif dr then none else (sliceX P H ρ (.slice t x lo hi mx)).map fun (p, r) => (p, r, H)
    | _ => (pur P H ρ (.slice t x lo hi mx)).map fun (p, r) => (p ∧ (dr = true → subIds r (tch ρ (.slice t x lo hi mx))), r, H)
  | op => (pur P H ρ op).map fun (p, r) => (p ∧ (dr = true → subIds r (tch ρ op)), r, H)

def doG (P : Program) (H : List Cell) (ρ : Operand → AV) : Op → Option (Prop × AV)
  | .build t ps => buildA P ρ t ps.toList
  | .call c => match c.callee with
    | .builtin _ => pur P H ρ (.call c)
    | _ => none
  | .lookup t m k ok => mapPur P H ρ (.lookup t m k ok)
  | .makeMap .. => none
  | .mapUpdate .. => none
  | op => pur P H ρ op

def dOK (n : Nat) : Option Nat → Prop
  | some d => d < n
  | none => True

def okUL (g : Bool) (env : Nat → AV) : List Operand → Prop
  | [] => True
  | x :: l => (ev env x).okU g ∧ okUL g env l

/-- Of a pick that is guarded the condition alone is read as known. -/
def selOf : Op → Operand → Bool
  | .pick c _ _ => fun x => match x, c with
    | .tmp a, .tmp b => a == b
    | _, _ => true
  | _ => fun _ => true

def okUS (g : Bool) (env : Nat → AV) (sel : Operand → Bool) : List Operand → Prop
  | [] => True
  | x :: l => (sel x = true → (ev env x).okU g) ∧ okUS g env sel l

def isCall : Op → Bool
  | .call c => match c.callee with
    | .value _ => true
    | _ => false
  | _ => false

def argsOf : Op → Callee × List Operand
  | .call c => (c.callee, c.args.toList)
  | _ => (.builtin .len, [])

/-- A slice's elements, given or of a row. -/
def sliceEs (H : List Cell) : AV → Option (List AV)
  | .sl es => some es
  | .ow id => match H[id]? with
    | some (.row o) => some o.es
    | _ => none
  | _ => none

/-- A slice compared with nil: its elements, and the answer where it is nil. -/
def nilC (P : Program) (H : List Cell) (ρ : Operand → AV) : Op → Option (List AV × Bool)
  | .binOp op t x y _ => match tyk P t, sliceEs H (ρ x), ρ y, op with
    | some ⟨.slice _, _, _, _⟩, some es, .nil, .eql => some (es, true)
    | some ⟨.slice _, _, _, _⟩, some es, .nil, .neq => some (es, false)
    | _, _, _, _ => none
  | _ => none

def runK (P : Program) (ops : Array Oper) (n : Nat) (dr : Bool) : List Oper → (St → Prop) → St → Prop
  | [], K, st => K st
  | o :: l, K, st => dOK n o.dst ∧
    match o.guard with
    | none =>
      if isCall o.op then
        match tgt (ev st.env) (argsOf o.op).1 with
        | some (f, first, cap) => callable P f = true ∧
            CallK P f (first ++ (argsOf o.op).2.map (fun x => argA st.heap (ev st.env x)) ++ cap) ((argsOf o.op).2.any fun x => (ev st.env x).isOw) ((first ++ (argsOf o.op).2.map (fun x => argA st.heap (ev st.env x)) ++ cap).all AV.argOK)
              st.heap (first ++ (argsOf o.op).2.map (ev st.env) ++ cap) dr
              (fun r H => runK P ops n dr l K ⟨putE st.env o.dst r, H⟩)
        | none => False
      else match nilC P st.heap (ev st.env) o.op with
        | some (es, y) => ∀ v : Bool, (es ≠ [] → v = !y) → runK P ops n dr l K ⟨putE st.env o.dst (.v (.bool v)), st.heap⟩
        | none => match doF P dr st.heap (ev st.env) o.op with
          | some (p, r, H) => p ∧ r.idLt H.length ∧ runK P ops n dr l K ⟨putE st.env o.dst r, H⟩
          | none => False
    | some (j, b) =>
      match gvOf ops st.env j b with
      | some gb => okUS gb st.env (selOf o.op) o.op.operands.toList ∧
        if isCall o.op then
          match tgt (evU st.env) (argsOf o.op).1 with
          | some (f, first, cap) => callable P f = true ∧
              CallG P f (first ++ (argsOf o.op).2.map (fun x => argA st.heap (evU st.env x)) ++ cap) ((argsOf o.op).2.any fun x => (evU st.env x).isOw) gb ((first ++ (argsOf o.op).2.map (fun x => argA st.heap (evU st.env x)) ++ cap).all AV.argOK)
                st.heap (first ++ (argsOf o.op).2.map (evU st.env) ++ cap) dr
                (fun r => runK P ops n dr l K ⟨putE st.env o.dst (.mb gb r), st.heap⟩)
          | none => False
        else match doG P st.heap (evS st.env (selOf o.op)) o.op with
          | some (p, r) => (gb = true → p) ∧ (dr = true → subIds r (tch (ev st.env) o.op)) ∧ r.idLt st.heap.length ∧ runK P ops n dr l K ⟨putE st.env o.dst (.mb gb r), st.heap⟩
          | none => gb = false ∧ runK P ops n dr l K ⟨putE st.env o.dst (.mb gb .bad), st.heap⟩
      | none => False

section
variable {P : Program}

theorem doF_ok {dr : Bool} {H : List Cell} {ρ : Operand → AV} {op : Op} {p : Prop} {r : AV} {H' : List Cell} (h : doF P dr H ρ op = some (p, r, H')) (hp : p) :
    (DoesP P H ρ op r ∧ (dr = true → subIds r (tch ρ op)) ∧ H' = H) ∨ (effA P H ρ op = some (p, r, H')) ∨ (dr = false ∧ (∃ q, sliceX P H ρ op = some (q, r) ∧ q) ∧ H' = H) := by
  have viaP : (purA P H ρ op).map (fun (p, r) => (p ∧ (dr = true → subIds r (tch ρ op)), r, H)) = some (p, r, H') → (DoesP P H ρ op r ∧ (dr = true → subIds r (tch ρ op)) ∧ H' = H) ∨ (effA P H ρ op = some (p, r, H')) ∨ (dr = false ∧ (∃ q, sliceX P H ρ op = some (q, r) ∧ q) ∧ H' = H) := by
    intro h
    cases hq : purA P H ρ op with
    | none => rw [hq] at h; cases h
    | some pr =>
      obtain ⟨p', r'⟩ := pr
      rw [hq] at h
      simp only [Option.map_some, Option.some.injEq, Prod.mk.injEq] at h
      obtain ⟨rfl, rfl, rfl⟩ := h
      exact .inl ⟨.inl ⟨_, hq, hp.1⟩, hp.2, rfl⟩
  have viaE : effA P H ρ op = some (p, r, H') → (DoesP P H ρ op r ∧ (dr = true → subIds r (tch ρ op)) ∧ H' = H) ∨ (effA P H ρ op = some (p, r, H')) ∨ (dr = false ∧ (∃ q, sliceX P H ρ op = some (q, r) ∧ q) ∧ H' = H) := fun h => .inr (.inl h)
  cases op <;> first | exact viaP h | exact viaE h | skip
  case build t ps =>
    simp only [doF] at h
    cases hq : buildA P ρ t ps.toList with
    | none => rw [hq] at h; cases h
    | some pr =>
      obtain ⟨p', r'⟩ := pr
      rw [hq] at h
      simp only [Option.map_some, Option.some.injEq, Prod.mk.injEq] at h
      obtain ⟨rfl, rfl, rfl⟩ := h
      exact .inl ⟨.inr (.inl ⟨t, ps, _, rfl, hq, hp.1⟩), hp.2, rfl⟩
  case slice t x lo hi mx =>
    simp only [doF] at h
    split at h
    · cases dr with
      | true => simp at h
      | false =>
        simp only [cond_false] at h
        cases hq : sliceX P H ρ (.slice t x lo hi mx) with
        | none => rw [hq] at h; cases h
        | some pr =>
          obtain ⟨p', r'⟩ := pr
          rw [hq] at h
          simp only [Option.map_some, Option.some.injEq, Prod.mk.injEq] at h
          obtain ⟨rfl, rfl, rfl⟩ := h
          exact .inr (.inr ⟨rfl, ⟨_, rfl, hp⟩, rfl⟩)
    · exact viaP h
  case call c =>
    simp only [doF] at h
    split at h
    · exact viaE h
    · exact viaP h
    · cases h

theorem doG_ok {H : List Cell} {ρ : Operand → AV} {op : Op} {p : Prop} {r : AV} (h : doG P H ρ op = some (p, r)) (hp : p) : DoesP P H ρ op r := by
  cases op <;> first | exact .inl ⟨_, h, hp⟩ | (cases h; done) | skip
  case build t ps => exact .inr (.inl ⟨t, ps, _, rfl, h, hp⟩)
  case call c =>
    simp only [doG] at h
    split at h
    · exact .inl ⟨_, h, hp⟩
    · cases h

theorem okUL_mem {g : Bool} {env : Nat → AV} {l : List Operand} (h : okUL g env l) : ∀ x ∈ l, (ev env x).okU g := by
  induction l with
  | nil => intro x hx; cases hx
  | cons y l ih =>
    intro x hx
    rcases List.mem_cons.1 hx with rfl | hx
    · exact h.1
    · exact ih h.2 x hx

theorem okUS_mem {g : Bool} {env : Nat → AV} {sel : Operand → Bool} {l : List Operand} (h : okUS g env sel l) : ∀ x ∈ l, sel x = true → (ev env x).okU g := by
  induction l with
  | nil => intro x hx; cases hx
  | cons y l ih =>
    intro x hx
    rcases List.mem_cons.1 hx with rfl | hx
    · exact h.1
    · exact ih h.2 x hx

theorem call_of {op : Op} (h : isCall op = true) : ∃ c, op = .call c ∧ argsOf op = (c.callee, c.args.toList) := by
  cases op <;> simp [isCall] at h
  exact ⟨_, rfl, rfl⟩

theorem zone_sub {r : AV} (h : r.zone = true) (l : List Nat) : subIds r l := fun id hid => absurd ((idLt_iff 0 r).1 (zone_idLt h 0) id hid) (by omega)

theorem runK_step {ops : Array Oper} {n : Nat} {dr : Bool} {K : St → Prop} {o : Oper} {l : List Oper} {st : St} (h : runK P ops n dr (o :: l) K st) : (∃ st1, StepN P ops n dr o st st1 ∧ runK P ops n dr l K st1) ∨
    (o.guard = none ∧ (∀ d, o.dst = some d → d < n) ∧ ∃ es y, nilC P st.heap (ev st.env) o.op = some (es, y) ∧ ∀ v : Bool, (es ≠ [] → v = !y) → runK P ops n dr l K ⟨putE st.env o.dst (.v (.bool v)), st.heap⟩) := by
    obtain ⟨hd, h⟩ := h
    have hd' : ∀ d, o.dst = some d → d < n := by intro d e; rw [e] at hd; exact hd
    have go : ∀ st1, StepN P ops n dr o st st1 → runK P ops n dr l K st1 → (∃ st1, StepN P ops n dr o st st1 ∧ runK P ops n dr l K st1) ∨
        (o.guard = none ∧ (∀ d, o.dst = some d → d < n) ∧ ∃ es y, nilC P st.heap (ev st.env) o.op = some (es, y) ∧ ∀ v : Bool, (es ≠ [] → v = !y) → runK P ops n dr l K ⟨putE st.env o.dst (.v (.bool v)), st.heap⟩) := by
      intro st1 h1 h2
      exact .inl ⟨st1, h1, h2⟩
    split at h
    · rename_i hg
      split at h
      · rename_i hc
        obtain ⟨c, hop, hargs⟩ := call_of hc
        rw [hargs] at h
        simp only [] at h
        split at h
        · rename_i f first cap ht
          obtain ⟨h1, h2⟩ := h
          rcases h2 with ⟨hok, fr, r, h3, hz, h4, h5⟩ | ⟨hdr, ps, Hl, largs, r0, H', h3, h4, h5⟩
          · refine go _ (.inl ⟨hd', ?_⟩) h5
            rw [hg]
            have hall := List.all_eq_true.1 hok
            refine .inl ⟨r, .inr (.inr ⟨c, hop, f, first, cap, ht, h1, fun e he => hall e ?_, fun x hx => hall _ ?_, hz, fr, h3, ?_⟩), zone_sub hz _, rfl⟩
            · rcases List.mem_append.1 he with he | he
              · exact List.mem_append_left _ (List.mem_append_left _ he)
              · exact List.mem_append_right _ he
            · exact List.mem_append_left _ (List.mem_append_right _ (List.mem_map.2 ⟨x, hx, rfl⟩))
            · rcases h4 with h4 | h4 | h4
              · exact .inl h4
              · exact .inr (.inl h4)
              · refine .inr (.inr fun x hx => ?_)
                have := List.any_eq_false.1 h4 x hx
                simpa using this
          · refine go _ (.inr ⟨hdr, hd', ?_⟩) h5
            rw [hg]
            exact .inr ⟨c, _, _, hop, ⟨f, first, cap, ps, Hl, largs, r0, H', ht, h1, h3, h4, rfl, rfl⟩, rfl⟩
        · exact h.elim
      · split at h
        · rename_i es y hn
          exact .inr ⟨hg, hd', es, y, hn, h⟩
        split at h
        · rename_i p r H he
          obtain ⟨h1, h2, h3⟩ := h
          refine go _ ?_ h3
          rcases doF_ok he h1 with ⟨e1, e2, rfl⟩ | e1 | ⟨rfl, e1, rfl⟩
          · cases dr with
            | true =>
              refine .inl ⟨hd', ?_⟩
              rw [hg]
              exact .inl ⟨r, e1, e2 rfl, rfl⟩
            | false =>
              refine .inr ⟨rfl, hd', ?_⟩
              rw [hg]
              exact .inl ⟨r, .inl e1, h2, rfl⟩
          · refine .inl ⟨hd', ?_⟩
            rw [hg]
            exact .inr ⟨r, H, p, e1, h1, h2, rfl⟩
          · refine .inr ⟨rfl, hd', ?_⟩
            rw [hg]
            exact .inl ⟨r, .inr e1, h2, rfl⟩
        · exact h.elim
    · rename_i j b hg
      split at h
      · rename_i gb hgv
        obtain ⟨hu, h⟩ := h
        have hu' : ∀ x ∈ o.op.operands, selOf o.op x = true → (ev st.env x).okU gb := fun x hx => okUS_mem hu x (by simpa using hx)
        split at h
        · rename_i hc
          obtain ⟨c, hop, hargs⟩ := call_of hc
          rw [hargs] at h
          simp only [] at h
          split at h
          · rename_i f first cap ht
            obtain ⟨h1, h2⟩ := h
            rcases h2 with ⟨hok, r, h3, hz, h5⟩ | ⟨hdr, ps, Hl, largs, r0, h3, h4, hr0, h5⟩
            · refine go _ (.inl ⟨hd', ?_⟩) h5
              rw [hg]
              have hall := List.all_eq_true.1 hok
              refine ⟨gb, r, fun _ => true, hgv, fun x hx _ => hu' x hx (by rw [hop]; rfl), fun hgb => ?_, zone_sub hz _, rfl⟩
              obtain ⟨fr, h3, h4⟩ := h3 hgb
              refine .inr (.inr ⟨c, hop, f, first, cap, ht, h1, fun e he => hall e ?_, fun x hx => hall _ ?_, hz, fr, h3, ?_⟩)
              · rcases List.mem_append.1 he with he | he
                · exact List.mem_append_left _ (List.mem_append_left _ he)
                · exact List.mem_append_right _ he
              · exact List.mem_append_left _ (List.mem_append_right _ (List.mem_map.2 ⟨x, hx, rfl⟩))
              · rcases h4 with h4 | h4 | h4
                · exact .inl h4
                · exact .inr (.inl h4)
                · refine .inr (.inr fun x hx => ?_)
                  have := List.any_eq_false.1 h4 x hx
                  show (evU st.env x).isOw = false
                  simpa using this
            · refine go _ (.inr ⟨hdr, hd', ?_⟩) h5
              rw [hg]
              obtain ⟨hnd, hlt, hcells, hids, hargs'⟩ := h4
              have hlen := okCells_len hcells
              refine ⟨gb, _, fun _ => true, hgv, fun x hx _ => hu' x hx (by rw [hop]; rfl), ?_, fun hgb => .inr ⟨c, hop, f, first, cap, ps, Hl, largs, r0, Hl, ht, h1, h3 hgb, ⟨hnd, hlt, hcells, hids, hargs'⟩, rfl, (after_same hnd hlt hcells).symm⟩, rfl⟩
              refine ren_lt (fun i hi => ?_) hr0
              rw [upN_in (List.getElem?_eq_getElem (by omega))]
              exact hlt _ (List.getElem_mem (by omega))
          · exact h.elim
        · split at h
          · rename_i p r he
            obtain ⟨h1, h2, hi, h3⟩ := h
            refine go _ ?_ h3
            cases dr with
            | true =>
              refine .inl ⟨hd', ?_⟩
              rw [hg]
              exact ⟨gb, r, _, hgv, hu', fun hgb => doG_ok he (h1 hgb), h2 rfl, rfl⟩
            | false =>
              refine .inr ⟨rfl, hd', ?_⟩
              rw [hg]
              exact ⟨gb, r, _, hgv, hu', hi, fun hgb => .inl (doG_ok he (h1 hgb)), rfl⟩
          · obtain ⟨h1, h3⟩ := h
            refine go _ ?_ h3
            cases dr with
            | true =>
              refine .inl ⟨hd', ?_⟩
              rw [hg]
              exact ⟨gb, .bad, _, hgv, hu', fun hgb => (by rw [h1] at hgb; cases hgb), fun id hid => (by cases hid), rfl⟩
            | false =>
              refine .inr ⟨rfl, hd', ?_⟩
              rw [hg]
              exact ⟨gb, .bad, _, hgv, hu', trivial, fun hgb => (by rw [h1] at hgb; cases hgb), rfl⟩
      · exact h.elim

theorem sliceEs_ok {w : World} {M : Nat → Prop} {loc : Nat → Value} {X : Ctx} {st : St} {a : Act} (h : RR X M loc st a w) {x : Value} {e : AV} {es : List AV} (hx : Rep w M loc x e) (he : sliceEs st.heap e = some es) :
    ∃ A n cap, x = .slice A n cap ∧ (es ≠ [] → ∃ ad, A = some ad) := by
  cases e <;> simp only [sliceEs, reduceCtorEq] at he
  case sl es' =>
    cases he
    obtain ⟨A, cap, k, f, hv, hk, hA, _⟩ := hx.sl_inv
    exact ⟨A, _, cap, hv, fun hne => by obtain ⟨ad, h, _⟩ := hA hne; exact ⟨ad, h⟩⟩
  case ow id =>
    split at he
    · rename_i o ho
      cases he
      have hx' : x = loc id := hx
      obtain ⟨xs, ⟨_, hown⟩, _⟩ := (h.obj id o ho).own
      rcases hown with ⟨h1, h2⟩ | ⟨g, cap, cur, h1, _⟩
      · exact ⟨none, 0, 0, by rw [hx', h1], fun hne => by
          exfalso; exact hne (List.eq_nil_of_length_eq_zero h2)⟩
      · exact ⟨_, _, cap, by rw [hx', h1], fun _ => ⟨_, rfl⟩⟩
    · cases he

theorem nilC_ok {w : World} {M : Nat → Prop} {loc : Nat → Value} {X : Ctx} {st : St} {a : Act} (h : RR X M loc st a w) {o : Oper} {es : List AV} {y : Bool} (hn : nilC P st.heap (ev st.env) o.op = some (es, y)) :
    ∃ v : Bool, (es ≠ [] → v = !y) ∧ (execOp a.eval o).run P w = .ok (.value (.bool v)) w := by
  obtain ⟨dst, op, ty, pos, after, guard⟩ := o
  simp only [] at hn
  cases op <;> simp only [nilC, reduceCtorEq] at hn
  case binOp op t x z t' =>
    have hx := h.ev x
    have hz := h.ev z
    split at hn
    all_goals first | (cases hn; done) | skip
    all_goals
      rename_i hT e1 e2
      rw [e2] at hz
      simp only [Option.some.injEq, Prod.mk.injEq] at hn
      obtain ⟨rfl, rfl⟩ := hn
      obtain ⟨i, d', z', h1, h2, h3, h4⟩ := tyk_spec hT
      have := kOf_slice (d := d') (by have := congrArg TK.k h4; exact this.symm)
      subst this
      obtain ⟨A, n, cap, hv, hA⟩ := sliceEs_ok h hx e1
      have hzn := hz.nil_inv
      have hg : ∀ bo n, (eqGuard bo t x z (.slice A n cap) (.slice none 0 0)).run P w = .ok () w := fun bo n => by unfold eqGuard; split <;> rfl
    · refine ⟨A.isNone, fun hne => ?_, ?_⟩
      · obtain ⟨ad, rfl⟩ := hA hne; rfl
      · simp only [execOp, hv, hzn, Sem.run_bind, hg, Result.andThen_ok, binOp, run_equal_slnil h2, Sem.run_pure]
    · refine ⟨!A.isNone, fun hne => ?_, ?_⟩
      · obtain ⟨ad, rfl⟩ := hA hne; rfl
      · simp only [execOp, hv, hzn, Sem.run_bind, hg, Result.andThen_ok, binOp, run_equal_slnil h2, Sem.run_pure]

theorem runK_wp {X : Ctx} {ops : Array Oper} {Q : Exit → Act → World → Prop} {dr : Bool} {K : St → Prop} (hq : ∀ st a w, K st → R X st a w → Q .normal a w) : ∀ (l : List Oper) (st : St) (a : Act) (w : World), runK P ops X.n dr l K st → R X st a w → wpList P ops Q l a w
  | [], st, a, w, h, hr => hq st a w h hr
  | o :: l, st, a, w, h, hr => by
    have : if Region.wanted o (yielded ops a.tmps) = true then o.wp P a w (wpList P ops Q l) Q else wpList P ops Q l (a.put o.dst undef) w := by
      rcases runK_step h with ⟨st1, h1, h2⟩ | ⟨hg, hd, es, y, hn, h2⟩
      · rcases h1 with h1 | h1
        · exact step_ok (Q := Q) (K := wpList P ops Q l) h1 hr (fun a' w' hr' => runK_wp hq l st1 a' w' h2 hr')
        · exact stepX_ok (Q := Q) (K := wpList P ops Q l) h1.2 hr (fun a' w' hr' => runK_wp hq l st1 a' w' h2 hr')
      · have hw : Region.wanted o (yielded ops a.tmps) = true := by simp [Region.wanted, hg]
        rw [if_pos hw]
        obtain ⟨M, loc, hrr⟩ := hr
        obtain ⟨v, hv, hrun⟩ := nilC_ok hrr hn
        unfold Oper.wp
        rw [hrun]
        exact runK_wp hq l _ _ _ (h2 v hv) ⟨M, loc, hrr.putO hd (RepZ.v _).rep trivial⟩
    unfold wpList
    split
    · rename_i hw
      rw [if_pos hw] at this
      exact .inl this
    · rename_i hw
      rw [if_neg hw] at this
      exact this

theorem callK_intro {f : FuncId} {args : List AV} {b ok : Bool} {H : List Cell} {raw : List AV} {dr : Bool} {k : AV → List Cell → Prop} {fr : Bool} {r : AV} (h : Means fr P f args r) (hz : r.zone = true) (hb : fr = true ∨ r.scal = true ∨ b = false) (ho : ok = true) (hk : k r H) : CallK P f args b ok H raw dr k :=
  .inl ⟨ho, fr, r, h, hz, hb, hk⟩
theorem callG_intro {f : FuncId} {args : List AV} {b gb ok : Bool} {H : List Cell} {raw : List AV} {dr : Bool} {k : AV → Prop} {fr : Bool} {r : AV} (h : gb = true → Means fr P f args r) (hz : r.zone = true) (hb : fr = true ∨ r.scal = true ∨ b = false) (ho : ok = true) (hk : k r) : CallG P f args b gb ok H raw dr k :=
  .inl ⟨ho, r, fun g => ⟨fr, h g, hb⟩, hz, hk⟩
theorem callH_intro {f : FuncId} {args : List AV} {b ok : Bool} {H : List Cell} {raw : List AV} {k : AV → List Cell → Prop} (ps : List Nat) {Hl : List Cell} {largs : List AV} {r0 : AV} {H' : List Cell} (h : MeansH P f Hl largs r0 H') (hc : CallHC H raw ps Hl largs) (hk : k (ren (upN ps H.length) r0) (heapAfter H ps H')) : CallK P f args b ok H raw false k :=
  .inr ⟨rfl, ps, Hl, largs, r0, H', h, hc, hk⟩
theorem callHG_intro {f : FuncId} {args : List AV} {b gb ok : Bool} {H : List Cell} {raw : List AV} {k : AV → Prop} (ps : List Nat) {Hl : List Cell} {largs : List AV} {r0 : AV} (h : gb = true → MeansH P f Hl largs r0 Hl) (hc : CallHC H raw ps Hl largs) (hl : r0.idLt Hl.length) (hk : k (ren (upN ps H.length) r0)) : CallG P f args b gb ok H raw false k :=
  .inr ⟨rfl, ps, Hl, largs, r0, h, hc, hl, hk⟩

/-- A function's contract, its number of slots a literal. -/
theorem means_fn {f : FuncId} {fn : Func} {c : Code} {args : List AV} {r : AV} (fr : Bool) (N : Nat) (rs : List ResultVar) (hf : P.funcs[f]? = some fn) (hb : fn.body = some c) (hN : fn.ntmps = N) (hrs : fn.results.toList = rs) (hn : args.length ≤ N) (hG : N ≤ G0) (hz : args.all AV.zone = true)
    (h : ∀ X : Ctx, X.n = N → AWP P X c (retQ P rs fr (fun v => v = r)) ⟨argE 0 args, []⟩) : Means fr P f args r := by
  subst hN; subst hrs
  exact means_of fr hf hb hn hG hz h

theorem meansH_fn {f : FuncId} {fn : Func} {c : Code} {H H' : List Cell} {args : List AV} {r : AV} (m : Nat) (N : Nat) (rs : List ResultVar) (hf : P.funcs[f]? = some fn) (hb : fn.body = some c) (hN : fn.ntmps = N) (hrs : fn.results.toList = rs) (hn : args.length ≤ N) (hG : N ≤ G0) (hm : H.length = m)
    (h : ∀ X : Ctx, X.n = N → AWP P X c (retH P rs m r H') ⟨ghE m (argE 0 args), H⟩) : MeansH P f H args r H' := by
  subst hN; subst hrs; subst hm
  exact meansH_of hf hb hn hG h

end
end Go.Ab
