/-
  A region's walk as a proposition that simp writes out.
-/
import Derived.Test.YtgccheogieddnaaAbsFn
set_option linter.all false
namespace Go.Ab
open Go.RowKit

/-- The operands as a guarded operation reads them. -/
def evU (env : Nat → AV) : Operand → AV := fun x => (ev env x).un

/-- A call: its contract is wanted here. -/
def CallK (P : Program) (f : FuncId) (args : List AV) (b : Bool) (k : AV → Prop) : Prop :=
  ∃ fr r, Means fr P f args r ∧ r.zone = true ∧ (fr = true ∨ r.scal = true ∨ b = false) ∧ k r

/-- A call behind a guard. -/
def CallG (P : Program) (f : FuncId) (args : List AV) (b gb : Bool) (k : AV → Prop) : Prop :=
  ∃ r, (gb = true → ∃ fr, Means fr P f args r ∧ (fr = true ∨ r.scal = true ∨ b = false)) ∧ r.zone = true ∧ k r

theorem CallK_congr {P : Program} {f : FuncId} {args args' : List AV} {b b' : Bool} {k : AV → Prop} (h : args = args') (hb : b = b') : CallK P f args b k = CallK P f args' b' k := by rw [h, hb]
theorem CallG_congr {P : Program} {f : FuncId} {args args' : List AV} {b b' gb gb' : Bool} {k : AV → Prop} (h : args = args') (hb : b = b') (hg : gb = gb') : CallG P f args b gb k = CallG P f args' b' gb' k := by rw [h, hb, hg]
theorem AWP_congr {P : Program} {X : Ctx} {c : Code} {Q : Exit → St → Prop} {st st' : St} (h : st = st') : AWP P X c Q st = AWP P X c Q st' := by rw [h]
attribute [congr] CallK_congr CallG_congr AWP_congr

/-- What the operations that are no calls do, one by one. -/
def doF (P : Program) (H : List Cell) (ρ : Operand → AV) : Op → Option (Prop × AV × List Cell)
  | .alloc e => eff P H ρ (.alloc e)
  | .box e x => eff P H ρ (.box e x)
  | .buildSlice t n ps => eff P H ρ (.buildSlice t n ps)
  | .makeSlice t l c => eff P H ρ (.makeSlice t l c)
  | .store t d x => eff P H ρ (.store t d x)
  | .makeMap t r => mapEff P H ρ (.makeMap t r)
  | .mapUpdate t m k x => mapEff P H ρ (.mapUpdate t m k x)
  | .lookup t m k ok => (mapPur P H ρ (.lookup t m k ok)).map fun (p, r) => (p ∧ subIds r (tch ρ (.lookup t m k ok)), r, H)
  | .build t ps => (buildA P ρ t ps.toList).map fun (p, r) => (p ∧ subIds r (tch ρ (.build t ps)), r, H)
  | .call c => match c.callee with
    | .builtin .append => eff P H ρ (.call c)
    | .builtin _ => (pur P H ρ (.call c)).map fun (p, r) => (p ∧ subIds r (tch ρ (.call c)), r, H)
    | _ => none
  | op => (pur P H ρ op).map fun (p, r) => (p ∧ subIds r (tch ρ op), r, H)

def doG (P : Program) (H : List Cell) (ρ : Operand → AV) : Op → Option (Prop × AV)
  | .build t ps => buildA P ρ t ps.toList
  | .call c => match c.callee with
    | .builtin _ => pur P H ρ (.call c)
    | _ => none
  | .lookup t m k ok => mapPur P H ρ (.lookup t m k ok)
  | .makeMap .. => none
  | .mapUpdate .. => none
  | op => pur P H ρ op

def dOK (n : Nat) : Option Nat → Prop
  | some d => d < n
  | none => True

def okUL (g : Bool) (env : Nat → AV) : List Operand → Prop
  | [] => True
  | x :: l => (ev env x).okU g ∧ okUL g env l

/-- Of a pick that is guarded the condition alone is read as known. -/
def selOf : Op → Operand → Bool
  | .pick c _ _ => fun x => match x, c with
    | .tmp a, .tmp b => a == b
    | _, _ => true
  | _ => fun _ => true

def okUS (g : Bool) (env : Nat → AV) (sel : Operand → Bool) : List Operand → Prop
  | [] => True
  | x :: l => (sel x = true → (ev env x).okU g) ∧ okUS g env sel l

def isCall : Op → Bool
  | .call c => match c.callee with
    | .value _ => true
    | _ => false
  | _ => false

def argsOf : Op → Callee × List Operand
  | .call c => (c.callee, c.args.toList)
  | _ => (.builtin .len, [])

def runK (P : Program) (ops : Array Oper) (n : Nat) : List Oper → (St → Prop) → St → Prop
  | [], K, st => K st
  | o :: l, K, st => dOK n o.dst ∧
    match o.guard with
    | none =>
      if isCall o.op then
        match tgt (ev st.env) (argsOf o.op).1 with
        | some (f, first, cap) => callable P f = true ∧ ((argsOf o.op).2.all fun x => (argA st.heap (ev st.env x)).argOK) = true ∧
            CallK P f (first ++ (argsOf o.op).2.map (fun x => argA st.heap (ev st.env x)) ++ cap) ((argsOf o.op).2.any fun x => (ev st.env x).isOw)
              (fun r => runK P ops n l K ⟨putE st.env o.dst r, st.heap⟩)
        | none => False
      else match doF P st.heap (ev st.env) o.op with
        | some (p, r, H) => p ∧ r.idLt H.length ∧ runK P ops n l K ⟨putE st.env o.dst r, H⟩
        | none => False
    | some (j, b) =>
      match gvOf ops st.env j b with
      | some gb => okUS gb st.env (selOf o.op) o.op.operands.toList ∧
        if isCall o.op then
          match tgt (evU st.env) (argsOf o.op).1 with
          | some (f, first, cap) => callable P f = true ∧ ((argsOf o.op).2.all fun x => (argA st.heap (evU st.env x)).argOK) = true ∧
              CallG P f (first ++ (argsOf o.op).2.map (fun x => argA st.heap (evU st.env x)) ++ cap) ((argsOf o.op).2.any fun x => (evU st.env x).isOw) gb
                (fun r => runK P ops n l K ⟨putE st.env o.dst (.mb gb r), st.heap⟩)
          | none => False
        else match doG P st.heap (evS st.env (selOf o.op)) o.op with
          | some (p, r) => (gb = true → p) ∧ subIds r (tch (ev st.env) o.op) ∧ runK P ops n l K ⟨putE st.env o.dst (.mb gb r), st.heap⟩
          | none => False
      | none => False

section
variable {P : Program}

theorem doF_ok {H : List Cell} {ρ : Operand → AV} {op : Op} {p : Prop} {r : AV} {H' : List Cell} (h : doF P H ρ op = some (p, r, H')) (hp : p) :
    (DoesP P H ρ op r ∧ subIds r (tch ρ op) ∧ H' = H) ∨ (effA P H ρ op = some (p, r, H')) := by
  have viaP : (purA P H ρ op).map (fun (p, r) => (p ∧ subIds r (tch ρ op), r, H)) = some (p, r, H') → (DoesP P H ρ op r ∧ subIds r (tch ρ op) ∧ H' = H) ∨ (effA P H ρ op = some (p, r, H')) := by
    intro h
    cases hq : purA P H ρ op with
    | none => rw [hq] at h; cases h
    | some pr =>
      obtain ⟨p', r'⟩ := pr
      rw [hq] at h
      simp only [Option.map_some, Option.some.injEq, Prod.mk.injEq] at h
      obtain ⟨rfl, rfl, rfl⟩ := h
      exact .inl ⟨.inl ⟨_, hq, hp.1⟩, hp.2, rfl⟩
  have viaE : effA P H ρ op = some (p, r, H') → (DoesP P H ρ op r ∧ subIds r (tch ρ op) ∧ H' = H) ∨ (effA P H ρ op = some (p, r, H')) := fun h => .inr h
  cases op <;> first | exact viaP h | exact viaE h | skip
  case build t ps =>
    simp only [doF] at h
    cases hq : buildA P ρ t ps.toList with
    | none => rw [hq] at h; cases h
    | some pr =>
      obtain ⟨p', r'⟩ := pr
      rw [hq] at h
      simp only [Option.map_some, Option.some.injEq, Prod.mk.injEq] at h
      obtain ⟨rfl, rfl, rfl⟩ := h
      exact .inl ⟨.inr (.inl ⟨t, ps, _, rfl, hq, hp.1⟩), hp.2, rfl⟩
  case call c =>
    simp only [doF] at h
    split at h
    · exact viaE h
    · exact viaP h
    · cases h

theorem doG_ok {H : List Cell} {ρ : Operand → AV} {op : Op} {p : Prop} {r : AV} (h : doG P H ρ op = some (p, r)) (hp : p) : DoesP P H ρ op r := by
  cases op <;> first | exact .inl ⟨_, h, hp⟩ | (cases h; done) | skip
  case build t ps => exact .inr (.inl ⟨t, ps, _, rfl, h, hp⟩)
  case call c =>
    simp only [doG] at h
    split at h
    · exact .inl ⟨_, h, hp⟩
    · cases h

theorem okUL_mem {g : Bool} {env : Nat → AV} {l : List Operand} (h : okUL g env l) : ∀ x ∈ l, (ev env x).okU g := by
  induction l with
  | nil => intro x hx; cases hx
  | cons y l ih =>
    intro x hx
    rcases List.mem_cons.1 hx with rfl | hx
    · exact h.1
    · exact ih h.2 x hx

theorem okUS_mem {g : Bool} {env : Nat → AV} {sel : Operand → Bool} {l : List Operand} (h : okUS g env sel l) : ∀ x ∈ l, sel x = true → (ev env x).okU g := by
  induction l with
  | nil => intro x hx; cases hx
  | cons y l ih =>
    intro x hx
    rcases List.mem_cons.1 hx with rfl | hx
    · exact h.1
    · exact ih h.2 x hx

theorem call_of {op : Op} (h : isCall op = true) : ∃ c, op = .call c ∧ argsOf op = (c.callee, c.args.toList) := by
  cases op <;> simp [isCall] at h
  exact ⟨_, rfl, rfl⟩

theorem zone_sub {r : AV} (h : r.zone = true) (l : List Nat) : subIds r l := by
  have : r.ids = [] := by
    induction r using AV.zone.induct with
    | case1 id => simp [AV.zone] at h
    | case2 a b c d => simp [AV.zone] at h
    | case3 g y ih => exact ih (by simpa [AV.zone] using h)
    | case4 e h1 h2 h3 =>
      cases e with
      | ow id => exact (h1 _ rfl).elim
      | el a b c d => exact (h2 _ _ _ _ rfl).elim
      | mb g y => exact (h3 _ _ rfl).elim
      | _ => rfl
  intro id hid
  rw [this] at hid; cases hid

theorem runK_ok {ops : Array Oper} {n : Nat} {K : St → Prop} : ∀ (l : List Oper) (st : St), runK P ops n l K st → ∃ st', RunR P ops n l st st' ∧ K st'
  | [], st, h => ⟨st, rfl, h⟩
  | o :: l, st, h => by
    obtain ⟨hd, h⟩ := h
    have hd' : ∀ d, o.dst = some d → d < n := by intro d e; rw [e] at hd; exact hd
    have go : ∀ st1, StepR P ops n o st st1 → runK P ops n l K st1 → ∃ st', RunR P ops n (o :: l) st st' ∧ K st' := by
      intro st1 h1 h2
      obtain ⟨st', h3, h4⟩ := runK_ok l st1 h2
      exact ⟨st', ⟨st1, h1, h3⟩, h4⟩
    split at h
    · rename_i hg
      split at h
      · rename_i hc
        obtain ⟨c, hop, hargs⟩ := call_of hc
        rw [hargs] at h
        simp only [] at h
        split at h
        · rename_i f first cap ht
          obtain ⟨h1, h2, fr, r, h3, hz, h4, h5⟩ := h
          refine go _ ⟨hd', ?_⟩ h5
          rw [hg]
          refine .inl ⟨r, .inr (.inr ⟨c, hop, f, first, cap, ht, h1, fun x hx => List.all_eq_true.1 h2 x hx, hz, fr, h3, ?_⟩), zone_sub hz _, rfl⟩
          rcases h4 with h4 | h4 | h4
          · exact .inl h4
          · exact .inr (.inl h4)
          · refine .inr (.inr fun x hx => ?_)
            have := List.any_eq_false.1 h4 x hx
            simpa using this
        · exact h.elim
      · split at h
        · rename_i p r H he
          obtain ⟨h1, h2, h3⟩ := h
          refine go _ ⟨hd', ?_⟩ h3
          rw [hg]
          rcases doF_ok he h1 with ⟨e1, e2, rfl⟩ | e1
          · exact .inl ⟨r, e1, e2, rfl⟩
          · exact .inr ⟨r, H, p, e1, h1, h2, rfl⟩
        · exact h.elim
    · rename_i j b hg
      split at h
      · rename_i gb hgv
        obtain ⟨hu, h⟩ := h
        have hu' : ∀ x ∈ o.op.operands, selOf o.op x = true → (ev st.env x).okU gb := fun x hx => okUS_mem hu x (by simpa using hx)
        split at h
        · rename_i hc
          obtain ⟨c, hop, hargs⟩ := call_of hc
          rw [hargs] at h
          simp only [] at h
          split at h
          · rename_i f first cap ht
            obtain ⟨h1, h2, r, h3, hz, h5⟩ := h
            refine go _ ⟨hd', ?_⟩ h5
            rw [hg]
            refine ⟨gb, r, fun _ => true, hgv, fun x hx _ => hu' x hx (by rw [hop]; rfl), fun hgb => ?_, zone_sub hz _, rfl⟩
            obtain ⟨fr, h3, h4⟩ := h3 hgb
            refine .inr (.inr ⟨c, hop, f, first, cap, ht, h1, fun x hx => List.all_eq_true.1 h2 x hx, hz, fr, h3, ?_⟩)
            rcases h4 with h4 | h4 | h4
            · exact .inl h4
            · exact .inr (.inl h4)
            · refine .inr (.inr fun x hx => ?_)
              have := List.any_eq_false.1 h4 x hx
              show (evU st.env x).isOw = false
              simpa using this
          · exact h.elim
        · split at h
          · rename_i p r he
            obtain ⟨h1, h2, h3⟩ := h
            refine go _ ⟨hd', ?_⟩ h3
            rw [hg]
            exact ⟨gb, r, _, hgv, hu', fun hgb => doG_ok he (h1 hgb), h2, rfl⟩
          · exact h.elim
      · exact h.elim

theorem awp_run {X : Ctx} {N : Nat} (hX : X.n = N) {Q : Exit → St → Prop} {st : St} {id : Nat} {ops : Array Oper} (h : runK P ops N ops.toList (Q .normal) st) : AWP P X (.region id ops false) Q st := by
  obtain ⟨st', h1, h2⟩ := runK_ok ops.toList st h
  exact awp_region (by rw [hX]; exact h1) h2

theorem callK_intro {f : FuncId} {args : List AV} {b : Bool} {k : AV → Prop} {fr : Bool} {r : AV} (h : Means fr P f args r) (hz : r.zone = true) (hb : fr = true ∨ r.scal = true ∨ b = false) (hk : k r) : CallK P f args b k :=
  ⟨fr, r, h, hz, hb, hk⟩
theorem callG_intro {f : FuncId} {args : List AV} {b gb : Bool} {k : AV → Prop} {fr : Bool} {r : AV} (h : gb = true → Means fr P f args r) (hz : r.zone = true) (hb : fr = true ∨ r.scal = true ∨ b = false) (hk : k r) : CallG P f args b gb k :=
  ⟨r, fun g => ⟨fr, h g, hb⟩, hz, hk⟩

/-- A function's contract, its number of slots a literal. -/
theorem means_fn {f : FuncId} {fn : Func} {c : Code} {args : List AV} {r : AV} (fr : Bool) (N : Nat) (rs : List ResultVar) (hf : P.funcs[f]? = some fn) (hb : fn.body = some c) (hN : fn.ntmps = N) (hrs : fn.results.toList = rs) (hn : args.length ≤ N) (hz : args.all AV.zone = true)
    (h : ∀ X : Ctx, X.n = N → AWP P X c (retQ P rs fr (fun v => v = r)) ⟨argE 0 args, []⟩) : Means fr P f args r := by
  subst hN; subst hrs
  exact means_of fr hf hb hn hz h

end
end Go.Ab
