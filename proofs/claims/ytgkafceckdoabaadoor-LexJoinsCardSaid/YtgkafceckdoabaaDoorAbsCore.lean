/-
  Abstract values and states over which Go code is walked: slices as lists, structs as lists of cells, rows that the call owns by number.
-/
import Derived.WalkKit
import Derived.Maps.AppendAt
import Derived.Laws.StructEq
set_option linter.all false
namespace Go.Ab
open Go.RowKit

/-- Abstract values. -/
inductive AV where
  | bad
  | v (x : Value)
  | nil
  | sl (es : List AV)
  | ro (cells : List AV)
  | agg (cells : List AV)
  | tup (vs : List AV)
  | el (id k i off : Nat)
  | ow (id : Nat)
  | mb (g : Bool) (x : AV)
  | wn (id k lo n : Nat)
  | fn (f : FuncId) (first cap : List AV)
  deriving Inhabited

def AV.flat : AV → List AV
  | .agg cs => cs
  | x => [x]

@[simp] theorem AV.flat_v (x : Value) : AV.flat (.v x) = [.v x] := rfl
@[simp] theorem AV.flat_agg (cs : List AV) : AV.flat (.agg cs) = cs := rfl
@[simp] theorem AV.flat_nil : AV.flat .nil = [.nil] := rfl
@[simp] theorem AV.flat_sl (cs : List AV) : AV.flat (.sl cs) = [.sl cs] := rfl

/-- Element i of a list of abstract values. -/
def nth (es : List AV) (i : Nat) : AV := es.getD i .bad
theorem nth_some {es : List AV} {i : Nat} {e : AV} (h : es[i]? = some e) : nth es i = e := by unfold nth; rw [List.getD_eq_getElem?_getD, h]; rfl
theorem nth_lt {es : List AV} {i : Nat} (h : i < es.length) : nth es i = es[i] := nth_some (List.getElem?_eq_getElem h)
theorem nth_map {α : Type} (f : α → AV) {l : List α} {i : Nat} (h : i < l.length) : nth (l.map f) i = f l[i] := nth_some (by simp [h])
theorem nth_zero (e : AV) (es : List AV) : nth (e :: es) 0 = e := rfl
theorem nth_succ (e : AV) (es : List AV) (i : Nat) : nth (e :: es) (i + 1) = nth es i := rfl

/-- What an abstract value says of a value whose memory lies in the zone M. -/
inductive RepZ (w : World) (M : Nat → Prop) : Value → AV → Prop
  | bad (x : Value) : RepZ w M x .bad
  | v (x : Value) : RepZ w M x (.v x)
  | nil : RepZ w M (.slice none 0 0) .nil
  | sl (A : Option Addr) (cap k : Nat) (es : List AV) (f : Nat → Value)
      (hk : ∀ e ∈ es, e.flat.length = k)
      (hA : es ≠ [] → ∃ ad, A = some ad ∧ M ad.block)
      (hc : ∀ ad, A = some ad → ∀ j, j < es.length * k → w.cell? (ad.add j) = some (f j))
      (hr : ∀ (j : Nat) (e : AV), (es.flatMap AV.flat)[j]? = some e → RepZ w M (f j) e)
      (hcap : es.length ≤ cap) (hmax : cap ≤ maxLen) : RepZ w M (.slice A es.length cap) (.sl es)
  | ro (ad : Addr) (cells : List AV) (f : Nat → Value) (hM : M ad.block)
      (hc : ∀ j, j < cells.length → w.cell? (ad.add j) = some (f j))
      (hr : ∀ (j : Nat) (e : AV), cells[j]? = some e → RepZ w M (f j) e) : RepZ w M (.pointer (some ad)) (.ro cells)
  | agg (cs : Array Value) (es : List AV) (hl : cs.size = es.length)
      (hr : ∀ (j : Nat) (c : Value) (e : AV), cs[j]? = some c → es[j]? = some e → RepZ w M c e) : RepZ w M (.agg cs) (.agg es)
  | tup (cs : Array Value) (es : List AV) (hl : cs.size = es.length)
      (hr : ∀ (j : Nat) (c : Value) (e : AV), cs[j]? = some c → es[j]? = some e → RepZ w M c e) : RepZ w M (.tuple cs) (.tup es)
  | mb (x : Value) (g : Bool) (y : AV) (h0 : g = false → x = undef) (h : g = true → RepZ w M x y) : RepZ w M x (.mb g y)

theorem add_block (a : Addr) (n : Nat) : (a.add n).block = a.block := by unfold Addr.add; split <;> rfl
theorem add_add (a : Addr) (i j : Nat) : (a.add i).add j = a.add (i + j) := by
  unfold Addr.add
  by_cases hi : i = 0 <;> by_cases hj : j = 0 <;> simp [hi, hj, Nat.add_assoc]
theorem add_mk (g i j : Nat) : (⟨g, i, none⟩ : Addr).add j = ⟨g, i + j, none⟩ := by
  unfold Addr.add
  by_cases hj : j = 0 <;> simp [hj]

/-- A reading stays where the zone's blocks are as they were, and the zone may grow. -/
theorem RepZ.mono {w w' : World} {M M' : Nat → Prop} (hb : ∀ b, M b → w'.heap[b]? = w.heap[b]?) (hM : ∀ b, M b → M' b) {x : Value} {e : AV}
    (h : RepZ w M x e) : RepZ w' M' x e := by
  have hcell : ∀ (p : Addr), M p.block → w'.cell? p = w.cell? p := fun p hp => World.cell?_of_block (hb _ hp)
  induction h with
  | bad x => exact .bad x
  | v x => exact .v x
  | nil => exact .nil
  | sl A cap k es f hk hA hc hr hcap hmax ih =>
    refine .sl A cap k es f hk (fun h => ?_) (fun ad had j hj => ?_) ih hcap hmax
    · obtain ⟨ad, h1, h2⟩ := hA h; exact ⟨ad, h1, hM _ h2⟩
    · have hne : es ≠ [] := by rintro rfl; simp at hj
      obtain ⟨ad', h1, h2⟩ := hA hne
      obtain rfl : ad = ad' := by rw [had] at h1; exact Option.some.inj h1
      rw [hcell _ (by rw [add_block]; exact h2)]
      exact hc ad had j hj
  | ro ad cells f hm hc hr ih =>
    refine .ro ad cells f (hM _ hm) (fun j hj => ?_) ih
    rw [hcell _ (by rw [add_block]; exact hm)]
    exact hc j hj
  | agg cs es hl hr ih => exact .agg cs es hl ih
  | tup cs es hl hr ih => exact .tup cs es hl ih
  | mb x g y h0 h ih => exact .mb x g y h0 ih

mutual
/-- No memory in it. -/
def AV.scal : AV → Bool
  | .bad | .v _ | .nil => true
  | .sl es => es.isEmpty
  | .agg cs => scalAll cs
  | .tup cs => scalAll cs
  | _ => false
def AV.scalAll : List AV → Bool
  | [] => true
  | c :: cs => c.scal && scalAll cs
end

theorem AV.scalAll_mem {cs : List AV} (h : AV.scalAll cs = true) {j : Nat} {e : AV} (he : cs[j]? = some e) : e.scal = true := by
  induction cs generalizing j with
  | nil => simp at he
  | cons c cs ih =>
    simp only [AV.scalAll, Bool.and_eq_true] at h
    cases j with
    | zero => simp at he; subst he; exact h.1
    | succ j => exact ih h.2 (by simpa using he)

theorem RepZ.of_scal {w w' : World} {M M' : Nat → Prop} {x : Value} {e : AV} (h : RepZ w M x e) (hs : e.scal = true) : RepZ w' M' x e := by
  induction h with
  | bad x => exact .bad x
  | v x => exact .v x
  | nil => exact .nil
  | sl A cap k es f hk hA hc hr hcap hmax ih =>
    simp only [AV.scal, List.isEmpty_iff] at hs
    subst hs
    exact .sl A cap k [] (fun _ => undef) (by simp) (by simp) (by simp) (by simp) (by simp) hmax
  | ro ad cells f hm hc hr ih => simp [AV.scal] at hs
  | agg cs es hl hr ih =>
    simp only [AV.scal] at hs
    exact .agg cs es hl fun j c e h1 h2 => ih j c e h1 h2 (AV.scalAll_mem hs h2)
  | tup cs es hl hr ih =>
    simp only [AV.scal] at hs
    exact .tup cs es hl fun j c e h1 h2 => ih j c e h1 h2 (AV.scalAll_mem hs h2)
  | mb x g y h0 h ih => simp [AV.scal] at hs

/-- A row of memory that the call owns: n = es.length elements of type E, k cells each. -/
structure Ob where
  E : Nat
  k : Nat
  es : List AV

/-- A map that the call owns: key type, element type, its entries in the order in which they came. -/
structure MOb where
  K : Nat
  V : Nat
  es : List (AV × AV)

inductive Cell where
  | dead
  | row (o : Ob)
  | map (m : MOb)

structure St where
  env : Nat → AV
  heap : List Cell

/-- One slot turned. -/
def upd (f : Nat → AV) (s : Nat) (x : AV) : Nat → AV := fun t => if t = s then x else f t

theorem upd_eq (f : Nat → AV) (s : Nat) (x : AV) : upd f s x s = x := by simp [upd]
theorem upd_ne (f : Nat → AV) (s : Nat) (x : AV) {t : Nat} (h : t ≠ s) : upd f s x t = f t := by simp [upd, h]
theorem upd_app (f : Nat → AV) (s : Nat) (x : AV) (t : Nat) : upd f s x t = if t = s then x else f t := rfl

/-- What names a row of the call's own says. -/
def RepO (loc : Nat → Value) (x : Value) : AV → Prop
  | .ow id => x = loc id
  | .el id k i off => ∃ g n c, loc id = .slice (some ⟨g, 0, none⟩) n c ∧ x = .pointer (some ⟨g, i * k + off, none⟩)
  | .wn id k lo n => ∃ A c, x = .slice A n c ∧ n ≤ c ∧ c ≤ maxLen ∧ (0 < n → ∃ g m d, loc id = .slice (some ⟨g, 0, none⟩) m d ∧ A = some ⟨g, lo * k, none⟩)
  | _ => False

/-- A cell, or what a closure has captured: of the zone, or a row's name. -/
def RepB (w : World) (M : Nat → Prop) (loc : Nat → Value) (x : Value) (e : AV) : Prop := RepZ w M x e ∨ RepO loc x e

/-- What an abstract value in a slot says. -/
def Rep (w : World) (M : Nat → Prop) (loc : Nat → Value) (x : Value) : AV → Prop
  | .ow id => RepO loc x (.ow id)
  | .el id k i off => RepO loc x (.el id k i off)
  | .wn id k lo n => RepO loc x (.wn id k lo n)
  | .mb g y => (g = false → x = undef) ∧ (g = true → Rep w M loc x y)
  | .fn f first cap => ∃ fs cs, x = .func (.func f) fs cs ∧ fs.size = first.length ∧ cs.size = cap.length ∧
      (∀ (j : Nat) (c : Value) (e : AV), fs[j]? = some c → first[j]? = some e → RepB w M loc c e) ∧ (∀ (j : Nat) (c : Value) (e : AV), cs[j]? = some c → cap[j]? = some e → RepB w M loc c e)
  | .bad => RepZ w M x .bad
  | .v y => RepZ w M x (.v y)
  | .nil => RepZ w M x .nil
  | .sl es => RepZ w M x (.sl es)
  | .ro cs => RepZ w M x (.ro cs)
  | .agg es => ∃ cs, x = .agg cs ∧ cs.size = es.length ∧ ∀ (j : Nat) (c : Value) (e : AV), cs[j]? = some c → es[j]? = some e → RepB w M loc c e
  | .tup es => ∃ cs, x = .tuple cs ∧ cs.size = es.length ∧ ∀ (j : Nat) (c : Value) (e : AV), cs[j]? = some c → es[j]? = some e → RepB w M loc c e

/-- The row that a value names, itself. -/
def AV.idB : AV → List Nat
  | .ow id => [id]
  | .el id _ _ _ => [id]
  | .wn id _ _ _ => [id]
  | _ => []

/-- The rows that a value names. -/
def AV.ids : AV → List Nat
  | .ow id => [id]
  | .el id _ _ _ => [id]
  | .wn id _ _ _ => [id]
  | .mb _ y => y.ids
  | .fn _ first cap => (first ++ cap).flatMap AV.idB
  | .tup es => es.flatMap AV.idB
  | .agg es => es.flatMap AV.idB
  | _ => []

/-- Bounds on the numbers of the rows that are named. -/
def AV.idLt (n : Nat) : AV → Prop
  | .ow id => id < n
  | .el id _ _ _ => id < n
  | .wn id _ _ _ => id < n
  | .mb _ y => y.idLt n
  | .fn _ first cap => ∀ e ∈ first ++ cap, ∀ id ∈ e.idB, id < n
  | .tup es => ∀ e ∈ es, ∀ id ∈ e.idB, id < n
  | .agg es => ∀ e ∈ es, ∀ id ∈ e.idB, id < n
  | _ => True

theorem Rep.of_repZ {w : World} {M : Nat → Prop} {loc : Nat → Value} {x : Value} {e : AV} (h : RepZ w M x e) : Rep w M loc x e := by
  induction h with
  | mb x g y h0 h ih => exact ⟨h0, ih⟩
  | tup cs es hl hr ih => exact ⟨cs, rfl, hl, fun j c e h1 h2 => .inl (hr j c e h1 h2)⟩
  | agg cs es hl hr ih => exact ⟨cs, rfl, hl, fun j c e h1 h2 => .inl (hr j c e h1 h2)⟩
  | _ => unfold Rep; constructor <;> assumption

theorem RepZ.no_ow {w : World} {M : Nat → Prop} {x : Value} {id : Nat} (h : RepZ w M x (.ow id)) : False := by cases h
theorem RepZ.no_el {w : World} {M : Nat → Prop} {x : Value} {a b c d : Nat} (h : RepZ w M x (.el a b c d)) : False := by cases h
theorem RepZ.rep {w : World} {M : Nat → Prop} {loc : Nat → Value} {x : Value} {e : AV} (h : RepZ w M x e) : Rep w M loc x e :=
  Rep.of_repZ h

def AV.zoneB : AV → Bool
  | .ow _ => false
  | .el .. => false
  | .wn .. => false
  | _ => true

/-- Abstract values without rows of the call's own. -/
def AV.zone : AV → Bool
  | .ow _ => false
  | .el .. => false
  | .wn .. => false
  | .fn .. => false
  | .mb _ y => y.zone
  | .tup es => es.all AV.zoneB
  | .agg es => es.all AV.zoneB
  | _ => true

theorem RepB.repZ' {w : World} {M : Nat → Prop} {loc : Nat → Value} {x : Value} {e : AV} (h : RepB w M loc x e) (hz : e.zoneB = true) : RepZ w M x e := by
  rcases h with h | h
  · exact h
  · cases e <;> first | exact h.elim | simp [AV.zoneB] at hz

theorem Rep.repZ {w : World} {M : Nat → Prop} {loc : Nat → Value} {x : Value} {e : AV} (h : Rep w M loc x e) (hz : e.zone = true) : RepZ w M x e := by
  induction e using AV.zone.induct with
  | case5 g y ih =>
    have h' : (g = false → x = undef) ∧ (g = true → Rep w M loc x y) := h
    exact .mb x g y h'.1 fun hg => ih (h'.2 hg) (by simpa [AV.zone] using hz)
  | case6 es =>
    obtain ⟨cs, rfl, hl, hr⟩ := h
    simp only [AV.zone, List.all_eq_true] at hz
    exact .tup cs es hl fun j c e h1 h2 => (hr j c e h1 h2).repZ' (hz e (List.mem_of_getElem? h2))
  | case7 es =>
    obtain ⟨cs, rfl, hl, hr⟩ := h
    simp only [AV.zone, List.all_eq_true] at hz
    exact .agg cs es hl fun j c e h1 h2 => (hr j c e h1 h2).repZ' (hz e (List.mem_of_getElem? h2))
  | case8 e h1 h2 h3 h4 h5 h6 h7 =>
    cases e with
    | ow id => exact (h1 _ rfl).elim
    | el a b c d => exact (h2 _ _ _ _ rfl).elim
    | wn a b c d => exact (h3 _ _ _ _ rfl).elim
    | fn a b c => exact (h4 _ _ _ rfl).elim
    | mb g y => exact (h5 _ _ rfl).elim
    | tup es => exact (h6 _ rfl).elim
    | agg es => exact (h7 _ rfl).elim
    | _ => exact h
  | _ => simp [AV.zone] at hz

theorem RepO.rep {w : World} {M : Nat → Prop} {loc : Nat → Value} {x : Value} {e : AV} (h : RepO loc x e) : Rep w M loc x e := by
  cases e <;> first | exact h | exact h.elim
theorem RepB.rep {w : World} {M : Nat → Prop} {loc : Nat → Value} {x : Value} {e : AV} (h : RepB w M loc x e) : Rep w M loc x e := h.elim RepZ.rep RepO.rep
theorem RepB.repZ {w : World} {M : Nat → Prop} {loc : Nat → Value} {x : Value} {e : AV} (h : RepB w M loc x e) (hz : e.zone = true) : RepZ w M x e := h.rep.repZ hz

/-- Not a guarded value, nor a closure, nor a tuple, nor a struct. -/
def AV.flatB : AV → Bool
  | .mb .. => false
  | .fn .. => false
  | .tup .. => false
  | .agg cs => cs.all AV.zoneB
  | _ => true
theorem Rep.repB {w : World} {M : Nat → Prop} {loc : Nat → Value} {x : Value} {e : AV} (h : Rep w M loc x e) (hf : e.flatB = true) : RepB w M loc x e := by
  cases e with
  | ow id => exact .inr h
  | el a b c d => exact .inr h
  | wn a b c d => exact .inr h
  | mb g y => simp [AV.flatB] at hf
  | fn a b c => simp [AV.flatB] at hf
  | tup a => simp [AV.flatB] at hf
  | agg a => exact .inl (h.repZ hf)
  | _ => exact .inl h

theorem idLt_iff (n : Nat) (e : AV) : e.idLt n ↔ ∀ id ∈ e.ids, id < n := by
  induction e using AV.ids.induct with
  | case5 f first cap => simp only [AV.idLt, AV.ids, List.mem_flatMap]; exact ⟨fun h id ⟨e, he, hi⟩ => h e he id hi, fun h e he id hi => h id ⟨e, he, hi⟩⟩
  | case6 es => simp only [AV.idLt, AV.ids, List.mem_flatMap]; exact ⟨fun h id ⟨e, he, hi⟩ => h e he id hi, fun h e he id hi => h id ⟨e, he, hi⟩⟩
  | case4 g y ih => exact ih
  | case7 es => simp only [AV.idLt, AV.ids, List.mem_flatMap]; exact ⟨fun h id ⟨e, he, hi⟩ => h e he id hi, fun h e he id hi => h id ⟨e, he, hi⟩⟩
  | case8 e h1 h2 h3 h4 h5 h6 h7 =>
    cases e with
    | ow id => exact (h1 _ rfl).elim
    | el a b c d => exact (h2 _ _ _ _ rfl).elim
    | wn a b c d => exact (h3 _ _ _ _ rfl).elim
    | fn a b c => exact (h5 _ _ _ rfl).elim
    | mb g y => exact (h4 _ _ rfl).elim
    | tup es => exact (h6 _ rfl).elim
    | agg es => exact (h7 _ rfl).elim
    | _ => simp [AV.idLt, AV.ids]
  | _ => simp [AV.idLt, AV.ids]
theorem zone_idLt {e : AV} (h : e.zone = true) (n : Nat) : e.idLt n := by
  induction e using AV.zone.induct with
  | case5 g y ih => exact ih (by simpa [AV.zone] using h)
  | case6 es =>
    intro e he id hid
    simp only [AV.zone, List.all_eq_true] at h
    have := h e he
    cases e <;> simp [AV.zoneB, AV.idB] at *
  | case7 es =>
    intro e he id hid
    simp only [AV.zone, List.all_eq_true] at h
    have := h e he
    cases e <;> simp [AV.zoneB, AV.idB] at *
  | case8 e h1 h2 h3 h4 h5 h6 h7 =>
    cases e with
    | ow id => exact (h1 _ rfl).elim
    | el a b c d => exact (h2 _ _ _ _ rfl).elim
    | wn a b c d => exact (h3 _ _ _ _ rfl).elim
    | fn a b c => exact (h4 _ _ _ rfl).elim
    | mb g y => exact (h5 _ _ rfl).elim
    | tup es => exact (h6 _ rfl).elim
    | agg es => exact (h7 _ rfl).elim
    | _ => trivial
  | _ => simp [AV.zone] at h
theorem AV.idLt_up {n m : Nat} (h : n ≤ m) {e : AV} (he : e.idLt n) : e.idLt m := (idLt_iff m e).2 fun id hid => Nat.lt_of_lt_of_le ((idLt_iff n e).1 he id hid) h
theorem AV.idB_ids {e : AV} (hf : e.flatB = true) : e.idB = e.ids := by
  cases e with
  | agg cs =>
    simp only [AV.flatB, List.all_eq_true] at hf
    simp only [AV.idB, AV.ids]
    symm
    rw [List.flatMap_eq_nil_iff]
    intro e he
    have := hf e he
    cases e <;> simp [AV.zoneB, AV.idB] at *
  | _ => first | rfl | simp [AV.flatB] at hf

/-- From here on a slot holds a value that is kept in mind. -/
def G0 : Nat := 1000000

/-- The package-level variables that are read: block and cells. (Filled in for each seat.) -/
def globs : List (Nat × List Value) := [(0, [.string ⟨#[61, 61]⟩, .string ⟨#[59]⟩, .string ⟨#[44]⟩, .string ⟨#[61]⟩, .string ⟨#[60]⟩, .string ⟨#[43]⟩, .string ⟨#[45]⟩, .string ⟨#[42]⟩, .string ⟨#[47]⟩, .string ⟨#[40]⟩, .string ⟨#[41]⟩])]
/-- They lie in the zone and hold their cells. -/
def GlobW (w : World) (M : Nat → Prop) : Prop := ∀ p ∈ globs, M p.1 ∧ ∀ (j : Nat) (c : Value), p.2[j]? = some c → w.cell? ⟨p.1, j, none⟩ = some c
theorem GlobW.mono {w w' : World} {M M' : Nat → Prop} (h : GlobW w M) (hb : ∀ b, M b → w'.heap[b]? = w.heap[b]?) (hM : ∀ b, M b → M' b) : GlobW w' M' := fun p hp =>
  ⟨hM _ (h p hp).1, fun j c hc => by rw [World.cell?_of_block (a := ⟨p.1, j, none⟩) (hb p.1 (h p hp).1)]; exact (h p hp).2 j c hc⟩

/-- The entry: the world as the call began, the zone of its arguments, how many slots; the blocks that it may write; values that are kept in mind. -/
structure Ctx where
  w0 : World
  Z : Nat → Prop
  n : Nat
  T : Nat → Prop
  gh : Nat → Value
  glob : GlobW w0 Z ∧ ∀ p ∈ globs, ¬ T p.1

/-- What the call may write. -/
def Ctx.own (X : Ctx) (b : Nat) : Prop := X.w0.heap.size ≤ b ∨ X.T b

/-- What was there is as it was, but for some blocks. -/
structure BelowT (T : Nat → Prop) (w w' : World) : Prop where
  os : w'.os = w.os
  tape : w'.tape = w.tape
  output : w'.output = w.output
  size : w.heap.size ≤ w'.heap.size
  block : ∀ k, k < w.heap.size → ¬ T k → w'.heap[k]? = w.heap[k]?

/-- A row's contents: cells of the zone, or rows' names. -/
def RepC (w : World) (M : Nat → Prop) (loc : Nat → Value) (n : Nat) (x : Value) (e : AV) : Prop := RepB w M loc x e ∧ e.idLt n ∧ e.flatB = true

structure ObjOK (own' : Nat → Prop) (w : World) (M : Nat → Prop) (loc : Nat → Value) (n : Nat) (sv : Value) (o : Ob) : Prop where
  own : ∃ xs, w.ownsRow 0 o.E o.k sv o.es.length xs ∧ ∀ (j : Nat) (e : AV), (o.es.flatMap AV.flat)[j]? = some e → ∃ x, xs[j]? = some x ∧ RepC w M loc n x e
  flat : ∀ e ∈ o.es, e.flat.length = o.k
  away : ∀ g, sv.ownBlock = some g → ¬ M g
  mine : ∀ g, sv.ownBlock = some g → own' g

/-- The entries of a map in memory. -/
def EntOK (w : World) (M : Nat → Prop) (es : Array MapEntry) (l : List (AV × AV)) : Prop :=
  es.size = l.length ∧ ∀ (j : Nat) (e : MapEntry) (q : AV × AV), es[j]? = some e → l[j]? = some q → RepZ w M e.key q.1 ∧ RepZ w M e.val q.2

structure MapOK (own' : Nat → Prop) (w : World) (M : Nat → Prop) (sv : Value) (m : MOb) : Prop where
  own : ∃ g es clock, sv = .map (some g) ∧ own' g ∧ ¬ M g ∧ w.heap[g]? = some (.map es clock) ∧ EntOK w M es m.es

theorem EntOK.mono {w w' : World} {M M' : Nat → Prop} (hb : ∀ b, M b → w'.heap[b]? = w.heap[b]?) (hM : ∀ b, M b → M' b) {es : Array MapEntry} {l : List (AV × AV)} (h : EntOK w M es l) : EntOK w' M' es l :=
  ⟨h.1, fun j e q h1 h2 => ⟨(h.2 j e q h1 h2).1.mono hb hM, (h.2 j e q h1 h2).2.mono hb hM⟩⟩

structure RR (X : Ctx) (M : Nat → Prop) (loc : Nat → Value) (st : St) (a : Act) (w : World) : Prop where
  env : ∀ s, Rep w M loc (if s < G0 then a.tmps.getD s undef else X.gh (s - G0)) (st.env s)
  nle : X.n ≤ G0
  size : a.tmps.size = X.n
  defers : a.defers = []
  obj : ∀ id o, st.heap[id]? = some (.row o) → ObjOK X.own w M loc st.heap.length (loc id) o
  sep : ∀ i j oi oj, i ≠ j → st.heap[i]? = some (.row oi) → st.heap[j]? = some (.row oj) → (loc i).ownBlock = none ∨ (loc i).ownBlock ≠ (loc j).ownBlock
  mobj : ∀ id m, st.heap[id]? = some (.map m) → MapOK X.own w M (loc id) m
  msep : ∀ i j mi mj, i ≠ j → st.heap[i]? = some (.map mi) → st.heap[j]? = some (.map mj) → loc i ≠ loc j
  below : BelowT X.T X.w0 w
  zone : ∀ b, M b → b < w.heap.size ∧ (X.Z b ∨ X.own b)
  zin : ∀ b, X.Z b → M b
  zlt : ∀ b, X.Z b → b < X.w0.heap.size
  one : ∀ id, id < st.heap.length → (loc id).oneCell' = true
  ids : ∀ s, (st.env s).idLt st.heap.length

def R (X : Ctx) (st : St) (a : Act) (w : World) : Prop := ∃ M loc, RR X M loc st a w

theorem RepO.mono {loc loc' : Nat → Value} {n : Nat} (hl : ∀ id, id < n → loc' id = loc id) {x : Value} {e : AV} (h : RepO loc x e) (hi : e.idLt n) : RepO loc' x e := by
  cases e with
  | ow id => simp only [RepO] at h ⊢; rw [hl id hi]; exact h
  | el a b c d => simp only [RepO] at h ⊢; rw [hl a hi]; exact h
  | wn a b c d => simp only [RepO] at h ⊢; rw [hl a hi]; exact h
  | _ => exact h
theorem idB_lt {n : Nat} {e : AV} (h : ∀ id ∈ e.idB, id < n) (hf : e.flatB = true) : e.idLt n := (idLt_iff n e).2 (by rw [← AV.idB_ids hf]; exact h)
theorem RepO.lt {loc : Nat → Value} {n : Nat} {x : Value} {e : AV} (h : RepO loc x e) (hi : ∀ id ∈ e.idB, id < n) : e.idLt n := by
  refine idB_lt hi ?_
  cases e <;> first | rfl | exact h.elim
theorem RepB.mono {w w' : World} {M M' : Nat → Prop} {loc loc' : Nat → Value} {n : Nat} (hb : ∀ b, M b → w'.heap[b]? = w.heap[b]?) (hM : ∀ b, M b → M' b)
    (hl : ∀ id, id < n → loc' id = loc id) {x : Value} {e : AV} (h : RepB w M loc x e) (hi : ∀ id ∈ e.idB, id < n) : RepB w' M' loc' x e :=
  h.imp (fun h => h.mono hb hM) (fun h => h.mono hl (h.lt hi))
theorem RepC.mono {w w' : World} {M M' : Nat → Prop} {loc loc' : Nat → Value} {n n' : Nat} (hb : ∀ b, M b → w'.heap[b]? = w.heap[b]?) (hM : ∀ b, M b → M' b)
    (hl : ∀ id, id < n → loc' id = loc id) (hn : n ≤ n') {x : Value} {e : AV} (h : RepC w M loc n x e) : RepC w' M' loc' n' x e :=
  ⟨h.1.mono hb hM hl (fun id hid => (idLt_iff n e).1 h.2.1 id (by
    cases e <;> first | exact hid | simp [AV.idB] at hid)), AV.idLt_up hn h.2.1, h.2.2⟩

theorem Rep.mono {w w' : World} {M M' : Nat → Prop} {loc loc' : Nat → Value} {n : Nat} (hb : ∀ b, M b → w'.heap[b]? = w.heap[b]?) (hM : ∀ b, M b → M' b)
    (hl : ∀ id, id < n → loc' id = loc id) {x : Value} {e : AV} (h : Rep w M loc x e) (hi : e.idLt n) : Rep w' M' loc' x e := by
  induction e using AV.zone.induct with
  | case1 id => exact RepO.mono hl (e := .ow id) h hi
  | case2 a b c d => exact RepO.mono hl (e := .el a b c d) h hi
  | case3 a b c d => exact RepO.mono hl (e := .wn a b c d) h hi
  | case4 f first cap =>
    obtain ⟨fs, cs, h1, h2, h3, h4, h5⟩ := h
    exact ⟨fs, cs, h1, h2, h3, fun j c e hc he => (h4 j c e hc he).mono hb hM hl (hi e (List.mem_append_left _ (List.mem_of_getElem? he))), fun j c e hc he => (h5 j c e hc he).mono hb hM hl (hi e (List.mem_append_right _ (List.mem_of_getElem? he)))⟩
  | case5 g y ih =>
    have h' : (g = false → x = undef) ∧ (g = true → Rep w M loc x y) := h
    show (g = false → x = undef) ∧ (g = true → Rep w' M' loc' x y)
    exact ⟨h'.1, fun hg => ih (h'.2 hg) hi⟩
  | case6 es =>
    obtain ⟨cs, h1, h2, h3⟩ := h
    exact ⟨cs, h1, h2, fun j c e hc he => (h3 j c e hc he).mono hb hM hl (hi e (List.mem_of_getElem? he))⟩
  | case7 es =>
    obtain ⟨cs, h1, h2, h3⟩ := h
    exact ⟨cs, h1, h2, fun j c e hc he => (h3 j c e hc he).mono hb hM hl (hi e (List.mem_of_getElem? he))⟩
  | case8 e h1 h2 h3 h4 h5 h6 h7 =>
    refine RepZ.rep (RepZ.mono hb hM (Rep.repZ h ?_))
    cases e with
    | ow id => exact (h1 _ rfl).elim
    | el a b c d => exact (h2 _ _ _ _ rfl).elim
    | wn a b c d => exact (h3 _ _ _ _ rfl).elim
    | fn a b c => exact (h4 _ _ _ rfl).elim
    | mb g y => exact (h5 _ _ rfl).elim
    | tup es => exact (h6 _ rfl).elim
    | agg es => exact (h7 _ rfl).elim
    | _ => rfl

theorem RR.globW {X : Ctx} {M M' : Nat → Prop} {loc : Nat → Value} {st : St} {a : Act} {w : World} (h : RR X M loc st a w) (hM : ∀ b, M b → M' b) : GlobW w M' := fun p hp => by
  obtain ⟨h1, h2⟩ := X.glob.1 p hp
  refine ⟨hM _ (h.zin _ h1), fun j c hc => ?_⟩
  rw [World.cell?_of_block (a := ⟨p.1, j, none⟩) (h.below.block p.1 (h.zlt _ h1) (X.glob.2 p hp))]
  exact h2 j c hc

/-- A slot is filled. -/
theorem RR.put {X : Ctx} {M : Nat → Prop} {loc : Nat → Value} {st : St} {a : Act} {w : World} (h : RR X M loc st a w) {d : Nat} (hd : d < X.n) {x : Value} {e : AV}
    (hr : Rep w M loc x e) (hi : e.idLt st.heap.length) : RR X M loc { st with env := upd st.env d e } (a.put (some d) x) w where
  env := by
    intro s
    simp only [Act.put, upd]
    by_cases hs : s = d
    · subst hs
      rw [if_pos rfl, if_pos (Nat.lt_of_lt_of_le hd h.nle)]
      have : (a.tmps.setIfInBounds s x).getD s undef = x := by
        rw [Array.getD_eq_getD_getElem?, Array.getElem?_setIfInBounds_self_of_lt (by rw [h.size]; exact hd)]; rfl
      rw [this]; exact hr
    · rw [if_neg hs]
      have : (a.tmps.setIfInBounds d x).getD s undef = a.tmps.getD s undef := by
        rw [Array.getD_eq_getD_getElem?, Array.getElem?_setIfInBounds_ne (by omega), ← Array.getD_eq_getD_getElem?]
      rw [this]; exact h.env s
  nle := h.nle
  size := by simp [Act.put, h.size]
  defers := h.defers
  obj := h.obj
  sep := h.sep
  mobj := h.mobj
  msep := h.msep
  below := h.below
  zone := h.zone
  zin := h.zin
  zlt := h.zlt
  one := h.one
  ids := by
    intro s
    simp only [upd]
    split
    · exact hi
    · exact h.ids s

end Go.Ab
