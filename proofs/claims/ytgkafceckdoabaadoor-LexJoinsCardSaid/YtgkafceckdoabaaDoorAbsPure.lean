/-
  The operations that leave memory alone, over abstract values.
-/
import Derived.Test.YtgkafceckdoabaaDoorAbsCore
set_option linter.all false
namespace Go.Ab
open Go.RowKit

inductive K where
  | one | str | bool | ptr | int (k : IntKind)
  | slice (e : Nat)
  | struct (fs : List (Nat × Nat))
  | arr (n e : Nat)
  | map (k e : Nat)

def kOf : TypeDesc → K
  | .slice e => .slice e
  | .struct fs => .struct (fs.toList.map fun f => (f.offset, f.type))
  | .array n e => .arr n e
  | .string => .str
  | .bool => .bool
  | .int k => .int k
  | .map k e => .map k e
  | .pointer _ => .ptr
  | _ => .one

def K.agg : K → Bool
  | .struct _ | .arr _ _ => true
  | _ => false

structure TK where
  k : K
  cells : Nat
  bytes : Nat
  zero : AV

def ofV : Value → AV
  | .slice none 0 0 => .nil
  | .agg cs => .agg (cs.toList.map .v)
  | x => .v x

def zeroOf : Value → AV
  | .agg cs => .agg (cs.toList.map ofV)
  | x => ofV x

/-- What the program's table says of a type. -/
def tyk (P : Program) (t : Nat) : Option TK :=
  match P.info? t, P.underlying t with
  | some i, some d => match i.zero with
    | some z => some ⟨kOf d, i.size, i.bytes, zeroOf z⟩
    | none => none
  | _, _ => none

theorem tyk_spec {P : Program} {t : Nat} {T : TK} (h : tyk P t = some T) :
    ∃ i d z, P.info? t = some i ∧ P.underlying t = some d ∧ i.zero = some z ∧ T = ⟨kOf d, i.size, i.bytes, zeroOf z⟩ := by
  unfold tyk at h
  split at h
  · rename_i i d h1 h2
    split at h
    · rename_i z hz
      exact ⟨i, d, z, h1, h2, hz, (Option.some.inj h).symm⟩
    · cases h
  · cases h

section
variable {P : Program} {w : World} {M : Nat → Prop} {loc : Nat → Value}

theorem kOf_slice {d : TypeDesc} {e : Nat} (h : kOf d = .slice e) : d = .slice e := by cases d <;> simp [kOf] at h; rw [h]
theorem kOf_str {d : TypeDesc} (h : kOf d = .str) : d = .string := by cases d <;> simp [kOf] at h; rfl
theorem kOf_ptr {d : TypeDesc} (h : kOf d = .ptr) : ∃ e, d = .pointer e := by cases d <;> simp [kOf] at h; exact ⟨_, rfl⟩
theorem kOf_int {d : TypeDesc} {k : IntKind} (h : kOf d = .int k) : d = .int k := by cases d <;> simp [kOf] at h; rw [h]
theorem kOf_bool {d : TypeDesc} (h : kOf d = .bool) : d = .bool := by cases d <;> simp [kOf] at h; rfl
theorem kOf_arr {d : TypeDesc} {n e : Nat} (h : kOf d = .arr n e) : d = .array n e := by cases d <;> simp [kOf] at h; rw [h.1, h.2]
theorem kOf_map {d : TypeDesc} {n e : Nat} (h : kOf d = .map n e) : d = .map n e := by cases d <;> simp [kOf] at h; rw [h.1, h.2]
theorem kOf_struct {d : TypeDesc} {fs : List (Nat × Nat)} (h : kOf d = .struct fs) : ∃ fa : Array Field, d = .struct fa ∧ fs = fa.toList.map fun f => (f.offset, f.type) := by
  cases d <;> simp [kOf] at h
  exact ⟨_, rfl, by simp [h]⟩

theorem rep_ofV (x : Value) : RepZ w M x (ofV x) := by
  unfold ofV
  split
  · exact .nil
  · rename_i cs
    refine .agg cs _ (by simp) fun j c e h1 h2 => ?_
    simp only [List.getElem?_map, Array.getElem?_toList, h1, Option.map_some] at h2
    obtain rfl := Option.some.inj h2
    exact .v c
  · exact .v x
theorem rep_zeroOf (x : Value) : RepZ w M x (zeroOf x) := by
  unfold zeroOf
  split
  · rename_i cs
    refine .agg cs _ (by simp) fun j c e h1 h2 => ?_
    simp only [List.getElem?_map, Array.getElem?_toList, h1, Option.map_some] at h2
    obtain rfl := Option.some.inj h2
    exact rep_ofV c
  · exact rep_ofV _

/-- A package-level variable. -/
def globV (g : Nat) : AV := match globs.find? (fun p => p.1 == g) with
  | some p => .ro (p.2.map ofV)
  | none => .bad

/-- The abstract value of an operand. -/
def ev (env : Nat → AV) : Operand → AV
  | .tmp t => if t < G0 then env t else .bad
  | .const x => ofV x
  | .global g => globV g
  | .func f => .v (.func (.func f) #[] #[])

theorem RR.ev {X : Ctx} {st : St} {a : Act} (h : RR X M loc st a w) (x : Operand) : Rep w M loc (a.eval x) (ev st.env x) := by
  cases x with
  | tmp t =>
    have := h.env t
    simp only [Ab.ev]
    split
    · rename_i ht; rw [if_pos ht] at this; exact this
    · exact (RepZ.bad _).rep
  | const x => exact (rep_ofV x).rep
  | global g =>
    simp only [Ab.ev, globV]
    split
    · rename_i p hp
      have hm := List.mem_of_find?_eq_some hp
      have he : p.1 = g := by simpa using List.find?_some hp
      obtain ⟨h1, h2⟩ := h.globW (fun _ hb => hb) p hm
      refine RepZ.rep ?_
      show RepZ w M (.pointer (some ⟨g, 0, none⟩)) _
      refine .ro ⟨g, 0, none⟩ _ (fun j => p.2.getD j undef) (he ▸ h1) (fun j hj => ?_) (fun j e hj => ?_)
      · rw [List.length_map] at hj
        rw [add_mk, Nat.zero_add, ← he, List.getD_eq_getElem?_getD, List.getElem?_eq_getElem hj]
        exact h2 j _ (List.getElem?_eq_getElem hj)
      · rw [List.getElem?_map, Option.map_eq_some_iff] at hj
        obtain ⟨c, hc, rfl⟩ := hj
        rw [List.getD_eq_getElem?_getD, hc]
        exact rep_ofV c
    · exact (RepZ.bad _).rep
  | func f => exact (RepZ.v _).rep

theorem ofV_idLt (n : Nat) (x : Value) : (ofV x).idLt n := by
  unfold ofV; split
  · trivial
  · intro e he id hid
    obtain ⟨y, _, rfl⟩ := List.mem_map.1 he
    simp [AV.idB] at hid
  · trivial
theorem RR.evLt {X : Ctx} {st : St} {a : Act} (h : RR X M loc st a w) (x : Operand) : (Ab.ev st.env x).idLt st.heap.length := by
  cases x with
  | tmp t =>
    simp only [Ab.ev]
    split
    · exact h.ids t
    · trivial
  | const x => exact ofV_idLt _ x
  | global g =>
    simp only [Ab.ev, globV]
    split <;> trivial
  | func f => trivial

theorem Rep.v_inv {x y : Value} (h : Rep w M loc x (.v y)) : x = y := by unfold Rep at h; cases h; rfl
theorem Rep.nil_inv {x : Value} (h : Rep w M loc x .nil) : x = .slice none 0 0 := by unfold Rep at h; cases h; rfl
theorem RepZ.sl_inv {x : Value} {es : List AV} (h : RepZ w M x (.sl es)) : ∃ (A : Option Addr) (cap k : Nat) (f : Nat → Value), x = .slice A es.length cap ∧ (∀ e ∈ es, e.flat.length = k) ∧ (es ≠ [] → ∃ ad, A = some ad ∧ M ad.block) ∧
    (∀ ad, A = some ad → ∀ j, j < es.length * k → w.cell? (ad.add j) = some (f j)) ∧ (∀ (j : Nat) (e : AV), (es.flatMap AV.flat)[j]? = some e → RepZ w M (f j) e) ∧ es.length ≤ cap ∧ cap ≤ maxLen := by
  cases h with
  | sl A cap k es f hk hA hc hr hcap hmax => exact ⟨A, cap, k, f, rfl, hk, hA, hc, hr, hcap, hmax⟩
theorem Rep.sl_inv {x : Value} {es : List AV} (h : Rep w M loc x (.sl es)) : ∃ (A : Option Addr) (cap k : Nat) (f : Nat → Value), x = .slice A es.length cap ∧ (∀ e ∈ es, e.flat.length = k) ∧ (es ≠ [] → ∃ ad, A = some ad ∧ M ad.block) ∧
    (∀ ad, A = some ad → ∀ j, j < es.length * k → w.cell? (ad.add j) = some (f j)) ∧ (∀ (j : Nat) (e : AV), (es.flatMap AV.flat)[j]? = some e → RepZ w M (f j) e) ∧ es.length ≤ cap ∧ cap ≤ maxLen := by
  unfold Rep at h; exact RepZ.sl_inv h
theorem Rep.ro_inv {x : Value} {cells : List AV} (h : Rep w M loc x (.ro cells)) : ∃ (ad : Addr) (f : Nat → Value), x = .pointer (some ad) ∧ M ad.block ∧
    (∀ j, j < cells.length → w.cell? (ad.add j) = some (f j)) ∧ (∀ (j : Nat) (e : AV), cells[j]? = some e → RepZ w M (f j) e) := by
  unfold Rep at h
  cases h with
  | ro ad cells f hm hc hr => exact ⟨ad, f, rfl, hm, hc, hr⟩
theorem Rep.agg_inv {x : Value} {es : List AV} (h : Rep w M loc x (.agg es)) : ∃ cs : Array Value, x = .agg cs ∧ cs.size = es.length ∧ ∀ (j : Nat) (c : Value) (e : AV), cs[j]? = some c → es[j]? = some e → RepB w M loc c e := h
theorem Rep.tup_inv {x : Value} {es : List AV} (h : Rep w M loc x (.tup es)) : ∃ cs : Array Value, x = .tuple cs ∧ cs.size = es.length ∧ ∀ (j : Nat) (c : Value) (e : AV), cs[j]? = some c → es[j]? = some e → RepB w M loc c e := h

/-- Cells of scalars: which ones are equal. -/
def eqV (T : Option TK) (x y : AV) : Option Bool :=
  match T, x, y with
  | some ⟨.int _, _, _, _⟩, .v (.int k a), .v (.int k' b) => if k = k' then some (a == b) else none
  | some ⟨.str, _, _, _⟩, .v (.string a), .v (.string b) => some (a == b)
  | some ⟨.bool, _, _, _⟩, .v (.bool a), .v (.bool b) => some (a == b)
  | _, _, _ => none

def eqFs (P : Program) : Nat → List (Nat × Nat) → List AV → List AV → Option Bool
  | _, [], [], [] => some true
  | i, (o, t) :: fs, x :: xs, y :: ys => if o = i then (match eqV (tyk P t) x y, eqFs P (i + 1) fs xs ys with
    | some a, some b => some (a && b)
    | _, _ => none) else none
  | _, _, _, _ => none

/-- A struct whose values are compared cell by cell. -/
def eqOK (P : Program) (t : Nat) : Bool :=
  (match P.underlying t with
   | some (.struct fs) => fs.toList.all fun f => f.name != "_"
   | _ => false) && !P.stoodInHeld t && !P.eqGuardType P.depth t

/-- Integers. -/
def binI (op : BinOp) (k : IntKind) (a b : Int) : Option (Prop × AV) :=
  match op with
  | .add => some (True, .v (.int k (k.wrap (a + b))))
  | .sub => some (True, .v (.int k (k.wrap (a - b))))
  | .mul => some (True, .v (.int k (k.wrap (a * b))))
  | .quo => some (b ≠ 0, .v (.int k (k.wrap (a.tdiv b))))
  | .rem => some (b ≠ 0, .v (.int k (a.tmod b)))
  | .eql => some (True, .v (.bool (a == b)))
  | .neq => some (True, .v (.bool (a != b)))
  | .lss => some (True, .v (.bool (decide (a < b))))
  | .leq => some (True, .v (.bool (decide (a ≤ b))))
  | .gtr => some (True, .v (.bool (decide (b < a))))
  | .geq => some (True, .v (.bool (decide (b ≤ a))))
  | .and => some (True, .v (.int k (k.wrap (BitVec.ofInt k.bits a &&& BitVec.ofInt k.bits b).toNat)))
  | .or => some (True, .v (.int k (k.wrap (BitVec.ofInt k.bits a ||| BitVec.ofInt k.bits b).toNat)))
  | .xor => some (True, .v (.int k (k.wrap (BitVec.ofInt k.bits a ^^^ BitVec.ofInt k.bits b).toNat)))
  | .shl => none
  | .shr => none
  | .andNot => none

def binS (op : BinOp) (a b : ByteArray) : Option (Prop × AV) :=
  match op with
  | .add => some (a.size + b.size ≤ maxLen, .v (.string (a ++ b)))
  | .eql => some (True, .v (.bool (a == b)))
  | .neq => some (True, .v (.bool (a != b)))
  | _ => none

def bin (P : Program) (op : BinOp) (t : Nat) (x y : AV) : Option (Prop × AV) :=
  match x, y with
  | .v (.int k a), .v (.int k' b) =>
    (match op with
     | .shl => some (0 ≤ b, .v (.int k (k.wrap (a * 2 ^ (min b.toNat k.bits)))))
     | .shr => some (0 ≤ b, .v (.int k (a.fdiv (2 ^ (min b.toNat k.bits)))))
     | _ => (binI op k a b).map fun (p, r) => (k = k' ∧ p, r))
  | .v (.string a), .v (.string b) => binS op a b
  | .v (.bool a), .v (.bool b) => match tyk P t, op with
    | some ⟨.bool, _, _, _⟩, .eql => some (True, .v (.bool (a == b)))
    | some ⟨.bool, _, _, _⟩, .neq => some (True, .v (.bool (a != b)))
    | _, _ => none
  | .el .., .v (.pointer none) => match tyk P t, op with
    | some ⟨.ptr, _, _, _⟩, .eql => some (True, .v (.bool false))
    | some ⟨.ptr, _, _, _⟩, .neq => some (True, .v (.bool true))
    | _, _ => none
  | .v (.pointer none), .v (.pointer none) => match tyk P t, op with
    | some ⟨.ptr, _, _, _⟩, .eql => some (True, .v (.bool true))
    | some ⟨.ptr, _, _, _⟩, .neq => some (True, .v (.bool false))
    | _, _ => none
  | .agg xs, .agg ys => match tyk P t with
    | some ⟨.struct fs, _, _, _⟩ => match op, eqFs P 0 fs xs ys with
      | .eql, some r => some (eqOK P t = true ∧ xs.all AV.zoneB = true ∧ ys.all AV.zoneB = true, .v (.bool r))
      | .neq, some r => some (eqOK P t = true ∧ xs.all AV.zoneB = true ∧ ys.all AV.zoneB = true, .v (.bool !r))
      | _, _ => none
    | _ => none
  | _, _ => none

def cut (T : TK) (cs : List AV) : Option (Prop × AV) :=
  if T.k.agg then some (T.cells ≤ cs.length, .agg (cs.take T.cells)) else some (0 < cs.length, cs.headD .bad)

def AV.aggZ (_ : AV) : Bool := true

def loadA (T : TK) (H : List Cell) : AV → Option (Prop × AV)
  | .ro cs => cut T cs
  | .el id k i off => match H[id]? with
    | some (.row o) => (cut T ((nth o.es i).flat.drop off)).map fun (p, r) => ((k = o.k ∧ i < o.es.length ∧ off + T.cells ≤ k) ∧ p ∧ r.aggZ = true, r)
    | _ => none
  | _ => none

def lenA (k : K) (H : List Cell) (x : AV) : Option AV :=
  match k, x with
  | .slice _, .sl es => some (.v (.int .i64 es.length))
  | .slice _, .nil => some (.v (.int .i64 0))
  | .str, .v (.string s) => some (.v (.int .i64 s.size))
  | .slice _, .ow id => match H[id]? with
    | some (.row o) => some (.v (.int .i64 o.es.length))
    | _ => none
  | .slice _, .wn _ _ _ n => some (.v (.int .i64 n))
  | _, _ => none

def AV.isV : AV → Bool
  | .v _ => true
  | _ => false
def AV.getV : AV → Value
  | .v y => y
  | _ => undef

/-- The operations that leave memory alone. -/
def pur (P : Program) (H : List Cell) (ρ : Operand → AV) : Op → Option (Prop × AV)
  | .move x => some (True, ρ x)
  | .assign x => some (True, ρ x)
  | .pick c x y => match ρ c, ρ x, ρ y with
    | .v (.bool b), .v (.bool p), .v (.bool q) => some (True, .v (.bool (bif b then p else q)))
    | .v (.bool b), .mb g (.v (.bool p)), .v (.bool q) => some (b = true → g = true, .v (.bool (bif b then p else q)))
    | .v (.bool b), .v (.bool p), .mb g (.v (.bool q)) => some (b = false → g = true, .v (.bool (bif b then p else q)))
    | .v (.bool false), .mb _ .bad, .v (.bool q) => some (True, .v (.bool q))
    | .v (.bool true), .v (.bool p), .mb _ .bad => some (True, .v (.bool p))
    | _, _, _ => none
  | .load t x => match tyk P t with
    | some T => loadA T H (ρ x)
    | none => none
  | .nilCheck x => match ρ x with
    | .el id k i off => some (True, .el id k i off)
    | .ro cs => some (True, .ro cs)
    | _ => none
  | .binOp op t x y _ => bin P op t (ρ x) (ρ y)
  | .unOp op _ x => match op, ρ x with
    | .not, .v (.bool b) => some (True, .v (.bool !b))
    | .neg, .v (.int k n) => some (True, .v (.int k (k.wrap (0 - n))))
    | _, _ => none
  | .convert src dst x => match tyk P src, tyk P dst, ρ x with
    | some _, some ⟨.int k, _, _, _⟩, .v (.int _ n) => some (True, .v (.int k (k.wrap n)))
    | _, _, _ => none
  | .extract x i => match ρ x with
    | .tup vs => (vs[i]?).map fun r => (True, r)
    | _ => none
  | .fieldAddr s x f => match tyk P s with
    | some ⟨.struct fs, _, _, _⟩ => match fs[f]? with
      | some (o, t) => match tyk P t, ρ x with
        | some T, .ro cs => some (T.cells ≠ 0, .ro (cs.drop o))
        | some T, .el id k i off => some (T.cells ≠ 0, .el id k i (off + o))
        | _, _ => none
      | none => none
    | _ => none
  | .field s x f => match tyk P s with
    | some ⟨.struct fs, _, _, _⟩ => match fs[f]? with
      | some (o, t) => match tyk P t, ρ x with
        | some T, .agg cs => if T.k.agg then some (o + T.cells ≤ cs.length, .agg ((cs.drop o).take T.cells)) else some (o < cs.length, nth cs o)
        | _, _ => none
      | none => none
    | _ => none
  | .indexAddr t x i => match tyk P t, ρ x, ρ i with
    | some ⟨.slice e, _, _, _⟩, .sl es, .v (.int _ n) => match tyk P e with
      | some E => some ((0 ≤ n ∧ n < es.length) ∧ (nth es n.toNat).flat.length = E.cells, .ro (nth es n.toNat).flat)
      | none => none
    | some ⟨.slice e, _, _, _⟩, .ow id, .v (.int _ n) => match tyk P e, H[id]? with
      | some E, some (.row o) => some ((0 ≤ n ∧ n < o.es.length) ∧ o.k = E.cells, .el id o.k n.toNat 0)
      | _, _ => none
    | some ⟨.slice e, _, _, _⟩, .wn id k lo m, .v (.int _ n) => match tyk P e with
      | some E => some ((0 ≤ n ∧ n < m) ∧ k = E.cells, .el id k (lo + n.toNat) 0)
      | _ => none
    | _, _, _ => none
  | .index t x i => match tyk P t, ρ x, ρ i with
    | some ⟨.str, _, _, _⟩, .v (.string s), .v (.int _ n) => some (0 ≤ n ∧ n < s.size, .v (.int .u8 (s.data.getD n.toNat 0).toNat))
    | some ⟨.arr m e, _, _, _⟩, .agg cs, .v (.int _ n) => match tyk P e with
      | some E => if E.k.agg then none else some ((0 ≤ n ∧ n < m) ∧ E.cells = 1 ∧ n < cs.length, nth cs n.toNat)
      | none => none
    | _, _, _ => none
  | .slice t x lo hi none => match tyk P t, ρ x with
    | some ⟨.str, _, _, _⟩, .v (.string s) => match lo.map ρ, hi.map ρ with
      | none, none => some (True, .v (.string s))
      | some (.v (.int _ l)), none => some (0 ≤ l ∧ l ≤ s.size, .v (.string (s.extract l.toNat s.size)))
      | none, some (.v (.int _ h)) => some (0 ≤ h ∧ h ≤ s.size, .v (.string (s.extract 0 h.toNat)))
      | some (.v (.int _ l)), some (.v (.int _ h)) => some ((0 ≤ l ∧ l ≤ h) ∧ h ≤ s.size, .v (.string (s.extract l.toNat h.toNat)))
      | _, _ => none
    | some ⟨.slice e, _, _, _⟩, .sl es => match tyk P e, lo.map ρ, hi.map ρ with
      | some E, some (.v (.int _ l)), none => some ((0 ≤ l ∧ l ≤ es.length) ∧ ∀ e ∈ es, e.flat.length = E.cells, .sl (es.drop l.toNat))
      | some E, none, some (.v (.int _ h)) => some ((0 ≤ h ∧ h ≤ es.length) ∧ ∀ e ∈ es, e.flat.length = E.cells, .sl (es.take h.toNat))
      | some E, some (.v (.int _ l)), some (.v (.int _ h)) => some (((0 ≤ l ∧ l ≤ h) ∧ h ≤ es.length) ∧ ∀ e ∈ es, e.flat.length = E.cells, .sl ((es.take h.toNat).drop l.toNat))
      | _, _, _ => none
    | some ⟨.slice e, _, _, _⟩, .wn id k s m => match tyk P e, lo.map ρ, hi.map ρ with
        | some E, some (.v (.int _ l)), none => some ((0 ≤ l ∧ l ≤ m) ∧ k = E.cells, .wn id k (s + l.toNat) (m - l.toNat))
        | some E, none, some (.v (.int _ h)) => some ((0 ≤ h ∧ h ≤ m) ∧ k = E.cells, .wn id k s h.toNat)
        | some E, some (.v (.int _ l)), some (.v (.int _ h)) => some (((0 ≤ l ∧ l ≤ h) ∧ h ≤ m) ∧ k = E.cells, .wn id k (s + l.toNat) (h.toNat - l.toNat))
        | _, _, _ => none
    | _, _ => none
  | .makeFunc f first cap => if first.all (fun x => (ρ x).isV) && cap.all (fun x => (ρ x).isV) then
      some (True, .v (.func f (first.map fun x => (ρ x).getV) (cap.map fun x => (ρ x).getV))) else
      match f with
      | .func f => if first.all (fun x => (ρ x).flatB) && cap.all (fun x => (ρ x).flatB) then some (True, .fn f (first.toList.map ρ) (cap.toList.map ρ)) else none
      | _ => none
  | .call c => match c.callee, c.args.toList, c.argTypes.toList with
    | .builtin .len, [x], [t] => match tyk P t with
      | some T => (lenA T.k H (ρ x)).map fun r => (True, r)
      | none => none
    | .builtin .max, [x, y], _ => match ρ x, ρ y with
      | .v (.int k p), .v (.int _ q) => some (True, .v (.int k (max p q)))
      | _, _ => none
    | .builtin .min, [x, y], _ => match ρ x, ρ y with
      | .v (.int k p), .v (.int _ q) => some (True, .v (.int k (min p q)))
      | _, _ => none
    | _, _, _ => none
  | _ => none

/-- A part of a row that the call owns. -/
def sliceX (P : Program) (H : List Cell) (ρ : Operand → AV) : Op → Option (Prop × AV)
  | .slice t x lo hi none => match tyk P t, ρ x with
    | some ⟨.slice e, _, _, _⟩, .ow id => match H[id]? with
      | some (.row o) => match tyk P e, lo.map ρ, hi.map ρ with
        | some E, some (.v (.int _ l)), none => some ((0 ≤ l ∧ l ≤ o.es.length) ∧ o.k = E.cells, .wn id o.k l.toNat (o.es.length - l.toNat))
        | some E, none, some (.v (.int _ h)) => some ((0 ≤ h ∧ h ≤ o.es.length) ∧ o.k = E.cells, .wn id o.k 0 h.toNat)
        | some E, some (.v (.int _ l)), some (.v (.int _ h)) => some (((0 ≤ l ∧ l ≤ h) ∧ h ≤ o.es.length) ∧ o.k = E.cells, .wn id o.k l.toNat (h.toNat - l.toNat))
        | _, _, _ => none
      | _ => none
    | _, _ => none
  | _ => none

/-- Which values of the heap's rows. -/
def HeapOK (X : Ctx) (w : World) (M : Nat → Prop) (loc : Nat → Value) (H : List Cell) : Prop := ∀ id o, H[id]? = some (.row o) → ObjOK X.own w M loc H.length (loc id) o

def PurOK (P : Program) (w : World) (M : Nat → Prop) (loc : Nat → Value) (s : Sem Value) (r : AV) : Prop := ∃ v, s.run P w = .ok v w ∧ Rep w M loc v r

theorem binI_ok {op : BinOp} {k k' : IntKind} {a b : Int} {p : Prop} {r : AV} {t : Nat} (h : binI op k a b = some (p, r)) (hk : k = k') (hp : p) :
    PurOK P w M loc (binOp op t (.int k a) (.int k' b)) r := by
  subst hk
  cases op <;> simp only [binI, Option.some.injEq, Prod.mk.injEq, reduceCtorEq] at h <;> obtain ⟨rfl, rfl⟩ := h <;>
    refine ⟨_, ?_, (RepZ.v _).rep⟩
  all_goals simp only [binOp, ne_eq, not_true_eq_false, if_false]
  all_goals first
    | rfl
    | (simp only [Op.intDiv]; rw [if_neg (by first | exact hp | trivial)]; rfl)

theorem binS_ok {op : BinOp} {a b : ByteArray} {p : Prop} {r : AV} {t : Nat} (h : binS op a b = some (p, r)) (hp : p) :
    PurOK P w M loc (binOp op t (.string a) (.string b)) r := by
  cases op <;> simp only [binS, Option.some.injEq, Prod.mk.injEq, reduceCtorEq] at h <;> obtain ⟨rfl, rfl⟩ := h
  · refine ⟨_, ?_, (RepZ.v _).rep⟩
    have h1 : ¬ (((a.size + b.size : Nat) : Int) > IntKind.i64.max) := by
      have : IntKind.i64.max = 9223372036854775807 := by decide
      rw [this]; unfold maxLen at hp; omega
    simp only [binOp, Op.stringOp, Sem.run_bind, if_neg h1]
    rfl
  · refine ⟨_, ?_, (RepZ.v _).rep⟩
    simp only [binOp, Op.stringOp, Sem.run_pure, beq_toListBytes]
  · refine ⟨_, ?_, (RepZ.v _).rep⟩
    simp only [binOp, Op.stringOp, Sem.run_pure, bne, beq_toListBytes]

end
end Go.Ab
