/-
  The operations that make or write memory of the call's own.
-/
import Derived.Test.YtgkafceckdoabaaDoorAbsSound3
set_option linter.all false
namespace Go.Ab
open Go.RowKit

def AV.one : AV → Bool
  | .v x => x.oneCell'
  | .nil | .sl _ | .ro _ | .ow _ | .el .. | .wn .. => true
  | _ => false

/-- A value that can be laid into memory: a struct of one-cell parts, or one cell. -/
def AV.plain : AV → Bool
  | .agg cs => cs.all AV.one
  | x => x.one

section
variable {P : Program} {w w' : World} {M : Nat → Prop} {loc : Nat → Value}

theorem RepZ.one {x : Value} {e : AV} (h : RepZ w M x e) (ho : e.one = true) : x.oneCell' = true := by
  cases h with
  | v x => exact ho
  | bad x => simp [AV.one] at ho
  | nil => rfl
  | sl => rfl
  | ro => rfl
  | agg => simp [AV.one] at ho
  | tup => simp [AV.one] at ho
  | mb => simp [AV.one] at ho

theorem RepZ.plain {x : Value} {e : AV} (h : RepZ w M x e) (hp : e.plain = true) :
    x.cells.size = e.flat.length ∧ (∀ (j : Nat) (c : AV), e.flat[j]? = some c → ∃ y, x.cells[j]? = some y ∧ RepZ w M y c) ∧ ∀ y ∈ x.cells.toList, y.oneCell' = true := by
  have hone : e.one = true → (∀ cs, e ≠ .agg cs) → x.cells.size = e.flat.length ∧ (∀ (j : Nat) (c : AV), e.flat[j]? = some c → ∃ y, x.cells[j]? = some y ∧ RepZ w M y c) ∧ ∀ y ∈ x.cells.toList, y.oneCell' = true := by
    intro ho hn
    have h1 := h.one ho
    have hx : x.cells = #[x] := by cases x <;> simp [Value.cells, Value.oneCell'] at *
    have hf : e.flat = [e] := by cases e <;> first | rfl | exact absurd rfl (hn _)
    rw [hx, hf]
    refine ⟨rfl, fun j c hc => ?_, fun y hy => ?_⟩
    · cases j with
      | zero => simp at hc; subst hc; exact ⟨x, rfl, h⟩
      | succ j => simp at hc
    · simp at hy; subst hy; exact h1
  cases h with
  | agg cs es hl hr =>
    refine ⟨hl, fun j c hc => ?_, fun y hy => ?_⟩
    · have hj : j < cs.size := by rw [hl]; exact (List.getElem?_eq_some_iff.1 hc).1
      exact ⟨cs[j], Array.getElem?_eq_getElem hj, hr j _ c (Array.getElem?_eq_getElem hj) hc⟩
    · simp only [Value.cells] at hy
      obtain ⟨j, hj, rfl⟩ := List.getElem_of_mem hy
      simp only [Array.length_toList] at hj
      have hj' : j < es.length := by rw [← hl]; exact hj
      have := hr j cs[j] es[j] (Array.getElem?_eq_getElem hj) (List.getElem?_eq_getElem hj')
      simp only [AV.plain, List.all_eq_true] at hp
      simpa using this.one (hp _ (List.getElem_mem hj'))
  | v x => exact hone hp (by intro cs h; cases h)
  | bad x => simp [AV.plain, AV.one] at hp
  | nil => exact hone hp (by intro cs h; cases h)
  | sl => exact hone rfl (by intro cs h; cases h)
  | ro => exact hone rfl (by intro cs h; cases h)
  | tup => simp [AV.plain, AV.one] at hp
  | mb => simp [AV.plain, AV.one] at hp

theorem AV.idLt_of_one {e : AV} (ho : e.one = true) (hz : e.zone = true) (n : Nat) : e.idLt n := by
  cases e <;> first | trivial | simp [AV.one] at ho | simp [AV.zone] at hz

theorem RepO.one {loc : Nat → Value} {n : Nat} (h1 : ∀ id, id < n → (loc id).oneCell' = true) {x : Value} {e : AV} (h : RepO loc x e) (hi : e.idLt n) : x.oneCell' = true := by
  cases e with
  | ow id => rw [show x = loc id from h]; exact h1 id hi
  | el a b c d => obtain ⟨g, n, c, _, rfl⟩ := h; rfl
  | wn a b c d => obtain ⟨A, c, rfl, _⟩ := h; rfl
  | _ => exact h.elim

theorem RepZ.repC {x : Value} {e : AV} (h : RepZ w M x e) (ho : e.one = true) (n : Nat) : RepC w M loc n x e :=
  ⟨.inl h, AV.idLt_of_one ho (by cases h <;> first | rfl | simp [AV.one] at ho) n, by cases h <;> first | rfl | simp [AV.one] at ho⟩

theorem RepB.repC {n : Nat} {x : Value} {e : AV} (h : RepB w M loc x e) (ho : e.one = true) (hi : ∀ id ∈ e.idB, id < n) : RepC w M loc n x e := by
  have hf : e.flatB = true := by cases e <;> first | rfl | simp [AV.one] at ho
  exact ⟨h, idB_lt hi hf, hf⟩
theorem RepC.one {n : Nat} (h1 : ∀ id, id < n → (loc id).oneCell' = true) {x : Value} {e : AV} (h : RepC w M loc n x e) (ho : e.one = true) : x.oneCell' = true := by
  rcases h.1 with hz | hz
  · exact hz.one ho
  · exact hz.one h1 h.2.1

/-- What can be laid into memory, cell by cell. -/
theorem RR.plain {X : Ctx} {st : St} {a : Act} (h : RR X M loc st a w) {x : Value} {e : AV} (hr : Rep w M loc x e) (hi : e.idLt st.heap.length) (hp : e.plain = true) :
    x.cells.size = e.flat.length ∧ (∀ (j : Nat) (c : AV), e.flat[j]? = some c → ∃ y, x.cells[j]? = some y ∧ RepC w M loc st.heap.length y c) ∧ ∀ y ∈ x.cells.toList, y.oneCell' = true := by
  have own : RepO loc x e → e.flat = [e] → x.cells.size = e.flat.length ∧ (∀ (j : Nat) (c : AV), e.flat[j]? = some c → ∃ y, x.cells[j]? = some y ∧ RepC w M loc st.heap.length y c) ∧ ∀ y ∈ x.cells.toList, y.oneCell' = true := by
    intro ho hf
    have h1 := ho.one h.one hi
    have hx : x.cells = #[x] := by cases x <;> simp [Value.cells, Value.oneCell'] at *
    rw [hx, hf]
    refine ⟨rfl, fun j c hc => ?_, fun y hy => ?_⟩
    · cases j with
      | zero => simp at hc; subst hc; exact ⟨x, rfl, .inr ho, hi, by cases e <;> first | rfl | exact ho.elim⟩
      | succ j => simp at hc
    · simp at hy; subst hy; exact h1
  by_cases hag : ∃ cs, e = .agg cs
  · obtain ⟨cs, rfl⟩ := hag
    obtain ⟨ca, rfl, hl, hc⟩ := hr.agg_inv
    simp only [AV.plain, List.all_eq_true] at hp
    have hcc : ∀ (j : Nat) (c : Value) (e : AV), ca[j]? = some c → cs[j]? = some e → RepC w M loc st.heap.length c e := fun j c e h1 h2 => (hc j c e h1 h2).repC (hp e (List.mem_of_getElem? h2)) (hi e (List.mem_of_getElem? h2))
    refine ⟨hl, fun j c hj => ?_, fun y hy => ?_⟩
    · have hjl : j < ca.size := by rw [hl]; exact (List.getElem?_eq_some_iff.1 hj).1
      exact ⟨ca[j], Array.getElem?_eq_getElem hjl, hcc j _ c (Array.getElem?_eq_getElem hjl) hj⟩
    · simp only [Value.cells] at hy
      obtain ⟨j, hj, rfl⟩ := List.getElem_of_mem hy
      simp only [Array.length_toList] at hj
      have hj' : j < cs.length := by rw [← hl]; exact hj
      simpa using (hcc j ca[j] cs[j] (Array.getElem?_eq_getElem hj) (List.getElem?_eq_getElem hj')).one h.one (hp _ (List.getElem_mem hj'))
  by_cases hz : e.zone = true
  · obtain ⟨h1, h2, h3⟩ := (hr.repZ hz).plain hp
    refine ⟨h1, fun j c hc => ?_, h3⟩
    obtain ⟨y, hy, hr⟩ := h2 j c hc
    refine ⟨y, hy, hr.repC ?_ _⟩
    cases e with
    | agg cs => simp only [AV.plain, List.all_eq_true] at hp; exact hp c (List.mem_of_getElem? hc)
    | _ =>
      simp only [AV.flat] at hc
      cases j with
      | zero => simp at hc; subst hc; exact hp
      | succ j => simp at hc
  · cases e with
    | ow id => exact own hr rfl
    | el a b c d => exact own hr rfl
    | wn a b c d => exact own hr rfl
    | fn a b c => simp [AV.plain, AV.one] at hp
    | mb a b => simp [AV.plain, AV.one] at hp
    | tup a => simp [AV.plain, AV.one] at hp
    | agg a => exact (hag ⟨_, rfl⟩).elim
    | _ => exact absurd rfl hz

theorem grown_ne {row : Option Nat} {b : Nat} (h : ∀ g, row = some g → ¬ M g) (hb : M b) : some b ≠ row := fun e => h b e.symm hb

theorem ObjOK.kept {X : Ctx} {sv : Value} {o : Ob} {row : Option Nat} {loc loc' : Nat → Value} {n n' : Nat} (h : ObjOK X.own w M loc n sv o) (hg : w.grownBy w' row) (hne : sv.ownBlock = none ∨ sv.ownBlock ≠ row)
    (hM : ∀ g, row = some g → ¬ M g) (hlt : ∀ b, M b → b < w.heap.size) (hl : ∀ id, id < n → loc' id = loc id) (hn : n ≤ n') : ObjOK X.own w' M loc' n' sv o where
  own := by
    obtain ⟨xs, h1, h2⟩ := h.own
    refine ⟨xs, h1.kept hg hne, fun j e he => ?_⟩
    obtain ⟨x, hx, hr⟩ := h2 j e he
    exact ⟨x, hx, hr.mono (fun b hb => hg.block b (hlt b hb) (grown_ne hM hb)) (fun _ hb => hb) hl hn⟩
  flat := h.flat
  away := h.away
  mine := h.mine

theorem map_old {H : List Cell} {o : Ob} {id : Nat} {m : MOb} (h : (H ++ [.row o])[id]? = some (.map m)) : H[id]? = some (.map m) := by
  by_cases hid : id < H.length
  · rwa [List.getElem?_append_left hid] at h
  · rw [List.getElem?_append_right (by omega)] at h
    have : id - H.length = 0 := by
      have := (List.getElem?_eq_some_iff.1 h).1
      simp at this; omega
    rw [this] at h; simp at h

theorem map_set {H : List Cell} {c : Cell} {id i : Nat} {m : MOb} (hc : ∀ m, c ≠ .map m) (h : (H.set i c)[id]? = some (.map m)) : H[id]? = some (.map m) := by
  rw [List.getElem?_set] at h
  split at h
  · split at h
    · exact absurd (Option.some.inj h) (hc m)
    · cases h
  · exact h

theorem ownsRow_cells {w : World} {base E k n : Nat} {sv : Value} {xs : List Value} (h : w.ownsRow base E k sv n xs) (g : Nat) (hg : sv.ownBlock = some g) : ∃ cs t fr, w.heap[g]? = some (.cells cs t fr) := by
  rcases h.2 with ⟨rfl, _⟩ | ⟨g', cap, cur, rfl, _, hh, _⟩
  · simp [Value.ownBlock] at hg
  · simp [Value.ownBlock] at hg; subst hg; exact ⟨_, _, _, hh⟩

/-- One row turns, or comes; all others stay. -/
theorem RR.change {X : Ctx} {st : St} {a : Act} (h : RR X M loc st a w) {row : Option Nat} (hg : w.grownBy w' row) (hrow : ∀ g, row = some g → ¬ M g ∧ X.own g)
    (c : Nat) (sv : Value) (o' : Ob) (H' : List Cell)
    (hold : ∀ id o, id ≠ c → H'[id]? = some (.row o) → st.heap[id]? = some (.row o) ∧ ((loc id).ownBlock = none ∨ (loc id).ownBlock ≠ row) ∧ ((loc id).ownBlock = none ∨ (loc id).ownBlock ≠ sv.ownBlock))
    (hnew : ObjOK X.own w' M (fun id => if id = c then sv else loc id) H'.length sv o') (hc : H'[c]? = some (.row o')) (hlen : st.heap.length ≤ H'.length) (hloc : c < st.heap.length → sv = loc c)
    (hrc : ∀ g, row = some g → ∃ cs t fr, w.heap[g]? = some (.cells cs t fr)) (hmap : ∀ (id : Nat) (m : MOb), H'[id]? = some (.map m) → st.heap[id]? = some (.map m)) (hlt : ∀ id, id ≠ c → id < H'.length → id < st.heap.length) :
    RR X M (fun id => if id = c then sv else loc id) { st with heap := H' } a w' where
  env := by
    intro s
    refine Rep.mono (n := st.heap.length) (fun b hb => hg.block b (h.zone b hb).1 (grown_ne (fun g e => (hrow g e).1) hb)) (fun _ hb => hb) (fun id hid => ?_) (h.env s) (h.ids s)
    split
    · rename_i e; subst e; exact hloc hid
    · rfl
  nle := h.nle
  one := by
    intro id hid
    show Value.oneCell' (if id = c then sv else loc id) = true
    split
    · obtain ⟨xs, hown, _⟩ := hnew.own
      rcases hown.2 with ⟨rfl, _⟩ | ⟨g, cap, cur, rfl, _⟩ <;> rfl
    · rename_i hne; exact h.one id (hlt id hne hid)
  size := h.size
  defers := h.defers
  obj := by
    intro id o ho
    by_cases hid : id = c
    · subst hid
      have : o = o' := by rw [hc] at ho; simpa using ho.symm
      subst this
      rw [if_pos rfl]; exact hnew
    · rw [if_neg hid]
      obtain ⟨h1, h2, h3⟩ := hold id o hid ho
      refine (h.obj id o h1).kept hg h2 (fun g e => (hrow g e).1) (fun b hb => (h.zone b hb).1) (fun i hi => ?_) hlen
      split
      · rename_i e; subst e; exact hloc hi
      · rfl
  sep := by
    intro i j oi oj hij hi hj
    by_cases hic : i = c
    · subst hic
      rw [if_pos rfl, if_neg (fun e => hij e.symm)]
      obtain ⟨_, _, h3⟩ := hold j oj (fun e => hij e.symm) hj
      rcases h3 with h3 | h3
      · cases hs : sv.ownBlock with
        | none => exact .inl rfl
        | some b => right; rw [h3]; simp
      · exact .inr (fun e => h3 e.symm)
    · rw [if_neg hic]
      by_cases hjc : j = c
      · subst hjc
        rw [if_pos rfl]
        exact (hold i oi hic hi).2.2
      · rw [if_neg hjc]
        exact h.sep i j oi oj hij (hold i oi hic hi).1 (hold j oj hjc hj).1
  mobj := by
    intro id m hm
    have hm0 := hmap id m hm
    have hid : id ≠ c := by rintro rfl; rw [hc] at hm; cases hm
    rw [if_neg hid]
    obtain ⟨g, es, clock, h1, h2, h3, h4, h5⟩ := (h.mobj id m hm0).own
    have hgl : g < w.heap.size := (Array.getElem?_eq_some_iff.1 h4).1
    refine ⟨g, es, clock, h1, h2, h3, ?_, h5.mono (fun b hb => hg.block b (h.zone b hb).1 (grown_ne (fun g e => (hrow g e).1) hb)) (fun _ hb => hb)⟩
    rw [hg.block g hgl (fun e => by
      obtain ⟨cs, t, fr, hcells⟩ := hrc g e.symm
      rw [h4] at hcells; cases hcells)]
    exact h4
  msep := by
    intro i j mi mj hij hi hj
    have hic : i ≠ c := by rintro rfl; rw [hc] at hi; cases hi
    have hjc : j ≠ c := by rintro rfl; rw [hc] at hj; cases hj
    rw [if_neg hic, if_neg hjc]
    exact h.msep i j mi mj hij (hmap i mi hi) (hmap j mj hj)
  below := ⟨hg.os.trans h.below.os, hg.tape.trans h.below.tape, hg.output.trans h.below.output, Nat.le_trans h.below.size hg.size, fun k hk hT => by
    rw [hg.block k (Nat.lt_of_lt_of_le hk h.below.size) (fun e => by
      rcases (hrow k e.symm).2 with h1 | h1
      · omega
      · exact hT h1)]
    exact h.below.block k hk hT⟩
  zone := fun b hb => ⟨Nat.lt_of_lt_of_le (h.zone b hb).1 hg.size, (h.zone b hb).2⟩
  zin := h.zin
  zlt := h.zlt
  ids := fun s => AV.idLt_up hlen (h.ids s)

/-- A new row. -/
theorem RR.newRow {X : Ctx} {st : St} {a : Act} (h : RR X M loc st a w) (E k : Nat) (es : List AV) (cs : Array Value) (hflat : ∀ e ∈ es, e.flat.length = k) (hlen : cs.size = es.length * k)
    (hrep : ∀ (j : Nat) (e : AV), (es.flatMap AV.flat)[j]? = some e → ∃ x, cs[j]? = some x ∧ RepC w M loc st.heap.length x e) (hmax : es.length ≤ maxLen) :
    RR X M (fun id => if id = st.heap.length then .slice (some ⟨w.heap.size, 0, none⟩) es.length es.length else loc id) { st with heap := st.heap ++ [.row ⟨E, k, es⟩] } a (w.alloc (.cells cs E)) := by
  have hg : w.grownBy (w.alloc (.cells cs E)) none := World.grownBy_alloc w _ none
  refine h.change hg (fun g e => by cases e) st.heap.length _ ⟨E, k, es⟩ _ (fun id o hid ho => ?_) ?_ (by simp) (by simp) (fun h => absurd h (by omega)) (fun g e => by cases e) (fun id m hm => map_old hm) (fun id hid hl => by simp at hl; omega)
  · have hid' : id < st.heap.length := by
      have := (List.getElem?_eq_some_iff.1 ho).1
      simp at this; omega
    rw [List.getElem?_append_left hid'] at ho
    refine ⟨ho, ?_, ?_⟩
    · cases (loc id).ownBlock <;> simp
    · obtain ⟨xs, hown, _⟩ := (h.obj id o ho).own
      cases hb : (loc id).ownBlock with
      | none => exact .inl rfl
      | some b =>
        right
        have := (hown.lt b hb).2
        simp only [Value.ownBlock, ne_eq, Option.some.injEq]
        omega
  · refine ⟨⟨cs.toList, World.ownsRow_lit w cs es.length (Nat.zero_le _) hmax hlen, fun j e he => ?_⟩, hflat, fun g hg' => ?_, fun g hg' => ?_⟩
    · obtain ⟨x, hx, hr⟩ := hrep j e he
      refine ⟨x, by simpa using hx, hr.mono (fun b hb => Below.heap_alloc w _ b (h.zone b hb).1) (fun _ hb => hb) (fun i hi => if_neg (by omega)) (by simp)⟩
    · simp only [Value.ownBlock, Option.some.injEq] at hg'
      subst hg'
      intro hm
      have := (h.zone _ hm).1
      omega
    · simp only [Value.ownBlock, Option.some.injEq] at hg'
      subst hg'
      exact .inl h.below.size

/-! ### Building a struct, a slice -/
def splice (cells : List AV) (o : Nat) (xs : List AV) : List AV := cells.take o ++ xs ++ cells.drop (o + xs.length)

theorem fold_splice (off : Nat) : ∀ (l : List Value) (s : Nat) (cells : Array Value), off + s + l.length ≤ cells.size →
    ((l.zipIdx s).foldl (fun (cs : Array Value) (p : Value × Nat) => cs.setIfInBounds (off + p.2) p.1) cells).toList = cells.toList.take (off + s) ++ l ++ cells.toList.drop (off + s + l.length)
  | [], s, cells, _ => by simp
  | v :: l, s, cells, h => by
    simp only [List.zipIdx_cons, List.foldl_cons]
    rw [fold_splice off l (s + 1) _ (by simp at h ⊢; omega), Array.toList_setIfInBounds]
    have := list_seg_step cells.toList (off + s) v l (by simp at h ⊢; omega)
    simpa [Nat.add_assoc] using this

theorem fill_cons {place : Nat → Option (Nat × Nat)} {cells : Array Value} {i off : Nat} {v : Value} {rest : List (Nat × Value)} (hp : place i = some (off, v.cells.size)) (hb : off + v.cells.size ≤ cells.size) :
    Instr.fill place cells ((i, v) :: rest) = Instr.fill place (cells.toList.take off ++ v.cells.toList ++ cells.toList.drop (off + v.cells.size)).toArray rest := by
  simp only [Instr.fill, hp]
  rw [if_neg (by simp; omega)]
  congr 1
  apply Array.ext'
  have := fold_splice off v.cells.toList 0 cells (by simpa using hb)
  simp only [Nat.add_zero, Array.length_toList] at this
  rw [← this]
  congr 1
  rw [← Array.foldl_toList, Array.toList_zipIdx]

/-- Cells of a block, as abstract values say. -/
def RepL (R : Value → AV → Prop) (cs : List Value) (es : List AV) : Prop := cs.length = es.length ∧ ∀ (j : Nat) (c : Value) (e : AV), cs[j]? = some c → es[j]? = some e → R c e

theorem RepL.splice {R : Value → AV → Prop} {cs : List Value} {es : List AV} (h : RepL R cs es) {vs : List Value} {xs : List AV} (h' : RepL R vs xs) {o : Nat} (ho : o + xs.length ≤ es.length) :
    RepL R (cs.take o ++ vs ++ cs.drop (o + vs.length)) (splice es o xs) := by
  have hl := h.1
  have hl' := h'.1
  refine ⟨by simp [Ab.splice, hl, hl'], fun j c e hc he => ?_⟩
  unfold Ab.splice at he
  by_cases h1 : j < o
  · rw [List.append_assoc, List.getElem?_append_left (by simp; omega), List.getElem?_take, if_pos h1] at hc he
    exact h.2 j c e hc he
  · by_cases h2 : j < o + xs.length
    · rw [List.append_assoc, List.getElem?_append_right (by simp; omega), List.getElem?_append_left (by simp; omega)] at hc he
      have e1 : (cs.take o).length = o := by simp; omega
      have e2 : (es.take o).length = o := by simp; omega
      rw [e1] at hc; rw [e2] at he
      exact h'.2 _ c e hc he
    · rw [List.getElem?_append_right (by simp; omega), List.getElem?_drop] at hc he
      have e1 : o + vs.length + (j - (cs.take o ++ vs).length) = j := by simp; omega
      have e2 : o + xs.length + (j - (es.take o ++ xs).length) = j := by simp; omega
      rw [e1] at hc; rw [e2] at he
      exact h.2 j c e hc he

theorem RR.cellsC {X : Ctx} {st : St} {a : Act} (h : RR X M loc st a w) {x : Value} {e : AV} (hr : Rep w M loc x e) (hi : e.idLt st.heap.length) (hp : e.plain = true) : RepL (RepC w M loc st.heap.length) x.cells.toList e.flat := by
  obtain ⟨h1, h2, _⟩ := h.plain hr hi hp
  refine ⟨by simpa using h1, fun j c e' hc he => ?_⟩
  obtain ⟨y, hy, hr⟩ := h2 j e' he
  have : c = y := by
    simp only [Array.getElem?_toList] at hc
    rw [hc] at hy; exact Option.some.inj hy
  rw [this]; exact hr

theorem RepZ.cellsL {x : Value} {e : AV} (h : RepZ w M x e) (hp : e.plain = true) : RepL (RepZ w M) x.cells.toList e.flat := by
  obtain ⟨h1, h2, _⟩ := h.plain hp
  refine ⟨by simpa using h1, fun j c e' hc he => ?_⟩
  obtain ⟨y, hy, hr⟩ := h2 j e' he
  have : c = y := by
    simp only [Array.getElem?_toList] at hc
    rw [hc] at hy; exact Option.some.inj hy
  rw [this]; exact hr

def fillA (P : Program) (fs : List (Nat × Nat)) (ρ : Operand → AV) : List (Nat × Operand) → List AV → Option (Prop × List AV)
  | [], cells => some (True, cells)
  | (i, x) :: r, cells => match fs[i]? with
    | some (o, t) => match tyk P t with
      | some T => match fillA P fs ρ r (splice cells o (ρ x).flat) with
        | some (p, cs) => some (((ρ x).plain = true ∧ (ρ x).flat.length = T.cells ∧ o + T.cells ≤ cells.length) ∧ p, cs)
        | none => none
      | none => none
    | none => none

/-- A struct all of whose fields' types are in the table. -/
def bldOK (P : Program) (t : Nat) : Bool :=
  match P.underlying t with
  | some (.struct fs) => (fs.toList.mapM (fun f => (P.info? f.type).map fun i => (f.offset, i.size))).isSome
  | _ => false

def buildA (P : Program) (ρ : Operand → AV) (t : Nat) (parts : List (Nat × Operand)) : Option (Prop × AV) :=
  match tyk P t with
  | some ⟨.struct fs, _, _, .agg z⟩ => match fillA P fs ρ parts z with
    | some (p, cs) => some ((bldOK P t = true ∧ z.all AV.one = true) ∧ p, .agg cs)
    | none => none
  | _ => none

theorem places_get {P : Program} : ∀ {fields : List Field} {places : List (Nat × Nat)}, fields.mapM (fun f => (P.info? f.type).map fun i => (f.offset, i.size)) = some places →
    ∀ (i : Nat) (f : Field) (inf : TypeInfo), fields[i]? = some f → P.info? f.type = some inf → places[i]? = some (f.offset, inf.size)
  | [], places, hpl, i, f, inf, h, hi => by simp at h
  | g :: gs, places, hpl, i, f, inf, h, hi => by
    simp only [List.mapM_cons, Option.bind_eq_bind, Option.pure_def] at hpl
    cases hg : P.info? g.type with
    | none => simp [hg] at hpl
    | some ig =>
      cases hr : gs.mapM (fun f => (P.info? f.type).map fun i => (f.offset, i.size)) with
      | none => simp [hg, hr] at hpl
      | some rest =>
        simp [hg, hr] at hpl
        subst hpl
        cases i with
        | zero => simp at h; subst h; rw [hg] at hi; cases hi; rfl
        | succ i => exact places_get hr i f inf (by simpa using h) hi

theorem fillA_ok {X : Ctx} {st : St} {a : Act} (h0 : RR X M loc st a w) {ρ : Operand → AV} {fields : List Field} {places : List (Nat × Nat)} (hpl : fields.mapM (fun f => (P.info? f.type).map fun i => (f.offset, i.size)) = some places) :
    ∀ (parts : List (Nat × Operand)) (cs : Array Value) (cells : List AV) (p : Prop) (r : List AV), (∀ (x : Nat × Operand), x ∈ parts → Rep w M loc (a.eval x.2) (ρ x.2) ∧ (ρ x.2).idLt st.heap.length) →
    fillA P (fields.map fun f => (f.offset, f.type)) ρ parts cells = some (p, r) → p → RepL (RepC w M loc st.heap.length) cs.toList cells →
    ∃ cs', Instr.fill (places.toArray[·]?) cs (parts.map fun (i, x) => (i, a.eval x)) = some cs' ∧ RepL (RepC w M loc st.heap.length) cs'.toList r := by
  have hplace := places_get hpl
  intro parts
  induction parts with
  | nil =>
    intro cs cells p r _ h hp hr
    simp only [fillA, Option.some.injEq, Prod.mk.injEq] at h
    obtain ⟨-, rfl⟩ := h
    exact ⟨cs, rfl, hr⟩
  | cons ix rest ih =>
    obtain ⟨i, x⟩ := ix
    intro cs cells p r hρ h hp hr
    simp only [fillA] at h
    split at h
    · rename_i o t hf
      split at h
      · rename_i T hT
        split at h
        · rename_i p' cs1 hrest
          simp only [Option.some.injEq, Prod.mk.injEq] at h
          obtain ⟨rfl, rfl⟩ := h
          obtain ⟨⟨hpl1, hfl, hoc⟩, hp'⟩ := hp
          obtain ⟨inf, d, z, g1, g2, g3, rfl⟩ := tyk_spec hT
          simp only [List.getElem?_map] at hf
          cases hfi : fields[i]? with
          | none => simp [hfi] at hf
          | some f =>
            simp only [hfi, Option.map_some, Option.some.injEq, Prod.mk.injEq] at hf
            obtain ⟨rfl, rfl⟩ := hf
            have hpi := hplace i f inf hfi g1
            have hx := hρ (i, x) (by simp)
            have hcl := h0.cellsC hx.1 hx.2 hpl1
            obtain ⟨hs1, _, _⟩ := h0.plain hx.1 hx.2 hpl1
            have hsz : (a.eval x).cells.size = inf.size := by rw [hs1, hfl]
            have hlen : cs.size = cells.length := by have := hr.1; simpa using this
            have hnew := hr.splice hcl (o := f.offset) (by rw [hfl]; exact hoc)
            obtain ⟨cs', h1, h2⟩ := ih (cs.toList.take f.offset ++ (a.eval x).cells.toList ++ cs.toList.drop (f.offset + (a.eval x).cells.size)).toArray _ p' cs1 (fun y hy => hρ y (by simp [hy])) hrest hp' (by simpa using hnew)
            refine ⟨cs', ?_, h2⟩
            simp only [List.map_cons]
            rw [fill_cons (off := f.offset) (by simp [hpi, hsz]) (by rw [hsz, hlen]; exact hoc)]
            exact h1
        · cases h
      · cases h
    · cases h

theorem zeroOf_repL (n : Nat) (z : Value) {zs : List AV} (h : zeroOf z = .agg zs) (hp : zs.all AV.one = true) : RepL (RepC w M loc n) z.cells.toList zs := by
  rw [List.all_eq_true] at hp
  have hr := rep_zeroOf (w := w) (M := M) z
  rw [h] at hr
  cases hr with
  | agg cs es hl hr => exact ⟨by simpa [Value.cells] using hl, fun j c e h1 h2 => (hr j c e (by simpa [Value.cells] using h1) h2).repC (hp e (List.mem_of_getElem? h2)) n⟩

theorem buildA_ok {X : Ctx} {st : St} {a : Act} (h0 : RR X M loc st a w) {ρ : Operand → AV} {t : Nat} {parts : Array (Nat × Operand)} (hρ : ∀ x ∈ parts.toList, Rep w M loc (a.eval x.2) (ρ x.2) ∧ (ρ x.2).idLt st.heap.length) {p : Prop} {r : AV}
    (h : buildA P ρ t parts.toList = some (p, r)) (hp : p) : PurOK P w M loc (Instr.build t (parts.map fun (i, x) => (i, a.eval x))) r := by
  unfold buildA at h
  split at h
  · rename_i fs n b z hT
    split at h
    · rename_i p' cs hf
      simp only [Option.some.injEq, Prod.mk.injEq] at h
      obtain ⟨rfl, rfl⟩ := h
      obtain ⟨⟨hb, hzo⟩, hp'⟩ := hp
      obtain ⟨i, d, z', g1, g2, g3, g4⟩ := tyk_spec hT
      obtain ⟨fa, rfl, hfs⟩ := kOf_struct (d := d) (by have := congrArg TK.k g4; exact this.symm)
      unfold bldOK at hb
      simp only [g2] at hb
      obtain ⟨places, hpl⟩ := Option.isSome_iff_exists.1 hb
      have hz : zeroOf z' = .agg z := by have := congrArg TK.zero g4; exact this.symm
      rw [hfs] at hf
      obtain ⟨cs', h1, h2⟩ := fillA_ok (P := P) (w := w) (M := M) (loc := loc) h0 (ρ := ρ) hpl parts.toList z'.cells z p' cs hρ hf hp' (zeroOf_repL _ z' hz hzo)
      refine ⟨.agg cs', run_build w t _ cs' ?_, ⟨_, rfl, by simpa using h2.1, fun j c e hc he => (h2.2 j c e (by simpa using hc) he).1⟩⟩
      unfold Program.built
      simp only [g1, g2, g3, hpl]
      simpa using h1
    · cases h
  · cases h

end
end Go.Ab
