/-
  The operations that leave memory alone: loads, addresses, indexes, slices; all of them together.
-/
import Derived.Test.YtgkafceckdoabaaDoorAbsSound
set_option linter.all false
namespace Go.Ab
open Go.RowKit

section
variable {P : Program} {w : World} {M : Nat → Prop} {loc : Nat → Value}

theorem run_isAgg_of {t : Nat} {d : TypeDesc} (h : P.underlying t = some d) : (isAgg t).run P w = .ok (kOf d).agg w := by
  simp only [isAgg, Sem.run_bind, run_underlying h, Result.andThen_ok]
  cases d <;> rfl

/-- A value of type t read at an address whose cells are these. -/
theorem cut_ok {t : Nat} {T : TK} (hT : tyk P t = some T) {ad : Addr} {cells : List AV} {f : Nat → Value}
    (hc : ∀ j, j < cells.length → w.cell? (ad.add j) = some (f j)) (hr : ∀ (j : Nat) (e : AV), cells[j]? = some e → RepZ w M (f j) e) {p : Prop} {r : AV}
    (h : cut T cells = some (p, r)) (hp : p) : ∃ v, (loadVar t ad).run P w = .ok v w ∧ RepZ w M v r := by
  obtain ⟨i, d, z, h1, h2, h3, rfl⟩ := tyk_spec hT
  unfold cut at h
  simp only [loadVar, Sem.run_bind, run_isAgg_of h2, Result.andThen_ok]
  split at h
  · rename_i hag
    simp only [Option.some.injEq, Prod.mk.injEq] at h
    obtain ⟨rfl, rfl⟩ := h
    have hs : (sizeOf t).run P w = .ok i.size w := by simp [sizeOf, typeInfo, h1]
    simp only [] at hp hag
    rw [if_pos (by simpa using hag)]
    simp only [Sem.run_bind, hs, Result.andThen_ok, run_loadCells w ad i.size f (fun j hj => hc j (by omega)), Sem.run_pure]
    refine ⟨_, rfl, .agg _ _ (by simp; omega) fun j c e h1 h2 => ?_⟩
    have hj : j < i.size := by
      have := (Array.getElem?_eq_some_iff.1 h1).1
      simpa using this
    have : c = f j := by simp [hj] at h1; exact h1.symm
    subst this
    exact hr j e (by rw [List.getElem?_take, if_pos hj] at h2; exact h2)
  · rename_i hag
    simp only [Option.some.injEq, Prod.mk.injEq] at h
    obtain ⟨rfl, rfl⟩ := h
    simp only [] at hag
    rw [if_neg (by simpa using hag)]
    have h0 : w.cell? ad = some (f 0) := by have := hc 0 hp; simpa [Addr.add] using this
    simp only [run_load, h0]
    refine ⟨_, rfl, ?_⟩
    cases cells with
    | nil => simp at hp
    | cons c cs => exact hr 0 c rfl

/-- A value of type t read at an address whose cells are these. -/
theorem cut_okB {t : Nat} {T : TK} (hT : tyk P t = some T) {ad : Addr} {cells : List AV} {f : Nat → Value}
    (hc : ∀ j, j < cells.length → w.cell? (ad.add j) = some (f j)) (hr : ∀ (j : Nat) (e : AV), cells[j]? = some e → RepB w M loc (f j) e) {p : Prop} {r : AV}
    (h : cut T cells = some (p, r)) (hp : p) (hag : r.aggZ = true) : ∃ v, (loadVar t ad).run P w = .ok v w ∧ Rep w M loc v r := by
  obtain ⟨i, d, z, h1, h2, h3, rfl⟩ := tyk_spec hT
  unfold cut at h
  simp only [loadVar, Sem.run_bind, run_isAgg_of h2, Result.andThen_ok]
  split at h
  · rename_i hag'
    simp only [Option.some.injEq, Prod.mk.injEq] at h
    obtain ⟨rfl, rfl⟩ := h
    have hs : (sizeOf t).run P w = .ok i.size w := by simp [sizeOf, typeInfo, h1]
    simp only [] at hp hag'
    rw [if_pos (by simpa using hag')]
    simp only [Sem.run_bind, hs, Result.andThen_ok, run_loadCells w ad i.size f (fun j hj => hc j (by omega)), Sem.run_pure]
    refine ⟨_, rfl, _, rfl, by simp; omega, fun j c e h1 h2 => ?_⟩
    have hj : j < i.size := by
      have := (Array.getElem?_eq_some_iff.1 h1).1
      simpa using this
    have : c = f j := by simp [hj] at h1; exact h1.symm
    subst this
    exact hr j e (by rw [List.getElem?_take, if_pos hj] at h2; exact h2)
  · rename_i hag'
    simp only [Option.some.injEq, Prod.mk.injEq] at h
    obtain ⟨rfl, rfl⟩ := h
    simp only [] at hag'
    rw [if_neg (by simpa using hag')]
    have h0 : w.cell? ad = some (f 0) := by have := hc 0 hp; simpa [Addr.add] using this
    simp only [run_load, h0]
    refine ⟨_, rfl, ?_⟩
    cases cells with
    | nil => simp at hp
    | cons c cs => exact (hr 0 c rfl).rep

theorem flat_getD {es : List AV} {k : Nat} (hk : ∀ e ∈ es, e.flat.length = k) {i j : Nat} (hi : i < es.length) (hj : j < k) :
    (es.flatMap AV.flat)[i * k + j]? = (nth es i).flat[j]? := by
  induction es generalizing i with
  | nil => simp at hi
  | cons e es ih =>
    have he : e.flat.length = k := hk e (by simp)
    cases i with
    | zero => simp only [List.flatMap_cons, Nat.zero_mul, Nat.zero_add, nth_zero]; rw [List.getElem?_append_left (by omega)]
    | succ i =>
      simp only [List.flatMap_cons, nth_succ]
      rw [List.getElem?_append_right (by rw [Nat.succ_mul]; omega), ← ih (fun e he => hk e (by simp [he])) (by simpa using hi)]
      congr 1
      rw [Nat.succ_mul]; omega

theorem flat_length {es : List AV} {k : Nat} (hk : ∀ e ∈ es, e.flat.length = k) : (es.flatMap AV.flat).length = es.length * k := by
  induction es with
  | nil => simp
  | cons e es ih => simp only [List.flatMap_cons, List.length_append, List.length_cons, hk e (by simp), ih (fun e he => hk e (by simp [he])), Nat.succ_mul]; omega

theorem getD_mem {es : List AV} {i : Nat} (hi : i < es.length) : nth es i ∈ es := by
  rw [nth_lt hi]; exact List.getElem_mem hi

/-- The cells of an element of a row that the call owns. -/
theorem ObjOK.elem {X : Ctx} {N : Nat} {sv : Value} {o : Ob} (h : ObjOK X.own w M loc N sv o) {g n c : Nat} (hsv : sv = .slice (some ⟨g, 0, none⟩) n c) {i : Nat} (hi : i < o.es.length) :
    ∃ f : Nat → Value, (∀ j, j < o.k → w.cell? ⟨g, i * o.k + j, none⟩ = some (f j)) ∧ ∀ (j : Nat) (e : AV), (nth o.es i).flat[j]? = some e → RepC w M loc N (f j) e := by
  obtain ⟨xs, hown, hrep⟩ := h.own
  have hcells := hown.cells (g := g) (by rw [hsv]; rfl)
  have hlen : xs.length = o.es.length * o.k := hown.1
  have hin : ∀ j, j < o.k → i * o.k + j < o.es.length * o.k := fun j hj => by
    have : (i + 1) * o.k ≤ o.es.length * o.k := Nat.mul_le_mul_right _ hi
    rw [Nat.succ_mul] at this; omega
  refine ⟨fun j => xs.getD (i * o.k + j) undef, fun j hj => ?_, fun j e he => ?_⟩
  · have hx : xs[i * o.k + j]? = some (xs[i * o.k + j]'(by rw [hlen]; exact hin j hj)) := List.getElem?_eq_getElem _
    have := hcells _ _ hx
    rw [add_mk, Nat.zero_add] at this
    rw [this]; show _ = some (xs.getD (i * o.k + j) undef); rw [List.getD_eq_getElem?_getD, hx]; rfl
  · have hj : j < o.k := by
      have := (List.getElem?_eq_some_iff.1 he).1
      rw [h.flat _ (getD_mem hi)] at this; exact this
    rw [← flat_getD h.flat hi hj] at he
    obtain ⟨x, hx, hr⟩ := hrep _ _ he
    show RepC w M loc N (xs.getD (i * o.k + j) undef) e; rw [List.getD_eq_getElem?_getD, hx]; exact hr

theorem loadA_ok {X : Ctx} {H : List Cell} (hH : HeapOK X w M loc H) {t : Nat} {T : TK} (hT : tyk P t = some T) {x : AV} {a : Value} (ha : Rep w M loc a x) {p : Prop} {r : AV}
    (h : loadA T H x = some (p, r)) (hp : p) : PurOK P w M loc (Instr.loadAt t a) r := by
  unfold loadA at h
  split at h
  · obtain ⟨ad, f, rfl, hm, hc, hr⟩ := ha.ro_inv
    obtain ⟨v, h1, h2⟩ := cut_ok hT hc hr h hp
    exact ⟨v, by simp only [Instr.loadAt, Instr.sureAddr, Sem.run_bind, Sem.run_pure, Result.andThen_ok, h1], h2.rep⟩
  · rename_i id k i off
    split at h
    · rename_i o ho
      have hob := hH id o ho
      obtain ⟨g, n, c, hsv, rfl⟩ := ha
      cases hcut : cut T ((nth o.es i).flat.drop off) with
      | none => rw [hcut] at h; cases h
      | some pr =>
        obtain ⟨p', r'⟩ := pr
        simp only [hcut, Option.map_some, Option.some.injEq, Prod.mk.injEq] at h
        obtain ⟨rfl, rfl⟩ := h
        obtain ⟨⟨hk, hi, hoff⟩, hp', hag⟩ := hp
        subst hk
        obtain ⟨f, hc, hr⟩ := hob.elem hsv hi
        have hfl : (nth o.es i).flat.length = o.k := hob.flat _ (getD_mem hi)
        obtain ⟨v, h1, h2⟩ := cut_okB (P := P) (w := w) (M := M) (loc := loc) hT (ad := ⟨g, i * o.k + off, none⟩) (cells := (nth o.es i).flat.drop off) (f := fun j => f (off + j))
          (fun j hj => by rw [add_mk, Nat.add_assoc]; exact hc _ (by rw [List.length_drop, hfl] at hj; omega))
          (fun j e he => (hr _ e (by rw [List.getElem?_drop] at he; exact he)).1) hcut hp' hag
        exact ⟨v, by simp only [Instr.loadAt, Instr.sureAddr, Sem.run_bind, Sem.run_pure, Result.andThen_ok, h1], h2⟩
    · cases h
  · cases h

theorem cut_lt {T : TK} {cs : List AV} {p : Prop} {r : AV} {n : Nat} (h : cut T cs = some (p, r)) (hc : ∀ e ∈ cs, e.idLt n) : r.idLt n := by
  unfold cut at h
  split at h
  · simp only [Option.some.injEq, Prod.mk.injEq] at h
    obtain ⟨-, rfl⟩ := h
    intro e he id hid
    have := hc e (List.mem_of_mem_take he)
    exact (idLt_iff _ _).1 this id (by cases e <;> first | exact hid | simp [AV.idB] at hid)
  · simp only [Option.some.injEq, Prod.mk.injEq] at h
    obtain ⟨-, rfl⟩ := h
    cases cs with
    | nil => trivial
    | cons c cs => exact hc c (by simp)

theorem loadA_lt {X : Ctx} {H : List Cell} (hH : HeapOK X w M loc H) {T : TK} {id k i off : Nat} {p : Prop} {r : AV} (h : loadA T H (.el id k i off) = some (p, r)) (hp : p) : r.idLt H.length := by
  simp only [loadA] at h
  split at h
  · rename_i o ho
    have hob := hH id o ho
    cases hcut : cut T ((nth o.es i).flat.drop off) with
    | none => rw [hcut] at h; cases h
    | some pr =>
      obtain ⟨p', r'⟩ := pr
      simp only [hcut, Option.map_some, Option.some.injEq, Prod.mk.injEq] at h
      obtain ⟨rfl, rfl⟩ := h
      obtain ⟨⟨hk, hi, hoff⟩, hp', hag⟩ := hp
      refine cut_lt hcut fun e he => ?_
      have he' := List.mem_of_mem_drop he
      obtain ⟨j, hj, rfl⟩ := List.getElem_of_mem he'
      have hjk : j < o.k := by rw [← hob.flat _ (getD_mem hi)]; exact hj
      obtain ⟨xs, hown, hrep⟩ := hob.own
      obtain ⟨x, _, hx⟩ := hrep _ _ (by rw [flat_getD hob.flat hi hjk]; exact List.getElem?_eq_getElem hj)
      exact hx.2.1
  · cases h

theorem lenA_ok {X : Ctx} {H : List Cell} (hH : HeapOK X w M loc H) {t ty : Nat} {T : TK} (hT : tyk P t = some T) {x : AV} {a : Value} (ha : Rep w M loc a x) {r : AV}
    (h : lenA T.k H x = some r) : PurOK P w M loc (Builtin.len_ #[t] ty #[a]) r := by
  obtain ⟨i, d, z, h1, h2, h3, rfl⟩ := tyk_spec hT
  have hslice : ∀ A n c e, kOf d = .slice e → (Builtin.len_ #[t] ty #[.slice A n c]).run P w = .ok (goInt n) w := by
    rintro A n c e he
    have := kOf_slice he
    subst this
    simp [Builtin.len_, run_underlying h2]
  unfold lenA at h
  split at h
  · rename_i es hk
    obtain rfl := Option.some.inj h
    obtain ⟨A, cap, k, f, rfl, _⟩ := ha.sl_inv
    exact ⟨_, hslice _ _ _ _ hk, (RepZ.v _).rep⟩
  · rename_i hk
    obtain rfl := Option.some.inj h
    obtain rfl := ha.nil_inv
    exact ⟨_, hslice _ _ _ _ hk, (RepZ.v _).rep⟩
  · rename_i s hk
    obtain rfl := Option.some.inj h
    obtain rfl := ha.v_inv
    have := kOf_str hk
    subst this
    refine ⟨_, ?_, (RepZ.v _).rep⟩
    simp [Builtin.len_, run_underlying h2, goInt]
  · rename_i id hk
    split at h
    · rename_i o ho
      obtain rfl := Option.some.inj h
      have hob := hH id o ho
      obtain ⟨xs, hown, _⟩ := hob.own
      have ha' : a = loc id := ha
      rw [ha']
      rcases hown.2 with ⟨hn, h0⟩ | ⟨g, cap, cur, hn, _⟩
      · rw [hn, h0]; exact ⟨_, hslice _ _ _ _ hk, (RepZ.v _).rep⟩
      · rw [hn]; exact ⟨_, hslice _ _ _ _ hk, (RepZ.v _).rep⟩
    · cases h
  · rename_i hk
    obtain rfl := Option.some.inj h
    obtain ⟨A, c, rfl, _⟩ := ha
    exact ⟨_, hslice _ _ _ _ hk, (RepZ.v _).rep⟩
  · cases h

theorem fieldAt_ok {s f : Nat} {fs : List (Nat × Nat)} {n b : Nat} {z : AV} (hs : tyk P s = some ⟨.struct fs, n, b, z⟩) {o t : Nat} (hf : fs[f]? = some (o, t)) {T : TK} (hT : tyk P t = some T) (h0 : T.cells ≠ 0) (ad : Addr) :
    (Instr.fieldAt s (.pointer (some ad)) f).run P w = .ok (.pointer (some (ad.add o))) w := by
  obtain ⟨i, d, z', h1, h2, h3, h4⟩ := tyk_spec hs
  obtain ⟨i2, d2, z2, g1, g2, g3, rfl⟩ := tyk_spec hT
  obtain ⟨fa, rfl, hfs⟩ := kOf_struct (d := d) (by have := congrArg TK.k h4; exact this.symm)
  rw [hfs] at hf
  simp only [List.getElem?_map, Array.getElem?_toList] at hf
  cases hfa : fa[f]? with
  | none => simp [hfa] at hf
  | some fld =>
    simp only [hfa, Option.map_some, Option.some.injEq, Prod.mk.injEq] at hf
    obtain ⟨rfl, rfl⟩ := hf
    have hsz : (sizeOf fld.type).run P w = .ok i2.size w := by simp [sizeOf, typeInfo, g1]
    simp only [Instr.fieldAt, Sem.run_bind, run_underlying h2, Result.andThen_ok, hfa, Instr.sureAddr, Sem.run_pure, fieldPlace, hsz]
    rw [if_neg h0]
    rfl

theorem indexAt_ok {t e : Nat} {n b : Nat} {z : AV} (ht : tyk P t = some ⟨.slice e, n, b, z⟩) {E : TK} (hE : tyk P e = some E) (ad : Addr) (len cap : Nat) (k : IntKind) (i : Int) (h0 : 0 ≤ i) (h1 : i < len) :
    (Instr.indexAt t (.slice (some ad) len cap) (.int k i)).run P w = .ok (.pointer (some (ad.add (i.toNat * E.cells)))) w := by
  obtain ⟨i1, d, z', g1, g2, g3, g4⟩ := tyk_spec ht
  obtain ⟨i2, d2, z2, e1, e2, e3, rfl⟩ := tyk_spec hE
  have := kOf_slice (d := d) (e := e) (by have := congrArg TK.k g4; exact this.symm)
  subst this
  have hsz : (sizeOf e).run P w = .ok i2.size w := by simp [sizeOf, typeInfo, e1]
  simp only [Instr.indexAt, asIntOf, Sem.run_bind, Sem.run_pure, Result.andThen_ok, run_underlying g2, Sem.run_ite, if_pos (And.intro h0 h1), hsz]

theorem sliceStr_ok {t : Nat} {n b : Nat} {z : AV} (ht : tyk P t = some ⟨.str, n, b, z⟩) (s : ByteArray) (lo hi : Option Value) (l h : Nat)
    (hl : lo = none ∧ l = 0 ∨ ∃ k i, lo = some (.int k i) ∧ 0 ≤ i ∧ i ≤ h ∧ l = i.toNat) (hh : hi = none ∧ h = s.size ∨ ∃ k i, hi = some (.int k i) ∧ 0 ≤ i ∧ i ≤ s.size ∧ h = i.toNat) :
    (Instr.sliceAt t (.string s) lo hi none).run P w = .ok (.string (s.extract l h)) w := by
  obtain ⟨i1, d, z', g1, g2, g3, g4⟩ := tyk_spec ht
  have := kOf_str (d := d) (by have := congrArg TK.k g4; exact this.symm)
  subst this
  have hb : (Instr.sliceBounds false s.size s.size lo hi none).run P w = .ok (l, h, s.size) w := by
    rcases hl with ⟨rfl, rfl⟩ | ⟨k, i, rfl, hi0, hih, rfl⟩ <;> rcases hh with ⟨rfl, rfl⟩ | ⟨k2, j, rfl, hj0, hjs, rfl⟩
    · simp [Instr.sliceBounds]
    · simp [Instr.sliceBounds, Instr.sliceBound, asIntOf, hj0, hjs]
    · simp [Instr.sliceBounds, Instr.sliceBound, asIntOf, hi0, hih]
    · have : i ≤ max j 0 := by omega
      have hle : i ≤ (j.toNat : Int) := hih
      simp [Instr.sliceBounds, Instr.sliceBound, asIntOf, hi0, hj0, hjs]
      intro h; omega
  simp only [Instr.sliceAt, Sem.run_bind, run_underlying g2, Result.andThen_ok, Instr.slice, Option.isSome_none, Bool.false_eq_true, if_false, Sem.run_pure, hb]

theorem sliceSl_ok {t e : Nat} {n b : Nat} {z : AV} (ht : tyk P t = some ⟨.slice e, n, b, z⟩) {E : TK} (hE : tyk P e = some E) (A : Option Addr) (len cap : Nat) (hlc : len ≤ cap) (lo hi : Option Value) (l h : Nat)
    (hl : lo = none ∧ l = 0 ∨ ∃ k i, lo = some (.int k i) ∧ 0 ≤ i ∧ i ≤ h ∧ l = i.toNat) (hh : hi = none ∧ h = len ∨ ∃ k i, hi = some (.int k i) ∧ 0 ≤ i ∧ i ≤ len ∧ h = i.toNat) :
    (Instr.sliceAt t (.slice A len cap) lo hi none).run P w = .ok (.slice (if cap = l then A else A.map (fun (a : Addr) => a.add (l * E.cells))) (h - l) (cap - l)) w := by
  obtain ⟨i1, d, z', g1, g2, g3, g4⟩ := tyk_spec ht
  obtain ⟨i2, d2, z2, e1, e2, e3, rfl⟩ := tyk_spec hE
  have := kOf_slice (d := d) (e := e) (by have := congrArg TK.k g4; exact this.symm)
  subst this
  have hsz : (sizeOf e).run P w = .ok i2.size w := by simp [sizeOf, typeInfo, e1]
  have hb : (Instr.sliceBounds true len cap lo hi none).run P w = .ok (l, h, cap) w := by
    rcases hl with ⟨rfl, rfl⟩ | ⟨k, i, rfl, hi0, hih, rfl⟩ <;> rcases hh with ⟨rfl, rfl⟩ | ⟨k2, j, rfl, hj0, hjs, rfl⟩
    · simp [Instr.sliceBounds]
    · simp [Instr.sliceBounds, Instr.sliceBound, asIntOf, hj0]; omega
    · simp [Instr.sliceBounds, Instr.sliceBound, asIntOf, hi0, hih]
    · have hle : i ≤ (j.toNat : Int) := hih
      simp [Instr.sliceBounds, Instr.sliceBound, asIntOf, hi0, hj0, show j ≤ (cap : Int) by omega, show i ≤ max j 0 by omega]
  simp only [Instr.sliceAt, Sem.run_bind, run_underlying g2, Result.andThen_ok, Instr.slice, Sem.run_pure, hb, hsz]

end
end Go.Ab
