/-
  Regions that draw their order: what each operation touches is kept along the walk; calls over rows may take part.
-/
import Derived.Test.YtgkafceckdoabaaDoorAbsDraw2
set_option linter.all false
namespace Go.Ab
open Go.RowKit

structure TagT where
  t : List Nat
  w : List Nat
  e : Bool
  deriving Inhabited

/-- The rows that an operation may read, parts of rows included. -/
def rdX (ρ : Operand → AV) : Op → List Nat
  | .load _ x => (ρ x).ids
  | .indexAddr _ x _ => (ρ x).ids
  | .lookup _ m _ _ => (ρ m).ids
  | .slice _ x _ _ _ => (ρ x).ids
  | .call c => tch ρ (.call c)
  | _ => []

def uP (ps : List Nat) (i : Nat) : Nat := ps.getD i 0

/-- A call over rows that leaves them as they are. -/
def HQ (H : List Cell) (raw : List AV) (ps : List Nat) (Hl : List Cell) (largs : List AV) : Prop :=
  ps.Nodup ∧ okCells (uP ps) H ps Hl ∧ okRowIds Hl.length Hl ∧ okArgs (uP ps) Hl.length raw largs

def CallHQ (P : Program) (H : List Cell) (ρ : Operand → AV) (c : Call) (r : AV) (ps : List Nat) : Prop :=
  ∃ f first cap Hl largs r0, tgt ρ c.callee = some (f, first, cap) ∧ callable P f = true ∧ MeansH P f Hl largs r0 Hl ∧ HQ H (first ++ c.args.toList.map ρ ++ cap) ps Hl largs ∧ r0.idLt Hl.length ∧ r = ren (uP ps) r0

/-- A call over rows, these named. -/
def CallHE (P : Program) (H : List Cell) (ρ : Operand → AV) (c : Call) (r : AV) (ps : List Nat) (H2 : List Cell) : Prop :=
  ∃ f first cap Hl largs r0 H', tgt ρ c.callee = some (f, first, cap) ∧ callable P f = true ∧ MeansH P f Hl largs r0 H' ∧ CallHC H (first ++ c.args.toList.map ρ ++ cap) ps Hl largs ∧ ps.length ≤ H'.length ∧
    r = ren (upN ps H.length) r0 ∧ H2 = heapAfter H ps H'

section
variable {P : Program}

theorem renB_congr {u v : Nat → Nat} {m : Nat} (h : ∀ i, i < m → u i = v i) {e : AV} (hi : ∀ id ∈ e.idB, id < m) : renB u e = renB v e := by
  cases e <;> simp [renB, AV.idB] at * <;> exact h _ hi
theorem ren_congr {u v : Nat → Nat} {m : Nat} (h : ∀ i, i < m → u i = v i) {e : AV} (hi : e.idLt m) : ren u e = ren v e := by
  have lst : ∀ (es : List AV), (∀ e ∈ es, ∀ id ∈ e.idB, id < m) → es.map (renB u) = es.map (renB v) := fun es hb => List.map_congr_left fun e he => renB_congr h (hb e he)
  induction e using AV.zone.induct with
  | case1 id => simp only [ren]; rw [h id hi]
  | case2 a b c d => simp only [ren]; rw [h a hi]
  | case3 a b c d => simp only [ren]; rw [h a hi]
  | case4 f first cap => simp only [ren]; rw [lst first (fun e he => hi e (List.mem_append_left _ he)), lst cap (fun e he => hi e (List.mem_append_right _ he))]
  | case5 g y ih => simp only [ren]; rw [ih hi]
  | case6 es => simp only [ren]; rw [lst es hi]
  | case7 es => simp only [ren]; rw [lst es hi]
  | case8 e h1 h2 h3 h4 h5 h6 h7 =>
    cases e with
    | ow id => exact (h1 _ rfl).elim
    | el a b c d => exact (h2 _ _ _ _ rfl).elim
    | wn a b c d => exact (h3 _ _ _ _ rfl).elim
    | fn a b c => exact (h4 _ _ _ rfl).elim
    | mb g y => exact (h5 _ _ rfl).elim
    | tup es => exact (h6 _ rfl).elim
    | agg es => exact (h7 _ rfl).elim
    | _ => rfl
theorem renF_congr {u v : Nat → Nat} {m : Nat} (h : ∀ i, i < m → u i = v i) {e : AV} (hi : ∀ c ∈ e.flat, c.idLt m) : renF u e = renF v e := by
  have one : ∀ c : AV, c.idLt m → renB u c = renB v c := fun c hc => renB_congr h fun id hid => (idLt_iff m c).1 hc id (by cases c <;> first | exact hid | simp [AV.idB] at hid)
  cases e with
  | agg cs => simp only [renF]; congr 1; exact List.map_congr_left fun c hc => one c (hi c hc)
  | _ => exact one _ (hi _ (List.mem_singleton.2 rfl))
theorem renCell_congr {u v : Nat → Nat} {m : Nat} (h : ∀ i, i < m → u i = v i) : ∀ {c : Cell}, okRowIds m [c] → renCell u c = renCell v c
  | .dead, _ => rfl
  | .map _, _ => rfl
  | .row o, hc => by
    simp only [renCell, renEs]
    cases hz : zoneEs o.es with
    | true => rfl
    | false =>
      simp only [cond_false]
      rcases hc.1 with h1 | h1
      · rw [hz] at h1; cases h1
      · congr 2
        refine List.map_congr_left fun e he => renF_congr h fun c hc => h1 c ?_
        exact List.mem_flatMap.2 ⟨e, he, hc⟩
theorem okRowIds_cons {m : Nat} {c : Cell} {cs : List Cell} (h : okRowIds m (c :: cs)) : okRowIds m [c] ∧ okRowIds m cs := by
  cases c with
  | row o => exact ⟨⟨h.1, trivial⟩, h.2⟩
  | dead => exact ⟨trivial, h⟩
  | map m => exact ⟨trivial, h⟩
theorem okCells_congr {u v : Nat → Nat} {m : Nat} (h : ∀ i, i < m → u i = v i) {H : List Cell} : ∀ {ps : List Nat} {cs : List Cell}, okRowIds m cs → okCells u H ps cs → okCells v H ps cs
  | [], [], _, h1 => h1
  | p :: ps, c :: cs, hr, h1 => by
    obtain ⟨r1, r2⟩ := okRowIds_cons hr
    exact ⟨by rw [← renCell_congr h r1]; exact h1.1, okCells_congr h r2 h1.2⟩
  | [], _ :: _, _, h1 => h1.elim
  | _ :: _, [], _, h1 => h1.elim
theorem okArgs_congr {u v : Nat → Nat} {m : Nat} (h : ∀ i, i < m → u i = v i) : ∀ {as es : List AV}, okArgs u m as es → okArgs v m as es
  | [], [], h1 => h1
  | a :: as, e :: es, h1 => ⟨⟨by rw [← ren_congr h h1.1.2]; exact h1.1.1, h1.1.2⟩, okArgs_congr h h1.2⟩
  | [], _ :: _, h1 => h1.elim
  | _ :: _, [], h1 => h1.elim

theorem uP_upN (ps : List Nat) (n i : Nat) (h : i < ps.length) : uP ps i = upN ps n i := by unfold uP upN; rw [if_pos h]

theorem CallHQ.toA {H : List Cell} {ρ : Operand → AV} {c : Call} {r : AV} {ps : List Nat} (h : CallHQ P H ρ c r ps) (hlt : ∀ p ∈ ps, p < H.length) : CallHA P H ρ c r H := by
  obtain ⟨f, first, cap, Hl, largs, r0, h1, h2, h3, ⟨h4, h5, h6, h7⟩, h8, h9⟩ := h
  have hlen := okCells_len h5
  have hc : ∀ i, i < Hl.length → uP ps i = upN ps H.length i := fun i hi => uP_upN ps _ i (by omega)
  have h5' := okCells_congr hc h6 h5
  exact ⟨f, first, cap, ps, Hl, largs, r0, Hl, h1, h2, h3, ⟨h4, hlt, h5', h6, okArgs_congr hc h7⟩, by rw [h9]; exact ren_congr hc h8, (after_same h4 hlt h5').symm⟩
theorem CallHE.toA {H : List Cell} {ρ : Operand → AV} {c : Call} {r : AV} {ps : List Nat} {H2 : List Cell} (h : CallHE P H ρ c r ps H2) : CallHA P H ρ c r H2 := by
  obtain ⟨f, first, cap, Hl, largs, r0, H', h1, h2, h3, h4, h5, h6, h7⟩ := h
  exact ⟨f, first, cap, ps, Hl, largs, r0, H', h1, h2, h3, h4, h6, h7⟩

/-- The rows that came. -/
def newIds (a b : Nat) : List Nat := List.range' a (b - a)
theorem mem_new {a b i : Nat} (h : a ≤ i) (h2 : i < b) : i ∈ newIds a b := by
  unfold newIds; rw [List.mem_range']; exact ⟨i - a, by omega, by omega⟩

/-- A step, and what it touches. L0: how many rows there were as the region began. -/
def StepT (P : Program) (ops : Array Oper) (n L0 : Nat) (o : Oper) (t : TagT) (st st' : St) : Prop :=
  (∀ d, o.dst = some d → d < n) ∧
  match o.guard with
  | none =>
    (∃ r, DoesX P st.heap (ev st.env) o.op r ∧ (subIds r (tch (ev st.env) o.op) ∨ r.idLt L0) ∧ st' = ⟨putE st.env o.dst r, st.heap⟩ ∧ t = ⟨rdX (ev st.env) o.op, [], false⟩) ∨
    (∃ r H' p, effA P st.heap (ev st.env) o.op = some (p, r, H') ∧ p ∧ r.idLt H'.length ∧ st' = ⟨putE st.env o.dst r, H'⟩ ∧ t = ⟨rdX (ev st.env) o.op, wrOf (ev st.env) o.op ++ newIds st.heap.length H'.length, true⟩) ∨
    (∃ c r ps, o.op = .call c ∧ CallHQ P st.heap (ev st.env) c r ps ∧ (∀ p ∈ ps, p < st.heap.length) ∧ r.idLt L0 ∧ st' = ⟨putE st.env o.dst r, st.heap⟩ ∧ t = ⟨ps, [], false⟩) ∨
    (∃ c r ps H', o.op = .call c ∧ CallHE P st.heap (ev st.env) c r ps H' ∧ r.idLt H'.length ∧ (∀ p ∈ ps, p < st.heap.length) ∧ st' = ⟨putE st.env o.dst r, H'⟩ ∧ t = ⟨ps, ps ++ newIds st.heap.length H'.length, true⟩)
  | some (j, b) => ∃ gb r sel, gvOf ops st.env j b = some gb ∧ (∀ x ∈ o.op.operands, sel x = true → (ev st.env x).okU gb) ∧ (subIds r (tch (ev st.env) o.op) ∨ r.idLt L0) ∧
      ((t = ⟨rdX (ev st.env) o.op, [], false⟩ ∧ (gb = true → DoesP P st.heap (evS st.env sel) o.op r)) ∨ ∃ c ps, o.op = .call c ∧ (gb = true → CallHQ P st.heap (evS st.env sel) c r ps) ∧ (∀ p ∈ ps, p < st.heap.length) ∧ t = ⟨ps, [], false⟩) ∧ st' = ⟨putE st.env o.dst (.mb gb r), st.heap⟩

/-- Names are of rows. -/
def BndT (L0 : Nat) (st : St) : Prop := Bnd st ∧ L0 ≤ st.heap.length

theorem orIds_lt {r : AV} {ρ : Operand → AV} {op : Op} {n L0 : Nat} (h : subIds r (tch ρ op) ∨ r.idLt L0) (hl : ∀ x ∈ op.operands, (ρ x).idLt n) (hn : L0 ≤ n) : r.idLt n :=
  h.elim (fun h => subIds_lt h hl) (fun h => AV.idLt_up hn h)

theorem StepT.bnd {ops : Array Oper} {n L0 : Nat} {o : Oper} {t : TagT} {st st' : St} (h : StepT P ops n L0 o t st st') (hb : BndT L0 st) : BndT L0 st' := by
  obtain ⟨hd, h⟩ := h
  obtain ⟨hb, hL⟩ := hb
  split at h
  · rcases h with ⟨r, _, hi, rfl, _⟩ | ⟨r, H', p, he, _, hi, rfl, _⟩ | ⟨c, r, ps, _, hc, hps, hrl, rfl, _⟩ | ⟨c, r, ps, H', _, hc, hrl, hps, rfl, _⟩
    · exact ⟨hb.put (Nat.le_refl _) (orIds_lt hi (fun x _ => hb.ev x) hL), hL⟩
    · exact ⟨hb.put (effA_len he) hi, Nat.le_trans hL (effA_len he)⟩
    · exact ⟨hb.put (Nat.le_refl _) (AV.idLt_up hL hrl), hL⟩
    · obtain ⟨f, first, cap, Hl, largs, r0, H2, _, _, h3, _, _, _, rfl⟩ := hc
      have hle : st.heap.length ≤ (heapAfter st.heap ps H2).length := by rw [after_len]; omega
      exact ⟨hb.put hle hrl, Nat.le_trans hL hle⟩
  · obtain ⟨gb, r, sel, _, _, hi, _, rfl⟩ := h
    exact ⟨hb.put (Nat.le_refl _) (orIds_lt (r := r) hi (fun x _ => hb.ev x) hL), hL⟩

theorem stepT_ok {w : World} {X : Ctx} {L0 : Nat} {st st' : St} {ops : Array Oper} {o : Oper} {t : TagT} {a : Act} {K : Act → World → Prop} {Q : Exit → Act → World → Prop} (hs : StepT P ops X.n L0 o t st st') (hL : L0 ≤ st.heap.length) (hr : R X st a w) (hk : ∀ a' w', R X st' a' w' → K a' w') :
    if Region.wanted o (yielded ops a.tmps) = true then o.wp P a w K Q else K (a.put o.dst undef) w := by
  have hb : Bnd st := by obtain ⟨M, loc, h⟩ := hr; exact h.ids
  obtain ⟨hd, h⟩ := hs
  split at h
  · rename_i hg
    rcases h with ⟨r, h1, hi, rfl, _⟩ | ⟨r, H', p, he, hp, hi, rfl, _⟩ | ⟨c, r, ps, hop, hc, hps, hrl, rfl, _⟩ | ⟨c, r, ps, H', hop, hc, hrl, hps, rfl, _⟩
    · refine stepX_ok (st' := ⟨putE st.env o.dst r, st.heap⟩) ⟨hd, ?_⟩ hr hk
      rw [hg]; exact .inl ⟨r, h1, orIds_lt hi (fun x _ => hb.ev x) hL, rfl⟩
    · refine step_ok (st' := ⟨putE st.env o.dst r, H'⟩) ⟨hd, ?_⟩ hr hk
      rw [hg]; exact .inr ⟨r, H', p, he, hp, hi, rfl⟩
    · refine stepX_ok (st' := ⟨putE st.env o.dst r, st.heap⟩) ⟨hd, ?_⟩ hr hk
      rw [hg]; exact .inr ⟨c, r, _, hop, hc.toA hps, rfl⟩
    · refine stepX_ok (st' := ⟨putE st.env o.dst r, H'⟩) ⟨hd, ?_⟩ hr hk
      rw [hg]; exact .inr ⟨c, r, _, hop, hc.toA, rfl⟩
  · rename_i j b hg
    obtain ⟨gb, r, sel, hv, hok, hi, hdo, rfl⟩ := h
    refine stepX_ok (st' := ⟨putE st.env o.dst (.mb gb r), st.heap⟩) ⟨hd, ?_⟩ hr hk
    rw [hg]
    refine ⟨gb, r, sel, hv, hok, orIds_lt hi (fun x _ => hb.ev x) hL, fun hgb => ?_, rfl⟩
    rcases hdo with ⟨_, hdo⟩ | ⟨c, ps, hop, hc, hps, _⟩
    · exact .inl (hdo hgb)
    · exact .inr ⟨c, hop, (hc hgb).toA hps⟩

theorem rd_rdX {ρ : Operand → AV} {op : Op} {id : Nat} (h : id ∈ rdOf ρ op) : id ∈ rdX ρ op := by
  cases op <;> simp only [rdOf] at h <;> first | exact h | cases h
theorem rdX_tch {ρ : Operand → AV} {op : Op} {id : Nat} (h : id ∈ rdX ρ op) : id ∈ tch ρ op := by
  cases op <;> simp only [rdX] at h
  case load t x => exact mem_tch (by simp [Op.operands]) h
  case indexAddr t x i => exact mem_tch (x := x) (by simp [Op.operands]) h
  case lookup t m k ok => exact mem_tch (x := m) (by simp [Op.operands]) h
  case slice t x lo hi mx => exact mem_tch (x := x) (by simp [Op.operands]) h
  case call c => exact h
  all_goals cases h
theorem rdX_congr {ρ ρ' : Operand → AV} {op : Op} (h : ∀ x ∈ op.operands, ρ' x = ρ x) : rdX ρ' op = rdX ρ op := by
  cases op <;> simp only [rdX]
  case load t x => rw [h x (by simp [Op.operands])]
  case indexAddr t x i => rw [h x (by simp [Op.operands])]
  case lookup t m k ok => rw [h m (by simp [Op.operands])]
  case slice t x lo hi mx => rw [h x (by simp [Op.operands])]
  case call c => exact tch_congr h

theorem sliceX_congr {H H' : List Cell} {ρ ρ' : Operand → AV} {op : Op} (hρ : ∀ x ∈ op.operands, ρ' x = ρ x) (hH : ∀ id ∈ rdX ρ op, H'[id]? = H[id]?) : sliceX P H' ρ' op = sliceX P H ρ op := by
  cases op <;> simp only [sliceX]
  case slice t x lo hi mx =>
    cases mx with
    | some m => rfl
    | none =>
      simp only []
      have h1 : lo.map ρ' = lo.map ρ := by cases lo with | none => rfl | some l => simp only [Option.map_some]; rw [hρ l (by simp [Op.operands])]
      have h2 : hi.map ρ' = hi.map ρ := by cases hi with | none => rfl | some l => simp only [Option.map_some]; rw [hρ l (by simp [Op.operands])]
      rw [hρ x (by simp [Op.operands]), h1, h2]
      have : ∀ id ∈ (ρ x).ids, H'[id]? = H[id]? := hH
      split
      · rename_i e _ _ _ id hT e1
        rw [e1] at this
        rw [this id (by simp [AV.ids])]
      · rfl

theorem DoesX_congr {H H' : List Cell} {ρ ρ' : Operand → AV} {op : Op} {r : AV} (hρ : ∀ x ∈ op.operands, ρ' x = ρ x) (hH : ∀ id ∈ rdX ρ op, H'[id]? = H[id]?) (h : DoesX P H ρ op r) : DoesX P H' ρ' op r := by
  rcases h with h | ⟨p, h1, h2⟩
  · exact .inl (DoesP_congr hρ (fun id hid => hH id (rd_rdX hid)) h)
  · exact .inr ⟨p, by rw [sliceX_congr hρ hH]; exact h1, h2⟩

theorem tgt_congr {ρ ρ' : Operand → AV} {c : Call} (hρ : ∀ x ∈ (Op.call c).operands, ρ' x = ρ x) : tgt ρ' c.callee = tgt ρ c.callee := by
  cases hc : c.callee with
  | value x => simp only [tgt]; rw [hρ x (by simp [Op.operands, Call.operands, hc])]
  | _ => rfl
theorem args_congr {ρ ρ' : Operand → AV} {c : Call} (hρ : ∀ x ∈ (Op.call c).operands, ρ' x = ρ x) : c.args.toList.map ρ' = c.args.toList.map ρ :=
  List.map_congr_left fun x hx => hρ x (by simp only [Op.operands, Call.operands, Array.mem_append]; right; simpa using hx)

theorem okCells_heap {u : Nat → Nat} {H H' : List Cell} : ∀ {ps : List Nat} {cs : List Cell}, (∀ p ∈ ps, H'[p]? = H[p]?) → okCells u H ps cs → okCells u H' ps cs
  | [], [], _, h => h
  | p :: ps, c :: cs, hH, h => ⟨by rw [hH p (by simp)]; exact h.1, okCells_heap (fun q hq => hH q (by simp [hq])) h.2⟩
  | [], _ :: _, _, h => h.elim
  | _ :: _, [], _, h => h.elim

theorem CallHQ_congr {H H' : List Cell} {ρ ρ' : Operand → AV} {c : Call} {r : AV} {ps : List Nat} (hρ : ∀ x ∈ (Op.call c).operands, ρ' x = ρ x) (hH : ∀ p ∈ ps, H'[p]? = H[p]?) (h : CallHQ P H ρ c r ps) : CallHQ P H' ρ' c r ps := by
  obtain ⟨f, first, cap, Hl, largs, r0, h1, h2, h3, ⟨h4, h5, h6, h7⟩, h8, h9⟩ := h
  exact ⟨f, first, cap, Hl, largs, r0, by rw [tgt_congr hρ]; exact h1, h2, h3, ⟨h4, okCells_heap hH h5, h6, by rw [args_congr hρ]; exact h7⟩, h8, h9⟩
theorem CallHE_congr {H : List Cell} {ρ ρ' : Operand → AV} {c : Call} {r : AV} {ps : List Nat} {H2 : List Cell} (hρ : ∀ x ∈ (Op.call c).operands, ρ' x = ρ x) (h : CallHE P H ρ c r ps H2) : CallHE P H ρ' c r ps H2 := by
  obtain ⟨f, first, cap, Hl, largs, r0, H', h1, h2, h3, h4, h5, h6, h7⟩ := h
  exact ⟨f, first, cap, Hl, largs, r0, H', by rw [tgt_congr hρ]; exact h1, h2, h3, by rw [args_congr hρ]; exact h4, h5, h6, h7⟩

theorem lt_of_get {H H' : List Cell} {p : Nat} (h : H'[p]? = H[p]?) (hp : p < H.length) : p < H'.length := by
  rw [List.getElem?_eq_getElem hp] at h
  exact (List.getElem?_eq_some_iff.1 h).1

theorem quiet_moveT {ops : Array Oper} {n L0 : Nat} {o : Oper} {t : TagT} {st st' : St} (h : StepT P ops n L0 o t st st') (hq : t.e = false) :
    ∃ r, st' = ⟨putE st.env o.dst r, st.heap⟩ ∧ ∀ (env' : Nat → AV) (H : List Cell), (∀ x ∈ o.op.operands, ev env' x = ev st.env x) → (∀ j b, o.guard = some (j, b) → gvOf ops env' j b = gvOf ops st.env j b) →
      (∀ id ∈ t.t, H[id]? = st.heap[id]?) → StepT P ops n L0 o t ⟨env', H⟩ ⟨putE env' o.dst r, H⟩ := by
  obtain ⟨hd, h⟩ := h
  split at h
  · rename_i hg
    rcases h with ⟨r, h1, hi, rfl, rfl⟩ | ⟨r, H', p, he, _, hi, rfl, rfl⟩ | ⟨c, r, ps, hop, hc, hps, hrl, rfl, rfl⟩ | ⟨c, r, ps, H', hop, hc, hrl, hps, rfl, rfl⟩
    · refine ⟨r, rfl, fun env' H hl _ hH => ⟨hd, ?_⟩⟩
      rw [hg]
      exact .inl ⟨r, DoesX_congr hl hH h1, by rw [tch_congr hl]; exact hi, rfl, by rw [rdX_congr hl]⟩
    · cases hq
    · refine ⟨r, rfl, fun env' H hl _ hH => ⟨hd, ?_⟩⟩
      rw [hg]
      exact .inr (.inr (.inl ⟨c, r, ps, hop, CallHQ_congr (by rw [← hop]; exact hl) hH hc, fun p hp => lt_of_get (hH p hp) (hps p hp), hrl, rfl, rfl⟩))
    · cases hq
  · rename_i j b hg
    obtain ⟨gb, r, sel, hv, hok, hi, hdo, rfl⟩ := h
    refine ⟨.mb gb r, rfl, fun env' H hl hgv hH => ⟨hd, ?_⟩⟩
    rw [hg]
    have hlS : ∀ x ∈ o.op.operands, evS env' sel x = evS st.env sel x := fun x hx => by unfold evS; rw [hl x hx]
    refine ⟨gb, r, sel, by rw [hgv j b hg]; exact hv, fun x hx => by rw [hl x hx]; exact hok x hx, by rw [tch_congr hl]; exact hi, ?_, rfl⟩
    rcases hdo with ⟨rfl, hdo⟩ | ⟨c, ps, hop, hc, hps, rfl⟩
    · exact .inl ⟨by rw [rdX_congr hl], fun hgb => DoesP_congr hlS (fun id hid => hH id (by rw [un_rd] at hid; exact rd_rdX hid)) (hdo hgb)⟩
    · exact .inr ⟨c, ps, hop, fun hgb => CallHQ_congr (by rw [← hop]; exact hlS) hH (hc hgb), fun p hp => lt_of_get (hH p hp) (hps p hp), rfl⟩

theorem eff_moveT {ops : Array Oper} {n L0 : Nat} {o : Oper} {t : TagT} {st st' : St} (h : StepT P ops n L0 o t st st') (hq : t.e = true) :
    ∃ r H', st' = ⟨putE st.env o.dst r, H'⟩ ∧ (∀ id, id < st.heap.length → id ∉ t.w → H'[id]? = st.heap[id]?) ∧ (∀ id, st.heap.length ≤ id → id < H'.length → id ∈ t.w) ∧
      ∀ (env' : Nat → AV), (∀ x ∈ o.op.operands, ev env' x = ev st.env x) → StepT P ops n L0 o t ⟨env', st.heap⟩ ⟨putE env' o.dst r, H'⟩ := by
  obtain ⟨hd, h⟩ := h
  split at h
  · rename_i hg
    rcases h with ⟨r, h1, hi, rfl, rfl⟩ | ⟨r, H', p, he, hp, hi, rfl, rfl⟩ | ⟨c, r, ps, hop, hc, hps, hrl, rfl, rfl⟩ | ⟨c, r, ps, H', hop, hc, hrl, hps, rfl, rfl⟩
    · cases hq
    · refine ⟨r, H', rfl, fun id hid hn => (effA_frame he).2 id hid (fun hw => hn (List.mem_append_left _ hw)), fun id h1 h2 => List.mem_append_right _ (mem_new h1 h2), fun env' hl => ⟨hd, ?_⟩⟩
      rw [hg]
      exact .inr (.inl ⟨r, H', p, by rw [← he]; exact effA_congr hl, hp, hi, rfl, by rw [rdX_congr hl, wrOf_congr hl]⟩)
    · cases hq
    · refine ⟨r, H', rfl, fun id hid hn => ?_, fun id h1 h2 => List.mem_append_right _ (mem_new h1 h2), fun env' hl => ⟨hd, ?_⟩⟩
      · obtain ⟨f, first, cap, Hl, largs, r0, H2, _, _, _, _, _, _, rfl⟩ := hc
        unfold heapAfter
        rw [List.getElem?_append_left (by rw [setAll_len]; exact hid), setAll_out _ _ _ _ (fun hw => hn (List.mem_append_left _ hw))]
      · rw [hg]
        exact .inr (.inr (.inr ⟨c, r, ps, H', hop, CallHE_congr (by rw [← hop]; exact hl) hc, hrl, hps, rfl, rfl⟩))
  · obtain ⟨gb, r, sel, hv, hok, hi, hdo, rfl⟩ := h
    rcases hdo with ⟨rfl, hdo⟩ | ⟨c, ps, hop, hc, hps, rfl⟩ <;> cases hq

theorem tagT_lt {ops : Array Oper} {n L0 : Nat} {o : Oper} {t : TagT} {st st' : St} (h : StepT P ops n L0 o t st st') (hb : BndT L0 st) {id : Nat} (hid : id ∈ t.t) : id < st.heap.length := by
  obtain ⟨hb, hL⟩ := hb
  obtain ⟨hd, h⟩ := h
  have hx : id ∈ rdX (ev st.env) o.op → id < st.heap.length := fun h => tch_lt hb (rdX_tch h)
  split at h
  · rcases h with ⟨r, h1, hi, rfl, rfl⟩ | ⟨r, H', p, he, hp, hi, rfl, rfl⟩ | ⟨c, r, ps, hop, hc, hps, hrl, rfl, rfl⟩ | ⟨c, r, ps, H', hop, hc, hrl, hps, rfl, rfl⟩
    · exact hx hid
    · exact hx hid
    · exact hps id hid
    · exact hps id hid
  · obtain ⟨gb, r, sel, hv, hok, hi, hdo, rfl⟩ := h
    rcases hdo with ⟨rfl, hdo⟩ | ⟨c, ps, hop, hc, hps, rfl⟩
    · exact hx hid
    · exact hps id hid

def noMeetT (ti tj : TagT) : Bool := !(ti.e && tj.e) && (ti.w.all fun id => !tj.t.contains id) && (tj.w.all fun id => !ti.t.contains id)

/-- TWO NEIGHBOURS CHANGE PLACES. -/
theorem swapT {ops : Array Oper} {n L0 : Nat} {oi oj : Oper} {ti tj : TagT} {st st1 st2 : St} (hb : BndT L0 st) (hi : StepT P ops n L0 oi ti st st1) (hj : StepT P ops n L0 oj tj st1 st2) (hap : oi.apart ops oj = true) (hm : noMeetT ti tj = true) :
    ∃ st1', StepT P ops n L0 oj tj st st1' ∧ StepT P ops n L0 oi ti st1' st2 := by
  obtain ⟨a1, a2, a3⟩ := Oper.apart_spec hap
  simp only [noMeetT, Bool.and_eq_true, Bool.not_eq_true', List.all_eq_true] at hm
  obtain ⟨⟨m1, m2⟩, m3⟩ := hm
  cases hei : ti.e with
  | false =>
    have hlt := fun id => tagT_lt hi hb (id := id)
    obtain ⟨ri, rfl, qi⟩ := quiet_moveT hi hei
    have hl : ∀ x ∈ oj.op.operands, ev st.env x = ev (putE st.env oi.dst ri) x := fun x hx => (ev_put a1 x hx).symm
    cases hej : tj.e with
    | false =>
      obtain ⟨rj, rfl, qj⟩ := quiet_moveT hj hej
      refine ⟨_, qj st.env st.heap hl (fun j b hg => (gv_put a1 hg).symm) (fun _ _ => rfl), ?_⟩
      have := qi (putE st.env oj.dst rj) st.heap (ev_put a3) (fun j b hg => gv_put a3 hg) (fun _ _ => rfl)
      rw [← putE_comm a2] at this
      exact this
    | true =>
      obtain ⟨rj, H', rfl, hfr, _, qj⟩ := eff_moveT hj hej
      refine ⟨_, qj st.env hl, ?_⟩
      have := qi (putE st.env oj.dst rj) H' (ev_put a3) (fun j b hg => gv_put a3 hg) (fun id hid => by
        refine hfr id (hlt id hid) fun hw => ?_
        have := m3 id hw
        simp at this
        exact this hid)
      rw [← putE_comm a2] at this
      exact this
  | true =>
    have hej : tj.e = false := by simpa [hei] using m1
    have hb1 := hi.bnd hb
    have hltj := fun id => tagT_lt hj hb1 (id := id)
    obtain ⟨ri, H1, rfl, hfr, hnew, qi⟩ := eff_moveT hi hei
    have hl : ∀ x ∈ oj.op.operands, ev st.env x = ev (putE st.env oi.dst ri) x := fun x hx => (ev_put a1 x hx).symm
    have hsame : ∀ id ∈ tj.t, st.heap[id]? = H1[id]? := by
      intro id hid
      by_cases hin : id < st.heap.length
      · refine (hfr id hin fun hw => ?_).symm
        have := m2 id hw
        simp at this
        exact this hid
      · exfalso
        have := m2 id (hnew id (by omega) (hltj id hid))
        simp at this
        exact this hid
    obtain ⟨rj, rfl, qj⟩ := quiet_moveT hj hej
    refine ⟨_, qj st.env st.heap hl (fun j b hg => (gv_put a1 hg).symm) hsame, ?_⟩
    have := qi (putE st.env oj.dst rj) (ev_put a3)
    rw [← putE_comm a2] at this
    exact this

def RunTX (P : Program) (ops : Array Oper) (n L0 : Nat) : List (Oper × TagT) → St → St → Prop
  | [], st, st' => st' = st
  | (o, t) :: l, st, st' => ∃ st1, StepT P ops n L0 o t st st1 ∧ RunTX P ops n L0 l st1 st'

theorem bubbleT {ops : Array Oper} {n L0 : Nat} {x : Oper × TagT} {B : List (Oper × TagT)} {sf : St} : ∀ (A : List (Oper × TagT)) (st : St), RunTX P ops n L0 (A ++ x :: B) st sf → BndT L0 st →
    (∀ a ∈ A, a.1.apart ops x.1 = true ∧ noMeetT a.2 x.2 = true) → RunTX P ops n L0 (x :: (A ++ B)) st sf
  | [], st, h, _, _ => h
  | a :: A, st, h, hb, hA => by
    obtain ⟨st1, h1, h2⟩ := h
    obtain ⟨st2, g1, g2⟩ := bubbleT A st1 h2 (h1.bnd hb) (fun b hb => hA b (by simp [hb]))
    obtain ⟨p1, p2⟩ := hA a (by simp)
    obtain ⟨st1', q1, q2⟩ := swapT hb h1 g1 p1 p2
    exact ⟨st1', q1, st2, q2, g2⟩

theorem any_runT {X : Ctx} {ops : Array Oper} {L0 : Nat} {Q : Exit → Act → World → Prop} {T : Nat → TagT} {sf : St} (hq : ∀ a w, R X sf a w → Q .normal a w) {meet : Nat → Oper → Nat → Oper → Bool}
    (hback : ∀ j oj, ops[j]? = some oj → ∀ e ∈ oj.after, Region.binds .any e = true → e.on < j)
    (hind : ∀ i j oi oj, ops[i]? = some oi → ops[j]? = some oj → i < j → Reach ops i j ∨ (oi.apart ops oj = true ∧ meet i oi j oj = true))
    (hmeet : ∀ i j oi oj, ops[i]? = some oi → ops[j]? = some oj → i < j → meet i oi j oj = true → noMeetT (T i) (T j) = true) :
    ∀ (fuel : Nat) (listed : Array Bool) (st : St) (a : Act) (w : World), listed.size = ops.size → (leftL ops listed).length = fuel → L0 ≤ st.heap.length →
      (∀ j o, ops[j]? = some o → listed.getD j false = true → ∀ e ∈ o.after, Region.binds .any e = true → listed.getD e.on false = true) →
      RunTX P ops X.n L0 ((leftL ops listed).map fun i => (ops.getD i default, T i)) st sf → R X st a w → wpAny P .any ops Q fuel listed a w := by
  have hsome : ∀ {listed : Array Bool} {i}, i ∈ leftL ops listed → ops[i]? = some (ops.getD i default) ∧ listed.getD i true = false := by
    intro listed i hi
    simp only [leftL, List.mem_filter, List.mem_range, Bool.not_eq_true'] at hi
    exact ⟨by rw [Array.getD_eq_getD_getElem?, Array.getElem?_eq_getElem hi.1]; rfl, hi.2⟩
  intro fuel
  induction fuel with
  | zero =>
    intro listed st a w hs hl hL0 _ hr hR
    have h0 : leftL ops listed = [] := List.eq_nil_of_length_eq_zero hl
    rw [h0] at hr
    simp only [List.map_nil, RunTX] at hr
    subst hr
    refine ⟨?_, hq a w hR⟩
    refine List.eq_nil_iff_forall_not_mem.2 fun i hi => ?_
    have := (ready_iff.1 hi).1
    rw [h0] at this; cases this
  | succ fuel ih =>
    intro listed st a w hs hl hL0 hcl hr hR
    obtain ⟨M, loc, hRR⟩ := hR
    have hb : BndT L0 st := ⟨hRR.ids, hL0⟩
    refine ⟨fun h0 => ?_, fun i hi => ?_⟩
    · exfalso
      cases hL : leftL ops listed with
      | nil => rw [hL] at hl; simp at hl
      | cons k L =>
        have hk : k ∈ leftL ops listed := by rw [hL]; simp
        have : k ∈ Region.ready .any ops listed := by
          refine ready_iff.2 ⟨hk, fun o ho e he hbn => ?_⟩
          have hlt := hback k o ho e he hbn
          have hkk : k < ops.size := (Array.getElem?_eq_some_iff.1 ho).1
          cases hg : listed.getD e.on false with
          | true => rfl
          | false =>
            exfalso
            have hsz : e.on < listed.size := by omega
            have hmem : e.on ∈ leftL ops listed := by
              simp only [leftL, List.mem_filter, List.mem_range, Bool.not_eq_true']
              refine ⟨by omega, ?_⟩
              rw [Array.getD_eq_getD_getElem?, Array.getElem?_eq_getElem hsz] at hg ⊢
              exact hg
            have hsort := left_sorted ops listed
            rw [hL] at hsort hmem
            rcases List.mem_cons.1 hmem with h | h
            · omega
            · have := (List.pairwise_cons.1 hsort).1 _ h; omega
        rw [h0] at this; cases this
    · obtain ⟨hil, hip⟩ := ready_iff.1 hi
      obtain ⟨hoi, hli⟩ := hsome hil
      obtain ⟨A, B, hAB, hA, hf⟩ := split_at (left_sorted ops listed) hil
      rw [hAB, List.map_append, List.map_cons] at hr
      have hbub := bubbleT (A.map fun i => (ops.getD i default, T i)) st hr hb (fun x hx => by
        obtain ⟨k, hk, rfl⟩ := List.mem_map.1 hx
        have hkl : k ∈ leftL ops listed := by rw [hAB]; simp [hk]
        obtain ⟨hok, hlk⟩ := hsome hkl
        rcases hind k i _ _ hok hoi (hA k hk) with h1 | ⟨h1, h2⟩
        · exfalso
          have := reach_listed hcl h1 hip
          have hk2 : k < listed.size := by
            simp only [leftL, List.mem_filter, List.mem_range] at hkl; omega
          rw [Array.getD_eq_getD_getElem?, Array.getElem?_eq_getElem hk2] at this hlk
          simp at this hlk
          rw [hlk] at this; cases this
        · exact ⟨h1, hmeet k i _ _ hok hoi (hA k hk) h2⟩)
      obtain ⟨st1, h1, h2⟩ := hbub
      have hL1 := (h1.bnd hb).2
      unfold wpOp
      rw [hoi]
      simp only []
      have hstep := stepT_ok (Q := Q) (K := wpAny P .any ops Q fuel (listed.setIfInBounds i true)) h1 hL0 ⟨M, loc, hRR⟩ (fun a' w' hR' => by
        refine ih (listed.setIfInBounds i true) st1 a' w' (by simpa using hs) ?_ hL1 ?_ ?_ hR'
        · rw [left_set hs hil, hf]
          rw [hAB] at hl
          simp at hl ⊢; omega
        · intro j o hj hlj e he hbn
          have hset : ∀ q, listed.getD q false = true → (listed.setIfInBounds i true).getD q false = true := fun q hq => by
            by_cases hqi : q = i
            · subst hqi
              have hqs : q < listed.size := by
                simp only [leftL, List.mem_filter, List.mem_range] at hil; omega
              rw [Array.getD_eq_getD_getElem?, Array.getElem?_setIfInBounds_self_of_lt hqs]; rfl
            · rw [Array.getD_eq_getD_getElem?, Array.getElem?_setIfInBounds_ne (by omega), ← Array.getD_eq_getD_getElem?]; exact hq
          by_cases hji : j = i
          · subst hji
            exact hset _ (hip o hj e he hbn)
          · rw [Array.getD_eq_getD_getElem?, Array.getElem?_setIfInBounds_ne (by omega), ← Array.getD_eq_getD_getElem?] at hlj
            exact hset _ (hcl j o hj hlj e he hbn)
        · rw [left_set hs hil, hf, List.map_append]; exact h2)
      split
      · rename_i hw
        rw [if_pos hw] at hstep
        exact .inl hstep
      · rename_i hw
        rw [if_neg hw] at hstep
        exact hstep

/-- They do not meet, by what they touched. -/
def meetT (ts : List TagT) (i : Nat) (_ : Oper) (j : Nat) (_ : Oper) : Bool := noMeetT (ts.getD i default) (ts.getD j default)

theorem awp_drawT {X : Ctx} {Q : Exit → St → Prop} {st st' : St} {id : Nat} {ops : Array Oper} {L0 : Nat} (ts : List TagT) (hm : P.follows .mixedOrders = true) (hd : drawOK ops (meetT ts) = true) (hlen : ts.length = ops.size) (hL : L0 ≤ st.heap.length)
    (h : RunTX P ops X.n L0 (ops.toList.zip ts) st st') (hq : Q .normal st') : AWP P X (.region id ops true) Q st := by
  intro a w hr
  refine wp_region_any hm ?_
  obtain ⟨hback, hind⟩ := drawOK_spec hd
  have hall : leftL ops (Array.replicate ops.size false) = List.range ops.size := by
    unfold leftL
    refine List.filter_eq_self.2 fun i hi => ?_
    simp only [List.mem_range] at hi
    rw [Array.getD_eq_getD_getElem?]
    simp [hi]
  refine any_runT (T := fun i => ts.getD i default) (sf := st') (L0 := L0) (fun a' w' hr' => ⟨st', hq, hr'⟩) hback hind (fun i j oi oj hi hj _ hmt => hmt) ops.size _ st a _ (by simp) ?_ hL ?_ ?_ hr.drew
  · rw [hall]; simp
  · intro j o hj hl
    rw [Array.getD_eq_getD_getElem?] at hl
    simp [Array.getElem?_replicate] at hl
    split at hl <;> simp at hl
  · rw [hall]
    have : ((List.range ops.size).map fun i => (ops.getD i default, ts.getD i default)) = ops.toList.zip ts := by
      apply List.ext_getElem?
      intro k
      by_cases hk : k < ops.size
      · have hkt : k < ts.length := by rw [hlen]; exact hk
        simp [List.getElem?_range hk, List.getElem?_zip_eq_some, hk, hkt, Array.getD_eq_getD_getElem?, List.getD_eq_getElem?_getD, List.getElem?_zipWith, List.zip]
      · have hkt : ¬ k < ts.length := by rw [hlen]; exact hk
        simp [hk, List.zip, List.getElem?_zipWith]
    rw [this]; exact h

/-! ### the walk of such a region -/
/-- A call: its contract is wanted here. -/
def CallT (P : Program) (f : FuncId) (args : List AV) (b ok : Bool) (H : List Cell) (raw : List AV) (L0 : Nat) (rd : List Nat) (k : AV → List Cell → TagT → Prop) : Prop :=
  (ok = true ∧ ∃ fr r, Means fr P f args r ∧ r.zone = true ∧ (fr = true ∨ r.scal = true ∨ b = false) ∧ k r H ⟨rd, [], false⟩) ∨
  (∃ ps Hl largs r0, MeansH P f Hl largs r0 Hl ∧ HQ H raw ps Hl largs ∧ r0.idLt Hl.length ∧ ((∀ p ∈ ps, p < H.length) ∧ (ren (uP ps) r0).idLt L0) ∧ k (ren (uP ps) r0) H ⟨ps, [], false⟩) ∨
  (∃ ps Hl largs r0 H', MeansH P f Hl largs r0 H' ∧ CallHC H raw ps Hl largs ∧ ps.length ≤ H'.length ∧ (ren (upN ps H.length) r0).idLt (heapAfter H ps H').length ∧ (∀ p ∈ ps, p < H.length) ∧ k (ren (upN ps H.length) r0) (heapAfter H ps H') ⟨ps, ps ++ newIds H.length (heapAfter H ps H').length, true⟩)

/-- A call behind a guard. -/
def CallGT (P : Program) (f : FuncId) (args : List AV) (b gb ok : Bool) (H : List Cell) (raw : List AV) (L0 : Nat) (rd : List Nat) (k : AV → TagT → Prop) : Prop :=
  (ok = true ∧ ∃ r, (gb = true → ∃ fr, Means fr P f args r ∧ (fr = true ∨ r.scal = true ∨ b = false)) ∧ r.zone = true ∧ k r ⟨rd, [], false⟩) ∨
  (∃ ps Hl largs r0, (gb = true → MeansH P f Hl largs r0 Hl) ∧ HQ H raw ps Hl largs ∧ r0.idLt Hl.length ∧ (∀ p ∈ ps, p < H.length) ∧ k (ren (uP ps) r0) ⟨ps, [], false⟩)

theorem CallT_congr {P : Program} {f : FuncId} {args args' : List AV} {b b' ok ok' : Bool} {H H' : List Cell} {raw raw' : List AV} {L0 : Nat} {rd rd' : List Nat} {k : AV → List Cell → TagT → Prop} (h : args = args') (hb : b = b') (ho : ok = ok') (hH : H = H') (hr : raw = raw') (hd : rd = rd') : CallT P f args b ok H raw L0 rd k = CallT P f args' b' ok' H' raw' L0 rd' k := by rw [h, hb, ho, hH, hr, hd]
theorem CallGT_congr {P : Program} {f : FuncId} {args args' : List AV} {b b' gb gb' ok ok' : Bool} {H H' : List Cell} {raw raw' : List AV} {L0 : Nat} {rd rd' : List Nat} {k : AV → TagT → Prop} (h : args = args') (hb : b = b') (hg : gb = gb') (ho : ok = ok') (hH : H = H') (hr : raw = raw') (hd : rd = rd') : CallGT P f args b gb ok H raw L0 rd k = CallGT P f args' b' gb' ok' H' raw' L0 rd' k := by rw [h, hb, hg, ho, hH, hr, hd]
attribute [congr] CallT_congr CallGT_congr

/-- The rows that a result names are old ones, or its operands'. -/
def orIds (r : AV) (l : List Nat) (L0 : Nat) : Prop := subIds r l ∨ r.idLt L0

def runT (P : Program) (ops : Array Oper) (n L0 : Nat) : List Oper → List TagT → (St → List TagT → Prop) → St → Prop
  | [], acc, K, st => K st acc
  | o :: l, acc, K, st => dOK n o.dst ∧
    match o.guard with
    | none =>
      if isCall o.op then
        match tgt (ev st.env) (argsOf o.op).1 with
        | some (f, first, cap) => callable P f = true ∧
            CallT P f (first ++ (argsOf o.op).2.map (fun x => argA st.heap (ev st.env x)) ++ cap) ((argsOf o.op).2.any fun x => (ev st.env x).isOw) ((first ++ (argsOf o.op).2.map (fun x => argA st.heap (ev st.env x)) ++ cap).all AV.argOK)
              st.heap (first ++ (argsOf o.op).2.map (ev st.env) ++ cap) L0 (rdX (ev st.env) o.op)
              (fun r H t => runT P ops n L0 l (acc ++ [t]) K ⟨putE st.env o.dst r, H⟩)
        | none => False
      else if isEff o.op then
        match doF P true st.heap (ev st.env) o.op with
        | some (p, r, H) => p ∧ r.idLt H.length ∧ runT P ops n L0 l (acc ++ [⟨rdX (ev st.env) o.op, wrOf (ev st.env) o.op ++ newIds st.heap.length H.length, true⟩]) K ⟨putE st.env o.dst r, H⟩
        | none => False
      else match doF P false st.heap (ev st.env) o.op with
        | some (p, r, _) => p ∧ orIds r (tch (ev st.env) o.op) L0 ∧ runT P ops n L0 l (acc ++ [⟨rdX (ev st.env) o.op, [], false⟩]) K ⟨putE st.env o.dst r, st.heap⟩
        | none => False
    | some (j, b) =>
      match gvOf ops st.env j b with
      | some gb => okUS gb st.env (selOf o.op) o.op.operands.toList ∧
        if isCall o.op then
          match tgt (evU st.env) (argsOf o.op).1 with
          | some (f, first, cap) => callable P f = true ∧
              CallGT P f (first ++ (argsOf o.op).2.map (fun x => argA st.heap (evU st.env x)) ++ cap) ((argsOf o.op).2.any fun x => (evU st.env x).isOw) gb ((first ++ (argsOf o.op).2.map (fun x => argA st.heap (evU st.env x)) ++ cap).all AV.argOK)
                st.heap (first ++ (argsOf o.op).2.map (evU st.env) ++ cap) L0 (rdX (ev st.env) o.op)
                (fun r t => orIds r (tch (ev st.env) o.op) L0 ∧ runT P ops n L0 l (acc ++ [t]) K ⟨putE st.env o.dst (.mb gb r), st.heap⟩)
          | none => False
        else match doG P st.heap (evS st.env (selOf o.op)) o.op with
          | some (p, r) => (gb = true → p) ∧ orIds r (tch (ev st.env) o.op) L0 ∧ runT P ops n L0 l (acc ++ [⟨rdX (ev st.env) o.op, [], false⟩]) K ⟨putE st.env o.dst (.mb gb r), st.heap⟩
          | none => gb = false ∧ runT P ops n L0 l (acc ++ [⟨rdX (ev st.env) o.op, [], false⟩]) K ⟨putE st.env o.dst (.mb gb .bad), st.heap⟩
      | none => False

theorem effA_isEff {H H' : List Cell} {ρ : Operand → AV} {op : Op} {p : Prop} {r : AV} (h : effA P H ρ op = some (p, r, H')) : isEff op = true := (effA_frame h).1

theorem runT_ok {ops : Array Oper} {n L0 : Nat} {K : St → List TagT → Prop} : ∀ (l : List Oper) (acc : List TagT) (st : St), runT P ops n L0 l acc K st → ∃ ts st', ts.length = l.length ∧ RunTX P ops n L0 (l.zip ts) st st' ∧ K st' (acc ++ ts)
  | [], acc, st, h => ⟨[], st, rfl, rfl, by rw [List.append_nil]; exact h⟩
  | o :: l, acc, st, h => by
    obtain ⟨hd, h⟩ := h
    have hd' : ∀ d, o.dst = some d → d < n := by intro d e; rw [e] at hd; exact hd
    have go : ∀ st1 t, StepT P ops n L0 o t st st1 → runT P ops n L0 l (acc ++ [t]) K st1 → ∃ ts st', ts.length = (o :: l).length ∧ RunTX P ops n L0 ((o :: l).zip ts) st st' ∧ K st' (acc ++ ts) := by
      intro st1 t h1 h2
      obtain ⟨ts, st', h3, h4, h5⟩ := runT_ok l _ st1 h2
      exact ⟨t :: ts, st', by simp [h3], ⟨st1, h1, h4⟩, by simpa using h5⟩
    split at h
    · rename_i hg
      split at h
      · rename_i hc
        obtain ⟨c, hop, hargs⟩ := call_of hc
        rw [hargs] at h
        simp only [] at h
        split at h
        · rename_i f first cap ht
          obtain ⟨h1, h2⟩ := h
          rcases h2 with ⟨hok, fr, r, h3, hz, h4, h5⟩ | ⟨ps, Hl, largs, r0, h3, h4, hr0, hps, h5⟩ | ⟨ps, Hl, largs, r0, H', h3, h4, hle, hrl, hps, h5⟩
          · refine go _ _ ⟨hd', ?_⟩ h5
            rw [hg]
            have hall := List.all_eq_true.1 hok
            refine .inl ⟨r, .inl (.inr (.inr ⟨c, hop, f, first, cap, ht, h1, fun e he => hall e ?_, fun x hx => hall _ ?_, hz, fr, h3, ?_⟩)), .inl (zone_sub hz _), rfl, rfl⟩
            · rcases List.mem_append.1 he with he | he
              · exact List.mem_append_left _ (List.mem_append_left _ he)
              · exact List.mem_append_right _ he
            · exact List.mem_append_left _ (List.mem_append_right _ (List.mem_map.2 ⟨x, hx, rfl⟩))
            · rcases h4 with h4 | h4 | h4
              · exact .inl h4
              · exact .inr (.inl h4)
              · refine .inr (.inr fun x hx => ?_)
                have := List.any_eq_false.1 h4 x hx
                simpa using this
          · refine go _ _ ⟨hd', ?_⟩ h5
            rw [hg]
            exact .inr (.inr (.inl ⟨c, _, ps, hop, ⟨f, first, cap, Hl, largs, r0, ht, h1, h3, h4, hr0, rfl⟩, hps.1, hps.2, rfl, rfl⟩))
          · refine go _ _ ⟨hd', ?_⟩ h5
            rw [hg]
            exact .inr (.inr (.inr ⟨c, _, ps, _, hop, ⟨f, first, cap, Hl, largs, r0, H', ht, h1, h3, h4, hle, rfl, rfl⟩, hrl, hps, rfl, rfl⟩))
        · exact h.elim
      · split at h
        · rename_i he
          split at h
          · rename_i p r H hdo
            obtain ⟨h1, h2, h3⟩ := h
            refine go _ _ ⟨hd', ?_⟩ h3
            rw [hg]
            rcases doF_ok hdo h1 with ⟨e1, e2, rfl⟩ | e1 | ⟨e0, _⟩
            · have := DoesP_notEff e1
              rw [he] at this; cases this
            · exact .inr (.inl ⟨r, H, p, e1, h1, h2, rfl, rfl⟩)
            · cases e0
          · exact h.elim
        · rename_i he
          split at h
          · rename_i p r H hdo
            obtain ⟨h1, h2, h3⟩ := h
            refine go _ _ ⟨hd', ?_⟩ h3
            rw [hg]
            rcases doF_ok hdo h1 with ⟨e1, e2, rfl⟩ | e1 | ⟨e0, e1, rfl⟩
            · exact .inl ⟨r, .inl e1, h2, rfl, rfl⟩
            · have := effA_isEff e1
              exact absurd this he
            · exact .inl ⟨r, .inr e1, h2, rfl, rfl⟩
          · exact h.elim
    · rename_i j b hg
      split at h
      · rename_i gb hgv
        obtain ⟨hu, h⟩ := h
        have hu' : ∀ x ∈ o.op.operands, selOf o.op x = true → (ev st.env x).okU gb := fun x hx => okUS_mem hu x (by simpa using hx)
        split at h
        · rename_i hc
          obtain ⟨c, hop, hargs⟩ := call_of hc
          rw [hargs] at h
          simp only [] at h
          split at h
          · rename_i f first cap ht
            obtain ⟨h1, h2⟩ := h
            rcases h2 with ⟨hok, r, h3, hz, hi, h5⟩ | ⟨ps, Hl, largs, r0, h3, h4, hr0, hps, hi, h5⟩
            · refine go _ _ ⟨hd', ?_⟩ h5
              rw [hg]
              have hall := List.all_eq_true.1 hok
              refine ⟨gb, r, fun _ => true, hgv, fun x hx _ => hu' x hx (by rw [hop]; rfl), hi, .inl ⟨rfl, fun hgb => ?_⟩, rfl⟩
              obtain ⟨fr, h3, h4⟩ := h3 hgb
              refine .inr (.inr ⟨c, hop, f, first, cap, ht, h1, fun e he => hall e ?_, fun x hx => hall _ ?_, hz, fr, h3, ?_⟩)
              · rcases List.mem_append.1 he with he | he
                · exact List.mem_append_left _ (List.mem_append_left _ he)
                · exact List.mem_append_right _ he
              · exact List.mem_append_left _ (List.mem_append_right _ (List.mem_map.2 ⟨x, hx, rfl⟩))
              · rcases h4 with h4 | h4 | h4
                · exact .inl h4
                · exact .inr (.inl h4)
                · refine .inr (.inr fun x hx => ?_)
                  have := List.any_eq_false.1 h4 x hx
                  show (evU st.env x).isOw = false
                  simpa using this
            · refine go _ _ ⟨hd', ?_⟩ h5
              rw [hg]
              exact ⟨gb, _, fun _ => true, hgv, fun x hx _ => hu' x hx (by rw [hop]; rfl), hi, .inr ⟨c, ps, hop, fun hgb => ⟨f, first, cap, Hl, largs, r0, ht, h1, h3 hgb, h4, hr0, rfl⟩, hps, rfl⟩, rfl⟩
          · exact h.elim
        · split at h
          · rename_i p r he
            obtain ⟨h1, hi, h3⟩ := h
            refine go _ _ ⟨hd', ?_⟩ h3
            rw [hg]
            exact ⟨gb, r, _, hgv, hu', hi, .inl ⟨rfl, fun hgb => doG_ok he (h1 hgb)⟩, rfl⟩
          · obtain ⟨h1, h3⟩ := h
            refine go _ _ ⟨hd', ?_⟩ h3
            rw [hg]
            exact ⟨gb, .bad, _, hgv, hu', .inl (fun id hid => by cases hid), .inl ⟨rfl, fun hgb => (by rw [h1] at hgb; cases hgb)⟩, rfl⟩
      · exact h.elim

theorem callT_intro {f : FuncId} {args : List AV} {b ok : Bool} {H : List Cell} {raw : List AV} {L0 : Nat} {rd : List Nat} {k : AV → List Cell → TagT → Prop} {fr : Bool} {r : AV} (h : Means fr P f args r) (hz : r.zone = true) (hb : fr = true ∨ r.scal = true ∨ b = false) (ho : ok = true) (hk : k r H ⟨rd, [], false⟩) : CallT P f args b ok H raw L0 rd k :=
  .inl ⟨ho, fr, r, h, hz, hb, hk⟩
theorem callGT_intro {f : FuncId} {args : List AV} {b gb ok : Bool} {H : List Cell} {raw : List AV} {L0 : Nat} {rd : List Nat} {k : AV → TagT → Prop} {fr : Bool} {r : AV} (h : gb = true → Means fr P f args r) (hz : r.zone = true) (hb : fr = true ∨ r.scal = true ∨ b = false) (ho : ok = true) (hk : k r ⟨rd, [], false⟩) : CallGT P f args b gb ok H raw L0 rd k :=
  .inl ⟨ho, r, fun g => ⟨fr, h g, hb⟩, hz, hk⟩
/-- A call that leaves the rows as they are. -/
theorem callTQ_intro {f : FuncId} {args : List AV} {b ok : Bool} {H : List Cell} {raw : List AV} {L0 : Nat} {rd : List Nat} {k : AV → List Cell → TagT → Prop} (ps : List Nat) {Hl : List Cell} {largs : List AV} {r0 : AV} (h : MeansH P f Hl largs r0 Hl) (hc : HQ H raw ps Hl largs ∧ r0.idLt Hl.length ∧ (∀ p ∈ ps, p < H.length) ∧ (ren (uP ps) r0).idLt L0) (hk : k (ren (uP ps) r0) H ⟨ps, [], false⟩) : CallT P f args b ok H raw L0 rd k :=
  .inr (.inl ⟨ps, Hl, largs, r0, h, hc.1, hc.2.1, hc.2.2, hk⟩)
theorem callTE_intro {f : FuncId} {args : List AV} {b ok : Bool} {H : List Cell} {raw : List AV} {L0 : Nat} {rd : List Nat} {k : AV → List Cell → TagT → Prop} (ps : List Nat) {Hl : List Cell} {largs : List AV} {r0 : AV} {H' : List Cell} (h : MeansH P f Hl largs r0 H') (hc : CallHC H raw ps Hl largs ∧ ps.length ≤ H'.length ∧ (ren (upN ps H.length) r0).idLt (heapAfter H ps H').length ∧ (∀ p ∈ ps, p < H.length)) (hk : k (ren (upN ps H.length) r0) (heapAfter H ps H') ⟨ps, ps ++ newIds H.length (heapAfter H ps H').length, true⟩) : CallT P f args b ok H raw L0 rd k :=
  .inr (.inr ⟨ps, Hl, largs, r0, H', h, hc.1, hc.2.1, hc.2.2.1, hc.2.2.2, hk⟩)
theorem callHGT_intro {f : FuncId} {args : List AV} {b gb ok : Bool} {H : List Cell} {raw : List AV} {L0 : Nat} {rd : List Nat} {k : AV → TagT → Prop} (ps : List Nat) {Hl : List Cell} {largs : List AV} {r0 : AV} (h : gb = true → MeansH P f Hl largs r0 Hl) (hc : HQ H raw ps Hl largs ∧ r0.idLt Hl.length ∧ (∀ p ∈ ps, p < H.length)) (hk : k (ren (uP ps) r0) ⟨ps, [], false⟩) : CallGT P f args b gb ok H raw L0 rd k :=
  .inr ⟨ps, Hl, largs, r0, h, hc.1, hc.2.1, hc.2.2, hk⟩

end
end Go.Ab
