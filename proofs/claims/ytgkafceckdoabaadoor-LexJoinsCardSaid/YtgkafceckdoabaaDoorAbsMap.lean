/-
  Maps that the call owns, with integer, string or bool keys: made, looked up, updated.
-/
import Derived.Test.YtgkafceckdoabaaDoorAbsKey
set_option linter.all false
namespace Go.Ab
open Go.RowKit

def foundA (T : TK) : Option AV → AV
  | some v => v
  | none => T.zero

/-- What a look-up gives. -/
def lookA (P : Program) (K V : Nat) (k : AV) (es : List (AV × AV)) (ok : Bool) : Option AV :=
  match tyk P V, findA P K k es with
  | some T, some r => some (if ok then .tup [foundA T r, .v (.bool r.isSome)] else foundA T r)
  | _, _ => none

def mapPur (P : Program) (H : List Cell) (ρ : Operand → AV) : Op → Option (Prop × AV)
  | .lookup t m k ok => match tyk P t, ρ m with
    | some ⟨.map K V, _, _, _⟩, .ow id => match H[id]? with
      | some (.map mo) => (lookA P K V (ρ k) mo.es ok).map fun r => ((mo.K = K ∧ mo.V = V) ∧ (keyEq P K (ρ k) (ρ k)).isSome = true ∧ (ρ k).zone = true, r)
      | _ => none
    | _, _ => none
  | _ => none

def mapEff (P : Program) (H : List Cell) (ρ : Operand → AV) : Op → Option (Prop × AV × List Cell)
  | .makeMap t none => match tyk P t with
    | some ⟨.map K V, _, _, _⟩ => some (True, .ow H.length, H ++ [.map ⟨K, V, []⟩])
    | _ => none
  | .mapUpdate t m k x => match tyk P t, ρ m with
    | some ⟨.map K V, _, _, _⟩, .ow id => match H[id]? with
      | some (.map mo) => (updA P K (ρ k) (ρ x) mo.es).map fun es => (((mo.K = K ∧ mo.V = V) ∧ (keyEq P K (ρ k) (ρ k)).isSome = true ∧ (ρ k).zone = true) ∧ (ρ x).zone = true, .bad, H.set id (.map ⟨K, V, es⟩))
      | _ => none
    | _, _ => none
  | _ => none

section
variable {P : Program} {w w' : World} {M : Nat → Prop} {loc : Nat → Value}

theorem mapPur_ok {X : Ctx} {st : St} {o : Oper} {a : Act} {ρ : Operand → AV} (h : RR X M loc st a w) (hρ : ∀ x ∈ o.op.operands, Rep w M loc (a.eval x) (ρ x)) {p : Prop} {r : AV}
    (he : mapPur P st.heap ρ o.op = some (p, r)) (hp : p) : ∃ v, (execOp a.eval o).run P w = .ok (.value v) w ∧ RepZ w M v r := by
  obtain ⟨dst, op, ty, pos, after, guard⟩ := o
  simp only [] at he hρ
  cases op <;> simp only [mapPur, reduceCtorEq] at he
  case lookup t m k ok =>
    have hm := hρ m (by simp [Op.operands])
    have hk := hρ k (by simp [Op.operands])
    split at he
    · rename_i K V _ _ _ id hT e1
      rw [e1] at hm
      obtain ⟨i1, d, z1, g1, g2, g3, g4⟩ := tyk_spec hT
      have := kOf_map (d := d) (by have := congrArg TK.k g4; exact this.symm)
      subst this
      split at he
      · rename_i mo ho
        cases hl : lookA P K V (ρ k) mo.es ok with
        | none => simp [hl] at he
        | some r' =>
          simp only [hl, Option.map_some, Option.some.injEq, Prod.mk.injEq] at he
          obtain ⟨rfl, rfl⟩ := he
          obtain ⟨⟨hK, hV⟩, hkey, hkz⟩ := hp
          obtain ⟨g, es, clock, h1, h2, h3, h4, h5⟩ := (h.mobj id mo ho).own
          have hkr := hk.repZ hkz
          have hmv : a.eval m = .map (some g) := by
            have : a.eval m = loc id := hm
            rw [this, h1]
          unfold lookA at hl
          split at hl
          · rename_i T rr hVt hf
            obtain ⟨iV, dV, zV, f1, f2, f3, rfl⟩ := tyk_spec hVt
            simp only [Option.some.injEq] at hl
            have hg : (getObj g).run P w = .ok (.map es clock) w := by simp only [getObj, Sem.run, h4]
            have hz : (zeroValue V).run P w = .ok zV w := by simp [zeroValue, typeInfo, f1, f3]
            have hfin : ∃ fr v, (Instr.findKey K (a.eval k) es.toList).run P w = .ok fr w ∧ ((∃ i, fr = some (i, v) ∧ rr.isSome = true) ∨ (fr = none ∧ v = zV ∧ rr.isSome = false)) ∧ RepZ w M v (foundA ⟨kOf dV, iV.size, iV.bytes, zeroOf zV⟩ rr) := by
              rcases findKey_ok (w := w) (M := M) hkey hkr es.toList mo.es rr (by simpa using h5.1) (fun j e q h1 h2 => h5.2 j e q (by simpa using h1) h2) hf with ⟨i, e, q, rfl, e2, e3, e4, e5, _⟩ | ⟨rfl, e4, _⟩
              · exact ⟨some (i, e.val), e.val, e4, .inl ⟨_, rfl, rfl⟩, e5⟩
              · exact ⟨none, zV, e4, .inr ⟨rfl, rfl, rfl⟩, rep_zeroOf zV⟩
            obtain ⟨fr, v, e2, e4, e3⟩ := hfin
            refine ⟨if ok then .tuple #[v, .bool rr.isSome] else v, ?_, ?_⟩
            · rcases e4 with ⟨i, rfl, e5⟩ | ⟨rfl, rfl, e5⟩
              · simp only [execOp, Instr.lookup, hmv, Sem.run_bind, run_underlying g2, Result.andThen_ok, hg, Sem.run_pure, checkKey_ok hkey hkr, e2, e5]
              · simp only [execOp, Instr.lookup, hmv, Sem.run_bind, run_underlying g2, Result.andThen_ok, hg, Sem.run_pure, checkKey_ok hkey hkr, e2, hz, e5]
            · rw [← hl]
              cases ok
              · exact e3
              · simp only [if_true]
                refine .tup _ _ rfl fun j c e h1 h2 => ?_
                match j with
                | 0 => simp at h1 h2; subst h1; subst h2; exact e3
                | 1 => simp at h1 h2; subst h1; subst h2; exact .v _
                | j + 2 => simp at h2
          · cases hl
      · cases he
    · cases he

/-- A map turns, or comes; all else stays. -/
theorem RR.changeMap {X : Ctx} {st : St} {a : Act} (h : RR X M loc st a w) (g : Nat) (hg : ∀ k, k < w.heap.size → k ≠ g → w'.heap[k]? = w.heap[k]?) (hs : w.heap.size ≤ w'.heap.size) (hos : w'.os = w.os) (htp : w'.tape = w.tape) (hout : w'.output = w.output)
    (hgM : ¬ M g) (hgb : X.own g) (hgc : g < w.heap.size → ∃ es c, w.heap[g]? = some (.map es c))
    (c : Nat) (m' : MOb) (H' : List Cell) (es' : Array MapEntry) (clock' : Nat) (hnew : w'.heap[g]? = some (.map es' clock')) (hent : EntOK w M es' m'.es)
    (hold : ∀ id x, id ≠ c → H'[id]? = some x → st.heap[id]? = some x) (hne : ∀ id m, id ≠ c → st.heap[id]? = some (.map m) → loc id ≠ .map (some g))
    (hc : H'[c]? = some (.map m')) (hlen : st.heap.length ≤ H'.length) (hloc : c < st.heap.length → loc c = .map (some g)) :
    RR X M (fun id => if id = c then .map (some g) else loc id) { st with heap := H' } a w' := by
  have hM : ∀ b, M b → w'.heap[b]? = w.heap[b]? := fun b hb => hg b (h.zone b hb).1 (fun e => hgM (e ▸ hb))
  have hgr : w.grownBy w' (some g) := ⟨hos, htp, hout, hs, fun k hk hn => hg k hk (fun e => hn (by rw [e]))⟩
  refine ⟨fun s => ?_, h.nle, h.size, h.defers, fun id o ho => ?_, fun i j oi oj hij hi hj => ?_, fun id m hm => ?_, fun i j mi mj hij hi hj => ?_, ?_, fun b hb => ⟨Nat.lt_of_lt_of_le (h.zone b hb).1 hs, (h.zone b hb).2⟩, h.zin, h.zlt, fun id hid => ?_, fun s => AV.idLt_up hlen (h.ids s)⟩
  · refine Rep.mono (n := st.heap.length) hM (fun _ hb => hb) (fun id hid => ?_) (h.env s) (h.ids s)
    split
    · rename_i e; subst e; exact (hloc hid).symm
    · rfl
  · have hid : id ≠ c := by rintro rfl; rw [hc] at ho; cases ho
    rw [if_neg hid]
    have ho' := hold id _ hid ho
    have hob := h.obj id o ho'
    refine hob.kept hgr ?_ (fun k e => by cases e; exact hgM) (fun b hb => (h.zone b hb).1) (fun i hi => by
      split
      · rename_i e; subst e; exact (hloc hi).symm
      · rfl) hlen
    cases hb : (loc id).ownBlock with
    | none => exact .inl rfl
    | some b =>
      right
      intro e
      cases e
      obtain ⟨xs, hown, _⟩ := hob.own
      obtain ⟨cs, t, fr, hcells⟩ := ownsRow_cells hown _ hb
      obtain ⟨es, cc, hm⟩ := hgc (hown.lt _ hb).2
      rw [hm] at hcells; cases hcells
  · have h1 : i ≠ c := by rintro rfl; rw [hc] at hi; cases hi
    have h2 : j ≠ c := by rintro rfl; rw [hc] at hj; cases hj
    rw [if_neg h1, if_neg h2]
    exact h.sep i j oi oj hij (hold i _ h1 hi) (hold j _ h2 hj)
  · by_cases hid : id = c
    · subst hid
      rw [if_pos rfl]
      have : m = m' := by rw [hc] at hm; cases hm; rfl
      subst this
      exact ⟨g, es', clock', rfl, hgb, hgM, hnew, hent.mono hM (fun _ hb => hb)⟩
    · rw [if_neg hid]
      have hm' := hold id _ hid hm
      obtain ⟨g2, es, cl, h1, h2, h3, h4, h5⟩ := (h.mobj id m hm').own
      refine ⟨g2, es, cl, h1, h2, h3, ?_, h5.mono hM (fun _ hb => hb)⟩
      rw [hg g2 (Array.getElem?_eq_some_iff.1 h4).1 (fun e => hne id m hid hm' (by rw [h1, e]))]
      exact h4
  · by_cases hic : i = c
    · subst hic
      have hjc : j ≠ i := fun e => hij e.symm
      rw [if_pos rfl, if_neg hjc]
      exact (hne j mj hjc (hold j _ hjc hj)).symm
    · rw [if_neg hic]
      by_cases hjc : j = c
      · subst hjc
        rw [if_pos rfl]
        exact hne i mi hic (hold i _ hic hi)
      · rw [if_neg hjc]
        exact h.msep i j mi mj hij (hold i _ hic hi) (hold j _ hjc hj)
  · exact ⟨hgr.os.trans h.below.os, hgr.tape.trans h.below.tape, hgr.output.trans h.below.output, Nat.le_trans h.below.size hgr.size, fun k hk hT => by
      rw [hgr.block k (Nat.lt_of_lt_of_le hk h.below.size) (fun e => by
        cases e
        rcases hgb with h1 | h1
        · omega
        · exact hT h1)]
      exact h.below.block k hk hT⟩
  · show Value.oneCell' (if id = c then .map (some g) else loc id) = true
    split
    · rfl
    · rename_i hne'; exact h.one id (List.getElem?_eq_some_iff.1 (hold id _ hne' (List.getElem?_eq_getElem hid))).1

theorem find_of_upd {t : Nat} {k x : AV} : ∀ (l es2 : List (AV × AV)), updA P t k x l = some es2 → ∃ rr, findA P t k l = some rr
  | [], es2, _ => ⟨_, rfl⟩
  | (a, v) :: l, es2, h => by
    simp only [updA] at h
    simp only [findA]
    cases hq : keyEq P t k a with
    | none => rw [hq] at h; cases h
    | some b =>
      rw [hq] at h
      cases b
      · simp only [] at h ⊢
        cases hr : updA P t k x l with
        | none => rw [hr] at h; cases h
        | some es3 => exact find_of_upd l es3 hr
      · exact ⟨_, rfl⟩

theorem mapEff_ok {X : Ctx} {st : St} {o : Oper} {a : Act} (h : RR X M loc st a w) {p : Prop} {r : AV} {H' : List Cell}
    (he : mapEff P st.heap (ev st.env) o.op = some (p, r, H')) (hp : p) : EffOK P X st a w M (execOp a.eval o) r H' := by
  obtain ⟨dst, op, ty, pos, after, guard⟩ := o
  simp only [] at he
  cases op <;> simp only [mapEff, reduceCtorEq] at he
  case makeMap t rs =>
    cases rs with
    | some x => simp only [mapEff, reduceCtorEq] at he
    | none =>
    simp only [mapEff] at he
    split at he
    · rename_i K V _ _ _ hT
      simp only [Option.some.injEq, Prod.mk.injEq] at he
      obtain ⟨rfl, rfl, rfl⟩ := he
      have hrr := h.changeMap (w' := w.alloc (.map #[] 0)) w.heap.size (fun k hk _ => Below.heap_alloc w _ k hk) (by simp) rfl rfl rfl (fun hm => by have := (h.zone _ hm).1; omega) (.inl h.below.size) (fun e => by omega)
        st.heap.length ⟨K, V, []⟩ (st.heap ++ [.map ⟨K, V, []⟩]) #[] 0 (heap_alloc_new w _) ⟨rfl, by simp⟩ (fun id x hid hx => by
          by_cases hlt : id < st.heap.length
          · rwa [List.getElem?_append_left hlt] at hx
          · have := (List.getElem?_eq_some_iff.1 hx).1
            simp at this; omega) (fun id m _ hm e => by
          obtain ⟨g2, es, cl, h1, h2, h3, h4, h5⟩ := (h.mobj id m hm).own
          rw [h1] at e
          simp at e
          have := (Array.getElem?_eq_some_iff.1 h4).1
          omega) (by simp) (by simp) (fun e => by omega)
      refine EffOK.lift (v := .map (some w.heap.size)) ?_ hrr ?_ (by simp [AV.idLt])
      · simp [Instr.makeMap]
      · show _ = _
        simp
    · cases he
  case mapUpdate t m k x =>
    have hm := h.ev m
    have hk := h.ev k
    have hx := h.ev x
    split at he
    · rename_i K V _ _ _ id hT e1
      rw [e1] at hm
      obtain ⟨i1, d, z1, g1, g2, g3, g4⟩ := tyk_spec hT
      have := kOf_map (d := d) (by have := congrArg TK.k g4; exact this.symm)
      subst this
      split at he
      · rename_i mo ho
        cases hu' : updA P K (ev st.env k) (ev st.env x) mo.es with
        | none => simp [hu'] at he
        | some es2 =>
          simp only [hu', Option.map_some, Option.some.injEq, Prod.mk.injEq] at he
          obtain ⟨rfl, rfl, rfl⟩ := he
          obtain ⟨⟨⟨hK, hV⟩, hkey, hkz⟩, hxz⟩ := hp
          obtain ⟨g, es, clock, h1, h2, h3, h4, h5⟩ := (h.mobj id mo ho).own
          have hkr := hk.repZ hkz
          have hxr := hx.repZ hxz
          have hmv : a.eval m = .map (some g) := by
            have : a.eval m = loc id := hm
            rw [this, h1]
          have hg : (getObj g).run P w = .ok (.map es clock) w := by simp only [getObj, Sem.run, h4]
          have hgl : g < w.heap.size := (Array.getElem?_eq_some_iff.1 h4).1
          have hset : ∀ e2 c2, (setObj g (.map e2 c2)).run P w = .ok () { w with heap := w.heap.setIfInBounds g (.map e2 c2) } := fun e2 c2 => by simp only [setObj, Sem.run, h4]
          have hfr := find_of_upd mo.es es2 hu'
          obtain ⟨rr, hf⟩ := hfr
          have fin : ∀ (e2 : Array MapEntry) (c2 : Nat), EntOK w M e2 es2 → (Instr.mapUpdate t (.map (some g)) (a.eval k) (a.eval x)).run P w = .ok () { w with heap := w.heap.setIfInBounds g (.map e2 c2) } →
              EffOK P X st a w M (execOp a.eval ⟨dst, .mapUpdate t m k x, ty, pos, after, guard⟩) .bad (st.heap.set id (.map ⟨K, V, es2⟩)) := by
            intro e2 c2 hent hrun
            have hrr := h.changeMap (w' := { w with heap := w.heap.setIfInBounds g (.map e2 c2) }) g (fun k hk hne => by
                show (w.heap.setIfInBounds g _)[k]? = _
                rw [Array.getElem?_setIfInBounds_ne (fun e => hne e.symm)]) (by simp) rfl rfl rfl h3 h2 (fun _ => ⟨es, clock, h4⟩)
              id ⟨K, V, es2⟩ (st.heap.set id (.map ⟨K, V, es2⟩)) e2 c2 (by show (w.heap.setIfInBounds g _)[g]? = _; rw [Array.getElem?_setIfInBounds_self_of_lt hgl]) hent (fun id2 x2 hne hx2 => by rwa [List.getElem?_set_ne (fun e => hne e.symm)] at hx2)
              (fun id2 m2 hne hm2 e => h.msep id2 id m2 mo hne hm2 ho (by rw [e, h1])) (by rw [List.getElem?_set_self (List.getElem?_eq_some_iff.1 ho).1]) (by simp) (fun _ => h1)
            refine ⟨.skip, _, _, undef, ?_, .inr ⟨rfl, rfl⟩, hrr, (RepZ.bad _).rep, trivial⟩
            simp only [execOp, hmv, Sem.run_bind, hrun, Result.andThen_ok, Sem.run_pure]
          rcases findKey_ok (w := w) (M := M) hkey hkr es.toList mo.es rr (by simpa using h5.1) (fun j e q h1 h2 => h5.2 j e q (by simpa using h1) h2) hf with ⟨i, e, q, rfl, e2, e3, e4, e5, e6, e7⟩ | ⟨rfl, e4, e7⟩
          · rw [e7] at hu'
            cases hu'
            refine fin (es.modify i fun e => { e with key := a.eval k, val := a.eval x }) clock ⟨by simpa using h5.1, fun j ej qj hj hq => ?_⟩ ?_
            · by_cases hji : j = i
              · subst hji
                have hjl : j < mo.es.length := (List.getElem?_eq_some_iff.1 e3).1
                rw [List.getElem?_set_self hjl] at hq
                cases hq
                have : es[j]? = some e := by simpa using e2
                simp [Array.getElem?_modify, this] at hj
                subst hj
                exact ⟨hkr, hxr⟩
              · rw [List.getElem?_set_ne (fun e => hji e.symm)] at hq
                rw [Array.getElem?_modify, if_neg (fun e => hji e.symm)] at hj
                exact h5.2 j ej qj hj hq
            · have hkey2 : (((es[i]?).map (·.key)).getD (a.eval k)) = e.key := by
                have : es[i]? = some e := by simpa using e2
                simp [this]
              simp only [Instr.mapUpdate, Sem.run_bind, run_underlying g2, Result.andThen_ok, hg, checkKey_ok hkey hkr, e4, Sem.run_pure]
              rw [hkey2]
              simp only [Instr.keyThatStays, e6, if_true, Sem.run_pure, Result.andThen_ok, hset]
          · rw [e7] at hu'
            cases hu'
            refine fin (es.push { key := a.eval k, val := a.eval x, born := clock }) (clock + 1) ⟨by simp [h5.1], fun j ej qj hj hq => ?_⟩ ?_
            · by_cases hjl : j < mo.es.length
              · rw [List.getElem?_append_left hjl] at hq
                rw [Array.getElem?_push, if_neg (by rw [h5.1]; omega)] at hj
                exact h5.2 j ej qj hj hq
              · have hjj : j = mo.es.length := by
                  have := (List.getElem?_eq_some_iff.1 hq).1
                  simp at this; omega
                subst hjj
                simp at hq
                subst hq
                rw [Array.getElem?_push, if_pos h5.1.symm] at hj
                cases hj
                exact ⟨hkr, hxr⟩
            · simp only [Instr.mapUpdate, Sem.run_bind, run_underlying g2, Result.andThen_ok, hg, checkKey_ok hkey hkr, e4, Sem.run_pure, hset]
      · cases he
    · cases he


/-- All that leave memory alone, maps among them. -/
def purA (P : Program) (H : List Cell) (ρ : Operand → AV) (op : Op) : Option (Prop × AV) :=
  match op with
  | .lookup t m k ok => mapPur P H ρ (.lookup t m k ok)
  | op => pur P H ρ op

def effA (P : Program) (H : List Cell) (ρ : Operand → AV) (op : Op) : Option (Prop × AV × List Cell) :=
  match op with
  | .makeMap t r => mapEff P H ρ (.makeMap t r)
  | .mapUpdate t m k x => mapEff P H ρ (.mapUpdate t m k x)
  | op => eff P H ρ op

theorem purA_ok {X : Ctx} {st : St} {o : Oper} {a : Act} {ρ : Operand → AV} (h : RR X M loc st a w) (hρ : ∀ x ∈ o.op.operands, Rep w M loc (a.eval x) (ρ x)) {p : Prop} {r : AV}
    (he : purA P st.heap ρ o.op = some (p, r)) (hp : p) : ∃ v, (execOp a.eval o).run P w = .ok (.value v) w ∧ Rep w M loc v r := by
  unfold purA at he
  split at he
  · rename_i t m k ok ho
    rw [← ho] at he
    obtain ⟨v, h1, h2⟩ := mapPur_ok h hρ he hp
    exact ⟨v, h1, h2.rep⟩
  · exact pur_ok (X := X) (fun id o ho => h.obj id o ho) hρ he hp

theorem effA_ok {X : Ctx} {st : St} {o : Oper} {a : Act} (h : RR X M loc st a w) {p : Prop} {r : AV} {H' : List Cell}
    (he : effA P st.heap (ev st.env) o.op = some (p, r, H')) (hp : p) : EffOK P X st a w M (execOp a.eval o) r H' := by
  unfold effA at he
  split at he
  · rename_i t rs ho
    rw [← ho] at he
    exact mapEff_ok h he hp
  · rename_i t m k x ho
    rw [← ho] at he
    exact mapEff_ok h he hp
  · exact eff_ok h he hp

end
end Go.Ab
