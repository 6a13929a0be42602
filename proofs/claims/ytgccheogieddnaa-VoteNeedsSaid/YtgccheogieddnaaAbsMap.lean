/-
  Maps that the call owns, with integer, string or bool keys: made, looked up, updated.
-/
import Derived.Test.YtgccheogieddnaaAbsEff4
set_option linter.all false
namespace Go.Ab
open Go.RowKit

/-- The first entry with this key. -/
def findA (T : Option TK) (k : AV) : List (AV × AV) → Option (Option AV)
  | [] => some none
  | (a, v) :: l => match eqV T k a with
    | some true => some (some v)
    | some false => findA T k l
    | none => none

def updA (T : Option TK) (k x : AV) : List (AV × AV) → Option (List (AV × AV))
  | [] => some [(k, x)]
  | (a, v) :: l => match eqV T k a with
    | some true => some ((k, x) :: l)
    | some false => (updA T k x l).map ((a, v) :: ·)
    | none => none

def foundA (T : TK) : Option AV → AV
  | some v => v
  | none => T.zero

theorem beq_ba {a b : ByteArray} : (a == b) = true ↔ a = b := by
  obtain ⟨⟨x⟩⟩ := a
  obtain ⟨⟨y⟩⟩ := b
  have : ((⟨⟨x⟩⟩ : ByteArray) == ⟨⟨y⟩⟩) = (x == y) := by
    show ((⟨x⟩ : Array UInt8) == ⟨y⟩) = (x == y)
    simp
  rw [this]
  simp

/-- What a look-up gives. -/
def lookA (P : Program) (K V : Nat) (k : AV) (es : List (AV × AV)) (ok : Bool) : Option AV :=
  match tyk P V, findA (tyk P K) k es with
  | some T, some r => some (if ok then .tup [foundA T r, .v (.bool r.isSome)] else foundA T r)
  | _, _ => none

def mapPur (P : Program) (H : List Cell) (ρ : Operand → AV) : Op → Option (Prop × AV)
  | .lookup t m k ok => match tyk P t, ρ m with
    | some ⟨.map K V, _, _, _⟩, .ow id => match H[id]? with
      | some (.map mo) => (lookA P K V (ρ k) mo.es ok).map fun r => ((mo.K = K ∧ mo.V = V) ∧ (eqV (tyk P K) (ρ k) (ρ k)).isSome = true, r)
      | _ => none
    | _, _ => none
  | _ => none

def mapEff (P : Program) (H : List Cell) (ρ : Operand → AV) : Op → Option (Prop × AV × List Cell)
  | .makeMap t none => match tyk P t with
    | some ⟨.map K V, _, _, _⟩ => some (True, .ow H.length, H ++ [.map ⟨K, V, []⟩])
    | _ => none
  | .mapUpdate t m k x => match tyk P t, ρ m with
    | some ⟨.map K V, _, _, _⟩, .ow id => match H[id]? with
      | some (.map mo) => (updA (tyk P K) (ρ k) (ρ x) mo.es).map fun es => (((mo.K = K ∧ mo.V = V) ∧ (eqV (tyk P K) (ρ k) (ρ k)).isSome = true) ∧ (ρ x).zone = true, .bad, H.set id (.map ⟨K, V, es⟩))
      | _ => none
    | _, _ => none
  | _ => none

section
variable {P : Program} {w w' : World} {M : Nat → Prop} {loc : Nat → Value}

/-- A key that the map can find. -/
theorem key_form {t : Nat} {k : AV} (h : (eqV (tyk P t) k k).isSome = true) : ∃ x d, k = .v x ∧ P.underlying t = some d ∧ ((∃ i, d = .int i) ∨ d = .string ∨ d = .bool) ∧ (∀ i, d = .int i → ∃ j n, x = .int j n) ∧ (d = .string → ∃ s, x = .string s) ∧ (d = .bool → ∃ b, x = .bool b) := by
  unfold eqV at h
  split at h
  · rename_i kk _ _ _ k1 a k2 b hT e1
    obtain ⟨i, d, z, h1, h2, h3, h4⟩ := tyk_spec hT
    have hd : d = .int kk := kOf_int (by have := congrArg TK.k h4; exact this.symm)
    subst hd
    exact ⟨_, _, rfl, h2, .inl ⟨_, rfl⟩, fun i _ => ⟨_, _, rfl⟩, (by intro e; cases e), (by intro e; cases e)⟩
  · rename_i a b hT e1
    obtain ⟨i, d, z, h1, h2, h3, h4⟩ := tyk_spec hT
    have hd : d = .string := kOf_str (by have := congrArg TK.k h4; exact this.symm)
    subst hd
    exact ⟨_, _, rfl, h2, .inr (.inl rfl), (by intro i e; cases e), fun _ => ⟨_, rfl⟩, (by intro e; cases e)⟩
  · rename_i a b hT e1
    obtain ⟨i, d, z, h1, h2, h3, h4⟩ := tyk_spec hT
    have hd : d = .bool := kOf_bool (by have := congrArg TK.k h4; exact this.symm)
    subst hd
    exact ⟨_, _, rfl, h2, .inr (.inr rfl), (by intro i e; cases e), (by intro e; cases e), fun _ => ⟨_, rfl⟩⟩
  · cases h

theorem checkKey_ok {t : Nat} {x : Value} {d : TypeDesc} (hu : P.underlying t = some d) (hd : (∃ i, d = .int i) ∨ d = .string ∨ d = .bool) (b : Bool) : (Instr.checkKey b 10000 t x).run P w = .ok () w := by
  have key : ∀ n, (Instr.checkKey b (n + 1) t x).run P w = .ok () w := by
    intro n
    simp only [Instr.checkKey, Sem.run_bind, run_underlying hu, Result.andThen_ok]
    rcases hd with ⟨i, rfl⟩ | rfl | rfl <;> rfl
  exact key 9999

theorem eqV_same {t : Nat} {d : TypeDesc} (hu : P.underlying t = some d) {a b : AV} {r : Bool} (h : eqV (tyk P t) a b = some r) : ∃ x y, a = .v x ∧ b = .v y ∧ Instr.sameNow d x y = some r ∧ (r = true → Instr.sameBits 10000 y x = true) := by
  unfold eqV at h
  split at h
  · rename_i kk _ _ _ k1 a k2 b hT
    obtain ⟨i, d', z, h1, h2, h3, h4⟩ := tyk_spec hT
    have hd : d' = .int kk := kOf_int (by have := congrArg TK.k h4; exact this.symm)
    subst hd
    rw [hu] at h2; cases h2
    split at h
    · rename_i hk
      subst hk
      obtain rfl := Option.some.inj h
      refine ⟨_, _, rfl, rfl, by simp [Instr.sameNow], fun hr => ?_⟩
      have : a = b := by simpa using hr
      subst this
      simp [Instr.sameBits]
    · cases h
  · rename_i a b hT
    obtain ⟨i, d', z, h1, h2, h3, h4⟩ := tyk_spec hT
    have hd : d' = .string := kOf_str (by have := congrArg TK.k h4; exact this.symm)
    subst hd
    rw [hu] at h2; cases h2
    obtain rfl := Option.some.inj h
    refine ⟨_, _, rfl, rfl, by simp [Instr.sameNow], fun hr => ?_⟩
    have : a = b := beq_ba.1 hr
    subst this
    simp only [Instr.sameBits]; exact hr
  · rename_i a b hT
    obtain ⟨i, d', z, h1, h2, h3, h4⟩ := tyk_spec hT
    have hd : d' = .bool := kOf_bool (by have := congrArg TK.k h4; exact this.symm)
    subst hd
    rw [hu] at h2; cases h2
    obtain rfl := Option.some.inj h
    refine ⟨_, _, rfl, rfl, by simp [Instr.sameNow], fun hr => ?_⟩
    have : a = b := by simpa using hr
    subst this
    simp [Instr.sameBits]
  · cases h

/-- The search in memory and the search among the abstract entries. -/
theorem find_ok {t : Nat} {d : TypeDesc} (hu : P.underlying t = some d) {x : Value} : ∀ (es : List MapEntry) (l : List (AV × AV)) (s : Nat) (r : Option AV), es.length = l.length →
    (∀ (j : Nat) (e : MapEntry) (q : AV × AV), es[j]? = some e → l[j]? = some q → RepZ w M e.key q.1 ∧ RepZ w M e.val q.2) → findA (tyk P t) (.v x) l = some r →
    (∃ i e q, r = some q.2 ∧ es[i]? = some e ∧ l[i]? = some q ∧ Instr.findNow d x es s = some (some (s + i, e.val)) ∧ RepZ w M e.val q.2 ∧ Instr.sameBits 10000 e.key x = true ∧
      ∀ y, updA (tyk P t) (.v x) y l = some (l.set i (.v x, y))) ∨
    (r = none ∧ Instr.findNow d x es s = some none ∧ ∀ y, updA (tyk P t) (.v x) y l = some (l ++ [(.v x, y)]))
  | [], l, s, r, hl, _, hf => by
    have : l = [] := List.eq_nil_of_length_eq_zero (by simpa using hl.symm)
    subst this
    simp only [findA, Option.some.injEq] at hf
    subst hf
    exact .inr ⟨rfl, rfl, fun y => rfl⟩
  | e :: es, [], s, r, hl, _, hf => by simp at hl
  | e :: es, (a, v) :: l, s, r, hl, he, hf => by
    simp only [findA] at hf
    obtain ⟨hk, hv⟩ := he 0 e (a, v) rfl rfl
    split at hf
    · rename_i heq
      obtain rfl := Option.some.inj hf
      obtain ⟨x', y, h1, h2, h3, h4⟩ := eqV_same hu heq
      cases h1
      subst h2
      have hky : e.key = y := by simp only [] at hk; exact hk.rep (loc := fun _ => undef) |>.v_inv
      refine .inl ⟨0, e, (.v y, v), rfl, rfl, rfl, ?_, hv, by rw [hky]; exact h4 rfl, fun z => ?_⟩
      · simp only [Instr.findNow, hky, h3, Nat.add_zero]
      · simp only [updA, heq, List.set_cons_zero]
    · rename_i heq
      obtain ⟨x', y, h1, h2, h3, h4⟩ := eqV_same hu heq
      cases h1
      subst h2
      have hky : e.key = y := by simp only [] at hk; exact hk.rep (loc := fun _ => undef) |>.v_inv
      have ih := find_ok hu es l (s + 1) r (by simpa using hl) (fun j e' q h1 h2 => he (j + 1) e' q (by simpa using h1) (by simpa using h2)) hf
      rcases ih with ⟨i, e', q, h5, h6, h7, h8, h9, h10, h11⟩ | ⟨h5, h6, h7⟩
      · refine .inl ⟨i + 1, e', q, h5, by simpa using h6, by simpa using h7, ?_, h9, h10, fun z => ?_⟩
        · simp only [Instr.findNow, hky, h3, h8]
          congr 3; omega
        · simp only [updA, heq, h11 z, Option.map_some, List.set_cons_succ]
      · refine .inr ⟨h5, ?_, fun z => ?_⟩
        · simp only [Instr.findNow, hky, h3, h6]
        · simp only [updA, heq, h7 z, Option.map_some, List.cons_append]
    · cases hf

theorem mapPur_ok {X : Ctx} {st : St} {o : Oper} {a : Act} {ρ : Operand → AV} (h : RR X M loc st a w) (hρ : ∀ x ∈ o.op.operands, Rep w M loc (a.eval x) (ρ x)) {p : Prop} {r : AV}
    (he : mapPur P st.heap ρ o.op = some (p, r)) (hp : p) : ∃ v, (execOp a.eval o).run P w = .ok (.value v) w ∧ RepZ w M v r := by
  obtain ⟨dst, op, ty, pos, after, guard⟩ := o
  simp only [] at he hρ
  cases op <;> simp only [mapPur, reduceCtorEq] at he
  case lookup t m k ok =>
    have hm := hρ m (by simp [Op.operands])
    have hk := hρ k (by simp [Op.operands])
    split at he
    · rename_i K V _ _ _ id hT e1
      rw [e1] at hm
      obtain ⟨i1, d, z1, g1, g2, g3, g4⟩ := tyk_spec hT
      have := kOf_map (d := d) (by have := congrArg TK.k g4; exact this.symm)
      subst this
      split at he
      · rename_i mo ho
        cases hl : lookA P K V (ρ k) mo.es ok with
        | none => simp [hl] at he
        | some r' =>
          simp only [hl, Option.map_some, Option.some.injEq, Prod.mk.injEq] at he
          obtain ⟨rfl, rfl⟩ := he
          obtain ⟨⟨hK, hV⟩, hkey⟩ := hp
          obtain ⟨g, es, clock, h1, h2, h3, h4, h5⟩ := (h.mobj id mo ho).own
          obtain ⟨x, dk, hkx, hu, hd, _⟩ := key_form hkey
          rw [hkx] at hk hl
          have hmv : a.eval m = .map (some g) := by
            have : a.eval m = loc id := hm
            rw [this, h1]
          unfold lookA at hl
          split at hl
          · rename_i T rr hVt hf
            obtain ⟨iV, dV, zV, f1, f2, f3, rfl⟩ := tyk_spec hVt
            simp only [Option.some.injEq] at hl
            have hg : (getObj g).run P w = .ok (.map es clock) w := by simp only [getObj, Sem.run, h4]
            have hz : (zeroValue V).run P w = .ok zV w := by simp [zeroValue, typeInfo, f1, f3]
            have hfin : ∃ fr v, (Instr.findKey K (a.eval k) es.toList).run P w = .ok fr w ∧ ((∃ i, fr = some (i, v) ∧ rr.isSome = true) ∨ (fr = none ∧ v = zV ∧ rr.isSome = false)) ∧ RepZ w M v (foundA ⟨kOf dV, iV.size, iV.bytes, zeroOf zV⟩ rr) := by
              rw [hk.v_inv]
              rcases find_ok (w := w) (M := M) hu es.toList mo.es 0 rr (by simpa using h5.1) (fun j e q h1 h2 => h5.2 j e q (by simpa using h1) h2) hf with ⟨i, e, q, rfl, e2, e3, e4, e5, _⟩ | ⟨rfl, e4, _⟩
              · refine ⟨some (0 + i, e.val), e.val, ?_, .inl ⟨_, rfl, rfl⟩, e5⟩
                simp only [Instr.findKey, Sem.run_bind, run_underlying hu, Result.andThen_ok, e4, Sem.run_pure]
              · refine ⟨none, zV, ?_, .inr ⟨rfl, rfl, rfl⟩, rep_zeroOf zV⟩
                simp only [Instr.findKey, Sem.run_bind, run_underlying hu, Result.andThen_ok, e4, Sem.run_pure]
            obtain ⟨fr, v, e2, e4, e3⟩ := hfin
            refine ⟨if ok then .tuple #[v, .bool rr.isSome] else v, ?_, ?_⟩
            · rcases e4 with ⟨i, rfl, e5⟩ | ⟨rfl, rfl, e5⟩
              · simp only [execOp, Instr.lookup, hmv, Sem.run_bind, run_underlying g2, Result.andThen_ok, hg, Sem.run_pure, checkKey_ok hu hd, e2, e5]
              · simp only [execOp, Instr.lookup, hmv, Sem.run_bind, run_underlying g2, Result.andThen_ok, hg, Sem.run_pure, checkKey_ok hu hd, e2, hz, e5]
            · rw [← hl]
              cases ok
              · exact e3
              · simp only [if_true]
                refine .tup _ _ rfl fun j c e h1 h2 => ?_
                match j with
                | 0 => simp at h1 h2; subst h1; subst h2; exact e3
                | 1 => simp at h1 h2; subst h1; subst h2; exact .v _
                | j + 2 => simp at h2
          · cases hl
      · cases he
    · cases he

theorem idLt_mono {n m : Nat} {e : AV} (h : e.idLt n) (hnm : n ≤ m) : e.idLt m := by
  induction e using AV.zone.induct with
  | case1 id => exact Nat.lt_of_lt_of_le h hnm
  | case2 a b c d => exact Nat.lt_of_lt_of_le h hnm
  | case3 g y ih => exact ih h
  | case4 e h1 h2 h3 =>
    cases e with
    | ow id => exact (h1 _ rfl).elim
    | el a b c d => exact (h2 _ _ _ _ rfl).elim
    | mb g y => exact (h3 _ _ rfl).elim
    | _ => trivial

/-- A map turns, or comes; all else stays. -/
theorem RR.changeMap {X : Ctx} {st : St} {a : Act} (h : RR X M loc st a w) (g : Nat) (hg : ∀ k, k < w.heap.size → k ≠ g → w'.heap[k]? = w.heap[k]?) (hs : w.heap.size ≤ w'.heap.size) (hos : w'.os = w.os) (htp : w'.tape = w.tape) (hout : w'.output = w.output)
    (hgM : ¬ M g) (hgb : X.w0.heap.size ≤ g) (hgc : g < w.heap.size → ∃ es c, w.heap[g]? = some (.map es c))
    (c : Nat) (m' : MOb) (H' : List Cell) (es' : Array MapEntry) (clock' : Nat) (hnew : w'.heap[g]? = some (.map es' clock')) (hent : EntOK w M es' m'.es)
    (hold : ∀ id x, id ≠ c → H'[id]? = some x → st.heap[id]? = some x) (hne : ∀ id m, id ≠ c → st.heap[id]? = some (.map m) → loc id ≠ .map (some g))
    (hc : H'[c]? = some (.map m')) (hlen : st.heap.length ≤ H'.length) (hloc : c < st.heap.length → loc c = .map (some g)) :
    RR X M (fun id => if id = c then .map (some g) else loc id) { st with heap := H' } a w' := by
  have hM : ∀ b, M b → w'.heap[b]? = w.heap[b]? := fun b hb => hg b (h.zone b hb).1 (fun e => hgM (e ▸ hb))
  have hgr : w.grownBy w' (some g) := ⟨hos, htp, hout, hs, fun k hk hn => hg k hk (fun e => hn (by rw [e]))⟩
  refine ⟨fun s => ?_, h.size, h.defers, fun id o ho => ?_, fun i j oi oj hij hi hj => ?_, fun id m hm => ?_, fun i j mi mj hij hi hj => ?_, ?_, fun b hb => ⟨Nat.lt_of_lt_of_le (h.zone b hb).1 hs, (h.zone b hb).2⟩, h.zin, h.zlt, fun s => ?_⟩
  · refine Rep.mono (n := st.heap.length) hM (fun _ hb => hb) (fun id hid => ?_) (h.env s) (h.ids s)
    split
    · rename_i e; subst e; exact (hloc hid).symm
    · rfl
  · have hid : id ≠ c := by rintro rfl; rw [hc] at ho; cases ho
    rw [if_neg hid]
    have ho' := hold id _ hid ho
    have hob := h.obj id o ho'
    refine hob.kept hgr ?_ (fun k e => by cases e; exact hgM) (fun b hb => (h.zone b hb).1)
    cases hb : (loc id).ownBlock with
    | none => exact .inl rfl
    | some b =>
      right
      intro e
      cases e
      obtain ⟨xs, hown, _⟩ := hob.own
      obtain ⟨cs, t, fr, hcells⟩ := ownsRow_cells hown _ hb
      obtain ⟨es, cc, hm⟩ := hgc (hown.lt _ hb).2
      rw [hm] at hcells; cases hcells
  · have h1 : i ≠ c := by rintro rfl; rw [hc] at hi; cases hi
    have h2 : j ≠ c := by rintro rfl; rw [hc] at hj; cases hj
    rw [if_neg h1, if_neg h2]
    exact h.sep i j oi oj hij (hold i _ h1 hi) (hold j _ h2 hj)
  · by_cases hid : id = c
    · subst hid
      rw [if_pos rfl]
      have : m = m' := by rw [hc] at hm; cases hm; rfl
      subst this
      exact ⟨g, es', clock', rfl, hgb, hgM, hnew, hent.mono hM (fun _ hb => hb)⟩
    · rw [if_neg hid]
      have hm' := hold id _ hid hm
      obtain ⟨g2, es, cl, h1, h2, h3, h4, h5⟩ := (h.mobj id m hm').own
      refine ⟨g2, es, cl, h1, h2, h3, ?_, h5.mono hM (fun _ hb => hb)⟩
      rw [hg g2 (Array.getElem?_eq_some_iff.1 h4).1 (fun e => hne id m hid hm' (by rw [h1, e]))]
      exact h4
  · by_cases hic : i = c
    · subst hic
      have hjc : j ≠ i := fun e => hij e.symm
      rw [if_pos rfl, if_neg hjc]
      exact (hne j mj hjc (hold j _ hjc hj)).symm
    · rw [if_neg hic]
      by_cases hjc : j = c
      · subst hjc
        rw [if_pos rfl]
        exact hne i mi hic (hold i _ hic hi)
      · rw [if_neg hjc]
        exact h.msep i j mi mj hij (hold i _ hic hi) (hold j _ hjc hj)
  · exact h.below.grown hgr h.below.size (fun k e => by cases e; exact hgb)
  · exact (idLt_mono (h.ids s) hlen)

theorem find_of_upd {T : Option TK} {k x : AV} : ∀ (l es2 : List (AV × AV)), updA T k x l = some es2 → ∃ rr, findA T k l = some rr
  | [], es2, _ => ⟨_, rfl⟩
  | (a, v) :: l, es2, h => by
    simp only [updA] at h
    simp only [findA]
    cases hq : eqV T k a with
    | none => rw [hq] at h; cases h
    | some b =>
      rw [hq] at h
      cases b
      · simp only [] at h ⊢
        cases hr : updA T k x l with
        | none => rw [hr] at h; cases h
        | some es3 => exact find_of_upd l es3 hr
      · exact ⟨_, rfl⟩

theorem mapEff_ok {X : Ctx} {st : St} {o : Oper} {a : Act} (h : RR X M loc st a w) {p : Prop} {r : AV} {H' : List Cell}
    (he : mapEff P st.heap (ev st.env) o.op = some (p, r, H')) (hp : p) : EffOK P X st a w M (execOp a.eval o) r H' := by
  obtain ⟨dst, op, ty, pos, after, guard⟩ := o
  simp only [] at he
  cases op <;> simp only [mapEff, reduceCtorEq] at he
  case makeMap t rs =>
    cases rs with
    | some x => simp only [mapEff, reduceCtorEq] at he
    | none =>
    simp only [mapEff] at he
    split at he
    · rename_i K V _ _ _ hT
      simp only [Option.some.injEq, Prod.mk.injEq] at he
      obtain ⟨rfl, rfl, rfl⟩ := he
      have hrr := h.changeMap (w' := w.alloc (.map #[] 0)) w.heap.size (fun k hk _ => Below.heap_alloc w _ k hk) (by simp) rfl rfl rfl (fun hm => by have := (h.zone _ hm).1; omega) h.below.size (fun e => by omega)
        st.heap.length ⟨K, V, []⟩ (st.heap ++ [.map ⟨K, V, []⟩]) #[] 0 (heap_alloc_new w _) ⟨rfl, by simp⟩ (fun id x hid hx => by
          by_cases hlt : id < st.heap.length
          · rwa [List.getElem?_append_left hlt] at hx
          · have := (List.getElem?_eq_some_iff.1 hx).1
            simp at this; omega) (fun id m _ hm e => by
          obtain ⟨g2, es, cl, h1, h2, h3, h4, h5⟩ := (h.mobj id m hm).own
          rw [h1] at e
          simp at e
          have := (Array.getElem?_eq_some_iff.1 h4).1
          omega) (by simp) (by simp) (fun e => by omega)
      refine EffOK.lift (v := .map (some w.heap.size)) ?_ hrr ?_ (by simp [AV.idLt])
      · simp [Instr.makeMap]
      · show _ = _
        simp
    · cases he
  case mapUpdate t m k x =>
    have hm := h.ev m
    have hk := h.ev k
    have hx := h.ev x
    split at he
    · rename_i K V _ _ _ id hT e1
      rw [e1] at hm
      obtain ⟨i1, d, z1, g1, g2, g3, g4⟩ := tyk_spec hT
      have := kOf_map (d := d) (by have := congrArg TK.k g4; exact this.symm)
      subst this
      split at he
      · rename_i mo ho
        cases hu' : updA (tyk P K) (ev st.env k) (ev st.env x) mo.es with
        | none => simp [hu'] at he
        | some es2 =>
          simp only [hu', Option.map_some, Option.some.injEq, Prod.mk.injEq] at he
          obtain ⟨rfl, rfl, rfl⟩ := he
          obtain ⟨⟨⟨hK, hV⟩, hkey⟩, hxz⟩ := hp
          obtain ⟨g, es, clock, h1, h2, h3, h4, h5⟩ := (h.mobj id mo ho).own
          obtain ⟨kx, dk, hkx, hu, hd, _⟩ := key_form hkey
          rw [hkx] at hk hu'
          have hxr := hx.repZ hxz
          have hmv : a.eval m = .map (some g) := by
            have : a.eval m = loc id := hm
            rw [this, h1]
          have hg : (getObj g).run P w = .ok (.map es clock) w := by simp only [getObj, Sem.run, h4]
          have hgl : g < w.heap.size := (Array.getElem?_eq_some_iff.1 h4).1
          have hset : ∀ e2 c2, (setObj g (.map e2 c2)).run P w = .ok () { w with heap := w.heap.setIfInBounds g (.map e2 c2) } := fun e2 c2 => by simp only [setObj, Sem.run, h4]
          have hfr := find_of_upd mo.es es2 hu'
          obtain ⟨rr, hf⟩ := hfr
          have fin : ∀ (e2 : Array MapEntry) (c2 : Nat), EntOK w M e2 es2 → (Instr.mapUpdate t (.map (some g)) (a.eval k) (a.eval x)).run P w = .ok () { w with heap := w.heap.setIfInBounds g (.map e2 c2) } →
              EffOK P X st a w M (execOp a.eval ⟨dst, .mapUpdate t m k x, ty, pos, after, guard⟩) .bad (st.heap.set id (.map ⟨K, V, es2⟩)) := by
            intro e2 c2 hent hrun
            have hrr := h.changeMap (w' := { w with heap := w.heap.setIfInBounds g (.map e2 c2) }) g (fun k hk hne => by
                show (w.heap.setIfInBounds g _)[k]? = _
                rw [Array.getElem?_setIfInBounds_ne (fun e => hne e.symm)]) (by simp) rfl rfl rfl h3 h2 (fun _ => ⟨es, clock, h4⟩)
              id ⟨K, V, es2⟩ (st.heap.set id (.map ⟨K, V, es2⟩)) e2 c2 (by show (w.heap.setIfInBounds g _)[g]? = _; rw [Array.getElem?_setIfInBounds_self_of_lt hgl]) hent (fun id2 x2 hne hx2 => by rwa [List.getElem?_set_ne (fun e => hne e.symm)] at hx2)
              (fun id2 m2 hne hm2 e => h.msep id2 id m2 mo hne hm2 ho (by rw [e, h1])) (by rw [List.getElem?_set_self (List.getElem?_eq_some_iff.1 ho).1]) (by simp) (fun _ => h1)
            refine ⟨.skip, _, _, undef, ?_, .inr ⟨rfl, rfl⟩, hrr, (RepZ.bad _).rep, trivial⟩
            simp only [execOp, hmv, Sem.run_bind, hrun, Result.andThen_ok, Sem.run_pure]
          rcases find_ok (w := w) (M := M) hu es.toList mo.es 0 rr (by simpa using h5.1) (fun j e q h1 h2 => h5.2 j e q (by simpa using h1) h2) hf with ⟨i, e, q, rfl, e2, e3, e4, e5, e6, e7⟩ | ⟨rfl, e4, e7⟩
          · rw [e7] at hu'
            cases hu'
            refine fin (es.modify i fun e => { e with key := a.eval k, val := a.eval x }) clock ⟨by simpa using h5.1, fun j ej qj hj hq => ?_⟩ ?_
            · by_cases hji : j = i
              · subst hji
                have hjl : j < mo.es.length := (List.getElem?_eq_some_iff.1 e3).1
                rw [List.getElem?_set_self hjl] at hq
                cases hq
                have : es[j]? = some e := by simpa using e2
                simp [Array.getElem?_modify, this] at hj
                subst hj
                exact ⟨hk.repZ rfl, hxr⟩
              · rw [List.getElem?_set_ne (fun e => hji e.symm)] at hq
                rw [Array.getElem?_modify, if_neg (fun e => hji e.symm)] at hj
                exact h5.2 j ej qj hj hq
            · have hkey2 : (((es[0 + i]?).map (·.key)).getD (a.eval k)) = e.key := by
                rw [Nat.zero_add]
                have : es[i]? = some e := by simpa using e2
                simp [this]
              simp only [Instr.mapUpdate, Sem.run_bind, run_underlying g2, Result.andThen_ok, hg, checkKey_ok hu hd, Instr.findKey, run_underlying hu, hk.v_inv, e4, Sem.run_pure]
              rw [hk.v_inv] at hkey2
              rw [hkey2]
              simp only [Instr.keyThatStays, e6, if_true, Sem.run_pure, Result.andThen_ok, hset, Nat.zero_add]
          · rw [e7] at hu'
            cases hu'
            refine fin (es.push { key := a.eval k, val := a.eval x, born := clock }) (clock + 1) ⟨by simp [h5.1], fun j ej qj hj hq => ?_⟩ ?_
            · by_cases hjl : j < mo.es.length
              · rw [List.getElem?_append_left hjl] at hq
                rw [Array.getElem?_push, if_neg (by rw [h5.1]; omega)] at hj
                exact h5.2 j ej qj hj hq
              · have hjj : j = mo.es.length := by
                  have := (List.getElem?_eq_some_iff.1 hq).1
                  simp at this; omega
                subst hjj
                simp at hq
                subst hq
                rw [Array.getElem?_push, if_pos h5.1.symm] at hj
                cases hj
                exact ⟨hk.repZ rfl, hxr⟩
            · simp only [Instr.mapUpdate, Sem.run_bind, run_underlying g2, Result.andThen_ok, hg, checkKey_ok hu hd, Instr.findKey, run_underlying hu, hk.v_inv, e4, Sem.run_pure, hset]
      · cases he
    · cases he


/-- All that leave memory alone, maps among them. -/
def purA (P : Program) (H : List Cell) (ρ : Operand → AV) (op : Op) : Option (Prop × AV) :=
  match op with
  | .lookup t m k ok => mapPur P H ρ (.lookup t m k ok)
  | op => pur P H ρ op

def effA (P : Program) (H : List Cell) (ρ : Operand → AV) (op : Op) : Option (Prop × AV × List Cell) :=
  match op with
  | .makeMap t r => mapEff P H ρ (.makeMap t r)
  | .mapUpdate t m k x => mapEff P H ρ (.mapUpdate t m k x)
  | op => eff P H ρ op

theorem purA_ok {X : Ctx} {st : St} {o : Oper} {a : Act} {ρ : Operand → AV} (h : RR X M loc st a w) (hρ : ∀ x ∈ o.op.operands, Rep w M loc (a.eval x) (ρ x)) {p : Prop} {r : AV}
    (he : purA P st.heap ρ o.op = some (p, r)) (hp : p) : ∃ v, (execOp a.eval o).run P w = .ok (.value v) w ∧ Rep w M loc v r := by
  unfold purA at he
  split at he
  · rename_i t m k ok ho
    rw [← ho] at he
    obtain ⟨v, h1, h2⟩ := mapPur_ok h hρ he hp
    exact ⟨v, h1, h2.rep⟩
  · exact pur_ok (X := X) (fun id o ho => h.obj id o ho) hρ he hp

theorem effA_ok {X : Ctx} {st : St} {o : Oper} {a : Act} (h : RR X M loc st a w) {p : Prop} {r : AV} {H' : List Cell}
    (he : effA P st.heap (ev st.env) o.op = some (p, r, H')) (hp : p) : EffOK P X st a w M (execOp a.eval o) r H' := by
  unfold effA at he
  split at he
  · rename_i t rs ho
    rw [← ho] at he
    exact mapEff_ok h he hp
  · rename_i t m k x ho
    rw [← ho] at he
    exact mapEff_ok h he hp
  · exact eff_ok h he hp

end
end Go.Ab
