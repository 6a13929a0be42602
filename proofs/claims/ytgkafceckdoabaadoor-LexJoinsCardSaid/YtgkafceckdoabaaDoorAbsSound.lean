/-
  The operations that leave memory alone: what the abstract value says holds.
-/
import Derived.Test.YtgkafceckdoabaaDoorAbsPure
set_option linter.all false
namespace Go.Ab
open Go.RowKit

section
variable {P : Program} {w : World} {M : Nat → Prop} {loc : Nat → Value}

theorem eqV_ok {t : Nat} {x y : AV} {r : Bool} (h : eqV (tyk P t) x y = some r) {a b : Value} (ha : RepZ w M a x) (hb : RepZ w M b y) (d : Nat) :
    (∀ (zs : Array Value) (i : Nat) (z : Value), zs[i]? = some z → (part t zs i).run P w = .ok z w) ∧ (Op.equalIn (d + 1) t a b).run P w = .ok r w := by
  unfold eqV at h
  have ha' := ha.rep (loc := fun _ => undef)
  have hb' := hb.rep (loc := fun _ => undef)
  split at h
  · rename_i k _ _ _ k1 p k2 q hT
    split at h
    · rename_i hk
      subst hk
      obtain rfl := Option.some.inj h
      obtain ⟨i, d', z, h1, h2, h3, h4⟩ := tyk_spec hT
      have hd : d' = .int k := kOf_int (by have := congrArg TK.k h4; exact this.symm)
      subst hd
      rw [ha'.v_inv, hb'.v_inv]
      exact ⟨fun zs i z hz => by simp [part, isAgg, run_underlying h2, hz], run_equalIn_int w d t k1 k p q h2⟩
    · cases h
  · rename_i _ _ _ p q hT
    obtain rfl := Option.some.inj h
    obtain ⟨i, d', z, h1, h2, h3, h4⟩ := tyk_spec hT
    have hd : d' = .string := kOf_str (by have := congrArg TK.k h4; exact this.symm)
    subst hd
    rw [ha'.v_inv, hb'.v_inv, beq_toListBytes]
    exact ⟨fun zs i z hz => by simp [part, isAgg, run_underlying h2, hz], run_equalIn_string w d t p q h2⟩
  · rename_i _ _ _ p q hT
    obtain rfl := Option.some.inj h
    obtain ⟨i, d', z, h1, h2, h3, h4⟩ := tyk_spec hT
    have hd : d' = .bool := kOf_bool (by have := congrArg TK.k h4; exact this.symm)
    subst hd
    rw [ha'.v_inv, hb'.v_inv]
    exact ⟨fun zs i z hz => by simp [part, isAgg, run_underlying h2, hz], run_equalIn_bool' w d t p q h2⟩
  · cases h

theorem eqFs_ok (d : Nat) (xs ys : Array Value) : ∀ (fs : List Field) (i : Nat) (as bs : List AV) (r : Bool),
    (fs.all fun f => f.name != "_") = true → eqFs P i (fs.map fun f => (f.offset, f.type)) as bs = some r →
    (∀ (j : Nat) (c : Value) (e : AV), xs[i + j]? = some c → as[j]? = some e → RepZ w M c e) → (∀ (j : Nat) (c : Value) (e : AV), ys[i + j]? = some c → bs[j]? = some e → RepZ w M c e) →
    xs.size = i + as.length → ys.size = i + bs.length →
    (Op.eqFields (d + 1) xs ys fs).run P w = .ok r w := by
  intro fs
  induction fs with
  | nil =>
    intro i as bs r _ he _ _ _ _
    cases as <;> cases bs <;> simp [eqFs] at he
    subst he; simp [Op.eqFields]
  | cons f fs ih =>
    intro i as bs r hf he hx hy hsx hsy
    cases as with
    | nil => cases bs <;> simp [eqFs] at he
    | cons a as =>
      cases bs with
      | nil => simp [eqFs] at he
      | cons b bs =>
        simp only [List.all_cons, Bool.and_eq_true] at hf
        obtain ⟨hname, hrest⟩ := hf
        simp only [List.map_cons, eqFs] at he
        split at he
        · rename_i hoff
          split at he
          · rename_i r1 r2 h1 h2
            obtain rfl := Option.some.inj he
            obtain ⟨xv, hxi⟩ : ∃ xv, xs[i]? = some xv := ⟨xs[i]'(by simp at hsx; omega), Array.getElem?_eq_getElem _⟩
            obtain ⟨yv, hyi⟩ : ∃ yv, ys[i]? = some yv := ⟨ys[i]'(by simp at hsy; omega), Array.getElem?_eq_getElem _⟩
            have hrx := hx 0 _ a hxi rfl
            have hry := hy 0 _ b hyi rfl
            have ih' := ih (i + 1) as bs r2 hrest h2 (fun j c e h1 h2 => hx (j + 1) c e (by rw [← h1]; congr 1; omega) (by simpa using h2))
              (fun j c e h1 h2 => hy (j + 1) c e (by rw [← h1]; congr 1; omega) (by simpa using h2)) (by simp at hsx; omega) (by simp at hsy; omega)
            obtain ⟨hpart, heq⟩ := eqV_ok (d := d) h1 hrx hry
            have hne : f.name ≠ "_" := by simpa using hname
            have e1 := hpart xs f.offset _ (by rw [hoff]; exact hxi)
            have e2 := hpart ys f.offset _ (by rw [hoff]; exact hyi)
            simp only [Op.eqFields, hne, ne_eq, not_false_eq_true, if_true, Sem.run_bind, e1, e2, Result.andThen_ok, heq]
            cases r1
            · simp
            · simp [ih']
          · cases he
        · cases he

theorem run_equal_ptr {t e : Nat} {a : Addr} (h : P.underlying t = some (.pointer e)) : (Op.equal t (.pointer (some a)) (.pointer none)).run P w = .ok false w := by
  have key : ∀ n, (Op.equalIn (n + 1) t (.pointer (some a)) (.pointer none)).run P w = .ok false w := by
    intro n
    simp only [Op.equalIn, Sem.run_bind, run_underlying h, Result.andThen_ok, Sem.run_pure]
  exact key 9999
theorem run_equal_nil {t e : Nat} (h : P.underlying t = some (.pointer e)) : (Op.equal t (.pointer none) (.pointer none)).run P w = .ok true w := by
  have key : ∀ n, (Op.equalIn (n + 1) t (.pointer none) (.pointer none)).run P w = .ok true w := by
    intro n
    simp only [Op.equalIn, Sem.run_bind, run_underlying h, Result.andThen_ok, Sem.run_pure, Option.isNone_none]
  exact key 9999
theorem run_equal_slnil {t e : Nat} {A : Option Addr} {n c : Nat} (h : P.underlying t = some (.slice e)) : (Op.equal t (.slice A n c) (.slice none 0 0)).run P w = .ok A.isNone w := by
  have key : ∀ m, (Op.equalIn (m + 1) t (.slice A n c) (.slice none 0 0)).run P w = .ok A.isNone w := by
    intro m
    cases A <;> simp only [Op.equalIn, Sem.run_bind, run_underlying h, Result.andThen_ok, Sem.run_pure, Option.isNone_none, Option.isNone_some]
  exact key 9999

theorem bin_ok {op : BinOp} {t : Nat} {x y : AV} {p : Prop} {r : AV} (h : bin P op t x y = some (p, r)) (hp : p) {a b : Value} (ha : Rep w M loc a x) (hb : Rep w M loc b y) (ox oy : Operand) :
    PurOK P w M loc (do eqGuard op t ox oy a b; binOp op t a b) r := by
  have key : (eqGuard op t ox oy a b).run P w = .ok () w → PurOK P w M loc (binOp op t a b) r → PurOK P w M loc (do eqGuard op t ox oy a b; binOp op t a b) r := by
    rintro h1 ⟨v, h2, h3⟩
    exact ⟨v, by simp only [Sem.run_bind, h1, Result.andThen_ok, h2], h3⟩
  unfold bin at h
  split at h
  · rename_i k p1 k' q1
    obtain rfl := ha.v_inv
    obtain rfl := hb.v_inv
    refine key (by unfold eqGuard; split <;> rfl) ?_
    split at h
    · simp only [Option.some.injEq, Prod.mk.injEq] at h
      obtain ⟨rfl, rfl⟩ := h
      refine ⟨_, ?_, (RepZ.v _).rep⟩
      simp only [binOp, Op.shift, if_neg (show ¬ q1 < 0 by omega), Sem.run_pure]
    · simp only [Option.some.injEq, Prod.mk.injEq] at h
      obtain ⟨rfl, rfl⟩ := h
      refine ⟨_, ?_, (RepZ.v _).rep⟩
      simp only [binOp, Op.shift, if_neg (show ¬ q1 < 0 by omega), Sem.run_pure]
    · cases hbi : binI op k p1 q1 with
      | none => simp [hbi] at h
      | some pr =>
        obtain ⟨p', r'⟩ := pr
        simp only [hbi, Option.map_some, Option.some.injEq, Prod.mk.injEq] at h
        obtain ⟨rfl, rfl⟩ := h
        exact binI_ok hbi hp.1 hp.2
  · obtain rfl := ha.v_inv
    obtain rfl := hb.v_inv
    refine key (by unfold eqGuard; split <;> rfl) ?_
    exact binS_ok h hp
  · rename_i p1 q1
    obtain rfl := ha.v_inv
    obtain rfl := hb.v_inv
    refine key (by unfold eqGuard; split <;> rfl) ?_
    split at h
    all_goals first | (cases h; done) | skip
    all_goals
      rename_i hT
      obtain ⟨i, d', z, h1, h2, h3, h4⟩ := tyk_spec hT
      have hd : d' = .bool := kOf_bool (by have := congrArg TK.k h4; exact this.symm)
      subst hd
      simp only [Option.some.injEq, Prod.mk.injEq] at h
      obtain ⟨rfl, rfl⟩ := h
      refine ⟨_, ?_, (RepZ.v _).rep⟩
      simp only [binOp, Op.equal, Op.maxDepth, Sem.run_bind, run_equalIn_bool' w 9999 t p1 q1 h2, Result.andThen_ok, Sem.run_pure, bne]
  · obtain ⟨g, n, c, h1, rfl⟩ := ha
    obtain rfl := hb.v_inv
    refine key (by unfold eqGuard; split <;> rfl) ?_
    split at h
    all_goals first | (cases h; done) | skip
    all_goals
      rename_i hT
      obtain ⟨i, d', z, h1, h2, h3, h4⟩ := tyk_spec hT
      obtain ⟨e, hd⟩ := kOf_ptr (d := d') (by have := congrArg TK.k h4; exact this.symm)
      subst hd
      simp only [Option.some.injEq, Prod.mk.injEq] at h
      obtain ⟨rfl, rfl⟩ := h
      refine ⟨_, ?_, (RepZ.v _).rep⟩
      simp only [binOp, Sem.run_bind, run_equal_ptr h2, Result.andThen_ok, Sem.run_pure, Bool.not_false]
  · obtain rfl := ha.v_inv
    obtain rfl := hb.v_inv
    refine key (by unfold eqGuard; split <;> rfl) ?_
    split at h
    all_goals first | (cases h; done) | skip
    all_goals
      rename_i hT
      obtain ⟨i, d', z, h1, h2, h3, h4⟩ := tyk_spec hT
      obtain ⟨e, hd⟩ := kOf_ptr (d := d') (by have := congrArg TK.k h4; exact this.symm)
      subst hd
      simp only [Option.some.injEq, Prod.mk.injEq] at h
      obtain ⟨rfl, rfl⟩ := h
      refine ⟨_, ?_, (RepZ.v _).rep⟩
      simp only [binOp, Sem.run_bind, run_equal_nil h2, Result.andThen_ok, Sem.run_pure, Bool.not_true]
  · rename_i xs ys
    obtain ⟨as, rfl, hla, hra⟩ := ha.agg_inv
    obtain ⟨bs, rfl, hlb, hrb⟩ := hb.agg_inv
    split at h
    · rename_i fs _ _ _ hT
      obtain ⟨i, d', z, h1, h2, h3, h4⟩ := tyk_spec hT
      obtain ⟨fa, rfl, hfs⟩ := kOf_struct (d := d') (by have := congrArg TK.k h4; exact this.symm)
      have hfo : P.fieldsOf t = fa := by unfold Program.fieldsOf; rw [h2]
      split at h
      all_goals first | (cases h; done) | skip
      all_goals
        rename_i r0 he
        simp only [Option.some.injEq, Prod.mk.injEq] at h
        obtain ⟨rfl, rfl⟩ := h
        obtain ⟨hp, hz1, hz2⟩ := hp
        rw [List.all_eq_true] at hz1 hz2
        unfold eqOK at hp
        simp only [h2, Bool.and_eq_true, Bool.not_eq_true'] at hp
        obtain ⟨⟨hn, hst⟩, hgd⟩ := hp
        refine key (run_eqGuard_agg w _ t ox oy as bs hgd) ?_
        have heq := eqFs_ok (P := P) (w := w) (M := M) 9998 as bs fa.toList 0 xs ys r0 (by simpa using hn) (by rw [← hfs]; exact he) (fun j c e h1 h2 => (hra j c e (by simpa using h1) h2).repZ' (hz1 e (List.mem_of_getElem? h2))) (fun j c e h1 h2 => (hrb j c e (by simpa using h1) h2).repZ' (hz2 e (List.mem_of_getElem? h2))) (by omega) (by omega)
        refine ⟨_, ?_, (RepZ.v _).rep⟩
        first
          | rw [run_eql_struct, run_equalIn_struct (P := P) w 9999 t as bs (by rw [hfo]; exact h2) hst, hfo, heq]; rfl
          | rw [run_neq_struct, run_equalIn_struct (P := P) w 9999 t as bs (by rw [hfo]; exact h2) hst, hfo, heq]; rfl
    · cases h
  · cases h

end
end Go.Ab
