/-
  Keys of maps: integers, strings, bools, structs of these.
-/
import Derived.Test.YtgkafceckdoabaaDoorAbsEff4
set_option linter.all false
namespace Go.Ab
open Go.RowKit

/-- Which keys are equal. -/
def keyEq (P : Program) (t : Nat) (x y : AV) : Option Bool :=
  match tyk P t, x, y with
  | some ⟨.struct fs, _, _, _⟩, .agg xs, .agg ys => if eqOK P t = true then eqFs P 0 fs xs ys else none
  | T, x, y => eqV T x y

/-- The first entry with this key. -/
def findA (P : Program) (t : Nat) (k : AV) : List (AV × AV) → Option (Option AV)
  | [] => some none
  | (a, v) :: l => match keyEq P t k a with
    | some true => some (some v)
    | some false => findA P t k l
    | none => none

def updA (P : Program) (t : Nat) (k x : AV) : List (AV × AV) → Option (List (AV × AV))
  | [] => some [(k, x)]
  | (a, v) :: l => match keyEq P t k a with
    | some true => some ((k, x) :: l)
    | some false => (updA P t k x l).map ((a, v) :: ·)
    | none => none

section
variable {P : Program} {w w' : World} {M : Nat → Prop} {loc : Nat → Value}

theorem beq_ba {a b : ByteArray} : (a == b) = true ↔ a = b := by
  obtain ⟨⟨x⟩⟩ := a
  obtain ⟨⟨y⟩⟩ := b
  have : ((⟨⟨x⟩⟩ : ByteArray) == ⟨⟨y⟩⟩) = (x == y) := by
    show ((⟨x⟩ : Array UInt8) == ⟨y⟩) = (x == y)
    simp
  rw [this]
  simp

theorem eqV_bits {t : Nat} {x y : AV} {r : Bool} (h : eqV (tyk P t) x y = some r) {a b : Value} (ha : RepZ w M a x) (hb : RepZ w M b y) (hr : r = true) (n : Nat) : Instr.sameBits n b a = true := by
  have ha' := ha.rep (loc := fun _ => undef)
  have hb' := hb.rep (loc := fun _ => undef)
  subst hr
  unfold eqV at h
  split at h
  · split at h
    · rename_i hk
      subst hk
      have h := Option.some.inj h
      rw [ha'.v_inv, hb'.v_inv]
      simp only [beq_iff_eq] at h
      subst h
      simp [Instr.sameBits]
    · cases h
  · have h := Option.some.inj h
    rw [ha'.v_inv, hb'.v_inv]
    have h2 := beq_ba.1 h
    subst h2
    simp only [Instr.sameBits]; exact h
  · have h := Option.some.inj h
    rw [ha'.v_inv, hb'.v_inv]
    simp only [beq_iff_eq] at h
    subst h
    simp [Instr.sameBits]
  · cases h

theorem eqFs_bits : ∀ (fs : List (Nat × Nat)) (i : Nat) (xs ys : List AV) (as bs : List Value), eqFs P i fs xs ys = some true → as.length = xs.length → bs.length = ys.length → (∀ (j : Nat) (c : Value) (e : AV), as[j]? = some c → xs[j]? = some e → RepZ w M c e) → (∀ (j : Nat) (c : Value) (e : AV), bs[j]? = some c → ys[j]? = some e → RepZ w M c e) →
    ∀ n, (bs.length == as.length) = true ∧ (bs.zip as).all (fun (x, y) => Instr.sameBits n x y) = true
  | [], i, [], [], as, bs, _, h1, h2, _, _, n => by
    have e1 : as = [] := List.eq_nil_of_length_eq_zero h1
    have e2 : bs = [] := List.eq_nil_of_length_eq_zero h2
    subst e1; subst e2; simp
  | [], i, _ :: _, _, _, _, h, _, _, _, _, _ => by simp [eqFs] at h
  | [], i, [], _ :: _, _, _, h, _, _, _, _, _ => by simp [eqFs] at h
  | (o, t) :: fs, i, [], _, _, _, h, _, _, _, _, _ => by simp [eqFs] at h
  | (o, t) :: fs, i, _ :: _, [], _, _, h, _, _, _, _, _ => by simp [eqFs] at h
  | (o, t) :: fs, i, x :: xs, y :: ys, [], _, _, h1, _, _, _, _ => by simp at h1
  | (o, t) :: fs, i, x :: xs, y :: ys, _ :: _, [], _, _, h2, _, _, _ => by simp at h2
  | (o, t) :: fs, i, x :: xs, y :: ys, a :: as, b :: bs, h, h1, h2, hx, hy, n => by
    simp only [eqFs] at h
    split at h
    · split at h
      · rename_i r1 r2 e1 e2
        have h := Option.some.inj h
        simp only [Bool.and_eq_true] at h
        have ih := eqFs_bits fs (i + 1) xs ys as bs (by rw [e2, h.2]) (by simpa using h1) (by simpa using h2) (fun j c e hc he => hx (j + 1) c e (by simpa using hc) (by simpa using he)) (fun j c e hc he => hy (j + 1) c e (by simpa using hc) (by simpa using he)) n
        have hb := eqV_bits e1 (hx 0 a x rfl rfl) (hy 0 b y rfl rfl) h.1 n
        refine ⟨by simpa using ih.1, ?_⟩
        simp only [List.zip_cons_cons, List.all_cons, hb, ih.2, Bool.and_self]
      · cases h
    · cases h

/-- What equal keys are. -/
theorem keyEq_spec {t : Nat} {x y : AV} {r : Bool} (h : keyEq P t x y = some r) {a b : Value} (ha : RepZ w M a x) (hb : RepZ w M b y) : (Op.equal t a b).run P w = .ok r w ∧ (r = true → Instr.sameBits 10000 b a = true) := by
  unfold keyEq at h
  split at h
  · rename_i fs _ _ _ xs ys hT
    split at h
    · rename_i hE
      obtain ⟨as, rfl, hla, hra⟩ : ∃ as : Array Value, a = .agg as ∧ as.size = xs.length ∧ ∀ (j : Nat) (c : Value) (e : AV), as[j]? = some c → xs[j]? = some e → RepZ w M c e := by
        cases ha with
        | agg cs es hl hr => exact ⟨cs, rfl, hl, hr⟩
      obtain ⟨bs, rfl, hlb, hrb⟩ : ∃ bs : Array Value, b = .agg bs ∧ bs.size = ys.length ∧ ∀ (j : Nat) (c : Value) (e : AV), bs[j]? = some c → ys[j]? = some e → RepZ w M c e := by
        cases hb with
        | agg cs es hl hr => exact ⟨cs, rfl, hl, hr⟩
      obtain ⟨i, d', z, h1, h2, h3, h4⟩ := tyk_spec hT
      obtain ⟨fa, rfl, hfs⟩ := kOf_struct (d := d') (by have := congrArg TK.k h4; exact this.symm)
      have hfo : P.fieldsOf t = fa := by unfold Program.fieldsOf; rw [h2]
      unfold eqOK at hE
      simp only [h2, Bool.and_eq_true, Bool.not_eq_true'] at hE
      obtain ⟨⟨hn, hst⟩, hgd⟩ := hE
      have heq := eqFs_ok (P := P) (w := w) (M := M) 9998 as bs fa.toList 0 xs ys r (by simpa using hn) (by rw [← hfs]; exact h) (fun j c e h1 h2 => hra j c e (by simpa using h1) h2) (fun j c e h1 h2 => hrb j c e (by simpa using h1) h2) (by omega) (by omega)
      refine ⟨?_, fun hr => ?_⟩
      · show (Op.equalIn 10000 t _ _).run P w = _
        rw [run_equalIn_struct (P := P) w 9999 t as bs (by rw [hfo]; exact h2) hst, hfo, heq]
      · subst hr
        have := eqFs_bits (P := P) (w := w) (M := M) fs 0 xs ys as.toList bs.toList h (by simpa using hla) (by simpa using hlb) (fun j c e hc he => hra j c e (by simpa using hc) he) (fun j c e hc he => hrb j c e (by simpa using hc) he) 9999
        simp only [Instr.sameBits, Bool.and_eq_true]
        exact ⟨by simpa using this.1, this.2⟩
    · cases h
  · rename_i T x y _
    obtain ⟨_, h2⟩ := eqV_ok (P := P) (w := w) (M := M) (d := 9999) h ha hb
    exact ⟨h2, fun hr => eqV_bits h ha hb hr _⟩

theorem forIn_ok {α : Type} {l : List α} {g : α → PUnit → Sem (ForInStep PUnit)} (h : ∀ f ∈ l, (g f PUnit.unit).run P w = .ok (ForInStep.yield PUnit.unit) w) : (forIn l PUnit.unit g).run P w = .ok PUnit.unit w := by
  induction l with
  | nil => rfl
  | cons f l ih =>
    simp only [List.forIn_cons, Sem.run_bind, h f (by simp), Result.andThen_ok]
    exact ih fun f hf => h f (by simp [hf])

/-- A key that is checked. -/
theorem checkKey_ok {t : Nat} {k : AV} (h : (keyEq P t k k).isSome = true) {x : Value} (hx : RepZ w M x k) (b : Bool) : (Instr.checkKey b 10000 t x).run P w = .ok () w := by
  have scal : ∀ (t : Nat) (k : AV) (x : Value) (n : Nat), (eqV (tyk P t) k k).isSome = true → RepZ w M x k → (Instr.checkKey b (n + 1) t x).run P w = .ok () w := by
    intro t k x n h hx
    obtain ⟨r, hr⟩ := Option.isSome_iff_exists.1 h
    have hx' := hx.rep (loc := fun _ => undef)
    unfold eqV at hr
    split at hr
    · rename_i kk _ _ _ k1 a k2 b hT e1
      obtain ⟨i, d, z, h1, h2, h3, h4⟩ := tyk_spec hT
      have hd : d = .int kk := kOf_int (by have := congrArg TK.k h4; exact this.symm)
      subst hd
      simp only [Instr.checkKey, Sem.run_bind, run_underlying h2, Result.andThen_ok]; rfl
    · rename_i a b hT e1
      obtain ⟨i, d, z, h1, h2, h3, h4⟩ := tyk_spec hT
      have hd : d = .string := kOf_str (by have := congrArg TK.k h4; exact this.symm)
      subst hd
      simp only [Instr.checkKey, Sem.run_bind, run_underlying h2, Result.andThen_ok]; rfl
    · rename_i a b hT e1
      obtain ⟨i, d, z, h1, h2, h3, h4⟩ := tyk_spec hT
      have hd : d = .bool := kOf_bool (by have := congrArg TK.k h4; exact this.symm)
      subst hd
      simp only [Instr.checkKey, Sem.run_bind, run_underlying h2, Result.andThen_ok]; rfl
    · cases hr
  obtain ⟨r, hr⟩ := Option.isSome_iff_exists.1 h
  unfold keyEq at hr
  split at hr
  · rename_i fs _ _ _ xs ys hT e1
    have hxy : xs = ys := by cases e1; rfl
    split at hr
    · rename_i hE
      obtain ⟨as, rfl, hla, hra⟩ : ∃ as : Array Value, x = .agg as ∧ as.size = xs.length ∧ ∀ (j : Nat) (c : Value) (e : AV), as[j]? = some c → xs[j]? = some e → RepZ w M c e := by
        cases hx with
        | agg cs es hl hr => exact ⟨cs, rfl, hl, hr⟩
      obtain ⟨i, d', z, h1, h2, h3, h4⟩ := tyk_spec hT
      obtain ⟨fa, rfl, hfs⟩ := kOf_struct (d := d') (by have := congrArg TK.k h4; exact this.symm)
      subst hfs
      have loop : ∀ (n : Nat) (fl : List Field) (i : Nat) (zs ws : List AV) (r : Bool), eqFs P i (fl.map fun f => (f.offset, f.type)) zs ws = some r → (∀ (j : Nat) (e : AV), zs[j]? = some e → ws[j]? = some e) → (∀ (j : Nat) (c : Value) (e : AV), as[i + j]? = some c → zs[j]? = some e → RepZ w M c e) → as.size = i + zs.length →
          ∀ f ∈ fl, ∃ v, (part f.type as f.offset).run P w = .ok v w ∧ (Instr.checkKey b (n + 1) f.type v).run P w = .ok () w := by
        intro n fl
        induction fl with
        | nil => intro i zs ws r _ _ _ _ f hf; cases hf
        | cons f fl ih =>
          intro i zs ws r he hzw hr hs
          cases zs with
          | nil => cases ws <;> simp [eqFs] at he
          | cons z zs =>
            cases ws with
            | nil => simp [eqFs] at he
            | cons q ws =>
              simp only [List.map_cons, eqFs] at he
              split at he
              · rename_i hoff
                split at he
                · rename_i r1 r2 e1 e2
                  obtain ⟨xv, hxi⟩ : ∃ xv, as[i]? = some xv := ⟨as[i]'(by simp at hs; omega), Array.getElem?_eq_getElem _⟩
                  have hrx := hr 0 _ z hxi rfl
                  have hqz : q = z := by have := hzw 0 z rfl; simpa using this
                  subst hqz
                  obtain ⟨hpart, _⟩ := eqV_ok (P := P) (w := w) (M := M) (d := 0) e1 hrx hrx
                  have ep := hpart as f.offset _ (by rw [hoff]; exact hxi)
                  have ec := scal f.type q xv n (by rw [e1]; rfl) hrx
                  have ih' := ih (i + 1) zs ws r2 e2 (fun j e hj => by have := hzw (j + 1) e (by simpa using hj); simpa using this) (fun j c e h1 h2 => hr (j + 1) c e (by rw [← h1]; congr 1; omega) (by simpa using h2)) (by simp at hs; omega)
                  intro g hg
                  rcases List.mem_cons.1 hg with rfl | hg
                  · exact ⟨xv, ep, ec⟩
                  · exact ih' g hg
                · cases he
              · cases he
      have key : ∀ m n, m = n + 1 → (Instr.checkKey b (m + 1) t (.agg as)).run P w = .ok () w := by
        intro m n hmn
        have hl := loop n fa.toList 0 xs ys r hr (fun j e h => by
          rw [hxy] at h; exact h) (fun j c e h1 h2 => hra j c e (by simpa using h1) h2) (by omega)
        rw [← hmn] at hl
        simp only [Instr.checkKey, Sem.run_bind, run_underlying h2, Result.andThen_ok]
        rw [← Array.forIn_toList]
        rw [forIn_ok (fun f hf => by
          obtain ⟨v, h1, h2⟩ := hl f hf
          by_cases hn : f.name = "_" <;> simp only [hn, ne_eq, not_true_eq_false, not_false_eq_true, if_true, if_false, Sem.run_bind, h1, h2, Result.andThen_ok, Sem.run_pure])]
        simp only [Result.andThen_ok, Sem.run_pure]
      exact key 9999 9998 rfl
    · cases hr
  · rename_i T k' _ _
    exact scal t _ x 9999 (by rw [hr]; rfl) hx

/-- The search in memory and the search among the abstract entries. -/
theorem findAsking_ok {t : Nat} {k : AV} {x : Value} (hx : RepZ w M x k) : ∀ (es : List MapEntry) (l : List (AV × AV)) (s : Nat) (r : Option AV), es.length = l.length →
    (∀ (j : Nat) (e : MapEntry) (q : AV × AV), es[j]? = some e → l[j]? = some q → RepZ w M e.key q.1 ∧ RepZ w M e.val q.2) → findA P t k l = some r →
    (∃ i e q, r = some q.2 ∧ es[i]? = some e ∧ l[i]? = some q ∧ (Instr.findAsking t x es s).run P w = .ok (some (s + i, e.val)) w ∧ RepZ w M e.val q.2 ∧ Instr.sameBits 10000 e.key x = true ∧
      ∀ y, updA P t k y l = some (l.set i (k, y))) ∨
    (r = none ∧ (Instr.findAsking t x es s).run P w = .ok none w ∧ ∀ y, updA P t k y l = some (l ++ [(k, y)]))
  | [], l, s, r, hl, _, hf => by
    have : l = [] := List.eq_nil_of_length_eq_zero (by simpa using hl.symm)
    subst this
    simp only [findA, Option.some.injEq] at hf
    subst hf
    exact .inr ⟨rfl, rfl, fun y => rfl⟩
  | e :: es, [], s, r, hl, _, hf => by simp at hl
  | e :: es, (a, v) :: l, s, r, hl, he, hf => by
    simp only [findA] at hf
    obtain ⟨hk, hv⟩ := he 0 e (a, v) rfl rfl
    split at hf
    · rename_i heq
      obtain rfl := Option.some.inj hf
      obtain ⟨h3, h4⟩ := keyEq_spec (P := P) (w := w) (M := M) heq hx hk
      refine .inl ⟨0, e, (a, v), rfl, rfl, rfl, ?_, hv, h4 rfl, fun z => ?_⟩
      · simp only [Instr.findAsking, Sem.run_bind, h3, Result.andThen_ok, if_true, Sem.run_pure, Nat.add_zero]
      · simp only [updA, heq, List.set_cons_zero]
    · rename_i heq
      obtain ⟨h3, h4⟩ := keyEq_spec (P := P) (w := w) (M := M) heq hx hk
      have ih := findAsking_ok hx es l (s + 1) r (by simpa using hl) (fun j e' q h1 h2 => he (j + 1) e' q (by simpa using h1) (by simpa using h2)) hf
      rcases ih with ⟨i, e', q, h5, h6, h7, h8, h9, h10, h11⟩ | ⟨h5, h6, h7⟩
      · refine .inl ⟨i + 1, e', q, h5, by simpa using h6, by simpa using h7, ?_, h9, h10, fun z => ?_⟩
        · simp only [Instr.findAsking, Sem.run_bind, h3, Result.andThen_ok, Bool.false_eq_true, if_false, h8]
          rw [show s + 1 + i = s + (i + 1) by omega]
        · simp only [updA, heq, h11 z, Option.map_some, List.set_cons_succ]
      · refine .inr ⟨h5, ?_, fun z => ?_⟩
        · simp only [Instr.findAsking, Sem.run_bind, h3, Result.andThen_ok, Bool.false_eq_true, if_false, h6]
        · simp only [updA, heq, h7 z, Option.map_some, List.cons_append]
    · cases hf

/-- What is found at once is what asking finds. -/
theorem findNow_asking {t : Nat} {d : TypeDesc} (hu : P.underlying t = some d) (x : Value) : ∀ (es : List MapEntry) (s : Nat) (r : Option (Nat × Value)), Instr.findNow d x es s = some r → (Instr.findAsking t x es s).run P w = .ok r w
  | [], s, r, h => by simp only [Instr.findNow, Option.some.injEq] at h; subst h; rfl
  | e :: es, s, r, h => by
    have hone : ∀ b, Instr.sameNow d x e.key = some b → (Op.equal t x e.key).run P w = .ok b w := by
      intro b hb
      show (Op.equalIn 10000 t _ _).run P w = _
      unfold Instr.sameNow at hb
      split at hb
      · rename_i hek
        rw [hek]
        split at hb
        · rename_i hk
          subst hk
          obtain rfl := Option.some.inj hb
          exact run_equalIn_int w 9999 t _ _ _ _ hu
        · cases hb
      · rename_i hek
        rw [hek]
        obtain rfl := Option.some.inj hb
        rw [run_equalIn_string w 9999 t _ _ hu, beq_toListBytes]
      · rename_i hek
        rw [hek]
        obtain rfl := Option.some.inj hb
        exact run_equalIn_bool' w 9999 t _ _ hu
      · cases hb
    simp only [Instr.findNow] at h
    split at h
    · rename_i hs
      obtain rfl := Option.some.inj h
      simp only [Instr.findAsking, Sem.run_bind, hone _ hs, Result.andThen_ok, if_true, Sem.run_pure]
    · rename_i hs
      simp only [Instr.findAsking, Sem.run_bind, hone _ hs, Result.andThen_ok, Bool.false_eq_true, if_false]
      exact findNow_asking hu x es (s + 1) r h
    · cases h

theorem findKey_asking {t : Nat} {d : TypeDesc} (hu : P.underlying t = some d) (x : Value) (es : List MapEntry) : (Instr.findKey t x es).run P w = (Instr.findAsking t x es).run P w := by
  simp only [Instr.findKey, Sem.run_bind, run_underlying hu, Result.andThen_ok]
  cases h : Instr.findNow d x es 0 with
  | none => rfl
  | some r => rw [findNow_asking hu x es 0 r h]; rfl

theorem key_under {t : Nat} {k : AV} (h : (keyEq P t k k).isSome = true) : ∃ d, P.underlying t = some d := by
  obtain ⟨r, hr⟩ := Option.isSome_iff_exists.1 h
  cases hT : tyk P t with
  | none =>
    unfold keyEq at hr
    rw [hT] at hr
    simp [eqV] at hr
  | some T =>
    obtain ⟨i, d, z, h1, h2, _⟩ := tyk_spec hT
    exact ⟨d, h2⟩

theorem findKey_ok {t : Nat} {k : AV} (hkey : (keyEq P t k k).isSome = true) {x : Value} (hx : RepZ w M x k) (es : List MapEntry) (l : List (AV × AV)) (r : Option AV) (hl : es.length = l.length)
    (he : ∀ (j : Nat) (e : MapEntry) (q : AV × AV), es[j]? = some e → l[j]? = some q → RepZ w M e.key q.1 ∧ RepZ w M e.val q.2) (hf : findA P t k l = some r) :
    (∃ i e q, r = some q.2 ∧ es[i]? = some e ∧ l[i]? = some q ∧ (Instr.findKey t x es).run P w = .ok (some (i, e.val)) w ∧ RepZ w M e.val q.2 ∧ Instr.sameBits 10000 e.key x = true ∧
      ∀ y, updA P t k y l = some (l.set i (k, y))) ∨
    (r = none ∧ (Instr.findKey t x es).run P w = .ok none w ∧ ∀ y, updA P t k y l = some (l ++ [(k, y)])) := by
  obtain ⟨d, hu⟩ := key_under hkey
  rw [findKey_asking hu]
  have := findAsking_ok (P := P) (w := w) (M := M) (t := t) hx es l 0 r hl he hf
  simpa using this

end
end Go.Ab
