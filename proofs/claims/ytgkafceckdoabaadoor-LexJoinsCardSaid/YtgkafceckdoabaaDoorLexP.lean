/-
  Tokens, in plain words: what splitting a string gives, and its laws.
-/
import Derived.Test.YtgkafceckdoabaaDoorAbsSimp
set_option linter.all false
namespace Go.Proofs.YtgkafceckdoabaaDoor

abbrev By := List UInt8
def isBlank (c : UInt8) : Bool := c == 32 || c == 9 || c == 10
def isLetter (c : UInt8) : Bool := decide (97 ≤ c.toNat) && decide (c.toNat ≤ 122)
def isDigit (c : UInt8) : Bool := decide (48 ≤ c.toNat) && decide (c.toNat ≤ 57)
def isAl (c : UInt8) : Bool := isLetter c || isDigit c
def isSign1 (c : UInt8) : Bool := [59, 44, 61, 60, 43, 45, 42, 47, 40, 41].contains c
def isWord (l : By) : Bool := match l with
  | [] => false
  | c :: _ => isLetter c && decide (l.length ≤ 20) && l.all isAl
def numVal (l : By) : Nat := l.foldl (fun n c => 10 * n + (c.toNat - 48)) 0
def isNum (l : By) : Bool := !l.isEmpty && l.all isDigit && (l.head? != some 48 || l == [48]) && decide (l.length ≤ 13) && decide (numVal l ≤ 1099511627776)

structure Tk where
  kind : Int
  text : By
  n : Int
  pos : Int
  deriving DecidableEq

inductive Tok where
  | err (e : Int)
  | ok (k : Int) (t : By) (n : Int)
  deriving DecidableEq

/-- The token at the beginning. -/
def tok (l : By) : Tok := match l with
  | [] => .err 11
  | c :: r =>
    if isLetter c then (if ((c :: r).takeWhile isAl).length ≤ 20 then .ok 1 ((c :: r).takeWhile isAl) 0 else .err 13)
    else if isDigit c then (if isNum ((c :: r).takeWhile isDigit) then .ok 2 ((c :: r).takeWhile isDigit) (numVal ((c :: r).takeWhile isDigit)) else .err 3)
    else if c == 61 && r.head? == some 61 then .ok 3 [61, 61] 0
    else if isSign1 c then .ok 3 [c] 0 else .err 11

inductive Lx where
  | err (at_ : Nat) (e : Int)
  | ok (l : List Tk)
  deriving DecidableEq

def Lx.cons (x : Tk) : Lx → Lx
  | .ok l => .ok (x :: l)
  | .err i e => .err i e

def lexF : Nat → By → Nat → Lx
  | _, [], p => .ok [⟨0, [], 0, p⟩]
  | 0, _, p => .ok [⟨0, [], 0, p⟩]
  | k + 1, c :: r, p => if isBlank c then lexF k r (p + 1) else match tok (c :: r) with
    | .err e => .err p e
    | .ok kd t n => Lx.cons ⟨kd, t, n, p⟩ (lexF k ((c :: r).drop t.length) (p + t.length))
/-- The tokens of what is left at a place. -/
def lexA (l : By) (p : Nat) : Lx := lexF l.length l p

theorem tw_app (f : UInt8 → Bool) (b : UInt8) (r : By) (hb : f b = false) : ∀ l : By, (l ++ b :: r).takeWhile f = l.takeWhile f
  | [] => by simp [hb]
  | c :: l => by
    simp only [List.cons_append, List.takeWhile_cons]
    rw [tw_app f b r hb l]
theorem tw_pre (f : UInt8 → Bool) : ∀ l : By, l.takeWhile f = l.take (l.takeWhile f).length
  | [] => rfl
  | c :: l => by
    simp only [List.takeWhile_cons]
    split
    · simp only [List.length_cons, List.take_succ_cons]; rw [← tw_pre f l]
    · rfl
theorem tw_len (f : UInt8 → Bool) (l : By) : (l.takeWhile f).length ≤ l.length := by
  rw [tw_pre, List.length_take]; exact Nat.min_le_right _ _
theorem tw_take (f : UInt8 → Bool) : ∀ (l : By) (m : Nat), (l.takeWhile f).length ≤ m → (l.take m).takeWhile f = l.takeWhile f
  | [], m, _ => by simp
  | c :: l, 0, h => by
    simp only [List.takeWhile_cons] at h ⊢
    split at h
    · simp at h
    · rename_i hc; simp [hc]
  | c :: l, m + 1, h => by
    simp only [List.take_succ_cons, List.takeWhile_cons] at h ⊢
    split
    · rename_i hc
      rw [if_pos hc] at h
      rw [tw_take f l m (by simpa using h)]
    · rfl
theorem tw_all (f : UInt8 → Bool) (l : By) (h : l.all f = true) : l.takeWhile f = l := by
  induction l with
  | nil => rfl
  | cons c l ih =>
    simp only [List.all_cons, Bool.and_eq_true] at h
    simp only [List.takeWhile_cons, h.1, if_true]
    rw [ih h.2]
theorem tw_mem (f : UInt8 → Bool) (l : By) : (l.takeWhile f).all f = true := by
  induction l with
  | nil => rfl
  | cons c l ih =>
    simp only [List.takeWhile_cons]
    split
    · rename_i h; simp only [List.all_cons, h, ih, Bool.and_self]
    · rfl

theorem blank_al {b : UInt8} (h : isBlank b = true) : isLetter b = false ∧ isDigit b = false ∧ isAl b = false ∧ (b == 61) = false ∧ isSign1 b = false := by
  simp only [isBlank, Bool.or_eq_true, beq_iff_eq] at h
  rcases h with (rfl | rfl) | rfl <;> decide

theorem tok_len {l : By} {k : Int} {t : By} {n : Int} (h : tok l = .ok k t n) : 0 < t.length ∧ t.length ≤ l.length ∧ t = l.take t.length := by
  unfold tok at h
  split at h
  · cases h
  · rename_i c r
    split at h
    · rename_i hc
      split at h
      · simp only [Tok.ok.injEq] at h
        obtain ⟨rfl, rfl, rfl⟩ := h
        refine ⟨?_, tw_len _ _, tw_pre _ _⟩
        simp [List.takeWhile_cons, isAl, hc]
      · cases h
    · split at h
      · rename_i hc
        split at h
        · simp only [Tok.ok.injEq] at h
          obtain ⟨rfl, rfl, rfl⟩ := h
          refine ⟨?_, tw_len _ _, tw_pre _ _⟩
          simp [List.takeWhile_cons, hc]
        · cases h
      · split at h
        · rename_i h2
          simp only [Tok.ok.injEq] at h
          obtain ⟨rfl, rfl, rfl⟩ := h
          simp only [Bool.and_eq_true, beq_iff_eq] at h2
          obtain ⟨rfl, h2⟩ := h2
          cases r with
          | nil => simp at h2
          | cons d r => simp at h2; subst h2; simp
        · split at h
          · simp only [Tok.ok.injEq] at h
            obtain ⟨rfl, rfl, rfl⟩ := h
            simp
          · cases h

theorem lexF_nil (k p : Nat) : lexF k [] p = .ok [⟨0, [], 0, p⟩] := by cases k <;> rfl
theorem lexF_fuel : ∀ (k : Nat) (l : By) (p : Nat), l.length ≤ k → lexF k l p = lexA l p
  | k, [], p, _ => by rw [lexF_nil]; rfl
  | 0, c :: l, p, h => by simp at h
  | k + 1, c :: l, p, h => by
    simp only [List.length_cons, Nat.add_le_add_iff_right] at h
    show _ = lexF (l.length + 1) (c :: l) p
    simp only [lexF]
    split
    · rw [lexF_fuel k l _ h]; rfl
    · split
      · rfl
      · rename_i kd t n ht
        obtain ⟨h1, h2, _⟩ := tok_len ht
        simp only [List.length_cons] at h2
        rw [lexF_fuel k _ _ (by simp; omega), lexF_fuel l.length _ _ (by simp; omega)]
termination_by k => k

theorem lexA_nil (p : Nat) : lexA [] p = .ok [⟨0, [], 0, p⟩] := rfl
theorem lexA_blank {c : UInt8} (h : isBlank c = true) (l : By) (p : Nat) : lexA (c :: l) p = lexA l (p + 1) := by
  show lexF (l.length + 1) (c :: l) p = _
  simp only [lexF, h, if_true]; rfl
theorem lexA_err {c : UInt8} {l : By} (h : isBlank c = false) {e : Int} (ht : tok (c :: l) = .err e) (p : Nat) : lexA (c :: l) p = .err p e := by
  show lexF (l.length + 1) (c :: l) p = _
  simp [lexF, h, ht]
theorem lexA_ok {c : UInt8} {l : By} (h : isBlank c = false) {k : Int} {t : By} {n : Int} (ht : tok (c :: l) = .ok k t n) (p : Nat) :
    lexA (c :: l) p = Lx.cons ⟨k, t, n, p⟩ (lexA ((c :: l).drop t.length) (p + t.length)) := by
  show lexF (l.length + 1) (c :: l) p = _
  obtain ⟨h1, h2, _⟩ := tok_len ht
  simp only [List.length_cons] at h2
  simp only [lexF, h, ht, Bool.false_eq_true, if_false]
  rw [lexF_fuel _ _ _ (by simp; omega)]

/-- INDUCTION over the splitting. -/
theorem lex_ind {motive : By → Prop} (h0 : motive []) (h1 : ∀ c l, isBlank c = true → motive l → motive (c :: l)) (h2 : ∀ c l e, isBlank c = false → tok (c :: l) = .err e → motive (c :: l))
    (h3 : ∀ c l k t n, isBlank c = false → tok (c :: l) = .ok k t n → motive ((c :: l).drop t.length) → motive (c :: l)) (l : By) : motive l := by
  have : ∀ n (l : By), l.length ≤ n → motive l := by
    intro n
    induction n with
    | zero => intro l hl; cases l with
      | nil => exact h0
      | cons c l => simp at hl
    | succ n ih =>
      intro l hl
      cases l with
      | nil => exact h0
      | cons c l =>
        simp only [List.length_cons, Nat.add_le_add_iff_right] at hl
        cases hb : isBlank c with
        | true => exact h1 c l hb (ih l hl)
        | false =>
          cases ht : tok (c :: l) with
          | err e => exact h2 c l e hb ht
          | ok k t m =>
            obtain ⟨q1, q2, _⟩ := tok_len ht
            simp only [List.length_cons] at q2
            exact h3 c l k t m hb ht (ih _ (by simp; omega))
  exact this _ l (Nat.le_refl _)

theorem lexA_ne {l : By} : ∀ {p : Nat} {ts : List Tk}, lexA l p = .ok ts → ts ≠ [] := by
  induction l using lex_ind with
  | h0 => intro p ts h; rw [lexA_nil] at h; cases h; simp
  | h1 c l hb ih => intro p ts h; rw [lexA_blank hb] at h; exact ih h
  | h2 c l e hb ht => intro p ts h; rw [lexA_err hb ht] at h; cases h
  | h3 c l k t n hb ht ih =>
    intro p ts h; rw [lexA_ok hb ht] at h
    cases hx : lexA ((c :: l).drop t.length) (p + t.length) with
    | err i e => rw [hx] at h; cases h
    | ok us => rw [hx] at h; cases h; simp

theorem tok_app {c : UInt8} {l : By} {b : UInt8} (hb : isBlank b = true) (r : By) : tok (c :: l ++ b :: r) = tok (c :: l) := by
  obtain ⟨b1, b2, b3, b4, b5⟩ := blank_al hb
  have e1 := tw_app isAl b r b3 (c :: l)
  have e2 := tw_app isDigit b r b2 (c :: l)
  simp only [List.cons_append] at e1 e2 ⊢
  simp only [tok, e1, e2]
  have e3 : ((l ++ b :: r).head? == some 61) = (l.head? == some 61) := by
    cases l with
    | nil => simp; simpa using b4
    | cons d l => simp
  rw [e3]

theorem tok_take {l : By} {k : Int} {t : By} {n : Int} (h : tok l = .ok k t n) {m : Nat} (hm : t.length ≤ m) : tok (l.take m) = .ok k t n := by
  obtain ⟨q1, q2, q3⟩ := tok_len h
  cases l with
  | nil => simp at q2; simp [q2] at q1
  | cons c r =>
    obtain ⟨m, rfl⟩ : ∃ j, m = j + 1 := ⟨m - 1, by omega⟩
    unfold tok at h ⊢
    simp only [List.take_succ_cons]
    have fix : ∀ f : UInt8 → Bool, ((c :: r).takeWhile f).length ≤ m + 1 → (c :: r.take m).takeWhile f = (c :: r).takeWhile f := fun f hf => by
      have := tw_take f (c :: r) (m + 1) hf
      rwa [List.take_succ_cons] at this
    simp only [] at h
    by_cases hl : isLetter c = true
    · simp only [hl, if_true] at h ⊢
      split at h
      · simp only [Tok.ok.injEq] at h
        obtain ⟨rfl, rfl, rfl⟩ := h
        rename_i h20
        rw [fix isAl hm, if_pos h20]
      · cases h
    · simp only [hl, Bool.false_eq_true, if_false] at h ⊢
      by_cases hd : isDigit c = true
      · simp only [hd, if_true] at h ⊢
        split at h
        · simp only [Tok.ok.injEq] at h
          obtain ⟨rfl, rfl, rfl⟩ := h
          rename_i h20
          rw [fix isDigit hm, if_pos h20]
        · cases h
      · simp only [hd, Bool.false_eq_true, if_false] at h ⊢
        by_cases h2 : (c == 61 && r.head? == some 61) = true
        · simp only [h2, if_true, Tok.ok.injEq] at h ⊢
          obtain ⟨rfl, rfl, rfl⟩ := h
          simp only [List.length_cons, List.length_nil] at hm
          obtain ⟨m, rfl⟩ : ∃ j, m = j + 1 := ⟨m - 1, by omega⟩
          simp only [Bool.and_eq_true, beq_iff_eq] at h2
          obtain ⟨rfl, h2⟩ := h2
          cases r with
          | nil => simp at h2
          | cons d r => simp at h2; subst h2; simp
        · simp only [h2, Bool.false_eq_true, if_false] at h ⊢
          have h3 : ¬ (c == 61 && (r.take m).head? == some 61) = true := by
            intro h3
            apply h2
            simp only [Bool.and_eq_true, beq_iff_eq] at h3 ⊢
            refine ⟨h3.1, ?_⟩
            cases r with
            | nil => simpa using h3.2
            | cons d r =>
              cases m with
              | zero => simp at h3
              | succ m => simpa using h3.2
          rw [if_neg h3]
          exact h

theorem tok_self {l : By} {k : Int} {t : By} {n : Int} (h : tok l = .ok k t n) : tok t = .ok k t n := by
  have := tok_take h (Nat.le_refl _)
  rwa [← (tok_len h).2.2] at this

/-- TWO STRINGS WITH A BLANK BETWEEN THEM. -/
def Lx.join : Lx → Lx → Lx
  | .err i e, _ => .err i e
  | .ok _, .err i e => .err i e
  | .ok ts, .ok us => .ok (ts.dropLast ++ us)
theorem lexA_app {b : UInt8} (hb : isBlank b = true) (y : By) (x : By) : ∀ p, lexA (x ++ b :: y) p = (lexA x p).join (lexA y (p + x.length + 1)) := by
  induction x using lex_ind with
  | h0 =>
    intro p
    rw [List.nil_append, lexA_blank hb, lexA_nil]
    cases h : lexA y (p + 1) <;> simp [Lx.join, h]
  | h1 c l hc ih =>
    intro p
    rw [List.cons_append, lexA_blank hc, lexA_blank hc, ih]
    simp only [List.length_cons]
    rw [show p + 1 + l.length + 1 = p + (l.length + 1) + 1 by omega]
  | h2 c l e hc ht =>
    intro p
    rw [lexA_err hc ht, List.cons_append]
    have := tok_app (c := c) (l := l) hb y
    rw [ht, List.cons_append] at this
    rw [lexA_err hc this]; rfl
  | h3 c l k t n hc ht ih =>
    intro p
    obtain ⟨q1, q2, _⟩ := tok_len ht
    have := tok_app (c := c) (l := l) hb y
    rw [ht, List.cons_append] at this
    rw [lexA_ok hc ht, List.cons_append, lexA_ok hc this, ← List.cons_append, List.drop_append_of_le_length q2, ih]
    rw [show p + t.length + ((c :: l).drop t.length).length + 1 = p + (c :: l).length + 1 by rw [List.length_drop]; omega]
    cases hx : lexA ((c :: l).drop t.length) (p + t.length) with
    | err i e => rfl
    | ok us =>
      have hne := lexA_ne hx
      cases lexA y (p + (c :: l).length + 1) with
      | err i e => rfl
      | ok vs =>
        cases us with
        | nil => exact (hne rfl).elim
        | cons u us => simp [Lx.cons, Lx.join]

def Tk.shift (q : Nat) (x : Tk) : Tk := { x with pos := x.pos + q }
def Lx.shift (q : Nat) : Lx → Lx
  | .err i e => .err (i + q) e
  | .ok ts => .ok (ts.map (Tk.shift q))
theorem lexA_shift (q : Nat) (l : By) : ∀ p, lexA l (p + q) = (lexA l p).shift q := by
  induction l using lex_ind with
  | h0 => intro p; rw [lexA_nil, lexA_nil]; simp [Lx.shift, Tk.shift]
  | h1 c l hb ih => intro p; rw [lexA_blank hb, lexA_blank hb, ← ih, Nat.add_right_comm]
  | h2 c l e hb ht => intro p; rw [lexA_err hb ht, lexA_err hb ht]; rfl
  | h3 c l k t n hb ht ih =>
    intro p; rw [lexA_ok hb ht, lexA_ok hb ht, Nat.add_right_comm, ih]
    cases lexA ((c :: l).drop t.length) (p + t.length) <;> simp [Lx.cons, Lx.shift, Tk.shift]

theorem lexA_blanks (k p : Nat) : lexA (List.replicate k 32) p = .ok [⟨0, [], 0, p + k⟩] := by
  induction k generalizing p with
  | zero => rfl
  | succ k ih => rw [List.replicate_succ, lexA_blank (by decide), ih]; simp; omega

/-- WHERE THE ERROR IS. -/
theorem tok_errs {c : UInt8} {l : By} {e : Int} (h : tok (c :: l) = .err e) : e = 11 ∨ e = 13 ∨ e = 3 := by
  unfold tok at h
  simp only [] at h
  split at h
  · split at h <;> cases h; simp
  · split at h
    · split at h <;> cases h; simp
    · split at h
      · cases h
      · split at h <;> cases h; simp
theorem lexA_errs (l : By) : ∀ {p i : Nat} {e : Int}, lexA l p = .err i e → p ≤ i ∧ i - p < l.length ∧ (e = 11 ∨ e = 13 ∨ e = 3) ∧ (∃ ts, lexA (l.take (i - p)) p = .ok ts) ∧ ∀ q, lexA (l.drop (i - p)) q = .err q e := by
  induction l using lex_ind with
  | h0 => intro p i e h; rw [lexA_nil] at h; cases h
  | h1 c l hb ih =>
    intro p i e h
    rw [lexA_blank hb] at h
    obtain ⟨h1, h2, h3, ⟨ts, h4⟩, h5⟩ := ih h
    refine ⟨by omega, by simp; omega, h3, ⟨ts, ?_⟩, ?_⟩
    · rw [show i - p = (i - (p + 1)) + 1 by omega, List.take_succ_cons, lexA_blank hb]; exact h4
    · rw [show i - p = (i - (p + 1)) + 1 by omega, List.drop_succ_cons]; exact h5
  | h2 c l e hb ht =>
    intro p i e' h
    rw [lexA_err hb ht] at h
    simp only [Lx.err.injEq] at h
    obtain ⟨rfl, rfl⟩ := h
    refine ⟨Nat.le_refl _, by simp, tok_errs ht, ⟨_, by rw [Nat.sub_self]; exact lexA_nil _⟩, fun q => ?_⟩
    rw [Nat.sub_self]
    exact lexA_err hb ht q
  | h3 c l k t n hb ht ih =>
    intro p i e h
    obtain ⟨q1, q2, q3⟩ := tok_len ht
    rw [lexA_ok hb ht] at h
    cases hx : lexA ((c :: l).drop t.length) (p + t.length) with
    | ok us => rw [hx] at h; cases h
    | err i' e' =>
      rw [hx] at h
      simp only [Lx.cons, Lx.err.injEq] at h
      obtain ⟨rfl, rfl⟩ := h
      obtain ⟨h1, h2, h3, ⟨ts, h4⟩, h5⟩ := ih hx
      rw [List.length_drop] at h2
      refine ⟨by omega, by omega, h3, ⟨Tk.mk k t n p :: ts, ?_⟩, ?_⟩
      · have e1 : i' - p = t.length + (i' - (p + t.length)) := by omega
        have ht' := tok_take ht (m := i' - p) (by omega)
        obtain ⟨j, hj⟩ : ∃ j, i' - p = j + 1 := ⟨i' - p - 1, by omega⟩
        rw [hj, List.take_succ_cons] at ht' ⊢
        rw [lexA_ok hb ht', ← List.take_succ_cons, ← hj, List.drop_take, show i' - p - t.length = i' - (p + t.length) by omega, h4]
        rfl
      · intro q
        have := h5 q
        rw [List.drop_drop] at this
        rwa [show t.length + (i' - (p + t.length)) = i' - p by omega] at this

/-- A TOKEN ALONE. -/
theorem tok_head {c : UInt8} {l : By} {k : Int} {t : By} {n : Int} (h : tok (c :: l) = .ok k t n) : t.head? = some c := by
  obtain ⟨q1, q2, q3⟩ := tok_len h
  rw [q3]
  obtain ⟨j, hj⟩ : ∃ j, t.length = j + 1 := ⟨t.length - 1, by omega⟩
  rw [hj]; rfl
theorem lexA_one {t : By} {k : Int} {n : Int} (h : tok t = .ok k t n) (hb : ∀ c, t.head? = some c → isBlank c = false) (p : Nat) : lexA t p = .ok [⟨k, t, n, p⟩, ⟨0, [], 0, (p + t.length : Nat)⟩] := by
  cases t with
  | nil => simp [tok] at h
  | cons c r =>
    rw [lexA_ok (hb c rfl) h, List.drop_length, lexA_nil]; rfl

/-- Each token but the last is one by itself; the last is the end. -/
def Vt (x : Tk) : Prop := tok x.text = .ok x.kind x.text x.n ∧ ∀ c, x.text.head? = some c → isBlank c = false
theorem lexA_vt (l : By) : ∀ {p : Nat} {ts : List Tk}, lexA l p = .ok ts → ∃ us q, ts = us ++ [⟨0, [], 0, q⟩] ∧ ∀ x ∈ us, Vt x := by
  induction l using lex_ind with
  | h0 => intro p ts h; rw [lexA_nil] at h; cases h; exact ⟨[], p, rfl, by simp⟩
  | h1 c l hb ih => intro p ts h; rw [lexA_blank hb] at h; exact ih h
  | h2 c l e hb ht => intro p ts h; rw [lexA_err hb ht] at h; cases h
  | h3 c l k t n hb ht ih =>
    intro p ts h; rw [lexA_ok hb ht] at h
    cases hx : lexA ((c :: l).drop t.length) (p + t.length) with
    | err i e => rw [hx] at h; cases h
    | ok vs =>
      rw [hx] at h; cases h
      obtain ⟨us, q, rfl, hu⟩ := ih hx
      refine ⟨⟨k, t, n, p⟩ :: us, q, rfl, fun x hx => ?_⟩
      rcases List.mem_cons.1 hx with rfl | hx
      · refine ⟨tok_self ht, fun d hd => ?_⟩
        have : t.head? = some d := hd
        rw [tok_head ht] at this
        cases this; exact hb
      · exact hu x hx

/-- The texts with a blank between them. -/
def joinB : List By → By
  | [] => []
  | [t] => t
  | t :: ts => t ++ 32 :: joinB ts
def textOf (ts : List Tk) : By := joinB ((ts.filter fun x => x.kind != 0).map Tk.text)
def Tk.core (x : Tk) : Int × By × Int := (x.kind, x.text, x.n)
theorem lexA_joinB (us : List Tk) (h : ∀ x ∈ us, Vt x) : ∀ p, ∃ vs q, lexA (joinB (us.map Tk.text)) p = .ok (vs ++ [⟨0, [], 0, q⟩]) ∧ vs.map Tk.core = us.map Tk.core := by
  induction us with
  | nil => intro p; exact ⟨[], p, rfl, rfl⟩
  | cons x us ih =>
    intro p
    obtain ⟨hx1, hx2⟩ := h x (by simp)
    have h1 := lexA_one hx1 hx2 p
    cases us with
    | nil => exact ⟨[⟨x.kind, x.text, x.n, p⟩], _, h1, rfl⟩
    | cons y us =>
      obtain ⟨vs, q, hv1, hv2⟩ := ih (fun z hz => h z (by simp [hz])) (p + x.text.length + 1)
      refine ⟨⟨x.kind, x.text, x.n, p⟩ :: vs, q, ?_, ?_⟩
      · show lexA (x.text ++ 32 :: joinB ((y :: us).map Tk.text)) p = _
        rw [lexA_app (by decide), h1, hv1]; rfl
      · rw [List.map_cons, hv2]; rfl
theorem vt_kind {x : Tk} (h : Vt x) : x.kind ≠ 0 ∧ x.text ≠ [] ∧ (x.kind ≠ 2 → x.n = 0) ∧ (x.kind = 1 ∨ x.kind = 2 ∨ x.kind = 3) := by
  obtain ⟨h1, h2⟩ := h
  have hl := (tok_len h1).1
  cases ht : x.text with
  | nil => rw [ht] at hl; simp at hl
  | cons c r =>
    rw [ht] at h1
    unfold tok at h1
    simp only [] at h1
    split at h1
    · split at h1
      · simp only [Tok.ok.injEq] at h1; obtain ⟨e1, _, e3⟩ := h1; simp [← e1, ← e3]
      · cases h1
    · split at h1
      · split at h1
        · simp only [Tok.ok.injEq] at h1; obtain ⟨e1, _, e3⟩ := h1; simp [← e1]
        · cases h1
      · split at h1
        · simp only [Tok.ok.injEq] at h1; obtain ⟨e1, _, e3⟩ := h1; simp [← e1, ← e3]
        · split at h1
          · simp only [Tok.ok.injEq] at h1; obtain ⟨e1, _, e3⟩ := h1; simp [← e1, ← e3]
          · cases h1
theorem filter_vt {us : List Tk} (h : ∀ x ∈ us, x.kind ≠ 0) (q : Int) : (us ++ [(⟨0, [], 0, q⟩ : Tk)]).filter (fun x => x.kind != 0) = us := by
  rw [List.filter_append]
  have : us.filter (fun x => x.kind != 0) = us := List.filter_eq_self.2 fun x hx => by simpa using h x hx
  rw [this]; simp

/-- THE STAGE's THEOREM. -/
theorem lex_back {l : By} {ts : List Tk} (h : lexA l 0 = .ok ts) : ∃ ms, lexA (textOf ts) 0 = .ok ms ∧ ms.map Tk.core = ts.map Tk.core ∧ textOf ms = textOf ts := by
  obtain ⟨us, q, rfl, hu⟩ := lexA_vt l h
  obtain ⟨vs, q2, h1, h2⟩ := lexA_joinB us hu 0
  have hk : ∀ x ∈ us, x.kind ≠ 0 := fun x hx => (vt_kind (hu x hx)).1
  have hk2 : ∀ x ∈ vs, x.kind ≠ 0 := fun x hx => by
    have hm : x.core ∈ vs.map Tk.core := List.mem_map_of_mem hx
    rw [h2] at hm
    obtain ⟨y, hy, e⟩ := List.mem_map.1 hm
    have : y.kind = x.kind := congrArg Prod.fst e
    rw [← this]; exact hk y hy
  have ht : vs.map Tk.text = us.map Tk.text := by
    have := congrArg (List.map (fun c : Int × By × Int => c.2.1)) h2
    simpa [List.map_map, Function.comp_def, Tk.core] using this
  refine ⟨vs ++ [⟨0, [], 0, q2⟩], ?_, ?_, ?_⟩
  · rw [textOf, filter_vt hk]; exact h1
  · simp [h2, Tk.core]
  · rw [textOf, textOf, filter_vt hk, filter_vt hk2, ht]

/-- Where a token ends. -/
def endAt (ts : List Tk) (k : Nat) : Int := match k with
  | 0 => 0
  | k + 1 => match ts[k]? with
    | some x => x.pos + x.text.length
    | none => 0
/-- What is said of the places. -/
structure Placed (s : By) (ts : List Tk) (e : Nat) : Prop where
  pos : ∀ (i : Nat) (x : Tk), ts[i]? = some x → ∃ a : Nat, x.pos = (a : Int) ∧ a + x.text.length ≤ s.length ∧ (s.drop a).take x.text.length = x.text ∧ (x.text = [] ↔ i + 1 = ts.length) ∧ (x.kind = 0 ↔ i + 1 = ts.length) ∧ (x.kind ≠ 2 → x.n = 0) ∧
    ∃ b : Nat, (match i with | 0 => b = e | i + 1 => ∃ y : Tk, ts[i]? = some y ∧ (b : Int) = y.pos + y.text.length) ∧ b ≤ a ∧ ∀ j, b ≤ j → j < a → ∃ c, s[j]? = some c ∧ isBlank c = true
  last : ∀ x : Tk, ts[ts.length - 1]? = some x → x.pos = (s.length : Int)
theorem lexA_placed (s : By) (l : By) : ∀ {p e : Nat} {ts : List Tk}, s.drop p = l → e ≤ p → p ≤ s.length → (∀ j, e ≤ j → j < p → ∃ c, s[j]? = some c ∧ isBlank c = true) → lexA l p = .ok ts → Placed s ts e := by
  induction l using lex_ind with
  | h0 =>
    intro p e ts hl he hp hbl h
    rw [lexA_nil] at h; cases h
    have hps : p = s.length := by have := congrArg List.length hl; simp at this; omega
    refine ⟨fun i x hx => ?_, fun x hx => ?_⟩
    · match i with
      | 0 =>
        simp at hx; subst hx
        exact ⟨p, rfl, by simpa using hp, by simp, by simp, by simp, by simp, e, rfl, he, hbl⟩
      | i + 1 => simp at hx
    · simp at hx; subst hx; simp [hps]
  | h1 c l hb ih =>
    intro p e ts hl he hp hbl h
    rw [lexA_blank hb] at h
    have hpl : p < s.length := by have := congrArg List.length hl; simp at this; omega
    refine ih (p := p + 1) ?_ (by omega) hpl (fun j h1 h2 => ?_) h
    · rw [← List.drop_drop, hl]; rfl
    · by_cases hj : j = p
      · subst hj
        refine ⟨c, ?_, hb⟩
        have := congrArg (fun q => q[0]?) hl
        simpa using this
      · exact hbl j h1 (by omega)
  | h2 c l e hb ht => intro p e' ts _ _ _ _ h; rw [lexA_err hb ht] at h; cases h
  | h3 c l k t n hb ht ih =>
    intro p e ts hl he hp hbl h
    rw [lexA_ok hb ht] at h
    obtain ⟨q1, q2, q3⟩ := tok_len ht
    have hpl : p + t.length ≤ s.length := by have := congrArg List.length hl; simp only [List.length_drop] at this; omega
    cases hx : lexA ((c :: l).drop t.length) (p + t.length) with
    | err i e => rw [hx] at h; cases h
    | ok vs =>
      rw [hx] at h; cases h
      have hv := ih (p := p + t.length) (e := p + t.length) (by rw [← List.drop_drop, hl]) (Nat.le_refl _) hpl (fun j h1 h2 => by omega) hx
      have hne := lexA_ne hx
      have hvl : 0 < vs.length := List.length_pos_iff.2 hne
      have hvt : Vt ⟨k, t, n, p⟩ := ⟨tok_self ht, fun d hd => by
        have : t.head? = some d := hd
        rw [tok_head ht] at this
        cases this; exact hb⟩
      obtain ⟨v1, v2, v3, _⟩ := vt_kind hvt
      refine ⟨fun i x hx => ?_, fun x hx => ?_⟩
      · match i with
        | 0 =>
          simp at hx; subst hx
          refine ⟨p, rfl, hpl, by rw [hl]; exact q3.symm, ?_, ?_, v3, e, rfl, he, hbl⟩
          · simp only [List.length_cons]; constructor
            · intro h; exact (v2 h).elim
            · intro h; omega
          · simp only [List.length_cons]; constructor
            · intro h; exact (v1 h).elim
            · intro h; omega
        | i + 1 =>
          rw [List.getElem?_cons_succ] at hx
          obtain ⟨a, h1, h2, h3, h4, h5, h6, b, h7, h8, h9⟩ := hv.pos i x hx
          refine ⟨a, h1, h2, h3, h4.trans (by simp only [List.length_cons]; omega), h5.trans (by simp only [List.length_cons]; omega), h6, b, ?_, h8, h9⟩
          cases i with
          | zero => exact ⟨_, rfl, by simp only [] at h7; subst h7; simp⟩
          | succ i => exact h7
      · obtain ⟨j, hj⟩ : ∃ j, vs.length = j + 1 := ⟨vs.length - 1, by omega⟩
        rw [List.length_cons, hj, Nat.add_sub_cancel, List.getElem?_cons_succ] at hx
        exact hv.last x (by rw [hj, Nat.add_sub_cancel]; exact hx)

/-- WORDS AND NUMBERS. -/
theorem word_tok {l : By} (h : isWord l = true) : tok l = .ok 1 l 0 ∧ ∀ c, l.head? = some c → isBlank c = false := by
  cases l with
  | nil => simp [isWord] at h
  | cons c r =>
    simp only [isWord, Bool.and_eq_true, decide_eq_true_eq] at h
    refine ⟨?_, ?_⟩
    · simp only [tok, h.1.1, if_true]
      rw [tw_all isAl (c :: r) h.2, if_pos h.1.2]
    · intro d hd; cases hd
      cases hb : isBlank c with
      | false => rfl
      | true => have := (blank_al hb).1; rw [h.1.1] at this; cases this
theorem num_tok {l : By} (h : isNum l = true) : tok l = .ok 2 l (numVal l) ∧ ∀ c, l.head? = some c → isBlank c = false := by
  have h' := h
  cases l with
  | nil => simp [isNum] at h
  | cons c r =>
    simp only [isNum, Bool.and_eq_true] at h
    have hall := h.1.1.1.2
    have hd : isDigit c = true := by simp only [List.all_cons, Bool.and_eq_true] at hall; exact hall.1
    have hl : isLetter c = false := by
      simp only [isDigit, isLetter, Bool.and_eq_true, decide_eq_true_eq, Bool.and_eq_false_iff, decide_eq_false_iff_not] at hd ⊢; omega
    refine ⟨?_, ?_⟩
    · simp only [tok, hl, hd, Bool.false_eq_true, if_false, if_true]
      rw [tw_all isDigit (c :: r) hall, if_pos h']
    · intro d hd2; cases hd2
      cases hb : isBlank c with
      | false => rfl
      | true => have := (blank_al hb).2.1; rw [hd] at this; cases this
theorem tok_word {l : By} {n : Int} (h : tok l = .ok 1 l n) : isWord l = true := by
  cases l with
  | nil => simp [tok] at h
  | cons c r =>
    unfold tok at h
    simp only [] at h
    split at h
    · rename_i hl
      split at h
      · rename_i h20
        simp only [Tok.ok.injEq] at h
        have ha := tw_mem isAl (c :: r)
        rw [h.2.1] at ha h20
        simp [isWord, hl, ha, h20]
        simpa using h20
      · cases h
    · split at h
      · split at h <;> simp at h
      · split at h
        · simp at h
        · split at h <;> simp at h
theorem tok_num {l : By} {n : Int} (h : tok l = .ok 2 l n) : isNum l = true ∧ n = numVal l := by
  cases l with
  | nil => simp [tok] at h
  | cons c r =>
    unfold tok at h
    simp only [] at h
    split at h
    · split at h <;> simp at h
    · split at h
      · split at h
        · rename_i hn
          simp only [Tok.ok.injEq] at h
          obtain ⟨_, h1, h2⟩ := h
          rw [h1] at hn h2
          exact ⟨hn, h2.symm⟩
        · cases h
      · split at h
        · simp at h
        · split at h <;> simp at h

/-- What the law on words says. -/
theorem lex_words (l : By) : (∀ x y, lexA l 0 = .ok [x, y] → (isWord l = decide (x.text = l ∧ x.kind = 1)) ∧ (isNum l = decide (x.text = l ∧ x.kind = 2)) ∧ (isNum l = true → (numVal l : Int) = x.n)) ∧
    ((∀ x y, lexA l 0 ≠ .ok [x, y]) → isWord l = false ∧ isNum l = false) := by
  have hw : isWord l = true → lexA l 0 = .ok [⟨1, l, 0, 0⟩, ⟨0, [], 0, (0 + l.length : Nat)⟩] := fun h => lexA_one (word_tok h).1 (word_tok h).2 0
  have hn : isNum l = true → lexA l 0 = .ok [⟨2, l, numVal l, 0⟩, ⟨0, [], 0, (0 + l.length : Nat)⟩] := fun h => lexA_one (num_tok h).1 (num_tok h).2 0
  refine ⟨fun x y h => ?_, fun h => ?_⟩
  · obtain ⟨us, q, e, hv⟩ := lexA_vt l h
    have hx : Vt x := by
      cases us with
      | nil => simp at e
      | cons u us => simp at e; obtain ⟨rfl, _⟩ := e; exact hv _ (by simp)
    refine ⟨?_, ?_, ?_⟩
    · rw [Bool.eq_iff_iff, decide_eq_true_eq]
      constructor
      · intro h1; rw [hw h1] at h; simp only [Lx.ok.injEq, List.cons.injEq] at h; rw [← h.1]; exact ⟨rfl, rfl⟩
      · rintro ⟨h1, h2⟩
        have := hx.1
        rw [h1, h2] at this
        exact tok_word this
    · rw [Bool.eq_iff_iff, decide_eq_true_eq]
      constructor
      · intro h1; rw [hn h1] at h; simp only [Lx.ok.injEq, List.cons.injEq] at h; rw [← h.1]; exact ⟨rfl, rfl⟩
      · rintro ⟨h1, h2⟩
        have := hx.1
        rw [h1, h2] at this
        exact (tok_num this).1
    · intro h1; rw [hn h1] at h; simp only [Lx.ok.injEq, List.cons.injEq] at h; rw [← h.1]
  · constructor
    · cases hc : isWord l with
      | false => rfl
      | true => exact (h _ _ (hw hc)).elim
    · cases hc : isNum l with
      | false => rfl
      | true => exact (h _ _ (hn hc)).elim

/-- A number without a zero in front is great if it is long. -/
theorem numVal_app (a : By) (c : UInt8) : numVal (a ++ [c]) = 10 * numVal a + (c.toNat - 48) := by simp [numVal, List.foldl_append]
theorem numVal_ge {c : UInt8} {r : By} (hd : isDigit c = true) (h0 : c ≠ 48) : ∀ r : By, 10 ^ r.length ≤ numVal (c :: r) := by
  have hc : 1 ≤ c.toNat - 48 := by
    simp only [isDigit, Bool.and_eq_true, decide_eq_true_eq] at hd
    have : c.toNat ≠ 48 := fun h => h0 (UInt8.toNat_inj.1 h)
    omega
  have key : ∀ (r : By) (v : Nat), 1 ≤ v → 10 ^ r.length ≤ r.foldl (fun n c => 10 * n + (c.toNat - 48)) v := by
    have gen : ∀ (r : By) (v : Nat), v * 10 ^ r.length ≤ r.foldl (fun n c => 10 * n + (c.toNat - 48)) v := by
      intro r
      induction r with
      | nil => intro v; simp
      | cons d r ih =>
        intro v
        refine Nat.le_trans ?_ (ih _)
        rw [List.length_cons, Nat.pow_succ, Nat.add_mul]
        have : v * (10 ^ r.length * 10) = 10 * v * 10 ^ r.length := by rw [Nat.mul_comm (10 ^ r.length) 10, ← Nat.mul_assoc, Nat.mul_comm v 10]
        omega
    intro r v hv
    exact Nat.le_trans (by have := Nat.mul_le_mul_right (10 ^ r.length) hv; simpa using this) (gen r v)
  intro r
  show _ ≤ r.foldl (fun n c => 10 * n + (c.toNat - 48)) (10 * 0 + (c.toNat - 48))
  exact key r _ (by omega)

end Go.Proofs.YtgkafceckdoabaaDoor
