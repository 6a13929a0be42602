/-
  Code over abstract states: rules for each form, loops, weakening, functions.
-/
import Derived.Test.YtgkafceckdoabaaDoorAbsStep
set_option linter.all false
namespace Go.Ab
open Go.RowKit

/-- Whatever state fits, the code ends in one of which Q holds. -/
def AWP (P : Program) (X : Ctx) (c : Code) (Q : Exit → St → Prop) (st : St) : Prop :=
  ∀ a w, R X st a w → c.wp P (fun e a' w' => ∃ st', Q e st' ∧ R X st' a' w') a w

def thenQ (P : Program) (X : Ctx) (y : Code) (Q : Exit → St → Prop) : Exit → St → Prop
  | .normal, st => AWP P X y Q st
  | e, st => Q e st

def blkQ (id : Nat) (Q : Exit → St → Prop) : Exit → St → Prop
  | .exit i, st => if i = id then Q .normal st else Q (.exit i) st
  | e, st => Q e st

/-- What fits st fits st0. -/
def Sub (X : Ctx) (st0 st : St) : Prop := ∀ a w, R X st a w → R X st0 a w

def loopQ {α : Type} (X : Ctx) (S : α → St) (I : α → Prop) (μ : α → Nat) (x : α) (Q : Exit → St → Prop) : Exit → St → Prop
  | .normal, st => ∃ x', I x' ∧ μ x' < μ x ∧ Sub X (S x') st
  | e, st => Q e st

section
variable {P : Program} {X : Ctx} {Q : Exit → St → Prop} {st : St}

theorem awp_mono {c : Code} {Q' : Exit → St → Prop} (h : AWP P X c Q st) (hq : ∀ e st', Q e st' → Q' e st') : AWP P X c Q' st :=
  fun a w hr => wp_mono (h a w hr) fun e a' w' ⟨st', h1, h2⟩ => ⟨st', hq e st' h1, h2⟩
theorem awp_sub {c : Code} {st0 : St} (hs : Sub X st0 st) (h : AWP P X c Q st0) : AWP P X c Q st := fun a w hr => h a w (hs a w hr)
theorem awp_skip (h : Q .normal st) : AWP P X .skip Q st := fun a w hr => wp_skip ⟨st, h, hr⟩
theorem awp_label {l : Nat} (h : Q .normal st) : AWP P X (.label l) Q st := fun a w hr => wp_label ⟨st, h, hr⟩
theorem awp_exit {id : Nat} (h : Q (.exit id) st) : AWP P X (.exit id) Q st := fun a w hr => wp_exit ⟨st, h, hr⟩
theorem awp_ret (h : Q .ret st) : AWP P X .ret Q st := fun a w hr => wp_ret ⟨st, h, hr⟩
theorem awp_seq {x y : Code} (h : AWP P X x (thenQ P X y Q) st) : AWP P X (.seq x y) Q st := fun a w hr =>
  wp_seq (wp_mono (h a w hr) fun e a' w' ⟨st', h1, h2⟩ => by
    cases e with
    | normal => exact h1 a' w' h2
    | _ => exact ⟨st', h1, h2⟩)
theorem awp_block {id : Nat} {c : Code} (h : AWP P X c (blkQ id Q) st) : AWP P X (.block id c) Q st := fun a w hr =>
  wp_block (wp_mono (h a w hr) fun e a' w' ⟨st', h1, h2⟩ => by
    cases e with
    | exit i =>
      simp only [blkQ] at h1
      simp only [Exit.inBlock]
      split at h1
      · rename_i hi; rw [if_pos hi]; exact ⟨st', h1, h2⟩
      · rename_i hi; rw [if_neg hi]; exact ⟨st', h1, h2⟩
    | _ => exact ⟨st', h1, h2⟩)
theorem awp_cond {c : Operand} {x y : Code} {b : Bool} (hc : ev st.env c = .v (.bool b)) (h1 : b = true → AWP P X x Q st) (h2 : b = false → AWP P X y Q st) : AWP P X (.cond c x y) Q st := by
  intro a w hr
  obtain ⟨M, loc, h⟩ := hr
  have hv := h.ev c
  rw [hc] at hv
  exact wp_cond_split hv.v_inv (fun hb => h1 hb a w ⟨M, loc, h⟩) (fun hb => h2 hb a w ⟨M, loc, h⟩)

theorem least {p : Nat → Prop} (h : ∃ k, p k) : ∃ k, p k ∧ ∀ m, p m → k ≤ m := by
  obtain ⟨n, hn⟩ := h
  induction n using Nat.strongRecOn with
  | _ n ih =>
    by_cases hm : ∃ m, p m ∧ m < n
    · obtain ⟨m, h1, h2⟩ := hm
      exact ih m h2 h1
    · exact ⟨n, hn, fun m h1 => Nat.le_of_not_lt fun h2 => hm ⟨m, h1, h2⟩⟩

theorem awp_loop {α : Type} {c : Code} (S : α → St) (I : α → Prop) (μ : α → Nat) (x0 : α) (h0 : Sub X (S x0) st) (hi : I x0)
    (round : ∀ x, I x → AWP P X c (loopQ X S I μ x Q) (S x)) : AWP P X (.loop c) Q st := by
  intro a w hr
  have hr0 := h0 a w hr
  classical
  let J : Act → World → Prop := fun a w => ∃ x, I x ∧ R X (S x) a w
  let m : Act → World → Nat := fun a w => if h : ∃ k x, I x ∧ R X (S x) a w ∧ μ x = k then Classical.choose (least h) else 0
  refine wp_loop J m ⟨x0, hi, hr0⟩ fun a w hJ => ?_
  have hex : ∃ k x, I x ∧ R X (S x) a w ∧ μ x = k := by
    obtain ⟨x, h1, h2⟩ := hJ
    exact ⟨μ x, x, h1, h2, rfl⟩
  have hm : m a w = Classical.choose (least hex) := dif_pos hex
  obtain ⟨x, hx1, hx2, hx3⟩ := (Classical.choose_spec (least hex)).1
  refine wp_mono (round x hx1 a w hx2) fun e a' w' ⟨st', h1, h2⟩ => ?_
  cases e with
  | normal =>
    obtain ⟨x', h3, h4, h5⟩ := h1
    have hr' := h5 a' w' h2
    refine ⟨⟨x', h3, hr'⟩, ?_⟩
    have hex' : ∃ k x, I x ∧ R X (S x) a' w' ∧ μ x = k := ⟨μ x', x', h3, hr', rfl⟩
    have hm' : m a' w' = Classical.choose (least hex') := dif_pos hex'
    rw [hm, hm']
    have := (Classical.choose_spec (least hex')).2 (μ x') ⟨x', h3, hr', rfl⟩
    omega
  | _ => exact ⟨st', h1, h2⟩

theorem awp_region {id : Nat} {ops : Array Oper} {st' : St} (h : RunR P ops X.n ops.toList st st') (hq : Q .normal st') : AWP P X (.region id ops false) Q st := fun a w hr =>
  wp_region_list (run_wp (Q := fun e a' w' => ∃ st', Q e st' ∧ R X st' a' w') (fun a' w' hr' => ⟨st', hq, hr'⟩) ops.toList st a w h hr)

theorem Sub.refl : Sub X st st := fun _ _ h => h
theorem Sub.trans {a b c : St} (h : Sub X a b) (k : Sub X b c) : Sub X a c := fun x w hr => h x w (k x w hr)

end

/-- A state written as a list of slots. -/
def mkE : List (Nat × AV) → Nat → AV
  | [] => fun _ => .bad
  | (s, v) :: l => upd (mkE l) s v

inductive Src where
  | old (id : Nat) (o : Ob)
  | birth (E k : Nat)
  | oldM (id : Nat) (m : MOb)
  | gone (id : Nat)

def Src.cell : Src → Cell
  | .old _ o => .row o
  | .birth E k => .row ⟨E, k, []⟩
  | .oldM _ m => .map m
  | .gone _ => .dead

def Src.isOld (id : Nat) : Src → Bool
  | .old i _ => i == id
  | .birth .. => false
  | .oldM i _ => i == id
  | .gone _ => false

/-- Whether a cell may be read so. -/
def okB (HS : List Src) (H : List Cell) (old new : AV) : Prop :=
  match new with
  | .bad => True
  | .ow j => match HS[j]? with
    | some (.old id _) => old = .ow id
    | some (.birth _ _) => old = .nil
    | some (.oldM id _) => old = .ow id
    | some (.gone id) => old = .ow id
    | none => False
  | .el j k i off => match HS[j]? with
    | some (.old id _) => old = .el id k i off
    | _ => False
  | .wn j k lo n => match HS[j]? with
    | some (.old id _) => old = .wn id k lo n
    | _ => False
  | .sl es => old = .sl es ∨ (old = .nil ∧ es = []) ∨ (∃ id o, old = .ow id ∧ H[id]? = some (.row o) ∧ o.es = es ∧ zoneEs es = true ∧ HS.any (Src.isOld id) = false) ∨
      ∃ id k lo n o, old = .wn id k lo n ∧ H[id]? = some (.row o) ∧ (k = o.k ∧ lo + n ≤ o.es.length) ∧ (o.es.drop lo).take n = es ∧ zoneEs o.es = true ∧ HS.any (Src.isOld id) = false
  | .mb _ _ => False
  | .fn _ _ _ => False
  | .tup _ => False
  | .agg cs => old = .agg cs ∧ cs.all AV.zoneB = true
  | x => old = x

/-- Whether cells may be read so. -/
def okC (HS : List Src) (H : List Cell) : List AV → List AV → Prop
  | [], [] => True
  | a :: as, b :: bs => okB HS H a b ∧ okC HS H as bs
  | _, _ => False

/-- Whether an element may be read so. -/
def okF (HS : List Src) (H : List Cell) : AV → AV → Prop
  | .agg as, .agg bs => okC HS H as bs
  | .agg _, _ => False
  | _, .agg _ => False
  | a, b => okB HS H a b

def okEs (HS : List Src) (H : List Cell) : List AV → List AV → Prop
  | [], [] => True
  | a :: as, b :: bs => okF HS H a b ∧ okEs HS H as bs
  | _, _ => False

/-- Whether a slot's abstract value may be read so. -/
def okE (HS : List Src) (H : List Cell) (old new : AV) : Prop :=
  match new with
  | .fn f first cap => match old with
    | .fn f' first' cap' => f' = f ∧ okC HS H first' first ∧ okC HS H cap' cap
    | _ => False
  | .agg bs => match old with
    | .agg as => (as = bs ∧ bs.all AV.zoneB = true) ∨ okC HS H as bs
    | _ => False
  | x => okB HS H old x

def okR (HS : List Src) (H : List Cell) (c : Option Cell) (o : Ob) : Prop :=
  match c with
  | some (.row o0) => (o0.E = o.E ∧ o0.k = o.k) ∧ ((o0.es = o.es ∧ zoneEs o.es = true) ∨ okEs HS H o0.es o.es)
  | _ => False

def okS (HS : List Src) (H : List Cell) : List Src → Prop
  | [] => True
  | .old id o :: l => okR HS H H[id]? o ∧ l.any (Src.isOld id) = false ∧ okS HS H l
  | .birth _ _ :: l => okS HS H l
  | .oldM id m :: l => H[id]? = some (.map m) ∧ l.any (Src.isOld id) = false ∧ okS HS H l
  | .gone id :: l => id < H.length ∧ okS HS H l

def okL (HS : List Src) (st : St) : List (Nat × AV) → Prop
  | [] => True
  | (s, v) :: l => okE HS st.heap (st.env s) v ∧ okL HS st l

theorem okS_tail {HS : List Src} {H : List Cell} {s : Src} {l : List Src} (h : okS HS H (s :: l)) : okS HS H l := by
  cases s with
  | old id o => exact h.2.2
  | birth E k => exact h
  | oldM id m => exact h.2.2
  | gone id => exact h.2

theorem okS_gone {HS0 : List Src} {H : List Cell} : ∀ {HS : List Src} {j id : Nat}, okS HS0 H HS → HS[j]? = some (.gone id) → id < H.length
  | [], j, id, h, hj => by simp at hj
  | s :: l, 0, id, h, hj => by
    simp at hj; subst hj; exact h.1
  | s :: l, j + 1, id, h, hj => okS_gone (okS_tail h) (by simpa using hj)

theorem okS_get {HS0 : List Src} {H : List Cell} : ∀ {HS : List Src} {j id : Nat} {o : Ob}, okS HS0 H HS → HS[j]? = some (.old id o) → okR HS0 H H[id]? o
  | [], j, id, o, h, hj => by simp at hj
  | s :: l, 0, id, o, h, hj => by
    simp at hj; subst hj; exact h.1
  | s :: l, j + 1, id, o, h, hj => okS_get (okS_tail h) (by simpa using hj)

theorem okR_row {HS : List Src} {H : List Cell} {c : Option Cell} {o : Ob} (h : okR HS H c o) : ∃ o0, c = some (.row o0) ∧ (o0.E = o.E ∧ o0.k = o.k) ∧ ((o0.es = o.es ∧ zoneEs o.es = true) ∨ okEs HS H o0.es o.es) := by
  unfold okR at h
  split at h
  · exact ⟨_, rfl, h⟩
  · exact h.elim

theorem okS_getM {HS0 : List Src} {H : List Cell} : ∀ {HS : List Src} {j id : Nat} {o : MOb}, okS HS0 H HS → HS[j]? = some (.oldM id o) → H[id]? = some (.map o)
  | [], j, id, o, h, hj => by simp at hj
  | s :: l, 0, id, o, h, hj => by
    simp at hj; subst hj; exact h.1
  | s :: l, j + 1, id, o, h, hj => okS_getM (okS_tail h) (by simpa using hj)

theorem okS_inj {HS0 : List Src} {H : List Cell} : ∀ {HS : List Src} {i j id : Nat} {a b : Src}, okS HS0 H HS → HS[i]? = some a → HS[j]? = some b → a.isOld id = true → b.isOld id = true → i = j := by
  have any_of : ∀ {l : List Src} {i id : Nat} {a : Src}, l[i]? = some a → a.isOld id = true → l.any (Src.isOld id) = true := by
    intro l i id a h h2
    exact List.any_eq_true.2 ⟨_, List.mem_of_getElem? h, h2⟩
  have hd : ∀ {s : Src} {l : List Src} {id : Nat}, okS HS0 H (s :: l) → s.isOld id = true → l.any (Src.isOld id) = false := by
    intro s l id h h2
    cases s with
    | old id' o => simp [Src.isOld] at h2; subst h2; exact h.2.1
    | birth E k => simp [Src.isOld] at h2
    | oldM id' o => simp [Src.isOld] at h2; subst h2; exact h.2.1
    | gone id' => simp [Src.isOld] at h2
  intro HS
  induction HS with
  | nil => intro i j id a b _ h; simp at h
  | cons s l ih =>
    intro i j id a b h hi hj ha hb
    cases i with
    | zero =>
      cases j with
      | zero => rfl
      | succ j =>
        simp at hi
        subst hi
        have := any_of (l := l) (i := j) (by simpa using hj) hb
        rw [hd h ha] at this; cases this
    | succ i =>
      cases j with
      | zero =>
        simp at hj
        subst hj
        have := any_of (l := l) (i := i) (by simpa using hi) ha
        rw [hd h hb] at this; cases this
      | succ j => rw [ih (i := i) (j := j) (okS_tail h) (by simpa using hi) (by simpa using hj) ha hb]

theorem okF_flat {HS : List Src} {H : List Cell} {a b : AV} (h : okF HS H a b) : okC HS H a.flat b.flat := by
  cases a <;> cases b <;> first | exact h | exact h.elim | exact ⟨h, trivial⟩

theorem okC_get {HS : List Src} {H : List Cell} : ∀ {as bs : List AV} {j : Nat} {e : AV}, okC HS H as bs → bs[j]? = some e → ∃ d, as[j]? = some d ∧ okB HS H d e
  | [], [], j, e, _, he => by simp at he
  | a :: as, b :: bs, 0, e, h, he => by simp at he; subst he; exact ⟨a, rfl, h.1⟩
  | a :: as, b :: bs, j + 1, e, h, he => by
    obtain ⟨d, h1, h2⟩ := okC_get h.2 (j := j) (by simpa using he)
    exact ⟨d, by simpa using h1, h2⟩
  | [], _ :: _, _, _, h, _ => h.elim
  | _ :: _, [], _, _, h, _ => h.elim
theorem okC_len {HS : List Src} {H : List Cell} : ∀ {as bs : List AV}, okC HS H as bs → as.length = bs.length
  | [], [], _ => rfl
  | a :: as, b :: bs, h => by simp [okC_len h.2]
  | [], _ :: _, h => h.elim
  | _ :: _, [], h => h.elim
theorem okC_app {HS : List Src} {H : List Cell} : ∀ {as bs cs ds : List AV}, okC HS H as bs → okC HS H cs ds → okC HS H (as ++ cs) (bs ++ ds)
  | [], [], cs, ds, _, h => h
  | a :: as, b :: bs, cs, ds, h, h' => ⟨h.1, okC_app h.2 h'⟩
  | [], _ :: _, _, _, h, _ => h.elim
  | _ :: _, [], _, _, h, _ => h.elim
theorem okEs_flat {HS : List Src} {H : List Cell} : ∀ {as bs : List AV}, okEs HS H as bs → okC HS H (as.flatMap AV.flat) (bs.flatMap AV.flat)
  | [], [], _ => trivial
  | a :: as, b :: bs, h => okC_app (okF_flat h.1) (okEs_flat h.2)
  | [], _ :: _, h => h.elim
  | _ :: _, [], h => h.elim
theorem okEs_len {HS : List Src} {H : List Cell} : ∀ {as bs : List AV}, okEs HS H as bs → as.length = bs.length
  | [], [], _ => rfl
  | a :: as, b :: bs, h => by simp [okEs_len h.2]
  | [], _ :: _, h => h.elim
  | _ :: _, [], h => h.elim
theorem okEs_flatLen {HS : List Src} {H : List Cell} : ∀ {as bs : List AV} {k : Nat}, okEs HS H as bs → (∀ e ∈ as, e.flat.length = k) → ∀ e ∈ bs, e.flat.length = k
  | [], [], _, _, _ => by simp
  | a :: as, b :: bs, k, h, hk => by
    intro e he
    rcases List.mem_cons.1 he with rfl | he
    · rw [← okC_len (okF_flat h.1)]; exact hk a (by simp)
    · exact okEs_flatLen h.2 (fun e he => hk e (by simp [he])) e he
  | [], _ :: _, _, h, _ => h.elim
  | _ :: _, [], _, h, _ => h.elim

/-- The zone with rows that are not kept. -/
def subM (HS : List Src) (H : List Cell) (M : Nat → Prop) (loc : Nat → Value) : Nat → Prop := fun b => M b ∨ ∃ id o, H[id]? = some (.row o) ∧ HS.any (Src.isOld id) = false ∧ (loc id).ownBlock = some b
def subLoc (HS : List Src) (loc : Nat → Value) : Nat → Value := fun j => match HS[j]? with
    | some (.old id _) => loc id
    | some (.oldM id _) => loc id
    | some (.gone id) => loc id
    | _ => .slice none 0 0

theorem okB_ok {X : Ctx} {M : Nat → Prop} {loc : Nat → Value} {st : St} {a : Act} {w : World} (h : RR X M loc st a w) {HS : List Src} {x : Value} {old new : AV} (he : okB HS st.heap old new) (hr : Rep w M loc x old) (hi : old.idLt st.heap.length) :
    RepC w (subM HS st.heap M loc) (subLoc HS loc) HS.length x new := by
  have hMM : ∀ b, M b → subM HS st.heap M loc b := fun b hb => .inl hb
  cases new with
  | bad => exact ⟨.inl (RepZ.bad _), trivial, rfl⟩
  | ow j =>
    simp only [okB] at he
    split at he
    · rename_i id o hj
      rw [he] at hr
      refine ⟨.inr ?_, (List.getElem?_eq_some_iff.1 hj).1, rfl⟩
      show _ = subLoc HS loc j
      simp only [subLoc, hj]
      exact hr
    · rename_i E k hj
      rw [he] at hr
      refine ⟨.inr ?_, (List.getElem?_eq_some_iff.1 hj).1, rfl⟩
      show _ = subLoc HS loc j
      simp only [subLoc, hj]
      exact hr.nil_inv
    · rename_i id o hj
      rw [he] at hr
      refine ⟨.inr ?_, (List.getElem?_eq_some_iff.1 hj).1, rfl⟩
      show _ = subLoc HS loc j
      simp only [subLoc, hj]
      exact hr
    · rename_i id hj
      rw [he] at hr
      refine ⟨.inr ?_, (List.getElem?_eq_some_iff.1 hj).1, rfl⟩
      show _ = subLoc HS loc j
      simp only [subLoc, hj]
      exact hr
    · exact he.elim
  | el j k i off =>
    simp only [okB] at he
    split at he
    · rename_i id o hj
      rw [he] at hr
      refine ⟨.inr ?_, (List.getElem?_eq_some_iff.1 hj).1, rfl⟩
      obtain ⟨g, n, c, h1, h2⟩ := hr
      refine ⟨g, n, c, ?_, h2⟩
      simp only [subLoc, hj]
      exact h1
    · exact he.elim
  | wn j k lo n =>
    simp only [okB] at he
    split at he
    · rename_i id o hj
      rw [he] at hr
      refine ⟨.inr ?_, (List.getElem?_eq_some_iff.1 hj).1, rfl⟩
      obtain ⟨A, c, h1, h2, h3, h4⟩ := hr
      refine ⟨A, c, h1, h2, h3, ?_⟩
      simp only [subLoc, hj]
      exact h4
    · exact he.elim
  | sl es =>
    simp only [okB] at he
    refine ⟨.inl ?_, trivial, rfl⟩
    rcases he with he | ⟨he, rfl⟩ | ⟨id, o, he, ho, rfl, hz, hn⟩ | ⟨id, k, lo, n, o, he, ho, hkl, rfl, hz, hn⟩
    · rw [he] at hr
      exact RepZ.mono (fun _ _ => rfl) hMM (Rep.repZ hr rfl)
    · rw [he] at hr
      rw [hr.nil_inv]
      exact RepZ.sl none 0 0 [] (fun _ => undef) (by simp) (by simp) (by simp) (by simp) (by simp) (by simp)
    · rw [he] at hr
      have hr' : x = loc id := hr
      rw [hr']
      exact h.frozenRow ho hz hMM (fun g hg => .inr ⟨id, o, ho, hn, hg⟩)
    · have hA : argA st.heap old = .sl ((o.es.drop lo).take n) := by
        rw [he]; simp only [argA, ho]; rw [if_pos ⟨hkl.1, hkl.2, hz⟩]
      have := argA_ok h (M' := subM HS st.heap M loc) hMM hr (by rw [hA]; rfl) (fun id' o' h1 h2 g hg => by
        rw [he] at h1
        simp [AV.ids] at h1
        subst h1
        exact .inr ⟨_, o', h2, hn, hg⟩)
      rw [hA] at this
      exact this
  | mb g y => exact he.elim
  | fn a b c => exact he.elim
  | tup a => exact he.elim
  | agg cs =>
    simp only [okB] at he
    obtain ⟨he, hz⟩ := he
    rw [he] at hr
    exact ⟨.inl (RepZ.mono (fun _ _ => rfl) hMM (Rep.repZ hr hz)), zone_idLt (e := .agg cs) hz _, hz⟩
  | _ =>
    simp only [okB] at he
    rw [he] at hr
    exact ⟨.inl (RepZ.mono (fun _ _ => rfl) hMM (Rep.repZ hr rfl)), trivial, rfl⟩

theorem okB_idB {HS : List Src} {H : List Cell} {old new : AV} {n : Nat} (he : okB HS H old new) (hi : ∀ id ∈ old.idB, id < n) (hb : new ≠ .bad) : old.idLt n := by
  cases new with
  | bad => exact (hb rfl).elim
  | ow j =>
    simp only [okB] at he
    split at he
    all_goals first | exact he.elim | (subst he; first | trivial | exact hi _ (by simp [AV.idB]))
  | el j k i off =>
    simp only [okB] at he
    split at he
    all_goals first | exact he.elim | (subst he; first | trivial | exact hi _ (by simp [AV.idB]))
  | wn j k i off =>
    simp only [okB] at he
    split at he
    all_goals first | exact he.elim | (subst he; first | trivial | exact hi _ (by simp [AV.idB]))
  | sl es =>
    simp only [okB] at he
    rcases he with he | ⟨he, rfl⟩ | ⟨id, o, he, _⟩ | ⟨id, k, lo, n, o, he, _⟩
    all_goals (subst he; first | trivial | exact hi _ (by simp [AV.idB]))
  | mb g y => exact he.elim
  | fn a b c => exact he.elim
  | agg cs => simp only [okB] at he; obtain ⟨he, hz⟩ := he; subst he; exact zone_idLt (e := .agg cs) hz _
  | tup a => exact he.elim
  | _ => simp only [okB] at he; subst he; trivial

/-- THE WEAKENING: slots are forgotten, rows are numbered anew, frozen, or born of nil. -/
theorem sub_ofM {X : Ctx} {st : St} (L : List (Nat × AV)) (HS : List Src) (hS : okS HS st.heap HS) (hL : okL HS st L) {a : Act} {w : World} {M : Nat → Prop} {loc : Nat → Value} (h : RR X M loc st a w) :
    ∃ M' loc', (∀ b, M b → M' b) ∧ RR X M' loc' ⟨mkE L, HS.map Src.cell⟩ a w := by
  let M' : Nat → Prop := subM HS st.heap M loc
  let loc' : Nat → Value := subLoc HS loc
  have hMM : ∀ b, M b → M' b := fun b hb => .inl hb
  have get : ∀ (j : Nat) (o : Cell), (HS.map Src.cell)[j]? = some o → ∃ s, HS[j]? = some s ∧ s.cell = o := by
    intro j o hj
    rw [List.getElem?_map] at hj
    cases hs : HS[j]? with
    | none => rw [hs] at hj; cases hj
    | some s => rw [hs] at hj; simp at hj; exact ⟨s, rfl, hj⟩
  have lst : ∀ (as bs : List AV) (cs : Array Value), okC HS st.heap as bs → (∀ (j : Nat) (c : Value) (e : AV), cs[j]? = some c → as[j]? = some e → RepB w M loc c e) → (∀ e ∈ as, ∀ id ∈ e.idB, id < st.heap.length) →
      (∀ (j : Nat) (c : Value) (e : AV), cs[j]? = some c → bs[j]? = some e → RepB w M' loc' c e) ∧ ∀ e ∈ bs, ∀ id ∈ e.idB, id < HS.length := by
    intro as bs cs hc hr hi
    have one : ∀ (j : Nat) (e : AV), bs[j]? = some e → e = .bad ∨ ∃ d, as[j]? = some d ∧ okB HS st.heap d e ∧ d.idLt st.heap.length := by
      intro j e he
      obtain ⟨d, h1, h2⟩ := okC_get hc he
      by_cases hb : e = .bad
      · exact .inl hb
      · exact .inr ⟨d, h1, h2, okB_idB h2 (hi d (List.mem_of_getElem? h1)) hb⟩
    refine ⟨fun j c e hcj he => ?_, fun e he id hid => ?_⟩
    · rcases one j e he with rfl | ⟨d, h1, h2, h3⟩
      · exact .inl (RepZ.bad _)
      · exact (okB_ok h h2 (hr j c d hcj h1).rep h3).1
    · obtain ⟨j, hj, rfl⟩ := List.getElem_of_mem he
      rcases one j _ (List.getElem?_eq_getElem hj) with hb | ⟨d, h1, h2, h3⟩
      · rw [hb] at hid; simp [AV.idB] at hid
      · -- the bound does not look at the value
        have hB : (bs[j]).idLt HS.length := by
          cases hn : bs[j] with
          | ow q => rw [hn] at h2; simp only [okB] at h2; split at h2 <;> first | exact (List.getElem?_eq_some_iff.1 (by assumption)).1 | exact h2.elim
          | el q _ _ _ => rw [hn] at h2; simp only [okB] at h2; split at h2 <;> first | exact (List.getElem?_eq_some_iff.1 (by assumption)).1 | exact h2.elim
          | wn q _ _ _ => rw [hn] at h2; simp only [okB] at h2; split at h2 <;> first | exact (List.getElem?_eq_some_iff.1 (by assumption)).1 | exact h2.elim
          | mb g y => rw [hn] at h2; exact h2.elim
          | fn a b c => rw [hn] at h2; exact h2.elim
          | tup a => rw [hn] at h2; exact h2.elim
          | agg cs => rw [hn] at h2; exact zone_idLt (e := .agg cs) h2.2 _
          | _ => trivial
        refine (idLt_iff _ _).1 hB id ?_
        revert hid
        cases bs[j] <;> simp [AV.idB, AV.ids]
  have env : ∀ (L : List (Nat × AV)), okL HS st L → ∀ s, Rep w M' loc' (if s < G0 then a.tmps.getD s undef else X.gh (s - G0)) (mkE L s) ∧ (mkE L s).idLt HS.length := by
    intro L
    induction L with
    | nil => intro _ s; exact ⟨(RepZ.bad _).rep, trivial⟩
    | cons p l ih =>
      obtain ⟨t, v⟩ := p
      intro hl s
      simp only [mkE, upd]
      by_cases hst : s = t
      · rw [if_pos hst]
        subst hst
        have he := hl.1
        have hr := h.env s
        have hi := h.ids s
        revert hr hi he
        generalize st.env s = old
        generalize (if s < G0 then a.tmps.getD s undef else X.gh (s - G0)) = x
        intro he hr hi
        cases v with
        | fn f first cap =>
          cases old with
          | fn f' first' cap' =>
            simp only [okE] at he
            obtain ⟨rfl, h1, h2⟩ := he
            obtain ⟨fs, cs, e1, e2, e3, e4, e5⟩ := hr
            obtain ⟨q1, q2⟩ := lst first' first fs h1 e4 (fun e he => hi e (List.mem_append_left _ he))
            obtain ⟨q3, q4⟩ := lst cap' cap cs h2 e5 (fun e he => hi e (List.mem_append_right _ he))
            refine ⟨⟨fs, cs, e1, by rw [e2, okC_len h1], by rw [e3, okC_len h2], q1, q3⟩, fun e he => ?_⟩
            rcases List.mem_append.1 he with he | he
            · exact q2 e he
            · exact q4 e he
          | _ => exact he.elim
        | agg bs =>
          cases old with
          | agg as =>
            simp only [okE] at he
            obtain ⟨ca, e1, e2, e3⟩ := hr
            rcases he with ⟨rfl, hz⟩ | hc
            · have hzz := (show Rep w M loc x (.agg as) from ⟨ca, e1, e2, e3⟩).repZ hz
              exact ⟨(hzz.mono (fun _ _ => rfl) hMM).rep, zone_idLt (e := .agg as) hz _⟩
            · obtain ⟨q1, q2⟩ := lst as bs ca hc e3 hi
              exact ⟨⟨ca, e1, by rw [e2, okC_len hc], q1⟩, q2⟩
          | _ => exact he.elim
        | _ =>
          simp only [okE] at he
          have := okB_ok h (HS := HS) he hr hi
          exact ⟨this.1.rep, this.2.1⟩
      · rw [if_neg hst]; exact ih hl.2 s
  have mloc : ∀ j m, (HS.map Src.cell)[j]? = some (.map m) → ∃ id, HS[j]? = some (.oldM id m) ∧ loc' j = loc id ∧ st.heap[id]? = some (.map m) := by
    intro j m hj
    obtain ⟨s, hs, hc⟩ := get j _ hj
    cases s with
    | old id o => cases hc
    | birth E k => cases hc
    | gone id => cases hc
    | oldM id m' =>
      cases hc
      exact ⟨id, hs, by simp only [loc', subLoc, hs], okS_getM hS hs⟩
  refine ⟨M', loc', hMM, fun s => (env L hL s).1, h.nle, h.size, h.defers, fun j o hj => ?_, fun i j oi oj hij hi hj => ?_, fun j m hj => ?_, fun i j mi mj hij hi hj => ?_, h.below, fun b hb => ?_, fun b hb => .inl (h.zin b hb), h.zlt, fun j hj => ?_, fun s => by rw [List.length_map]; exact (env L hL s).2⟩
  · obtain ⟨s, hs, hc⟩ := get j _ hj
    rw [List.length_map]
    cases s with
    | oldM id m => cases hc
    | gone id => cases hc
    | birth E k =>
      cases hc
      have hl : loc' j = .slice none 0 0 := by simp only [loc', subLoc, hs]
      rw [hl]
      exact ⟨⟨[], World.ownsRow_nil w _ _ _, by simp⟩, by simp, fun g hg => by simp [Value.ownBlock] at hg, fun g hg => by simp [Value.ownBlock] at hg⟩
    | old id o =>
      cases hc
      have hl : loc' j = loc id := by simp only [loc', subLoc, hs]
      rw [hl]
      obtain ⟨o0, ho, ⟨hE, hk⟩, hcon⟩ := okR_row (okS_get hS hs)
      have hob := h.obj id o0 ho
      obtain ⟨xs, h1, h2⟩ := hob.own
      have hlen : o0.es.length = o.es.length := by
        rcases hcon with ⟨e, _⟩ | e
        · rw [e]
        · exact okEs_len e
      refine ⟨⟨xs, by rw [← hE, ← hk, ← hlen]; exact h1, fun j e he => ?_⟩, fun e he => ?_, fun g hg hm => ?_, hob.mine⟩
      · rcases hcon with ⟨e1, hz⟩ | hc
        · obtain ⟨x, hx, hr⟩ := h2 j e (by rw [e1]; exact he)
          have hze := zoneEs_flat hz he
          exact ⟨x, hx, .inl ((hr.1.repZ hze).mono (fun _ _ => rfl) hMM), zone_idLt hze _, hr.2.2⟩
        · obtain ⟨d, hd, hdb⟩ := okC_get (okEs_flat hc) he
          obtain ⟨x, hx, hr⟩ := h2 j d hd
          exact ⟨x, hx, okB_ok h hdb hr.1.rep hr.2.1⟩
      · rcases hcon with ⟨e1, _⟩ | hc
        · rw [← hk]; exact hob.flat e (by rw [e1]; exact he)
        · rw [← hk]; exact okEs_flatLen hc hob.flat e he
      · rcases hm with hm | ⟨id2, o2, ho2, hn, hb⟩
        · exact hob.away g hg hm
        · have hne : id2 ≠ id := by
            rintro rfl
            have : HS.any (Src.isOld id2) = true := List.any_eq_true.2 ⟨_, List.mem_of_getElem? hs, by simp [Src.isOld]⟩
            rw [hn] at this; cases this
          rcases h.sep id2 id o2 o0 hne ho2 ho with h3 | h3
          · rw [hb] at h3; cases h3
          · exact h3 (by rw [hb, hg])
  · obtain ⟨si, hsi, hci⟩ := get i _ hi
    obtain ⟨sj, hsj, hcj⟩ := get j _ hj
    cases si with
    | oldM id m => cases hci
    | gone id => cases hci
    | birth E k =>
      left
      have hl : loc' i = .slice none 0 0 := by simp only [loc', subLoc, hsi]
      rw [hl]; rfl
    | old id o =>
      have hl : loc' i = loc id := by simp only [loc', subLoc, hsi]
      cases sj with
      | oldM id m => cases hcj
      | gone id => cases hcj
      | birth E k =>
        have hl2 : loc' j = .slice none 0 0 := by simp only [loc', subLoc, hsj]
        rw [hl, hl2]
        cases hb : (loc id).ownBlock with
        | none => exact .inl rfl
        | some b => right; intro e; simp [Value.ownBlock] at e
      | old id2 o2 =>
        have hl2 : loc' j = loc id2 := by simp only [loc', subLoc, hsj]
        rw [hl, hl2]
        obtain ⟨o0, ho, _⟩ := okR_row (okS_get hS hsi)
        obtain ⟨o02, ho2, _⟩ := okR_row (okS_get hS hsj)
        refine h.sep id id2 _ _ ?_ ho ho2
        rintro rfl
        exact hij (okS_inj (id := id) hS hsi hsj (by simp [Src.isOld]) (by simp [Src.isOld]))
  · obtain ⟨id, hs, hl, hm⟩ := mloc j m hj
    rw [hl]
    obtain ⟨g, es, clock, h1, h2, h3, h4, h5⟩ := (h.mobj id m hm).own
    refine ⟨g, es, clock, h1, h2, fun hg => ?_, h4, h5.mono (fun _ _ => rfl) hMM⟩
    rcases hg with hg | ⟨id2, o2, ho2, _, hb⟩
    · exact h3 hg
    · obtain ⟨cs, t, fr, hcells⟩ := ownsRow_cells (h.obj id2 o2 ho2).own.choose_spec.1 g hb
      rw [h4] at hcells; cases hcells
  · obtain ⟨id, hs, hl, hm⟩ := mloc i mi hi
    obtain ⟨id2, hs2, hl2, hm2⟩ := mloc j mj hj
    rw [hl, hl2]
    refine h.msep id id2 mi mj ?_ hm hm2
    rintro rfl
    exact hij (okS_inj (id := id) hS hs hs2 (by simp [Src.isOld]) (by simp [Src.isOld]))
  · rcases hb with hb | ⟨id, o, ho, _, hb⟩
    · exact h.zone b hb
    · have hob := h.obj id o ho
      obtain ⟨xs, hown, _⟩ := hob.own
      exact ⟨(hown.lt b hb).2, .inr (hob.mine b hb)⟩
  · rw [List.length_map] at hj
    simp only [loc', subLoc]
    cases hs : HS[j]? with
    | none => rfl
    | some s =>
      cases s with
      | birth E k => rfl
      | old id o =>
        obtain ⟨o0, ho, _⟩ := okR_row (okS_get hS hs)
        exact h.one id (List.getElem?_eq_some_iff.1 ho).1
      | oldM id m => exact h.one id (List.getElem?_eq_some_iff.1 (okS_getM hS hs)).1
      | gone id => exact h.one id (okS_gone hS hs)

theorem sub_of {X : Ctx} {st : St} (L : List (Nat × AV)) (HS : List Src) (hS : okS HS st.heap HS) (hL : okL HS st L) : Sub X ⟨mkE L, HS.map Src.cell⟩ st := by
  rintro a w ⟨M, loc, h⟩
  obtain ⟨M', loc', _, h'⟩ := sub_ofM L HS hS hL h
  exact ⟨M', loc', h'⟩

end Go.Ab
