/-
  Code over abstract states: rules for each form, loops, weakening, functions.
-/
import Derived.Test.YtgccheogieddnaaAbsStep
set_option linter.all false
namespace Go.Ab
open Go.RowKit

/-- Whatever state fits, the code ends in one of which Q holds. -/
def AWP (P : Program) (X : Ctx) (c : Code) (Q : Exit → St → Prop) (st : St) : Prop :=
  ∀ a w, R X st a w → c.wp P (fun e a' w' => ∃ st', Q e st' ∧ R X st' a' w') a w

def thenQ (P : Program) (X : Ctx) (y : Code) (Q : Exit → St → Prop) : Exit → St → Prop
  | .normal, st => AWP P X y Q st
  | e, st => Q e st

def blkQ (id : Nat) (Q : Exit → St → Prop) : Exit → St → Prop
  | .exit i, st => if i = id then Q .normal st else Q (.exit i) st
  | e, st => Q e st

/-- What fits st fits st0. -/
def Sub (X : Ctx) (st0 st : St) : Prop := ∀ a w, R X st a w → R X st0 a w

def loopQ {α : Type} (X : Ctx) (S : α → St) (I : α → Prop) (μ : α → Nat) (x : α) (Q : Exit → St → Prop) : Exit → St → Prop
  | .normal, st => ∃ x', I x' ∧ μ x' < μ x ∧ Sub X (S x') st
  | e, st => Q e st

section
variable {P : Program} {X : Ctx} {Q : Exit → St → Prop} {st : St}

theorem awp_mono {c : Code} {Q' : Exit → St → Prop} (h : AWP P X c Q st) (hq : ∀ e st', Q e st' → Q' e st') : AWP P X c Q' st :=
  fun a w hr => wp_mono (h a w hr) fun e a' w' ⟨st', h1, h2⟩ => ⟨st', hq e st' h1, h2⟩
theorem awp_sub {c : Code} {st0 : St} (hs : Sub X st0 st) (h : AWP P X c Q st0) : AWP P X c Q st := fun a w hr => h a w (hs a w hr)
theorem awp_skip (h : Q .normal st) : AWP P X .skip Q st := fun a w hr => wp_skip ⟨st, h, hr⟩
theorem awp_label {l : Nat} (h : Q .normal st) : AWP P X (.label l) Q st := fun a w hr => wp_label ⟨st, h, hr⟩
theorem awp_exit {id : Nat} (h : Q (.exit id) st) : AWP P X (.exit id) Q st := fun a w hr => wp_exit ⟨st, h, hr⟩
theorem awp_ret (h : Q .ret st) : AWP P X .ret Q st := fun a w hr => wp_ret ⟨st, h, hr⟩
theorem awp_seq {x y : Code} (h : AWP P X x (thenQ P X y Q) st) : AWP P X (.seq x y) Q st := fun a w hr =>
  wp_seq (wp_mono (h a w hr) fun e a' w' ⟨st', h1, h2⟩ => by
    cases e with
    | normal => exact h1 a' w' h2
    | _ => exact ⟨st', h1, h2⟩)
theorem awp_block {id : Nat} {c : Code} (h : AWP P X c (blkQ id Q) st) : AWP P X (.block id c) Q st := fun a w hr =>
  wp_block (wp_mono (h a w hr) fun e a' w' ⟨st', h1, h2⟩ => by
    cases e with
    | exit i =>
      simp only [blkQ] at h1
      simp only [Exit.inBlock]
      split at h1
      · rename_i hi; rw [if_pos hi]; exact ⟨st', h1, h2⟩
      · rename_i hi; rw [if_neg hi]; exact ⟨st', h1, h2⟩
    | _ => exact ⟨st', h1, h2⟩)
theorem awp_cond {c : Operand} {x y : Code} {b : Bool} (hc : ev st.env c = .v (.bool b)) (h1 : b = true → AWP P X x Q st) (h2 : b = false → AWP P X y Q st) : AWP P X (.cond c x y) Q st := by
  intro a w hr
  obtain ⟨M, loc, h⟩ := hr
  have hv := h.ev c
  rw [hc] at hv
  exact wp_cond_split hv.v_inv (fun hb => h1 hb a w ⟨M, loc, h⟩) (fun hb => h2 hb a w ⟨M, loc, h⟩)

theorem least {p : Nat → Prop} (h : ∃ k, p k) : ∃ k, p k ∧ ∀ m, p m → k ≤ m := by
  obtain ⟨n, hn⟩ := h
  induction n using Nat.strongRecOn with
  | _ n ih =>
    by_cases hm : ∃ m, p m ∧ m < n
    · obtain ⟨m, h1, h2⟩ := hm
      exact ih m h2 h1
    · exact ⟨n, hn, fun m h1 => Nat.le_of_not_lt fun h2 => hm ⟨m, h1, h2⟩⟩

theorem awp_loop {α : Type} {c : Code} (S : α → St) (I : α → Prop) (μ : α → Nat) (x0 : α) (h0 : Sub X (S x0) st) (hi : I x0)
    (round : ∀ x, I x → AWP P X c (loopQ X S I μ x Q) (S x)) : AWP P X (.loop c) Q st := by
  intro a w hr
  have hr0 := h0 a w hr
  classical
  let J : Act → World → Prop := fun a w => ∃ x, I x ∧ R X (S x) a w
  let m : Act → World → Nat := fun a w => if h : ∃ k x, I x ∧ R X (S x) a w ∧ μ x = k then Classical.choose (least h) else 0
  refine wp_loop J m ⟨x0, hi, hr0⟩ fun a w hJ => ?_
  have hex : ∃ k x, I x ∧ R X (S x) a w ∧ μ x = k := by
    obtain ⟨x, h1, h2⟩ := hJ
    exact ⟨μ x, x, h1, h2, rfl⟩
  have hm : m a w = Classical.choose (least hex) := dif_pos hex
  obtain ⟨x, hx1, hx2, hx3⟩ := (Classical.choose_spec (least hex)).1
  refine wp_mono (round x hx1 a w hx2) fun e a' w' ⟨st', h1, h2⟩ => ?_
  cases e with
  | normal =>
    obtain ⟨x', h3, h4, h5⟩ := h1
    have hr' := h5 a' w' h2
    refine ⟨⟨x', h3, hr'⟩, ?_⟩
    have hex' : ∃ k x, I x ∧ R X (S x) a' w' ∧ μ x = k := ⟨μ x', x', h3, hr', rfl⟩
    have hm' : m a' w' = Classical.choose (least hex') := dif_pos hex'
    rw [hm, hm']
    have := (Classical.choose_spec (least hex')).2 (μ x') ⟨x', h3, hr', rfl⟩
    omega
  | _ => exact ⟨st', h1, h2⟩

theorem awp_region {id : Nat} {ops : Array Oper} {st' : St} (h : RunR P ops X.n ops.toList st st') (hq : Q .normal st') : AWP P X (.region id ops false) Q st := fun a w hr =>
  wp_region_list (run_wp (Q := fun e a' w' => ∃ st', Q e st' ∧ R X st' a' w') (fun a' w' hr' => ⟨st', hq, hr'⟩) ops.toList st a w h hr)

theorem Sub.refl : Sub X st st := fun _ _ h => h
theorem Sub.trans {a b c : St} (h : Sub X a b) (k : Sub X b c) : Sub X a c := fun x w hr => h x w (k x w hr)

end

/-- A state written as a list of slots. -/
def mkE : List (Nat × AV) → Nat → AV
  | [] => fun _ => .bad
  | (s, v) :: l => upd (mkE l) s v

inductive Src where
  | old (id : Nat) (o : Ob)
  | birth (E k : Nat)
  | oldM (id : Nat) (m : MOb)

def Src.cell : Src → Cell
  | .old _ o => .row o
  | .birth E k => .row ⟨E, k, []⟩
  | .oldM _ m => .map m

def Src.isOld (id : Nat) : Src → Bool
  | .old i _ => i == id
  | .birth .. => false
  | .oldM i _ => i == id

/-- Whether a slot's abstract value may be read so. -/
def okE (HS : List Src) (H : List Cell) (old new : AV) : Prop :=
  match new with
  | .bad => True
  | .ow j => match HS[j]? with
    | some (.old id _) => old = .ow id
    | some (.birth _ _) => old = .nil
    | some (.oldM id _) => old = .ow id
    | none => False
  | .el j k i off => match HS[j]? with
    | some (.old id _) => old = .el id k i off
    | _ => False
  | .sl es => old = .sl es ∨ (old = .nil ∧ es = []) ∨ ∃ id o, old = .ow id ∧ H[id]? = some (.row o) ∧ o.es = es ∧ HS.any (Src.isOld id) = false
  | .mb _ _ => False
  | x => old = x

def okS (H : List Cell) : List Src → Prop
  | [] => True
  | .old id o :: l => H[id]? = some (.row o) ∧ l.any (Src.isOld id) = false ∧ okS H l
  | .birth _ _ :: l => okS H l
  | .oldM id m :: l => H[id]? = some (.map m) ∧ l.any (Src.isOld id) = false ∧ okS H l

def okL (HS : List Src) (st : St) : List (Nat × AV) → Prop
  | [] => True
  | (s, v) :: l => okE HS st.heap (st.env s) v ∧ okL HS st l

theorem okS_tail {H : List Cell} {s : Src} {l : List Src} (h : okS H (s :: l)) : okS H l := by
  cases s with
  | old id o => exact h.2.2
  | birth E k => exact h
  | oldM id m => exact h.2.2

theorem okS_get {H : List Cell} : ∀ {HS : List Src} {j id : Nat} {o : Ob}, okS H HS → HS[j]? = some (.old id o) → H[id]? = some (.row o)
  | [], j, id, o, h, hj => by simp at hj
  | s :: l, 0, id, o, h, hj => by
    simp at hj; subst hj; exact h.1
  | s :: l, j + 1, id, o, h, hj => okS_get (okS_tail h) (by simpa using hj)

theorem okS_getM {H : List Cell} : ∀ {HS : List Src} {j id : Nat} {o : MOb}, okS H HS → HS[j]? = some (.oldM id o) → H[id]? = some (.map o)
  | [], j, id, o, h, hj => by simp at hj
  | s :: l, 0, id, o, h, hj => by
    simp at hj; subst hj; exact h.1
  | s :: l, j + 1, id, o, h, hj => okS_getM (okS_tail h) (by simpa using hj)

theorem okS_inj {H : List Cell} : ∀ {HS : List Src} {i j id : Nat} {a b : Src}, okS H HS → HS[i]? = some a → HS[j]? = some b → a.isOld id = true → b.isOld id = true → i = j := by
  have any_of : ∀ {l : List Src} {i id : Nat} {a : Src}, l[i]? = some a → a.isOld id = true → l.any (Src.isOld id) = true := by
    intro l i id a h h2
    exact List.any_eq_true.2 ⟨_, List.mem_of_getElem? h, h2⟩
  have hd : ∀ {s : Src} {l : List Src} {id : Nat}, okS H (s :: l) → s.isOld id = true → l.any (Src.isOld id) = false := by
    intro s l id h h2
    cases s with
    | old id' o => simp [Src.isOld] at h2; subst h2; exact h.2.1
    | birth E k => simp [Src.isOld] at h2
    | oldM id' o => simp [Src.isOld] at h2; subst h2; exact h.2.1
  intro HS
  induction HS with
  | nil => intro i j id a b _ h; simp at h
  | cons s l ih =>
    intro i j id a b h hi hj ha hb
    cases i with
    | zero =>
      cases j with
      | zero => rfl
      | succ j =>
        simp at hi
        subst hi
        have := any_of (l := l) (i := j) (by simpa using hj) hb
        rw [hd h ha] at this; cases this
    | succ i =>
      cases j with
      | zero =>
        simp at hj
        subst hj
        have := any_of (l := l) (i := i) (by simpa using hi) ha
        rw [hd h hb] at this; cases this
      | succ j => rw [ih (i := i) (j := j) (okS_tail h) (by simpa using hi) (by simpa using hj) ha hb]

theorem RR.frozen {X : Ctx} {M : Nat → Prop} {loc : Nat → Value} {st : St} {a : Act} {w : World} (h : RR X M loc st a w) {id : Nat} {o : Ob} (ho : st.heap[id]? = some (.row o)) {M' : Nat → Prop} (hM : ∀ b, M b → M' b)
    (hb : ∀ g, (loc id).ownBlock = some g → M' g) : RepZ w M' (loc id) (.sl o.es) := by
  have := argA_ok h hM (v := loc id) (e := .ow id) rfl (by simp [argA, ho, AV.argOK]) (fun id' o' e1 e2 g hg => by cases e1; exact hb g hg)
  simpa [argA, ho] using this

/-- THE WEAKENING: slots are forgotten, rows are numbered anew, frozen, or born of nil. -/
theorem sub_of {X : Ctx} {st : St} (L : List (Nat × AV)) (HS : List Src) (hS : okS st.heap HS) (hL : okL HS st L) : Sub X ⟨mkE L, HS.map Src.cell⟩ st := by
  rintro a w ⟨M, loc, h⟩
  let M' : Nat → Prop := fun b => M b ∨ ∃ id o, st.heap[id]? = some (.row o) ∧ HS.any (Src.isOld id) = false ∧ (loc id).ownBlock = some b
  let loc' : Nat → Value := fun j => match HS[j]? with
    | some (.old id _) => loc id
    | some (.oldM id _) => loc id
    | _ => .slice none 0 0
  have hMM : ∀ b, M b → M' b := fun b hb => .inl hb
  have get : ∀ (j : Nat) (o : Cell), (HS.map Src.cell)[j]? = some o → ∃ s, HS[j]? = some s ∧ s.cell = o := by
    intro j o hj
    rw [List.getElem?_map] at hj
    cases hs : HS[j]? with
    | none => rw [hs] at hj; cases hj
    | some s => rw [hs] at hj; simp at hj; exact ⟨s, rfl, hj⟩
  have env : ∀ (L : List (Nat × AV)), okL HS st L → ∀ s, Rep w M' loc' (a.tmps.getD s undef) (mkE L s) ∧ (mkE L s).idLt HS.length := by
    intro L
    induction L with
    | nil => intro _ s; exact ⟨(RepZ.bad _).rep, trivial⟩
    | cons p l ih =>
      obtain ⟨t, v⟩ := p
      intro hl s
      simp only [mkE, upd]
      split
      · rename_i hst
        subst hst
        have he := hl.1
        have hr := h.env s
        cases v with
        | bad => exact ⟨(RepZ.bad _).rep, trivial⟩
        | ow j =>
          simp only [okE] at he
          split at he
          · rename_i id o hj
            rw [he] at hr
            refine ⟨?_, (List.getElem?_eq_some_iff.1 hj).1⟩
            show _ = loc' j
            simp only [loc', hj]
            exact hr
          · rename_i E k hj
            rw [he] at hr
            refine ⟨?_, (List.getElem?_eq_some_iff.1 hj).1⟩
            show _ = loc' j
            simp only [loc', hj]
            exact hr.nil_inv
          · rename_i id o hj
            rw [he] at hr
            refine ⟨?_, (List.getElem?_eq_some_iff.1 hj).1⟩
            show _ = loc' j
            simp only [loc', hj]
            exact hr
          · exact he.elim
        | el j k i off =>
          simp only [okE] at he
          split at he
          · rename_i id o hj
            rw [he] at hr
            refine ⟨?_, (List.getElem?_eq_some_iff.1 hj).1⟩
            obtain ⟨g, n, c, h1, h2⟩ := hr
            refine ⟨g, n, c, ?_, h2⟩
            simp only [loc', hj]
            exact h1
          · exact he.elim
        | sl es =>
          simp only [okE] at he
          refine ⟨?_, trivial⟩
          rcases he with he | ⟨he, rfl⟩ | ⟨id, o, he, ho, rfl, hn⟩
          · rw [he] at hr
            exact (RepZ.mono (fun _ _ => rfl) hMM (Rep.repZ hr rfl)).rep
          · rw [he] at hr
            rw [hr.nil_inv]
            exact (RepZ.sl none 0 0 [] (fun _ => undef) (by simp) (by simp) (by simp) (by simp) (by simp) (by simp)).rep
          · rw [he] at hr
            have hr' : a.tmps.getD s undef = loc id := hr
            rw [hr']
            exact (h.frozen ho hMM (fun g hg => .inr ⟨id, o, ho, hn, hg⟩)).rep
        | mb g y => simp only [okE] at he
        | _ =>
          simp only [okE] at he
          rw [he] at hr
          exact ⟨(RepZ.mono (fun _ _ => rfl) hMM (Rep.repZ hr rfl)).rep, trivial⟩
      · exact ih hl.2 s
  have mloc : ∀ j m, (HS.map Src.cell)[j]? = some (.map m) → ∃ id, HS[j]? = some (.oldM id m) ∧ loc' j = loc id ∧ st.heap[id]? = some (.map m) := by
    intro j m hj
    obtain ⟨s, hs, hc⟩ := get j _ hj
    cases s with
    | old id o => cases hc
    | birth E k => cases hc
    | oldM id m' =>
      cases hc
      exact ⟨id, hs, by simp only [loc', hs], okS_getM hS hs⟩
  refine ⟨M', loc', fun s => (env L hL s).1, h.size, h.defers, fun j o hj => ?_, fun i j oi oj hij hi hj => ?_, fun j m hj => ?_, fun i j mi mj hij hi hj => ?_, h.below, fun b hb => ?_, fun b hb => .inl (h.zin b hb), h.zlt, fun s => by rw [List.length_map]; exact (env L hL s).2⟩
  · obtain ⟨s, hs, hc⟩ := get j _ hj
    cases s with
    | oldM id m => cases hc
    | birth E k =>
      cases hc
      have hl : loc' j = .slice none 0 0 := by simp only [loc', hs]
      rw [hl]
      exact ⟨⟨[], World.ownsRow_nil w _ _ _, by simp⟩, by simp, fun g hg => by simp [Value.ownBlock] at hg⟩
    | old id o =>
      cases hc
      have hl : loc' j = loc id := by simp only [loc', hs]
      rw [hl]
      have ho := okS_get hS hs
      have hob := h.obj id o ho
      obtain ⟨xs, h1, h2⟩ := hob.own
      refine ⟨⟨xs, h1, fun j e he => ?_⟩, hob.flat, fun g hg hm => ?_⟩
      · obtain ⟨x, hx, hr⟩ := h2 j e he
        exact ⟨x, hx, hr.mono (fun _ _ => rfl) hMM⟩
      · rcases hm with hm | ⟨id2, o2, ho2, hn, hb⟩
        · exact hob.away g hg hm
        · have hne : id2 ≠ id := by
            rintro rfl
            have : HS.any (Src.isOld id2) = true := List.any_eq_true.2 ⟨_, List.mem_of_getElem? hs, by simp [Src.isOld]⟩
            rw [hn] at this; cases this
          rcases h.sep id2 id o2 o hne ho2 ho with h3 | h3
          · rw [hb] at h3; cases h3
          · exact h3 (by rw [hb, hg])
  · obtain ⟨si, hsi, hci⟩ := get i _ hi
    obtain ⟨sj, hsj, hcj⟩ := get j _ hj
    cases si with
    | oldM id m => cases hci
    | birth E k =>
      left
      have hl : loc' i = .slice none 0 0 := by simp only [loc', hsi]
      rw [hl]; rfl
    | old id o =>
      have hl : loc' i = loc id := by simp only [loc', hsi]
      cases sj with
      | oldM id m => cases hcj
      | birth E k =>
        have hl2 : loc' j = .slice none 0 0 := by simp only [loc', hsj]
        rw [hl, hl2]
        cases hb : (loc id).ownBlock with
        | none => exact .inl rfl
        | some b => right; intro e; simp [Value.ownBlock] at e
      | old id2 o2 =>
        have hl2 : loc' j = loc id2 := by simp only [loc', hsj]
        rw [hl, hl2]
        cases hci; cases hcj
        refine h.sep id id2 _ _ ?_ (okS_get hS hsi) (okS_get hS hsj)
        rintro rfl
        exact hij (okS_inj (id := id) hS hsi hsj (by simp [Src.isOld]) (by simp [Src.isOld]))
  · obtain ⟨id, hs, hl, hm⟩ := mloc j m hj
    rw [hl]
    obtain ⟨g, es, clock, h1, h2, h3, h4, h5⟩ := (h.mobj id m hm).own
    refine ⟨g, es, clock, h1, h2, fun hg => ?_, h4, h5.mono (fun _ _ => rfl) hMM⟩
    rcases hg with hg | ⟨id2, o2, ho2, _, hb⟩
    · exact h3 hg
    · obtain ⟨cs, t, fr, hcells⟩ := ownsRow_cells (h.obj id2 o2 ho2).own.choose_spec.1 g hb
      rw [h4] at hcells; cases hcells
  · obtain ⟨id, hs, hl, hm⟩ := mloc i mi hi
    obtain ⟨id2, hs2, hl2, hm2⟩ := mloc j mj hj
    rw [hl, hl2]
    refine h.msep id id2 mi mj ?_ hm hm2
    rintro rfl
    exact hij (okS_inj (id := id) hS hs hs2 (by simp [Src.isOld]) (by simp [Src.isOld]))
  · rcases hb with hb | ⟨id, o, ho, _, hb⟩
    · exact h.zone b hb
    · obtain ⟨xs, hown, _⟩ := (h.obj id o ho).own
      have := hown.lt b hb
      exact ⟨this.2, .inr this.1⟩

end Go.Ab
