import Derived.Test.YtebinaffldlihaaGreatDoorBigS
import Derived.Test.YtebinaffldlihaaGreatDoorFw5
set_option linter.all false
namespace Go.Proofs.YtebinaffldlihaaGreatDoor
open Go.RowKit Go.Ab
theorem l5 {P : Program} {f : FuncId} {E k : Nat} {es : List AV} (pre : List AV) {rest : List AV} {r : AV} (hz : zoneEs es = true) (hpre : ∀ e ∈ pre, e.zone = true) (hrest : ∀ e ∈ rest, e.zone = true) (hrz : r.zone = true)
    (h : Means false P f (pre ++ .sl es :: rest) r) : MeansH P f [.row ⟨E, k, es⟩] (pre ++ .ow 0 :: rest) r [.dead] := by
  intro w M loc vs hM hg hS hsz hargs
  have hob := hS.obj 0 ⟨E, k, es⟩ rfl
  obtain ⟨xs, hown, hxs⟩ := hob.own
  have hlt : ∀ g, (loc 0).ownBlock = some g → g < w.heap.size := fun g hg => (hown.lt g hg).2
  let MM : Nat → Prop := fun b => M b ∨ (loc 0).ownBlock = some b
  have hMM : ∀ b, MM b → b < w.heap.size := fun b hb => hb.elim (hM b) (hlt b)
  have hfr : RepZ w MM (loc 0) (.sl es) := by
    rcases hown.2 with ⟨hn, h0⟩ | ⟨g, cap, cur, hn, hbg, hheap, hnc, hcm, hcs, htake⟩
    · have hes : es = [] := List.eq_nil_of_length_eq_zero h0
      rw [hn, hes]
      exact .sl none 0 k [] (fun _ => undef) (by simp) (by simp) (by simp) (by simp) (by simp) (by simp)
    · have hcells := hown.cells (g := g) (by rw [hn]; rfl)
      have hb' : MM g := .inr (by rw [hn]; rfl)
      rw [hn]
      refine .sl _ cap k es (fun j => xs.getD j undef) hob.flat (fun _ => ⟨_, rfl, hb'⟩) (fun ad had j hj => ?_) (fun j e he => ?_) hnc hcm
      · cases had
        have hx : xs[j]? = some (xs[j]'(by rw [hown.1]; exact hj)) := List.getElem?_eq_getElem _
        rw [hcells j _ hx, List.getD_eq_getElem?_getD, hx]; rfl
      · obtain ⟨x, hx, hr⟩ := hxs j e he
        have : xs.getD j undef = x := by rw [List.getD_eq_getElem?_getD, hx]; rfl
        rw [this]
        exact (hr.1.repZ (cC hz he)).mono (fun _ _ => rfl) (fun b hb => .inl hb)
  refine (h MM w vs hMM (hg.mono (fun _ _ => rfl) fun _ hb => .inl hb) (by rw [hsz]; simp) fun j x e hx he => ?_).mono fun e w' ⟨x, he, hb, hr⟩ => ?_
  · rcases Nat.lt_trichotomy j pre.length with q | q | q
    · rw [List.getElem?_append_left q] at he
      have hra := (hargs j x e hx (by rw [List.getElem?_append_left q]; exact he)).1
      exact (hra.repZ (hpre e (List.mem_of_getElem? he))).mono (fun _ _ => rfl) (fun b hb => .inl hb)
    · subst q
      rw [List.getElem?_append_right (Nat.le_refl _), Nat.sub_self, List.getElem?_cons_zero, Option.some.injEq] at he
      subst he
      have := (hargs pre.length x (.ow 0) hx (by rw [List.getElem?_append_right (Nat.le_refl _), Nat.sub_self]; rfl)).1
      have e1 : x = loc 0 := this
      rw [e1]; exact hfr
    · obtain ⟨m, hm⟩ : ∃ m, j - pre.length = m + 1 := ⟨j - pre.length - 1, by omega⟩
      rw [List.getElem?_append_right (by omega), hm, List.getElem?_cons_succ] at he
      have hra := (hargs j x e hx (by rw [List.getElem?_append_right (by omega), hm, List.getElem?_cons_succ]; exact he)).1
      exact (hra.repZ (hrest e (List.mem_of_getElem? he))).mono (fun _ _ => rfl) (fun b hb => .inl hb)
  · refine ⟨x, fun b => b < w'.heap.size ∧ (w.heap.size ≤ b ∨ MM b), loc, he, ⟨fun id o ho => ?_, fun i j oi oj _ hi => ?_, fun id m hm => ?_, fun i j mi mj _ hi => ?_, fun id hid => ?_⟩, ⟨hb.os, hb.tape, hb.output, hb.size, fun k hk _ => hb.block k hk⟩,
      fun b hb' => ⟨Nat.lt_of_lt_of_le (hM b hb') hb.size, .inr (.inl hb')⟩, fun b hb' => ⟨hb'.1, ?_⟩, fun _ _ => rfl, (hr.mono (fun _ _ => rfl) fun b hb' => ⟨hb'.1, hb'.2.imp id (·.2)⟩).rep, bL hrz _, Nat.le_refl _⟩
    · cases id with
      | zero => simp at ho
      | succ id => simp at ho
    · cases i with
      | zero => simp at hi
      | succ i => simp at hi
    · cases id with
      | zero => simp at hm
      | succ id => simp at hm
    · cases i with
      | zero => simp at hi
      | succ i => simp at hi
    · exact hS.one id hid
    · rcases hb'.2 with q | q | q
      · exact .inr (.inl q)
      · exact .inl q
      · exact .inr (.inr (.inl ⟨0, _, rfl, q⟩))
end Go.Proofs.YtebinaffldlihaaGreatDoor
