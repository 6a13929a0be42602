/-
  The end of a law's lift: true, and all that was given reads as before.
-/
import Derived.Test.YtgkafceckdoabaaDoorAbsLift
set_option linter.all false
namespace Go.Ab
open Go.RowKit Go.ChangeShapes Go.WideShapes Go.Deep

theorem post_law {H : Type} {enc : TypeId × Value → H} {P : Program} {W W' : World} {f : Func} {s : ChangeSpec} {apart fresh handsOn again : Bool} {args : Array Value} {ds gs : List (DataW H)} {before : List MemPlace} {tb : TypeId}
    (hrt : f.resultTypes = #[tb]) (htb : P.underlying tb = some .bool) (hv0 : s.vars = [])
    (hds : s.fn H (ds ++ gs) = { results := [.lit (.bool true)], args := ds })
    (hl : laidOutB P = true) (hr : f.params.toList.all (fun t => P.readableRec t && decide (t < P.types.size)) = true)
    (hW : DataW.Whole enc P f.params.toList s.vars apart W args.toList ds gs before) (hb : Below W.heap.size W W') :
    s.post enc P f apart fresh handsOn again W args (.bool true) W' := by
  obtain ⟨p, q, hA, hV, hpq, hz, hn⟩ := hW
  have hV' := hV
  rw [hv0] at hV'
  obtain ⟨rfl, rfl⟩ := trodVars_none hV'
  simp only [List.append_nil] at hpq hds
  subst hpq
  have hlt : ∀ x ∈ before, x.block < W.heap.size := fun x hx => hA.lt x hx
  have hargs : ∀ sp : Nat → Bool, (∀ p ∈ before, sp p.block = true) → DataW.TrodAll enc P W' 0 sp true f.params.toList args.toList ds before :=
    fun sp hsp => trodAll_stays hl hr hA (fun x hx => hb.same (hlt x hx)) hsp
  have hres : ∀ (b : Nat) (sp : Nat → Bool) (hd : Bool), DataW.TrodAll enc P W' b sp hd f.resultTypes.toList ((Value.bool true).resultList f.resultTypes.size) [.lit (.bool true)] [] := by
    intro b sp hd
    rw [hrt]
    exact trodAll_mk1 ⟨1, by simp [DataW.trod, Value.cells, htb]⟩
  have hvars : ∀ sp : Nat → Bool, DataW.TrodVars enc P W' sp s.vars (s.fn H ds).vars [] := by
    intro sp
    rw [hv0, hds]; rfl
  refine ⟨ds, [], before, [], before, [], ⟨before, [], hA, hV, by simp, hz, hn⟩, by rw [List.append_nil, hds]; exact hres _ _ _, by rw [List.append_nil, hds]; exact hargs _ (fun x hx => by simpa using hlt x hx), by rw [List.append_nil]; exact hvars _, hb.frame _, fun _ => ?_⟩
  refine ⟨?_, _, [], ([] ++ before) ++ [], ⟨[] ++ before, [], trodAll_append (hargs _ (fun _ _ => rfl)) (hres _ _ _), by rw [hv0]; rfl, rfl, ?_, ?_⟩, ?_⟩
  · intro j t r h1 h2
    rw [hrt] at h1 h2
    cases j with
    | zero =>
      simp [Value.resultList] at h1 h2
      subst h1; subst h2
      simp [Value.okWide, htb, Cell.okWide, Cell.ok]
    | succ j => simp at h1
  · intro b off hp
    rw [hb.frozen (hlt (.cell b off) (by simpa using hp))]
    exact hz b off (by simpa using hp)
  · intro ha
    simpa using hn ha
  · intro x hx _
    simpa using hx

/-- A struct that is given by value. -/
theorem rep_structV {α H : Type} {enc : TypeId × Value → H} {P : Program} {W : World} {base : Nat} {spare : Nat → Bool} {held : Bool} (g : α → List AV) (k : Nat) (hg : ∀ x, (g x).length = k) {t : TypeId} {fs : Array Field} {v : Value} {d : DataW H} {p : List MemPlace} {M : Nat → Prop} (ht : P.underlying t = some (.struct fs)) (hC : P.cellsOf t = k)
    (hel : ∀ n cs y, DataW.trod enc P W base spare held n t cs = some y → cs.length = k → ∃ x : α, ∀ (j : Nat) (c : Value) (z : AV), cs[j]? = some c → (AV.agg (g x)).flat[j]? = some z → RepZ W M c z)
    {r : Go.Reach} {b0 : Nat} (hval : Value.okWide P W r b0 t v) (h : DataW.Trod enc P W base spare held t v d p) : ∃ x : α, True ∧ RepZ W M v (.agg (g x)) := by
  obtain ⟨cs, rfl, hs⟩ := okWide_struct ht hval
  obtain ⟨n, hn⟩ := h
  obtain ⟨x, hx⟩ := hel n cs.toList _ hn (by simp [hs, hC])
  refine ⟨x, trivial, .agg cs (g x) (by rw [hs, hC, hg]) fun j c e h1 h2 => hx j c e (by simpa using h1) ?_⟩
  rw [AV.flat_agg]; exact h2

end Go.Ab
