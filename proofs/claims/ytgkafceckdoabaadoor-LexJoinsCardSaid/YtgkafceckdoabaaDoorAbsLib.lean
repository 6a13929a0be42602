/-
  Functions of the library whose word the shelf gives: calls that leave memory as it was, as contracts.
-/
import Derived.Test.YtgkafceckdoabaaDoorAbsSimp
import Derived.Lib.Join
set_option linter.all false
namespace Go.Ab
open Go.RowKit

/-- Called with scalars, a scalar, and the world as it was. -/
theorem means_pure {P : Program} {f : FuncId} {args : List Value} {r : Value} (h : ∀ w, Calls P f args.toArray w fun e w' => e = .returned r ∧ w' = w) : Means true P f (args.map AV.v) (.v r) := by
  intro M w vs hM _ hl hvs
  have : vs = args.toArray := by
    apply Array.ext
    · simpa using hl
    · intro i h1 h2
      have hi : i < args.length := by simpa using h2
      have := hvs i vs[i] (.v args[i]) (Array.getElem?_eq_getElem h1) (by simp [hi])
      have hv := this.rep (loc := fun _ => undef) |>.v_inv
      simpa using hv
  subst this
  refine (h w).mono fun e w' ⟨he, hw⟩ => ⟨r, he, by rw [hw]; exact Below.refl _ _, .v r⟩

theorem heapS_below {own M : Nat → Prop} {loc : Nat → Value} {H : List Cell} {w w' : World} (hM : ∀ b, M b → b < w.heap.size) (h : HeapS own M loc H w) (hb : Below w.heap.size w w') :
    HeapS (fun b => w.heap.size ≤ b ∨ own b) M loc H w' := by
  refine ⟨fun id o ho => ?_, h.sep, fun id m hm => ?_, h.msep, h.one⟩
  · have hob := h.obj id o ho
    obtain ⟨xs, hown, _⟩ := hob.own
    exact hob.frame (fun g hg => hb.block g (hown.lt g hg).2) (fun b hb' => hb.block b (hM b hb')) (fun _ h => h) (fun _ _ => rfl) (Nat.le_refl _) hob.away (fun b h => .inr h)
  · obtain ⟨g, es, c, h1, h2, h3, h4, h5⟩ := (h.mobj id m hm).own
    have hgl : g < w.heap.size := (Array.getElem?_eq_some_iff.1 h4).1
    exact ⟨g, es, c, h1, .inr h2, h3, by rw [hb.block g hgl]; exact h4, h5.mono (fun b hb' => hb.block b (hM b hb')) (fun _ h => h)⟩

theorem meansH_of_below {P : Program} {f : FuncId} {H : List Cell} {args : List AV} {r : Value}
    (h : ∀ (w : World) (M : Nat → Prop) (loc : Nat → Value) (vs : Array Value), (∀ b, M b → b < w.heap.size) → HeapS (blks H loc) M loc H w → vs.size = args.length →
      (∀ (j : Nat) (x : Value) (e : AV), vs[j]? = some x → args[j]? = some e → Rep w M loc x e ∧ e.idLt H.length) → Calls P f vs w fun e w' => e = .returned r ∧ Below w.heap.size w w') : MeansH P f H args (.v r) H := by
  intro w M loc vs hM _ hS hsz hargs
  refine (h w M loc vs hM hS hsz hargs).mono fun e w' ⟨he, hb⟩ => ?_
  exact ⟨r, M, loc, he, heapS_below hM hS hb, ⟨hb.os, hb.tape, hb.output, hb.size, fun k hk _ => hb.block k hk⟩, fun _ h => h, fun b hb' => ⟨Nat.lt_of_lt_of_le (hM b hb') hb.size, .inl hb'⟩, fun _ _ => rfl, (RepZ.v r).rep, trivial, Nat.le_refl _⟩

/-- strings.Join over a row of the call's own. -/
theorem join_h {P : Program} {f : FuncId} {E : Nat}
    (hC : ∀ (bk o c : Nat) (xs : List ByteArray) (sep : ByteArray) (w : World), (∀ (j : Nat) x, xs[j]? = some x → w.cell? ⟨bk, o + j, none⟩ = some (.string x)) → bk < w.heap.size → xs.length ≤ 140737488355328 → xs.length ≤ c →
      (Lib.join (xs.map (·.data.toList)) sep.data.toList).length ≤ 140737488355328 →
      Calls P f #[.slice (some ⟨bk, o, none⟩) xs.length c, .string sep] w fun e w' => e = .returned (.string ⟨(Lib.join (xs.map (·.data.toList)) sep.data.toList).toArray⟩) ∧ Below w.heap.size w w')
    (hN : ∀ (a : Option Addr) (c : Nat) (sep : ByteArray) (w : World), Calls P f #[.slice a 0 c, .string sep] w fun e w' => e = .returned (.string ⟨#[]⟩) ∧ w' = w)
    (xs : List ByteArray) (sep : ByteArray) (hlen : (Lib.join (xs.map (·.data.toList)) sep.data.toList).length ≤ 140737488355328) (hx : xs.length ≤ 140737488355328) :
    MeansH P f [.row ⟨E, 1, xs.map fun s => .v (.string s)⟩] [.ow 0, .v (.string sep)] (.v (.string ⟨(Lib.join (xs.map (·.data.toList)) sep.data.toList).toArray⟩)) [.row ⟨E, 1, xs.map fun s => .v (.string s)⟩] := by
  refine meansH_of_below fun w M loc vs hM hS hsz hargs => ?_
  obtain ⟨v, u, rfl⟩ : ∃ v u, vs = #[v, u] := by
    match vs, hsz with
    | ⟨[v, u]⟩, _ => exact ⟨v, u, rfl⟩
  have h0 : v = loc 0 := (hargs 0 v (.ow 0) rfl rfl).1
  have h1 : u = .string sep := (hargs 1 u (.v (.string sep)) rfl rfl).1.v_inv
  subst h0 h1
  obtain ⟨cs, hown, hcs⟩ := (hS.obj 0 _ rfl).own
  rcases hown.2 with ⟨hn, h0⟩ | ⟨g, cap, cur, hn, hbg, hheap, hnc, hcm, hcs2, htake⟩
  · have : xs = [] := by simpa using h0
    subst this
    rw [hn]
    refine (hN none 0 sep w).mono fun e w' ⟨he, hw⟩ => ⟨he, by rw [hw]; exact Below.refl _ _⟩
  · have hcells := hown.cells (g := g) (by rw [hn]; rfl)
    have hlt : g < w.heap.size := (hown.lt g (by rw [hn]; rfl)).2
    rw [hn]
    simp only [List.length_map] at hnc ⊢
    refine hC g 0 cap xs sep w (fun j x hj => ?_) hlt hx hnc hlen
    have he : ((xs.map fun s => (AV.v (.string s))).flatMap AV.flat)[j]? = some (.v (.string x)) := by
      have : (xs.map fun s => (AV.v (.string s))).flatMap AV.flat = xs.map fun s => AV.v (.string s) := by
        have : ∀ l : List ByteArray, (l.map fun s => (AV.v (.string s))).flatMap AV.flat = l.map fun s => AV.v (.string s) := by
          intro l
          induction l with
          | nil => rfl
          | cons a l ih => simp only [List.map_cons, List.flatMap_cons, AV.flat_v, ih]; rfl
        exact this xs
      rw [this, List.getElem?_map, hj]; rfl
    obtain ⟨y, hy, hr⟩ := hcs j _ he
    have hyv : y = .string x := hr.1.rep.v_inv
    rw [Nat.zero_add]
    subst hyv
    have := hcells j _ hy
    rwa [add_mk, Nat.zero_add] at this

end Go.Ab
