/-
  The framework, part 6 of 5.
-/
import Derived.Test.YtgfgajofilcniaaFw5
set_option linter.all false
/-
  Regions that draw their order, over rows of which the numbers are not known.
-/
namespace Go.Ab
open Go.RowKit

/-- What a step touched, by other numbers. -/
def mapT (φ : Nat → Nat) (t : TagT) : TagT := ⟨t.t.map φ, t.w.map φ, t.e⟩
theorem noMeet_map (φ : Nat → Nat) {a b : TagT} (h : noMeetT (mapT φ a) (mapT φ b) = true) : noMeetT a b = true := by
  unfold noMeetT mapT at *
  simp only [Bool.and_eq_true, List.all_eq_true, List.mem_map, forall_exists_index, and_imp, forall_apply_eq_imp_iff₂, Bool.not_eq_true', List.contains_eq_mem, decide_eq_false_iff_not] at h ⊢
  exact ⟨⟨h.1.1, fun x hx hm => h.1.2 x hx ⟨x, hm, rfl⟩⟩, fun x hx hm => h.2 x hx ⟨x, hm, rfl⟩⟩
/-- Steps that do not meet by other numbers do not meet. -/
theorem drawOK_map {ops : Array Oper} {ts : List TagT} (φ : Nat → Nat) (ts' : List TagT) (h : ts.map (mapT φ) = ts') (hd : drawOK ops (meetT ts') = true) : drawOK ops (meetT ts) = true := by
  subst h
  have hg : ∀ i, (ts.map (mapT φ)).getD i default = mapT φ (ts.getD i default) := by
    intro i
    rw [List.getD_eq_getElem?_getD, List.getD_eq_getElem?_getD, List.getElem?_map]
    cases ts[i]? <;> rfl
  unfold drawOK at *
  simp only [List.all_eq_true, Bool.and_eq_true, Bool.or_eq_true] at hd ⊢
  intro p hp
  refine ⟨(hd p hp).1, fun q hq => ?_⟩
  rcases (hd p hp).2 q hq with h1 | h1
  · exact .inl h1
  · refine .inr ⟨h1.1, ?_⟩
    have h2 := h1.2
    unfold meetT at *
    rw [hg, hg] at h2
    exact noMeet_map φ h2
/-- Rows ahead of a by their numbers, rows up to b by one, new ones by others. -/
def phi (a b x : Nat) : Nat := if x < a then x else if x < b then a else a + 1 + (x - b)


theorem drawOK_phi {ops : Array Oper} {ts : List TagT} (a b : Nat) (hd : drawOK ops (meetT (ts.map (mapT (phi a b)))) = true) : drawOK ops (meetT ts) = true := drawOK_map (phi a b) _ rfl hd
theorem newIds_self (a : Nat) : newIds a a = [] := by unfold newIds; rw [Nat.sub_self]; rfl
theorem newIds_one (a : Nat) : newIds a (a + 1) = [a] := by unfold newIds; rw [Nat.add_sub_cancel_left]; rfl
theorem upN_range (n : Nat) : upN (List.range n) n = id := by
  funext i
  unfold upN
  by_cases h : i < n
  · rw [if_pos (by simpa using h), List.getD_eq_getElem?_getD, List.getElem?_range h]; rfl
  · rw [if_neg (by simpa using h), List.length_range]
    show n + (i - n) = i
    omega
theorem renB_idQ (e : AV) : renB id e = e := by cases e <;> rfl
theorem mapB_id (l : List AV) : l.map (renB id) = l := by rw [show renB id = id from funext renB_idQ, List.map_id]
theorem ren_idQ (e : AV) : ren id e = e := by
  induction e using AV.zone.induct with
  | case4 f a b => simp only [ren, mapB_id]
  | case5 g y ih => simp only [ren, ih]
  | case6 es => simp only [ren, mapB_id]
  | case7 es => simp only [ren, mapB_id]
  | case1 i => rfl
  | case2 a b c d => rfl
  | case3 a b c d => rfl
  | case8 e h1 h2 h3 h4 h5 h6 h7 =>
    cases e <;> first | rfl | exact (h1 _ rfl).elim | exact (h2 _ _ _ _ rfl).elim | exact (h3 _ _ _ _ rfl).elim | exact (h4 _ _ _ rfl).elim | exact (h5 _ _ rfl).elim | exact (h6 _ rfl).elim | exact (h7 _ rfl).elim
theorem renF_idQ (e : AV) : renF id e = e := by
  cases e with
  | agg cs => simp only [renF, mapB_id]
  | _ => rfl
theorem renCell_id (c : Cell) : renCell id c = c := by
  cases c with
  | row o =>
    have : renEs id o.es = o.es := by
      unfold renEs
      rw [show renF id = id from funext renF_idQ, List.map_id]
      cases zoneEs o.es <;> rfl
    simp only [renCell, this]
  | _ => rfl
theorem okCells_self : ∀ (H G : List Cell) (b : Nat), (∀ i c, H[i]? = some c → G[b + i]? = some c) → okCells id G ((List.range H.length).map (· + b)) H
  | [], G, b, _ => trivial
  | c :: H, G, b, h => by
    rw [List.length_cons, List.range_succ_eq_map, List.map_cons, List.map_map]
    refine ⟨by rw [renCell_id]; simpa using h 0 c rfl, ?_⟩
    have := okCells_self H G (b + 1) fun i d hi => by
      have := h (i + 1) d (by simpa using hi)
      rw [← this]; congr 1; omega
    have e : List.map ((fun x => x + b) ∘ Nat.succ) (List.range H.length) = List.map (fun x => x + (b + 1)) (List.range H.length) := List.map_congr_left fun x _ => by simp only [Function.comp_apply]; omega
    rw [e]; exact this
theorem okCells_range (H : List Cell) : okCells id H (List.range H.length) H := by
  have := okCells_self H H 0 fun i c h => by rw [Nat.zero_add]; exact h
  simpa using this
theorem okArgs_self {m : Nat} : ∀ {al : List AV}, (∀ e ∈ al, e.idLt m) → okArgs id m al al
  | [], _ => trivial
  | a :: al, h => ⟨⟨.inl (ren_idQ a).symm, h a (by simp)⟩, okArgs_self fun e he => h e (List.mem_cons_of_mem _ he)⟩
theorem callHC_self {H : List Cell} {args : List AV} (ho : okRowIds H.length H) (ha : ∀ e ∈ args, e.idLt H.length) : CallHC H args (List.range H.length) H args := by
  unfold CallHC
  rw [upN_range]
  exact ⟨List.nodup_range, fun c hc => by simpa using hc, okCells_range H, ho, okArgs_self ha⟩
theorem after_all (H H' : List Cell) (hl : H.length ≤ H'.length) : heapAfter H (List.range H.length) H' = H' := by
  have hlen : (heapAfter H (List.range H.length) H').length = H'.length := by rw [after_len, List.length_range]; omega
  apply List.ext_getElem?
  intro i
  by_cases hi : i < H'.length
  · have h1 := after_get (Hc := H) (ps := List.range H.length) (H' := H') List.nodup_range (fun c hc => by simpa using hc) (by simpa using hl) (List.getElem?_eq_getElem hi)
    rw [upN_range, renCell_id] at h1
    rw [List.getElem?_eq_getElem hi]; exact h1
  · rw [List.getElem?_eq_none (by omega), List.getElem?_eq_none (by omega)]
/-- A call over the whole heap. -/
theorem callH_all {P : Program} {f : FuncId} {args : List AV} {b ok : Bool} {H : List Cell} {raw : List AV} {s : Bool} {k : Bool → AV → List Cell → Prop} {largs : List AV} {r : AV} {H' : List Cell} (h : MeansH P f H largs r H') (hr : raw = largs) (ho : okRowIds H.length H) (ha : ∀ e ∈ largs, e.idLt H.length) (hl : H.length ≤ H'.length) (hk : k true r H') : CallK P f args b ok H raw false s k := by
  subst hr
  refine .inr (.inl ⟨rfl, List.range H.length, H, raw, r, H', h, callHC_self ho ha, ?_⟩)
  rw [upN_range, ren_idQ, after_all H H' hl]; exact hk
theorem nestk_len (l : List Nat) (H : List Cell) : (killH H l).length = H.length := killH_len l H
/-- A call over the whole heap, all rows but the first given away. -/
theorem callX_all {P : Program} {f : FuncId} {args : List AV} {b ok : Bool} {c0 : Cell} {R : List Cell} {raw : List AV} {s : Bool} {k : Bool → AV → List Cell → Prop} {largs : List AV} {c0' : Cell} {o : Ob} (h : MeansX P f 1 (c0 :: R) largs (.ow 1) [c0', .row o]) (hr : raw = largs) (ho : okRowIds (R.length + 1) (c0 :: R)) (ha : ∀ e ∈ largs, e.idLt (R.length + 1)) (hz0 : renCell (upN [0] (R.length + 1)) c0' = c0') (hz : zoneEs o.es = true)
    (hk : ∀ D : List Cell, D.length = R.length → k true (.ow (R.length + 1)) (c0' :: (D ++ [.row o]))) : CallK P f args b ok (c0 :: R) raw false s k := by
  subst hr
  have e0 : List.range (c0 :: R).length = [0] ++ (List.range R.length).map (· + 1) := by rw [List.length_cons, List.range_succ_eq_map]; rfl
  have hc := callHC_self (H := c0 :: R) (args := raw) ho ha
  rw [e0] at hc
  refine .inr (.inr (.inr (.inl ⟨rfl, [0], (List.range R.length).map (· + 1), c0 :: R, raw, .ow 1, [c0', .row o], h, hc, ?_⟩)))
  have e1 : ren (upN [0] (c0 :: R).length) (.ow 1) = .ow (R.length + 1) := by
    simp only [ren, upN, List.length_cons, List.length_nil]
    rw [if_neg (by omega)]
  have e2 : ∀ D : List Cell, D.length = R.length + 1 → ∃ D', D'.length = R.length ∧ heapAfter D [0] [c0', .row o] = c0' :: (D' ++ [.row o]) := by
    intro D hD
    match D, hD with
    | d :: D', hD =>
      refine ⟨D', by simpa using hD, ?_⟩
      simp only [heapAfter, setAll, List.map_cons, List.map_nil, List.length_cons, List.length_nil, List.drop_succ_cons, List.drop_zero, List.set_cons_zero, List.cons_append]
      have hD2 : D'.length + 1 = R.length + 1 := by simpa using hD
      rw [hD2, hz0]
      have : renCell (upN [0] (R.length + 1)) (.row o) = .row o := by simp only [renCell, renEs, hz, cond_true]
      rw [this]
  obtain ⟨D', h1, h2⟩ := e2 (killH (c0 :: R) ((List.range R.length).map (· + 1))) (by rw [killH_len]; rfl)
  rw [e1, h2]
  exact hk D' h1
theorem sub_trans {X : Ctx} {a b c : St} (h1 : Sub X a b) (h2 : Sub X b c) : Sub X a c := fun t w hr => h1 t w (h2 t w hr)
theorem nodup_shift {l : List Nat} {q b n : Nat} (h1 : l.Nodup) (h2 : q ∉ l) (h3 : ∀ x ∈ l, x < b ∨ b + n ≤ x) (h4 : q < b ∨ b + n ≤ q) : (l ++ q :: (List.range n).map fun k => k + b).Nodup := by
  rw [List.nodup_append]
  refine ⟨h1, ?_, ?_⟩
  · rw [List.nodup_cons]
    refine ⟨fun hm => ?_, ?_⟩
    · obtain ⟨k, hk, e⟩ := List.mem_map.1 hm
      have : k < n := by simpa using hk
      omega
    · refine List.pairwise_map.2 (List.Pairwise.imp (fun {x y} (h : x ≠ y) (e : x + b = y + b) => h (by omega)) List.nodup_range)
  · intro a ha c hc e
    subst e
    rcases List.mem_cons.1 hc with rfl | hm
    · exact h2 ha
    · obtain ⟨k, hk, e⟩ := List.mem_map.1 hm
      have : k < n := by simpa using hk
      have := h3 a ha
      omega
theorem okS_mat {H : List Cell} (HS0 : List Src) (q : Nat) (f : Nat → Nat) {E1 E2 k2 : Nat} (M : List (List AV))
    (hq : H[q]? = some (.row ⟨E1, 1, (List.range M.length).map fun k => AV.ow (f k)⟩))
    (hf : ∀ j es, M[j]? = some es → H[f j]? = some (.row ⟨E2, k2, es⟩) ∧ zoneEs es = true)
    (h0 : okS0 (HS0 ++ .old q ⟨E1, 1, outN (HS0.length + 1) M.length⟩ :: matS f E2 k2 0 M) H HS0)
    (hn : (HS0.filterMap Src.rid ++ q :: (List.range M.length).map f).Nodup) :
    okS (HS0 ++ .old q ⟨E1, 1, outN (HS0.length + 1) M.length⟩ :: matS f E2 k2 0 M) H (HS0 ++ .old q ⟨E1, 1, outN (HS0.length + 1) M.length⟩ :: matS f E2 k2 0 M) := by
  refine okS_of (fun s hs => ?_) ?_
  · rcases List.mem_append.1 hs with hs | hs
    · exact okS0_mem h0 s hs
    · rcases List.mem_cons.1 hs with rfl | hs
      · show okR _ _ _ _
        rw [hq]
        refine ⟨⟨rfl, rfl⟩, .inr ?_⟩
        refine okEs_names f (fun k => k + (HS0.length + 1)) _ fun j hj => ?_
        have hj' : j < M.length := by simpa using hj
        refine ⟨⟨E2, k2, M[j]⟩, ?_⟩
        rw [List.getElem?_append_right (by omega)]
        have : j + (HS0.length + 1) - HS0.length = j + 1 := by omega
        rw [this, List.getElem?_cons_succ, matS_get, List.getElem?_eq_getElem hj', Nat.zero_add]; rfl
      · obtain ⟨j, hj, rfl⟩ := List.getElem_of_mem hs
        rw [matS_len] at hj
        have hg : (matS f E2 k2 0 M)[j]? = some (.old (f j) ⟨E2, k2, M[j]⟩) := by rw [matS_get, List.getElem?_eq_getElem hj, Nat.zero_add]; rfl
        have he : (matS f E2 k2 0 M)[j]'(by rw [matS_len]; exact hj) = .old (f j) ⟨E2, k2, M[j]⟩ := by
          rw [List.getElem?_eq_getElem (by rw [matS_len]; exact hj)] at hg
          exact Option.some.inj hg
        rw [he]
        obtain ⟨h1, h2⟩ := hf j M[j] (List.getElem?_eq_getElem hj)
        show okR _ _ _ _
        rw [h1]
        exact ⟨⟨rfl, rfl⟩, .inl ⟨rfl, h2⟩⟩
  · rw [List.filterMap_append, List.filterMap_cons]
    simp only [Src.rid]
    rw [matS_rid]
    simpa using hn
/-- Two rows, a row of rows, its rows: other sources of the two rows. -/
theorem sub_m3 {X : Ctx} {env : Nat → AV} (L : List (Nat × AV)) (s0 s1 : Src) (a b : Cell) {E1 E2 k2 : Nat} (M : List (List AV)) (T : List Cell) (n : Nat) (hn : M.length = n) (hz : ∀ es ∈ M, zoneEs es = true)
    (h0 : okS0 (s0 :: s1 :: .old 2 ⟨E1, 1, outN 3 n⟩ :: matS (fun k => k + 3) E2 k2 0 M) (a :: b :: .row ⟨E1, 1, outN 3 n⟩ :: (matC E2 k2 M ++ T)) [s0, s1])
    (hd : ([s0, s1].filterMap Src.rid).Nodup) (hi : ∀ x ∈ [s0, s1].filterMap Src.rid, x < 2 ∨ n + 3 ≤ x)
    (hL : okL (s0 :: s1 :: .old 2 ⟨E1, 1, outN 3 n⟩ :: matS (fun k => k + 3) E2 k2 0 M) ⟨env, a :: b :: .row ⟨E1, 1, outN 3 n⟩ :: (matC E2 k2 M ++ T)⟩ L) :
    Sub X ⟨mkE L, s0.cell :: s1.cell :: .row ⟨E1, 1, outN 3 n⟩ :: matC E2 k2 M⟩ ⟨env, a :: b :: .row ⟨E1, 1, outN 3 n⟩ :: (matC E2 k2 M ++ T)⟩ := by
  subst hn
  exact sub_mat (st := ⟨env, a :: b :: .row ⟨E1, 1, outN 3 M.length⟩ :: (matC E2 k2 M ++ T)⟩) L [s0, s1] 2 (fun k => k + 3) M rfl (fun j es h => ⟨by
      show (matC E2 k2 M ++ T)[j]? = _
      rw [List.getElem?_append_left (by rw [matC_len]; exact (List.getElem?_eq_some_iff.1 h).1)]
      exact matC_get h, hz es (List.mem_of_getElem? h)⟩) h0
    (nodup_shift hd (fun h => by have := hi _ h; omega) (fun x hx => by have := hi x hx; omega) (by omega)) hL
/-- One more row. -/
theorem sub_m3s {X : Ctx} {env : Nat → AV} (L : List (Nat × AV)) (s0 s1 : Src) (a b c : Cell) {E1 E2 k2 : Nat} (M : List (List AV)) (es : List AV) (c0 c1 : Cell) (n : Nat) (hn : M.length = n) (hz : ∀ es ∈ M, zoneEs es = true) (hz2 : zoneEs es = true)
    (h0 : okS0 (s0 :: s1 :: .old (n + 6) ⟨E1, 1, outN 3 (n + 1)⟩ :: matS (fun k => if k < n then k + 3 else n + 4) E2 k2 0 (M ++ [es])) (a :: b :: c :: (matC E2 k2 M ++ [c0, .row ⟨E2, k2, es⟩, c1, .row ⟨E1, 1, outN 3 n ++ [.ow (n + 4)]⟩])) [s0, s1])
    (hd : ([s0, s1].filterMap Src.rid).Nodup) (hi : ∀ x ∈ [s0, s1].filterMap Src.rid, x < 2)
    (hL : okL (s0 :: s1 :: .old (n + 6) ⟨E1, 1, outN 3 (n + 1)⟩ :: matS (fun k => if k < n then k + 3 else n + 4) E2 k2 0 (M ++ [es])) ⟨env, a :: b :: c :: (matC E2 k2 M ++ [c0, .row ⟨E2, k2, es⟩, c1, .row ⟨E1, 1, outN 3 n ++ [.ow (n + 4)]⟩])⟩ L) :
    Sub X ⟨mkE L, s0.cell :: s1.cell :: .row ⟨E1, 1, outN 3 (n + 1)⟩ :: matC E2 k2 (M ++ [es])⟩ ⟨env, a :: b :: c :: (matC E2 k2 M ++ [c0, .row ⟨E2, k2, es⟩, c1, .row ⟨E1, 1, outN 3 n ++ [.ow (n + 4)]⟩])⟩ := by
  subst hn
  have hl : (M ++ [es]).length = M.length + 1 := by simp
  have hr : (List.range (M.length + 1)).map (fun k => AV.ow (if k < M.length then k + 3 else M.length + 4)) = outN 3 M.length ++ [.ow (M.length + 4)] := by
    rw [List.range_succ, List.map_append]
    congr 1
    · exact List.map_congr_left fun k hk => by
        have : k < M.length := by simpa using hk
        rw [if_pos this]
    · simp
  have h := sub_mat (X := X) (st := ⟨env, a :: b :: c :: (matC E2 k2 M ++ [c0, .row ⟨E2, k2, es⟩, c1, .row ⟨E1, 1, outN 3 M.length ++ [.ow (M.length + 4)]⟩])⟩) (E1 := E1) (E2 := E2) (k2 := k2) L [s0, s1] (M.length + 6) (fun k => if k < M.length then k + 3 else M.length + 4) (M ++ [es]) (by
      show (matC E2 k2 M ++ [c0, .row ⟨E2, k2, es⟩, c1, .row ⟨E1, 1, outN 3 M.length ++ [.ow (M.length + 4)]⟩])[M.length + 3]? = _
      rw [List.getElem?_append_right (by rw [matC_len]; omega), matC_len, Nat.add_sub_cancel_left, hl, hr]
      rfl) (fun j es' hj => ?_) (by rw [hl]; exact h0) ?_ (by rw [hl]; exact hL)
  · rw [hl] at h; exact h
  · by_cases hjm : j < M.length
    · simp only [if_pos hjm]
      show (matC E2 k2 M ++ [c0, .row ⟨E2, k2, es⟩, c1, .row ⟨E1, 1, outN 3 M.length ++ [.ow (M.length + 4)]⟩])[j]? = _ ∧ _
      rw [List.getElem?_append_left hjm] at hj
      rw [List.getElem?_append_left (by rw [matC_len]; exact hjm)]
      exact ⟨matC_get hj, hz es' (List.mem_of_getElem? hj)⟩
    · have hjl := (List.getElem?_eq_some_iff.1 hj).1
      have : j = M.length := by simp at hjl; omega
      subst this
      simp only [if_neg hjm]
      show (matC E2 k2 M ++ [c0, .row ⟨E2, k2, es⟩, c1, .row ⟨E1, 1, outN 3 M.length ++ [.ow (M.length + 4)]⟩])[M.length + 1]? = _ ∧ _
      rw [List.getElem?_append_right (by omega), Nat.sub_self] at hj
      simp at hj
      subst hj
      rw [List.getElem?_append_right (by rw [matC_len]; omega), matC_len, Nat.add_sub_cancel_left]
      exact ⟨rfl, hz2⟩
  · rw [hl, List.nodup_append]
    refine ⟨hd, ?_, ?_⟩
    · rw [List.nodup_cons]
      refine ⟨fun hm => ?_, ?_⟩
      · obtain ⟨k, hk, e⟩ := List.mem_map.1 hm
        have : k < M.length + 1 := by simpa using hk

        split at e <;> omega
      · refine List.pairwise_map.2 (List.Pairwise.imp_of_mem (fun {x y} hx hy (h : x ≠ y) e => ?_) List.nodup_range)
        have hx' : x < M.length + 1 := by simpa using hx
        have hy' : y < M.length + 1 := by simpa using hy

        split at e <;> split at e <;> omega
    · intro u hu v hv e
      subst e
      have := hi u hu
      rcases List.mem_cons.1 hv with rfl | hm
      · omega
      · obtain ⟨k, hk, e⟩ := List.mem_map.1 hm

        split at e <;> omega
attribute [go_sem] newIds_one newIds_self

end Go.Ab
