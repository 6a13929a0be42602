/-
  Lemmas for the statement at the top.
-/
import Derived.Test.YthibhamepjhfjaaGreatDoorTnP15
import Derived.Test.YthibhamepjhfjaaGreatDoorTnBarA
import Derived.Test.YthibhamepjhfjaaGreatDoorRows
import Derived.Test.YthibhamepjhfjaaGreatDoorTnFw5
import Derived.Test.YthibhamepjhfjaaGreatDoorTnP12
set_option linter.all false
namespace Go.Proofs.YthibhamepjhfjaaGreatDoor
open Go.RowKit Go.Ab
def q14x0 : List Nat := [0, 1, 2, 3, 8, 9, 10, 11, 12, 13, 14, 15, 16, 17, 18, 19, 20, 21, 22, 23, 24, 25, 27, 28, 30, 31, 32, 33, 34, 35, 37, 38, 39, 41, 43, 55, 79, 82, 100, 221, 232, 291, 293, 303, 337]
attribute [go_sem] q14x0
attribute [local irreducible] AWP Go.Ab.Sub Means MeansH MeansX CallK CallG CallT CallGT CallU
theorem eG {α : Type} {L : List α} {i : Nat} (h : i < L.length) (f : α → AV) : (L.take (i + 1)).map f = (L.take i).map f ++ [f L[i]] := by
  rw [List.take_succ_eq_append_getElem h, List.map_append]; rfl
theorem dM (L : List Int) : zoneEs (L.map ii) = true := fW _ _ fun _ => rfl
theorem gC (L : List (List Int)) : zoneEs (L.map il) = true := fW _ _ fun _ => rfl
def slL (X : List AV) : Prop := ∀ e ∈ X, ∃ es, e = .sl es
theorem rN (L : List (List Int)) : slL (L.map il) := fun e he => by
  obtain ⟨l, _, rfl⟩ := List.mem_map.1 he
  exact ⟨_, rfl⟩
theorem pY {HS : List Src} {H : List Cell} : ∀ {X : List AV}, slL X → okEs HS H X X
  | [], _ => trivial
  | e :: X, h => by
    obtain ⟨es, rfl⟩ := h e (by simp)
    exact ⟨.inl rfl, pY fun x hx => h x (by simp [hx])⟩
theorem kI {HS : List Src} {H : List Cell} {X es : List AV} {id E k : Nat} (hX : slL X) (h1 : H[id]? = some (.row ⟨E, k, es⟩)) (hz : zoneEs es = true) (h2 : HS.any (Src.isOld id) = false) : okEs HS H (X ++ [.ow id]) (X ++ [.sl es]) := by
  have : ∀ {A B C D : List AV}, okEs HS H A B → okEs HS H C D → okEs HS H (A ++ C) (B ++ D) := by
    intro A
    induction A with
    | nil => intro B C D h h'; cases B with
      | nil => exact h'
      | cons _ _ => exact h.elim
    | cons a A ih => intro B C D h h'; cases B with
      | nil => exact h.elim
      | cons b B => exact ⟨h.1, ih h.2 h'⟩
  exact this (pY hX) ⟨.inr (.inr (.inl ⟨id, _, rfl, h1, rfl, hz, h2⟩)), trivial⟩
theorem A6 {own : List Int} {b i : Nat} (h : i < (turnO own b).length) (h2 : (i + b) % own.length < own.length) : (turnO own b)[i] = own[(i + b) % own.length] := by
  unfold turnO
  simp [wO, List.getD_eq_getElem?_getD, List.getElem?_eq_getElem h2]
def turnR (S : List (List Int)) (n b i : Nat) : List Int := (List.range n).map fun j => sO S ((i + b) % n) ((j + b) % n)
theorem A7 {S : List (List Int)} {n b i : Nat} (h : i < (turnS S n b).length) : (turnS S n b)[i] = turnR S n b i := by
  simp [turnS, turnR]
theorem iT (S : List (List Int)) (n b i : Nat) : (turnR S n b i).length = n := by simp [turnR]
theorem A8 {S : List (List Int)} {n b i j : Nat} (h : j < (turnR S n b i).length) : (turnR S n b i)[j] = sO S ((i + b) % n) ((j + b) % n) := by
  simp [turnR]
theorem l6 (n : Nat) : (zeroS n).length = n := by simp [zeroS]
theorem A9 {n i : Nat} (h : i < (zeroS n).length) : (zeroS n)[i] = List.replicate n 0 := by simp [zeroS]
theorem AA {own : List Int} {f : Int} {i : Nat} (h : i < (growO own f).length) (h2 : i < own.length) : (growO own f)[i] = own[i] * f := by simp [growO]
def moreT (S : List (List Int)) : List (List Int) := S.map (· ++ [0])
theorem iU (S : List (List Int)) : (moreT S).length = S.length := by simp [moreT]
theorem AB {S : List (List Int)} {i : Nat} (h : i < (moreT S).length) (h2 : i < S.length) : (moreT S)[i] = S[i] ++ [0] := by simp [moreT]
def tX1 (own : List Int) (b i : Nat) : List AV := ((turnO own b).take i).map ii
def tX2 (own : List Int) (S : List (List Int)) (b i : Nat) : List AV := ((turnS S own.length b).take i).map il
def tX3 (own : List Int) (i : Nat) : List AV := ((zeroS own.length).take i).map il
def tX4 (S : List (List Int)) (i : Nat) : List AV := ((moreT S).take i).map il
def tX5 (own : List Int) (f : Int) (i : Nat) : List AV := ((growO own f).take i).map ii
def tR (S : List (List Int)) (n b i j : Nat) : List AV := ((turnR S n b i).take j).map ii
theorem IH {own : List Int} {b i : Nat} (h : i < own.length) (hm : (i + b) % own.length < own.length) : tX1 own b (i + 1) = tX1 own b i ++ [ii own[(i + b) % own.length]] := by
  have := eG (L := turnO own b) (i := i) (by rw [aZ]; exact h) ii
  rwa [A6 _ hm] at this
theorem II {own : List Int} {S : List (List Int)} {b i : Nat} (h : i < own.length) : tX2 own S b (i + 1) = tX2 own S b i ++ [il (turnR S own.length b i)] := by
  have := eG (L := turnS S own.length b) (i := i) (by rw [iM]; exact h) il
  rwa [A7] at this
theorem IJ {own : List Int} {i : Nat} (h : i < own.length) : tX3 own (i + 1) = tX3 own i ++ [il (List.replicate own.length 0)] := by
  have := eG (L := zeroS own.length) (i := i) (by rw [l6]; exact h) il
  rwa [A9] at this
theorem IK {S : List (List Int)} {i : Nat} (h : i < S.length) : tX4 S (i + 1) = tX4 S i ++ [il (S[i] ++ [0])] := by
  have := eG (L := moreT S) (i := i) (by rw [iU]; exact h) il
  rwa [AB _ h] at this
theorem IL {own : List Int} {f : Int} {i : Nat} (h : i < own.length) : tX5 own f (i + 1) = tX5 own f i ++ [ii (own[i] * f)] := by
  have := eG (L := growO own f) (i := i) (by rw [c5]; exact h) ii
  rwa [AA _ h] at this
theorem IS {S : List (List Int)} {n b i j : Nat} (h : j < n) : tR S n b i (j + 1) = tR S n b i j ++ [ii (sO S ((i + b) % n) ((j + b) % n))] := by
  have := eG (L := turnR S n b i) (i := j) (by rw [iT]; exact h) ii
  rwa [A8] at this
theorem F5 (S : List (List Int)) (n b i : Nat) : tR S n b i n = (turnR S n b i).map ii := by unfold tR; rw [List.take_of_length_le (by rw [iT]; exact Nat.le_refl _)]
theorem HD {S : List (List Int)} {n b i j : Nat} (h : j ≤ n) : (tR S n b i j).length = j := by unfold tR; rw [List.length_map, List.length_take, iT]; omega
theorem IM {f : Int} (h : 1 ≤ f ∧ f ≤ 3) : bt 2 f := by
  unfold bt
  have : (2 : Nat) ^ 2 = 4 := by decide
  omega
theorem DD {own : List Int} {S : List (List Int)} : (moreT S).map il ++ [.sl (List.replicate (own.length + 1) (ii 0))] = (moreS S own.length).map il := by
  simp [moreT, moreS]
theorem w8 {own : List Int} {S : List (List Int)} (hv : PV own S) (h6 : own.length ≤ 6) : Means false Tryz.prog 10 [il (own ++ [0]), ill (moreS S own.length)] (.tup [fql (allQ (own ++ [0]) (moreS S own.length)), fql (keptQ (own ++ [0]) (moreS S own.length)), ii 0]) := by
  have hok : ∀ k, k < (own ++ [0]).length → okMul (allX (own ++ [0]) (moreS S own.length) k) (((1000 - sumI ((moreS S own.length).getD k []) : Int) : Rat) / ((1000 : Int) : Rat)) := fun k hk => by
    rw [bM] at hk
    have hm := kD hv h6
    have hkS : k < (moreS S own.length).length := by rw [pM hv.toPR]; exact hk
    have hl : (moreS S own.length)[k] ∈ moreS S own.length := List.getElem_mem hkS
    have hpr := dZ hm.toPR hl
    have hsb := eA (moreS S own.length)[k] (moreS S own.length)[k].length hpr.2
    rw [List.take_length] at hsb
    have hlt := hm.lt _ hl
    have hg : (moreS S own.length).getD k [] = (moreS S own.length)[k] := by rw [List.getD_eq_getElem?_getD, List.getElem?_eq_getElem hkS]; rfl
    rw [hg]
    obtain ⟨h1, h2⟩ := xD (p := 1000 - sumI (moreS S own.length)[k]) (q := 1000) (by decide) (fC (by omega)) (fC (by decide))
    have ha : bt 310 (allX (own ++ [0]) (moreS S own.length) k).num ∧ bt 70 (allX (own ++ [0]) (moreS S own.length) k).den := by
      rw [u6 hv h6 hk]
      split
      · rename_i hk2; exact qD hv h6 hk2
      · exact ⟨lP _, bV qA (Nat.zero_le _)⟩
    exact cY ha.1 ha.2 h1 h2 (by decide) (by decide)
  have := xB (own ++ [0]) (moreS S own.length) (kD hv h6) (C2 hv h6) hok
  have e1 : (allQ (own ++ [0]) (moreS S own.length)).map frq = allL (own ++ [0]) (moreS S own.length) := by unfold allQ; rw [List.map_map]; rfl
  have e2 : (keptQ (own ++ [0]) (moreS S own.length)).map frq = keptL (own ++ [0]) (moreS S own.length) := by unfold keptQ; rw [List.map_map]; rfl
  unfold fql
  rw [e1, e2]; exact this
theorem w9 {own : List Int} {S : List (List Int)} {f : Int} (hv : PV own S) (h6 : own.length ≤ 6) (hf : 1 ≤ f ∧ f ≤ 3) : ∃ X Y : List Rat, ∃ e : Int, Means false Tryz.prog 10 [il (growO own f), ill S] (.tup [fql X, fql Y, ii e]) ∧ (e = 0 ∨ e = 1) ∧
    (e = 0 → (X.length = own.length ∧ Y.length = own.length) ∧ ∀ k, k < own.length → X.getD k 0 = (allQ own S).getD k 0 * ((f : Int) : Rat) ∧ Y.getD k 0 = (keptQ own S).getD k 0 * ((f : Int) : Rat)) := by
  by_cases hr : PR (growO own f) S
  · have hg := x4 hv hr
    refine ⟨allQ (growO own f) S, keptQ (growO own f) S, 0, gB hg (by rw [c5]; exact h6), .inl rfl, fun _ => ⟨⟨by rw [oG, c5], by rw [fL, c5]⟩, fun k hk => ⟨?_, ?_⟩⟩⟩
    · rw [iQ (by rw [c5]; exact hk), tY hv hr hk, iQ hk]
    · rw [dY (by rw [c5]; exact hk), zC hv hr hk, dY hk]
  · have hb : badP (growO own f) S = 1 := by unfold badP; rw [if_neg hr]
    have := pW (growO own f) S (by rw [c5]; omega) (by rw [hv.len]; omega) (fun l hl => by rw [hv.row l hl]; omega) (by rw [hb]; decide)
    rw [hb] at this
    exact ⟨[], [], 1, this, .inr rfl, fun h => absurd h (by decide)⟩
set_option maxHeartbeats 16000000 in
set_option maxRecDepth 200000 in
theorem rU (own : List Int) (hl : own.length ≤ 9223372036854775807) (S : List (List Int)) (hS : S.length ≤ 9223372036854775807) (by' : Int) (hby : 0 ≤ by' ∧ by' ≤ 255) (tm' : Int) (htm : 0 ≤ tm' ∧ tm' ≤ 255) :
    Means false Tryz.prog 6 [il own, ill S, .v (.int .u8 by'), .v (.int .u8 tm')] (bb true) := by
  have cs := F4
  have cf := HT own S
  have cb := GT own S hl hS
  refine aN false 347 [.tmp 8] Tryz.func6 rfl rfl rfl (by simp) (by decide) rfl fun X hX => ?_
  (repeat (first | refine aD ?_ | refine a8 ?_ | ((first | refine aA q14x0 hX ?_ | refine a7 q14x0 hX mixed ?_ | refine aE ?_ | refine aB ?_ | refine aC ?_); (simp [go_sem]; try (refine ⟨by kernel_rfl, ?_⟩)))))
  first | refine aF (cs) rfl (by simp [go_sem]) rfl ?_ | refine aG (cs) rfl (by simp [go_sem]) rfl ?_
  try (simp [go_sem]; try (refine ⟨by kernel_rfl, ?_⟩))
  (repeat (first | refine aD ?_ | refine a8 ?_ | ((first | refine aA q14x0 hX ?_ | refine a7 q14x0 hX mixed ?_ | refine aE ?_ | refine aB ?_ | refine aC ?_); (simp [go_sem]; try (refine ⟨by kernel_rfl, ?_⟩)))))
  first | refine aF (cf) rfl (by simp [go_sem]) rfl ?_ | refine aG (cf) rfl (by simp [go_sem]) rfl ?_
  try (simp [go_sem]; try (refine ⟨by kernel_rfl, ?_⟩))
  first | refine aR (fun hg => cb) rfl (by simp [go_sem]) rfl ?_ | refine aO (fun hg => cb) rfl (by simp [go_sem]) rfl ?_
  try (simp [go_sem]; try (refine ⟨by kernel_rfl, ?_⟩))
  by_cases hgo : fewP own S ∧ badP own S = 0
  · refine aH (b := false) (by simp [go_sem, hgo.1, hgo.2]) (fun h => by cases h) (fun _ => ?_)
    obtain ⟨hfw, hb0⟩ := hgo
    have hv : PV own S := by
      unfold badP at hb0
      split at hb0
      · split at hb0
        · assumption
        · cases hb0
      · cases hb0
    have h6 := hfw.1
    have hpos := hv.pos
    have hSl := hv.len
    have hrow := hv.row
    have c1 := gB hv h6
    have hab := kH hv h6
    have hkb := iR hv h6
    have hAl : (allQ own S).length = own.length := oG _ _
    have hKl : (keptQ own S).length = own.length := fL _ _
    obtain ⟨b, rfl⟩ : ∃ b : Nat, by' = (b : Int) := ⟨by'.toNat, by omega⟩
    have hwb : ∀ x ∈ own, 0 ≤ x ∧ x ≤ 1099511627776 := fun x hx => by
      obtain ⟨k, hk, rfl⟩ := List.getElem_of_mem hx
      have := hv.w k hk
      rwa [show wO own k = own[k] from bT hk] at this
    obtain ⟨f, hf⟩ : ∃ f, 1 + tm' % 3 = f := ⟨_, rfl⟩
    have hf1 : 1 ≤ f ∧ f ≤ 3 := by omega
    have t1 : tm'.tmod 3 = tm' % 3 := Int.tmod_eq_emod_of_nonneg htm.1
    have t2 : IntKind.u8.wrap (tm' % 3) = tm' % 3 := IntWalk.u8_in _ (by omega)
    have t3 : IntKind.i64.wrap (tm' % 3) = tm' % 3 := w64 (by omega) (by omega)
    have t4 : IntKind.i64.wrap f = f := w64 (by omega) (by omega)
    have t5 : IntKind.i64.wrap (b : Int) = b := w64 (by omega) (by omega)
    clear hb0 cb cf cs
    obtain ⟨A, hA⟩ : ∃ A, allQ own S = A := ⟨_, rfl⟩
    obtain ⟨K, hK⟩ : ∃ K, keptQ own S = K := ⟨_, rfl⟩
    rw [hA, hK] at c1
    rw [hA] at hAl hab
    rw [hK] at hKl hkb
    (repeat (first | refine aD ?_ | refine a8 ?_ | ((first | refine aA q14x0 hX ?_ | refine a7 q14x0 hX mixed ?_ | refine aE ?_ | refine aB ?_ | refine aC ?_); (simp [go_sem]; try (refine ⟨by kernel_rfl, ?_⟩)))))
    first | refine aF (c1) rfl (by simp [go_sem]) rfl ?_ | refine aG (c1) rfl (by simp [go_sem]) rfl ?_
    try (simp [go_sem]; try (refine ⟨by kernel_rfl, ?_⟩))
    (repeat (first | refine aD ?_ | refine a8 ?_ | ((first | refine aA q14x0 hX ?_ | refine a7 q14x0 hX mixed ?_ | refine aE ?_ | refine aB ?_ | refine aC ?_); (simp [go_sem]; try (refine ⟨by kernel_rfl, ?_⟩)))))
    refine aH (b := false) (by simp [go_sem, hAl, hKl]) (fun h => by cases h) (fun _ => ?_)
    (repeat (first | refine aD ?_ | refine a8 ?_ | ((first | refine aA q14x0 hX ?_ | refine a7 q14x0 hX mixed ?_ | refine aE ?_ | refine aB ?_ | refine aC ?_); (simp [go_sem]; try (refine ⟨by kernel_rfl, ?_⟩)))))
    refine aQ (fun i : Nat => ⟨mkE [(0, il own), (1, ill S), (2, .v (.int .u8 b)), (3, .v (.int .u8 tm')), (9, bb true), (10, ii own.length), (11, fql A), (12, fql K), (14, .ow 0), (15, .ow 1), (16, .ow 2), (17, .ow 3), (18, .ow 4), (19, ii i)],
      [.row ⟨3, 1, tX1 own b i⟩, .row ⟨22, 1, tX2 own S b i⟩, .row ⟨22, 1, tX3 own i⟩, .row ⟨22, 1, tX4 S i⟩, .row ⟨3, 1, tX5 own f i⟩]⟩) (fun i => i ≤ own.length) (fun i => own.length - i) 0 ?_ ?_ ?_
    · refine aI _ [.birth 3 1, .birth 22 1, .birth 22 1, .birth 22 1, .birth 3 1] (by simp [go_sem]) ?_
      simp [go_sem]
    · omega
    · intro i hi
      (repeat (first | refine aD ?_ | refine a8 ?_ | ((first | refine aA q14x0 hX ?_ | refine a7 q14x0 hX mixed ?_ | refine aE ?_ | refine aB ?_ | refine aC ?_); (simp [go_sem]; try (refine ⟨by kernel_rfl, ?_⟩)))))
      refine aH (b := decide (i < own.length)) (by simp [go_sem]) (fun hb => ?_) (fun hb => ?_)
      · simp only [decide_eq_true_eq] at hb
        have hiS : i < S.length := by omega
        have hm : (i + b) % own.length < own.length := Nat.mod_lt _ hpos
        have wi := w64 (x := (i : Int) + 1) (by omega) (by omega)
        have e1 := IH (own := own) (b := b) hb hm
        have e2 := II (own := own) (S := S) (b := b) hb
        have e3 := IJ (own := own) hb
        have e4 := IK (S := S) hiS
        have e5 := IL (own := own) (f := f) hb
        have z1 : zoneEs (tX1 own b i) = true := dM _
        have z2 : zoneEs (tX2 own S b i) = true := gC _
        have z3 : zoneEs (tX3 own i) = true := gC _
        have z4 : zoneEs (tX4 S i) = true := gC _
        have z5 : zoneEs (tX5 own f i) = true := dM _
        have s2 : slL (tX2 own S b i) := rN _
        have s3 : slL (tX3 own i) := rN _
        have s4 : slL (tX4 S i) := rN _
        have l1 : (tX1 own b i).length = i := by unfold tX1; rw [List.length_map, List.length_take, aZ]; omega
        have l2 : (tX2 own S b i).length = i := by unfold tX2; rw [List.length_map, List.length_take, iM]; omega
        have l3 : (tX3 own i).length = i := by unfold tX3; rw [List.length_map, List.length_take, l6]; omega
        have l4 : (tX4 S i).length = i := by unfold tX4; rw [List.length_map, List.length_take, iU]; omega
        have l5 : (tX5 own f i).length = i := by unfold tX5; rw [List.length_map, List.length_take, c5]; omega
        generalize tX1 own b i = X1 at *
        generalize tX2 own S b i = X2 at *
        generalize tX3 own i = X3 at *
        generalize tX4 S i = X4 at *
        generalize tX5 own f i = X5 at *
        obtain ⟨m, hmm⟩ : ∃ m, (i + b) % own.length = m := ⟨_, rfl⟩
        have r1 : ((i : Int) + b).tmod own.length = m := by rw [Int.tmod_eq_emod_of_nonneg (by omega), ← hmm]; norm_cast
        have r2 : IntKind.i64.wrap ((i : Int) + b) = (i : Int) + b := w64 (by omega) (by omega)
        have r3 : IntKind.i64.wrap (m : Int) = m := w64 (by omega) (by omega)
        have r4 : ¬ own = [] := fun e => by rw [e] at hpos; simp at hpos
        rw [hmm] at hm
        simp only [hmm] at e1
        have q1 := cR hm
        have q2 := cR hb
        have hmS : m < S.length := by omega
        have q3 := eT (L := S) hmS
        have q4 := eT (L := S) hiS
        have hlm := hrow _ (List.getElem_mem hmS)
        have hli := hrow _ (List.getElem_mem hiS)
        have hwi := hwb _ (List.getElem_mem hb)
        (repeat (first | refine aD ?_ | refine a8 ?_ | ((first | refine aA q14x0 hX ?_ | refine a7 q14x0 hX mixed ?_ | refine aE ?_ | refine aB ?_ | refine aC ?_); (simp [go_sem, t5, r1, r2, r3, r4, hm, q1]; try (refine ⟨by kernel_rfl, ?_⟩)))))
        refine ⟨⟨by omega, by unfold maxLen; omega⟩, ?_⟩
        (repeat (first | refine aD ?_ | refine a8 ?_ | ((first | refine aA q14x0 hX ?_ | refine a7 q14x0 hX mixed ?_ | refine aE ?_ | refine aB ?_ | refine aC ?_); (simp [go_sem]; try (refine ⟨by kernel_rfl, ?_⟩)))))
        refine aQ (fun j : Nat => ⟨mkE [(0, il own), (1, ill S), (2, .v (.int .u8 b)), (3, .v (.int .u8 tm')), (9, bb true), (10, ii own.length), (11, fql A), (12, fql K), (14, .ow 0), (15, .ow 1), (16, .ow 2), (17, .ow 3), (18, .ow 4), (19, ii i), (20, ii m), (21, .ow 5), (22, ii j)],
          [.row ⟨3, 1, X1 ++ [ii own[m]]⟩, .row ⟨22, 1, X2⟩, .row ⟨22, 1, X3⟩, .row ⟨22, 1, X4⟩, .row ⟨3, 1, X5⟩, .row ⟨3, 1, tR S own.length b i j⟩]⟩) (fun j => j ≤ own.length) (fun j => own.length - j) 0 ?_ ?_ ?_
        · refine aI _ [.old 6 ⟨3, 1, X1 ++ [ii own[m]]⟩, .old 1 ⟨22, 1, X2⟩, .old 2 ⟨22, 1, X3⟩, .old 3 ⟨22, 1, X4⟩, .old 4 ⟨3, 1, X5⟩, .birth 3 1] (by simp [go_sem, z1, z2, z3, z4, z5]) ?_
          simp [go_sem]
        · omega
        · intro j hj
          (repeat (first | refine aD ?_ | refine a8 ?_ | ((first | refine aA q14x0 hX ?_ | refine a7 q14x0 hX mixed ?_ | refine aE ?_ | refine aB ?_ | refine aC ?_); (simp [go_sem]; try (refine ⟨by kernel_rfl, ?_⟩)))))
          refine aH (b := decide (j < own.length)) (by simp [go_sem]) (fun hc => ?_) (fun hc => ?_)
          · simp only [decide_eq_true_eq] at hc
            have wj := w64 (x := (j : Int) + 1) (by omega) (by omega)
            have hm2 : (j + b) % own.length < own.length := Nat.mod_lt _ hpos
            have et := IS (S := S) (b := b) (i := i) hc
            have zt : zoneEs (tR S own.length b i j) = true := dM _
            have lt := HD (S := S) (b := b) (i := i) (j := j) (n := own.length) (by omega)
            rw [hmm] at et
            obtain ⟨m2, hmm2⟩ : ∃ m, (j + b) % own.length = m := ⟨_, rfl⟩
            have p1 : ((j : Int) + b).tmod own.length = m2 := by rw [Int.tmod_eq_emod_of_nonneg (by omega), ← hmm2]; norm_cast
            have p2 : IntKind.i64.wrap ((j : Int) + b) = (j : Int) + b := w64 (by omega) (by omega)
            have p3 : IntKind.i64.wrap (m2 : Int) = m2 := w64 (by omega) (by omega)
            rw [hmm2] at hm2 et
            have hm3 : m2 < S[m].length := by omega
            have q5 := cR hm3
            have hso : sO S m m2 = S[m][m2] := by
              unfold sO
              rw [List.getD_eq_getElem?_getD (l := S), List.getElem?_eq_getElem hmS]
              exact bT hm3
            rw [hso] at et
            generalize tR S own.length b i j = Rt at *
            generalize S[m][m2] = sv at *
            (repeat (first | refine aD ?_ | refine a8 ?_ | ((first | refine aA q14x0 hX ?_ | refine a7 q14x0 hX mixed ?_ | refine aE ?_ | refine aB ?_ | refine aC ?_); (simp [go_sem, t5, p1, p2, p3, r4, hmS, hm3, q3, q5]; try (refine ⟨by kernel_rfl, ?_⟩)))))
            refine ⟨⟨by omega, by unfold maxLen; omega⟩, by kernel_rfl, ?_⟩
            (repeat (first | refine aD ?_ | refine a8 ?_ | ((first | refine aA q14x0 hX ?_ | refine a7 q14x0 hX mixed ?_ | refine aE ?_ | refine aB ?_ | refine aC ?_); (simp [go_sem, wj]; try (refine ⟨by kernel_rfl, ?_⟩)))))
            refine ⟨j + 1, by omega, by omega, ?_⟩
            rw [et]
            refine aI _ [.old 0 ⟨3, 1, X1 ++ [ii own[m]]⟩, .old 1 ⟨22, 1, X2⟩, .old 2 ⟨22, 1, X3⟩, .old 3 ⟨22, 1, X4⟩, .old 4 ⟨3, 1, X5⟩, .old 7 ⟨3, 1, Rt ++ [ii sv]⟩] (by simp [go_sem, z1, z2, z3, z4, z5, zt]) ?_
            simp [go_sem]
          · simp only [decide_eq_false_iff_not] at hc
            have hjn : j = own.length := by omega
            subst hjn
            rw [F5]
            have hTl : ((turnR S own.length b i).map ii).length = own.length := by rw [List.length_map, iT]
            have zt : zoneEs ((turnR S own.length b i).map ii) = true := dM _
            have zS : zoneEs (S[i].map ii) = true := dM _
            have e2' : tX2 own S b (i + 1) = X2 ++ [.sl ((turnR S own.length b i).map ii)] := e2
            have e3' : tX3 own (i + 1) = X3 ++ [.sl (List.replicate own.length (ii 0))] := by rw [e3]; simp
            have e4' : tX4 S (i + 1) = X4 ++ [.sl (S[i].map ii ++ [ii 0])] := by rw [e4]; simp
            have hSil : (S[i].map ii).length = own.length := by rw [List.length_map]; exact hli
            have wg : IntKind.i64.wrap (own[i] * f) = own[i] * f := by
              refine w64 ?_ ?_
              · have := Int.mul_nonneg hwi.1 (show 0 ≤ f by omega); omega
              · have := Int.mul_le_mul hwi.2 hf1.2 (by omega) (by omega); omega
            generalize (turnR S own.length b i).map ii = TR at *
            generalize own[i] = oi at *
            have hn9 : (own.length : Int) ≤ 9 := by omega
            clear hmS hlm hwi q1 q3 e2 e3 e4 hrow hwb hab hkb c1
            (repeat (first | refine aD ?_ | refine a8 ?_ | ((first | refine aA q14x0 hX ?_ | refine a7 q14x0 hX mixed ?_ | refine aE ?_ | refine aB ?_ | refine aC ?_); (simp [go_sem, hiS, q4]; try (refine ⟨by kernel_rfl, ?_⟩)))))
            refine ⟨⟨by omega, by unfold maxLen; omega⟩, ?_⟩
            (repeat (first | refine aD ?_ | refine a8 ?_ | ((first | refine aA q14x0 hX ?_ | refine a7 q14x0 hX mixed ?_ | refine aE ?_ | refine aB ?_ | refine aC ?_); (simp [go_sem, hiS, q4]; try (refine ⟨by kernel_rfl, ?_⟩)))))
            refine ⟨⟨by omega, by omega⟩, ⟨by omega, by unfold maxLen; omega⟩, ?_⟩
            (repeat (first | refine aD ?_ | refine a8 ?_ | ((first | refine aA q14x0 hX ?_ | refine a7 q14x0 hX mixed ?_ | refine aE ?_ | refine aB ?_ | refine aC ?_); (simp [go_sem, hiS, q4]; try (refine ⟨by kernel_rfl, ?_⟩)))))
            refine ⟨⟨by omega, by unfold maxLen; omega⟩, ⟨by omega, by unfold maxLen; omega⟩, ⟨by omega, by unfold maxLen; omega⟩, ?_⟩
            (repeat (first | refine aD ?_ | refine a8 ?_ | ((first | refine aA q14x0 hX ?_ | refine a7 q14x0 hX mixed ?_ | refine aE ?_ | refine aB ?_ | refine aC ?_); (simp [go_sem, hb, q2, t1, t2, t3, t4, hf, wg]; try (refine ⟨by kernel_rfl, ?_⟩)))))
            refine ⟨⟨by omega, by unfold maxLen; omega⟩, ?_⟩
            (repeat (first | refine aD ?_ | refine a8 ?_ | ((first | refine aA q14x0 hX ?_ | refine a7 q14x0 hX mixed ?_ | refine aE ?_ | refine aB ?_ | refine aC ?_); (simp [go_sem, wi]; try (refine ⟨by kernel_rfl, ?_⟩)))))
            refine ⟨i + 1, by omega, by omega, ?_⟩
            rw [e1, e2', e3', e4', e5]
            have zr : zoneEs (List.replicate own.length (ii 0)) = true := by rw [← List.map_replicate]; exact dM _
            refine aI _ [.old 0 ⟨3, 1, X1 ++ [ii own[m]]⟩, .old 7 ⟨22, 1, X2 ++ [.sl TR]⟩, .old 10 ⟨22, 1, X3 ++ [.sl (List.replicate own.length (ii 0))]⟩, .old 16 ⟨22, 1, X4 ++ [.sl (S[i].map ii ++ [ii 0])]⟩, .old 18 ⟨3, 1, X5 ++ [ii (oi * f)]⟩] ?_ ?_
            rotate_left
            · simp [go_sem]
            refine ⟨⟨⟨rfl, rfl⟩, .inl ⟨rfl, by simp [go_sem, z1]⟩⟩, rfl, ⟨⟨rfl, rfl⟩, .inr (kI s2 rfl zt (rfl))⟩, rfl, ⟨⟨rfl, rfl⟩, .inr (kI s3 rfl zr (rfl))⟩, rfl, ⟨⟨rfl, rfl⟩, .inr (kI s4 rfl (by simp [go_sem, zS]) (rfl))⟩, rfl, ⟨⟨rfl, rfl⟩, .inl ⟨rfl, by simp [go_sem, z5]⟩⟩, rfl, trivial⟩
      · simp only [decide_eq_false_iff_not] at hb
        have hin : i = own.length := by omega
        subst hin
        have f1 : tX1 own b own.length = (turnO own b).map ii := by unfold tX1; rw [List.take_of_length_le (by rw [aZ]; exact Nat.le_refl _)]
        have f2 : tX2 own S b own.length = (turnS S own.length b).map il := by unfold tX2; rw [List.take_of_length_le (by rw [iM]; exact Nat.le_refl _)]
        have f3 : tX3 own own.length = (zeroS own.length).map il := by unfold tX3; rw [List.take_of_length_le (by rw [l6]; exact Nat.le_refl _)]
        have f4 : tX4 S own.length = (moreT S).map il := by unfold tX4; rw [List.take_of_length_le (by rw [iU, hSl]; exact Nat.le_refl _)]
        have f5 : tX5 own f own.length = (growO own f).map ii := by unfold tX5; rw [List.take_of_length_le (by rw [c5]; exact Nat.le_refl _)]
        rw [f1, f2, f3, f4, f5]
        have z1 := dM (turnO own b)
        have z2 := gC (turnS S own.length b)
        have z3 := gC (zeroS own.length)
        have z4 := gC (moreT S)
        have z5 := dM (growO own f)
        refine iB (aI [(0, il own), (1, ill S), (2, .v (.int .u8 b)), (3, .v (.int .u8 tm')), (9, bb true), (10, ii own.length), (11, fql A), (12, fql K), (14, il (turnO own b)), (15, ill (turnS S own.length b)), (16, ill (zeroS own.length)), (17, .ow 0), (18, il (growO own f))] [.old 3 ⟨22, 1, (moreT S).map il⟩] (by simp [go_sem, z4]) (by simp [go_sem, z1, z2, z3, z4, z5])) ?_
        simp only [List.map_cons, List.map_nil, Src.cell]
        clear f1 f2 f3 f4 f5 z1 z2 z3 z5
        have hMl : ((moreT S).map il).length = own.length := by rw [List.length_map, iU]; exact hSl
        have sM : slL ((moreT S).map il) := rN _
        have d1 := gB (r7 hv b) (by rw [aZ]; exact h6)
        have d2 := gB (r8 hv) h6
        have d3 := w8 hv h6
        rw [show il (own ++ [0]) = AV.sl (own.map ii ++ [ii 0]) by simp] at d3
        have l1 : (allQ (turnO own b) (turnS S own.length b)).length = own.length := by rw [oG, aZ]
        have l2 : (keptQ (turnO own b) (turnS S own.length b)).length = own.length := by rw [fL, aZ]
        have l3 : (keptQ own (zeroS own.length)).length = own.length := fL _ _
        have l4 : (keptQ (own ++ [0]) (moreS S own.length)).length = own.length + 1 := by rw [fL, bM]
        have v1 : ∀ k, k < own.length → (allQ (turnO own b) (turnS S own.length b)).getD k 0 = A.getD ((k + b) % own.length) 0 := fun k hk => by
          rw [iQ (by rw [aZ]; exact hk), tW hv b hk, ← hA, iQ (Nat.mod_lt _ hpos)]
        have v2 : ∀ k, k < own.length → (keptQ (turnO own b) (turnS S own.length b)).getD k 0 = K.getD ((k + b) % own.length) 0 := fun k hk => by
          rw [dY (by rw [aZ]; exact hk), zA hv b hk, ← hK, dY (Nat.mod_lt _ hpos)]
        have v3 : ∀ k, k < own.length → (keptQ own (zeroS own.length)).getD k 0 = ((wO own k : Int) : Rat) := fun k hk => by
          rw [dY hk, zB hv hk]
        have v4 : ∀ k, k < own.length → (keptQ (own ++ [0]) (moreS S own.length)).getD k 0 = K.getD k 0 := fun k hk => by
          rw [dY (by rw [bM]; omega), zD hv h6 (by omega), if_pos hk, ← hK, dY hk]
        obtain ⟨X, Y, e, d4, he, hXY⟩ := w9 (f := f) hv h6 hf1
        rw [hA, hK] at hXY
        have hAq : ∀ k, k < own.length → rq (A.getD k 0) := fun k hk => by
          have hk2 : k < A.length := by omega
          rw [gA hk2]; exact j6 (hab _ (List.getElem_mem hk2)) (by decide) (by decide)
        have hKq : ∀ k, k < own.length → rq (K.getD k 0) := fun k hk => by
          have hk2 : k < K.length := by omega
          rw [gA hk2]; exact j6 (hkb _ (List.getElem_mem hk2)) (by decide) (by decide)
        have hAm : ∀ k, k < own.length → okMul (A.getD k 0) ((f : Int) : Rat) := fun k hk => by
          have hk2 : k < A.length := by omega
          rw [gA hk2]
          have hb := vX (IM hf1)
          exact cY (hab _ (List.getElem_mem hk2)).1 (hab _ (List.getElem_mem hk2)).2 hb.1 hb.2 (by decide) (by decide)
        have hKm : ∀ k, k < own.length → okMul (K.getD k 0) ((f : Int) : Rat) := fun k hk => by
          have hk2 : k < K.length := by omega
          rw [gA hk2]
          have hb := vX (IM hf1)
          exact cY (hkb _ (List.getElem_mem hk2)).1 (hkb _ (List.getElem_mem hk2)).2 hb.1 hb.2 (by decide) (by decide)
        clear hab hkb hA hK
        generalize allQ (turnO own b) (turnS S own.length b) = A1 at *
        generalize keptQ (turnO own b) (turnS S own.length b) = K1 at *
        generalize allQ own (zeroS own.length) = A2 at *
        generalize keptQ own (zeroS own.length) = K2 at *
        generalize allQ (own ++ [0]) (moreS S own.length) = A3 at *
        generalize keptQ (own ++ [0]) (moreS S own.length) = K3 at *
        (repeat (first | refine aD ?_ | refine a8 ?_ | ((first | refine aA q14x0 hX ?_ | refine a7 q14x0 hX mixed ?_ | refine aE ?_ | refine aB ?_ | refine aC ?_); (simp [go_sem]; try (refine ⟨by kernel_rfl, ?_⟩)))))
        first | refine aF (d1) rfl (by simp [go_sem]) rfl ?_ | refine aG (d1) rfl (by simp [go_sem]) rfl ?_
        try (simp [go_sem]; try (refine ⟨by kernel_rfl, ?_⟩))
        (repeat (first | refine aD ?_ | refine a8 ?_ | ((first | refine aA q14x0 hX ?_ | refine a7 q14x0 hX mixed ?_ | refine aE ?_ | refine aB ?_ | refine aC ?_); (simp [go_sem]; try (refine ⟨by kernel_rfl, ?_⟩)))))
        first | refine aF (d2) rfl (by simp [go_sem]) rfl ?_ | refine aG (d2) rfl (by simp [go_sem]) rfl ?_
        try (simp [go_sem]; try (refine ⟨by kernel_rfl, ?_⟩))
        (repeat (first | refine aD ?_ | refine a8 ?_ | ((first | refine aA q14x0 hX ?_ | refine aB ?_ | refine aC ?_); (simp [go_sem]; try (refine ⟨by kernel_rfl, ?_⟩)))))
        have hn9 : (own.length : Int) ≤ 9 := by omega
        have wn1 := w64 (x := (own.length : Int) + 1) (by omega) (by omega)
        refine vW q14x0 7 11 hX mixed ?_; (simp [go_sem, hMl, wn1]; try (refine ⟨by kernel_rfl, ?_⟩))
        try (repeat refine And.intro (by first | omega | (unfold maxLen; omega) | kernel_rfl | (refine ⟨by first | omega | (unfold maxLen; omega), by first | omega | (unfold maxLen; omega)⟩) | grind) ?_)
        refine ⟨fun id h => ?_, ?_⟩
        · rcases h with ⟨a, ⟨x, ⟨l, _, rfl⟩, ha⟩, hid⟩ | h
          · have : a = il l := by simpa [AV.flat] using ha
            rw [this] at hid
            simp [AV.ids] at hid
          · exact .inr (.inr h)
        refine ⟨⟨mkE [(0, il own), (1, ill S), (2, .v (.int .u8 b)), (3, .v (.int .u8 tm')), (9, bb true), (10, ii own.length), (11, fql A), (12, fql K), (18, il (growO own f)), (23, fql A1), (24, fql K1), (25, ii 0), (27, fql K2), (28, ii 0), (169, il (own ++ [0])), (175, ill (moreS S own.length))], []⟩, ?_, ?_⟩
        · refine dF (b := ⟨mkE [(0, il own), (1, ill S), (2, .v (.int .u8 b)), (3, .v (.int .u8 tm')), (9, bb true), (10, ii own.length), (11, fql A), (12, fql K), (18, il (growO own f)), (23, fql A1), (24, fql K1), (25, ii 0), (27, fql K2), (28, ii 0), (169, il (own ++ [0])), (175, .ow 0)], [.row ⟨22, 1, (moreS S own.length).map il⟩]⟩) ?_ ?_
          · refine aI _ [] trivial ?_
            have zm := gC (moreS S own.length)
            simp [go_sem, zm]
          · have zr : zoneEs (List.replicate (own.length + 1) (ii 0)) = true := by rw [← List.map_replicate]; exact dM _
            refine aI _ [.old 7 ⟨22, 1, (moreS S own.length).map il⟩] ?_ ?_
            · exact ⟨⟨⟨rfl, rfl⟩, .inr (by rw [← DD]; exact kI sM rfl zr rfl)⟩, rfl, trivial⟩
            · have zo := dM own
              simp [go_sem, zo]
        simp [go_sem]
        refine sV (d3) rfl (by simp [go_sem]) rfl ?_
        try (simp [go_sem]; try (refine ⟨by kernel_rfl, ?_⟩))
        (repeat (first | refine aD ?_ | refine a8 ?_ | ((first | refine aA q14x0 hX ?_ | refine a7 q14x0 hX mixed ?_ | refine aE ?_ | refine aB ?_ | refine aC ?_); (simp [go_sem]; try (refine ⟨by kernel_rfl, ?_⟩)))))
        first | refine aF (d4) rfl (by simp [go_sem]) rfl ?_ | refine aG (d4) rfl (by simp [go_sem]) rfl ?_
        try (simp [go_sem]; try (refine ⟨by kernel_rfl, ?_⟩))
        (repeat (first | refine aD ?_ | refine a8 ?_ | ((first | refine aA q14x0 hX ?_ | refine a7 q14x0 hX mixed ?_ | refine aE ?_ | refine aB ?_ | refine aC ?_); (simp [go_sem]; try (refine ⟨by kernel_rfl, ?_⟩)))))
        refine aH (b := false) (by simp [go_sem, l1, l2, l3, l4, wn1]) (fun h => by cases h) (fun _ => ?_)
        have o1 := DN f 1 (by omega) (by decide) (by decide)
        rw [kF] at o1
        have hfq : rq ((f : Int) : Rat) := rF (by omega)
        obtain ⟨fr, hfr⟩ : ∃ r, ((f : Int) : Rat) = r := ⟨_, rfl⟩
        rw [hfr] at o1 hfq hXY hAm hKm
        clear d1 d2 d3 d4 hMl sM
        (repeat (first | refine aD ?_ | refine a8 ?_ | ((first | refine aA q14x0 hX ?_ | refine a7 q14x0 hX mixed ?_ | refine aE ?_ | refine aB ?_ | refine aC ?_); (simp [go_sem, t1, t2, t3, t4, hf]; try (refine ⟨by kernel_rfl, ?_⟩)))))
        first | refine aF (o1) rfl (by simp [go_sem]) rfl ?_ | refine aG (o1) rfl (by simp [go_sem]) rfl ?_
        try (simp [go_sem]; try (refine ⟨by kernel_rfl, ?_⟩))
        (repeat (first | refine aD ?_ | refine a8 ?_ | ((first | refine aA q14x0 hX ?_ | refine a7 q14x0 hX mixed ?_ | refine aE ?_ | refine aB ?_ | refine aC ?_); (simp [go_sem]; try (refine ⟨by kernel_rfl, ?_⟩)))))
        refine aQ (fun k : Nat => ⟨mkE [(0, il own), (2, .v (.int .u8 b)), (9, bb true), (10, ii own.length), (11, fql A), (12, fql K), (23, fql A1), (24, fql K1), (27, fql K2), (30, fql K3), (32, fql X), (33, fql Y), (34, ii e), (35, .el 0 4 0 0), (37, ii k)], [.row ⟨41, 4, [frq fr]⟩]⟩) (fun k => k ≤ own.length) (fun k => own.length - k) 0 ?_ ?_ ?_
        · refine aI _ [.old 0 ⟨41, 4, [frq fr]⟩] (by simp [go_sem]) ?_
          simp [go_sem]
        · omega
        · intro k hk
          (repeat (first | refine aD ?_ | refine a8 ?_ | ((first | refine aA q14x0 hX ?_ | refine a7 q14x0 hX mixed ?_ | refine aE ?_ | refine aB ?_ | refine aC ?_); (simp [go_sem]; try (refine ⟨by kernel_rfl, ?_⟩)))))
          refine aH (b := decide (k < own.length)) (by simp [go_sem]) (fun hb => ?_) (fun hb => ?_)
          · simp only [decide_eq_true_eq] at hb
            have wk := w64 (x := (k : Int) + 1) (by omega) (by omega)
            have hm := Nat.mod_lt (k + b) hpos
            have w1 := v1 k hb
            have w2 := v2 k hb
            have w3 := v3 k hb
            have w4 := v4 k hb
            have u1 := hAq k hb
            have u2 := hKq k hb
            have u3 := hAq _ hm
            have u4 := hKq _ hm
            have p1 := hAm k hb
            have p2 := hKm k hb
            have hXYk := fun h => (hXY h).2 k hb
            have hXYl := fun h => (hXY h).1
            obtain ⟨m, hmm⟩ : ∃ m, (k + b) % own.length = m := ⟨_, rfl⟩
            have r1 : ((k : Int) + b).tmod own.length = m := by rw [Int.tmod_eq_emod_of_nonneg (by omega), ← hmm]; norm_cast
            have r2 : IntKind.i64.wrap ((k : Int) + b) = (k : Int) + b := w64 (by omega) (by omega)
            have r3 : IntKind.i64.wrap (m : Int) = m := w64 (by omega) (by omega)
            have r4 : ¬ own = [] := fun e => by rw [e] at hpos; simp at hpos
            rw [hmm] at hm w1 w2 u3 u4
            have g1 : nth (A1.map frq) k = frq (A.getD m 0) := by rw [← w1]; exact cJ (by omega)
            have g2 : nth (A.map frq) m = frq (A.getD m 0) := cJ (by omega)
            have g3 : nth (K1.map frq) k = frq (K.getD m 0) := by rw [← w2]; exact cJ (by omega)
            have g4 : nth (K.map frq) m = frq (K.getD m 0) := cJ (by omega)
            have g5 : nth (K2.map frq) k = frq ((wO own k : Int) : Rat) := by rw [← w3]; exact cJ (by omega)
            have g6 : nth (K3.map frq) k = frq (K.getD k 0) := by rw [← w4]; exact cJ (by omega)
            have g7 : nth (K.map frq) k = frq (K.getD k 0) := cJ (by omega)
            have g8 : nth (A.map frq) k = frq (A.getD k 0) := cJ (by omega)
            have q1 := cR hb
            have hwk := hv.w k hb
            rw [show own[k] = wO own k from (bT hb).symm] at q1
            have o2 := DN (wO own k) 1 (by omega) (by decide) (by decide)
            rw [kF] at o2
            have u5 := rF (z := wO own k) (by omega)
            have eqc : ∀ {x : Rat}, rq x → Means false Tryz.prog 22 [frq x, frq x] (ii 0) := fun {x} hx => by
              have := dK hx hx
              rwa [(mE x x).2 rfl] at this
            have m1 := eqc u3
            have m2 := eqc u4
            have m3 := eqc u5
            have m4 := eqc u2
            have k1 := v6 u1 hfq p1
            have k2 := v6 u2 hfq p2
            have m5 := eqc (mW p1)
            have m6 := eqc (mW p2)
            have hk1 : k < A1.length := by omega
            have hk2 : k < K1.length := by omega
            have hk3 : k < K2.length := by omega
            have hk4 : k < K3.length := by omega
            have hk5 : k < K.length := by omega
            have hk6 : k < A.length := by omega
            have hm1 : m < A.length := by omega
            have hm2 : m < K.length := by omega
            have g9 : e = 0 → nth (X.map frq) k = frq (A.getD k 0 * fr) := fun h => by rw [← (hXYk h).1]; exact cJ (by have := (hXYl h).1; omega)
            have g10 : e = 0 → nth (Y.map frq) k = frq (K.getD k 0 * fr) := fun h => by rw [← (hXYk h).2]; exact cJ (by have := (hXYl h).2; omega)
            clear v1 v2 v3 v4 w1 w2 w3 w4 u1 u2 u3 u4 u5 p1 p2 hXYk eqc hAq hKq hAm hKm hXY
            generalize A.getD m 0 = xa at *
            generalize K.getD m 0 = xk at *
            generalize K.getD k 0 = yk at *
            generalize A.getD k 0 = ya at *
            generalize ((wO own k : Int) : Rat) = ow' at *
            generalize wO own k = wk' at *
            generalize ya * fr = pa at *
            generalize yk * fr = pk at *
            (repeat (first | refine aD ?_ | refine a8 ?_ | ((first | refine aA q14x0 hX ?_ | refine a7 q14x0 hX mixed ?_ | refine aE ?_ | refine aB ?_ | refine aC ?_); (simp [go_sem, t5, r1, r2, r3, r4, hb, q1]; try (refine ⟨by kernel_rfl, ?_⟩)))))
            first | refine aF (o2) rfl (by simp [go_sem]) rfl ?_ | refine aG (o2) rfl (by simp [go_sem]) rfl ?_
            try (simp [go_sem]; try (refine ⟨by kernel_rfl, ?_⟩))
            (repeat (first | refine aD ?_ | refine a8 ?_ | ((first | refine aA q14x0 hX ?_ | refine a7 q14x0 hX mixed ?_ | refine aE ?_ | refine aB ?_ | refine aC ?_); (simp [go_sem, hk1, hk2, hk3, hk4, hk5, hm1, hm2, g1, g2, g3, g4, g5, g6, g7]; try (refine ⟨by kernel_rfl, ?_⟩)))))
            first | refine aF (m1) rfl (by simp [go_sem]) rfl ?_ | refine aG (m1) rfl (by simp [go_sem]) rfl ?_
            try (simp [go_sem, hk1, hk2, hk3, hk4, hk5, hm1, hm2, g1, g2, g3, g4, g5, g6, g7]; try (refine ⟨by kernel_rfl, ?_⟩))
            first | refine aR (fun hg => m2) rfl (by simp [go_sem]) rfl ?_ | refine aO (fun hg => m2) rfl (by simp [go_sem]) rfl ?_
            try (simp [go_sem, hk1, hk2, hk3, hk4, hk5, hm1, hm2, g1, g2, g3, g4, g5, g6, g7]; try (refine ⟨by kernel_rfl, ?_⟩))
            first | refine aR (fun hg => m3) rfl (by simp [go_sem]) rfl ?_ | refine aO (fun hg => m3) rfl (by simp [go_sem]) rfl ?_
            try (simp [go_sem, hk1, hk2, hk3, hk4, hk5, hm1, hm2, g1, g2, g3, g4, g5, g6, g7]; try (refine ⟨by kernel_rfl, ?_⟩))
            first | refine aR (fun hg => m4) rfl (by simp [go_sem]) rfl ?_ | refine aO (fun hg => m4) rfl (by simp [go_sem]) rfl ?_
            try (simp [go_sem, hk1, hk2, hk3, hk4, hk5, hm1, hm2, g1, g2, g3, g4, g5, g6, g7]; try (refine ⟨by kernel_rfl, ?_⟩))
            refine aH (b := false) (by simp [go_sem]) (fun h => by cases h) (fun _ => ?_)
            (repeat (first | refine aD ?_ | refine a8 ?_ | ((first | refine aA q14x0 hX ?_ | refine a7 q14x0 hX mixed ?_ | refine aE ?_ | refine aB ?_ | refine aC ?_); (simp [go_sem]; try (refine ⟨by kernel_rfl, ?_⟩)))))
            refine aH (b := decide (e ≠ 0)) (by simp [go_sem]) (fun he => ?_) (fun he => ?_)
            · (repeat (first | refine aD ?_ | refine a8 ?_ | ((first | refine aA q14x0 hX ?_ | refine a7 q14x0 hX mixed ?_ | refine aE ?_ | refine aB ?_ | refine aC ?_); (simp [go_sem, wk]; try (refine ⟨by kernel_rfl, ?_⟩)))))
              refine ⟨k + 1, by omega, by omega, ?_⟩
              refine aI _ [.old 0 ⟨41, 4, [frq fr]⟩] (by simp [go_sem]) ?_
              simp [go_sem]
            · have he0 : e = 0 := by simpa using he
              have g9 := g9 he0
              have g10 := g10 he0
              obtain ⟨hXl, hYl⟩ := hXYl he0
              have hkX : k < X.length := by omega
              have hkY : k < Y.length := by omega
              (repeat (first | refine aD ?_ | refine a8 ?_ | ((first | refine aA q14x0 hX ?_ | refine a7 q14x0 hX mixed ?_ | refine aE ?_ | refine aB ?_ | refine aC ?_); (simp [go_sem]; try (refine ⟨by kernel_rfl, ?_⟩)))))
              refine aH (b := false) (by simp [go_sem, hXl, hYl]) (fun h => by cases h) (fun _ => ?_)
              (repeat (first | refine aD ?_ | refine a8 ?_ | ((first | refine aA q14x0 hX ?_ | refine a7 q14x0 hX mixed ?_ | refine aE ?_ | refine aB ?_ | refine aC ?_); (simp [go_sem, hk5, hk6, g7, g8]; try (refine ⟨by kernel_rfl, ?_⟩)))))
              first | refine aF (k1) rfl (by simp [go_sem]) rfl ?_ | refine aG (k1) rfl (by simp [go_sem]) rfl ?_
              try (simp [go_sem, hk5, hk6, g7, g8]; try (refine ⟨by kernel_rfl, ?_⟩))
              (repeat (first | refine aD ?_ | refine a8 ?_ | ((first | refine aA q14x0 hX ?_ | refine a7 q14x0 hX mixed ?_ | refine aE ?_ | refine aB ?_ | refine aC ?_); (simp [go_sem, hk5, hk6, g7, g8]; try (refine ⟨by kernel_rfl, ?_⟩)))))
              first | refine aF (k2) rfl (by simp [go_sem]) rfl ?_ | refine aG (k2) rfl (by simp [go_sem]) rfl ?_
              try (simp [go_sem, hk5, hk6, g7, g8]; try (refine ⟨by kernel_rfl, ?_⟩))
              (repeat (first | refine aD ?_ | refine a8 ?_ | ((first | refine aA q14x0 hX ?_ | refine a7 q14x0 hX mixed ?_ | refine aE ?_ | refine aB ?_ | refine aC ?_); (simp [go_sem, hkX, hkY, g9, g10]; try (refine ⟨by kernel_rfl, ?_⟩)))))
              first | refine aF (m5) rfl (by simp [go_sem]) rfl ?_ | refine aG (m5) rfl (by simp [go_sem]) rfl ?_
              try (simp [go_sem, hkX, hkY, g9, g10]; try (refine ⟨by kernel_rfl, ?_⟩))
              first | refine aR (fun hg => m6) rfl (by simp [go_sem]) rfl ?_ | refine aO (fun hg => m6) rfl (by simp [go_sem]) rfl ?_
              try (simp [go_sem, hkX, hkY, g9, g10]; try (refine ⟨by kernel_rfl, ?_⟩))
              refine aH (b := false) (by simp [go_sem]) (fun h => by cases h) (fun _ => ?_)
              (repeat (first | refine aD ?_ | refine a8 ?_ | ((first | refine aA q14x0 hX ?_ | refine a7 q14x0 hX mixed ?_ | refine aE ?_ | refine aB ?_ | refine aC ?_); (simp [go_sem, wk]; try (refine ⟨by kernel_rfl, ?_⟩)))))
              refine ⟨k + 1, by omega, by omega, ?_⟩
              refine aI _ [.old 0 ⟨41, 4, [frq fr]⟩] (by simp [go_sem]) ?_
              simp [go_sem]
          · rcases he with rfl | rfl
            · (repeat (first | refine aD ?_ | refine a8 ?_ | ((first | refine aA q14x0 hX ?_ | refine a7 q14x0 hX mixed ?_ | refine aE ?_ | refine aB ?_ | refine aC ?_); (simp [go_sem]; try (refine ⟨by kernel_rfl, ?_⟩)))))
            · (repeat (first | refine aD ?_ | refine a8 ?_ | ((first | refine aA q14x0 hX ?_ | refine a7 q14x0 hX mixed ?_ | refine aE ?_ | refine aB ?_ | refine aC ?_); (simp [go_sem]; try (refine ⟨by kernel_rfl, ?_⟩)))))
  · refine aH (b := true) (by rcases Classical.not_and_iff_not_or_not.1 hgo with h | h <;> simp [go_sem, h]) (fun _ => ?_) (fun h => by cases h)
    (repeat (first | refine aD ?_ | refine a8 ?_ | ((first | refine aA q14x0 hX ?_ | refine a7 q14x0 hX mixed ?_ | refine aE ?_ | refine aB ?_ | refine aC ?_); (simp [go_sem]; try (refine ⟨by kernel_rfl, ?_⟩)))))
end Go.Proofs.YthibhamepjhfjaaGreatDoor

namespace Go.Proofs.YthibhamepjhfjaaGreatDoor
open Go.ChangeShapes Go.WideShapes Go.ChangeAt Go.RowKit Go.Ab
theorem Tryz.own : ownKnob Tryz.prog.godebug = none := by kernel_rfl
theorem Tryz.laidOut : laidOutB Tryz.prog = true := by kernel_rfl
set_option maxRecDepth 100000 in
theorem G8 {H : Type} {enc : TypeId × Value → H} {W : World} {base : Nat} {v : Value} {d : DataW H} {p : List MemPlace} {M : Nat → Prop} {r : Go.Reach} {b0 : Nat} (hM : ∀ b, b < W.heap.size → M b)
    (hval : Value.okWide Tryz.prog W r b0 22 v) (h : DataW.Trod enc Tryz.prog W base (fun _ => true) true 22 v d p) : ∃ L : List Int, L.length ≤ maxLen ∧ RepZ W M v (.sl (L.map ii)) :=
  mZ ii 1 (by decide) (fun _ => rfl) Tryz.underlying22 (by kernel_rfl) hM (AZ Tryz.underlying3) hval h
set_option maxRecDepth 100000 in
theorem IN {H : Type} {enc : TypeId × Value → H} {W : World} {base : Nat} {M : Nat → Prop} (hM : ∀ b, b < W.heap.size → M b) : ∀ n cs y, DataW.trod enc Tryz.prog W base (fun _ => true) true n 22 cs = some y → cs.length = 1 → ∃ x : List Int, ∀ (j : Nat) (c : Value) (z : AV), cs[j]? = some c → (il x).flat[j]? = some z → RepZ W M c z := by
  intro n cs y h hl
  match cs, hl with
  | [c0], _ =>
    obtain ⟨v, hv, L, hL, hr⟩ := oV (M := M) ii 1 (by decide) (fun _ => rfl) Tryz.underlying22 (by kernel_rfl) hM (AZ Tryz.underlying3) h
    have : v = c0 := by simpa using hv.symm
    subst this
    refine ⟨L, fun j x z hx hz => ?_⟩
    match j with
    | 0 => simp [AV.flat] at hx hz; subst hx; subst hz; exact hr
    | j + 1 => simp at hx
set_option maxRecDepth 100000 in
theorem DI {H : Type} {enc : TypeId × Value → H} {W : World} {base : Nat} {v : Value} {d : DataW H} {p : List MemPlace} {M : Nat → Prop} {r : Go.Reach} {b0 : Nat} (hM : ∀ b, b < W.heap.size → M b)
    (hval : Value.okWide Tryz.prog W r b0 23 v) (h : DataW.Trod enc Tryz.prog W base (fun _ => true) true 23 v d p) : ∃ L : List (List Int), L.length ≤ maxLen ∧ RepZ W M v (ill L) :=
  mZ il 1 (by decide) (fun _ => rfl) Tryz.underlying23 (by kernel_rfl) hM (IN hM) hval h
set_option maxRecDepth 100000 in
theorem q6 {W : World} (h : laidMet Tryz.prog Rows.cedeCoinsRow.laid W) : GlobW W (fun b => b < W.heap.size) :=
  yH (g := 0) (cs := Lib.pow10Tab.map fun z => Value.int .u64 z) (by rw [globs]; kernel_rfl)
    (yG (zs := Lib.pow10Tab) h (n := "internal/strconv.uint64pow10") (List.mem_of_getElem? (i := 2) (by kernel_rfl)) (len := 20) (by kernel_rfl) (by kernel_rfl) Tryz.underlying149 Tryz.underlying88 (by kernel_rfl) (by kernel_rfl))
    (fun g hg => by rw [globI] at hg; simp at hg)
noncomputable def laidWorld (os : Os) : World := layAll Tryz.prog (World.holding Tryz.prog os ⟨#[], #[], []⟩) Rows.cedeCoinsRow.laid
set_option maxRecDepth 100000 in
theorem AD (os : Os) (args : Array Value) : laidMet Tryz.prog Rows.cedeCoinsRow.laid ((laidWorld os).forCall (fun _ _ => 0) ⟨#[], args, []⟩).memory :=
  laidMet_of_run3 8 (by kernel_rfl) (by kernel_rfl) (by kernel_rfl)
end Go.Proofs.YthibhamepjhfjaaGreatDoor

