/-
  The walk of the law on opening.
-/
import Derived.Test.YtgfgajofilcniaaSealC
import Derived.Test.YtgfgajofilcniaaSealK
import Derived.Test.YtgfgajofilcniaaBarA
import Derived.Test.YtgfgajofilcniaaFw5
set_option linter.all false
namespace Go.Proofs.Ytgfgajofilcniaa
open Go.RowKit Go.Ab
/-- The rows that a call made are forgotten: its result names none. -/
theorem means_of_hz {P : Program} {f : FuncId} {args : List AV} {r : AV} {H' : List Cell} (h : MeansH P f [] args r H') (hz : ∀ e ∈ args, e.idLt 0) (hr : r.zone = true) : Means false P f args r := by
  intro M w vs hM hg hl hvs
  have h0 : HeapS (blks [] fun _ => undef) M (fun _ => undef) [] w := ⟨by simp, by simp, by simp, by simp, by simp⟩
  refine (h w M (fun _ => undef) vs hM hg h0 hl fun j x e h1 h2 => ⟨(hvs j x e h1 h2).rep, hz e (List.mem_of_getElem? h2)⟩).mono fun e w' hq => ?_
  obtain ⟨x, M', loc', rfl, hS, hb, hMM, hzone, _, hrep, hid, _⟩ := hq
  have hno : ∀ b, ¬ blks [] (fun _ => undef) b := fun b hb => by
    rcases hb with ⟨id, o, ho, _⟩ | ⟨id, m, hm, _⟩
    · simp at ho
    · simp at hm
  refine ⟨x, rfl, ⟨hb.os, hb.tape, hb.output, hb.size, fun k hk => hb.block k hk (hno k)⟩, (hrep.repZ hr).mono (fun _ _ => rfl) fun b hb => ?_⟩
  obtain ⟨h1, h2⟩ := hzone b hb
  refine ⟨h1, ?_⟩
  rcases h2 with h2 | h2 | h2
  · exact .inr ⟨rfl, h2⟩
  · exact .inl h2
  · exact (hno b h2).elim
attribute [local irreducible] AWP Go.Ab.Sub Means MeansH CallK CallG CallT CallGT CallU

theorem sigE_nodup {L : List E} (h : L.Nodup) (e : E) : (sigE L e).Nodup := by
  simp only [sigL]; split
  · rename_i hc
    simp only [Bool.and_eq_true, Bool.not_eq_true', decide_eq_false_iff_not] at hc
    rw [List.nodup_append]
    refine ⟨h, by simp, fun a ha b hb hab => ?_⟩
    rw [List.mem_singleton] at hb
    subst hb; subst hab; exact hc.2 ha
  · exact h
theorem ent_nodup (L : List E) : ∀ k, k ≤ L.length → (ent (L.take k)).Nodup
  | 0, _ => by simp [ent_nil]
  | k + 1, h => by rw [ent_succ (by omega)]; exact sigE_nodup (ent_nodup L k (by omega)) _
/-- Different entries with keys are their own entries. -/
theorem ent_self {L : List E} (hn : L.Nodup) (hk : ∀ e ∈ L, isKey e.key = true) : ∀ k, k ≤ L.length → ent (L.take k) = L.take k
  | 0, _ => by simp [ent_nil]
  | k + 1, h => by
    have hkl : k < L.length := by omega
    rw [ent_succ hkl, ent_self hn hk k (by omega), sigE_new (hk _ (List.getElem_mem hkl)), ← List.take_succ_eq_append_getElem hkl]
    intro hm
    obtain ⟨i, hi, he⟩ := List.mem_take_iff_getElem.1 hm
    have := List.pairwise_iff_getElem.1 hn i k (by omega) hkl (by omega)
    exact this he
theorem ent_keys (L : List E) {e : E} (h : e ∈ ent L) : isKey e.key = true := by
  have h1 := ent_from (l := L) (e := e) L.length (Nat.le_refl _)
  rw [List.take_length] at h1
  exact (h1 h).1
theorem ent_ent (L : List E) : ent (ent L) = ent L := by
  have hn := ent_nodup L L.length (Nat.le_refl _)
  rw [List.take_length] at hn
  have := ent_self hn (fun e he => ent_keys L he) (ent L).length (Nat.le_refl _)
  rwa [List.take_length] at this
theorem badK_ent (L : List E) : badK (ent L) = false := by
  unfold badK
  rw [List.any_eq_false]
  intro e he
  simp [ent_keys L he]
theorem openE_ent (L : List E) : openE (ent L) = 0 := by simp [openE, badK_ent, ent_ent]
theorem ent_snoc (L : List E) (x : E) : ent (L ++ [x]) = sigE (ent L) x := by simp [ent, List.foldl_append]
theorem open_1 (L : List E) (hl : (ent L).length ≤ 900) : MeansH Try.prog 9 [] [.sl ((ent L).map eo)] (.tup [.el 0 2 0 0, ii 0]) (ringH (ent L)) := by
  have h := open_m (ent L) (by omega)
  rwa [show openR (ent L) = .tup [.el 0 2 0 0, ii 0] by simp [openR, openE_ent], show openH (ent L) = ringH (ent L) by simp [openH, openE_ent, ent_ent]] at h
/-- An entry twice. -/
theorem open_2 (L : List E) (hl : (ent L).length ≤ 900) (x : E) (hx : x ∈ ent L) : Means false Try.prog 9 [.sl ((ent L).map eo ++ [eo x])] (.tup [.v (.pointer none), ii 5]) := by
  have h := open_m (ent L ++ [x]) (by simp; omega)
  have hb : badK (ent L ++ [x]) = false := by
    have := badK_ent L
    unfold badK at this ⊢
    rw [List.any_append, this]; simp [ent_keys L hx]
  have hE : openE (ent L ++ [x]) = 5 := by
    unfold openE
    rw [hb, ent_snoc, ent_ent, sigE_old hx]
    simp
  rw [show openR (ent L ++ [x]) = .tup [.v (.pointer none), ii 5] by simp [openR, hE], show openH (ent L ++ [x]) = [] by simp [openH, hE], List.map_append] at h
  exact means_of_hz h (by simp [AV.idLt]) rfl
/-- A key that is none. -/
theorem open_3 (L : List E) (hl : (ent L).length ≤ 900) (x : E) : Means false Try.prog 9 [.sl ((ent L).map eo ++ [eo x, eo ⟨200, ⟨#[]⟩⟩])] (.tup [.v (.pointer none), ii 1]) := by
  have h := open_m (ent L ++ [x, ⟨200, ⟨#[]⟩⟩]) (by simp; omega)
  have hE : openE (ent L ++ [x, ⟨200, ⟨#[]⟩⟩]) = 1 := by
    have hb : badK (ent L ++ [x, ⟨200, ⟨#[]⟩⟩]) = true := by
      unfold badK
      rw [List.any_append]; simp [isKey]
    simp [openE, hb]
  rw [show openR (ent L ++ [x, ⟨200, ⟨#[]⟩⟩]) = .tup [.v (.pointer none), ii 1] by simp [openR, hE], show openH (ent L ++ [x, ⟨200, ⟨#[]⟩⟩]) = [] by simp [openH, hE], List.map_append] at h
  exact means_of_hz h (by simp [AV.idLt]) rfl
theorem sz_x (t : ByteArray) : (t ++ ⟨#[120]⟩ : ByteArray).size = t.size + 1 := by simp [ByteArray.size_append]; rfl

set_option maxHeartbeats 8000000 in
set_option maxRecDepth 20000 in
theorem sealOpens_m (L : List E) (hl0 : L.length ≤ maxLen) (m : E) : Means false Try.prog 3 [.sl (L.map eo), eo m] (bb true) := by
  have hl : L.length ≤ 9223372036854775807 := by unfold maxLen at hl0; omega
  refine means_fn false 192 [.tmp 4] Try.func3 rfl rfl rfl (by simp) (by decide) rfl fun X hX => ?_
  (repeat (refine awp_stepG [0, 1, 3, 4, 5, 6, 7, 8, 9, 10, 11, 12, 13, 14, 15, 16, 17, 18, 19, 20, 35, 44, 72, 89, 94, 98, 107, 110, 152, 156, 179] hX mixed rfl ?_; (simp [go_sem]; try (refine ⟨by kernel_rfl, ?_⟩))))
  first | refine callKa (small_m) ?_ | refine callTa (small_m) ?_
  try (simp [go_sem]; try (refine ⟨by kernel_rfl, ?_⟩))
  (repeat (refine awp_stepG [0, 1, 3, 4, 5, 6, 7, 8, 9, 10, 11, 12, 13, 14, 15, 16, 17, 18, 19, 20, 35, 44, 72, 89, 94, 98, 107, 110, 152, 156, 179] hX mixed rfl ?_; (simp [go_sem]; try (refine ⟨by kernel_rfl, ?_⟩))))
  first | refine callH_intro [] (new_m) (by simp [go_sem]) ?_ | refine callTQ_intro [] (new_m) (by simp [go_sem]) ?_ | refine callTE_intro [] (new_m) (by simp [go_sem]) ?_
  try (simp [go_sem]; try (refine ⟨by kernel_rfl, ?_⟩))
  (repeat (refine awp_stepG [0, 1, 3, 4, 5, 6, 7, 8, 9, 10, 11, 12, 13, 14, 15, 16, 17, 18, 19, 20, 35, 44, 72, 89, 94, 98, 107, 110, 152, 156, 179] hX mixed rfl ?_; (simp [go_sem]; try (refine ⟨by kernel_rfl, ?_⟩))))
  first | refine callKa (few_m L hl 40 (by decide)) ?_ | refine callTa (few_m L hl 40 (by decide)) ?_
  try (simp [go_sem]; try (refine ⟨by kernel_rfl, ?_⟩))
  (repeat (refine awp_stepG [0, 1, 3, 4, 5, 6, 7, 8, 9, 10, 11, 12, 13, 14, 15, 16, 17, 18, 19, 20, 35, 44, 72, 89, 94, 98, 107, 110, 152, 156, 179] hX mixed rfl ?_; (simp [go_sem]; try (refine ⟨by kernel_rfl, ?_⟩))))
  refine awp_cond (b := !few L 40 || decide (500 < (m.text.size : Int))) (by simp [go_sem]) (fun hb => ?_) (fun hb => ?_)
  · (repeat (refine awp_stepG [0, 1, 3, 4, 5, 6, 7, 8, 9, 10, 11, 12, 13, 14, 15, 16, 17, 18, 19, 20, 35, 44, 72, 89, 94, 98, 107, 110, 152, 156, 179] hX mixed rfl ?_; (simp [go_sem]; try (refine ⟨by kernel_rfl, ?_⟩))))
  · have hf : few L 40 = true := by simp at hb; exact hb.1
    have hms : (m.text.size : Int) ≤ 500 := by simp at hb; omega
    have h40 := few_len hf
    (repeat (refine awp_stepG [0, 1, 3, 4, 5, 6, 7, 8, 9, 10, 11, 12, 13, 14, 15, 16, 17, 18, 19, 20, 35, 44, 72, 89, 94, 98, 107, 110, 152, 156, 179] hX mixed rfl ?_; (simp [go_sem]; try (refine ⟨by kernel_rfl, ?_⟩))))
    refine awp_loop (fun k : Nat => ⟨mkE [(0, .sl (L.map eo)), (3, .el 0 2 0 0), (4, bb false), (5, bb true), (6, .el 1 2 0 0), (7, .ow 4), (8, ii k)], [.row ⟨24, 2, [eo m]⟩, .row ⟨42, 2, [.agg [.ow 2, .ow 3]]⟩, .row ⟨24, 2, (ent (L.take k)).map eo⟩, .map ⟨24, 3, marks 0 (ent (L.take k))⟩, .row ⟨31, 3, (madeV L k).map go⟩]⟩) (fun k => k ≤ L.length) (fun k => L.length - k) 0 ?_ ?_ ?_
    · refine sub_of _ [.old 0 ⟨24, 2, [eo m]⟩, .old 1 ⟨42, 2, [.agg [.ow 2, .ow 3]]⟩, .old 2 ⟨24, 2, ([]).map eo⟩, .oldM 3 ⟨24, 3, marks 0 ([])⟩, .birth 31 3] (by simp [go_sem]) ?_
      simp [go_sem, ent_nil, madeV]
    · simp
    · intro k hk
      (repeat (refine awp_stepG [0, 1, 3, 4, 5, 6, 7, 8, 9, 10, 11, 12, 13, 14, 15, 16, 17, 18, 19, 20, 35, 44, 72, 89, 94, 98, 107, 110, 152, 156, 179] hX mixed rfl ?_; (simp [go_sem]; try (refine ⟨by kernel_rfl, ?_⟩))))
      refine awp_cond (b := decide (k < L.length)) (by simp [go_sem]) (fun hc => ?_) (fun hc => ?_)
      · simp at hc
        have hlen := ent_len L k hk
        have hlv := madeV_len L k
        (repeat (first | refine awp_seq ?_ | refine awp_block ?_ | ((first | refine awp_runG [0, 1, 3, 4, 5, 6, 7, 8, 9, 10, 11, 12, 13, 14, 15, 16, 17, 18, 19, 20, 35, 44, 72, 89, 94, 98, 107, 110, 152, 156, 179] hX ?_ | refine awp_skip ?_ | refine awp_exit ?_); (simp [go_sem, hc]; try (refine ⟨by kernel_rfl, ?_⟩)))))
        refine awp_drawn2 [0, 1, 3, 4, 5, 6, 7, 8, 9, 10, 11, 12, 13, 14, 15, 16, 17, 18, 19, 20, 35, 44, 72, 89, 94, 98, 107, 110, 152, 156, 179] 11 12 (⟨mkE [(0, .sl (L.map eo)), (3, .el 0 2 0 0), (4, bb false), (5, bb true), (6, .el 1 2 0 0), (7, .ow 4), (8, ii k), (9, .el 5 3 0 0)], [.row ⟨24, 2, [eo m]⟩, .row ⟨42, 2, [.agg [.ow 2, .ow 3]]⟩, .row ⟨24, 2, (sigE (ent (L.take k)) L[k]).map eo⟩, .map ⟨24, 3, marks 0 (sigE (ent (L.take k)) L[k])⟩, .row ⟨31, 3, (madeV L k).map go⟩, .row ⟨31, 3, [go (sg (ent (L.take k)) L[k])]⟩]⟩) hX mixed (by kernel_rfl) ?_ ?_
        · (simp [go_sem, hc]; try (refine ⟨by kernel_rfl, ?_⟩))
          refine ⟨?_, ?_⟩
          · first | refine callH_intro [1, 2, 3] (sign_m (ent (L.take k)) (by omega) L[k].key L[k].text) (by simp [go_sem]) ?_ | refine callTQ_intro [1, 2, 3] (sign_m (ent (L.take k)) (by omega) L[k].key L[k].text) (by simp [go_sem]) ?_ | refine callTE_intro [1, 2, 3] (sign_m (ent (L.take k)) (by omega) L[k].key L[k].text) (by simp [go_sem]) ?_
            try (simp [go_sem]; try (refine ⟨by kernel_rfl, ?_⟩))
            refine sub_of _ [.old 0 ⟨24, 2, [eo m]⟩, .old 1 ⟨42, 2, [.agg [.ow 2, .ow 3]]⟩, .old 6 ⟨24, 2, (sigE (ent (L.take k)) L[k]).map eo⟩, .oldM 3 ⟨24, 3, marks 0 (sigE (ent (L.take k)) L[k])⟩, .old 4 ⟨31, 3, (madeV L k).map go⟩, .old 5 ⟨31, 3, [go (sg (ent (L.take k)) L[k])]⟩] (by simp [go_sem]) ?_
            simp [go_sem]
          · first | refine callH_intro [1, 2, 3] (sign_m (ent (L.take k)) (by omega) L[k].key L[k].text) (by simp [go_sem]) ?_ | refine callTQ_intro [1, 2, 3] (sign_m (ent (L.take k)) (by omega) L[k].key L[k].text) (by simp [go_sem]) ?_ | refine callTE_intro [1, 2, 3] (sign_m (ent (L.take k)) (by omega) L[k].key L[k].text) (by simp [go_sem]) ?_
            try (simp [go_sem]; try (refine ⟨by kernel_rfl, ?_⟩))
            refine sub_of _ [.old 0 ⟨24, 2, [eo m]⟩, .old 1 ⟨42, 2, [.agg [.ow 2, .ow 3]]⟩, .old 5 ⟨24, 2, (sigE (ent (L.take k)) L[k]).map eo⟩, .oldM 3 ⟨24, 3, marks 0 (sigE (ent (L.take k)) L[k])⟩, .old 4 ⟨31, 3, (madeV L k).map go⟩, .old 6 ⟨31, 3, [go (sg (ent (L.take k)) L[k])]⟩] (by simp [go_sem]) ?_
            simp [go_sem]
        (simp [go_sem]; try (refine ⟨by kernel_rfl, ?_⟩))
        rw [← ent_succ hc]
        (repeat (refine awp_stepG [0, 1, 3, 4, 5, 6, 7, 8, 9, 10, 11, 12, 13, 14, 15, 16, 17, 18, 19, 20, 35, 44, 72, 89, 94, 98, 107, 110, 152, 156, 179] hX mixed rfl ?_; (simp [go_sem, hc]; try (refine ⟨by kernel_rfl, ?_⟩))))
        refine awp_cut ⟨mkE [(0, .sl (L.map eo)), (3, .el 0 2 0 0), (4, bb false), (5, bb true), (6, .el 1 2 0 0), (7, .ow 4), (8, ii k)], [.row ⟨24, 2, [eo m]⟩, .row ⟨42, 2, [.agg [.ow 2, .ow 3]]⟩, .row ⟨24, 2, (ent (L.take (k + 1))).map eo⟩, .map ⟨24, 3, marks 0 (ent (L.take (k + 1)))⟩, .row ⟨31, 3, (madeV L (k + 1)).map go⟩]⟩ ?_ ?_
        · refine awp_cond (b := isKey L[k].key) (by simp [go_sem, isKey]) (fun hd => ?_) (fun hd => ?_)
          · have hsg := madeV_yes hc hd
            (repeat (refine awp_stepG [0, 1, 3, 4, 5, 6, 7, 8, 9, 10, 11, 12, 13, 14, 15, 16, 17, 18, 19, 20, 35, 44, 72, 89, 94, 98, 107, 110, 152, 156, 179] hX mixed rfl ?_; (simp [go_sem, hc]; try (refine ⟨by kernel_rfl, ?_⟩))))
            (repeat refine And.intro (by first | omega | (unfold maxLen; omega) | kernel_rfl | (refine ⟨by first | omega | (unfold maxLen; omega), by first | omega | (unfold maxLen; omega)⟩) | grind) ?_)
            (repeat (refine awp_stepG [0, 1, 3, 4, 5, 6, 7, 8, 9, 10, 11, 12, 13, 14, 15, 16, 17, 18, 19, 20, 35, 44, 72, 89, 94, 98, 107, 110, 152, 156, 179] hX mixed rfl ?_; (simp [go_sem]; try (refine ⟨by kernel_rfl, ?_⟩))))
            refine sub_of _ [.old 0 ⟨24, 2, [eo m]⟩, .old 1 ⟨42, 2, [.agg [.ow 2, .ow 3]]⟩, .old 2 ⟨24, 2, (ent (L.take (k + 1))).map eo⟩, .oldM 3 ⟨24, 3, marks 0 (ent (L.take (k + 1)))⟩, .old 7 ⟨31, 3, (madeV L (k + 1)).map go⟩] (by simp [go_sem, hsg]) ?_
            simp [go_sem]
          · have hd : isKey L[k].key = false := by simpa using hd
            (repeat (refine awp_stepG [0, 1, 3, 4, 5, 6, 7, 8, 9, 10, 11, 12, 13, 14, 15, 16, 17, 18, 19, 20, 35, 44, 72, 89, 94, 98, 107, 110, 152, 156, 179] hX mixed rfl ?_; (simp [go_sem, hc]; try (refine ⟨by kernel_rfl, ?_⟩))))
            refine sub_of _ [.old 0 ⟨24, 2, [eo m]⟩, .old 1 ⟨42, 2, [.agg [.ow 2, .ow 3]]⟩, .old 2 ⟨24, 2, (ent (L.take (k + 1))).map eo⟩, .oldM 3 ⟨24, 3, marks 0 (ent (L.take (k + 1)))⟩, .old 4 ⟨31, 3, (madeV L (k + 1)).map go⟩] (by simp [go_sem, madeV_no hc hd]) ?_
            simp [go_sem]
        (simp [go_sem]; try (refine ⟨by kernel_rfl, ?_⟩))
        (repeat (refine awp_stepG [0, 1, 3, 4, 5, 6, 7, 8, 9, 10, 11, 12, 13, 14, 15, 16, 17, 18, 19, 20, 35, 44, 72, 89, 94, 98, 107, 110, 152, 156, 179] hX mixed rfl ?_; (simp [go_sem, hc]; (try simp (disch := omega) only [w64, td, tm]); try (refine ⟨by kernel_rfl, ?_⟩))))
        refine ⟨k + 1, by omega, by omega, ?_⟩
        refine sub_of _ [.old 0 ⟨24, 2, [eo m]⟩, .old 1 ⟨42, 2, [.agg [.ow 2, .ow 3]]⟩, .old 2 ⟨24, 2, (ent (L.take (k + 1))).map eo⟩, .oldM 3 ⟨24, 3, marks 0 (ent (L.take (k + 1)))⟩, .old 4 ⟨31, 3, (madeV L (k + 1)).map go⟩] (by simp [go_sem]) ?_
        simp [go_sem]
      · have hkl : k = L.length := by simp at hc; omega
        subst hkl
        have hlv := madeV_len L L.length
        have hlen := ent_len L L.length (Nat.le_refl _)
        have hh := fun g => holds_iff L g L.length (Nat.le_refl _)
        rw [List.take_length] at hlen hh ⊢
        generalize hM : madeV L L.length = M at *
        (repeat (refine awp_stepG [0, 1, 3, 4, 5, 6, 7, 8, 9, 10, 11, 12, 13, 14, 15, 16, 17, 18, 19, 20, 35, 44, 72, 89, 94, 98, 107, 110, 152, 156, 179] hX mixed rfl ?_; (simp [go_sem]; try (refine ⟨by kernel_rfl, ?_⟩))))
        first | refine callH_intro [1, 2, 3] (all_m (ent L) (by omega)) (by simp [go_sem]) ?_ | refine callTQ_intro [1, 2, 3] (all_m (ent L) (by omega)) (by simp [go_sem]) ?_ | refine callTE_intro [1, 2, 3] (all_m (ent L) (by omega)) (by simp [go_sem]) ?_
        try (simp [go_sem]; try (refine ⟨by kernel_rfl, ?_⟩))
        (repeat (refine awp_stepG [0, 1, 3, 4, 5, 6, 7, 8, 9, 10, 11, 12, 13, 14, 15, 16, 17, 18, 19, 20, 35, 44, 72, 89, 94, 98, 107, 110, 152, 156, 179] hX mixed rfl ?_; (simp [go_sem]; try (refine ⟨by kernel_rfl, ?_⟩))))
        first | refine callH_intro [] (open_1 L (by omega)) (by simp [go_sem]) ?_ | refine callTQ_intro [] (open_1 L (by omega)) (by simp [go_sem]) ?_ | refine callTE_intro [] (open_1 L (by omega)) (by simp [go_sem]) ?_
        try (simp [go_sem]; try (refine ⟨by kernel_rfl, ?_⟩))
        (repeat (refine awp_stepG [0, 1, 3, 4, 5, 6, 7, 8, 9, 10, 11, 12, 13, 14, 15, 16, 17, 18, 19, 20, 35, 44, 72, 89, 94, 98, 107, 110, 152, 156, 179] hX mixed rfl ?_; (simp [go_sem]; try (refine ⟨by kernel_rfl, ?_⟩))))
        refine awp_cond (b := false) (by simp [go_sem]) (fun h => by cases h) (fun _ => ?_)
        (repeat (refine awp_stepG [0, 1, 3, 4, 5, 6, 7, 8, 9, 10, 11, 12, 13, 14, 15, 16, 17, 18, 19, 20, 35, 44, 72, 89, 94, 98, 107, 110, 152, 156, 179] hX mixed rfl ?_; (simp [go_sem]; try (refine ⟨by kernel_rfl, ?_⟩))))
        first | refine callH_intro [5, 6, 7] (all_m (ent L) (by omega)) (by simp [go_sem]) ?_ | refine callTQ_intro [5, 6, 7] (all_m (ent L) (by omega)) (by simp [go_sem]) ?_ | refine callTE_intro [5, 6, 7] (all_m (ent L) (by omega)) (by simp [go_sem]) ?_
        try (simp [go_sem]; try (refine ⟨by kernel_rfl, ?_⟩))
        (repeat (refine awp_stepG [0, 1, 3, 4, 5, 6, 7, 8, 9, 10, 11, 12, 13, 14, 15, 16, 17, 18, 19, 20, 35, 44, 72, 89, 94, 98, 107, 110, 152, 156, 179] hX mixed rfl ?_; (simp [go_sem]; try (refine ⟨by kernel_rfl, ?_⟩))))
        first | refine callKa (same_m (ent L) (ent L) (by omega)) ?_ | refine callTa (same_m (ent L) (ent L) (by omega)) ?_
        try (simp [go_sem]; try (refine ⟨by kernel_rfl, ?_⟩))
        (repeat (refine awp_stepG [0, 1, 3, 4, 5, 6, 7, 8, 9, 10, 11, 12, 13, 14, 15, 16, 17, 18, 19, 20, 35, 44, 72, 89, 94, 98, 107, 110, 152, 156, 179] hX mixed rfl ?_; (simp [go_sem]; try (refine ⟨by kernel_rfl, ?_⟩))))
        refine awp_cond (b := false) (by simp [go_sem]) (fun h => by cases h) (fun _ => ?_)
        (repeat (refine awp_stepG [0, 1, 3, 4, 5, 6, 7, 8, 9, 10, 11, 12, 13, 14, 15, 16, 17, 18, 19, 20, 35, 44, 72, 89, 94, 98, 107, 110, 152, 156, 179] hX mixed rfl ?_; (simp [go_sem]; try (refine ⟨by kernel_rfl, ?_⟩))))
        refine awp_loop (fun j : Nat => ⟨mkE [(10, .sl ((ent L).map eo)), (3, .el 0 2 0 0), (4, bb false), (5, bb true), (6, .el 1 2 0 0), (7, .ow 4), (11, .el 5 2 0 0), (13, ii j)], [.row ⟨24, 2, [eo m]⟩, .row ⟨42, 2, [.agg [.ow 2, .ow 3]]⟩, .row ⟨24, 2, (ent L).map eo⟩, .map ⟨24, 3, marks 0 (ent L)⟩, .row ⟨31, 3, (M).map go⟩, .row ⟨42, 2, [.agg [.ow 6, .ow 7]]⟩, .row ⟨24, 2, (ent L).map eo⟩, .map ⟨24, 3, marks 0 (ent L)⟩]⟩) (fun j => j ≤ M.length) (fun j => M.length - j) 0 ?_ ?_ ?_
        · refine sub_of _ [.old 0 ⟨24, 2, [eo m]⟩, .old 1 ⟨42, 2, [.agg [.ow 2, .ow 3]]⟩, .old 2 ⟨24, 2, (ent L).map eo⟩, .oldM 3 ⟨24, 3, marks 0 (ent L)⟩, .old 4 ⟨31, 3, (M).map go⟩, .old 5 ⟨42, 2, [.agg [.ow 6, .ow 7]]⟩, .old 6 ⟨24, 2, (ent L).map eo⟩, .oldM 7 ⟨24, 3, marks 0 (ent L)⟩] (by simp [go_sem]) ?_
          simp [go_sem]
        · simp
        · intro j hj
          (repeat (refine awp_stepG [0, 1, 3, 4, 5, 6, 7, 8, 9, 10, 11, 12, 13, 14, 15, 16, 17, 18, 19, 20, 35, 44, 72, 89, 94, 98, 107, 110, 152, 156, 179] hX mixed rfl ?_; (simp [go_sem]; try (refine ⟨by kernel_rfl, ?_⟩))))
          refine awp_cond (b := decide (j < M.length)) (by simp [go_sem]) (fun hd => ?_) (fun hd => ?_)
          · simp at hd
            have hv := valid_m (ent L) M[j]
            rw [hh, decide_eq_true (List.getElem_mem hd)] at hv
            (repeat (refine awp_stepG [0, 1, 3, 4, 5, 6, 7, 8, 9, 10, 11, 12, 13, 14, 15, 16, 17, 18, 19, 20, 35, 44, 72, 89, 94, 98, 107, 110, 152, 156, 179] hX mixed rfl ?_; (simp [go_sem, hd]; try (refine ⟨by kernel_rfl, ?_⟩))))
            first | refine callH_intro [5, 6, 7] (hv) (by simp [go_sem]) ?_ | refine callTQ_intro [5, 6, 7] (hv) (by simp [go_sem]) ?_ | refine callTE_intro [5, 6, 7] (hv) (by simp [go_sem]) ?_
            try (simp [go_sem]; try (refine ⟨by kernel_rfl, ?_⟩))
            (repeat (refine awp_stepG [0, 1, 3, 4, 5, 6, 7, 8, 9, 10, 11, 12, 13, 14, 15, 16, 17, 18, 19, 20, 35, 44, 72, 89, 94, 98, 107, 110, 152, 156, 179] hX mixed rfl ?_; (simp [go_sem]; try (refine ⟨by kernel_rfl, ?_⟩))))
            refine awp_cond (b := false) (by simp [go_sem]) (fun h => by cases h) (fun _ => ?_)
            (repeat (refine awp_stepG [0, 1, 3, 4, 5, 6, 7, 8, 9, 10, 11, 12, 13, 14, 15, 16, 17, 18, 19, 20, 35, 44, 72, 89, 94, 98, 107, 110, 152, 156, 179] hX mixed rfl ?_; (simp [go_sem]; (try simp (disch := omega) only [w64, td, tm]); try (refine ⟨by kernel_rfl, ?_⟩))))
            refine ⟨j + 1, by omega, by omega, ?_⟩
            refine sub_of _ [.old 0 ⟨24, 2, [eo m]⟩, .old 1 ⟨42, 2, [.agg [.ow 2, .ow 3]]⟩, .old 2 ⟨24, 2, (ent L).map eo⟩, .oldM 3 ⟨24, 3, marks 0 (ent L)⟩, .old 4 ⟨31, 3, (M).map go⟩, .old 5 ⟨42, 2, [.agg [.ow 6, .ow 7]]⟩, .old 6 ⟨24, 2, (ent L).map eo⟩, .oldM 7 ⟨24, 3, marks 0 (ent L)⟩] (by simp [go_sem]) ?_
            simp [go_sem]
          · (repeat (refine awp_stepG [0, 1, 3, 4, 5, 6, 7, 8, 9, 10, 11, 12, 13, 14, 15, 16, 17, 18, 19, 20, 35, 44, 72, 89, 94, 98, 107, 110, 152, 156, 179] hX mixed rfl ?_; (simp [go_sem]; try (refine ⟨by kernel_rfl, ?_⟩))))
            refine awp_cut ⟨mkE [(10, .sl ((ent L).map eo)), (3, .el 0 2 0 0), (4, bb false), (5, bb true), (6, .el 1 2 0 0)], [.row ⟨24, 2, [eo m]⟩, .row ⟨42, 2, [.agg [.ow 2, .ow 3]]⟩, .row ⟨24, 2, (ent L).map eo⟩, .map ⟨24, 3, marks 0 (ent L)⟩]⟩ ?_ ?_
            · refine awp_cond (b := decide (0 < ((ent L).length : Int))) (by simp [go_sem]) (fun hp => ?_) (fun hp => ?_)
              · have hp : 0 < (ent L).length := by simpa using hp
                have wn1 := w64 (x := ((ent L).length : Int) - 1) (by omega) (by omega)
                have hn1 : (((ent L).length : Int) - 1).toNat = (ent L).length - 1 := by omega
                have hlt : (ent L).length - 1 < (ent L).length := by omega
                (repeat (first | refine awp_seq ?_ | refine awp_block ?_))
                refine awp_drawBG [0, 1, 3, 4, 5, 6, 7, 8, 9, 10, 11, 12, 13, 14, 15, 16, 17, 18, 19, 20, 35, 44, 72, 89, 94, 98, 107, 110, 152, 156, 179] 4 11 hX mixed ?_; (simp [go_sem, wn1, hn1, hlt]; try (refine ⟨by kernel_rfl, ?_⟩))
                (repeat refine And.intro (by first | omega | (unfold maxLen; omega) | kernel_rfl | (refine ⟨by first | omega | (unfold maxLen; omega), by first | omega | (unfold maxLen; omega)⟩) | grind) ?_)
                refine ⟨⟨mkE [(10, .sl ((ent L).map eo)), (3, .el 0 2 0 0), (4, bb false), (5, bb true), (6, .el 1 2 0 0), (122, .sl ((ent L).map eo ++ [eo ((ent L)[(ent L).length - 1])]))], [.row ⟨24, 2, [eo m]⟩, .row ⟨42, 2, [.agg [.ow 2, .ow 3]]⟩, .row ⟨24, 2, (ent L).map eo⟩, .map ⟨24, 3, marks 0 (ent L)⟩]⟩, ?_, ?_⟩
                · refine sub_of _ [.old 0 ⟨24, 2, [eo m]⟩, .old 1 ⟨42, 2, [.agg [.ow 2, .ow 3]]⟩, .old 2 ⟨24, 2, (ent L).map eo⟩, .oldM 3 ⟨24, 3, marks 0 (ent L)⟩] (by simp [go_sem]) ?_
                  simp [go_sem]
                simp [go_sem]
                refine callU_intro (open_2 L (by omega) _ (List.getElem_mem hlt)) rfl (by simp [go_sem]) rfl ?_
                try (simp [go_sem]; try (refine ⟨by kernel_rfl, ?_⟩))
                (repeat (first | refine awp_seq ?_ | refine awp_block ?_))
                refine awp_drawBG [0, 1, 3, 4, 5, 6, 7, 8, 9, 10, 11, 12, 13, 14, 15, 16, 17, 18, 19, 20, 35, 44, 72, 89, 94, 98, 107, 110, 152, 156, 179] 4 9 hX mixed ?_; (simp [go_sem, wn1, hp]; try (refine ⟨by kernel_rfl, ?_⟩))
                (repeat refine And.intro (by first | omega | (unfold maxLen; omega) | kernel_rfl | (refine ⟨by first | omega | (unfold maxLen; omega), by first | omega | (unfold maxLen; omega)⟩) | grind) ?_)
                refine ⟨⟨mkE [(10, .sl ((ent L).map eo)), (3, .el 0 2 0 0), (4, bb false), (5, bb true), (6, .el 1 2 0 0), (14, .v (.pointer none)), (15, ii 5), (135, .sl ((ent L).map eo ++ [eo ((ent L)[0]), eo ⟨200, ⟨#[]⟩⟩]))], [.row ⟨24, 2, [eo m]⟩, .row ⟨42, 2, [.agg [.ow 2, .ow 3]]⟩, .row ⟨24, 2, (ent L).map eo⟩, .map ⟨24, 3, marks 0 (ent L)⟩]⟩, ?_, ?_⟩
                · refine sub_of _ [.old 0 ⟨24, 2, [eo m]⟩, .old 1 ⟨42, 2, [.agg [.ow 2, .ow 3]]⟩, .old 2 ⟨24, 2, (ent L).map eo⟩, .oldM 3 ⟨24, 3, marks 0 (ent L)⟩] (by simp [go_sem]) ?_
                  simp [go_sem]
                simp [go_sem]
                refine callU_intro (open_3 L (by omega) ((ent L)[0])) rfl (by simp [go_sem]) rfl ?_
                try (simp [go_sem]; try (refine ⟨by kernel_rfl, ?_⟩))
                (repeat (refine awp_stepG [0, 1, 3, 4, 5, 6, 7, 8, 9, 10, 11, 12, 13, 14, 15, 16, 17, 18, 19, 20, 35, 44, 72, 89, 94, 98, 107, 110, 152, 156, 179] hX mixed rfl ?_; (simp [go_sem]; try (refine ⟨by kernel_rfl, ?_⟩))))
                refine awp_cond (b := false) (by simp [go_sem]) (fun h => by cases h) (fun _ => ?_)
                (repeat (refine awp_stepG [0, 1, 3, 4, 5, 6, 7, 8, 9, 10, 11, 12, 13, 14, 15, 16, 17, 18, 19, 20, 35, 44, 72, 89, 94, 98, 107, 110, 152, 156, 179] hX mixed rfl ?_; (simp [go_sem]; try (refine ⟨by kernel_rfl, ?_⟩))))
                refine sub_of _ [.old 0 ⟨24, 2, [eo m]⟩, .old 1 ⟨42, 2, [.agg [.ow 2, .ow 3]]⟩, .old 2 ⟨24, 2, (ent L).map eo⟩, .oldM 3 ⟨24, 3, marks 0 (ent L)⟩] (by simp [go_sem]) ?_
                simp [go_sem]
              · (repeat (refine awp_stepG [0, 1, 3, 4, 5, 6, 7, 8, 9, 10, 11, 12, 13, 14, 15, 16, 17, 18, 19, 20, 35, 44, 72, 89, 94, 98, 107, 110, 152, 156, 179] hX mixed rfl ?_; (simp [go_sem]; try (refine ⟨by kernel_rfl, ?_⟩))))
                refine sub_of _ [.old 0 ⟨24, 2, [eo m]⟩, .old 1 ⟨42, 2, [.agg [.ow 2, .ow 3]]⟩, .old 2 ⟨24, 2, (ent L).map eo⟩, .oldM 3 ⟨24, 3, marks 0 (ent L)⟩] (by simp [go_sem]) ?_
                simp [go_sem]
            (simp [go_sem]; try (refine ⟨by kernel_rfl, ?_⟩))
            (repeat (refine awp_stepG [0, 1, 3, 4, 5, 6, 7, 8, 9, 10, 11, 12, 13, 14, 15, 16, 17, 18, 19, 20, 35, 44, 72, 89, 94, 98, 107, 110, 152, 156, 179] hX mixed rfl ?_; (simp [go_sem]; try (refine ⟨by kernel_rfl, ?_⟩))))
            first | refine callH_intro [1, 2, 3] (copy_m (ent L) (by omega)) (by simp [go_sem]) ?_ | refine callTQ_intro [1, 2, 3] (copy_m (ent L) (by omega)) (by simp [go_sem]) ?_ | refine callTE_intro [1, 2, 3] (copy_m (ent L) (by omega)) (by simp [go_sem]) ?_
            try (simp [go_sem]; try (refine ⟨by kernel_rfl, ?_⟩))
            (repeat (refine awp_stepG [0, 1, 3, 4, 5, 6, 7, 8, 9, 10, 11, 12, 13, 14, 15, 16, 17, 18, 19, 20, 35, 44, 72, 89, 94, 98, 107, 110, 152, 156, 179] hX mixed rfl ?_; (simp [go_sem]; try (refine ⟨by kernel_rfl, ?_⟩))))
            refine awp_cond (b := false) (by simp [go_sem]) (fun h => by cases h) (fun _ => ?_)
            (repeat (refine awp_stepG [0, 1, 3, 4, 5, 6, 7, 8, 9, 10, 11, 12, 13, 14, 15, 16, 17, 18, 19, 20, 35, 44, 72, 89, 94, 98, 107, 110, 152, 156, 179] hX mixed rfl ?_; (simp [go_sem]; try (refine ⟨by kernel_rfl, ?_⟩))))
            first | refine callH_intro [6, 4, 5] (all_m (ent L) (by omega)) (by simp [go_sem]) ?_ | refine callTQ_intro [6, 4, 5] (all_m (ent L) (by omega)) (by simp [go_sem]) ?_ | refine callTE_intro [6, 4, 5] (all_m (ent L) (by omega)) (by simp [go_sem]) ?_
            try (simp [go_sem]; try (refine ⟨by kernel_rfl, ?_⟩))
            (repeat (refine awp_stepG [0, 1, 3, 4, 5, 6, 7, 8, 9, 10, 11, 12, 13, 14, 15, 16, 17, 18, 19, 20, 35, 44, 72, 89, 94, 98, 107, 110, 152, 156, 179] hX mixed rfl ?_; (simp [go_sem]; try (refine ⟨by kernel_rfl, ?_⟩))))
            first | refine callH_intro [1, 2, 3] (sign_m (ent L) (by omega) m.key m.text) (by simp [go_sem]) ?_ | refine callTQ_intro [1, 2, 3] (sign_m (ent L) (by omega) m.key m.text) (by simp [go_sem]) ?_ | refine callTE_intro [1, 2, 3] (sign_m (ent L) (by omega) m.key m.text) (by simp [go_sem]) ?_
            try (simp [go_sem]; try (refine ⟨by kernel_rfl, ?_⟩))
            have hlen2 : (sigL (ent L) m.key m.text).length ≤ (ent L).length + 1 := sigE_len (ent L) m
            (repeat (refine awp_stepG [0, 1, 3, 4, 5, 6, 7, 8, 9, 10, 11, 12, 13, 14, 15, 16, 17, 18, 19, 20, 35, 44, 72, 89, 94, 98, 107, 110, 152, 156, 179] hX mixed rfl ?_; (simp [go_sem]; try (refine ⟨by kernel_rfl, ?_⟩))))
            first | refine callH_intro [1, 7, 3] (all_m (sigL (ent L) m.key m.text) (by omega)) (by simp [go_sem]) ?_ | refine callTQ_intro [1, 7, 3] (all_m (sigL (ent L) m.key m.text) (by omega)) (by simp [go_sem]) ?_ | refine callTE_intro [1, 7, 3] (all_m (sigL (ent L) m.key m.text) (by omega)) (by simp [go_sem]) ?_
            try (simp [go_sem]; try (refine ⟨by kernel_rfl, ?_⟩))
            (repeat (refine awp_stepG [0, 1, 3, 4, 5, 6, 7, 8, 9, 10, 11, 12, 13, 14, 15, 16, 17, 18, 19, 20, 35, 44, 72, 89, 94, 98, 107, 110, 152, 156, 179] hX mixed rfl ?_; (simp [go_sem]; try (refine ⟨by kernel_rfl, ?_⟩))))
            first | refine callH_intro [6, 4, 5] (all_m (ent L) (by omega)) (by simp [go_sem]) ?_ | refine callTQ_intro [6, 4, 5] (all_m (ent L) (by omega)) (by simp [go_sem]) ?_ | refine callTE_intro [6, 4, 5] (all_m (ent L) (by omega)) (by simp [go_sem]) ?_
            try (simp [go_sem]; try (refine ⟨by kernel_rfl, ?_⟩))
            (repeat (refine awp_stepG [0, 1, 3, 4, 5, 6, 7, 8, 9, 10, 11, 12, 13, 14, 15, 16, 17, 18, 19, 20, 35, 44, 72, 89, 94, 98, 107, 110, 152, 156, 179] hX mixed rfl ?_; (simp [go_sem]; try (refine ⟨by kernel_rfl, ?_⟩))))
            first | refine callHG_intro [6, 4, 5] (fun hg => all_m (ent L) (by omega)) (by simp [go_sem]) (by simp [go_sem]) ?_ | refine callHGT_intro [6, 4, 5] (fun hg => all_m (ent L) (by omega)) (by simp [go_sem]) ?_
            try (simp [go_sem]; try (refine ⟨by kernel_rfl, ?_⟩))
            (repeat (refine awp_stepG [0, 1, 3, 4, 5, 6, 7, 8, 9, 10, 11, 12, 13, 14, 15, 16, 17, 18, 19, 20, 35, 44, 72, 89, 94, 98, 107, 110, 152, 156, 179] hX mixed rfl ?_; (simp [go_sem]; try (refine ⟨by kernel_rfl, ?_⟩))))
            first | refine callGa (fun hg => same_m (ent L) (ent L) (by omega)) ?_ | refine callGTa (fun hg => same_m (ent L) (ent L) (by omega)) ?_
            try (simp [go_sem]; try (refine ⟨by kernel_rfl, ?_⟩))
            (repeat (refine awp_stepG [0, 1, 3, 4, 5, 6, 7, 8, 9, 10, 11, 12, 13, 14, 15, 16, 17, 18, 19, 20, 35, 44, 72, 89, 94, 98, 107, 110, 152, 156, 179] hX mixed rfl ?_; (simp [go_sem]; try (refine ⟨by kernel_rfl, ?_⟩))))
            refine awp_cond (b := false) (by simp [go_sem]) (fun h => by cases h) (fun _ => ?_)
            (repeat (refine awp_stepG [0, 1, 3, 4, 5, 6, 7, 8, 9, 10, 11, 12, 13, 14, 15, 16, 17, 18, 19, 20, 35, 44, 72, 89, 94, 98, 107, 110, 152, 156, 179] hX mixed rfl ?_; (simp [go_sem, sz_x]; try (refine ⟨by kernel_rfl, ?_⟩))))
            (repeat refine And.intro (by first | omega | (unfold maxLen; omega) | kernel_rfl | (refine ⟨by first | omega | (unfold maxLen; omega), by first | omega | (unfold maxLen; omega)⟩) | grind) ?_)
            first | refine callH_intro [6, 4, 5] (sign_m (ent L) (by omega) 0 (m.text ++ ⟨#[120]⟩)) (by simp [go_sem]) ?_ | refine callTQ_intro [6, 4, 5] (sign_m (ent L) (by omega) 0 (m.text ++ ⟨#[120]⟩)) (by simp [go_sem]) ?_ | refine callTE_intro [6, 4, 5] (sign_m (ent L) (by omega) 0 (m.text ++ ⟨#[120]⟩)) (by simp [go_sem]) ?_
            try (simp [go_sem]; try (refine ⟨by kernel_rfl, ?_⟩))
            (repeat (refine awp_stepG [0, 1, 3, 4, 5, 6, 7, 8, 9, 10, 11, 12, 13, 14, 15, 16, 17, 18, 19, 20, 35, 44, 72, 89, 94, 98, 107, 110, 152, 156, 179] hX mixed rfl ?_; (simp [go_sem]; try (refine ⟨by kernel_rfl, ?_⟩))))
            first | refine callHG_intro [1, 7, 3] (fun hg => all_m (sigL (ent L) m.key m.text) (by omega)) (by simp [go_sem]) (by simp [go_sem]) ?_ | refine callHGT_intro [1, 7, 3] (fun hg => all_m (sigL (ent L) m.key m.text) (by omega)) (by simp [go_sem]) ?_
            try (simp [go_sem]; try (refine ⟨by kernel_rfl, ?_⟩))
            (repeat (refine awp_stepG [0, 1, 3, 4, 5, 6, 7, 8, 9, 10, 11, 12, 13, 14, 15, 16, 17, 18, 19, 20, 35, 44, 72, 89, 94, 98, 107, 110, 152, 156, 179] hX mixed rfl ?_; (simp [go_sem]; try (refine ⟨by kernel_rfl, ?_⟩))))
            first | refine callGa (fun hg => same_m (sigL (ent L) m.key m.text) (sigL (ent L) m.key m.text) (by omega)) ?_ | refine callGTa (fun hg => same_m (sigL (ent L) m.key m.text) (sigL (ent L) m.key m.text) (by omega)) ?_
            try (simp [go_sem]; try (refine ⟨by kernel_rfl, ?_⟩))
            (repeat (refine awp_stepG [0, 1, 3, 4, 5, 6, 7, 8, 9, 10, 11, 12, 13, 14, 15, 16, 17, 18, 19, 20, 35, 44, 72, 89, 94, 98, 107, 110, 152, 156, 179] hX mixed rfl ?_; (simp [go_sem]; try (refine ⟨by kernel_rfl, ?_⟩))))

end Go.Proofs.Ytgfgajofilcniaa
