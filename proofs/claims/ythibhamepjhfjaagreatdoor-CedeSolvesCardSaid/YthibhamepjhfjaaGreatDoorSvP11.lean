/-
  Lemmas for the statement at the top.
-/
import Derived.Test.YthibhamepjhfjaaGreatDoorSvP10
import Derived.Test.YthibhamepjhfjaaGreatDoorSvP9
import Init
set_option linter.all false
namespace Go.Proofs.YthibhamepjhfjaaGreatDoor
open Go.RowKit Go.Ab
abbrev dd (u : Nat) : List UInt8 := Lib.decDigits u
abbrev oo (u : Nat) : UInt8 := UInt8.ofNat (48 + u)
theorem dd_small {u : Nat} (h : u < 10) : dd u = [oo u] := by unfold dd; rw [Lib.decDigits, dif_pos h]
theorem dd_ten {q r : Nat} (hq : 0 < q) (hr : r < 10) : dd (10 * q + r) = dd q ++ [oo r] := by
  unfold dd
  rw [Lib.decDigits, dif_neg (by omega), show (10 * q + r) / 10 = q by omega, show (10 * q + r) % 10 = r by omega]
theorem dd_cut {u : Nat} (h : 10 ≤ u) : dd u = dd (u / 10) ++ [oo (u % 10)] := by
  have := dd_ten (q := u / 10) (r := u % 10) (by omega) (by omega)
  rwa [show 10 * (u / 10) + u % 10 = u by omega] at this
def five (r : Nat) : List UInt8 := [oo (r / 10000), oo (r / 1000 % 10), oo (r / 100 % 10), oo (r / 10 % 10), oo (r % 10)]
theorem dd_five {q r : Nat} (hq : 0 < q) (hr : r < 100000) : dd (q * 100000 + r) = dd q ++ five r := by
  rw [dd_cut (by omega), dd_cut (u := (q * 100000 + r) / 10) (by omega), dd_cut (u := (q * 100000 + r) / 10 / 10) (by omega), dd_cut (u := (q * 100000 + r) / 10 / 10 / 10) (by omega), dd_cut (u := (q * 100000 + r) / 10 / 10 / 10 / 10) (by omega)]
  rw [show (q * 100000 + r) / 10 / 10 / 10 / 10 / 10 = q by omega, show (q * 100000 + r) / 10 / 10 / 10 / 10 % 10 = r / 10000 by omega, show (q * 100000 + r) / 10 / 10 / 10 % 10 = r / 1000 % 10 by omega,
    show (q * 100000 + r) / 10 / 10 % 10 = r / 100 % 10 by omega, show (q * 100000 + r) / 10 % 10 = r / 10 % 10 by omega, show (q * 100000 + r) % 10 = r % 10 by omega]
  simp [five]
theorem pad_five {r : Nat} (hr : r < 100000) : 1 ≤ (dd r).length ∧ (dd r).length ≤ 5 ∧ Lib.repeatL [48] (5 - (dd r).length) ++ dd r = five r := by
  by_cases h1 : r < 10
  · rw [dd_small h1]
    refine ⟨by simp, by simp, ?_⟩
    unfold five
    rw [show r / 10000 = 0 by omega, show r / 1000 % 10 = 0 by omega, show r / 100 % 10 = 0 by omega, show r / 10 % 10 = 0 by omega, show r % 10 = r by omega]
    rfl
  · by_cases h2 : r < 100
    · rw [dd_cut (by omega), dd_small (u := r / 10) (by omega)]
      refine ⟨by simp, by simp, ?_⟩
      unfold five
      rw [show r / 10000 = 0 by omega, show r / 1000 % 10 = 0 by omega, show r / 100 % 10 = 0 by omega, show r / 10 % 10 = r / 10 by omega]
      rfl
    · by_cases h3 : r < 1000
      · rw [dd_cut (by omega), dd_cut (u := r / 10) (by omega), dd_small (u := r / 10 / 10) (by omega)]
        refine ⟨by simp, by simp, ?_⟩
        unfold five
        rw [show r / 10000 = 0 by omega, show r / 1000 % 10 = 0 by omega, show r / 100 % 10 = r / 10 / 10 by omega]
        rfl
      · by_cases h4 : r < 10000
        · rw [dd_cut (by omega), dd_cut (u := r / 10) (by omega), dd_cut (u := r / 10 / 10) (by omega), dd_small (u := r / 10 / 10 / 10) (by omega)]
          refine ⟨by simp, by simp, ?_⟩
          unfold five
          rw [show r / 10000 = 0 by omega, show r / 1000 % 10 = r / 10 / 10 / 10 by omega, show r / 100 % 10 = r / 10 / 10 % 10 by omega]
          rfl
        · rw [dd_cut (by omega), dd_cut (u := r / 10) (by omega), dd_cut (u := r / 10 / 10) (by omega), dd_cut (u := r / 10 / 10 / 10) (by omega), dd_small (u := r / 10 / 10 / 10 / 10) (by omega)]
          refine ⟨by simp, by simp, ?_⟩
          unfold five
          rw [show r / 10000 = r / 10 / 10 / 10 / 10 by omega, show r / 1000 % 10 = r / 10 / 10 / 10 % 10 by omega, show r / 100 % 10 = r / 10 / 10 % 10 by omega]
          rfl
def dn (n : Int) : List UInt8 := if n ≤ 0 then [] else dd n.toNat
theorem dn_cut {n : Int} (h : 0 < n) : dn n = dn (n / 100000) ++ (if 0 < n / 100000 then Lib.repeatL [48] (5 - (dd (n % 100000).toNat).length) ++ dd (n % 100000).toNat else dd (n % 100000).toNat) := by
  unfold dn
  rw [if_neg (by omega)]
  split
  · rw [if_neg (by omega), show n % 100000 = n by omega]; rfl
  · rw [if_pos (by omega), (pad_five (r := (n % 100000).toNat) (by omega)).2.2, ← dd_five (by omega) (by omega)]
    congr 1
    omega
def txt (z : Int) : List UInt8 := if z = 0 then [48] else if z < 0 then 45 :: dd z.natAbs else dd z.natAbs
end Go.Proofs.YthibhamepjhfjaaGreatDoor

namespace Go.Proofs.YthibhamepjhfjaaGreatDoor
open Go.RowKit Go.Ab
attribute [local irreducible] AWP Go.Ab.Sub Means MeansH CallK CallG CallT CallGT
@[go_sem] theorem sb_app (a b : List UInt8) : ((⟨a.toArray⟩ : ByteArray) ++ ⟨b.toArray⟩) = ⟨(a ++ b).toArray⟩ := by
  apply ByteArray.ext; simp
@[go_sem] theorem sb_size (a : List UInt8) : (⟨a.toArray⟩ : ByteArray).size = a.length := by simp [ByteArray.size]
theorem pow_big : (1048576 : Int) ^ 60 < 100000 ^ 250 := by decide
set_option maxHeartbeats 4000000 in
set_option maxRecDepth 20000 in
theorem Text_m (z : Int) (hz : rz z) : Means false Tryz.prog 98 [bigZ z] (sb (txt z)) := by
  have hlz := len60 hz
  have hab := ab_nonneg z
  refine means_fn false 51 [.tmp 2] Tryz.func98 rfl rfl rfl (by simp) (by decide) rfl fun X hX => ?_
  (repeat (first | refine awp_seq ?_ | refine awp_block ?_ | ((first | refine awp_runG [0, 1, 2, 3, 4, 5, 6, 7, 8, 11, 16, 26, 43, 44, 46] hX ?_ | refine awp_drawnG [0, 1, 2, 3, 4, 5, 6, 7, 8, 11, 16, 26, 43, 44, 46] hX mixed ?_ | refine awp_ret ?_ | refine awp_skip ?_ | refine awp_exit ?_); (simp [go_sem]; try (refine ⟨by kernel_rfl, ?_⟩)))))
  first | refine callK_intro (right_t z hz) rfl (by simp [go_sem]) rfl ?_ | refine callT_intro (right_t z hz) rfl (by simp [go_sem]) rfl ?_
  try (simp [go_sem]; try (refine ⟨by kernel_rfl, ?_⟩))
  refine awp_cond (b := false) (by simp [go_sem]) (fun h => by cases h) (fun _ => ?_)
  (repeat (first | refine awp_seq ?_ | refine awp_block ?_ | ((first | refine awp_runG [0, 1, 2, 3, 4, 5, 6, 7, 8, 11, 16, 26, 43, 44, 46] hX ?_ | refine awp_drawnG [0, 1, 2, 3, 4, 5, 6, 7, 8, 11, 16, 26, 43, 44, 46] hX mixed ?_ | refine awp_ret ?_ | refine awp_skip ?_ | refine awp_exit ?_); (simp [go_sem]; try (refine ⟨by kernel_rfl, ?_⟩)))))
  refine awp_loop (fun x : Int × List (List UInt8) => ⟨mkE [(1, .el 0 2 0 0), (3, .ow 1), (4, il (dg x.1))], [.row ⟨39, 2, [bigZ z]⟩, .row ⟨9, 1, x.2.map sb⟩]⟩)
    (fun x => 0 ≤ x.1 ∧ x.1 < 100000 ^ (250 - x.2.length) ∧ x.2.length ≤ 250 ∧ (∀ p ∈ x.2, p.length ≤ 5) ∧ (dg x.1).length ≤ 60 ∧ dn x.1 ++ x.2.reverse.flatten = dn (ab z)) (fun x => x.1.toNat) (ab z, []) ?_ ?_ ?_
  · refine sub_of _ [.old 0 ⟨39, 2, [bigZ z]⟩, .birth 9 1] (by simp [go_sem]) ?_
    simp [go_sem]
  · refine ⟨hab, ?_, by simp, by simp, hlz, by simp⟩
    have := pow_big
    unfold rz at hz
    simp only [List.length_nil, Nat.sub_zero]
    omega
  · rintro ⟨n, P⟩ ⟨hn, hnb, hP, hP5, hnl, hE⟩
    simp only [] at hn hnb hP hP5 hnl hE
    have hn0 : 0 < (dg n).length ↔ 0 < n := by rw [List.length_pos_iff, Ne, dg_eq_nil]; omega
    (repeat (first | refine awp_seq ?_ | refine awp_block ?_ | ((first | refine awp_runG [0, 1, 2, 3, 4, 5, 6, 7, 8, 11, 16, 26, 43, 44, 46] hX ?_ | refine awp_drawnG [0, 1, 2, 3, 4, 5, 6, 7, 8, 11, 16, 26, 43, 44, 46] hX mixed ?_ | refine awp_ret ?_ | refine awp_skip ?_ | refine awp_exit ?_); (simp [go_sem]; (try simp (disch := omega) only [w64, td, tm]); try (refine ⟨by kernel_rfl, ?_⟩)))))
    refine awp_cond (b := decide (0 < n)) (by
      simp only [← hn0]
      simp [go_sem]) (fun hd => ?_) (fun hd => ?_)
    · simp only [decide_eq_true_eq] at hd
      have hsh := short_m (dg n) 100000 (okD_dg _) (by omega) (by decide) (by decide)
      rw [val_dg hn] at hsh
      have hcut := dn_cut hd
      have hr0 : 0 ≤ n % 100000 := by omega
      have hr1 : n % 100000 ≤ 99999 := by omega
      have hi := itoa_m (n % 100000) hr0 hr1
      have hq0 : 0 ≤ n / 100000 := by omega
      have hqn : 0 < (dg (n / 100000)).length ↔ 0 < n / 100000 := by rw [List.length_pos_iff, Ne, dg_eq_nil]; omega
      obtain ⟨p1, p2, p3⟩ := pad_five (r := (n % 100000).toNat) (by omega)
      simp only [dd] at p1 p2 p3 hcut hi
      generalize hS : Lib.decDigits (n % 100000).toNat = S at *
      (repeat (first | refine awp_seq ?_ | refine awp_block ?_ | ((first | refine awp_runG [0, 1, 2, 3, 4, 5, 6, 7, 8, 11, 16, 26, 43, 44, 46] hX ?_ | refine awp_drawnG [0, 1, 2, 3, 4, 5, 6, 7, 8, 11, 16, 26, 43, 44, 46] hX mixed ?_ | refine awp_ret ?_ | refine awp_skip ?_ | refine awp_exit ?_); (simp [go_sem]; (try simp (disch := omega) only [w64, td, tm]); try (refine ⟨by kernel_rfl, ?_⟩)))))
      first | refine callK_intro (hsh) rfl (by simp [go_sem]) rfl ?_ | refine callT_intro (hsh) rfl (by simp [go_sem]) rfl ?_
      try (simp [go_sem]; try (refine ⟨by kernel_rfl, ?_⟩))
      (repeat (first | refine awp_seq ?_ | refine awp_block ?_ | ((first | refine awp_runG [0, 1, 2, 3, 4, 5, 6, 7, 8, 11, 16, 26, 43, 44, 46] hX ?_ | refine awp_drawnG [0, 1, 2, 3, 4, 5, 6, 7, 8, 11, 16, 26, 43, 44, 46] hX mixed ?_ | refine awp_ret ?_ | refine awp_skip ?_ | refine awp_exit ?_); (simp [go_sem]; (try simp (disch := omega) only [w64, td, tm]); try (refine ⟨by kernel_rfl, ?_⟩)))))
      first | refine callK_intro (hi) rfl (by simp [go_sem]) rfl ?_ | refine callT_intro (hi) rfl (by simp [go_sem]) rfl ?_
      try (simp [go_sem]; try (refine ⟨by kernel_rfl, ?_⟩))
      (repeat (first | refine awp_seq ?_ | refine awp_block ?_ | ((first | refine awp_runG [0, 1, 2, 3, 4, 5, 6, 7, 8, 11, 16, 26, 43, 44, 46] hX ?_ | refine awp_drawnG [0, 1, 2, 3, 4, 5, 6, 7, 8, 11, 16, 26, 43, 44, 46] hX mixed ?_ | refine awp_ret ?_ | refine awp_skip ?_ | refine awp_exit ?_); (simp [go_sem]; (try simp (disch := omega) only [w64, td, tm]); try (refine ⟨by kernel_rfl, ?_⟩)))))
      obtain ⟨S', hS'⟩ : ∃ S', S' = if 0 < n / 100000 then Lib.repeatL [48] (5 - S.length) ++ S else S := ⟨_, rfl⟩
      have hS5 : S'.length ≤ 5 := by
        rw [hS']
        split
        · rw [p3]; simp [five]
        · exact p2
      rw [← hS'] at hcut
      refine awp_cut ⟨mkE [(1, .el 0 2 0 0), (3, .ow 1), (5, il (dg (n / 100000))), (7, sb S')], [.row ⟨39, 2, [bigZ z]⟩, .row ⟨9, 1, P.map sb⟩]⟩ ?_ ?_
      · refine awp_cond (b := decide (0 < n / 100000)) (by
          simp only [← hqn]
          simp [go_sem]) (fun hb => ?_) (fun hb => ?_)
        · simp only [decide_eq_true_eq] at hb
          rw [if_pos hb] at hS'
          have hrep := repeat_m (5 - S.length) (by omega)
          rw [show ((5 - S.length : Nat) : Int) = 5 - (S.length : Int) by omega] at hrep
          have hw := w64 (x := 5 - (S.length : Int)) (by omega) (by omega)
          have hlr : (Lib.repeatL [48] (5 - S.length)).length + S.length ≤ 5 := by rw [← List.length_append, ← hS']; exact hS5
          (repeat (first | refine awp_seq ?_ | refine awp_block ?_ | ((first | refine awp_runG [0, 1, 2, 3, 4, 5, 6, 7, 8, 11, 16, 26, 43, 44, 46] hX ?_ | refine awp_drawnG [0, 1, 2, 3, 4, 5, 6, 7, 8, 11, 16, 26, 43, 44, 46] hX mixed ?_ | refine awp_ret ?_ | refine awp_skip ?_ | refine awp_exit ?_); (simp [go_sem, hw]; (try simp (disch := omega) only [w64, td, tm]); try (refine ⟨by kernel_rfl, ?_⟩)))))
          first | refine callK_intro (hrep) rfl (by simp [go_sem]) rfl ?_ | refine callT_intro (hrep) rfl (by simp [go_sem]) rfl ?_
          try (simp [go_sem]; try (refine ⟨by kernel_rfl, ?_⟩))
          refine ⟨by unfold maxLen; omega, ?_⟩
          refine sub_of _ [.old 0 ⟨39, 2, [bigZ z]⟩, .old 1 ⟨9, 1, P.map sb⟩] (by simp [go_sem]) ?_
          simp [go_sem, hS']
        · simp only [decide_eq_false_iff_not] at hb
          rw [if_neg hb] at hS'
          (repeat (first | refine awp_seq ?_ | refine awp_block ?_ | ((first | refine awp_runG [0, 1, 2, 3, 4, 5, 6, 7, 8, 11, 16, 26, 43, 44, 46] hX ?_ | refine awp_drawnG [0, 1, 2, 3, 4, 5, 6, 7, 8, 11, 16, 26, 43, 44, 46] hX mixed ?_ | refine awp_ret ?_ | refine awp_skip ?_ | refine awp_exit ?_); (simp [go_sem]; try (refine ⟨by kernel_rfl, ?_⟩)))))
          refine sub_of _ [.old 0 ⟨39, 2, [bigZ z]⟩, .old 1 ⟨9, 1, P.map sb⟩] (by simp [go_sem]) ?_
          simp [go_sem, hS']
      · try (simp [go_sem]; try (refine ⟨by kernel_rfl, ?_⟩))
        (repeat (first | refine awp_seq ?_ | refine awp_block ?_ | ((first | refine awp_runG [0, 1, 2, 3, 4, 5, 6, 7, 8, 11, 16, 26, 43, 44, 46] hX ?_ | refine awp_drawnG [0, 1, 2, 3, 4, 5, 6, 7, 8, 11, 16, 26, 43, 44, 46] hX mixed ?_ | refine awp_ret ?_ | refine awp_skip ?_ | refine awp_exit ?_); (simp [go_sem]; (try simp (disch := omega) only [w64, td, tm]); try (refine ⟨by kernel_rfl, ?_⟩)))))
        have hk : ∃ j, 250 - P.length = j + 1 := by
          refine ⟨250 - P.length - 1, ?_⟩
          by_cases h0 : 250 - P.length = 0
          · rw [h0] at hnb; simp at hnb; omega
          · omega
        obtain ⟨j, hj⟩ := hk
        rw [hj, Int.pow_succ] at hnb
        have hdq : n / 100000 ≤ n := by omega
        refine ⟨⟨by omega, by unfold maxLen; omega⟩, n / 100000, P ++ [S'], ⟨hq0, ?_, by simp; omega, ?_, Nat.le_trans (dg_len_mono hdq) hnl, ?_⟩, by rw [Int.max_eq_left hq0]; omega, ?_⟩
        · rw [List.length_append, List.length_singleton, show 250 - (P.length + 1) = j by omega]; omega
        · intro p hp
          rcases List.mem_append.1 hp with hp | hp
          · exact hP5 p hp
          · rw [List.mem_singleton.1 hp]; exact hS5
        · rw [← hE, hcut]; simp
        · refine sub_of _ [.old 0 ⟨39, 2, [bigZ z]⟩, .old 3 ⟨9, 1, (P ++ [S']).map sb⟩] (by simp [go_sem]) ?_
          simp [go_sem]
    · have hn00 : n = 0 := by have := of_decide_eq_false hd; omega
      subst hn00
      have hdn0 : dn 0 = [] := rfl
      rw [hdn0, List.nil_append] at hE
      have hfl : P.reverse.flatten.length ≤ 5 * 250 := by
        have : ∀ Q : List (List UInt8), (∀ p ∈ Q, p.length ≤ 5) → Q.flatten.length ≤ 5 * Q.length := by
          intro Q
          induction Q with
          | nil => simp
          | cons q Q ih =>
            intro h
            have h1 := h q (by simp)
            have h2 := ih fun p hp => h p (by simp [hp])
            simp only [List.flatten_cons, List.length_append, List.length_cons]; omega
        have := this P.reverse (fun p hp => hP5 p (List.mem_reverse.1 hp))
        rw [List.length_reverse] at this
        omega
      have hrv := reverse_h P (by omega)
      have hjn := join_m P.reverse (by omega) (by rw [List.length_reverse]; omega)
      rw [hE] at hjn hfl
      (repeat (first | refine awp_seq ?_ | refine awp_block ?_ | ((first | refine awp_runG [0, 1, 2, 3, 4, 5, 6, 7, 8, 11, 16, 26, 43, 44, 46] hX ?_ | refine awp_drawnG [0, 1, 2, 3, 4, 5, 6, 7, 8, 11, 16, 26, 43, 44, 46] hX mixed ?_ | refine awp_ret ?_ | refine awp_skip ?_ | refine awp_exit ?_); (simp [go_sem]; (try simp (disch := omega) only [w64, td, tm]); try (refine ⟨by kernel_rfl, ?_⟩)))))
      first | refine callH_intro [1] (hrv) (by simp [go_sem]) ?_ | refine callTQ_intro [1] (hrv) (by simp [go_sem]) ?_ | refine callTE_intro [1] (hrv) (by simp [go_sem]) ?_
      try (simp [go_sem]; try (refine ⟨by kernel_rfl, ?_⟩))
      (repeat (first | refine awp_seq ?_ | refine awp_block ?_ | ((first | refine awp_runG [0, 1, 2, 3, 4, 5, 6, 7, 8, 11, 16, 26, 43, 44, 46] hX ?_ | refine awp_drawnG [0, 1, 2, 3, 4, 5, 6, 7, 8, 11, 16, 26, 43, 44, 46] hX mixed ?_ | refine awp_ret ?_ | refine awp_skip ?_ | refine awp_exit ?_); (simp [go_sem]; (try simp (disch := omega) only [w64, td, tm]); try (refine ⟨by kernel_rfl, ?_⟩)))))
      first | refine callH_intro [1] (hjn) (by simp [go_sem]) ?_ | refine callTQ_intro [1] (hjn) (by simp [go_sem]) ?_ | refine callTE_intro [1] (hjn) (by simp [go_sem]) ?_
      try (simp [go_sem]; try (refine ⟨by kernel_rfl, ?_⟩))
      (repeat (first | refine awp_seq ?_ | refine awp_block ?_ | ((first | refine awp_runG [0, 1, 2, 3, 4, 5, 6, 7, 8, 11, 16, 26, 43, 44, 46] hX ?_ | refine awp_drawnG [0, 1, 2, 3, 4, 5, 6, 7, 8, 11, 16, 26, 43, 44, 46] hX mixed ?_ | refine awp_ret ?_ | refine awp_skip ?_ | refine awp_exit ?_); (simp [go_sem]; (try simp (disch := omega) only [w64, td, tm]); try (refine ⟨by kernel_rfl, ?_⟩)))))
      have hdz : z ≠ 0 → dn (ab z) = dd z.natAbs := fun h => by
        unfold dn
        rw [if_neg (by rcases sg_cases z with h | h | h <;> omega), ab_nat, Int.toNat_natCast]
      rcases sg_cases z with ⟨h1, h2, h3⟩ | ⟨h1, h2, h3⟩ | ⟨h1, h2, h3⟩
      · have ht : txt z = 45 :: dn (ab z) := by unfold txt; rw [if_neg (by omega), if_pos h2, hdz (by omega)]
        refine awp_cond (b := false) (by simp [go_sem, h1]) (fun h => by cases h) (fun _ => ?_)
        (repeat (first | refine awp_seq ?_ | refine awp_block ?_ | ((first | refine awp_runG [0, 1, 2, 3, 4, 5, 6, 7, 8, 11, 16, 26, 43, 44, 46] hX ?_ | refine awp_drawnG [0, 1, 2, 3, 4, 5, 6, 7, 8, 11, 16, 26, 43, 44, 46] hX mixed ?_ | refine awp_ret ?_ | refine awp_skip ?_ | refine awp_exit ?_); (simp [go_sem]; (try simp (disch := omega) only [w64, td, tm]); try (refine ⟨by kernel_rfl, ?_⟩)))))
        refine awp_cond (b := true) (by simp [go_sem, h1]) (fun _ => ?_) (fun h => by cases h)
        (repeat (first | refine awp_seq ?_ | refine awp_block ?_ | ((first | refine awp_runG [0, 1, 2, 3, 4, 5, 6, 7, 8, 11, 16, 26, 43, 44, 46] hX ?_ | refine awp_drawnG [0, 1, 2, 3, 4, 5, 6, 7, 8, 11, 16, 26, 43, 44, 46] hX mixed ?_ | refine awp_ret ?_ | refine awp_skip ?_ | refine awp_exit ?_); (simp [go_sem]; (try simp (disch := omega) only [w64, td, tm]); try (refine ⟨by kernel_rfl, ?_⟩)))))
        refine ⟨by unfold maxLen; omega, ?_⟩
        (repeat (first | refine awp_seq ?_ | refine awp_block ?_ | ((first | refine awp_runG [0, 1, 2, 3, 4, 5, 6, 7, 8, 11, 16, 26, 43, 44, 46] hX ?_ | refine awp_drawnG [0, 1, 2, 3, 4, 5, 6, 7, 8, 11, 16, 26, 43, 44, 46] hX mixed ?_ | refine awp_ret ?_ | refine awp_skip ?_ | refine awp_exit ?_); (simp [go_sem, ht]; try (refine ⟨by kernel_rfl, ?_⟩)))))
      · have ht : txt z = [48] := by unfold txt; rw [if_pos h2]
        refine awp_cond (b := true) (by simp [go_sem, h1]) (fun _ => ?_) (fun h => by cases h)
        (repeat (first | refine awp_seq ?_ | refine awp_block ?_ | ((first | refine awp_runG [0, 1, 2, 3, 4, 5, 6, 7, 8, 11, 16, 26, 43, 44, 46] hX ?_ | refine awp_drawnG [0, 1, 2, 3, 4, 5, 6, 7, 8, 11, 16, 26, 43, 44, 46] hX mixed ?_ | refine awp_ret ?_ | refine awp_skip ?_ | refine awp_exit ?_); (simp [go_sem, ht]; try (refine ⟨by kernel_rfl, ?_⟩)))))
      · have ht : txt z = dn (ab z) := by unfold txt; rw [if_neg (by omega), if_neg (by omega), hdz (by omega)]
        refine awp_cond (b := false) (by simp [go_sem, h1]) (fun h => by cases h) (fun _ => ?_)
        (repeat (first | refine awp_seq ?_ | refine awp_block ?_ | ((first | refine awp_runG [0, 1, 2, 3, 4, 5, 6, 7, 8, 11, 16, 26, 43, 44, 46] hX ?_ | refine awp_drawnG [0, 1, 2, 3, 4, 5, 6, 7, 8, 11, 16, 26, 43, 44, 46] hX mixed ?_ | refine awp_ret ?_ | refine awp_skip ?_ | refine awp_exit ?_); (simp [go_sem]; (try simp (disch := omega) only [w64, td, tm]); try (refine ⟨by kernel_rfl, ?_⟩)))))
        refine awp_cond (b := false) (by simp [go_sem, h1]) (fun h => by cases h) (fun _ => ?_)
        (repeat (first | refine awp_seq ?_ | refine awp_block ?_ | ((first | refine awp_runG [0, 1, 2, 3, 4, 5, 6, 7, 8, 11, 16, 26, 43, 44, 46] hX ?_ | refine awp_drawnG [0, 1, 2, 3, 4, 5, 6, 7, 8, 11, 16, 26, 43, 44, 46] hX mixed ?_ | refine awp_ret ?_ | refine awp_skip ?_ | refine awp_exit ?_); (simp [go_sem, ht]; (try simp (disch := omega) only [w64, td, tm]); try (refine ⟨by kernel_rfl, ?_⟩)))))
end Go.Proofs.YthibhamepjhfjaaGreatDoor

namespace Go.Proofs.YthibhamepjhfjaaGreatDoor
open Go.RowKit Go.Ab
attribute [local irreducible] AWP Go.Ab.Sub Means MeansH CallK CallG CallT CallGT
theorem sb_inj {a b : List UInt8} : (⟨a.toArray⟩ : ByteArray) = ⟨b.toArray⟩ ↔ a = b := by
  constructor
  · intro h; have := congrArg (fun s : ByteArray => s.data.toList) h; simpa using this
  · rintro rfl; rfl
theorem sb_beq (a b : List UInt8) : ((⟨a.toArray⟩ : ByteArray) == ⟨b.toArray⟩) = decide (a = b) := by rw [Bool.eq_iff_iff, beq_ba]; simp [sb_inj]
@[go_sem] theorem sb_beq0 (a : List UInt8) : ((⟨a.toArray⟩ : ByteArray) == ⟨#[]⟩) = decide (a = []) := sb_beq a []
@[go_sem] theorem sb_bne0 (a : List UInt8) : ((⟨a.toArray⟩ : ByteArray) != ⟨#[]⟩) = !decide (a = []) := by rw [bne, sb_beq0]
@[go_sem] theorem sb_beq48 (a : List UInt8) : ((⟨a.toArray⟩ : ByteArray) == ⟨#[48]⟩) = decide (a = [48]) := sb_beq a [48]
@[go_sem] theorem sb_get (l : List UInt8) (n : Nat) (d : UInt8) : l.toArray.getD n d = l.getD n d := by simp [Array.getD_eq_getD_getElem?, List.getD_eq_getElem?_getD]
def isDg (c : UInt8) : Prop := 48 ≤ c.toNat ∧ c.toNat ≤ 57
def good (t : List UInt8) : Prop := t ≠ [] ∧ t.head? ≠ some 48 ∧ ∀ c ∈ t, isDg c
noncomputable instance (t : List UInt8) : Decidable (good t) := Classical.propDecidable _
def numF (t : List UInt8) : Int := t.foldl (fun a c => a * 10 + ((c.toNat : Int) - 48)) 0
noncomputable def rd (s : List UInt8) : Int × Int :=
  if s = [48] then (0, 0) else
  if good (Lib.trimPrefix s [45]) then
    (if numF (Lib.trimPrefix s [45]) < 1048576 ^ 60 then (if Lib.hasPrefix s [45] then -numF (Lib.trimPrefix s [45]) else numF (Lib.trimPrefix s [45]), 0) else (0, 6))
  else (0, 2)
end Go.Proofs.YthibhamepjhfjaaGreatDoor

namespace Go.Proofs.YthibhamepjhfjaaGreatDoor
open Go.RowKit Go.Ab
end Go.Proofs.YthibhamepjhfjaaGreatDoor

namespace Go.Proofs.YthibhamepjhfjaaGreatDoor
open Go.RowKit Go.Ab
attribute [local irreducible] AWP Go.Ab.Sub Means MeansH CallK CallG CallT CallGT
theorem dd_len : ∀ (k n : Nat), 0 < k → n < 10 ^ k → (dd n).length ≤ k
  | 0, n, h0, h => by omega
  | k + 1, n, h0, h => by
    by_cases h1 : n < 10
    · rw [dd_small h1]; simp
    · have hk : 0 < k := by
        refine Nat.pos_of_ne_zero fun e => ?_
        subst e
        simp at h; omega
      rw [dd_cut (by omega)]
      have := dd_len k (n / 10) hk (by rw [Nat.pow_succ] at h; omega)
      simp; omega
theorem pow_big2 : (1048576 : Nat) ^ 60 < (10 ^ 200) ^ 2 := by decide
theorem dd_len2 (k n : Nat) (h0 : 0 < k) (h : n < (10 ^ k) ^ 2) : (dd n).length ≤ k * 2 := dd_len (k * 2) n (by omega) (by rw [Nat.pow_mul]; exact h)
theorem txt_len {z : Int} (h : rz z) : (txt z).length ≤ 401 := by
  have h2 : z.natAbs < (10 ^ 200) ^ 2 := by
    refine Nat.lt_trans ?_ pow_big2
    unfold rz at h
    rw [ab_nat] at h
    have e : ((1048576 : Int) ^ 60) = ((1048576 ^ 60 : Nat) : Int) := (Int.natCast_pow 1048576 60).symm
    rw [e] at h
    exact Int.ofNat_lt.1 h
  have := dd_len2 200 z.natAbs (by decide) h2
  clear h2
  unfold txt
  split
  · simp
  · split
    · rw [List.length_cons]; omega
    · omega
end Go.Proofs.YthibhamepjhfjaaGreatDoor

namespace Go.Proofs.YthibhamepjhfjaaGreatDoor
open Go.RowKit Go.Ab
attribute [local irreducible] AWP Go.Ab.Sub Means MeansH CallK CallG CallT CallGT
noncomputable instance (p q : Int) : Decidable (rf p q) := Classical.propDecidable _
theorem isF_iff {p q : Int} (hp : rz p) (hq : rz q) : isF (sg p) (dg (ab p)) (sg q) (dg (ab q)) ↔ rf p q := by
  unfold isF
  rw [zv_bigZ, zv_bigZ]
  exact ⟨fun h => h.2.2, fun h => ⟨isR_of hp, isR_of hq, h⟩⟩
theorem Right_z (p q : Int) (hp : rz p) (hq : rz q) : Means false Tryz.prog 41 [frZ p q] (bb (decide (rf p q))) := by
  have := Right_f (sg p) (dg (ab p)) (by have := len60 hp; omega) (sg q) (dg (ab q)) (by have := len60 hq; omega)
  simpa only [isF_iff hp hq] using this
set_option maxHeartbeats 4000000 in
theorem Floor_f (a b : Int) (h : rf a b) : Means false Tryz.prog 24 [frZ a b] (bigZ (a / b)) := by
  have hb := h.2.2.1
  refine means_fn false 20 [.cell 2 39] Tryz.func24 rfl rfl rfl (by simp) (by decide) rfl fun X hX => ?_
  (repeat (first | refine awp_seq ?_ | refine awp_block ?_ | ((first | refine awp_runG [0, 1, 2, 3, 8] hX ?_ | refine awp_drawnG [0, 1, 2, 3, 8] hX mixed ?_ | refine awp_ret ?_ | refine awp_skip ?_ | refine awp_exit ?_); (simp [go_sem]; try (refine ⟨by kernel_rfl, ?_⟩)))))
  first | refine callK_intro (Right_t a b h) rfl (by simp [go_sem]) rfl ?_ | refine callT_intro (Right_t a b h) rfl (by simp [go_sem]) rfl ?_
  try (simp [go_sem]; try (refine ⟨by kernel_rfl, ?_⟩))
  refine awp_cond (b := false) (by simp [go_sem]) (fun h => by cases h) (fun _ => ?_)
  (repeat (first | refine awp_seq ?_ | refine awp_block ?_ | ((first | refine awp_runG [0, 1, 2, 3, 8] hX ?_ | refine awp_drawnG [0, 1, 2, 3, 8] hX mixed ?_ | refine awp_ret ?_ | refine awp_skip ?_ | refine awp_exit ?_); (simp [go_sem]; try (refine ⟨by kernel_rfl, ?_⟩)))))
  first | refine callK_intro (Div_ok h.1 h.2.1 (by omega) (dq_pos hb).1 (dq_pos hb).2) rfl (by simp [go_sem]) rfl ?_ | refine callT_intro (Div_ok h.1 h.2.1 (by omega) (dq_pos hb).1 (dq_pos hb).2) rfl (by simp [go_sem]) rfl ?_
  try (simp [go_sem]; try (refine ⟨by kernel_rfl, ?_⟩))
  (repeat (first | refine awp_seq ?_ | refine awp_block ?_ | ((first | refine awp_runG [0, 1, 2, 3, 8] hX ?_ | refine awp_drawnG [0, 1, 2, 3, 8] hX mixed ?_ | refine awp_ret ?_ | refine awp_skip ?_ | refine awp_exit ?_); (simp [go_sem]; try (refine ⟨by kernel_rfl, ?_⟩)))))
def ftxt (p q : Int) : List UInt8 := txt p ++ 47 :: txt q
set_option maxHeartbeats 4000000 in
theorem Text_g (p q : Int) (hp : rz p) (hq : rz q) : Means false Tryz.prog 66 [frZ p q] (sb (if rf p q then ftxt p q else [])) := by
  have l1 := txt_len hp
  have l2 := txt_len hq
  refine means_fn false 14 [.tmp 2] Tryz.func66 rfl rfl rfl (by simp) (by decide) rfl fun X hX => ?_
  (repeat (first | refine awp_seq ?_ | refine awp_block ?_ | ((first | refine awp_runG [0, 1, 2, 5] hX ?_ | refine awp_drawnG [0, 1, 2, 5] hX mixed ?_ | refine awp_ret ?_ | refine awp_skip ?_ | refine awp_exit ?_); (simp [go_sem]; try (refine ⟨by kernel_rfl, ?_⟩)))))
  first | refine callK_intro (Right_z p q hp hq) rfl (by simp [go_sem]) rfl ?_ | refine callT_intro (Right_z p q hp hq) rfl (by simp [go_sem]) rfl ?_
  try (simp [go_sem]; try (refine ⟨by kernel_rfl, ?_⟩))
  by_cases h : rf p q
  · refine awp_cond (b := false) (by simp [go_sem, h]) (fun h => by cases h) (fun _ => ?_)
    (repeat (first | refine awp_seq ?_ | refine awp_block ?_ | ((first | refine awp_runG [0, 1, 2, 5] hX ?_ | refine awp_drawnG [0, 1, 2, 5] hX mixed ?_ | refine awp_ret ?_ | refine awp_skip ?_ | refine awp_exit ?_); (simp [go_sem]; try (refine ⟨by kernel_rfl, ?_⟩)))))
    first | refine callK_intro (Text_m p hp) rfl (by simp [go_sem]) rfl ?_ | refine callT_intro (Text_m p hp) rfl (by simp [go_sem]) rfl ?_
    try (simp [go_sem]; try (refine ⟨by kernel_rfl, ?_⟩))
    refine ⟨by unfold maxLen; omega, ?_⟩
    try (simp [go_sem]; try (refine ⟨by kernel_rfl, ?_⟩))
    first | refine callK_intro (Text_m q hq) rfl (by simp [go_sem]) rfl ?_ | refine callT_intro (Text_m q hq) rfl (by simp [go_sem]) rfl ?_
    try (simp [go_sem]; try (refine ⟨by kernel_rfl, ?_⟩))
    refine ⟨by unfold maxLen; omega, ?_⟩
    (repeat (first | refine awp_seq ?_ | refine awp_block ?_ | ((first | refine awp_runG [0, 1, 2, 5] hX ?_ | refine awp_drawnG [0, 1, 2, 5] hX mixed ?_ | refine awp_ret ?_ | refine awp_skip ?_ | refine awp_exit ?_); (simp [go_sem, h, ftxt]; try (refine ⟨by kernel_rfl, ?_⟩)))))
    try (simp [go_sem, h, ftxt]; try (refine ⟨by kernel_rfl, ?_⟩))
    (repeat (first | refine awp_seq ?_ | refine awp_block ?_ | ((first | refine awp_runG [0, 1, 2, 5] hX ?_ | refine awp_drawnG [0, 1, 2, 5] hX mixed ?_ | refine awp_ret ?_ | refine awp_skip ?_ | refine awp_exit ?_); (simp [go_sem, h, ftxt]; try (refine ⟨by kernel_rfl, ?_⟩)))))
  · refine awp_cond (b := true) (by simp [go_sem, h]) (fun _ => ?_) (fun h => by cases h)
    (repeat (first | refine awp_seq ?_ | refine awp_block ?_ | ((first | refine awp_runG [0, 1, 2, 5] hX ?_ | refine awp_drawnG [0, 1, 2, 5] hX mixed ?_ | refine awp_ret ?_ | refine awp_skip ?_ | refine awp_exit ?_); (simp [go_sem, h]; try (refine ⟨by kernel_rfl, ?_⟩)))))
end Go.Proofs.YthibhamepjhfjaaGreatDoor

namespace Go.Proofs.YthibhamepjhfjaaGreatDoor
open Go.RowKit Go.Ab
attribute [local irreducible] AWP Go.Ab.Sub Means MeansH CallK CallG CallT CallGT
end Go.Proofs.YthibhamepjhfjaaGreatDoor

namespace Go.Proofs.YthibhamepjhfjaaGreatDoor
open Go.RowKit Go.Ab
attribute [local irreducible] AWP Go.Ab.Sub Means MeansH CallK CallG CallT CallGT CallU
abbrev frq (r : Rat) : AV := frZ r.num r.den
def rq (r : Rat) : Prop := rz r.num ∧ rz r.den
theorem rf_q {r : Rat} (h : rq r) : rf r.num r.den := ⟨h.1, h.2, by have := r.den_pos; omega, by have := r.reduced; simpa [Int.gcd] using this⟩
theorem num_den (r : Rat) : (r.num : Rat) = r * (r.den : Int) := by
  have h := Rat.num_divInt_den r
  rw [Rat.divInt_eq_div] at h
  have hd : (((r.den : Int)) : Rat) ≠ 0 := by
    have := r.den_pos
    intro e
    have : ((r.den : Int) : Rat) = ((0 : Int) : Rat) := e
    have := Rat.intCast_inj.1 this
    omega
  grind
theorem den_ne (r : Rat) : (((r.den : Int)) : Rat) ≠ 0 := by
  have := r.den_pos
  intro e
  have : ((r.den : Int) : Rat) = ((0 : Int) : Rat) := e
  have := Rat.intCast_inj.1 this
  omega
theorem np_rat {p q : Int} {r : Rat} (hq : q ≠ 0) (h : r * (q : Rat) = p) : np p q = r.num ∧ nq p q = (r.den : Int) := by
  obtain ⟨a1, a2, a3, _⟩ := low_spec (p := p) hq
  refine low_uniq a1 a2 (by have := r.den_pos; omega) (by have := r.reduced; simpa [Int.gcd] using this) ?_
  have h1 := num_den r
  have h2 : p * (r.den : Int) = r.num * q := by
    have : ((p * (r.den : Int) : Int) : Rat) = ((r.num * q : Int) : Rat) := by
      rw [Rat.intCast_mul, Rat.intCast_mul, h1, ← h]; grind
    exact Rat.intCast_inj.1 this
  have key : np p q * (r.den : Int) * q = r.num * nq p q * q := by
    have e1 : np p q * (r.den : Int) * q = (np p q * q) * (r.den : Int) := by grind
    have e2 : r.num * nq p q * q = (r.num * q) * nq p q := by grind
    rw [e1, e2, a3, ← h2]; grind
  exact Int.eq_of_mul_eq_mul_right hq key
theorem low_rq {p q : Int} {r : Rat} (hq : q ≠ 0) (h : r * (q : Rat) = p) (hp : rz p) (hz : rz q) : rq r := by
  obtain ⟨h1, h2⟩ := np_rat hq h
  obtain ⟨_, _, _, h4, h5, _⟩ := low_spec (p := p) hq
  refine ⟨?_, ?_⟩
  · rw [← h1]; unfold rz at *; omega
  · rw [← h2]
    unfold rz at *
    have : ab (nq p q) = nq p q := by
      have := r.den_pos
      unfold ab; rw [if_neg (by omega)]
    omega
abbrev okMul (a b : Rat) : Prop := rz (a.num * b.num) ∧ rz (a.den * b.den)
abbrev okAdd (a b : Rat) : Prop := sumP a.num b.den b.num a.den ∧ rz (a.den * b.den)
abbrev okSub (a b : Rat) : Prop := sumP a.num b.den (-b.num) a.den ∧ rz (a.den * b.den)
abbrev okDiv (a b : Rat) : Prop := rz (a.num * b.den) ∧ rz (a.den * b.num)
theorem dd_ne (a b : Rat) : (a.den : Int) * b.den ≠ 0 := Int.mul_ne_zero (by have := a.den_pos; omega) (by have := b.den_pos; omega)
theorem add_rat (a b : Rat) : (a + b) * ((((a.den : Int) * b.den : Int)) : Rat) = ((a.num * b.den + b.num * a.den : Int) : Rat) := by
  rw [Rat.intCast_mul, Rat.intCast_add, Rat.intCast_mul, Rat.intCast_mul, num_den a, num_den b]; grind
theorem sub_rat (a b : Rat) : (a - b) * ((((a.den : Int) * b.den : Int)) : Rat) = ((a.num * b.den + -b.num * a.den : Int) : Rat) := by
  rw [Rat.intCast_mul, Rat.intCast_add, Rat.intCast_mul, Rat.intCast_mul, Rat.intCast_neg, num_den a, num_den b]; grind
theorem mul_rat (a b : Rat) : (a * b) * ((((a.den : Int) * b.den : Int)) : Rat) = ((a.num * b.num : Int) : Rat) := by
  rw [Rat.intCast_mul, Rat.intCast_mul, num_den a, num_den b]; grind
theorem num_ne {b : Rat} (h : b ≠ 0) : b.num ≠ 0 := fun e => h (by
  have := num_den b
  rw [e] at this
  have h2 := den_ne b
  have h3 : ((0 : Int) : Rat) = 0 := rfl
  rw [h3] at this
  grind)
theorem div_rat (a b : Rat) (h : b ≠ 0) : (a / b) * ((((a.den : Int) * b.num : Int)) : Rat) = ((a.num * b.den : Int) : Rat) := by
  rw [Rat.intCast_mul, Rat.intCast_mul, num_den a, num_den b]; grind
theorem add_rq {a b : Rat} (h : okAdd a b) : rq (a + b) := low_rq (dd_ne a b) (add_rat a b) h.1.2.2 h.2
theorem sub_rq {a b : Rat} (h : okSub a b) : rq (a - b) := low_rq (dd_ne a b) (sub_rat a b) h.1.2.2 h.2
theorem mul_rq {a b : Rat} (h : okMul a b) : rq (a * b) := low_rq (dd_ne a b) (mul_rat a b) h.1 h.2
theorem dn_ne (a : Rat) {b : Rat} (h : b ≠ 0) : (a.den : Int) * b.num ≠ 0 := Int.mul_ne_zero (by have := a.den_pos; omega) (num_ne h)
theorem div_rq {a b : Rat} (hb : b ≠ 0) (h : okDiv a b) : rq (a / b) := low_rq (dn_ne a hb) (div_rat a b hb) h.1 h.2
noncomputable def qv (ok : Prop) (r : Rat) : AV := @ite _ ok (Classical.propDecidable ok) (.tup [frq r, ii 0]) (.tup [frZ 0 0, ii 6])
theorem qv_t {ok : Prop} {r : Rat} (h : ok) : qv ok r = .tup [frq r, ii 0] := if_pos h
theorem qv_f {ok : Prop} {r : Rat} (h : ¬ ok) : qv ok r = .tup [frZ 0 0, ii 6] := if_neg h
theorem Add_q {a b : Rat} (ha : rq a) (hb : rq b) : Means false Tryz.prog 60 [frq a, frq b] (qv (okAdd a b) (a + b)) := by
  have := Add_f a.num a.den b.num b.den (rf_q ha) (rf_q hb)
  obtain ⟨h1, h2⟩ := np_rat (dd_ne a b) (add_rat a b)
  by_cases h : okAdd a b
  · rw [resF_t h, h1, h2] at this
    rw [qv_t h]; exact this
  · rw [resF_f h] at this
    rw [qv_f h]; exact this
theorem Add_qt {a b : Rat} (ha : rq a) (hb : rq b) (h : okAdd a b) : Means false Tryz.prog 60 [frq a, frq b] (.tup [frq (a + b), ii 0]) := by
  have := Add_q ha hb
  rwa [qv_t h] at this
theorem Sub_q {a b : Rat} (ha : rq a) (hb : rq b) : Means false Tryz.prog 76 [frq a, frq b] (qv (okSub a b) (a - b)) := by
  have := Sub_f a.num a.den b.num b.den (rf_q ha) (rf_q hb)
  obtain ⟨h1, h2⟩ := np_rat (dd_ne a b) (sub_rat a b)
  by_cases h : okSub a b
  · rw [resF_t h, h1, h2] at this
    rw [qv_t h]; exact this
  · rw [resF_f h] at this
    rw [qv_f h]; exact this
theorem Sub_qt {a b : Rat} (ha : rq a) (hb : rq b) (h : okSub a b) : Means false Tryz.prog 76 [frq a, frq b] (.tup [frq (a - b), ii 0]) := by
  have := Sub_q ha hb
  rwa [qv_t h] at this
theorem Mul_q {a b : Rat} (ha : rq a) (hb : rq b) : Means false Tryz.prog 26 [frq a, frq b] (qv (okMul a b) (a * b)) := by
  have := Mul_f a.num a.den b.num b.den (rf_q ha) (rf_q hb)
  obtain ⟨h1, h2⟩ := np_rat (dd_ne a b) (mul_rat a b)
  by_cases h : okMul a b
  · rw [resF_t h, h1, h2] at this
    rw [qv_t h]; exact this
  · rw [resF_f h] at this
    rw [qv_f h]; exact this
theorem Mul_qt {a b : Rat} (ha : rq a) (hb : rq b) (h : okMul a b) : Means false Tryz.prog 26 [frq a, frq b] (.tup [frq (a * b), ii 0]) := by
  have := Mul_q ha hb
  rwa [qv_t h] at this
theorem Div_q {a b : Rat} (ha : rq a) (hb : rq b) (h0 : b ≠ 0) : Means false Tryz.prog 100 [frq a, frq b] (qv (okDiv a b) (a / b)) := by
  have := Div_f a.num a.den b.num b.den (rf_q ha) (rf_q hb) (num_ne h0)
  obtain ⟨h1, h2⟩ := np_rat (dn_ne a h0) (div_rat a b h0)
  by_cases h : okDiv a b
  · rw [resF_t h, h1, h2] at this
    rw [qv_t h]; exact this
  · rw [resF_f h] at this
    rw [qv_f h]; exact this
theorem Div_qt {a b : Rat} (ha : rq a) (hb : rq b) (h0 : b ≠ 0) (h : okDiv a b) : Means false Tryz.prog 100 [frq a, frq b] (.tup [frq (a / b), ii 0]) := by
  have := Div_q ha hb h0
  rwa [qv_t h] at this
theorem ofq {p q : Int} (h0 : q ≠ 0) : ((p : Rat) / (q : Rat)) * (q : Rat) = (p : Rat) := by
  have : (q : Rat) ≠ 0 := fun e => h0 (Rat.intCast_inj.1 (show (q : Rat) = ((0 : Int) : Rat) from e))
  grind
theorem of_rq {p q : Int} (hp : -9223372036854775808 ≤ p ∧ p ≤ 9223372036854775807) (hq : -9223372036854775808 ≤ q ∧ q ≤ 9223372036854775807) (h0 : q ≠ 0) : rq ((p : Rat) / (q : Rat)) := low_rq h0 (ofq h0) (rz_i hp) (rz_i hq)
theorem Of_q (p q : Int) (hp : -9223372036854775808 ≤ p ∧ p ≤ 9223372036854775807) (hq : -9223372036854775808 ≤ q ∧ q ≤ 9223372036854775807) (h0 : q ≠ 0) : Means false Tryz.prog 21 [ii p, ii q] (.tup [frq ((p : Rat) / (q : Rat)), ii 0]) := by
  have := Of_f p q hp hq h0
  obtain ⟨h1, h2⟩ := np_rat (r := (p : Rat) / (q : Rat)) h0 (ofq h0)
  rwa [h1, h2] at this
end Go.Proofs.YthibhamepjhfjaaGreatDoor

namespace Go.Proofs.YthibhamepjhfjaaGreatDoor
open Go.RowKit Go.Ab
attribute [local irreducible] AWP Go.Ab.Sub Means MeansH CallK CallG CallT CallGT CallU
abbrev calC (e : Int) : Cell := .row ⟨56, 1, [.agg [ii e]]⟩
def kp (c e : Int) : Int := if c = 0 then e else c
theorem keep_m (c e : Int) (s1 : Int) (L1 : List Int) (s2 : Int) (L2 : List Int) : MeansH Tryz.prog 70 [calC c] [.el 0 1 0 0, frac4 s1 L1 s2 L2, ii e] (frac4 s1 L1 s2 L2) [calC (kp c e)] := by
  refine meansH_fn 1 17 [.cell 6 41] Tryz.func70 rfl rfl rfl (by simp) (by decide) rfl fun X hX => ?_
  (repeat (first | refine awp_seq ?_ | refine awp_block ?_ | ((first | refine awp_runG [0, 1, 2, 4, 6, 11, 1000000] hX ?_ | refine awp_drawnG [0, 1, 2, 4, 6, 11, 1000000] hX mixed ?_ | refine awp_skip ?_ | refine awp_exit ?_); (simp [go_sem]; try (refine ⟨by kernel_rfl, ?_⟩)))))
  refine awp_cond (b := decide (c = 0)) (by simp [go_sem]) (fun hb => ?_) (fun hb => ?_)
  · simp only [decide_eq_true_eq] at hb
    have e1 : kp c e = e := if_pos hb
    rw [e1]
    (repeat (first | refine awp_seq ?_ | refine awp_block ?_ | ((first | refine awp_runG [0, 1, 2, 4, 6, 11, 1000000] hX ?_ | refine awp_drawnG [0, 1, 2, 4, 6, 11, 1000000] hX mixed ?_ | refine awp_skip ?_ | refine awp_exit ?_); (simp [go_sem]; try (refine ⟨by kernel_rfl, ?_⟩)))))
    refine awp_ret ?_; (try simp only [thenQ, blkQ, loopQ]); refine retH_ret [(1000000, .ow 0)] [.old 0 ⟨56, 1, [.agg [ii e]]⟩] ?_
    simp [go_sem]
  · simp only [decide_eq_false_iff_not] at hb
    have e1 : kp c e = c := if_neg hb
    rw [e1]
    (repeat (first | refine awp_seq ?_ | refine awp_block ?_ | ((first | refine awp_runG [0, 1, 2, 4, 6, 11, 1000000] hX ?_ | refine awp_drawnG [0, 1, 2, 4, 6, 11, 1000000] hX mixed ?_ | refine awp_skip ?_ | refine awp_exit ?_); (simp [go_sem]; try (refine ⟨by kernel_rfl, ?_⟩)))))
    refine awp_ret ?_; (try simp only [thenQ, blkQ, loopQ]); refine retH_ret [(1000000, .ow 0)] [.old 0 ⟨56, 1, [.agg [ii c]]⟩] ?_
    simp [go_sem]
theorem of_c (c : Int) {p q s1 s2 e : Int} {L1 L2 : List Int} (h : Means false Tryz.prog 21 [ii p, ii q] (.tup [frac4 s1 L1 s2 L2, ii e])) : MeansH Tryz.prog 33 [calC c] [.el 0 1 0 0, ii p, ii q] (frac4 s1 L1 s2 L2) [calC (kp c e)] := by
  have c1 := keep_m c e s1 L1 s2 L2
  refine meansH_fn 1 14 [.cell 6 41] Tryz.func33 rfl rfl rfl (by simp) (by decide) rfl fun X hX => ?_
  (repeat (first | refine awp_seq ?_ | refine awp_block ?_ | ((first | refine awp_runG [0, 1, 2, 6, 1000000] hX ?_ | refine awp_drawnG [0, 1, 2, 6, 1000000] hX mixed ?_ | refine awp_skip ?_ | refine awp_exit ?_); (simp [go_sem]; try (refine ⟨by kernel_rfl, ?_⟩)))))
  first | refine callK_intro (h) rfl (by simp [go_sem]) rfl ?_ | refine callT_intro (h) rfl (by simp [go_sem]) rfl ?_
  try (simp [go_sem]; try (refine ⟨by kernel_rfl, ?_⟩))
  first | refine callH_intro [0] (c1) (by simp [go_sem]) ?_ | refine callTQ_intro [0] (c1) (by simp [go_sem]) ?_ | refine callTE_intro [0] (c1) (by simp [go_sem]) ?_
  try (simp [go_sem]; try (refine ⟨by kernel_rfl, ?_⟩))
  refine awp_ret ?_; (try simp only [thenQ, blkQ, loopQ]); refine retH_ret [(1000000, .ow 0)] [.old 0 ⟨56, 1, [.agg [ii (kp c e)]]⟩] ?_
  simp [go_sem]
theorem add_c (c : Int) {s1 s2 t1 t2 r1 r2 e : Int} {L1 L2 M1 M2 N1 N2 : List Int} (h : Means false Tryz.prog 60 [frac4 s1 L1 s2 L2, frac4 t1 M1 t2 M2] (.tup [frac4 r1 N1 r2 N2, ii e])) : MeansH Tryz.prog 44 [calC c] [.el 0 1 0 0, frac4 s1 L1 s2 L2, frac4 t1 M1 t2 M2] (frac4 r1 N1 r2 N2) [calC (kp c e)] := by
  have c1 := keep_m c e r1 N1 r2 N2
  refine meansH_fn 1 14 [.cell 6 41] Tryz.func44 rfl rfl rfl (by simp) (by decide) rfl fun X hX => ?_
  (repeat (first | refine awp_seq ?_ | refine awp_block ?_ | ((first | refine awp_runG [0, 1, 2, 4, 5, 6, 1000000] hX ?_ | refine awp_drawnG [0, 1, 2, 4, 5, 6, 1000000] hX mixed ?_ | refine awp_skip ?_ | refine awp_exit ?_); (simp [go_sem]; try (refine ⟨by kernel_rfl, ?_⟩)))))
  first | refine callK_intro (h) rfl (by simp [go_sem]) rfl ?_ | refine callT_intro (h) rfl (by simp [go_sem]) rfl ?_
  try (simp [go_sem]; try (refine ⟨by kernel_rfl, ?_⟩))
  first | refine callH_intro [0] (c1) (by simp [go_sem]) ?_ | refine callTQ_intro [0] (c1) (by simp [go_sem]) ?_ | refine callTE_intro [0] (c1) (by simp [go_sem]) ?_
  try (simp [go_sem]; try (refine ⟨by kernel_rfl, ?_⟩))
  refine awp_ret ?_; (try simp only [thenQ, blkQ, loopQ]); refine retH_ret [(1000000, .ow 0)] [.old 0 ⟨56, 1, [.agg [ii (kp c e)]]⟩] ?_
  simp [go_sem]
theorem sub_c (c : Int) {s1 s2 t1 t2 r1 r2 e : Int} {L1 L2 M1 M2 N1 N2 : List Int} (h : Means false Tryz.prog 76 [frac4 s1 L1 s2 L2, frac4 t1 M1 t2 M2] (.tup [frac4 r1 N1 r2 N2, ii e])) : MeansH Tryz.prog 43 [calC c] [.el 0 1 0 0, frac4 s1 L1 s2 L2, frac4 t1 M1 t2 M2] (frac4 r1 N1 r2 N2) [calC (kp c e)] := by
  have c1 := keep_m c e r1 N1 r2 N2
  refine meansH_fn 1 14 [.cell 6 41] Tryz.func43 rfl rfl rfl (by simp) (by decide) rfl fun X hX => ?_
  (repeat (first | refine awp_seq ?_ | refine awp_block ?_ | ((first | refine awp_runG [0, 1, 2, 4, 5, 6, 1000000] hX ?_ | refine awp_drawnG [0, 1, 2, 4, 5, 6, 1000000] hX mixed ?_ | refine awp_skip ?_ | refine awp_exit ?_); (simp [go_sem]; try (refine ⟨by kernel_rfl, ?_⟩)))))
  first | refine callK_intro (h) rfl (by simp [go_sem]) rfl ?_ | refine callT_intro (h) rfl (by simp [go_sem]) rfl ?_
  try (simp [go_sem]; try (refine ⟨by kernel_rfl, ?_⟩))
  first | refine callH_intro [0] (c1) (by simp [go_sem]) ?_ | refine callTQ_intro [0] (c1) (by simp [go_sem]) ?_ | refine callTE_intro [0] (c1) (by simp [go_sem]) ?_
  try (simp [go_sem]; try (refine ⟨by kernel_rfl, ?_⟩))
  refine awp_ret ?_; (try simp only [thenQ, blkQ, loopQ]); refine retH_ret [(1000000, .ow 0)] [.old 0 ⟨56, 1, [.agg [ii (kp c e)]]⟩] ?_
  simp [go_sem]
theorem mul_c (c : Int) {s1 s2 t1 t2 r1 r2 e : Int} {L1 L2 M1 M2 N1 N2 : List Int} (h : Means false Tryz.prog 26 [frac4 s1 L1 s2 L2, frac4 t1 M1 t2 M2] (.tup [frac4 r1 N1 r2 N2, ii e])) : MeansH Tryz.prog 32 [calC c] [.el 0 1 0 0, frac4 s1 L1 s2 L2, frac4 t1 M1 t2 M2] (frac4 r1 N1 r2 N2) [calC (kp c e)] := by
  have c1 := keep_m c e r1 N1 r2 N2
  refine meansH_fn 1 14 [.cell 6 41] Tryz.func32 rfl rfl rfl (by simp) (by decide) rfl fun X hX => ?_
  (repeat (first | refine awp_seq ?_ | refine awp_block ?_ | ((first | refine awp_runG [0, 1, 2, 4, 5, 6, 1000000] hX ?_ | refine awp_drawnG [0, 1, 2, 4, 5, 6, 1000000] hX mixed ?_ | refine awp_skip ?_ | refine awp_exit ?_); (simp [go_sem]; try (refine ⟨by kernel_rfl, ?_⟩)))))
  first | refine callK_intro (h) rfl (by simp [go_sem]) rfl ?_ | refine callT_intro (h) rfl (by simp [go_sem]) rfl ?_
  try (simp [go_sem]; try (refine ⟨by kernel_rfl, ?_⟩))
  first | refine callH_intro [0] (c1) (by simp [go_sem]) ?_ | refine callTQ_intro [0] (c1) (by simp [go_sem]) ?_ | refine callTE_intro [0] (c1) (by simp [go_sem]) ?_
  try (simp [go_sem]; try (refine ⟨by kernel_rfl, ?_⟩))
  refine awp_ret ?_; (try simp only [thenQ, blkQ, loopQ]); refine retH_ret [(1000000, .ow 0)] [.old 0 ⟨56, 1, [.agg [ii (kp c e)]]⟩] ?_
  simp [go_sem]
theorem div_c (c : Int) {s1 s2 t1 t2 r1 r2 e : Int} {L1 L2 M1 M2 N1 N2 : List Int} (h : Means false Tryz.prog 100 [frac4 s1 L1 s2 L2, frac4 t1 M1 t2 M2] (.tup [frac4 r1 N1 r2 N2, ii e])) : MeansH Tryz.prog 69 [calC c] [.el 0 1 0 0, frac4 s1 L1 s2 L2, frac4 t1 M1 t2 M2] (frac4 r1 N1 r2 N2) [calC (kp c e)] := by
  have c1 := keep_m c e r1 N1 r2 N2
  refine meansH_fn 1 14 [.cell 6 41] Tryz.func69 rfl rfl rfl (by simp) (by decide) rfl fun X hX => ?_
  (repeat (first | refine awp_seq ?_ | refine awp_block ?_ | ((first | refine awp_runG [0, 1, 2, 4, 5, 6, 1000000] hX ?_ | refine awp_drawnG [0, 1, 2, 4, 5, 6, 1000000] hX mixed ?_ | refine awp_skip ?_ | refine awp_exit ?_); (simp [go_sem]; try (refine ⟨by kernel_rfl, ?_⟩)))))
  first | refine callK_intro (h) rfl (by simp [go_sem]) rfl ?_ | refine callT_intro (h) rfl (by simp [go_sem]) rfl ?_
  try (simp [go_sem]; try (refine ⟨by kernel_rfl, ?_⟩))
  first | refine callH_intro [0] (c1) (by simp [go_sem]) ?_ | refine callTQ_intro [0] (c1) (by simp [go_sem]) ?_ | refine callTE_intro [0] (c1) (by simp [go_sem]) ?_
  try (simp [go_sem]; try (refine ⟨by kernel_rfl, ?_⟩))
  refine awp_ret ?_; (try simp only [thenQ, blkQ, loopQ]); refine retH_ret [(1000000, .ow 0)] [.old 0 ⟨56, 1, [.agg [ii (kp c e)]]⟩] ?_
  simp [go_sem]
end Go.Proofs.YthibhamepjhfjaaGreatDoor

namespace Go.Proofs.YthibhamepjhfjaaGreatDoor
def sumR (f : Nat → Rat) : Nat → Rat
  | 0 => 0
  | n + 1 => sumR f n + f n
theorem sumR_congr {f g : Nat → Rat} : ∀ {n : Nat}, (∀ k, k < n → f k = g k) → sumR f n = sumR g n
  | 0, _ => rfl
  | n + 1, h => by simp only [sumR]; rw [sumR_congr fun k hk => h k (by omega), h n (by omega)]
theorem sumR_lin (f g : Nat → Rat) (a b : Rat) : ∀ n, sumR (fun k => a * f k + b * g k) n = a * sumR f n + b * sumR g n
  | 0 => by simp only [sumR]; grind
  | n + 1 => by simp only [sumR]; rw [sumR_lin f g a b n]; grind
theorem sumR_zero {f : Nat → Rat} : ∀ {n : Nat}, (∀ k, k < n → f k = 0) → sumR f n = 0
  | 0, _ => rfl
  | n + 1, h => by simp only [sumR]; rw [sumR_zero fun k hk => h k (by omega), h n (by omega)]; grind
theorem sumR_one {f : Nat → Rat} {i : Nat} : ∀ {n : Nat}, i < n → (∀ k, k < n → k ≠ i → f k = 0) → sumR f n = f i
  | 0, h, _ => by omega
  | n + 1, h, h0 => by
    simp only [sumR]
    by_cases hi : i = n
    · subst hi
      rw [sumR_zero fun k hk => h0 k (by omega) (by omega)]; grind
    · rw [sumR_one (i := i) (n := n) (by omega) fun k hk hne => h0 k (by omega) hne, h0 n (by omega) (fun e => hi e.symm)]; grind
theorem sumR_two {f : Nat → Rat} {i : Nat} : ∀ {n : Nat}, i + 1 < n → (∀ k, k < n → k ≠ i → k ≠ i + 1 → f k = 0) → sumR f n = f i + f (i + 1)
  | 0, h, _ => by omega
  | n + 1, h, h0 => by
    simp only [sumR]
    by_cases hi : i + 1 = n
    · subst hi
      rw [sumR_one (i := i) (n := i + 1) (by omega) fun k hk hne => h0 k (by omega) hne (by omega)]
    · rw [sumR_two (i := i) (n := n) (by omega) fun k hk h1 h2 => h0 k (by omega) h1 h2, h0 n (by omega) (by omega) (by omega)]; grind
theorem sumR_nonneg {f : Nat → Rat} : ∀ {n : Nat}, (∀ k, k < n → 0 ≤ f k) → 0 ≤ sumR f n
  | 0, _ => by simp only [sumR]; decide
  | n + 1, h => by
    simp only [sumR]
    have h1 := sumR_nonneg fun k (hk : k < n) => h k (by omega)
    have h2 := h n (by omega)
    grind
theorem sumR_le {f : Nat → Rat} {i : Nat} : ∀ {n : Nat}, i < n → (∀ k, k < n → k ≠ i → f k ≤ 0) → sumR f n ≤ f i
  | 0, h, _ => by omega
  | n + 1, h, h0 => by
    simp only [sumR]
    by_cases hi : i = n
    · subst hi
      have : 0 ≤ sumR (fun k => (-1) * f k + 0 * f k) i := sumR_nonneg fun k hk => by have := h0 k (by omega) (by omega); grind
      rw [sumR_lin] at this
      grind
    · have h1 := sumR_le (i := i) (n := n) (by omega) fun k hk hne => h0 k (by omega) hne
      have h2 := h0 n (by omega) (fun e => hi e.symm)
      grind
abbrev Mx := Nat → Nat → Rat
def Sol (A : Mx) (n : Nat) (x : Nat → Rat) : Prop := ∀ k, k < n → sumR (fun t => A k t * x t) n = A k n
def elimP (A : Mx) (i k : Nat) : Mx := fun k' t => if k' ≠ i ∧ k' < k ∧ i ≤ t then A k' t - A k' i / A i i * A i t else A k' t
def gj (A : Mx) (n : Nat) : Nat → Mx
  | 0 => A
  | i + 1 => elimP (gj A n i) i n
structure Inv (A : Mx) (n i : Nat) : Prop where
  zero : ∀ k t, k < n → t < i → k ≠ t → A k t = 0
  off : ∀ k t, k < n → i ≤ t → t < n → k ≠ t → A k t ≤ 0
  col : ∀ t, i ≤ t → t < n → 0 < sumR (fun k => if i ≤ k then A k t else 0) n
  rhs : ∀ k, k < n → 0 ≤ A k n
  dpos : ∀ k, k < i → k < n → 0 < A k k
theorem div_nonpos {a p : Rat} (ha : a ≤ 0) (hp : 0 < p) : a / p ≤ 0 := by
  have h1 : 0 ≤ -a := by grind
  have h2 : 0 ≤ p⁻¹ := by have := Rat.inv_pos.2 hp; grind
  have := Rat.mul_nonneg h1 h2
  rw [Rat.div_def]; grind
theorem div_nonneg' {a p : Rat} (ha : 0 ≤ a) (hp : 0 < p) : 0 ≤ a / p := by
  have h2 : 0 ≤ p⁻¹ := by have := Rat.inv_pos.2 hp; grind
  have := Rat.mul_nonneg ha h2
  rw [Rat.div_def]; exact this
theorem mul_np {a b : Rat} (ha : a ≤ 0) (hb : b ≤ 0) : 0 ≤ a * b := by
  have := Rat.mul_nonneg (show 0 ≤ -a by grind) (show 0 ≤ -b by grind)
  grind
theorem mul_pn {a b : Rat} (ha : 0 ≤ a) (hb : b ≤ 0) : a * b ≤ 0 := by
  have := Rat.mul_nonneg ha (show 0 ≤ -b by grind)
  grind
theorem pivot_pos {A : Mx} {n i : Nat} (h : Inv A n i) (hi : i < n) : 0 < A i i := by
  have h1 := h.col i (Nat.le_refl _) hi
  have h2 := sumR_le (f := fun k => if i ≤ k then A k i else 0) hi fun k hk hne => by
    split
    · exact h.off k i hk (Nat.le_refl _) hi hne
    · grind
  rw [if_pos (Nat.le_refl _)] at h2
  grind
theorem elim_row (A : Mx) (i k t : Nat) : elimP A i k i t = A i t := if_neg (by omega)
theorem elim_at {A : Mx} {i n k t : Nat} (hk : k < n) (hne : k ≠ i) (ht : i ≤ t) : elimP A i n k t = A k t - A k i / A i i * A i t := if_pos ⟨hne, hk, ht⟩
theorem elim_left {A : Mx} {i n k t : Nat} (ht : t < i) : elimP A i n k t = A k t := if_neg (by omega)
theorem inv_step {A : Mx} {n i : Nat} (h : Inv A n i) (hi : i < n) : Inv (elimP A i n) n (i + 1) := by
  have hp := pivot_pos h hi
  refine ⟨fun k t hk ht hne => ?_, fun k t hk ht htn hne => ?_, fun t ht htn => ?_, fun k hk => ?_, fun k hk hkn => ?_⟩
  · by_cases hti : t = i
    · subst hti
      rw [elim_at hk hne (Nat.le_refl _)]
      grind
    · rw [elim_left (by omega)]
      exact h.zero k t hk (by omega) hne
  · by_cases hki : k = i
    · subst hki
      rw [elim_row]
      exact h.off k t hk (by omega) htn hne
    · rw [elim_at hk hki (by omega)]
      have h1 := h.off k t hk (by omega) htn hne
      have h2 := div_nonpos (h.off k i hk (Nat.le_refl _) hi hki) hp
      have h3 := mul_np h2 (h.off i t hi (by omega) htn (by omega))
      grind
  · have e : sumR (fun k => if i + 1 ≤ k then elimP A i n k t else 0) n = sumR (fun k => 1 * (if i ≤ k then A k t else 0) + (-(A i t / A i i)) * (if i ≤ k then A k i else 0)) n := by
      refine sumR_congr fun k hk => ?_
      by_cases h1 : k < i
      · rw [if_neg (by omega), if_neg (by omega), if_neg (by omega)]; grind
      · by_cases h2 : k = i
        · subst h2
          rw [if_neg (by omega), if_pos (by omega), if_pos (by omega)]; grind
        · rw [if_pos (by omega), if_pos (by omega), if_pos (by omega), elim_at hk h2 (by omega)]; grind
    rw [e, sumR_lin]
    have h1 := h.col t (by omega) htn
    have h2 := h.col i (Nat.le_refl _) hi
    have h3 := mul_pn (Rat.le_of_lt h2) (div_nonpos (h.off i t hi (by omega) htn (by omega)) hp)
    grind
  · by_cases hki : k = i
    · subst hki
      rw [elim_row]; exact h.rhs k hk
    · rw [elim_at hk hki (by omega)]
      have h1 := h.rhs k hk
      have h2 := div_nonpos (h.off k i hk (Nat.le_refl _) hi hki) hp
      have h3 := mul_pn (h.rhs i hi) h2
      grind
  · by_cases hki : k = i
    · subst hki
      rw [elim_row]; exact hp
    · rw [elim_left (by omega)]
      exact h.dpos k (by omega) hkn
theorem gj_inv {A : Mx} {n : Nat} (h : Inv A n 0) : ∀ i, i ≤ n → Inv (gj A n i) n i
  | 0, _ => h
  | i + 1, hi => inv_step (gj_inv h i (by omega)) (by omega)
theorem gj_diag (A : Mx) (n k : Nat) : ∀ i, k ≤ i → gj A n i k k = gj A n k k k
  | 0, h => by have : k = 0 := by omega
               subst this; rfl
  | i + 1, h => by
    by_cases hk : k = i + 1
    · rw [hk]
    · rw [← gj_diag A n k i (by omega)]
      show elimP (gj A n i) i n k k = _
      by_cases hki : k = i
      · subst hki; exact elim_row _ _ _ _
      · exact elim_left (by omega)
theorem sol_step {A : Mx} {n i : Nat} {x : Nat → Rat} (hi : i < n) (hp : A i i ≠ 0) (hz : ∀ t, t < i → A i t = 0) : Sol (elimP A i n) n x ↔ Sol A n x := by
  have row : ∀ k, k < n → k ≠ i → sumR (fun t => elimP A i n k t * x t) n = sumR (fun t => A k t * x t) n - A k i / A i i * sumR (fun t => A i t * x t) n := by
    intro k hk hne
    have : sumR (fun t => elimP A i n k t * x t) n = sumR (fun t => 1 * (A k t * x t) + (-(A k i / A i i)) * (A i t * x t)) n := by
      refine sumR_congr fun t ht => ?_
      by_cases h : i ≤ t
      · rw [elim_at hk hne h]; grind
      · rw [elim_left (by omega), hz t (by omega)]; grind
    rw [this, sumR_lin]; grind
  have rowi : sumR (fun t => elimP A i n i t * x t) n = sumR (fun t => A i t * x t) n := sumR_congr fun t _ => by rw [elim_row]
  constructor
  · intro h k hk
    have hi' := h i hi
    rw [rowi, elim_row] at hi'
    by_cases hne : k = i
    · subst hne; exact hi'
    · have := h k hk
      rw [row k hk hne, elim_at hk hne (by omega), hi'] at this
      grind
  · intro h k hk
    by_cases hne : k = i
    · subst hne; rw [rowi, elim_row]; exact h k hk
    · rw [row k hk hne, elim_at hk hne (by omega), h k hk, h i hi]
theorem sol_gj {A : Mx} {n : Nat} {x : Nat → Rat} (h : Inv A n 0) : ∀ i, i ≤ n → (Sol (gj A n i) n x ↔ Sol A n x)
  | 0, _ => Iff.rfl
  | i + 1, hi => by
    have hv := gj_inv h i (by omega)
    have hp := pivot_pos hv (by omega)
    rw [← sol_gj h i (by omega)]
    exact sol_step (by omega) (by grind) fun t ht => hv.zero i t (by omega) ht (by omega)
def solx (A : Mx) (n k : Nat) : Rat := gj A n n k n / gj A n n k k
theorem solx_iff {A : Mx} {n : Nat} {x : Nat → Rat} (h : Inv A n 0) : Sol A n x ↔ ∀ k, k < n → x k = solx A n k := by
  have hv := gj_inv h n (Nat.le_refl _)
  rw [← sol_gj h n (Nat.le_refl _)]
  have one : ∀ k, k < n → sumR (fun t => gj A n n k t * x t) n = gj A n n k k * x k := fun k hk =>
    sumR_one hk fun t ht hne => by rw [hv.zero k t hk ht (fun e => hne e.symm)]; grind
  constructor
  · intro hs k hk
    have h1 := hs k hk
    rw [one k hk] at h1
    have h2 := hv.dpos k hk hk
    unfold solx
    rw [← h1]; grind
  · intro hs k hk
    have h2 := hv.dpos k hk hk
    rw [one k hk, hs k hk]
    unfold solx; grind
theorem solx_nonneg {A : Mx} {n k : Nat} (h : Inv A n 0) (hk : k < n) : 0 ≤ solx A n k := by
  have hv := gj_inv h n (Nat.le_refl _)
  exact div_nonneg' (hv.rhs k hk) (hv.dpos k hk hk)
theorem solx_sol {A : Mx} {n : Nat} (h : Inv A n 0) : Sol A n (solx A n) := (solx_iff h).2 fun _ _ => rfl
theorem gj_piv {A : Mx} {n i : Nat} (h : Inv A n 0) (hi : i < n) : 0 < gj A n i i i := pivot_pos (gj_inv h i (by omega)) hi
end Go.Proofs.YthibhamepjhfjaaGreatDoor

namespace Go.Proofs.YthibhamepjhfjaaGreatDoor
def sgn (j : Nat) : Rat := if j % 2 = 0 then 1 else -1
theorem sgn_succ (j : Nat) : sgn (j + 1) = - sgn j := by
  unfold sgn
  by_cases h : j % 2 = 0
  · rw [if_neg (by omega), if_pos h]
  · rw [if_pos (by omega), if_neg h]; decide
def minor (j : Nat) (A : Mx) : Mx := fun k t => A (k + 1) (if t < j then t else t + 1)
def det : Nat → Mx → Rat
  | 0, _ => 1
  | n + 1, A => sumR (fun j => sgn j * A 0 j * det n (minor j A)) (n + 1)
theorem det_congr : ∀ (n : Nat) {A B : Mx}, (∀ k t, k < n → t < n → A k t = B k t) → det n A = det n B
  | 0, _, _, _ => rfl
  | n + 1, A, B, h => by
    unfold det
    refine sumR_congr fun j hj => ?_
    rw [h 0 j (by omega) hj, det_congr n (A := minor j A) (B := minor j B) fun k t hk ht => ?_]
    unfold minor
    split
    · exact h _ _ (by omega) (by omega)
    · exact h _ _ (by omega) (by omega)
def setCol (A : Mx) (c : Nat) (v : Nat → Rat) : Mx := fun k t => if t = c then v k else A k t
theorem minor_same (A : Mx) (c : Nat) (v : Nat → Rat) : minor c (setCol A c v) = minor c A := by
  funext k t
  unfold minor setCol
  split <;> rw [if_neg (by omega)]
theorem minor_other (A : Mx) (c j : Nat) (v : Nat → Rat) (h : j ≠ c) : minor j (setCol A c v) = setCol (minor j A) (if c < j then c else c - 1) (fun k => v (k + 1)) := by
  funext k t
  unfold minor setCol
  by_cases h1 : c < j
  · rw [if_pos h1]
    by_cases ht : t < j
    · simp only [if_pos ht]
    · rw [if_neg ht, if_neg (by omega), if_neg (by omega)]
      simp only [if_neg ht]
  · rw [if_neg h1]
    by_cases ht : t < j
    · rw [if_pos ht, if_neg (by omega), if_neg (by omega)]
      simp only [if_pos ht]
    · rw [if_neg ht]
      by_cases h2 : t + 1 = c
      · rw [if_pos h2, if_pos (by omega)]
      · rw [if_neg h2, if_neg (by omega)]
        simp only [if_neg ht]
theorem setCol_at (A : Mx) (c : Nat) (v : Nat → Rat) (k : Nat) : setCol A c v k c = v k := if_pos rfl
theorem setCol_ne (A : Mx) (c : Nat) (v : Nat → Rat) (k : Nat) {t : Nat} (h : t ≠ c) : setCol A c v k t = A k t := if_neg h
theorem det_lin : ∀ (n : Nat) (A : Mx) (c : Nat) (u v : Nat → Rat) (a b : Rat), c < n →
    det n (setCol A c fun k => a * u k + b * v k) = a * det n (setCol A c u) + b * det n (setCol A c v)
  | 0, _, c, _, _, _, _, h => by omega
  | n + 1, A, c, u, v, a, b, h => by
    unfold det
    rw [← sumR_lin]
    refine sumR_congr fun j hj => ?_
    by_cases hc : j = c
    · subst hc
      simp only [minor_same, setCol_at]
      grind
    · simp only [minor_other _ _ _ _ hc, setCol_ne _ _ _ _ hc]
      rw [det_lin n (minor j A) (if c < j then c else c - 1) (fun k => u (k + 1)) (fun k => v (k + 1)) a b (by split <;> omega)]
      grind
theorem det_adj : ∀ (n : Nat) (A : Mx) (c : Nat), c + 1 < n → (∀ k, k < n → A k c = A k (c + 1)) → det n A = 0
  | 0, _, c, h, _ => by omega
  | n + 1, A, c, h, he => by
    unfold det
    rw [sumR_two h fun j hj h1 h2 => ?_]
    · rw [he 0 (by omega), sgn_succ, det_congr n (A := minor c A) (B := minor (c + 1) A) fun k t hk ht => ?_]
      · grind
      · unfold minor
        by_cases h1 : t < c
        · rw [if_pos h1, if_pos (by omega)]
        · rw [if_neg h1]
          by_cases h2 : t < c + 1
          · rw [if_pos h2]
            have : t = c := by omega
            subst this
            exact (he (k + 1) (by omega)).symm
          · rw [if_neg h2]
    · rw [det_adj n (minor j A) (if c < j then c else c - 1) (by split <;> omega) fun k hk => ?_]
      · grind
      · unfold minor
        by_cases h3 : c < j
        · rw [if_pos h3, if_pos (by omega), if_pos (by omega)]; exact he _ (by omega)
        · rw [if_neg h3, if_neg (by omega), if_neg (by omega)]
          have : c - 1 + 1 = c := by omega
          rw [this]
          exact he _ (by omega)
theorem setCol_self (A : Mx) (c : Nat) : setCol A c (fun k => A k c) = A := by
  funext k t
  unfold setCol
  split
  · rename_i h; rw [h]
  · rfl
def swapC (A : Mx) (c : Nat) : Mx := setCol (setCol A c fun k => A k (c + 1)) (c + 1) fun k => A k c
theorem det_swap (n : Nat) (A : Mx) (c : Nat) (h : c + 1 < n) : det n (swapC A c) = - det n A := by
  have e0 : ∀ (u v : Nat → Rat), (∀ k, u k = v k) → det n (setCol (setCol A c u) (c + 1) v) = 0 := fun u v huv =>
    det_adj n _ c h fun k _ => by rw [setCol_at, setCol_ne _ _ _ _ (by omega), setCol_at, huv k]
  let p : Nat → Rat := fun k => A k c
  let q : Nat → Rat := fun k => A k (c + 1)
  have comm : ∀ (u v : Nat → Rat), setCol (setCol A c u) (c + 1) v = setCol (setCol A (c + 1) v) c u := fun u v => by
    funext k t
    unfold setCol
    by_cases h1 : t = c + 1
    · subst h1
      rw [if_pos rfl, if_neg (by omega), if_pos rfl]
    · simp only [if_neg h1]
  have h1 := e0 (fun k => 1 * p k + 1 * q k) (fun k => 1 * p k + 1 * q k) (fun _ => rfl)
  rw [det_lin n _ (c + 1) p q 1 1 h, comm _ p, comm _ q, det_lin n _ c p q 1 1 (by omega), det_lin n _ c p q 1 1 (by omega), ← comm, ← comm, ← comm, ← comm] at h1
  have h2 := e0 p p (fun _ => rfl)
  have h3 := e0 q q (fun _ => rfl)
  have h4 : setCol (setCol A c p) (c + 1) q = A := by rw [show setCol A c p = A from setCol_self A c]; exact setCol_self A (c + 1)
  rw [h2, h3, h4] at h1
  show det n (setCol (setCol A c q) (c + 1) p) = _
  grind
theorem det_eq : ∀ (m n : Nat) (A : Mx) (c : Nat), c + 1 + m < n → (∀ k, k < n → A k c = A k (c + 1 + m)) → det n A = 0
  | 0, n, A, c, h, he => det_adj n A c h he
  | m + 1, n, A, c, h, he => by
    have h1 := det_swap n A (c + 1 + m) (by omega)
    have h2 := det_eq m n (swapC A (c + 1 + m)) c (by omega) fun k hk => by
      unfold swapC
      rw [setCol_ne _ _ _ _ (by omega), setCol_ne _ _ _ _ (by omega), setCol_ne _ _ _ _ (by omega), setCol_at]
      rw [he k hk]; congr 1
    rw [h2] at h1
    grind
theorem det_same {n : Nat} {A : Mx} {c d : Nat} (hc : c < n) (hd : d < n) (hne : c ≠ d) (he : ∀ k, k < n → A k c = A k d) : det n A = 0 := by
  rcases Nat.lt_or_gt_of_ne hne with h | h
  · refine det_eq (d - c - 1) n A c (by omega) fun k hk => ?_
    have : c + 1 + (d - c - 1) = d := by omega
    rw [this]; exact he k hk
  · refine det_eq (c - d - 1) n A d (by omega) fun k hk => ?_
    have : d + 1 + (c - d - 1) = c := by omega
    rw [this]; exact (he k hk).symm
theorem det_add {n : Nat} (A : Mx) {c d : Nat} (hc : c < n) (hd : d < n) (hne : c ≠ d) (a : Rat) : det n (setCol A c fun k => A k c + a * A k d) = det n A := by
  have h1 := det_lin n A c (fun k => A k c) (fun k => A k d) 1 a hc
  have h2 : det n (setCol A c fun k => A k d) = 0 := det_same hc hd hne fun k _ => by rw [setCol_at, setCol_ne _ _ _ _ (fun e => hne e.symm)]
  rw [h2, setCol_self] at h1
  have h3 : (fun k => A k c + a * A k d) = fun k => 1 * A k c + a * A k d := by funext k; grind
  rw [h3, h1]; grind
theorem cramer {A : Mx} {n : Nat} {x : Nat → Rat} (h : Sol A n x) {j : Nat} (hj : j < n) : det n (setCol A j fun k => A k n) = x j * det n A := by
  have h1 : det n (setCol A j fun k => A k n) = det n (setCol A j fun k => sumR (fun t => A k t * x t) n) := det_congr n fun k t hk _ => by
    unfold setCol
    split
    · exact (h k hk).symm
    · rfl
  have h2 : ∀ m, det n (setCol A j fun k => sumR (fun t => A k t * x t) m) = sumR (fun t => x t * det n (setCol A j fun k => A k t)) m := by
    intro m
    induction m with
    | zero =>
      have := det_lin n A j (fun _ => 0) (fun _ => 0) 0 0 hj
      simp only [sumR]
      have e : (fun k : Nat => (0 : Rat) * 0 + 0 * 0) = fun _ => (0 : Rat) := by funext k; grind
      rw [e] at this
      rw [this]; grind
    | succ m ih =>
      have := det_lin n A j (fun k => sumR (fun t => A k t * x t) m) (fun k => A k m) 1 (x m) hj
      have e : (fun k => sumR (fun t => A k t * x t) (m + 1)) = fun k => 1 * sumR (fun t => A k t * x t) m + x m * A k m := by funext k; simp only [sumR]; grind
      rw [e, this, ih]
      simp only [sumR]; grind
  rw [h1, h2, sumR_one hj fun t ht hne => ?_]
  · rw [setCol_self]
  · rw [det_same hj ht (fun e => hne e.symm) fun k _ => by rw [setCol_at, setCol_ne _ _ _ _ hne]]; grind
structure MM (A : Mx) (n : Nat) : Prop where
  off : ∀ k t, k < n → t < n → k ≠ t → A k t ≤ 0
  col : ∀ t, t < n → 0 < sumR (fun k => A k t) n
def schur (A : Mx) : Mx := fun k t => A (k + 1) (t + 1) - A (k + 1) 0 / A 0 0 * A 0 (t + 1)
theorem sumR_first (f : Nat → Rat) : ∀ n, sumR f (n + 1) = f 0 + sumR (fun k => f (k + 1)) n
  | 0 => by simp only [sumR]; grind
  | n + 1 => by rw [sumR, sumR_first f n]; simp only [sumR]; grind
theorem mm_pivot {A : Mx} {n : Nat} (h : MM A (n + 1)) : 0 < A 0 0 := by
  have h1 := h.col 0 (by omega)
  have h2 := sumR_le (f := fun k => A k 0) (i := 0) (n := n + 1) (by omega) fun k hk hne => h.off k 0 hk (by omega) hne
  grind
theorem mm_schur {A : Mx} {n : Nat} (h : MM A (n + 1)) : MM (schur A) n := by
  have hp := mm_pivot h
  refine ⟨fun k t hk ht hne => ?_, fun t ht => ?_⟩
  · have h1 := h.off (k + 1) (t + 1) (by omega) (by omega) (by omega)
    have h2 := mul_np (div_nonpos (h.off (k + 1) 0 (by omega) (by omega) (by omega)) hp) (h.off 0 (t + 1) (by omega) (by omega) (by omega))
    unfold schur; grind
  · have h1 := h.col (t + 1) (by omega)
    have h2 := h.col 0 (by omega)
    rw [sumR_first] at h1 h2
    have e : sumR (fun k => schur A k t) n = 1 * sumR (fun k => A (k + 1) (t + 1)) n + (-(A 0 (t + 1) / A 0 0)) * sumR (fun k => A (k + 1) 0) n := by
      rw [← sumR_lin]
      exact sumR_congr fun k _ => by unfold schur; grind
    rw [e]
    have h3 := mul_pn (Rat.le_of_lt h2) (div_nonpos (h.off 0 (t + 1) (by omega) (by omega) (by omega)) hp)
    generalize sumR (fun k => A (k + 1) (t + 1)) n = S at *
    generalize sumR (fun k => A (k + 1) 0) n = T at *
    generalize A 0 (t + 1) = a at *
    generalize A 0 0 = p at *
    have h4 : (p + T) * (a / p) = a + a / p * T := by grind
    grind
theorem det_schur {A : Mx} {n : Nat} (hp : A 0 0 ≠ 0) : det (n + 1) A = A 0 0 * det n (schur A) := by
  let B : Nat → Mx := fun m k t => if 1 ≤ t ∧ t < m then A k t - A 0 t / A 0 0 * A k 0 else A k t
  have step : ∀ m, m ≤ n + 1 → det (n + 1) (B m) = det (n + 1) A := by
    intro m hm
    induction m with
    | zero => exact det_congr _ fun k t _ _ => if_neg (by omega)
    | succ m ih =>
      rw [← ih (by omega)]
      by_cases h0 : m = 0
      · subst h0
        exact det_congr _ fun k t _ _ => by
          show (if _ then _ else _) = (if _ then _ else _)
          rw [if_neg (by omega), if_neg (by omega)]
      · rw [← det_add (B m) (c := m) (d := 0) (by omega) (by omega) h0 (-(A 0 m / A 0 0))]
        refine det_congr _ fun k t _ _ => ?_
        show (if _ then _ else _) = setCol _ _ _ _ _
        by_cases ht : t = m
        · subst ht
          rw [if_pos (by omega), setCol_at]
          show _ = (if _ then _ else _) + _ * (if _ then _ else _)
          rw [if_neg (by omega), if_neg (by omega)]
          grind
        · rw [setCol_ne _ _ _ _ ht]
          show _ = (if _ then _ else _)
          by_cases h1 : 1 ≤ t ∧ t < m
          · rw [if_pos (by omega), if_pos h1]
          · rw [if_neg (by omega), if_neg h1]
  rw [← step (n + 1) (Nat.le_refl _)]
  have b0 : ∀ k, B (n + 1) k 0 = A k 0 := fun k => if_neg (by omega)
  have bt : ∀ k t, t < n → B (n + 1) k (t + 1) = A k (t + 1) - A 0 (t + 1) / A 0 0 * A k 0 := fun k t ht => if_pos (by omega)
  show sumR (fun j => sgn j * B (n + 1) 0 j * det n (minor j (B (n + 1)))) (n + 1) = A 0 0 * det n (schur A)
  rw [sumR_one (i := 0) (by omega) fun j hj hne => ?_]
  · rw [b0]
    have : sgn 0 = 1 := rfl
    rw [this, det_congr n (A := minor 0 (B (n + 1))) (B := schur A) fun k t hk ht => ?_]
    · grind
    · unfold minor schur
      rw [if_neg (by omega), bt _ _ ht]
      grind
  · obtain ⟨j, rfl⟩ : ∃ i, j = i + 1 := ⟨j - 1, by omega⟩
    rw [bt 0 j (by omega)]
    have : A 0 (j + 1) - A 0 (j + 1) / A 0 0 * A 0 0 = 0 := by grind
    rw [this]; grind
theorem mm_det : ∀ {n : Nat} {A : Mx}, MM A n → 0 < det n A
  | 0, _, _ => by unfold det; decide
  | n + 1, A, h => by
    have hp := mm_pivot h
    rw [det_schur (by grind)]
    exact Rat.mul_pos hp (mm_det (mm_schur h))
def intB (N : Nat) (r : Rat) : Prop := ∃ z : Int, r = z ∧ z.natAbs ≤ N
theorem intB_mul {N M : Nat} {r s : Rat} (h1 : intB N r) (h2 : intB M s) : intB (N * M) (r * s) := by
  obtain ⟨z, rfl, hz⟩ := h1
  obtain ⟨y, rfl, hy⟩ := h2
  exact ⟨z * y, by rw [Rat.intCast_mul], by rw [Int.natAbs_mul]; exact Nat.mul_le_mul hz hy⟩
theorem intB_add {N M : Nat} {r s : Rat} (h1 : intB N r) (h2 : intB M s) : intB (N + M) (r + s) := by
  obtain ⟨z, rfl, hz⟩ := h1
  obtain ⟨y, rfl, hy⟩ := h2
  exact ⟨z + y, by rw [Rat.intCast_add], by omega⟩
theorem intB_neg {N : Nat} {r : Rat} (h : intB N r) : intB N (-r) := by
  obtain ⟨z, rfl, hz⟩ := h
  exact ⟨-z, by rw [Rat.intCast_neg], by omega⟩
theorem intB_mono {N M : Nat} {r : Rat} (h : intB N r) (hl : N ≤ M) : intB M r := by
  obtain ⟨z, rfl, hz⟩ := h
  exact ⟨z, rfl, by omega⟩
theorem intB_sgn (j : Nat) : intB 1 (sgn j) := by
  unfold sgn
  split
  · exact ⟨1, rfl, by decide⟩
  · exact ⟨-1, rfl, by decide⟩
theorem intB_sum {f : Nat → Rat} {N : Nat} : ∀ {n : Nat}, (∀ k, k < n → intB N (f k)) → intB (n * N) (sumR f n)
  | 0, _ => ⟨0, rfl, by simp⟩
  | n + 1, h => by
    simp only [sumR]
    rw [Nat.add_mul, Nat.one_mul]
    exact intB_add (intB_sum fun k hk => h k (by omega)) (h n (by omega))
def detN : Nat → Nat → Nat
  | 0, _ => 1
  | n + 1, c => (n + 1) * (c * detN n c)
theorem det_int : ∀ {n : Nat} {A : Mx} {c : Nat}, (∀ k t, k < n → t < n → intB c (A k t)) → intB (detN n c) (det n A)
  | 0, _, _, _ => ⟨1, rfl, by simp [detN]⟩
  | n + 1, A, c, h => by
    unfold det detN
    refine intB_sum fun j hj => ?_
    have h1 := intB_mul (intB_mul (intB_sgn j) (h 0 j (by omega) hj)) (det_int (n := n) (A := minor j A) (c := c) fun k t hk ht => by
      unfold minor
      split
      · exact h _ _ (by omega) (by omega)
      · exact h _ _ (by omega) (by omega))
    rw [Nat.one_mul] at h1
    exact h1
end Go.Proofs.YthibhamepjhfjaaGreatDoor

namespace Go.Proofs.YthibhamepjhfjaaGreatDoor
def szB (D N : Nat) (r : Rat) : Prop := 0 < D ∧ intB N (r * ((D : Int) : Rat))
theorem num_den' (r : Rat) : (r.num : Rat) = r * ((r.den : Int) : Rat) := by
  have h := Rat.num_divInt_den r
  rw [Rat.divInt_eq_div] at h
  have hd : (((r.den : Int)) : Rat) ≠ 0 := by
    have := r.den_pos
    intro e
    have : ((r.den : Int) : Rat) = ((0 : Int) : Rat) := e
    have := Rat.intCast_inj.1 this
    omega
  grind
theorem sz_num {D N : Nat} {r : Rat} (h : szB D N r) : r.num.natAbs ≤ N ∧ r.den ≤ D := by
  obtain ⟨hD, z, hz, hN⟩ := h
  have h1 := num_den' r
  have h2 : r.num * (D : Int) = z * (r.den : Int) := by
    have : ((r.num * (D : Int) : Int) : Rat) = ((z * (r.den : Int) : Int) : Rat) := by
      rw [Rat.intCast_mul, Rat.intCast_mul, h1, ← hz]; grind
    exact Rat.intCast_inj.1 this
  have h3 : r.den ∣ r.num.natAbs * D := ⟨z.natAbs, by
    have := congrArg Int.natAbs h2
    rw [Int.natAbs_mul, Int.natAbs_mul] at this
    simp only [Int.natAbs_natCast] at this
    rw [this, Nat.mul_comm]⟩
  have h4 : r.den ∣ D := (Nat.Coprime.symm r.reduced).dvd_of_dvd_mul_left h3
  obtain ⟨c, hc⟩ := h4
  have hdp := r.den_pos
  have hcp : 0 < c := by
    rcases Nat.eq_zero_or_pos c with h0 | h0
    · subst h0; omega
    · exact h0
  have h5 : r.num.natAbs * c = z.natAbs := by
    have := congrArg Int.natAbs h2
    rw [Int.natAbs_mul, Int.natAbs_mul] at this
    simp only [Int.natAbs_natCast] at this
    rw [hc] at this
    have : r.den * (r.num.natAbs * c) = r.den * z.natAbs := by rw [Nat.mul_comm r.den z.natAbs, ← this]; rw [Nat.mul_left_comm]
    exact Nat.eq_of_mul_eq_mul_left hdp this
  refine ⟨?_, ?_⟩
  · have := Nat.mul_le_mul_left r.num.natAbs hcp
    omega
  · rw [hc]; have := Nat.mul_le_mul_left r.den hcp; omega
def bt (k : Nat) (z : Int) : Prop := z.natAbs ≤ 2 ^ k
theorem bt_mono {k m : Nat} {z : Int} (h : bt k z) (hl : k ≤ m) : bt m z := Nat.le_trans h (Nat.pow_le_pow_right (by decide) hl)
theorem bt_mul {k m : Nat} {z y : Int} (h1 : bt k z) (h2 : bt m y) : bt (k + m) (z * y) := by
  unfold bt; rw [Int.natAbs_mul, Nat.pow_add]; exact Nat.mul_le_mul h1 h2
theorem bt_add {k : Nat} {z y : Int} (h1 : bt k z) (h2 : bt k y) : bt (k + 1) (z + y) := by
  unfold bt at *; rw [Nat.pow_succ]; omega
theorem bt_neg {k : Nat} {z : Int} (h : bt k z) : bt k (-z) := by unfold bt at *; omega
theorem bt_zero (k : Nat) : bt k 0 := by unfold bt; simp
def Stg (A : Mx) (n d a c : Nat) : Prop := ∃ D : Nat, 0 < D ∧ D ≤ 2 ^ d ∧ ∀ k, k < n → (∀ t, t < n → intB (2 ^ a) (A k t * ((D : Int) : Rat))) ∧ intB (2 ^ c) (A k n * ((D : Int) : Rat))
theorem stg_step {A : Mx} {n i d a c : Nat} (h : Stg A n d a c) (hi : i < n) (hp : 0 < A i i) : Stg (elimP A i n) n (d + a) (2 * a + 1) (a + c + 1) := by
  obtain ⟨D, hD, hDl, hs⟩ := h
  obtain ⟨p, hpz, hpl⟩ := (hs i hi).1 i hi
  have hDR : (0 : Rat) < ((D : Int) : Rat) := by
    have : ((0 : Int) : Rat) < ((D : Int) : Rat) := Rat.intCast_lt_intCast.2 (by omega)
    exact this
  have hp0 : 0 < p := by
    have : ((0 : Int) : Rat) < (p : Rat) := by rw [← hpz]; exact Rat.mul_pos hp hDR
    exact Rat.intCast_lt_intCast.1 this
  have hpn : ((p.natAbs : Int)) = p := by omega
  have hcast : (((D * p.natAbs : Nat) : Int) : Rat) = ((D : Int) : Rat) * (A i i * ((D : Int) : Rat)) := by
    rw [hpz, Int.natCast_mul, hpn, Rat.intCast_mul]
  have pr : ∀ {x N}, intB (2 ^ N) (x * ((D : Int) : Rat)) → intB (2 ^ (a + N)) (x * (((D * p.natAbs : Nat) : Int) : Rat)) := by
    intro x N hx
    rw [hcast, hpz, Nat.pow_add]
    have := intB_mul (⟨p, rfl, hpl⟩ : intB (2 ^ a) (p : Rat)) hx
    have e : x * (((D : Int) : Rat) * (p : Rat)) = (p : Rat) * (x * ((D : Int) : Rat)) := by grind
    rw [e]; exact this
  have two : ∀ {x y z N}, intB (2 ^ N) (x * ((D : Int) : Rat)) → intB (2 ^ a) (y * ((D : Int) : Rat)) → intB (2 ^ N) (z * ((D : Int) : Rat)) → intB (2 ^ (a + N + 1)) ((x - y / A i i * z) * (((D * p.natAbs : Nat) : Int) : Rat)) := by
    intro x y z N hx hy hz
    have h1 := pr hx
    have h2 := intB_neg (intB_mul hy hz)
    have h3 := intB_add h1 h2
    rw [← Nat.pow_add, ← Nat.two_mul, Nat.mul_comm, ← Nat.pow_succ] at h3
    have e : (x - y / A i i * z) * (((D * p.natAbs : Nat) : Int) : Rat) = x * (((D * p.natAbs : Nat) : Int) : Rat) + -(y * ((D : Int) : Rat) * (z * ((D : Int) : Rat))) := by
      rw [hcast]; grind
    rw [e]; exact h3
  refine ⟨D * p.natAbs, Nat.mul_pos hD (by omega), by rw [Nat.pow_add]; exact Nat.mul_le_mul hDl hpl, fun k hk => ⟨fun t ht => ?_, ?_⟩⟩
  · have hk1 := (hs k hk).1
    have e1 : a + a + 1 = 2 * a + 1 := by omega
    by_cases h : k ≠ i ∧ k < n ∧ i ≤ t
    · rw [elim_at h.2.1 h.1 h.2.2, ← e1]
      exact two (hk1 t ht) (hk1 i hi) ((hs i hi).1 t ht)
    · have : elimP A i n k t = A k t := if_neg h
      rw [this, ← e1]
      exact intB_mono (pr (hk1 t ht)) (Nat.pow_le_pow_right (by decide) (by omega))
  · have hk2 := (hs k hk).2
    by_cases h : k ≠ i ∧ k < n ∧ i ≤ n
    · rw [elim_at h.2.1 h.1 h.2.2]
      exact two hk2 ((hs k hk).1 i hi) (hs i hi).2
    · have : elimP A i n k n = A k n := if_neg h
      rw [this]
      exact intB_mono (pr hk2) (Nat.pow_le_pow_right (by decide) (by omega))
def bD (d a : Nat) : Nat → Nat
  | 0 => d
  | i + 1 => bD d a i + (a + 1) * 2 ^ i - 1
def bA (a i : Nat) : Nat := (a + 1) * 2 ^ i - 1
def bC (a c : Nat) : Nat → Nat
  | 0 => c
  | i + 1 => bA a i + bC a c i + 1
theorem bA_succ (a i : Nat) : bA a (i + 1) = 2 * bA a i + 1 := by
  unfold bA
  rw [Nat.pow_succ]
  have : 0 < (a + 1) * 2 ^ i := Nat.mul_pos (by omega) (Nat.pow_pos (by decide))
  have e : (a + 1) * (2 ^ i * 2) = (a + 1) * 2 ^ i * 2 := by rw [Nat.mul_assoc]
  omega
theorem stg_gj {A : Mx} {n d a c : Nat} (hv : Inv A n 0) (h : Stg A n d a c) : ∀ i, i ≤ n → Stg (gj A n i) n (bD d a i) (bA a i) (bC a c i)
  | 0, _ => by
    have : bA a 0 = a := by simp [bA]
    rw [this]; exact h
  | i + 1, hi => by
    have h1 := stg_step (stg_gj hv h i (by omega)) (by omega) (gj_piv hv (by omega))
    have e : bD d a (i + 1) = bD d a i + bA a i := by
      show bD d a i + (a + 1) * 2 ^ i - 1 = _
      unfold bA
      have : 0 < (a + 1) * 2 ^ i := Nat.mul_pos (by omega) (Nat.pow_pos (by decide))
      omega
    rw [bA_succ, e]
    exact h1
theorem stg_sz {A : Mx} {n d a c k t : Nat} (h : Stg A n d a c) (hac : a ≤ c) (hk : k < n) (ht : t ≤ n) : bt c (A k t).num ∧ bt d (A k t).den ∧ (t < n → bt a (A k t).num) := by
  obtain ⟨D, hD, hDl, hs⟩ := h
  by_cases htn : t < n
  · obtain ⟨h1, h2⟩ := sz_num (D := D) (N := 2 ^ a) (r := A k t) ⟨hD, (hs k hk).1 t htn⟩
    exact ⟨bt_mono (k := a) h1 hac, by unfold bt; simp only [Int.natAbs_natCast]; omega, fun _ => h1⟩
  · have : t = n := by omega
    subst this
    obtain ⟨h1, h2⟩ := sz_num (D := D) (N := 2 ^ c) (r := A k t) ⟨hD, (hs k hk).2⟩
    exact ⟨h1, by unfold bt; simp only [Int.natAbs_natCast]; omega, fun h => absurd h htn⟩
theorem stg_f {A : Mx} {n d a c k t i : Nat} (h : Stg A n d a c) (hac : a ≤ c) (hi : i < n) (hp : 0 < A i i) (hk : k < n) (ht : t ≤ n) :
    bt a (A k i / A i i).num ∧ bt a (A k i / A i i).den ∧ bt (a + c) (A k i / A i i * A i t).num ∧ bt (d + a) (A k i / A i i * A i t).den := by
  obtain ⟨D, hD, hDl, hs⟩ := h
  obtain ⟨p, hpz, hpl⟩ := (hs i hi).1 i hi
  have hDR : (0 : Rat) < ((D : Int) : Rat) := by
    have : ((0 : Int) : Rat) < ((D : Int) : Rat) := Rat.intCast_lt_intCast.2 (by omega)
    exact this
  have hp0 : 0 < p := by
    have : ((0 : Int) : Rat) < (p : Rat) := by rw [← hpz]; exact Rat.mul_pos hp hDR
    exact Rat.intCast_lt_intCast.1 this
  have hpn : ((p.natAbs : Int)) = p := by omega
  have f1 : A k i / A i i * (((p.natAbs : Nat) : Int) : Rat) = A k i * ((D : Int) : Rat) := by rw [hpn, ← hpz]; grind
  have hit : intB (2 ^ c) (A i t * ((D : Int) : Rat)) := by
    by_cases htn : t < n
    · exact intB_mono ((hs i hi).1 t htn) (Nat.pow_le_pow_right (by decide) hac)
    · have : t = n := by omega
      subst this; exact (hs i hi).2
  obtain ⟨h1, h2⟩ := sz_num (D := p.natAbs) (N := 2 ^ a) (r := A k i / A i i) ⟨by omega, by rw [f1]; exact (hs k hk).1 i hi⟩
  obtain ⟨h3, h4⟩ := sz_num (D := p.natAbs * D) (N := 2 ^ (a + c)) (r := A k i / A i i * A i t) ⟨Nat.mul_pos (by omega) hD, by
    rw [Int.natCast_mul, Rat.intCast_mul, Nat.pow_add]
    have e : A k i / A i i * A i t * ((((p.natAbs : Nat) : Int) : Rat) * ((D : Int) : Rat)) = A k i / A i i * (((p.natAbs : Nat) : Int) : Rat) * (A i t * ((D : Int) : Rat)) := by grind
    rw [e, f1]
    exact intB_mul ((hs k hk).1 i hi) hit⟩
  have h5 : p.natAbs * D ≤ 2 ^ (d + a) := by rw [Nat.pow_add, Nat.mul_comm]; exact Nat.mul_le_mul hDl hpl
  exact ⟨h1, by unfold bt; simp only [Int.natAbs_natCast]; omega, h3, by unfold bt; simp only [Int.natAbs_natCast]; omega⟩
end Go.Proofs.YthibhamepjhfjaaGreatDoor

namespace Go.Proofs.YthibhamepjhfjaaGreatDoor
theorem ab_natQ (z : Int) : ab z = (z.natAbs : Int) := by unfold ab; split <;> omega
theorem pow20 (k : Nat) : (1048576 : Nat) ^ k = 2 ^ (20 * k) := by rw [show (1048576 : Nat) = 2 ^ 20 from rfl, ← Nat.pow_mul]
theorem rz_bt {k : Nat} {z : Int} (h : bt k z) (hk : k ≤ 1199) : rz z := by
  unfold rz
  rw [ab_natQ]
  have h1 : ∀ m, k < 20 * m → z.natAbs < 1048576 ^ m := fun m hm => by
    rw [pow20]
    exact Nat.lt_of_le_of_lt h (Nat.pow_lt_pow_right (by decide) hm)
  have h1 := h1 60 (by omega)
  have h2 : ((z.natAbs : Nat) : Int) < (((1048576 : Nat) ^ 60 : Nat) : Int) := Int.ofNat_lt.2 h1
  rw [Int.natCast_pow] at h2
  exact h2
theorem bt_one : bt 0 ((0 : Rat).den) := by show (1 : Nat) ≤ 2 ^ 0; decide
theorem rq_bt {k m : Nat} {r : Rat} (h1 : bt k r.num) (h2 : bt m r.den) (hk : k ≤ 1199) (hm : m ≤ 1199) : rq r := ⟨rz_bt h1 hk, rz_bt h2 hm⟩
theorem okMul_bt {k m k' m' : Nat} {a b : Rat} (h1 : bt k a.num) (h2 : bt m a.den) (h3 : bt k' b.num) (h4 : bt m' b.den) (hk : k + k' ≤ 1199) (hm : m + m' ≤ 1199) : okMul a b := ⟨rz_bt (bt_mul h1 h3) hk, rz_bt (bt_mul h2 h4) hm⟩
theorem okDiv_bt {k m k' m' : Nat} {a b : Rat} (h1 : bt k a.num) (h2 : bt m a.den) (h3 : bt k' b.num) (h4 : bt m' b.den) (hk : k + m' ≤ 1199) (hm : m + k' ≤ 1199) : okDiv a b := ⟨rz_bt (bt_mul h1 h4) hk, rz_bt (bt_mul h2 h3) hm⟩
theorem okAdd_bt {k m k' m' : Nat} {a b : Rat} (h1 : bt k a.num) (h2 : bt m a.den) (h3 : bt k' b.num) (h4 : bt m' b.den) (hk : k + m' ≤ 1198) (hk' : k' + m ≤ 1198) (hm : m + m' ≤ 1199) : okAdd a b := by
  have e1 := bt_mul h1 h4
  have e2 := bt_mul h3 h2
  exact ⟨⟨rz_bt e1 (by omega), rz_bt e2 (by omega), rz_bt (bt_add (bt_mono e1 hk) (bt_mono e2 hk')) (by omega)⟩, rz_bt (bt_mul h2 h4) hm⟩
theorem okSub_bt {k m k' m' : Nat} {a b : Rat} (h1 : bt k a.num) (h2 : bt m a.den) (h3 : bt k' b.num) (h4 : bt m' b.den) (hk : k + m' ≤ 1198) (hk' : k' + m ≤ 1198) (hm : m + m' ≤ 1199) : okSub a b := by
  have e1 := bt_mul h1 h4
  have e2 := bt_mul (bt_neg h3) h2
  exact ⟨⟨rz_bt e1 (by omega), rz_bt e2 (by omega), rz_bt (bt_add (bt_mono e1 hk) (bt_mono e2 hk')) (by omega)⟩, rz_bt (bt_mul h2 h4) hm⟩
structure Fit (A : Mx) (n : Nat) : Prop where
  piv : ∀ i, i < n → gj A n i i i ≠ 0
  ent : ∀ i k t, i ≤ n → k < n → t ≤ n → rq (gj A n i k t)
  div : ∀ i k, i < n → k < n → k ≠ i → okDiv (gj A n i k i) (gj A n i i i)
  mul : ∀ i k t, i < n → k < n → k ≠ i → i ≤ t → t ≤ n → okMul (gj A n i k i / gj A n i i i) (gj A n i i t)
  sub : ∀ i k t, i < n → k < n → k ≠ i → i ≤ t → t ≤ n → okSub (gj A n i k t) (gj A n i k i / gj A n i i i * gj A n i i t)
  fin : ∀ k, k < n → okDiv (gj A n n k n) (gj A n n k k)
  dpos : ∀ k, k < n → gj A n n k k ≠ 0
theorem bts : (∀ i, i ≤ 5 → bD 0 10 i ≤ 336 ∧ bA 10 i ≤ 351 ∧ bC 10 50 i ≤ 391 ∧ bA 10 i ≤ bC 10 50 i) ∧ bD 0 10 6 ≤ 687 ∧ bA 10 6 ≤ 703 ∧ bC 10 50 6 ≤ 743 := by decide
theorem elim_none {A : Mx} {i n : Nat} (h : ∀ k, k < n → k ≠ i → A k i = 0) : elimP A i n = A := by
  funext k t
  by_cases hc : k ≠ i ∧ k < n ∧ i ≤ t
  · rw [elim_at hc.2.1 hc.1 hc.2.2, h k hc.2.1 hc.1]; grind
  · exact if_neg hc
def col6 (A : Mx) (n : Nat) : Prop := n ≤ 6 ∨ n = 7 ∧ (∀ k, k < 6 → A k 6 = 0) ∧ (∀ t, t < 6 → A 6 t = 0)
theorem gj_col6 {A : Mx} (h : ∀ k, k < 6 → A k 6 = 0) (h2 : ∀ t, t < 6 → A 6 t = 0) : ∀ i, i ≤ 6 → (∀ k, k < 6 → gj A 7 i k 6 = 0) ∧ (∀ t, t < 6 → gj A 7 i 6 t = 0)
  | 0, _ => ⟨h, h2⟩
  | i + 1, hi => by
    obtain ⟨h3, h4⟩ := gj_col6 h h2 i (by omega)
    refine ⟨fun k hk => ?_, fun t ht => ?_⟩
    · show elimP (gj A 7 i) i 7 k 6 = 0
      by_cases hc : k ≠ i ∧ k < 7 ∧ i ≤ 6
      · rw [elim_at hc.2.1 hc.1 hc.2.2, h3 k hk, h3 i (by omega)]; grind
      · rw [show elimP (gj A 7 i) i 7 k 6 = gj A 7 i k 6 from if_neg hc]; exact h3 k hk
    · show elimP (gj A 7 i) i 7 6 t = 0
      by_cases hc : 6 ≠ i ∧ 6 < 7 ∧ i ≤ t
      · rw [elim_at hc.2.1 hc.1 hc.2.2, h4 t ht, h4 i (by omega)]; grind
      · rw [show elimP (gj A 7 i) i 7 6 t = gj A 7 i 6 t from if_neg hc]; exact h4 t ht
theorem gj_row6 {A : Mx} (h : ∀ k, k < 6 → A k 6 = 0) (h2 : ∀ t, t < 6 → A 6 t = 0) (t : Nat) : ∀ i, i ≤ 7 → gj A 7 i 6 t = A 6 t
  | 0, _ => rfl
  | i + 1, hi => by
    rw [← gj_row6 h h2 t i (by omega)]
    show elimP (gj A 7 i) i 7 6 t = _
    by_cases hc : 6 ≠ i ∧ 6 < 7 ∧ i ≤ t
    · rw [elim_at hc.2.1 hc.1 hc.2.2, (gj_col6 h h2 i (by omega)).2 i (by omega)]; grind
    · exact if_neg hc
theorem fit_of {A : Mx} {n : Nat} (hv : Inv A n 0) (hs : Stg A n 0 10 50) (h6 : col6 A n) : Fit A n := by
  have hn7 : n ≤ 7 := by rcases h6 with h | h <;> omega
  have hst := stg_gj hv hs
  have hpv : ∀ i, i < n → 0 < gj A n i i i := fun i hi => gj_piv hv hi
  have hzero : ∀ i, 6 ≤ i → i < n → ∀ k, k < n → k ≠ i → gj A n i k i = 0 := fun i h1 h2 k hk hne => by
    rcases h6 with h | ⟨rfl, h3, h4⟩
    · omega
    · have : i = 6 := by omega
      subst this
      exact (gj_col6 h3 h4 6 (by omega)).1 k (by omega)
  have h76 : n = 7 → gj A n 7 = gj A n 6 := fun e => by
    subst e
    exact elim_none fun k hk hne => hzero 6 (by omega) (by omega) k hk hne
  have num : ∀ i k t, i ≤ n → k < n → t ≤ n → bt 743 (gj A n i k t).num ∧ bt 687 (gj A n i k t).den := by
    intro i k t hi hk ht
    have low : ∀ i, i ≤ 6 → i ≤ n → bt 743 (gj A n i k t).num ∧ bt 687 (gj A n i k t).den := fun i hi6 hin => by
      by_cases h5 : i ≤ 5
      · obtain ⟨b1, b2, b3, b4⟩ := bts.1 i h5
        obtain ⟨c1, c2, _⟩ := stg_sz (hst i hin) b4 hk ht
        exact ⟨bt_mono c1 (by omega), bt_mono c2 (by omega)⟩
      · have : i = 6 := by omega
        subst this
        obtain ⟨c1, c2, _⟩ := stg_sz (hst 6 hin) (by decide) hk ht
        exact ⟨bt_mono c1 bts.2.2.2, bt_mono c2 bts.2.1⟩
    by_cases h7 : i ≤ 6
    · exact low i h7 hi
    · have e1 : i = 7 := by omega
      have e2 : n = 7 := by omega
      rw [e1, h76 e2]
      exact low 6 (by omega) (by omega)
  have z0 : ∀ i k, i < n → 6 ≤ i → k < n → k ≠ i → gj A n i k i / gj A n i i i = 0 := fun i k hi h6 hk hne => by
    rw [hzero i h6 hi k hk hne]; grind
  refine ⟨fun i hi => by have := hpv i hi; grind, fun i k t hi hk ht => ?_, fun i k hi hk hne => ?_, fun i k t hi hk hne hit ht => ?_, fun i k t hi hk hne hit ht => ?_, fun k hk => ?_, fun k hk => ?_⟩
  · obtain ⟨c1, c2⟩ := num i k t hi hk ht
    exact rq_bt c1 c2 (by omega) (by omega)
  · by_cases h5 : i ≤ 5
    · obtain ⟨b1, b2, b3, b4⟩ := bts.1 i h5
      obtain ⟨c1, c2, c3⟩ := stg_sz (hst i (by omega)) b4 hk (Nat.le_of_lt hi)
      obtain ⟨d1, d2, d3⟩ := stg_sz (hst i (by omega)) b4 hi (Nat.le_of_lt hi)
      exact okDiv_bt (c3 hi) c2 (d3 hi) d2 (by omega) (by omega)
    · rw [hzero i (by omega) hi k hk hne]
      obtain ⟨c1, c2⟩ := num i i i (by omega) hi (by omega)
      exact okDiv_bt (k := 0) (m := 0) (bt_zero _) bt_one c1 c2 (by omega) (by omega)
  · by_cases h5 : i ≤ 5
    · obtain ⟨b1, b2, b3, b4⟩ := bts.1 i h5
      obtain ⟨c1, c2, c3⟩ := stg_sz (hst i (by omega)) b4 hi ht
      obtain ⟨f1, f2, _, _⟩ := stg_f (t := t) (hst i (by omega)) b4 hi (hpv i hi) hk ht
      exact okMul_bt f1 f2 c1 c2 (by omega) (by omega)
    · rw [z0 i k hi (by omega) hk hne]
      obtain ⟨c1, c2⟩ := num i i t (by omega) hi ht
      exact okMul_bt (k := 0) (m := 0) (bt_zero _) bt_one c1 c2 (by omega) (by omega)
  · by_cases h5 : i ≤ 5
    · obtain ⟨b1, b2, b3, b4⟩ := bts.1 i h5
      obtain ⟨c1, c2, c3⟩ := stg_sz (hst i (by omega)) b4 hk ht
      obtain ⟨_, _, f3, f4⟩ := stg_f (t := t) (hst i (by omega)) b4 hi (hpv i hi) hk ht
      exact okSub_bt c1 c2 f3 f4 (by omega) (by omega) (by omega)
    · rw [z0 i k hi (by omega) hk hne]
      have : (0 : Rat) * gj A n i i t = 0 := by grind
      rw [this]
      obtain ⟨c1, c2⟩ := num i k t (by omega) hk ht
      exact okSub_bt (k' := 0) (m' := 0) c1 c2 (bt_zero _) bt_one (by omega) (by omega) (by omega)
  · obtain ⟨c1, c2⟩ := num n k n (by omega) hk (by omega)
    rw [gj_diag A n k n (by omega)]
    by_cases h5 : k ≤ 5
    · obtain ⟨b1, b2, b3, b4⟩ := bts.1 k h5
      obtain ⟨d1, d2, d3⟩ := stg_sz (hst k (by omega)) b4 hk (Nat.le_of_lt hk)
      exact okDiv_bt c1 c2 (d3 hk) d2 (by omega) (by omega)
    · have e2 : n = 7 := by rcases h6 with h | h <;> omega
      subst e2
      have e1 : k = 6 := by omega
      subst e1
      obtain ⟨_, h3, h4⟩ : 7 = 7 ∧ (∀ k, k < 6 → A k 6 = 0) ∧ (∀ t, t < 6 → A 6 t = 0) := by
        rcases h6 with h | h
        · omega
        · exact h
      rw [gj_row6 h3 h4 6 6 (by omega)]
      obtain ⟨d1, d2, d3⟩ := stg_sz hs (by decide) (k := 6) (t := 6) (by omega) (by omega)
      exact okDiv_bt c1 c2 (d3 (by omega)) d2 (by omega) (by omega)
  · have := (gj_inv hv n (Nat.le_refl _)).dpos k hk hk
    grind
end Go.Proofs.YthibhamepjhfjaaGreatDoor

