import Derived.Test.YtebinaffldlihaaGreatDoorRefX
import Derived.Test.YtebinaffldlihaaGreatDoorBigN
set_option linter.all false
namespace Go.Proofs.YtebinaffldlihaaGreatDoor
open Go.RowKit Go.Ab
attribute [local irreducible] AWP Go.Ab.Sub Means MeansH CallK CallG CallT CallGT CallU
set_option maxHeartbeats 4000000 in
set_option maxRecDepth 20000 in
theorem vH (a : List Int) (ha : okD a) (hla : a.length ≤ 10000) :
    Means false Tryz.prog 86 [il a] (.tup [il (dg (val a / 10)), ii (val a % 10)]) := by
  refine aK false 34 [.tmp 2, .tmp 3] Tryz.func86 rfl rfl rfl (by simp) (by decide) rfl fun X hX => ?_
  (repeat (first | refine aC ?_ | refine a7 ?_ | ((first | refine a8 [0, 2, 3, 4, 5, 6, 14] hX ?_ | refine a6 [0, 2, 3, 4, 5, 6, 14] hX mixed ?_ | refine aD ?_ | refine aA ?_ | refine aB ?_); (simp [go_sem]; (try simp (disch := omega) only [w64, td, tm]); try (refine ⟨by kernel_rfl, ?_⟩)))))
  (repeat refine And.intro (by first | omega | (unfold maxLen; omega) | kernel_rfl | (refine ⟨by first | omega | (unfold maxLen; omega), by first | omega | (unfold maxLen; omega)⟩) | grind) ?_)
  (repeat (first | refine aC ?_ | refine a7 ?_ | ((first | refine a8 [0, 2, 3, 4, 5, 6, 14] hX ?_ | refine a6 [0, 2, 3, 4, 5, 6, 14] hX mixed ?_ | refine aD ?_ | refine aA ?_ | refine aB ?_); (simp [go_sem]; (try simp (disch := omega) only [w64, td, tm]); try (refine ⟨by kernel_rfl, ?_⟩)))))
  have hrl : ((a.length : Int)).toNat = a.length := by omega
  refine aQ (fun x : Nat × List Int × Int => ⟨mkE [(0, il a), (4, .ow 0), (5, ii x.2.2), (6, ii ((x.1 : Int) - 1))], [.row ⟨3, 1, x.2.1.map ii⟩]⟩)
    (fun x => x.1 ≤ a.length ∧ x.2.1.length = a.length ∧ x.2.1.drop x.1 = (shC 10 (a.drop x.1)).1 ∧ x.2.2 = (shC 10 (a.drop x.1)).2) (fun x => x.1) (a.length, List.replicate a.length 0, 0) ?_ ?_ ?_
  · refine aL _ [.old 0 ⟨3, 1, (List.replicate a.length (0 : Int)).map ii⟩] (by simp [go_sem, hrl]) ?_
    simp [go_sem]
  · simp [shC]
  · rintro ⟨n, T, r⟩ ⟨hn, hT, hD, hr⟩
    simp only [] at hn hT hD hr
    cases n with
    | zero =>
      (repeat (first | refine aC ?_ | refine a7 ?_ | ((first | refine a8 [0, 2, 3, 4, 5, 6, 14] hX ?_ | refine a6 [0, 2, 3, 4, 5, 6, 14] hX mixed ?_ | refine aD ?_ | refine aA ?_ | refine aB ?_); (simp [go_sem]; try (refine ⟨by kernel_rfl, ?_⟩)))))
      refine aG (b := false) (by simp [go_sem]) (fun hb => by cases hb) (fun _ => ?_)
      (repeat (first | refine aC ?_ | refine a7 ?_ | ((first | refine a8 [0, 2, 3, 4, 5, 6, 14] hX ?_ | refine a6 [0, 2, 3, 4, 5, 6, 14] hX mixed ?_ | refine aD ?_ | refine aA ?_ | refine aB ?_); (simp [go_sem]; try (refine ⟨by kernel_rfl, ?_⟩)))))
      rw [List.drop_zero, List.drop_zero] at hD
      rw [List.drop_zero] at hr
      subst hD
      have hok := n8 (d := 10) (by decide) a ha
      have hlen := n9 10 a
      obtain ⟨hv1, hv2⟩ := rQ (d := 10) (by decide) a
      rw [hv2] at hr
      subst hr
      rw [← hv1]
      first | refine aE (bX (shC 10 a).1 (by omega) hok) rfl (by simp [go_sem]) rfl ?_ | refine aF (bX (shC 10 a).1 (by omega) hok) rfl (by simp [go_sem]) rfl ?_
      try (simp [go_sem]; try (refine ⟨by kernel_rfl, ?_⟩))
      (repeat (first | refine aC ?_ | refine a7 ?_ | ((first | refine a8 [0, 2, 3, 4, 5, 6, 14] hX ?_ | refine a6 [0, 2, 3, 4, 5, 6, 14] hX mixed ?_ | refine aD ?_ | refine aA ?_ | refine aB ?_); (simp [go_sem]; try (refine ⟨by kernel_rfl, ?_⟩)))))
    | succ n =>
      have h1 : n < a.length := by omega
      have h2 : n < T.length := by omega
      have hx := b7 ha h1
      obtain ⟨_, hs2, hs3⟩ := i6 (d := 10) (by decide) (a.drop (n + 1))
      rw [← hr] at hs2 hs3
      have hsh : shC 10 (a.drop n) = ((r * 1048576 + a[n]) / 10 :: (shC 10 (a.drop (n + 1))).1, (r * 1048576 + a[n]) % 10) := by
        rw [List.drop_eq_getElem_cons h1, shC, ← hr]
      obtain ⟨v, hv⟩ : ∃ v, r * 1048576 + a[n] = v := ⟨_, rfl⟩
      rw [hv] at hsh
      have hw0 := w64 (x := r * 1048576) (by omega) (by omega)
      have hw1 := w64 (x := v) (by omega) (by omega)
      have hw2 := w64 (x := v / 10) (by omega) (by omega)
      have hw3 := w64 (x := v % 10) (by omega) (by omega)
      have hwn := w64 (x := (n : Int) - 1) (by omega) (by omega)
      have hm : v.tmod 10 = v % 10 := Int.tmod_eq_emod_of_nonneg (by omega)
      have hq : v.tdiv 10 = v / 10 := Int.tdiv_eq_ediv_of_nonneg (by omega)
      (repeat (first | refine aC ?_ | refine a7 ?_ | ((first | refine a8 [0, 2, 3, 4, 5, 6, 14] hX ?_ | refine a6 [0, 2, 3, 4, 5, 6, 14] hX mixed ?_ | refine aD ?_ | refine aA ?_ | refine aB ?_); (simp [go_sem]; (try simp (disch := omega) only [w64, td, tm]); try (refine ⟨by kernel_rfl, ?_⟩)))))
      refine aG (b := true) (by simp [go_sem]; try omega) (fun _ => ?_) (fun hb => by cases hb)
      (repeat (first | refine aC ?_ | refine a7 ?_ | ((first | refine a8 [0, 2, 3, 4, 5, 6, 14] hX ?_ | refine a6 [0, 2, 3, 4, 5, 6, 14] hX mixed ?_ | refine aD ?_ | refine aA ?_ | refine aB ?_); (simp [go_sem, h1, h2, hw0, hv, hw1, hq, hw2, hm, hw3, hwn]; try (refine ⟨by kernel_rfl, ?_⟩)))))
      try (repeat (first | refine aC ?_ | refine a7 ?_ | ((first | refine a8 [0, 2, 3, 4, 5, 6, 14] hX ?_ | refine a6 [0, 2, 3, 4, 5, 6, 14] hX mixed ?_ | refine aD ?_ | refine aA ?_ | refine aB ?_); (simp [go_sem, h1, h2, hw0, hv, hw1, hq, hw2, hm, hw3, hwn]; try (refine ⟨by kernel_rfl, ?_⟩)))))
      refine ⟨n, T.set n (v / 10), v % 10, ⟨by omega, by simpa using hT, ?_, ?_⟩, by omega, ?_⟩
      · rw [oZ h2, hD, hsh]
      · rw [hsh]
      · refine aL _ [.old 0 ⟨3, 1, (T.set n (v / 10)).map ii⟩] (by simp [go_sem]) ?_
        simp [go_sem]
theorem wS {r : Nat} (h : r < 10) (S : List UInt8) : ((⟨#[48, 49, 50, 51, 52, 53, 54, 55, 56, 57]⟩ : ByteArray).extract r ((r : Int) + 1).toNat ++ ⟨S.toArray⟩) = ⟨(oo r :: S).toArray⟩ := by
  have h1 : ∀ r < 10, (⟨#[48, 49, 50, 51, 52, 53, 54, 55, 56, 57]⟩ : ByteArray).extract r (r + 1) = ⟨[oo r].toArray⟩ := by decide
  rw [show ((r : Int) + 1).toNat = r + 1 by omega, h1 r h, yL]
  rfl
theorem zC {n : Int} (h : 0 < n) : dn n = dn (n / 10) ++ [oo (n % 10).toNat] := by
  unfold dn
  rw [if_neg (by omega)]
  split
  · rw [cL (by omega), show n % 10 = n by omega]; rfl
  · rw [c5 (by omega)]
    congr 2
    · omega
    · congr 2; omega
theorem zD (z : Int) (hz : z ≠ 0) : txt z = if z < 0 then 45 :: dn (ab z) else dn (ab z) := by
  have : dn (ab z) = dd z.natAbs := by
    unfold dn
    rw [if_neg (by rcases aJ z with h | h | h <;> omega), dO, Int.toNat_natCast]
  rw [this, txt, if_neg hz]
set_option maxHeartbeats 4000000 in
set_option maxRecDepth 20000 in
theorem jG (z : Int) (hz : rz z) : Means false Tryz.prog 56 [bigZ z] (sb (txt z)) := by
  have hlz := bB hz
  have hab := aV z
  have htl := gL hz
  by_cases h0 : z = 0
  · subst h0
    refine aK false 36 [.tmp 2] Tryz.func56 rfl rfl rfl (by simp) (by decide) rfl fun X hX => ?_
    (repeat (first | refine aC ?_ | refine a7 ?_ | ((first | refine a8 [0, 1, 2, 3, 4, 5, 6, 9, 12, 17, 32] hX ?_ | refine a6 [0, 1, 2, 3, 4, 5, 6, 9, 12, 17, 32] hX mixed ?_ | refine aD ?_ | refine aA ?_ | refine aB ?_); (simp [go_sem]; try (refine ⟨by kernel_rfl, ?_⟩)))))
    first | refine aE (aO 0 hz) rfl (by simp [go_sem]) rfl ?_ | refine aF (aO 0 hz) rfl (by simp [go_sem]) rfl ?_
    try (simp [go_sem]; try (refine ⟨by kernel_rfl, ?_⟩))
    refine aG (b := false) (by simp [go_sem]) (fun h => by cases h) (fun _ => ?_)
    (repeat (first | refine aC ?_ | refine a7 ?_ | ((first | refine a8 [0, 1, 2, 3, 4, 5, 6, 9, 12, 17, 32] hX ?_ | refine a6 [0, 1, 2, 3, 4, 5, 6, 9, 12, 17, 32] hX mixed ?_ | refine aD ?_ | refine aA ?_ | refine aB ?_); (simp [go_sem]; try (refine ⟨by kernel_rfl, ?_⟩)))))
    refine aG (b := true) (by simp [go_sem, sg]) (fun _ => ?_) (fun h => by cases h)
    (repeat (first | refine aC ?_ | refine a7 ?_ | ((first | refine a8 [0, 1, 2, 3, 4, 5, 6, 9, 12, 17, 32] hX ?_ | refine a6 [0, 1, 2, 3, 4, 5, 6, 9, 12, 17, 32] hX mixed ?_ | refine aD ?_ | refine aA ?_ | refine aB ?_); (simp [go_sem]; try (refine ⟨by kernel_rfl, ?_⟩)))))
    try rfl
  · have hs0 : sg z ≠ 0 := by rcases aJ z with h | h | h <;> omega
    have hdt := zD z h0
    have hdl : (dn (ab z)).length ≤ 401 := by
      rw [hdt] at htl
      split at htl
      · simp at htl; omega
      · exact htl
    refine aK false 36 [.tmp 2] Tryz.func56 rfl rfl rfl (by simp) (by decide) rfl fun X hX => ?_
    (repeat (first | refine aC ?_ | refine a7 ?_ | ((first | refine a8 [0, 1, 2, 3, 4, 5, 6, 9, 12, 17, 32] hX ?_ | refine a6 [0, 1, 2, 3, 4, 5, 6, 9, 12, 17, 32] hX mixed ?_ | refine aD ?_ | refine aA ?_ | refine aB ?_); (simp [go_sem]; try (refine ⟨by kernel_rfl, ?_⟩)))))
    first | refine aE (aO z hz) rfl (by simp [go_sem]) rfl ?_ | refine aF (aO z hz) rfl (by simp [go_sem]) rfl ?_
    try (simp [go_sem]; try (refine ⟨by kernel_rfl, ?_⟩))
    refine aG (b := false) (by simp [go_sem]) (fun h => by cases h) (fun _ => ?_)
    (repeat (first | refine aC ?_ | refine a7 ?_ | ((first | refine a8 [0, 1, 2, 3, 4, 5, 6, 9, 12, 17, 32] hX ?_ | refine a6 [0, 1, 2, 3, 4, 5, 6, 9, 12, 17, 32] hX mixed ?_ | refine aD ?_ | refine aA ?_ | refine aB ?_); (simp [go_sem]; try (refine ⟨by kernel_rfl, ?_⟩)))))
    refine aG (b := false) (by simp [go_sem, hs0]) (fun h => by cases h) (fun _ => ?_)
    (repeat (first | refine aC ?_ | refine a7 ?_ | ((first | refine a8 [0, 1, 2, 3, 4, 5, 6, 9, 12, 17, 32] hX ?_ | refine a6 [0, 1, 2, 3, 4, 5, 6, 9, 12, 17, 32] hX mixed ?_ | refine aD ?_ | refine aA ?_ | refine aB ?_); (simp [go_sem]; try (refine ⟨by kernel_rfl, ?_⟩)))))
    refine aQ (fun x : Int × List UInt8 => ⟨mkE [(1, .el 0 2 0 0), (3, sb x.2), (4, il (dg x.1))], [.row ⟨24, 2, [bigZ z]⟩]⟩)
      (fun x => 0 ≤ x.1 ∧ (dg x.1).length ≤ 60 ∧ dn x.1 ++ x.2 = dn (ab z)) (fun x => x.1.toNat) (ab z, []) ?_ ?_ ?_
    · refine aL _ [.old 0 ⟨24, 2, [bigZ z]⟩] (by simp [go_sem]) ?_
      simp [go_sem]
    · exact ⟨hab, hlz, by simp⟩
    · rintro ⟨n, S⟩ ⟨hn, hnl, hE⟩
      simp only [] at hn hnl hE
      have hn0 : 0 < (dg n).length ↔ 0 < n := by rw [List.length_pos_iff, Ne, bF]; omega
      have hSl : S.length ≤ 401 := by have := congrArg List.length hE; simp at this; omega
      (repeat (first | refine aC ?_ | refine a7 ?_ | ((first | refine a8 [0, 1, 2, 3, 4, 5, 6, 9, 12, 17, 32] hX ?_ | refine a6 [0, 1, 2, 3, 4, 5, 6, 9, 12, 17, 32] hX mixed ?_ | refine aD ?_ | refine aA ?_ | refine aB ?_); (simp [go_sem]; (try simp (disch := omega) only [w64, td, tm]); try (refine ⟨by kernel_rfl, ?_⟩)))))
      refine aG (b := decide (0 < n)) (by
        simp only [← hn0]
        simp [go_sem]) (fun hd => ?_) (fun hd => ?_)
      · simp only [decide_eq_true_eq] at hd
        have ht := vH (dg n) (aN _) (by omega)
        rw [aU hn] at ht
        have hcut := zC hd
        obtain ⟨r, hr⟩ : ∃ r : Nat, n % 10 = (r : Int) ∧ r < 10 := ⟨(n % 10).toNat, by omega, by omega⟩
        rw [hr.1] at ht hcut
        rw [Int.toNat_natCast] at hcut
        have hdq : n / 10 ≤ n := by omega
        have hlq := Nat.le_trans (aW hdq) hnl
        (repeat (first | refine aC ?_ | refine a7 ?_ | ((first | refine a8 [0, 1, 2, 3, 4, 5, 6, 9, 12, 17, 32] hX ?_ | refine a6 [0, 1, 2, 3, 4, 5, 6, 9, 12, 17, 32] hX mixed ?_ | refine aD ?_ | refine aA ?_ | refine aB ?_); (simp [go_sem]; (try simp (disch := omega) only [w64, td, tm]); try (refine ⟨by kernel_rfl, ?_⟩)))))
        first | refine aE (ht) rfl (by simp [go_sem]) rfl ?_ | refine aF (ht) rfl (by simp [go_sem]) rfl ?_
        try (simp [go_sem]; try (refine ⟨by kernel_rfl, ?_⟩))
        (repeat (first | refine aC ?_ | refine a7 ?_ | ((first | refine a8 [0, 1, 2, 3, 4, 5, 6, 9, 12, 17, 32] hX ?_ | refine a6 [0, 1, 2, 3, 4, 5, 6, 9, 12, 17, 32] hX mixed ?_ | refine aD ?_ | refine aA ?_ | refine aB ?_); (simp [go_sem]; (try simp (disch := omega) only [w64, td, tm]); try (refine ⟨by kernel_rfl, ?_⟩)))))
        refine ⟨⟨by omega, by omega⟩, by unfold maxLen; omega, ?_⟩
        rw [wS hr.2]
        (repeat (first | refine aC ?_ | refine a7 ?_ | ((first | refine a8 [0, 1, 2, 3, 4, 5, 6, 9, 12, 17, 32] hX ?_ | refine a6 [0, 1, 2, 3, 4, 5, 6, 9, 12, 17, 32] hX mixed ?_ | refine aD ?_ | refine aA ?_ | refine aB ?_); (simp [go_sem]; (try simp (disch := omega) only [w64, td, tm]); try (refine ⟨by kernel_rfl, ?_⟩)))))
        refine ⟨n / 10, oo r :: S, ⟨by omega, hlq, by rw [← hE, hcut]; simp⟩, by omega, ?_⟩
        refine aL _ [.old 0 ⟨24, 2, [bigZ z]⟩] (by simp [go_sem]) ?_
        simp [go_sem]
      · have hn00 : n = 0 := by have := of_decide_eq_false hd; omega
        subst hn00
        have hdn0 : dn 0 = [] := rfl
        rw [hdn0, List.nil_append] at hE
        subst hE
        by_cases hneg : z < 0
        · rw [if_pos hneg] at hdt
          have hsg : sg z < 0 := by rcases aJ z with h | h | h <;> omega
          rw [hdt]
          (repeat (first | refine aC ?_ | refine a7 ?_ | ((first | refine a8 [0, 1, 2, 3, 4, 5, 6, 9, 12, 17, 32] hX ?_ | refine a6 [0, 1, 2, 3, 4, 5, 6, 9, 12, 17, 32] hX mixed ?_ | refine aD ?_ | refine aA ?_ | refine aB ?_); (simp [go_sem]; try (refine ⟨by kernel_rfl, ?_⟩)))))
          refine aG (b := true) (by simp [go_sem, hsg]) (fun _ => ?_) (fun h => by cases h)
          (repeat (first | refine aC ?_ | refine a7 ?_ | ((first | refine a8 [0, 1, 2, 3, 4, 5, 6, 9, 12, 17, 32] hX ?_ | refine a6 [0, 1, 2, 3, 4, 5, 6, 9, 12, 17, 32] hX mixed ?_ | refine aD ?_ | refine aA ?_ | refine aB ?_); (simp [go_sem]; (try simp (disch := omega) only [w64, td, tm]); try (refine ⟨by kernel_rfl, ?_⟩)))))
          refine ⟨by unfold maxLen; omega, ?_⟩
          (repeat (first | refine aC ?_ | refine a7 ?_ | ((first | refine a8 [0, 1, 2, 3, 4, 5, 6, 9, 12, 17, 32] hX ?_ | refine a6 [0, 1, 2, 3, 4, 5, 6, 9, 12, 17, 32] hX mixed ?_ | refine aD ?_ | refine aA ?_ | refine aB ?_); (simp [go_sem]; try (refine ⟨by kernel_rfl, ?_⟩)))))
        · rw [if_neg hneg] at hdt
          have hsg : ¬ sg z < 0 := by rcases aJ z with h | h | h <;> omega
          rw [hdt]
          (repeat (first | refine aC ?_ | refine a7 ?_ | ((first | refine a8 [0, 1, 2, 3, 4, 5, 6, 9, 12, 17, 32] hX ?_ | refine a6 [0, 1, 2, 3, 4, 5, 6, 9, 12, 17, 32] hX mixed ?_ | refine aD ?_ | refine aA ?_ | refine aB ?_); (simp [go_sem]; try (refine ⟨by kernel_rfl, ?_⟩)))))
          refine aG (b := false) (by simp [go_sem]; omega) (fun h => by cases h) (fun _ => ?_)
          (repeat (first | refine aC ?_ | refine a7 ?_ | ((first | refine a8 [0, 1, 2, 3, 4, 5, 6, 9, 12, 17, 32] hX ?_ | refine a6 [0, 1, 2, 3, 4, 5, 6, 9, 12, 17, 32] hX mixed ?_ | refine aD ?_ | refine aA ?_ | refine aB ?_); (simp [go_sem]; try (refine ⟨by kernel_rfl, ?_⟩)))))
end Go.Proofs.YtebinaffldlihaaGreatDoor
