import Derived.Test.YtebinaffldlihaaGreatDoorBigB
set_option linter.all false
namespace Go.Proofs.YtebinaffldlihaaGreatDoor
open Go.RowKit Go.Ab
attribute [local irreducible] AWP Go.Ab.Sub Means MeansH CallK CallG CallT CallGT
theorem oZ {T : List Int} {i : Nat} (h : i < T.length) (x : Int) : (T.set i x).drop i = x :: T.drop (i + 1) := by
  rw [List.drop_eq_getElem_cons (by simpa using h), bP]
  simp
set_option maxHeartbeats 4000000 in
set_option maxRecDepth 20000 in
theorem j5 (a : List Int) (d : Int) (ha : okD a) (hla : a.length ≤ 10000) (hd0 : 0 < d) (hd1 : d < 8000000) :
    Means true Tryz.prog 81 [il a, ii d] (.tup [il (dg (val a / d)), ii (val a % d)]) := by
  refine aK true 38 [.tmp 4, .tmp 5] Tryz.func81 rfl rfl rfl (by simp) (by decide) rfl fun X hX => ?_
  (repeat (first | refine aC ?_ | refine a7 ?_ | ((first | refine a8 [0, 1, 4, 5, 6, 7, 8, 16] hX ?_ | refine a6 [0, 1, 4, 5, 6, 7, 8, 16] hX mixed ?_ | refine aD ?_ | refine aA ?_ | refine aB ?_); (simp [go_sem]; (try simp (disch := omega) only [w64, td, tm]); try (refine ⟨by kernel_rfl, ?_⟩)))))
  (repeat refine And.intro (by first | omega | (unfold maxLen; omega) | kernel_rfl | (refine ⟨by first | omega | (unfold maxLen; omega), by first | omega | (unfold maxLen; omega)⟩) | grind) ?_)
  (repeat (first | refine aC ?_ | refine a7 ?_ | ((first | refine a8 [0, 1, 4, 5, 6, 7, 8, 16] hX ?_ | refine a6 [0, 1, 4, 5, 6, 7, 8, 16] hX mixed ?_ | refine aD ?_ | refine aA ?_ | refine aB ?_); (simp [go_sem]; (try simp (disch := omega) only [w64, td, tm]); try (refine ⟨by kernel_rfl, ?_⟩)))))
  have hrl : ((a.length : Int)).toNat = a.length := by omega
  refine aQ (fun x : Nat × List Int × Int => ⟨mkE [(0, il a), (1, ii d), (6, .ow 0), (7, ii x.2.2), (8, ii ((x.1 : Int) - 1))], [.row ⟨3, 1, x.2.1.map ii⟩]⟩)
    (fun x => x.1 ≤ a.length ∧ x.2.1.length = a.length ∧ x.2.1.drop x.1 = (shC d (a.drop x.1)).1 ∧ x.2.2 = (shC d (a.drop x.1)).2) (fun x => x.1) (a.length, List.replicate a.length 0, 0) ?_ ?_ ?_
  · refine aL _ [.old 0 ⟨3, 1, (List.replicate a.length (0 : Int)).map ii⟩] (by simp [go_sem, hrl]) ?_
    simp [go_sem]
  · simp [shC]
  · rintro ⟨n, T, r⟩ ⟨hn, hT, hD, hr⟩
    simp only [] at hn hT hD hr
    cases n with
    | zero =>
      (repeat (first | refine aC ?_ | refine a7 ?_ | ((first | refine a8 [0, 1, 4, 5, 6, 7, 8, 16] hX ?_ | refine a6 [0, 1, 4, 5, 6, 7, 8, 16] hX mixed ?_ | refine aD ?_ | refine aA ?_ | refine aB ?_); (simp [go_sem]; try (refine ⟨by kernel_rfl, ?_⟩)))))
      refine aG (b := false) (by simp [go_sem]) (fun hb => by cases hb) (fun _ => ?_)
      (repeat (first | refine aC ?_ | refine a7 ?_ | ((first | refine a8 [0, 1, 4, 5, 6, 7, 8, 16] hX ?_ | refine a6 [0, 1, 4, 5, 6, 7, 8, 16] hX mixed ?_ | refine aD ?_ | refine aA ?_ | refine aB ?_); (simp [go_sem]; try (refine ⟨by kernel_rfl, ?_⟩)))))
      rw [List.drop_zero, List.drop_zero] at hD
      rw [List.drop_zero] at hr
      subst hD
      have hok := n8 hd0 a ha
      have hlen := n9 d a
      obtain ⟨hv1, hv2⟩ := rQ hd0 a
      have hdt : (dg (val (shC d a).1)).length ≤ a.length := by have := (c9 hok).2; omega
      rw [hv2] at hr
      subst hr
      first | refine b9 [0] (bG (shC d a).1 (by omega) hok) (by simp [go_sem]) ?_ | refine b6 [0] (bG (shC d a).1 (by omega) hok) (by simp [go_sem]) ?_ | refine b4 [0] (bG (shC d a).1 (by omega) hok) (by simp [go_sem]) ?_
      try (simp [go_sem, hlen, hdt]; try (refine ⟨by kernel_rfl, ?_⟩))
      (repeat (first | refine aC ?_ | refine a7 ?_ | ((first | refine a8 [0, 1, 4, 5, 6, 7, 8, 16] hX ?_ | refine a6 [0, 1, 4, 5, 6, 7, 8, 16] hX mixed ?_ | refine aD ?_ | refine aA ?_ | refine aB ?_); (simp [go_sem, hlen, hdt]; try (refine ⟨by kernel_rfl, ?_⟩)))))
      rw [iR hok, hv1]
    | succ n =>
      have h1 : n < a.length := by omega
      have h2 : n < T.length := by omega
      have hx := b7 ha h1
      obtain ⟨_, hs2, hs3⟩ := i6 hd0 (a.drop (n + 1))
      rw [← hr] at hs2 hs3
      have hor := pQ (r := r) (a := a[n]) hs2 (by omega) hx.1 hx.2
      (repeat (first | refine aC ?_ | refine a7 ?_ | ((first | refine a8 [0, 1, 4, 5, 6, 7, 8, 16] hX ?_ | refine a6 [0, 1, 4, 5, 6, 7, 8, 16] hX mixed ?_ | refine aD ?_ | refine aA ?_ | refine aB ?_); (simp [go_sem]; (try simp (disch := omega) only [w64, td, tm]); try (refine ⟨by kernel_rfl, ?_⟩)))))
      refine aG (b := true) (by simp [go_sem]; try omega) (fun _ => ?_) (fun hb => by cases hb)
      have hsh : shC d (a.drop n) = ((r * 1048576 + a[n]) / d :: (shC d (a.drop (n + 1))).1, (r * 1048576 + a[n]) % d) := by
        rw [List.drop_eq_getElem_cons h1, shC, ← hr]
      have hqo := n8 hd0 (a.drop n) (bH ha n)
      rw [hsh, aS] at hqo
      have hw := w64 (x := (r * 1048576 + a[n]) / d) (by omega) (by omega)
      have hdn : ¬ d = 0 := by omega
      (repeat (first | refine aC ?_ | refine a7 ?_ | ((first | refine a8 [0, 1, 4, 5, 6, 7, 8, 16] hX ?_ | refine a6 [0, 1, 4, 5, 6, 7, 8, 16] hX mixed ?_ | refine aD ?_ | refine aA ?_ | refine aB ?_); (simp [go_sem, h1, h2, hor]; (try simp (disch := omega) only [w64, td, tm]); try (refine ⟨by kernel_rfl, ?_⟩)))))
      refine ⟨hdn, ?_⟩
      try (simp [go_sem, hw]; try (refine ⟨by kernel_rfl, ?_⟩))
      (repeat (first | refine aC ?_ | refine a7 ?_ | ((first | refine a8 [0, 1, 4, 5, 6, 7, 8, 16] hX ?_ | refine a6 [0, 1, 4, 5, 6, 7, 8, 16] hX mixed ?_ | refine aD ?_ | refine aA ?_ | refine aB ?_); (simp [go_sem]; (try simp (disch := omega) only [w64, td, tm]); try (refine ⟨by kernel_rfl, ?_⟩)))))
      refine ⟨hdn, ?_⟩
      (repeat (first | refine aC ?_ | refine a7 ?_ | ((first | refine a8 [0, 1, 4, 5, 6, 7, 8, 16] hX ?_ | refine a6 [0, 1, 4, 5, 6, 7, 8, 16] hX mixed ?_ | refine aD ?_ | refine aA ?_ | refine aB ?_); (simp [go_sem]; (try simp (disch := omega) only [w64, td, tm]); try (refine ⟨by kernel_rfl, ?_⟩)))))
      refine ⟨n, T.set n ((r * 1048576 + a[n]) / d), (r * 1048576 + a[n]) % d, ⟨by omega, by simpa using hT, ?_, ?_⟩, by omega, ?_⟩
      · rw [oZ h2, hD, hsh]
      · rw [hsh]
      · refine aL _ [.old 0 ⟨3, 1, (T.set n ((r * 1048576 + a[n]) / d)).map ii⟩] (by simp [go_sem]) ?_
        simp [go_sem]
end Go.Proofs.YtebinaffldlihaaGreatDoor
