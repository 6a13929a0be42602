/-
  Lemmas for the statement at the top.
-/
import Derived.Test.YtndiamkmcoghdaaYaP12
import Derived.Test.YtndiamkmcoghdaaYaFw5
import Derived.Test.YtndiamkmcoghdaaRows
set_option linter.all false
namespace Go.Proofs.Ytndiamkmcoghdaa
open Go.RowKit Go.Ab
theorem okEs_app2 {HS : List Src} {H : List Cell} : ∀ {A B C D : List AV}, okEs HS H A B → okEs HS H C D → okEs HS H (A ++ C) (B ++ D)
  | [], [], _, _, _, h' => h'
  | [], _ :: _, _, _, h, _ => h.elim
  | _ :: _, [], _, _, h, _ => h.elim
  | _ :: _, _ :: _, _, _, h, h' => ⟨h.1, okEs_app2 h.2 h'⟩
def slN (X : List AV) : Prop := ∀ e ∈ X, (∃ es, e = .sl es) ∨ e = .nil
theorem okEs_id {HS : List Src} {H : List Cell} : ∀ {X : List AV}, slN X → okEs HS H X X
  | [], _ => trivial
  | e :: X, h => by
    refine ⟨?_, okEs_id fun x hx => h x (by simp [hx])⟩
    rcases h e (by simp) with ⟨es, rfl⟩ | rfl
    · exact .inl rfl
    · rfl
theorem okEs_fo {HS : List Src} {H : List Cell} : ∀ (L : List Fd), okEs HS H (L.map fo) (L.map fo)
  | [] => trivial
  | f :: L => ⟨⟨rfl, rfl, rfl, .inl rfl, .inl rfl, trivial⟩, okEs_fo L⟩
theorem okEs_out {HS : List Src} {H : List Cell} (L : List Fd) (f : Fd) (hc : f.claims = []) : okEs HS H (L.map fo ++ [.agg [ii f.holds, ii f.reserve, ii f.income, .nil, il f.cedes]]) (L.map fo ++ [fo f]) :=
  okEs_app2 (okEs_fo L) ⟨⟨rfl, rfl, rfl, .inr (.inl ⟨rfl, by simp [awl, hc]⟩), .inl rfl, trivial⟩, trivial⟩
def rowA (F : List Fd) (G : List Int) (n i : Nat) (x : AV) : List AV := (awAll F G i).map awl ++ x :: List.replicate (n - i - 1) .nil
def rowB (F : List Fd) (G : List Int) (n i : Nat) : List AV := (awAll F G i).map awl ++ List.replicate (n - i) .nil
variable {F : List Fd} {G : List Int} {n i : Nat}
theorem rowA_len (x : AV) (h : i < n) : (rowA F G n i x).length = n := by simp [rowA]; omega
theorem rowA_nth (x : AV) : nth (rowA F G n i x) i = x := nth_end (by simp)
theorem rowA_set (x y : AV) : (rowA F G n i x).set i y = rowA F G n i y := by
  unfold rowA
  rw [List.set_append_right _ _ (by simp)]
  simp
theorem rowB_A (h : i < n) : rowB F G n i = rowA F G n i .nil := by
  unfold rowB rowA
  rw [show n - i = (n - i - 1) + 1 by omega, List.replicate_succ]; rfl
theorem rowA_B (h : i < F.length) : rowA F G n i (awl (awK F G i F[i].claims.length)) = rowB F G n (i + 1) := by
  unfold rowB rowA
  rw [awAll_next h, List.map_append, List.map_cons, List.map_nil, List.append_assoc, show n - (i + 1) = n - i - 1 by omega]; rfl
theorem rowB_0 : rowB F G n 0 = List.replicate n .nil := by simp [rowB, awAll]
theorem rowB_n : rowB F G n n = (awAll F G n).map awl := by simp [rowB]
theorem slN_aw (L : List (List (Int × Int))) : slN (L.map awl) := fun e he => by
  obtain ⟨l, _, rfl⟩ := List.mem_map.1 he
  exact .inl ⟨_, rfl⟩
theorem slN_nil (k : Nat) : slN (List.replicate k .nil) := fun e he => .inr (List.eq_of_mem_replicate he)
theorem okEs_A {HS : List Src} {H : List Cell} {x y : AV} (h : okF HS H x y) : okEs HS H (rowA F G n i x) (rowA F G n i y) :=
  okEs_app2 (okEs_id (slN_aw _)) ⟨h, okEs_id (slN_nil _)⟩
theorem zone_awl (L : List (List (Int × Int))) : zoneEs (L.map awl) = true := zoneEs_map _ _ fun _ => rfl
theorem zone_cl (L : List (Int × Int)) : zoneEs (L.map cl) = true := zoneEs_map _ _ fun _ => rfl
theorem zone_fo (L : List Fd) : zoneEs (L.map fo) = true := zoneEs_map _ _ fun _ => rfl
def restG (G : List Int) (m : Nat) : List Int := G.drop m
theorem restG_0 (G : List Int) : restG G 0 = G := rfl
theorem restG_len (G : List Int) (m : Nat) : (restG G m).length = G.length - m := by simp [restG]
theorem restG_hd {m : Nat} (h : m < G.length) : nth ((restG G m).map ii) 0 = ii G[m] := by
  unfold restG; rw [List.drop_eq_getElem_cons h]; rfl
theorem restG_tl (G : List Int) (m : Nat) : ((restG G m).map ii).tail = (restG G (m + 1)).map ii := by
  unfold restG; rw [← List.map_tail, List.tail_drop]
theorem pay_bd {f : Fd} {q : Int} (h1 : 0 ≤ f.holds ∧ f.holds ≤ 1099511627776) (h2 : 0 ≤ f.reserve ∧ f.reserve ≤ 1099511627776) (h3 : 0 ≤ f.income ∧ f.income ≤ 1099511627776) (hq : 0 ≤ q) : 0 ≤ payV f q ∧ payV f q ≤ 3298534883328 ∧ payV f q ≤ q := by
  simp only [payV, freeV]; omega
theorem paid_bd {o : List Int} (hv : RV F) (ho : o.length = F.length) (hq : ∀ x ∈ o, 0 ≤ x) : ∀ k, k ≤ F.length → 0 ≤ paidK F o k ∧ paidK F o k ≤ 3298534883328 * k
  | 0, _ => by simp [paidK, sumI]
  | k + 1, hk => by
    have hk' : k < F.length := by omega
    rw [paidK_next hk' (by omega)]
    have := paid_bd hv ho hq k (by omega)
    have h := hv.at' k hk'
    have := pay_bd h.hol h.res h.inc (hq o[k] (List.getElem_mem (by omega)))
    omega
theorem asks_mem (hv : RV F) {x : Int} {k : Nat} (hx : x ∈ asksK F k) : 0 ≤ x ∧ x ≤ 1099511627776 := by
  obtain ⟨f, hf, h⟩ := List.mem_flatMap.1 hx
  obtain ⟨i, hi, rfl⟩ := List.getElem_of_mem (List.mem_of_mem_take hf)
  exact okCl_mem (hv.at' i hi).cla h
theorem asks_ok (hv : RV F) (k : Nat) : okC' (asksK F k) = true := List.all_eq_true.2 fun x hx => by
  have := asks_mem hv hx
  simp [inC, this.1, this.2]
noncomputable def gets (F : List Fd) : List Int := share (asksK F F.length) (paidK F (owedL F) F.length)
attribute [-simp] List.map_take
attribute [local irreducible] AWP Go.Ab.Sub Means MeansH CallK CallG CallT CallGT CallU
set_option maxHeartbeats 8000000 in
set_option maxRecDepth 20000 in
theorem year_m (F : List Fd) (hf : fewV F = true) (hr : rightV F = true) : Means false Try.prog 11 [.sl (F.map fo)] (.tup [.sl ((outK F (owedL F) F.length).map fo), .sl ((awAll F (gets F) F.length).map awl), ii 0]) := by
  have h5 := few_5 hf
  have hv := rv_of hr
  have c1 := owed_m F hf hr
  have hc := owned hv h5
  have hoL := ownL_len F
  have hol : (owedL F).length = F.length := by have := hc.len; unfold owedL; omega
  have hob : ∀ x ∈ owedL F, 0 ≤ x ∧ x ≤ 6597069766657 := hc.bd
  have hpb := paid_bd hv hol fun x hx => (hob x hx).1
  have ham := many_bd hf F.length (Nat.le_refl _)
  have hal : (asksK F F.length).length ≤ 40 := by rw [asksK_len F F.length (Nat.le_refl _)]; omega
  have hpn := hpb F.length (Nat.le_refl _)
  have hok : okC' (asksK F F.length) = true := asks_ok hv _
  have hrc : rightC (asksK F F.length) (paidK F (owedL F) F.length) = true := by
    simp only [rightC, hok, okH, Bool.true_and, Bool.and_eq_true, decide_eq_true_eq]
    omega
  have c2 := share_m (asksK F F.length) (by omega) (paidK F (owedL F) F.length)
  rw [if_pos hrc, if_pos hrc] at c2
  have hGl : (gets F).length = (asksK F F.length).length := share_len hok hpn.1
  have hG : share (asksK F F.length) (paidK F (owedL F) F.length) = gets F := rfl
  rw [hG] at c2
  generalize gets F = G at *
  generalize owedL F = o at *
  have hak := asksK_len F
  refine means_fn false 135 [.tmp 2, .tmp 3, .tmp 4] Try.func11 rfl rfl rfl (by simp) (by decide) rfl fun X hX => ?_
  (repeat (refine awp_stepG [0, 2, 3, 4, 5, 6, 7, 8, 9, 10, 11, 12, 13, 15, 16, 17, 18, 19, 21, 28, 30, 31, 32, 33, 75, 76, 77, 78, 95, 100, 101, 102, 103, 108, 109, 110, 111] hX mixed rfl ?_; (simp [go_sem]; try (refine ⟨by kernel_rfl, ?_⟩))))
  first | refine callKa (c1) ?_ | refine callTa (c1) ?_
  try (simp [go_sem]; try (refine ⟨by kernel_rfl, ?_⟩))
  (repeat (refine awp_stepG [0, 2, 3, 4, 5, 6, 7, 8, 9, 10, 11, 12, 13, 15, 16, 17, 18, 19, 21, 28, 30, 31, 32, 33, 75, 76, 77, 78, 95, 100, 101, 102, 103, 108, 109, 110, 111] hX mixed rfl ?_; (simp [go_sem]; try (refine ⟨by kernel_rfl, ?_⟩))))
  refine awp_cond (b := false) (by simp [go_sem]) (fun h => by cases h) (fun _ => ?_)
  (repeat (refine awp_stepG [0, 2, 3, 4, 5, 6, 7, 8, 9, 10, 11, 12, 13, 15, 16, 17, 18, 19, 21, 28, 30, 31, 32, 33, 75, 76, 77, 78, 95, 100, 101, 102, 103, 108, 109, 110, 111] hX mixed rfl ?_; (simp [go_sem]; try (refine ⟨by kernel_rfl, ?_⟩))))
  refine awp_loop (fun k : Nat => ⟨mkE [(0, .sl (F.map fo)), (5, il o), (7, .ow 0), (8, .ow 1), (9, ii (paidK F o k)), (30, .sl (F.map fo)), (31, ii F.length), (32, ii k)], [.row ⟨36, 5, (outK F o k).map fo⟩, .row ⟨3, 1, (asksK F k).map ii⟩]⟩) (fun k => k ≤ F.length) (fun k => F.length - k) 0 ?_ ?_ ?_
  · refine sub_of _ [.birth 36 5, .birth 3 1] (by simp [go_sem]) ?_
    simp [go_sem, outK, asksK, paidK, sumI]
  · omega
  · intro k hk
    have hpk := hpb k hk
    have hmk := many_bd hf k hk
    have hakl := hak k hk
    (repeat (refine awp_stepG [0, 2, 3, 4, 5, 6, 7, 8, 9, 10, 11, 12, 13, 15, 16, 17, 18, 19, 21, 28, 30, 31, 32, 33, 75, 76, 77, 78, 95, 100, 101, 102, 103, 108, 109, 110, 111] hX mixed rfl ?_; (simp [go_sem]; try (refine ⟨by kernel_rfl, ?_⟩))))
    refine awp_cond (b := decide (k < F.length)) (by simp [go_sem]) (fun hb => ?_) (fun hb => ?_)
    · simp at hb
      have hko : k < o.length := by omega
      have hcl := few_at hf (List.getElem_mem hb)
      have hat := hv.at' k hb
      have e1 := outK_next (o := o) hb hko
      have e2 := paidK_next (o := o) hb hko
      have e3 := asksK_next hb
      have hpk1 := hpb (k + 1) (by omega)
      have hq := hob o[k] (List.getElem_mem hko)
      have hpp := pay_bd hat.hol hat.res hat.inc hq.1
      have hw1 := w64 (x := F[k].income + F[k].holds) (by have := hat.inc; have := hat.hol; omega) (by have := hat.inc; have := hat.hol; omega)
      have hw2 := w64 (x := F[k].income + F[k].holds + F[k].reserve) (by have := hat.inc; have := hat.hol; have := hat.res; omega) (by have := hat.inc; have := hat.hol; have := hat.res; omega)
      simp only [payV, freeV] at hpp e2
      have hw3 := w64 (x := paidK F o k + min o[k] (F[k].income + F[k].holds + F[k].reserve)) (by omega) (by omega)
      have hw4 := w64 (x := F[k].income + F[k].holds - min o[k] (min (F[k].income + F[k].holds + F[k].reserve) (F[k].income + F[k].holds))) (by have := hat.inc; have := hat.hol; have := hat.res; omega) (by have := hat.inc; have := hat.hol; have := hat.res; omega)
      have hw5 := w64 (x := min o[k] (F[k].income + F[k].holds + F[k].reserve) - min o[k] (min (F[k].income + F[k].holds + F[k].reserve) (F[k].income + F[k].holds))) (by have := hat.inc; have := hat.hol; have := hat.res; omega) (by have := hat.inc; have := hat.hol; have := hat.res; omega)
      have hw6 := w64 (x := F[k].reserve - (min o[k] (F[k].income + F[k].holds + F[k].reserve) - min o[k] (min (F[k].income + F[k].holds + F[k].reserve) (F[k].income + F[k].holds)))) (by have := hat.inc; have := hat.hol; have := hat.res; omega) (by have := hat.inc; have := hat.hol; have := hat.res; omega)
      have hk4 := outK_len F o k
      have hcla := hat.cla
      have hced := hat.len
      (repeat (refine awp_stepG [0, 2, 3, 4, 5, 6, 7, 8, 9, 10, 11, 12, 13, 15, 16, 17, 18, 19, 21, 28, 30, 31, 32, 33, 75, 76, 77, 78, 95, 100, 101, 102, 103, 108, 109, 110, 111] hX mixed rfl ?_; (simp [go_sem, hb, hko, hw1, hw2, hw3]; try (refine ⟨by kernel_rfl, ?_⟩))))
      first | refine callKa (clone_m F[k].cedes (by omega)) ?_ | refine callTa (clone_m F[k].cedes (by omega)) ?_
      try (simp [go_sem, hw4, hw5, hw6, hk4]; try (refine ⟨by kernel_rfl, ?_⟩))
      (repeat refine And.intro (by first | omega | (unfold maxLen; omega) | kernel_rfl | (refine ⟨by first | omega | (unfold maxLen; omega), by first | omega | (unfold maxLen; omega)⟩) | grind) ?_)
      (repeat (refine awp_stepG [0, 2, 3, 4, 5, 6, 7, 8, 9, 10, 11, 12, 13, 15, 16, 17, 18, 19, 21, 28, 30, 31, 32, 33, 75, 76, 77, 78, 95, 100, 101, 102, 103, 108, 109, 110, 111] hX mixed rfl ?_; (simp [go_sem, hw4, hw5, hw6, hk4]; try (refine ⟨by kernel_rfl, ?_⟩))))
      refine awp_loop (fun j : Nat => ⟨mkE [(0, .sl (F.map fo)), (5, il o), (7, .ow 0), (8, .ow 1), (9, ii (paidK F o (k + 1))), (30, .sl (F.map fo)), (31, ii F.length), (32, ii k), (75, awl F[k].claims), (76, ii F[k].claims.length), (77, ii j)], [.row ⟨36, 5, (outK F o (k + 1)).map fo⟩, .row ⟨3, 1, (asksJ F k j).map ii⟩]⟩) (fun j => j ≤ F[k].claims.length) (fun j => F[k].claims.length - j) 0 ?_ ?_ ?_
      · have za := zoneI (asksK F k)
        rw [asksJ_0, e1]
        refine sub_of _ [.old 4 ⟨36, 5, (outK F o k ++ [outF F[k] o[k]]).map fo⟩, .old 1 ⟨3, 1, (asksK F k).map ii⟩] ⟨⟨⟨rfl, rfl⟩, .inr ?_⟩, rfl, ⟨⟨rfl, rfl⟩, .inl ⟨rfl, za⟩⟩, rfl, trivial⟩ ?_
        · rw [List.map_append]; exact okEs_out (outK F o k) (outF F[k] o[k]) rfl
        · simp [go_sem, e2]
      · omega
      · intro j hj
        have lj := asksJ_len hb hj
        (repeat (refine awp_stepG [0, 2, 3, 4, 5, 6, 7, 8, 9, 10, 11, 12, 13, 15, 16, 17, 18, 19, 21, 28, 30, 31, 32, 33, 75, 76, 77, 78, 95, 100, 101, 102, 103, 108, 109, 110, 111] hX mixed rfl ?_; (simp [go_sem]; try (refine ⟨by kernel_rfl, ?_⟩))))
        refine awp_cond (b := decide (j < F[k].claims.length)) (by simp [go_sem]) (fun hc => ?_) (fun hc => ?_)
        · simp at hc
          have ej := asksJ_next hb hc
          (repeat (refine awp_stepG [0, 2, 3, 4, 5, 6, 7, 8, 9, 10, 11, 12, 13, 15, 16, 17, 18, 19, 21, 28, 30, 31, 32, 33, 75, 76, 77, 78, 95, 100, 101, 102, 103, 108, 109, 110, 111] hX mixed rfl ?_; (simp [go_sem, hc]; try (refine ⟨by kernel_rfl, ?_⟩))))
          (repeat refine And.intro (by first | omega | (unfold maxLen; omega) | kernel_rfl | (refine ⟨by first | omega | (unfold maxLen; omega), by first | omega | (unfold maxLen; omega)⟩) | grind) ?_)
          (repeat (refine awp_stepG [0, 2, 3, 4, 5, 6, 7, 8, 9, 10, 11, 12, 13, 15, 16, 17, 18, 19, 21, 28, 30, 31, 32, 33, 75, 76, 77, 78, 95, 100, 101, 102, 103, 108, 109, 110, 111] hX mixed rfl ?_; (simp [go_sem, hc, lj]; (try simp (disch := omega) only [w64, td, tm]); try (refine ⟨by kernel_rfl, ?_⟩))))
          (repeat refine And.intro (by first | omega | (unfold maxLen; omega) | kernel_rfl | (refine ⟨by first | omega | (unfold maxLen; omega), by first | omega | (unfold maxLen; omega)⟩) | grind) ?_)
          (repeat (refine awp_stepG [0, 2, 3, 4, 5, 6, 7, 8, 9, 10, 11, 12, 13, 15, 16, 17, 18, 19, 21, 28, 30, 31, 32, 33, 75, 76, 77, 78, 95, 100, 101, 102, 103, 108, 109, 110, 111] hX mixed rfl ?_; (simp [go_sem, hc, lj]; (try simp (disch := omega) only [w64, td, tm]); try (refine ⟨by kernel_rfl, ?_⟩))))
          refine ⟨j + 1, by omega, by omega, ?_⟩
          rw [ej]
          refine sub_of _ [.old 0 ⟨36, 5, (outK F o (k + 1)).map fo⟩, .old 4 ⟨3, 1, (asksJ F k j ++ [F[k].claims[j].2]).map ii⟩] (by simp [go_sem, zone_fo]) ?_
          simp [go_sem]
        · have hjl : j = F[k].claims.length := by simp at hc; omega
          subst hjl
          rw [asksJ_all hb]
          (repeat (refine awp_stepG [0, 2, 3, 4, 5, 6, 7, 8, 9, 10, 11, 12, 13, 15, 16, 17, 18, 19, 21, 28, 30, 31, 32, 33, 75, 76, 77, 78, 95, 100, 101, 102, 103, 108, 109, 110, 111] hX mixed rfl ?_; (simp [go_sem]; (try simp (disch := omega) only [w64, td, tm]); try (refine ⟨by kernel_rfl, ?_⟩))))
          refine ⟨k + 1, by omega, by omega, ?_⟩
          refine sub_of _ [.old 0 ⟨36, 5, (outK F o (k + 1)).map fo⟩, .old 1 ⟨3, 1, (asksK F (k + 1)).map ii⟩] (by simp [go_sem, zone_fo]) ?_
          simp [go_sem]
    · have hkl : k = F.length := by simp at hb; omega
      subst hkl
      (repeat (refine awp_stepG [0, 2, 3, 4, 5, 6, 7, 8, 9, 10, 11, 12, 13, 15, 16, 17, 18, 19, 21, 28, 30, 31, 32, 33, 75, 76, 77, 78, 95, 100, 101, 102, 103, 108, 109, 110, 111] hX mixed rfl ?_; (simp [go_sem]; try (refine ⟨by kernel_rfl, ?_⟩))))
      first | refine callKa (c2) ?_ | refine callTa (c2) ?_
      try (simp [go_sem]; try (refine ⟨by kernel_rfl, ?_⟩))
      (repeat (refine awp_stepG [0, 2, 3, 4, 5, 6, 7, 8, 9, 10, 11, 12, 13, 15, 16, 17, 18, 19, 21, 28, 30, 31, 32, 33, 75, 76, 77, 78, 95, 100, 101, 102, 103, 108, 109, 110, 111] hX mixed rfl ?_; (simp [go_sem]; try (refine ⟨by kernel_rfl, ?_⟩))))
      refine awp_cond (b := false) (by simp [go_sem]) (fun h => by cases h) (fun _ => ?_)
      (repeat (refine awp_stepG [0, 2, 3, 4, 5, 6, 7, 8, 9, 10, 11, 12, 13, 15, 16, 17, 18, 19, 21, 28, 30, 31, 32, 33, 75, 76, 77, 78, 95, 100, 101, 102, 103, 108, 109, 110, 111] hX mixed rfl ?_; (simp [go_sem]; try (refine ⟨by kernel_rfl, ?_⟩))))
      (repeat refine And.intro (by first | omega | (unfold maxLen; omega) | kernel_rfl | (refine ⟨by first | omega | (unfold maxLen; omega), by first | omega | (unfold maxLen; omega)⟩) | grind) ?_)
      (repeat (refine awp_stepG [0, 2, 3, 4, 5, 6, 7, 8, 9, 10, 11, 12, 13, 15, 16, 17, 18, 19, 21, 28, 30, 31, 32, 33, 75, 76, 77, 78, 95, 100, 101, 102, 103, 108, 109, 110, 111] hX mixed rfl ?_; (simp [go_sem]; try (refine ⟨by kernel_rfl, ?_⟩))))
      refine awp_loop (fun i : Nat => ⟨mkE [(7, .sl ((outK F o F.length).map fo)), (16, il (restG G (asksK F i).length)), (17, .ow 0), (100, .sl (F.map fo)), (101, ii F.length), (102, ii i)], [.row ⟨34, 1, rowB F G F.length i⟩]⟩) (fun i => i ≤ F.length) (fun i => F.length - i) 0 ?_ ?_ ?_
      · have a0 : (asksK F 0).length = 0 := by simp [asksK]
        have zo := zone_fo (outK F o F.length)
        rw [rowB_0, a0, restG_0]
        refine sub_of _ [.old 2 ⟨34, 1, List.replicate F.length .nil⟩] (by simp [go_sem]) ?_
        simp [go_sem, zo]
      · omega
      · intro i hi
        (repeat (refine awp_stepG [0, 2, 3, 4, 5, 6, 7, 8, 9, 10, 11, 12, 13, 15, 16, 17, 18, 19, 21, 28, 30, 31, 32, 33, 75, 76, 77, 78, 95, 100, 101, 102, 103, 108, 109, 110, 111] hX mixed rfl ?_; (simp [go_sem]; try (refine ⟨by kernel_rfl, ?_⟩))))
        refine awp_cond (b := decide (i < F.length)) (by simp [go_sem]) (fun hb => ?_) (fun hb => ?_)
        · simp at hb
          have hcl := few_at hf (List.getElem_mem hb)
          have hmn := hak (i + 1) (by omega)
          have hmi := hak i hi
          have hma := hak F.length (Nat.le_refl _)
          have hle : (asksK F (i + 1)).length ≤ (asksK F F.length).length := by
            have : asksK F F.length = asksK F (i + 1) ++ (F.drop (i + 1)).flatMap fun f => nums f.claims := by
              unfold asksK; rw [← List.flatMap_append, List.take_append_drop, List.take_length]
            rw [this, List.length_append]; omega
          have hne := asksK_next hb
          have hnl : (asksK F (i + 1)).length = (asksK F i).length + F[i].claims.length := by rw [hne, List.length_append, nums_len]
          (repeat (refine awp_stepG [0, 2, 3, 4, 5, 6, 7, 8, 9, 10, 11, 12, 13, 15, 16, 17, 18, 19, 21, 28, 30, 31, 32, 33, 75, 76, 77, 78, 95, 100, 101, 102, 103, 108, 109, 110, 111] hX mixed rfl ?_; (simp [go_sem, hb]; try (refine ⟨by kernel_rfl, ?_⟩))))
          refine awp_loop (fun j : Nat => ⟨mkE [(7, .sl ((outK F o F.length).map fo)), (16, il (restG G ((asksK F i).length + j))), (17, .ow 0), (18, ii i), (100, .sl (F.map fo)), (101, ii F.length), (102, ii i), (108, awl F[i].claims), (109, ii F[i].claims.length), (110, ii j)], [.row ⟨34, 1, rowA F G F.length i (.ow 1)⟩, .row ⟨38, 2, (awK F G i j).map cl⟩]⟩) (fun j => j ≤ F[i].claims.length) (fun j => F[i].claims.length - j) 0 ?_ ?_ ?_
          · rw [rowB_A hb]
            refine sub_of _ [.old 0 ⟨34, 1, rowA F G F.length i (.ow 1)⟩, .birth 38 2] ⟨⟨⟨rfl, rfl⟩, .inr (okEs_A rfl)⟩, rfl, trivial⟩ ?_
            simp [go_sem]
          · omega
          · intro j hj
            have hal := awK_len F G i j
            (repeat (refine awp_stepG [0, 2, 3, 4, 5, 6, 7, 8, 9, 10, 11, 12, 13, 15, 16, 17, 18, 19, 21, 28, 30, 31, 32, 33, 75, 76, 77, 78, 95, 100, 101, 102, 103, 108, 109, 110, 111] hX mixed rfl ?_; (simp [go_sem]; try (refine ⟨by kernel_rfl, ?_⟩))))
            refine awp_cond (b := decide (j < F[i].claims.length)) (by simp [go_sem]) (fun hc => ?_) (fun hc => ?_)
            · simp at hc
              have hg : (asksK F i).length + j < G.length := by omega
              have hrl := restG_len G ((asksK F i).length + j)
              have hrh := restG_hd hg
              have hrt := restG_tl G ((asksK F i).length + j)
              have hrn := rowA_nth (F := F) (G := G) (n := F.length) (i := i) (.ow 1)
              have hrL := rowA_len (F := F) (G := G) (.ow 1) hb
              have hrs := fun y => rowA_set (F := F) (G := G) (n := F.length) (i := i) (.ow 1) y
              have hr0 : 0 < G.length - ((asksK F i).length + j) := by omega
              (repeat (refine awp_stepG [0, 2, 3, 4, 5, 6, 7, 8, 9, 10, 11, 12, 13, 15, 16, 17, 18, 19, 21, 28, 30, 31, 32, 33, 75, 76, 77, 78, 95, 100, 101, 102, 103, 108, 109, 110, 111] hX mixed rfl ?_; (simp [go_sem, hc, hb, hrl, hrh, hrn, hrL, hal, hr0, hrs, hrt]; try (refine ⟨by kernel_rfl, ?_⟩))))
              (repeat refine And.intro (by first | omega | (unfold maxLen; omega) | kernel_rfl | (refine ⟨by first | omega | (unfold maxLen; omega), by first | omega | (unfold maxLen; omega)⟩) | grind) ?_)
              (repeat (refine awp_stepG [0, 2, 3, 4, 5, 6, 7, 8, 9, 10, 11, 12, 13, 15, 16, 17, 18, 19, 21, 28, 30, 31, 32, 33, 75, 76, 77, 78, 95, 100, 101, 102, 103, 108, 109, 110, 111] hX mixed rfl ?_; (simp [go_sem]; (try simp (disch := omega) only [w64, td, tm]); try (refine ⟨by kernel_rfl, ?_⟩))))
              refine ⟨j + 1, by omega, by omega, ?_⟩
              rw [awK_next hb hc hg, ← Nat.add_assoc]
              refine sub_of _ [.old 0 ⟨34, 1, rowA F G F.length i (.ow 1)⟩, .old 4 ⟨38, 2, (awK F G i j ++ [(F[i].claims[j].1, G[(asksK F i).length + j])]).map cl⟩] ⟨⟨⟨rfl, rfl⟩, .inr (okEs_A rfl)⟩, rfl, ⟨⟨rfl, rfl⟩, .inl ⟨?_, zone_cl _⟩⟩, rfl, trivial⟩ ?_
              · simp [go_sem]
              · simp [go_sem]
            · have hjl : j = F[i].claims.length := by simp at hc; omega
              subst hjl
              (repeat (refine awp_stepG [0, 2, 3, 4, 5, 6, 7, 8, 9, 10, 11, 12, 13, 15, 16, 17, 18, 19, 21, 28, 30, 31, 32, 33, 75, 76, 77, 78, 95, 100, 101, 102, 103, 108, 109, 110, 111] hX mixed rfl ?_; (simp [go_sem]; (try simp (disch := omega) only [w64, td, tm]); try (refine ⟨by kernel_rfl, ?_⟩))))
              refine ⟨i + 1, by omega, by omega, ?_⟩
              rw [← rowA_B hb, hnl]
              refine sub_of _ [.old 0 ⟨34, 1, rowA F G F.length i (awl (awK F G i F[i].claims.length))⟩] ⟨⟨⟨rfl, rfl⟩, .inr (okEs_A (.inr (.inr (.inl ⟨1, _, rfl, rfl, rfl, zone_cl _, rfl⟩))))⟩, rfl, trivial⟩ ?_
              simp [go_sem]
        · have hin : i = F.length := by simp at hb; omega
          subst hin
          rw [rowB_n]
          have zw := zone_awl (awAll F G F.length)
          (repeat (refine awp_stepG [0, 2, 3, 4, 5, 6, 7, 8, 9, 10, 11, 12, 13, 15, 16, 17, 18, 19, 21, 28, 30, 31, 32, 33, 75, 76, 77, 78, 95, 100, 101, 102, 103, 108, 109, 110, 111] hX mixed rfl ?_; (simp [go_sem, zw]; try (refine ⟨by kernel_rfl, ?_⟩))))
          try rfl
end Go.Proofs.Ytndiamkmcoghdaa

namespace Go.Proofs.Ytndiamkmcoghdaa
open Go.RowKit Go.Ab
def fewF (f : Fd) : Bool := decide (f.claims.length ≤ 8) && decide (f.cedes.length ≤ 14)
def allF (F : List Fd) : Bool := F.all fewF
theorem fewV_eq (F : List Fd) : fewV F = (allF F && decide (F.length ≤ 5)) := rfl
def hasF (f : Fd) : Int := f.income + f.holds + f.reserve
def hasV (F : List Fd) : Int := sumI (F.map hasF)
structure AmF (f : Fd) : Prop where
  h : 0 ≤ f.holds ∧ f.holds ≤ 3298534883328
  r : 0 ≤ f.reserve ∧ f.reserve ≤ 3298534883328
  i : 0 ≤ f.income ∧ f.income ≤ 3298534883328
theorem AmF.bd {f : Fd} (h : AmF f) : 0 ≤ hasF f ∧ hasF f ≤ 9895604649984 := by
  have := h.h; have := h.r; have := h.i; unfold hasF; omega
theorem has_bd {F : List Fd} (h : ∀ f ∈ F, AmF f) : ∀ k, k ≤ F.length → 0 ≤ sumI ((F.map hasF).take k) ∧ sumI ((F.map hasF).take k) ≤ 9895604649984 * k
  | 0, _ => by simp [sumI]
  | k + 1, hk => by
    have hk2 : k < (F.map hasF).length := by rw [List.length_map]; omega
    rw [sumI_next hk2]
    have := has_bd h k (by omega)
    have := (h F[k] (List.getElem_mem (by omega))).bd
    rw [List.getElem_map]
    omega
theorem RV.am {F : List Fd} (h : RV F) : ∀ f ∈ F, AmF f := fun f hf => by
  obtain ⟨i, hi, rfl⟩ := List.getElem_of_mem hf
  have := h.at' i hi
  have h1 := this.hol; have h2 := this.res; have h3 := this.inc
  exact ⟨by omega, by omega, by omega⟩
theorem out_am {f : Fd} (hh : 0 ≤ f.holds ∧ f.holds ≤ 1099511627776) (hr : 0 ≤ f.reserve ∧ f.reserve ≤ 1099511627776) (hi : 0 ≤ f.income ∧ f.income ≤ 1099511627776) {q : Int} (hq : 0 ≤ q) : AmF (outF f q) := by
  unfold outF
  refine ⟨?_, ?_, ?_⟩ <;> simp only [freeV] <;> omega
theorem has_out (f : Fd) (q : Int) : hasF (outF f q) = hasF f - payV f q := by
  unfold hasF outF; simp only [freeV, payV]; omega
theorem out_get {F : List Fd} {o : List Int} {n i : Nat} (hn : i < n) (hi : i < F.length) (ho : i < o.length) (h' : i < (outK F o n).length) : (outK F o n)[i] = outF F[i] o[i] := by
  simp only [outK, List.getElem_map, List.getElem_range, getF hi, getD_at ho]
theorem aw_get {F : List Fd} {G : List Int} {n i : Nat} (hn : i < n) (hi : i < F.length) (h' : i < (awAll F G n).length) : (awAll F G n)[i] = awK F G i F[i].claims.length := by
  simp only [awAll, List.getElem_map, List.getElem_range, getF hi]
theorem awK_get {F : List Fd} {G : List Int} {i j m : Nat} (hi : i < F.length) (hj : j < m) (hc : j < F[i].claims.length) (hg : (asksK F i).length + j < G.length) (h' : j < (awK F G i m).length) : (awK F G i m)[j] = (F[i].claims[j].1, G[(asksK F i).length + j]) := by
  simp only [awK, List.getElem_map, List.getElem_range, getF hi, getD_at hg]
  congr 2
  rw [List.getD_eq_getElem?_getD, List.getElem?_eq_getElem hc]; rfl
attribute [-simp] List.map_take
attribute [local irreducible] AWP Go.Ab.Sub Means MeansH CallK CallG CallT CallGT CallU
set_option maxRecDepth 20000 in
theorem pfew_m (F : List Fd) (hl : F.length ≤ 9223372036854775807) : Means true Try.prog 8 [.sl (F.map fo)] (bb (fewV F)) := by
  refine means_fn true 33 [.tmp 2] Try.func8 rfl rfl rfl (by simp) (by decide) rfl fun X hX => ?_
  (repeat (refine awp_stepG [0, 2, 3, 11, 29] hX mixed rfl ?_; (simp [go_sem]; try (refine ⟨by kernel_rfl, ?_⟩))))
  refine awp_loop (fun k : Nat => ⟨mkE [(0, .sl (F.map fo)), (2, bb false), (3, ii k)], []⟩) (fun k => (k ≤ F.length ∧ k ≤ 6) ∧ allF (F.take k) = true) (fun k => F.length - k) 0 ?_ ?_ ?_
  · refine sub_of _ [] (by simp [go_sem]) ?_
    simp [go_sem]
  · exact ⟨by omega, rfl⟩
  · rintro k ⟨⟨hk, hk6⟩, ha⟩
    (repeat (refine awp_stepG [0, 2, 3, 11, 29] hX mixed rfl ?_; (simp [go_sem]; try (refine ⟨by kernel_rfl, ?_⟩))))
    refine awp_cond (b := decide (k < F.length) && decide ((k : Int) < 6)) (by simp [go_sem]) (fun hb => ?_) (fun hb => ?_)
    · simp only [Bool.and_eq_true, decide_eq_true_eq] at hb
      obtain ⟨hb, hb6⟩ := hb
      (repeat (refine awp_stepG [0, 2, 3, 11, 29] hX mixed rfl ?_; (simp [go_sem, hb]; try (refine ⟨by kernel_rfl, ?_⟩))))
      cases hf : fewF F[k] with
      | true =>
        have h2 : F[k].claims.length ≤ 8 ∧ F[k].cedes.length ≤ 14 := by simpa [fewF] using hf
        refine awp_cond (b := false) (by simp [go_sem]; omega) (fun h => by cases h) (fun _ => ?_)
        (repeat (refine awp_stepG [0, 2, 3, 11, 29] hX mixed rfl ?_; (simp [go_sem, hb]; (try simp (disch := omega) only [w64, td, tm]); try (refine ⟨by kernel_rfl, ?_⟩))))
        refine ⟨k + 1, ⟨by omega, ?_⟩, by omega, ?_⟩
        · unfold allF at *; rw [List.take_succ_eq_append_getElem hb, List.all_append, ha]; simp [hf]
        · refine sub_of _ [] (by simp [go_sem]) ?_
          simp [go_sem]
      | false =>
        have h2 : 8 < F[k].claims.length ∨ 14 < F[k].cedes.length := by
          simp only [fewF, Bool.and_eq_false_iff, decide_eq_false_iff_not] at hf
          omega
        have hF : fewV F = false := by
          have : allF F = false := List.all_eq_false.2 ⟨F[k], List.getElem_mem hb, by simp [hf]⟩
          rw [fewV_eq, this]; rfl
        refine awp_cond (b := true) (by simp [go_sem]; omega) (fun _ => ?_) (fun h => by cases h)
        rw [hF]
        (repeat (refine awp_stepG [0, 2, 3, 11, 29] hX mixed rfl ?_; (simp [go_sem]; try (refine ⟨by kernel_rfl, ?_⟩))))
    · simp only [Bool.and_eq_false_iff, decide_eq_false_iff_not] at hb
      (repeat (refine awp_stepG [0, 2, 3, 11, 29] hX mixed rfl ?_; (simp [go_sem]; try (refine ⟨by kernel_rfl, ?_⟩))))
      rw [fewV_eq]
      by_cases h5 : F.length ≤ 5
      · have hkl : k = F.length := by omega
        subst hkl
        rw [List.take_length] at ha
        simp [ha]; omega
      · simp [h5]; omega
theorem pints_m (a b : List Int) (hla : a.length ≤ 9223372036854775807) (hlb : b.length ≤ 9223372036854775807) : Means true Try.prog 21 [il a, il b] (bb (decide (a = b))) := by
  refine means_fn true 26 [.tmp 4] Try.func21 rfl rfl rfl (by simp) (by decide) rfl fun X hX => ?_
  by_cases hl : a.length = b.length
  · (repeat (refine awp_stepG [0, 1, 4, 5, 10, 14, 25] hX mixed rfl ?_; (simp [go_sem, hl]; try (refine ⟨by kernel_rfl, ?_⟩))))
    refine awp_cond (b := false) (by simp [go_sem, hl]) (fun hb => by cases hb) (fun _ => ?_)
    (repeat (refine awp_stepG [0, 1, 4, 5, 10, 14, 25] hX mixed rfl ?_; (simp [go_sem]; try (refine ⟨by kernel_rfl, ?_⟩))))
    refine awp_loop (fun n : Nat => ⟨mkE [(0, il a), (1, il b), (5, ii n)], []⟩) (fun n => n ≤ a.length ∧ a.take n = b.take n) (fun n => a.length - n) 0 ?_ ?_ ?_
    · refine sub_of _ [] (by simp [go_sem]) ?_
      simp [go_sem]
    · exact ⟨Nat.zero_le _, by simp⟩
    · rintro n ⟨hn, he⟩
      (repeat (refine awp_stepG [0, 1, 4, 5, 10, 14, 25] hX mixed rfl ?_; (simp [go_sem]; try (refine ⟨by kernel_rfl, ?_⟩))))
      refine awp_cond (b := decide (n < a.length)) (by simp [go_sem]) (fun hd2 => ?_) (fun hd2 => ?_)
      · simp at hd2
        have h2 : n < b.length := by omega
        (repeat (refine awp_stepG [0, 1, 4, 5, 10, 14, 25] hX mixed rfl ?_; (simp [go_sem, hd2, h2]; (try simp (disch := omega) only [w64, td, tm]); try (refine ⟨by kernel_rfl, ?_⟩))))
        (repeat refine And.intro (by first | omega | (unfold maxLen; omega) | kernel_rfl | (refine ⟨by first | omega | (unfold maxLen; omega), by first | omega | (unfold maxLen; omega)⟩) | grind) ?_)
        try (simp [go_sem, hd2, h2]; try (refine ⟨by kernel_rfl, ?_⟩))
        refine awp_cond (b := decide (a[n] ≠ b[n])) (by simp [go_sem, hd2, h2]; try omega) (fun hc => ?_) (fun hc => ?_)
        · simp only [decide_eq_true_eq] at hc
          have hne : ¬ a = b := fun e => hc (by simp only [e])
          (repeat (refine awp_stepG [0, 1, 4, 5, 10, 14, 25] hX mixed rfl ?_; (simp [go_sem, hne]; try (refine ⟨by kernel_rfl, ?_⟩))))
        · simp at hc
          (repeat (refine awp_stepG [0, 1, 4, 5, 10, 14, 25] hX mixed rfl ?_; (simp [go_sem]; (try simp (disch := omega) only [w64, td, tm]); try (refine ⟨by kernel_rfl, ?_⟩))))
          refine ⟨n + 1, ⟨by omega, ?_⟩, by omega, ?_⟩
          · rw [List.take_succ_eq_append_getElem hd2, List.take_succ_eq_append_getElem h2, he, hc]
          · refine sub_of _ [] (by simp [go_sem]) ?_
            simp [go_sem]
      · have hnl : n = a.length := by simp at hd2; omega
        subst hnl
        have hab : a = b := by rwa [List.take_length, hl, List.take_length] at he
        (repeat (refine awp_stepG [0, 1, 4, 5, 10, 14, 25] hX mixed rfl ?_; (simp [go_sem, hab]; try (refine ⟨by kernel_rfl, ?_⟩))))
  · have hne : ¬ a = b := fun e => hl (by rw [e])
    (repeat (refine awp_stepG [0, 1, 4, 5, 10, 14, 25] hX mixed rfl ?_; (simp [go_sem, hl]; try (refine ⟨by kernel_rfl, ?_⟩))))
    refine awp_cond (b := true) (by simp [go_sem, hl]; try omega) (fun _ => ?_) (fun hb => by cases hb)
    (repeat (refine awp_stepG [0, 1, 4, 5, 10, 14, 25] hX mixed rfl ?_; (simp [go_sem, hne]; try (refine ⟨by kernel_rfl, ?_⟩))))
theorem cl_eq (a b : Int × Int) : a = b ↔ a.1 = b.1 ∧ a.2 = b.2 := Prod.ext_iff
set_option maxRecDepth 20000 in
theorem paws_m (a b : List (Int × Int)) (hla : a.length ≤ 9223372036854775807) : Means true Try.prog 48 [awl a, awl b] (bb (decide (a = b))) := by
  refine means_fn true 26 [.tmp 4] Try.func48 rfl rfl rfl (by simp) (by decide) rfl fun X hX => ?_
  (repeat (refine awp_stepG [0, 1, 4, 5, 10, 14, 25] hX mixed rfl ?_; (simp [go_sem]; try (refine ⟨by kernel_rfl, ?_⟩))))
  refine awp_cond (b := !decide ((a.length : Int) = b.length)) (by simp [go_sem]) (fun hb => ?_) (fun hb => ?_)
  · simp at hb
    (repeat (refine awp_stepG [0, 1, 4, 5, 10, 14, 25] hX mixed rfl ?_; (simp [go_sem]; try (refine ⟨by kernel_rfl, ?_⟩))))
    have : a ≠ b := by rintro rfl; exact hb rfl
    simp [this]
  · simp at hb
    have hb : a.length = b.length := by omega
    (repeat (refine awp_stepG [0, 1, 4, 5, 10, 14, 25] hX mixed rfl ?_; (simp [go_sem]; try (refine ⟨by kernel_rfl, ?_⟩))))
    refine awp_loop (fun k : Nat => ⟨mkE [(0, awl a), (1, awl b), (4, bb false), (5, ii k)], []⟩) (fun k => k ≤ a.length ∧ a.take k = b.take k) (fun k => a.length - k) 0 ?_ ?_ ?_
    · refine sub_of _ [] (by simp [go_sem]) ?_
      simp [go_sem]
    · simp
    · rintro k ⟨hk, hn⟩
      (repeat (refine awp_stepG [0, 1, 4, 5, 10, 14, 25] hX mixed rfl ?_; (simp [go_sem]; try (refine ⟨by kernel_rfl, ?_⟩))))
      refine awp_cond (b := decide (k < a.length)) (by simp [go_sem]) (fun hc => ?_) (fun hc => ?_)
      · simp at hc
        have hc' : k < b.length := by omega
        (repeat (refine awp_stepG [0, 1, 4, 5, 10, 14, 25] hX mixed rfl ?_; (simp [go_sem, hc, hc']; try (refine ⟨by kernel_rfl, ?_⟩))))
        refine awp_cond (b := !decide (a[k] = b[k])) (by simp [go_sem, cl_eq]) (fun hd => ?_) (fun hd => ?_)
        · simp at hd
          (repeat (refine awp_stepG [0, 1, 4, 5, 10, 14, 25] hX mixed rfl ?_; (simp [go_sem]; try (refine ⟨by kernel_rfl, ?_⟩))))
          have : a ≠ b := by rintro rfl; exact hd rfl
          simp [this]
        · simp at hd
          (repeat (refine awp_stepG [0, 1, 4, 5, 10, 14, 25] hX mixed rfl ?_; (simp [go_sem]; (try simp (disch := omega) only [w64, td, tm]); try (refine ⟨by kernel_rfl, ?_⟩))))
          refine ⟨k + 1, ⟨by omega, by rw [List.take_succ_eq_append_getElem hc, List.take_succ_eq_append_getElem hc', hn, hd]⟩, by omega, ?_⟩
          refine sub_of _ [] (by simp [go_sem]) ?_
          simp [go_sem]
      · simp at hc
        (repeat (refine awp_stepG [0, 1, 4, 5, 10, 14, 25] hX mixed rfl ?_; (simp [go_sem]; try (refine ⟨by kernel_rfl, ?_⟩))))
        have : k = a.length := by omega
        subst this
        rw [List.take_length, hb, List.take_length] at hn
        simp [hn]
set_option maxRecDepth 20000 in
theorem plists_m (a b : List (List (Int × Int))) (hla : a.length ≤ 9223372036854775807) (hl : ∀ l ∈ a, l.length ≤ 9223372036854775807) : Means true Try.prog 23 [.sl (a.map awl), .sl (b.map awl)] (bb (decide (a = b))) := by
  refine means_fn true 27 [.tmp 4] Try.func23 rfl rfl rfl (by simp) (by decide) rfl fun X hX => ?_
  (repeat (refine awp_stepG [0, 1, 4, 5, 10, 14, 26] hX mixed rfl ?_; (simp [go_sem]; try (refine ⟨by kernel_rfl, ?_⟩))))
  refine awp_cond (b := !decide ((a.length : Int) = b.length)) (by simp [go_sem]) (fun hb => ?_) (fun hb => ?_)
  · simp at hb
    (repeat (refine awp_stepG [0, 1, 4, 5, 10, 14, 26] hX mixed rfl ?_; (simp [go_sem]; try (refine ⟨by kernel_rfl, ?_⟩))))
    have : a ≠ b := by rintro rfl; exact hb rfl
    simp [this]
  · simp at hb
    have hb : a.length = b.length := by omega
    (repeat (refine awp_stepG [0, 1, 4, 5, 10, 14, 26] hX mixed rfl ?_; (simp [go_sem]; try (refine ⟨by kernel_rfl, ?_⟩))))
    refine awp_loop (fun k : Nat => ⟨mkE [(0, .sl (a.map awl)), (1, .sl (b.map awl)), (4, bb false), (5, ii k)], []⟩) (fun k => k ≤ a.length ∧ a.take k = b.take k) (fun k => a.length - k) 0 ?_ ?_ ?_
    · refine sub_of _ [] (by simp [go_sem]) ?_
      simp [go_sem]
    · simp
    · rintro k ⟨hk, hn⟩
      (repeat (refine awp_stepG [0, 1, 4, 5, 10, 14, 26] hX mixed rfl ?_; (simp [go_sem]; try (refine ⟨by kernel_rfl, ?_⟩))))
      refine awp_cond (b := decide (k < a.length)) (by simp [go_sem]) (fun hc => ?_) (fun hc => ?_)
      · simp at hc
        have hc' : k < b.length := by omega
        have c1 := paws_m a[k] b[k] (hl _ (List.getElem_mem hc))
        (repeat (refine awp_stepG [0, 1, 4, 5, 10, 14, 26] hX mixed rfl ?_; (simp [go_sem, hc, hc']; try (refine ⟨by kernel_rfl, ?_⟩))))
        first | refine callKa (c1) ?_ | refine callTa (c1) ?_
        try (simp [go_sem]; try (refine ⟨by kernel_rfl, ?_⟩))
        refine awp_cond (b := !decide (a[k] = b[k])) (by simp [go_sem]) (fun hd => ?_) (fun hd => ?_)
        · simp at hd
          (repeat (refine awp_stepG [0, 1, 4, 5, 10, 14, 26] hX mixed rfl ?_; (simp [go_sem]; try (refine ⟨by kernel_rfl, ?_⟩))))
          have : a ≠ b := by rintro rfl; exact hd rfl
          simp [this]
        · simp at hd
          (repeat (refine awp_stepG [0, 1, 4, 5, 10, 14, 26] hX mixed rfl ?_; (simp [go_sem]; (try simp (disch := omega) only [w64, td, tm]); try (refine ⟨by kernel_rfl, ?_⟩))))
          refine ⟨k + 1, ⟨by omega, by rw [List.take_succ_eq_append_getElem hc, List.take_succ_eq_append_getElem hc', hn, hd]⟩, by omega, ?_⟩
          refine sub_of _ [] (by simp [go_sem]) ?_
          simp [go_sem]
      · simp at hc
        (repeat (refine awp_stepG [0, 1, 4, 5, 10, 14, 26] hX mixed rfl ?_; (simp [go_sem]; try (refine ⟨by kernel_rfl, ?_⟩))))
        have : k = a.length := by omega
        subst this
        rw [List.take_length, hb, List.take_length] at hn
        simp [hn]
theorem phas_m (f : Fd) (h : AmF f) : Means true Try.prog 13 [fo f] (ii (hasF f)) := by
  have h1 := h.h; have h2 := h.r; have h3 := h.i
  have w1 := w64 (x := f.income + f.holds) (by omega) (by omega)
  have w2 := w64 (x := f.income + f.holds + f.reserve) (by omega) (by omega)
  refine means_fn true 11 [.tmp 2] Try.func13 rfl rfl rfl (by simp) (by decide) rfl fun X hX => ?_
  (repeat (refine awp_stepG [0, 1, 2] hX mixed rfl ?_; (simp [go_sem, w1, w2]; try (refine ⟨by kernel_rfl, ?_⟩))))
  try rfl
set_option maxRecDepth 20000 in
theorem phasV_m (F : List Fd) (hl : F.length ≤ 12) (h : ∀ f ∈ F, AmF f) : Means true Try.prog 15 [.sl (F.map fo)] (ii (hasV F)) := by
  refine means_fn true 19 [.tmp 2] Try.func15 rfl rfl rfl (by simp) (by decide) rfl fun X hX => ?_
  (repeat (refine awp_stepG [0, 2, 3, 4, 8] hX mixed rfl ?_; (simp [go_sem]; try (refine ⟨by kernel_rfl, ?_⟩))))
  refine awp_loop (fun k : Nat => ⟨mkE [(0, .sl (F.map fo)), (3, ii (sumI ((F.map hasF).take k))), (4, ii k)], []⟩) (fun k => k ≤ F.length) (fun k => F.length - k) 0 ?_ ?_ ?_
  · refine sub_of _ [] (by simp [go_sem]) ?_
    simp [go_sem, sumI]
  · omega
  · intro k hk
    (repeat (refine awp_stepG [0, 2, 3, 4, 8] hX mixed rfl ?_; (simp [go_sem]; try (refine ⟨by kernel_rfl, ?_⟩))))
    refine awp_cond (b := decide (k < F.length)) (by simp [go_sem]) (fun hb => ?_) (fun hb => ?_)
    · simp at hb
      have c1 := phas_m F[k] (h _ (List.getElem_mem hb))
      have hn := sumI_next (l := F.map hasF) (k := k) (by simpa using hb)
      rw [List.getElem_map] at hn
      have b1 := has_bd h k hk
      have b2 := (h F[k] (List.getElem_mem hb)).bd
      have w1 := w64 (x := sumI ((F.map hasF).take k) + hasF F[k]) (by omega) (by omega)
      (repeat (refine awp_stepG [0, 2, 3, 4, 8] hX mixed rfl ?_; (simp [go_sem, hb]; try (refine ⟨by kernel_rfl, ?_⟩))))
      first | refine callKa (c1) ?_ | refine callTa (c1) ?_
      try (simp [go_sem, w1]; try (refine ⟨by kernel_rfl, ?_⟩))
      (repeat (refine awp_stepG [0, 2, 3, 4, 8] hX mixed rfl ?_; (simp [go_sem, w1]; (try simp (disch := omega) only [w64, td, tm]); try (refine ⟨by kernel_rfl, ?_⟩))))
      refine ⟨k + 1, by omega, by omega, ?_⟩
      refine sub_of _ [] (by simp [go_sem]) ?_
      simp [go_sem, hn]
    · have hkl : k = F.length := by simp at hb; omega
      subst hkl
      have e : (F.map hasF).take F.length = F.map hasF := List.take_of_length_le (by simp)
      rw [e]
      (repeat (refine awp_stepG [0, 2, 3, 4, 8] hX mixed rfl ?_; (simp [go_sem]; try (refine ⟨by kernel_rfl, ?_⟩))))
      try rfl
end Go.Proofs.Ytndiamkmcoghdaa

namespace Go.Proofs.Ytndiamkmcoghdaa
open Go.RowKit Go.Ab
attribute [-simp] List.map_take
attribute [local irreducible] AWP Go.Ab.Sub Means MeansH CallK CallG CallT CallGT CallU
theorem coins_m (n : Int) : Means true Try.prog 29 [ii n] (bb (amt n)) := by
  refine means_fn true 9 [.tmp 2] Try.func29 rfl rfl rfl (by simp) (by decide) rfl fun X hX => ?_
  (repeat (refine awp_stepG [0, 2] hX mixed rfl ?_; (simp [go_sem]; try (refine ⟨by kernel_rfl, ?_⟩))))
  try simp [amt]
set_option maxHeartbeats 2000000 in
set_option maxRecDepth 20000 in
theorem pown_m (f : Fd) (hl : f.claims.length ≤ 9223372036854775807) : Means true Try.prog 14 [fo f] (ii (if okCl f.claims then sumI (nums f.claims) else -1)) := by
  obtain ⟨h, r, i, C, S⟩ := f
  simp only at hl ⊢
  refine means_fn true 40 [.tmp 2] Try.func14 rfl rfl rfl (by simp) (by decide) rfl fun X hX => ?_
  (repeat (refine awp_stepG [0, 1, 2, 3, 4, 9, 30] hX mixed rfl ?_; (simp [go_sem]; try (refine ⟨by kernel_rfl, ?_⟩))))
  refine awp_loop (fun k : Nat => ⟨mkE [(1, .el 0 5 0 0), (2, ii 0), (3, ii (sumI (nums (C.take k)))), (4, ii k)], [.row ⟨36, 5, [fo ⟨h, r, i, C, S⟩]⟩]⟩) (fun k => k ≤ C.length ∧ okCl (C.take k) = true) (fun k => C.length - k) 0 ?_ ?_ ?_
  · refine sub_of _ [.old 0 ⟨36, 5, [fo ⟨h, r, i, C, S⟩]⟩] (by simp [go_sem]) ?_
    simp [go_sem, nums, sumI]
  · exact ⟨Nat.zero_le _, by simp [okCl, nums, sumI]⟩
  · rintro k ⟨hk, hok⟩
    (repeat (refine awp_stepG [0, 1, 2, 3, 4, 9, 30] hX mixed rfl ?_; (simp [go_sem]; try (refine ⟨by kernel_rfl, ?_⟩))))
    refine awp_cond (b := decide (k < C.length)) (by simp [go_sem]) (fun hb => ?_) (fun hb => ?_)
    · simp at hb
      have hn := okCl_bd hok
      have wm := w64 (x := 1099511627776 - sumI (nums (C.take k))) (by omega) (by omega)
      by_cases ha : amt C[k].2 = true
      · have hc := amt_bd ha
        have hw := w64 (x := sumI (nums (C.take k)) + C[k].2) (by omega) (by omega)
        (repeat (refine awp_stepG [0, 1, 2, 3, 4, 9, 30] hX mixed rfl ?_; (simp [go_sem, hb, wm]; try (refine ⟨by kernel_rfl, ?_⟩))))
        first | refine callKa (coins_m C[k].2) ?_ | refine callTa (coins_m C[k].2) ?_
        try (simp [go_sem, ha, hb, wm]; try (refine ⟨by kernel_rfl, ?_⟩))
        (repeat refine And.intro (by first | omega | (unfold maxLen; omega) | kernel_rfl | (refine ⟨by first | omega | (unfold maxLen; omega), by first | omega | (unfold maxLen; omega)⟩) | grind) ?_)
        by_cases ha2 : amt (sumI (nums (C.take k)) + C[k].2) = true
        · have ha3 := amt_bd ha2
          refine awp_cond (b := false) (by simp [go_sem, ha]; omega) (fun h => by cases h) (fun _ => ?_)
          (repeat (refine awp_stepG [0, 1, 2, 3, 4, 9, 30] hX mixed rfl ?_; (simp [go_sem, hb, hw]; (try simp (disch := omega) only [w64, td, tm]); try (refine ⟨by kernel_rfl, ?_⟩))))
          refine ⟨k + 1, ⟨by omega, okCl_next hb hok ha ha2⟩, by omega, ?_⟩
          refine sub_of _ [.old 0 ⟨36, 5, [fo ⟨h, r, i, C, S⟩]⟩] (by simp [go_sem]) ?_
          simp [go_sem, nums_next hb, sumI_snoc, hw]
        · have ha2 : amt (sumI (nums (C.take k)) + C[k].2) = false := by simpa using ha2
          have ha3 : ¬ sumI (nums (C.take k)) + C[k].2 ≤ 1099511627776 := by
            intro hh
            rw [amt] at ha2
            simp at ha2
            omega
          refine awp_cond (b := true) (by simp [go_sem, ha]; omega) (fun _ => ?_) (fun h => by cases h)
          (repeat (refine awp_stepG [0, 1, 2, 3, 4, 9, 30] hX mixed rfl ?_; (simp [go_sem]; try (refine ⟨by kernel_rfl, ?_⟩))))
          simp [okCl_no2 hb hok ha ha2]
      · have ha : amt C[k].2 = false := by simpa using ha
        (repeat (refine awp_stepG [0, 1, 2, 3, 4, 9, 30] hX mixed rfl ?_; (simp [go_sem, hb, wm]; try (refine ⟨by kernel_rfl, ?_⟩))))
        first | refine callKa (coins_m C[k].2) ?_ | refine callTa (coins_m C[k].2) ?_
        try (simp [go_sem, ha, hb, wm]; try (refine ⟨by kernel_rfl, ?_⟩))
        (repeat refine And.intro (by first | omega | (unfold maxLen; omega) | kernel_rfl | (refine ⟨by first | omega | (unfold maxLen; omega), by first | omega | (unfold maxLen; omega)⟩) | grind) ?_)
        refine awp_cond (b := true) (by simp [go_sem, ha]) (fun _ => ?_) (fun h => by cases h)
        (repeat (refine awp_stepG [0, 1, 2, 3, 4, 9, 30] hX mixed rfl ?_; (simp [go_sem]; try (refine ⟨by kernel_rfl, ?_⟩))))
        simp [okCl_no1 hb ha]
    · have hkl : k = C.length := by simp at hb; omega
      subst hkl
      rw [List.take_length] at hok ⊢
      (repeat (refine awp_stepG [0, 1, 2, 3, 4, 9, 30] hX mixed rfl ?_; (simp [go_sem]; try (refine ⟨by kernel_rfl, ?_⟩))))
      simp [hok]
set_option maxHeartbeats 4000000 in
set_option maxRecDepth 20000 in
theorem formed_m (F : List Fd) (o G : List Int) (h5 : F.length ≤ 12) (hv : RV F) (ho : o.length = F.length) (hq : ∀ x ∈ o, 0 ≤ x) : Means true Try.prog 12 [.sl (F.map fo), .sl ((outK F o F.length).map fo), .sl ((awAll F G F.length).map awl)] (bb true) := by
  have l1 := outK_len F o F.length
  have l2 := awAll_len F G F.length
  refine means_fn true 85 [.tmp 6] Try.func12 rfl rfl rfl (by simp) (by decide) rfl fun X hX => ?_
  (repeat (refine awp_stepG [0, 1, 2, 6, 7, 19, 23, 84] hX mixed rfl ?_; (simp [go_sem, l1, l2]; try (refine ⟨by kernel_rfl, ?_⟩))))
  refine awp_cond (b := false) (by simp [go_sem]) (fun h => by cases h) (fun _ => ?_)
  (repeat (refine awp_stepG [0, 1, 2, 6, 7, 19, 23, 84] hX mixed rfl ?_; (simp [go_sem]; try (refine ⟨by kernel_rfl, ?_⟩))))
  refine awp_loop (fun k : Nat => ⟨mkE [(0, .sl (F.map fo)), (1, .sl ((outK F o F.length).map fo)), (2, .sl ((awAll F G F.length).map awl)), (6, bb false), (7, ii k)], []⟩) (fun k => k ≤ F.length) (fun k => F.length - k) 0 ?_ ?_ ?_
  · refine sub_of _ [] (by simp [go_sem]) ?_
    simp [go_sem]
  · omega
  · intro k hk
    (repeat (refine awp_stepG [0, 1, 2, 6, 7, 19, 23, 84] hX mixed rfl ?_; (simp [go_sem]; try (refine ⟨by kernel_rfl, ?_⟩))))
    refine awp_cond (b := decide (k < F.length)) (by simp [go_sem]) (fun hb => ?_) (fun hb => ?_)
    · simp at hb
      have a1 : k < (outK F o F.length).length := by omega
      have a2 : k < (awAll F G F.length).length := by omega
      have e1 := out_get (F := F) (o := o) hb hb (by omega) a1
      have e2 := aw_get (F := F) (G := G) hb hb a2
      have hat := hv.at' k hb
      have hqk := hq o[k] (List.getElem_mem (by omega))
      have hh := hat.hol
      have hr := hat.res
      have hi := hat.inc
      have ho := out_am hh hr hi hqk
      have ho1 := ho.h
      have ho2 := ho.r
      have c1 := pints_m (outF F[k] o[k]).cedes F[k].cedes (by have := hat.len; simp only [outF]; omega) (by have := hat.len; omega)
      rw [decide_eq_true (show (outF F[k] o[k]).cedes = F[k].cedes from rfl)] at c1
      have q1 : (outF F[k] o[k]).income = 0 := rfl
      have q2 : (outF F[k] o[k]).claims = [] := rfl
      have l3 := awK_len F G k F[k].claims.length
      have ho3 : ¬ (outF F[k] o[k]).holds < 0 := by omega
      have ho4 : ¬ (outF F[k] o[k]).reserve < 0 := by omega
      (repeat (refine awp_stepG [0, 1, 2, 6, 7, 19, 23, 84] hX mixed rfl ?_; (simp [go_sem, hb, a1, a2, e1, e2, q1, q2, l3, ho3, ho4]; try (refine ⟨by kernel_rfl, ?_⟩))))
      (repeat refine And.intro (by first | omega | (unfold maxLen; omega) | kernel_rfl | (refine ⟨by first | omega | (unfold maxLen; omega), by first | omega | (unfold maxLen; omega)⟩) | grind) ?_)
      first | refine callGa (fun hg => c1) ?_ | refine callGTa (fun hg => c1) ?_
      try (simp [go_sem, hb, a1, a2, e1, e2, q1, q2, l3, ho3, ho4]; try (refine ⟨by kernel_rfl, ?_⟩))
      (repeat refine And.intro (by first | omega | (unfold maxLen; omega) | kernel_rfl | (refine ⟨by first | omega | (unfold maxLen; omega), by first | omega | (unfold maxLen; omega)⟩) | grind) ?_)
      refine awp_cond (b := false) (by simp [go_sem]) (fun h => by cases h) (fun _ => ?_)
      (repeat (refine awp_stepG [0, 1, 2, 6, 7, 19, 23, 84] hX mixed rfl ?_; (simp [go_sem]; (try simp (disch := omega) only [w64, td, tm]); try (refine ⟨by kernel_rfl, ?_⟩))))
      refine ⟨k + 1, by omega, by omega, ?_⟩
      refine sub_of _ [] (by simp [go_sem]) ?_
      simp [go_sem]
    · (repeat (refine awp_stepG [0, 1, 2, 6, 7, 19, 23, 84] hX mixed rfl ?_; (simp [go_sem]; try (refine ⟨by kernel_rfl, ?_⟩))))
      try rfl
end Go.Proofs.Ytndiamkmcoghdaa

namespace Go.Proofs.Ytndiamkmcoghdaa
open Go.RowKit Go.Ab
theorem meansZ_h {P : Program} {f : FuncId} {fr : Bool} {H : List Cell} {largs args2 : List AV} {rv : Value} (l : List Nat) (h : Means fr P f args2 (.v rv)) (hf : frzOK H l) (ha : largs.map (argA (frzRows H l)) = args2) (ho : args2.all AV.argOK = true) : MeansH P f H largs (.v rv) H := by
  subst ha
  intro w M loc vs hM hgl hH hl hvs
  let X : Ctx := ⟨w, M, 0, blks H loc, loc, hgl, fun p hp hb => blks_away hH hb (hgl.1 p hp).1, fun g hg hb => blks_away hH hb (hgl.2 g hg).1⟩
  let a0 : Act := { tmps := #[], defers := [] }
  have hrr : RR X M loc ⟨argE 0 [], H⟩ a0 w := by
    refine ⟨fun s => ?_, Nat.zero_le _, rfl, rfl, fun id o ho => (hH.obj id o ho).imp fun b hb => .inr hb, hH.sep, fun id m hm => (hH.mobj id m hm).imp fun b hb => .inr hb, hH.msep, ⟨rfl, rfl, rfl, Nat.le_refl _, fun _ _ _ => rfl⟩, fun b hb => ⟨hM b hb, .inl hb⟩, fun b hb => hb, fun b hb => hM b hb, hH.one, fun s => ?_⟩
    · show Rep w M loc _ (argE 0 [] s)
      rw [argE_bad (Nat.zero_le _)]
      exact (RepZ.bad _).rep
    · show (argE 0 [] s).idLt H.length
      rw [argE_bad (Nat.zero_le _)]; trivial
  obtain ⟨M1, hM1, hr1⟩ := RR.frzRows l hrr hf
  have hM2 : ∀ b, M1 b → b < w.heap.size := fun b hb => (hr1.zone b hb).1
  have hz : ∀ (j : Nat) (x : Value) (e : AV), vs[j]? = some x → (largs.map (argA (frzRows H l)))[j]? = some e → RepZ w (fun b => b < w.heap.size) x e := fun j x e h1 h2 => by
    rw [List.getElem?_map] at h2
    cases h3 : largs[j]? with
    | none => rw [h3] at h2; cases h2
    | some e0 =>
      rw [h3] at h2
      obtain rfl : argA (frzRows H l) e0 = e := by simpa using h2
      obtain ⟨h4, h5⟩ := hvs j x e0 h1 h3
      have h6 : Rep w M1 loc x e0 := Rep.mono (n := H.length) (fun _ _ => rfl) hM1 (fun _ _ => rfl) h4 h5
      refine argA_ok hr1 hM2 h6 (List.all_eq_true.1 ho _ (List.mem_map.2 ⟨e0, List.mem_of_getElem? h3, rfl⟩)) fun id o _ e2 g hg => ?_
      obtain ⟨xs, hown, _⟩ := (hr1.obj id o e2).own
      exact (hown.lt g hg).2
  refine (h (fun b => b < w.heap.size) w vs (fun _ h => h) (hgl.mono (fun _ _ => rfl) fun b hb => hM2 b (hM1 b hb)) (by simp [hl]) hz).mono fun e w' ⟨x, he, hb, hx⟩ => ?_
  have hxr : x = rv := (RepZ.rep (loc := loc) hx).v_inv
  subst hxr
  exact ⟨x, M, loc, he, heapS_below hM hH hb, ⟨hb.os, hb.tape, hb.output, hb.size, fun k hk _ => hb.block k hk⟩, fun _ h => h, fun b hb' => ⟨Nat.lt_of_lt_of_le (hM b hb') hb.size, .inl hb'⟩, fun _ _ => rfl, (RepZ.v x).rep, trivial, Nat.le_refl _⟩
end Go.Proofs.Ytndiamkmcoghdaa

namespace Go.Proofs.Ytndiamkmcoghdaa
open Go.RowKit Go.Ab
abbrev xA : List (Int × Int) := [(1, 8), (2, 4)]
abbrev x1 : List Fd := [⟨10, 0, 5, xA, [0]⟩]
abbrev x2 : List Fd := [⟨5, 2, 0, xA, [0]⟩]
abbrev x3 : List Fd := [⟨10, 0, 0, [(7, 8)], [0, 500]⟩, ⟨10, 0, 0, [], [0, 0]⟩]
theorem xr1 : fewV x1 = true ∧ rightV x1 = true := by decide
theorem xr2 : fewV x2 = true ∧ rightV x2 = true := by decide
theorem xr3 : fewV x3 = true ∧ rightV x3 = true := by decide
theorem xo1 : owedL x1 = [12] := by decide +kernel
theorem xo2 : owedL x2 = [12] := by decide +kernel
theorem xo3 : owedL x3 = [4, 4] := by decide +kernel
theorem xs1 : share [8, 4] 12 = [8, 4] := by
  rcases share_cases (C := [8, 4]) (h := 12) (by decide) (by decide) with ⟨_, h⟩ | ⟨h, _⟩
  · exact h
  · exact absurd (by decide) h
theorem xs3 : share [8] 8 = [8] := by
  rcases share_cases (C := [8]) (h := 8) (by decide) (by decide) with ⟨_, h⟩ | ⟨h, _⟩
  · exact h
  · exact absurd (by decide) h
theorem xs2 : share [8, 4] 7 = [4, 3] := by
  rcases share_cases (C := [8, 4]) (h := 7) (by decide) (by decide) with ⟨h, _⟩ | ⟨_, l, h, e⟩
  · exact absurd h (by decide)
  · have : l = 3 := isLv_uniq h (by constructor <;> decide)
    subst this
    rw [e]; decide
theorem xg1 : gets x1 = [8, 4] := by
  unfold gets; rw [xo1, show asksK x1 x1.length = [8, 4] from rfl, show paidK x1 [12] x1.length = 12 from rfl, xs1]
theorem xg2 : gets x2 = [4, 3] := by
  unfold gets; rw [xo2, show asksK x2 x2.length = [8, 4] from rfl, show paidK x2 [12] x2.length = 7 from rfl, xs2]
theorem xg3 : gets x3 = [8] := by
  unfold gets; rw [xo3, show asksK x3 x3.length = [8] from rfl, show paidK x3 [4, 4] x3.length = 8 from rfl, xs3]
theorem xy1 : Means false Try.prog 11 [.sl (x1.map fo)] (.tup [.sl (([⟨3, 0, 0, [], [0]⟩] : List Fd).map fo), .sl ([xA].map awl), ii 0]) := by
  have h := year_m x1 xr1.1 xr1.2
  rwa [xo1, xg1, show outK x1 [12] x1.length = [⟨3, 0, 0, [], [0]⟩] from rfl, show awAll x1 [8, 4] x1.length = [xA] from rfl] at h
theorem xy2 : Means false Try.prog 11 [.sl (x2.map fo)] (.tup [.sl (([⟨0, 0, 0, [], [0]⟩] : List Fd).map fo), .sl ([[(1, 4), (2, 3)]].map awl), ii 0]) := by
  have h := year_m x2 xr2.1 xr2.2
  rwa [xo2, xg2, show outK x2 [12] x2.length = [⟨0, 0, 0, [], [0]⟩] from rfl, show awAll x2 [4, 3] x2.length = [[(1, 4), (2, 3)]] from rfl] at h
theorem xy3 : Means false Try.prog 11 [.sl (x3.map fo)] (.tup [.sl (([⟨6, 0, 0, [], [0, 500]⟩, ⟨6, 0, 0, [], [0, 0]⟩] : List Fd).map fo), .sl ([[(7, 8)], []].map awl), ii 0]) := by
  have h := year_m x3 xr3.1 xr3.2
  rwa [xo3, xg3, show outK x3 [4, 4] x3.length = [⟨6, 0, 0, [], [0, 500]⟩, ⟨6, 0, 0, [], [0, 0]⟩] from rfl, show awAll x3 [8] x3.length = [[(7, 8)], []] from rfl] at h
theorem xw3 : Means false Try.prog 10 [.sl (x3.map fo)] (.tup [il [4, 4], ii 0]) := by
  have h := owed_m x3 xr3.1 xr3.2
  rwa [xo3] at h
attribute [local irreducible] AWP Go.Ab.Sub Means MeansH CallK CallG CallT CallGT CallU
set_option maxHeartbeats 8000000 in
set_option maxRecDepth 20000 in
theorem psmall_m : Means false Try.prog 7 [] (bb true) := by
  have c1 := xy1
  have c2 := xy2
  have c3 := xy3
  have c4 := xw3
  have i1 := pints_m [4, 4] [4, 4] (by decide) (by decide)
  have s1 := plists_m [xA] [xA] (by decide) (by decide)
  have s2 := plists_m [[(1, 4), (2, 3)]] [[(1, 4), (2, 3)]] (by decide) (by decide)
  have s3 := plists_m [[(7, 8)], []] [[(7, 8)], []] (by decide) (by decide)
  have r0 := pright_m [] (by decide)
  rw [decide_eq_true rfl] at i1 s1 s2 s3
  rw [show rightV [] = false by decide] at r0
  simp only [List.map_cons, List.map_nil] at c1 c2 c3 c4 s1 s2 s3 r0 i1
  have s2h : MeansH Try.prog 23 [.row ⟨38, 2, [cl (1, 4), cl (2, 3)]⟩, .row ⟨34, 1, [.ow 0]⟩] [.sl [awl [(1, 4), (2, 3)]], .ow 1] (bb true) [.row ⟨38, 2, [cl (1, 4), cl (2, 3)]⟩, .row ⟨34, 1, [.ow 0]⟩] :=
    meansZ_h [1] s2 (by simp [frzOK, nestIds, AV.flat, AV.idB]) rfl (by rfl)
  have s3h : MeansH Try.prog 23 [.row ⟨38, 2, [cl (7, 8)]⟩, .row ⟨34, 1, [.ow 0, .nil]⟩] [.sl [awl [(7, 8)], awl []], .ow 1] (bb true) [.row ⟨38, 2, [cl (7, 8)]⟩, .row ⟨34, 1, [.ow 0, .nil]⟩] :=
    meansZ_h [1] s3 (by simp [frzOK, nestIds, AV.flat, AV.idB]) rfl (by rfl)
  refine means_fn false 147 [.tmp 0] Try.func7 rfl rfl rfl (by simp) (by decide) rfl fun X hX => ?_
  (repeat (first | refine awp_seq ?_ | refine awp_block ?_))
  ((first | refine awp_runG [0, 1, 2, 3, 4, 5, 6, 7, 8, 9, 10, 11, 12, 13, 14, 82] hX ?_ | refine awp_drawnG [0, 1, 2, 3, 4, 5, 6, 7, 8, 9, 10, 11, 12, 13, 14, 82] hX mixed ?_ | refine awp_ret ?_ | refine awp_skip ?_ | refine awp_exit ?_); (simp [go_sem]; try (refine ⟨by kernel_rfl, ?_⟩)))
  (repeat (first | refine awp_seq ?_ | refine awp_block ?_))
  refine awp_cut ⟨mkE [(0, bb false), (1, awl xA)], []⟩ ?_ ?_
  · ((first | refine awp_runG [0, 1, 2, 3, 4, 5, 6, 7, 8, 9, 10, 11, 12, 13, 14, 82] hX ?_ | refine awp_drawnG [0, 1, 2, 3, 4, 5, 6, 7, 8, 9, 10, 11, 12, 13, 14, 82] hX mixed ?_ | refine awp_ret ?_ | refine awp_skip ?_ | refine awp_exit ?_); (simp [go_sem]; try (refine ⟨by kernel_rfl, ?_⟩)))
    refine sub_of _ [] (by simp [go_sem]) ?_
    simp [go_sem]
  (simp [go_sem]; try (refine ⟨by kernel_rfl, ?_⟩))
  (repeat (refine awp_stepG [0, 1, 2, 3, 4, 5, 6, 7, 8, 9, 10, 11, 12, 13, 14, 82] hX mixed rfl ?_; (simp [go_sem]; try (refine ⟨by kernel_rfl, ?_⟩))))
  refine callZ_intro [1] c1 (by simp [go_sem]) (by simp [go_sem]) (by simp [go_sem]) (by simp [go_sem]) ?_
  try (simp [go_sem]; try (refine ⟨by kernel_rfl, ?_⟩))
  (repeat (refine awp_stepG [0, 1, 2, 3, 4, 5, 6, 7, 8, 9, 10, 11, 12, 13, 14, 82] hX mixed rfl ?_; (simp [go_sem]; try (refine ⟨by kernel_rfl, ?_⟩))))
  refine callZ_intro [3] c2 (by simp [go_sem]) (by simp [go_sem]) (by simp [go_sem]) (by simp [go_sem]) ?_
  try (simp [go_sem]; try (refine ⟨by kernel_rfl, ?_⟩))
  (repeat (first | refine awp_seq ?_ | refine awp_block ?_))
  refine awp_cut ⟨mkE [(0, bb false), (1, awl xA), (2, .sl [fo ⟨3, 0, 0, [], [0]⟩]), (3, .sl [awl xA]), (4, ii 0), (5, .sl [fo ⟨0, 0, 0, [], [0]⟩]), (6, .sl [awl [(1, 4), (2, 3)]]), (7, ii 0), (8, .sl [fo ⟨10, 0, 0, [(7, 8)], [0, 500]⟩, fo ⟨10, 0, 0, [], [0, 0]⟩])], []⟩ ?_ ?_
  · ((first | refine awp_runG [0, 1, 2, 3, 4, 5, 6, 7, 8, 9, 10, 11, 12, 13, 14, 82] hX ?_ | refine awp_drawnG [0, 1, 2, 3, 4, 5, 6, 7, 8, 9, 10, 11, 12, 13, 14, 82] hX mixed ?_ | refine awp_ret ?_ | refine awp_skip ?_ | refine awp_exit ?_); (simp [go_sem]; try (refine ⟨by kernel_rfl, ?_⟩)))
    refine sub_trans (b := ⟨mkE [(0, bb false), (1, awl xA), (2, .sl [fo ⟨3, 0, 0, [], [0]⟩]), (3, .sl [awl xA]), (4, ii 0), (5, .sl [fo ⟨0, 0, 0, [], [0]⟩]), (6, .sl [awl [(1, 4), (2, 3)]]), (7, ii 0), (8, .ow 0)], [.row ⟨36, 5, [fo ⟨10, 0, 0, [(7, 8)], [0, 500]⟩, fo ⟨10, 0, 0, [], [0, 0]⟩]⟩]⟩) ?_ ?_
    · refine sub_of _ [] (by simp [go_sem]) ?_
      simp [go_sem]
    · refine sub_of _ [.old 7 ⟨36, 5, [fo ⟨10, 0, 0, [(7, 8)], [0, 500]⟩, fo ⟨10, 0, 0, [], [0, 0]⟩]⟩] (by simp [go_sem]) ?_
      simp [go_sem]
  (simp [go_sem]; try (refine ⟨by kernel_rfl, ?_⟩))
  (repeat (refine awp_stepG [0, 1, 2, 3, 4, 5, 6, 7, 8, 9, 10, 11, 12, 13, 14, 82] hX mixed rfl ?_; (simp [go_sem]; try (refine ⟨by kernel_rfl, ?_⟩))))
  first | refine callKa (c4) ?_ | refine callTa (c4) ?_
  try (simp [go_sem]; try (refine ⟨by kernel_rfl, ?_⟩))
  (repeat (refine awp_stepG [0, 1, 2, 3, 4, 5, 6, 7, 8, 9, 10, 11, 12, 13, 14, 82] hX mixed rfl ?_; (simp [go_sem]; try (refine ⟨by kernel_rfl, ?_⟩))))
  first | refine callKa (c3) ?_ | refine callTa (c3) ?_
  try (simp [go_sem]; try (refine ⟨by kernel_rfl, ?_⟩))
  (repeat (refine awp_stepG [0, 1, 2, 3, 4, 5, 6, 7, 8, 9, 10, 11, 12, 13, 14, 82] hX mixed rfl ?_; (simp [go_sem]; try (refine ⟨by kernel_rfl, ?_⟩))))
  refine awp_cond (b := false) (by simp [go_sem]) (fun h => by cases h) (fun _ => ?_)
  (repeat (refine awp_stepG [0, 1, 2, 3, 4, 5, 6, 7, 8, 9, 10, 11, 12, 13, 14, 82] hX mixed rfl ?_; (simp [go_sem]; try (refine ⟨by kernel_rfl, ?_⟩))))
  first | refine callGa (fun hg => s1) ?_ | refine callGTa (fun hg => s1) ?_
  try (simp [go_sem]; try (refine ⟨by kernel_rfl, ?_⟩))
  first | refine callHG_intro [1, 2] (fun hg => s2h) (by simp [go_sem]) (by simp [go_sem]) ?_ | refine callHGT_intro [1, 2] (fun hg => s2h) (by simp [go_sem]) ?_
  try (simp [go_sem]; try (refine ⟨by kernel_rfl, ?_⟩))
  (repeat (refine awp_stepG [0, 1, 2, 3, 4, 5, 6, 7, 8, 9, 10, 11, 12, 13, 14, 82] hX mixed rfl ?_; (simp [go_sem]; try (refine ⟨by kernel_rfl, ?_⟩))))
  first | refine callGa (fun hg => i1) ?_ | refine callGTa (fun hg => i1) ?_
  try (simp [go_sem]; try (refine ⟨by kernel_rfl, ?_⟩))
  first | refine callHG_intro [4, 5] (fun hg => s3h) (by simp [go_sem]) (by simp [go_sem]) ?_ | refine callHGT_intro [4, 5] (fun hg => s3h) (by simp [go_sem]) ?_
  try (simp [go_sem]; try (refine ⟨by kernel_rfl, ?_⟩))
  first | refine callGa (fun hg => r0) ?_ | refine callGTa (fun hg => r0) ?_
  try (simp [go_sem]; try (refine ⟨by kernel_rfl, ?_⟩))
  (repeat (refine awp_stepG [0, 1, 2, 3, 4, 5, 6, 7, 8, 9, 10, 11, 12, 13, 14, 82] hX mixed rfl ?_; (simp [go_sem]; try (refine ⟨by kernel_rfl, ?_⟩))))
end Go.Proofs.Ytndiamkmcoghdaa

namespace Go.Proofs.Ytndiamkmcoghdaa
open Go.RowKit Go.Ab
structure YearOk (F : List Fd) (o G : List Int) : Prop where
  ol : o.length = F.length
  ob : ∀ x ∈ o, 0 ≤ x ∧ x ≤ 6597069766657
  os : sumI o = sumI (ownL F)
  gl : G.length = (asksK F F.length).length
  al : (asksK F F.length).length ≤ 40
  ge : G = share (asksK F F.length) (paidK F o F.length)
  ok : okC' (asksK F F.length) = true
  pb : 0 ≤ paidK F o F.length
  gs : sumI G = paidK F o F.length
  gb : ∀ (t : Nat) (h : t < G.length) (h' : t < (asksK F F.length).length), 0 ≤ G[t] ∧ G[t] ≤ (asksK F F.length)[t]
theorem asks_sum (F : List Fd) : ∀ k, k ≤ F.length → sumI (asksK F k) = sumI ((ownL F).take k)
  | 0, _ => by simp [asksK, sumI]
  | k + 1, h => by
    rw [asksK_next (by omega), sumI_app, asks_sum F k (by omega), ownL_next (show k < F.length by omega), sumI_snoc]
theorem paid_le {F : List Fd} {o : List Int} (ho : o.length = F.length) : ∀ k, k ≤ F.length → paidK F o k ≤ sumI (o.take k)
  | 0, _ => by simp [paidK, sumI]
  | k + 1, hk => by
    rw [paidK_next (by omega) (by omega), sumI_next (show k < o.length by omega)]
    have := paid_le ho k (by omega)
    have : payV F[k] o[k] ≤ o[k] := by simp only [payV]; omega
    omega
theorem year_ok {F : List Fd} (hf : fewV F = true) (hr : rightV F = true) : YearOk F (owedL F) (gets F) := by
  have h5 := few_5 hf
  have hv := rv_of hr
  have hc := owned hv h5
  have hoL := ownL_len F
  have hol : (owedL F).length = F.length := by have := hc.len; unfold owedL; omega
  have hpb := paid_bd hv hol fun x hx => (hc.bd x hx).1
  have ham := many_bd hf F.length (Nat.le_refl _)
  have hal : (asksK F F.length).length ≤ 40 := by rw [asksK_len F F.length (Nat.le_refl _)]; omega
  have hpn := hpb F.length (Nat.le_refl _)
  have hok : okC' (asksK F F.length) = true := asks_ok hv _
  have hgl : (gets F).length = (asksK F F.length).length := share_len hok hpn.1
  have hle := paid_le hol F.length (Nat.le_refl _)
  rw [List.take_of_length_le (by omega)] at hle
  have hs : sumI (owedL F) = sumI (ownL F) := hc.sum
  have ha := asks_sum F F.length (Nat.le_refl _)
  rw [List.take_of_length_le (by omega)] at ha
  refine ⟨hol, hc.bd, hs, hgl, hal, rfl, hok, hpn.1, ?_, fun t h h' => share_in hok hpn.1 h' h⟩
  have := share_sum hok hpn.1
  rw [sumI_L]
  show sumL (share _ _) = _
  rw [this, ← sumI_L, ha]
  omega
theorem out_sum {F : List Fd} {o : List Int} (ho : o.length = F.length) : ∀ k, k ≤ F.length → sumI ((outK F o k).map hasF) = sumI ((F.map hasF).take k) - paidK F o k
  | 0, _ => by simp [outK, paidK, sumI]
  | k + 1, hk => by
    have hk1 : k < F.length := by omega
    have hk2 : k < o.length := by omega
    rw [outK_next hk1 hk2, List.map_append, List.map_cons, List.map_nil, sumI_snoc, out_sum ho k (by omega), paidK_next hk1 hk2, sumI_next (show k < (F.map hasF).length by simpa using hk1), List.getElem_map, has_out]
    omega
theorem has_left {F : List Fd} {o : List Int} (ho : o.length = F.length) : hasV (outK F o F.length) = hasV F - paidK F o F.length := by
  unfold hasV
  rw [out_sum ho F.length (Nat.le_refl _), List.take_of_length_le (by simp)]
theorem outs_am {F : List Fd} {o : List Int} (hv : RV F) (ho : o.length = F.length) (hq : ∀ x ∈ o, 0 ≤ x) : ∀ f ∈ outK F o F.length, AmF f := fun f hf => by
  obtain ⟨i, hi, rfl⟩ := List.mem_map.1 hf
  have hi : i < F.length := by simpa using hi
  rw [getF hi, getD_at (show i < o.length by omega)]
  have h := hv.at' i hi
  exact out_am h.hol h.res h.inc (hq _ (List.getElem_mem _))
theorem off_next {F : List Fd} {i : Nat} (h : i < F.length) : (asksK F (i + 1)).length = (asksK F i).length + F[i].claims.length := by rw [asksK_next h, List.length_append, nums_len]
theorem off_le {F : List Fd} {i : Nat} (h : i ≤ F.length) : (asksK F i).length ≤ (asksK F F.length).length := by
  have : asksK F F.length = asksK F i ++ (F.drop i).flatMap fun f => nums f.claims := by
    unfold asksK; rw [← List.flatMap_append, List.take_append_drop, List.take_length]
  rw [this, List.length_append]; omega
theorem sum_bd40 {l : List Int} (h : ∀ x ∈ l, 0 ≤ x ∧ x ≤ 6597069766657) : ∀ k, k ≤ l.length → 0 ≤ sumI (l.take k) ∧ sumI (l.take k) ≤ 6597069766657 * k
  | 0, _ => by simp [sumI]
  | k + 1, hk => by
    rw [sumI_next (show k < l.length by omega)]
    have := sum_bd40 h k (by omega)
    have := h l[k] (List.getElem_mem (by omega))
    omega
end Go.Proofs.Ytndiamkmcoghdaa

namespace Go.Proofs.Ytndiamkmcoghdaa
open Go.RowKit Go.Ab
attribute [-simp] List.map_take
attribute [local irreducible] AWP Go.Ab.Sub Means MeansH CallK CallG CallT CallGT CallU
set_option maxHeartbeats 16000000 in
set_option maxRecDepth 20000 in
theorem poolYear_m (F : List Fd) (hl0 : F.length ≤ maxLen) : Means false Try.prog 3 [.sl (F.map fo)] (bb true) := by
  have hl : F.length ≤ 9223372036854775807 := by unfold maxLen at hl0; omega
  have c0 := psmall_m
  have c1 := pfew_m F hl
  refine means_fn false 175 [.tmp 2] Try.func3 rfl rfl rfl (by simp) (by decide) rfl fun X hX => ?_
  (repeat (refine awp_stepG [0, 2, 3, 4, 5, 6, 7, 8, 9, 10, 11, 12, 13, 14, 23, 55, 59, 98, 118, 159] hX mixed rfl ?_; (simp [go_sem]; try (refine ⟨by kernel_rfl, ?_⟩))))
  first | refine callKa (c0) ?_ | refine callTa (c0) ?_
  try (simp [go_sem]; try (refine ⟨by kernel_rfl, ?_⟩))
  (repeat (refine awp_stepG [0, 2, 3, 4, 5, 6, 7, 8, 9, 10, 11, 12, 13, 14, 23, 55, 59, 98, 118, 159] hX mixed rfl ?_; (simp [go_sem]; try (refine ⟨by kernel_rfl, ?_⟩))))
  first | refine callKa (c1) ?_ | refine callTa (c1) ?_
  try (simp [go_sem]; try (refine ⟨by kernel_rfl, ?_⟩))
  first | refine callGa (fun hg => pright_m F (by simpa using hg)) ?_ | refine callGTa (fun hg => pright_m F (by simpa using hg)) ?_
  try (simp [go_sem]; try (refine ⟨by kernel_rfl, ?_⟩))
  refine awp_cond (b := !fewV F || !rightV F) (by simp [go_sem]) (fun hb => ?_) (fun hb => ?_)
  · (repeat (refine awp_stepG [0, 2, 3, 4, 5, 6, 7, 8, 9, 10, 11, 12, 13, 14, 23, 55, 59, 98, 118, 159] hX mixed rfl ?_; (simp [go_sem]; try (refine ⟨by kernel_rfl, ?_⟩))))
  · have hf : fewV F = true := by simp at hb; exact hb.1
    have hr : rightV F = true := by simp at hb; exact hb.2
    have h5 := few_5 hf
    have hv := rv_of hr
    have c2 := owed_m F hf hr
    have c3 := year_m F hf hr
    have hY := year_ok hf hr
    generalize owedL F = o at *
    generalize gets F = G at *
    have c4 := formed_m F o G (by omega) hv hY.ol fun x hx => (hY.ob x hx).1
    have hol := hY.ol
    have hoL := ownL_len F
    have c5 := phasV_m F (by omega) hv.am
    have c6 := phasV_m (outK F o F.length) (by rw [outK_len]; omega) (outs_am hv hol fun x hx => (hY.ob x hx).1)
    have hleft := has_left (F := F) hol
    have l1 := outK_len F o F.length
    have l2 := awAll_len F G F.length
    have hown : ∀ x ∈ ownL F, 0 ≤ x ∧ x ≤ 6597069766657 := fun x hx => by
      obtain ⟨f, hf', rfl⟩ := List.mem_map.1 hx
      obtain ⟨i, hi, rfl⟩ := List.getElem_of_mem hf'
      have := okCl_bd (hv.at' i hi).cla
      omega
    have hgb : ∀ x ∈ G, 0 ≤ x ∧ x ≤ 6597069766657 := fun x hx => by
      obtain ⟨t, ht, rfl⟩ := List.getElem_of_mem hx
      have h1 := hY.gb t ht (by rw [← hY.gl]; exact ht)
      have h2 := asks_mem hv (List.getElem_mem (show t < (asksK F F.length).length by rw [← hY.gl]; exact ht))
      omega
    have so := sum_bd40 hY.ob
    have sw := sum_bd40 hown
    have sg := sum_bd40 hgb
    have hgl := hY.gl
    have hal := hY.al
    (repeat (refine awp_stepG [0, 2, 3, 4, 5, 6, 7, 8, 9, 10, 11, 12, 13, 14, 23, 55, 59, 98, 118, 159] hX mixed rfl ?_; (simp [go_sem]; try (refine ⟨by kernel_rfl, ?_⟩))))
    first | refine callKa (c2) ?_ | refine callTa (c2) ?_
    try (simp [go_sem]; try (refine ⟨by kernel_rfl, ?_⟩))
    (repeat (refine awp_stepG [0, 2, 3, 4, 5, 6, 7, 8, 9, 10, 11, 12, 13, 14, 23, 55, 59, 98, 118, 159] hX mixed rfl ?_; (simp [go_sem]; try (refine ⟨by kernel_rfl, ?_⟩))))
    first | refine callKa (c3) ?_ | refine callTa (c3) ?_
    try (simp [go_sem]; try (refine ⟨by kernel_rfl, ?_⟩))
    (repeat (refine awp_stepG [0, 2, 3, 4, 5, 6, 7, 8, 9, 10, 11, 12, 13, 14, 23, 55, 59, 98, 118, 159] hX mixed rfl ?_; (simp [go_sem]; try (refine ⟨by kernel_rfl, ?_⟩))))
    first | refine callGa (fun hg => c4) ?_ | refine callGTa (fun hg => c4) ?_
    try (simp [go_sem, hol]; try (refine ⟨by kernel_rfl, ?_⟩))
    refine awp_cond (b := false) (by simp [go_sem, hol]) (fun h => by cases h) (fun _ => ?_)
    (repeat (refine awp_stepG [0, 2, 3, 4, 5, 6, 7, 8, 9, 10, 11, 12, 13, 14, 23, 55, 59, 98, 118, 159] hX mixed rfl ?_; (simp [go_sem]; try (refine ⟨by kernel_rfl, ?_⟩))))
    refine awp_loop (fun i : Nat => ⟨mkE [(0, .sl (F.map fo)), (2, bb false), (3, bb true), (4, il o), (6, .sl ((outK F o F.length).map fo)), (7, .sl ((awAll F G F.length).map awl)), (9, ii (sumI (G.take (asksK F i).length))), (10, ii (sumI (o.take i))), (11, ii (sumI ((ownL F).take i))), (12, ii i)], []⟩) (fun i => i ≤ F.length) (fun i => F.length - i) 0 ?_ ?_ ?_
    · refine sub_of _ [] (by simp [go_sem]) ?_
      simp [go_sem, asksK, sumI]
    · omega
    · intro i hi
      have so1 := so i (by omega)
      have sw1 := sw i (by omega)
      have hoi := off_le hi
      (repeat (refine awp_stepG [0, 2, 3, 4, 5, 6, 7, 8, 9, 10, 11, 12, 13, 14, 23, 55, 59, 98, 118, 159] hX mixed rfl ?_; (simp [go_sem]; try (refine ⟨by kernel_rfl, ?_⟩))))
      refine awp_cond (b := decide (i < F.length)) (by simp [go_sem]) (fun hb2 => ?_) (fun hb2 => ?_)
      · simp at hb2
        have hio : i < o.length := by omega
        have a1 : i < (outK F o F.length).length := by omega
        have a2 : i < (awAll F G F.length).length := by omega
        have e1 := out_get (F := F) (o := o) hb2 hb2 hio a1
        have e2 := aw_get (F := F) (G := G) hb2 hb2 a2
        have hat := hv.at' i hb2
        have hqi := (hY.ob o[i] (List.getElem_mem hio))
        have am1 := hv.am F[i] (List.getElem_mem hb2)
        have am2 := out_am hat.hol hat.res hat.inc hqi.1
        have d1 := phas_m F[i] am1
        have d2 := phas_m (outF F[i] o[i]) am2
        have d3 := pown_m F[i] (by have := (few_at hf (List.getElem_mem hb2)).1; omega)
        rw [if_pos hat.cla] at d3
        have ho := has_out F[i] o[i]
        have b1 := am1.bd
        have b2 := am2.bd
        have n1 := sumI_next hio
        have n2 := ownL_next hb2
        have n3 := off_next hb2
        have so2 := so (i + 1) (by omega)
        have sw2 := sw (i + 1) (by omega)
        have hoi2 := off_le (F := F) (i := i + 1) (by omega)
        rw [n2, sumI_snoc] at sw2
        rw [n1] at so2
        have hp : payV F[i] o[i] = hasF F[i] ∨ payV F[i] o[i] = o[i] := by simp only [payV, freeV, hasF]; omega
        have hp2 := pay_bd hat.hol hat.res hat.inc hqi.1
        have w1 := w64 (x := hasF F[i] - hasF (outF F[i] o[i])) (by omega) (by omega)
        have hn : hasF F[i] - hasF (outF F[i] o[i]) = payV F[i] o[i] := by omega
        rw [hn] at w1
        have w2 := w64 (x := sumI (o.take i) + o[i]) (by omega) (by omega)
        have w3 := w64 (x := sumI ((ownL F).take i) + sumI (nums F[i].claims)) (by omega) (by omega)
        obtain ⟨p, hpe⟩ : ∃ p, payV F[i] o[i] = p := ⟨_, rfl⟩
        rw [hpe] at hp hp2 w1 ho hn
        have q1 : ¬ p < 0 := by omega
        have q2 : ¬ o[i] < p := by omega
        have q3 : p < o[i] → ¬ 0 < hasF (outF F[i] o[i]) := by omega
        (repeat (refine awp_stepG [0, 2, 3, 4, 5, 6, 7, 8, 9, 10, 11, 12, 13, 14, 23, 55, 59, 98, 118, 159] hX mixed rfl ?_; (simp [go_sem, hb2, hio, a1, a2, e1, e2]; try (refine ⟨by kernel_rfl, ?_⟩))))
        first | refine callKa (d1) ?_ | refine callTa (d1) ?_
        try (simp [go_sem, hb2, hio, a1, a2, e1, e2]; try (refine ⟨by kernel_rfl, ?_⟩))
        first | refine callKa (d2) ?_ | refine callTa (d2) ?_
        try (simp [go_sem, hb2, hio, a1, a2, e1, e2, hn, w1]; try (refine ⟨by kernel_rfl, ?_⟩))
        (repeat (refine awp_stepG [0, 2, 3, 4, 5, 6, 7, 8, 9, 10, 11, 12, 13, 14, 23, 55, 59, 98, 118, 159] hX mixed rfl ?_; (simp [go_sem, hb2, hio, a1, a2, e1, e2, hn, w1]; try (refine ⟨by kernel_rfl, ?_⟩))))
        first | refine callGa (fun hg => d2) ?_ | refine callGTa (fun hg => d2) ?_
        try (simp [go_sem]; try (refine ⟨by kernel_rfl, ?_⟩))
        refine ⟨fun a b c => ⟨⟨a, b⟩, c⟩, ?_⟩
        refine awp_cond (b := false) ?_ (fun h => by cases h) (fun _ => ?_)
        · simp [go_sem, q1, q2]
          intro h
          have := q3 h
          omega
        (repeat (refine awp_stepG [0, 2, 3, 4, 5, 6, 7, 8, 9, 10, 11, 12, 13, 14, 23, 55, 59, 98, 118, 159] hX mixed rfl ?_; (simp [go_sem, hb2, hio, w2]; try (refine ⟨by kernel_rfl, ?_⟩))))
        first | refine callKa (d3) ?_ | refine callTa (d3) ?_
        try (simp [go_sem, w3]; try (refine ⟨by kernel_rfl, ?_⟩))
        (repeat (refine awp_stepG [0, 2, 3, 4, 5, 6, 7, 8, 9, 10, 11, 12, 13, 14, 23, 55, 59, 98, 118, 159] hX mixed rfl ?_; (simp [go_sem, w3]; try (refine ⟨by kernel_rfl, ?_⟩))))
        refine awp_loop (fun j : Nat => ⟨mkE [(0, .sl (F.map fo)), (2, bb false), (3, bb true), (4, il o), (6, .sl ((outK F o F.length).map fo)), (7, .sl ((awAll F G F.length).map awl)), (9, ii (sumI (G.take ((asksK F i).length + j)))), (10, ii (sumI (o.take (i + 1)))), (11, ii (sumI ((ownL F).take (i + 1)))), (12, ii i), (14, ii j)], []⟩) (fun j => j ≤ F[i].claims.length) (fun j => F[i].claims.length - j) 0 ?_ ?_ ?_
        · refine sub_of _ [] (by simp [go_sem]) ?_
          simp [go_sem, n1, n2, sumI_snoc]
        · omega
        · intro j hj
          have l3 := awK_len F G i F[i].claims.length
          have sg1 := sg ((asksK F i).length + j) (by omega)
          (repeat (refine awp_stepG [0, 2, 3, 4, 5, 6, 7, 8, 9, 10, 11, 12, 13, 14, 23, 55, 59, 98, 118, 159] hX mixed rfl ?_; (simp [go_sem, hb2, a2, e2, l3]; try (refine ⟨by kernel_rfl, ?_⟩))))
          refine awp_cond (b := decide (j < F[i].claims.length)) (by simp [go_sem]) (fun hc => ?_) (fun hc => ?_)
          · simp at hc
            have hg : (asksK F i).length + j < G.length := by omega
            have a3 : j < (awK F G i F[i].claims.length).length := by omega
            have e3 := awK_get (F := F) (G := G) hb2 hc hc hg a3
            have n4 := sumI_next hg
            have sg2 := sg ((asksK F i).length + j + 1) (by omega)
            rw [n4] at sg2
            have w4 := w64 (x := sumI (G.take ((asksK F i).length + j)) + G[(asksK F i).length + j]) (by omega) (by omega)
            have gb := hgb _ (List.getElem_mem hg)
            have q4 : ¬ G[(asksK F i).length + j] < 0 := by omega
            (repeat (refine awp_stepG [0, 2, 3, 4, 5, 6, 7, 8, 9, 10, 11, 12, 13, 14, 23, 55, 59, 98, 118, 159] hX mixed rfl ?_; (simp [go_sem, hb2, a2, e2, l3, a3, e3, hc, w4, q4]; try (refine ⟨by kernel_rfl, ?_⟩))))
            refine awp_cond (b := false) (by simp [go_sem]) (fun h => by cases h) (fun _ => ?_)
            (repeat (refine awp_stepG [0, 2, 3, 4, 5, 6, 7, 8, 9, 10, 11, 12, 13, 14, 23, 55, 59, 98, 118, 159] hX mixed rfl ?_; (simp [go_sem, hc]; (try simp (disch := omega) only [w64, td, tm]); try (refine ⟨by kernel_rfl, ?_⟩))))
            refine ⟨j + 1, by omega, by omega, ?_⟩
            rw [← Nat.add_assoc, n4]
            refine sub_of _ [] (by simp [go_sem]) ?_
            simp [go_sem]
          · have hjl : j = F[i].claims.length := by simp at hc; omega
            subst hjl
            (repeat (refine awp_stepG [0, 2, 3, 4, 5, 6, 7, 8, 9, 10, 11, 12, 13, 14, 23, 55, 59, 98, 118, 159] hX mixed rfl ?_; (simp [go_sem]; (try simp (disch := omega) only [w64, td, tm]); try (refine ⟨by kernel_rfl, ?_⟩))))
            refine ⟨i + 1, by omega, by omega, ?_⟩
            refine sub_of _ [] (by simp [go_sem]) ?_
            simp [go_sem, n3]
      · have hil : i = F.length := by simp at hb2; omega
        subst hil
        have t1 : o.take F.length = o := List.take_of_length_le (by omega)
        have t2 : (ownL F).take F.length = ownL F := List.take_of_length_le (by omega)
        have t3 : G.take (asksK F F.length).length = G := List.take_of_length_le (by omega)
        have hs := hY.os
        have hgs := hY.gs
        have hpb := hY.pb
        have hgf := sg G.length (Nat.le_refl _)
        rw [List.take_length] at hgf
        rw [t1, t2, t3, hs]
        have bh := has_bd hv.am F.length (Nat.le_refl _)
        rw [show (F.map hasF).take F.length = F.map hasF from List.take_of_length_le (by simp)] at bh
        have bh2 : 0 ≤ hasV F ∧ hasV F ≤ 9895604649984 * F.length := bh
        have w5 := w64 (x := hasV (outK F o F.length) + sumI G) (by omega) (by omega)
        have hfin : hasV F = hasV (outK F o F.length) + sumI G := by omega
        (repeat (refine awp_stepG [0, 2, 3, 4, 5, 6, 7, 8, 9, 10, 11, 12, 13, 14, 23, 55, 59, 98, 118, 159] hX mixed rfl ?_; (simp [go_sem]; try (refine ⟨by kernel_rfl, ?_⟩))))
        first | refine callGa (fun hg => c5) ?_ | refine callGTa (fun hg => c5) ?_
        try (simp [go_sem]; try (refine ⟨by kernel_rfl, ?_⟩))
        first | refine callGa (fun hg => c6) ?_ | refine callGTa (fun hg => c6) ?_
        try (simp [go_sem, w5]; try (refine ⟨by kernel_rfl, ?_⟩))
        rw [decide_eq_true hfin]
        (repeat (refine awp_stepG [0, 2, 3, 4, 5, 6, 7, 8, 9, 10, 11, 12, 13, 14, 23, 55, 59, 98, 118, 159] hX mixed rfl ?_; (simp [go_sem]; try (refine ⟨by kernel_rfl, ?_⟩))))
end Go.Proofs.Ytndiamkmcoghdaa

namespace Go.Proofs.Ytndiamkmcoghdaa
open Go.ChangeShapes Go.WideShapes Go.ChangeAt Go.RowKit Go.Ab
theorem Try.own : ownKnob Try.prog.godebug = none := by kernel_rfl
theorem Try.laidOut : laidOutB Try.prog = true := by kernel_rfl
theorem el_aw {H : Type} {enc : TypeId × Value → H} {W : World} {base : Nat} {M : Nat → Prop} : ∀ n cs y, DataW.trod enc Try.prog W base (fun _ => true) true n 38 cs = some y → cs.length = 2 → ∃ x : Int × Int, ∀ (j : Nat) (c : Value) (z : AV), cs[j]? = some c → (cl x).flat[j]? = some z → RepZ W M c z := by
  intro n cs y h hl
  match cs, hl with
  | [c0, c1], _ =>
    obtain ⟨n0, y0, h0⟩ := field_cell (c := c0) Try.underlying38 h (i := 0) rfl (by kernel_rfl) rfl
    obtain ⟨n1, y1, h1⟩ := field_cell (c := c1) Try.underlying38 h (i := 1) rfl (by kernel_rfl) rfl
    obtain ⟨a, rfl⟩ := cells_of_one Try.underlying3 h0
    obtain ⟨b, rfl⟩ := cells_of_one Try.underlying3 h1
    refine ⟨(a, b), fun j x z hx hz => ?_⟩
    match j with
    | 0 => simp [AV.flat_agg] at hx hz; subst hx; subst hz; exact .v _
    | 1 => simp [AV.flat_agg] at hx hz; subst hx; subst hz; exact .v _
    | j + 2 => simp at hx
set_option maxRecDepth 100000 in
theorem el_fd {H : Type} {enc : TypeId × Value → H} {W : World} {base : Nat} {M : Nat → Prop} (hM : ∀ b, b < W.heap.size → M b) : ∀ n cs y, DataW.trod enc Try.prog W base (fun _ => true) true n 36 cs = some y → cs.length = 5 → ∃ x : Fd, ∀ (j : Nat) (c : Value) (z : AV), cs[j]? = some c → (fo x).flat[j]? = some z → RepZ W M c z := by
  intro n cs y h hl
  match cs, hl with
  | [c0, c1, c2, c3, c4], _ =>
    obtain ⟨n0, y0, h0⟩ := field_cell (c := c0) Try.underlying36 h (i := 0) rfl (by kernel_rfl) rfl
    obtain ⟨n1, y1, h1⟩ := field_cell (c := c1) Try.underlying36 h (i := 1) rfl (by kernel_rfl) rfl
    obtain ⟨n2, y2, h2⟩ := field_cell (c := c2) Try.underlying36 h (i := 2) rfl (by kernel_rfl) rfl
    obtain ⟨n3, y3, h3⟩ := field_cell (c := c3) Try.underlying36 h (i := 3) rfl (by kernel_rfl) rfl
    obtain ⟨n4, y4, h4⟩ := field_cell (c := c4) Try.underlying36 h (i := 4) rfl (by kernel_rfl) rfl
    obtain ⟨a, rfl⟩ := cells_of_one Try.underlying3 h0
    obtain ⟨b, rfl⟩ := cells_of_one Try.underlying3 h1
    obtain ⟨c, rfl⟩ := cells_of_one Try.underlying3 h2
    obtain ⟨v3, hv3, C, _, hr3⟩ := rep_slice (M := M) cl 2 (by decide) (fun _ => rfl) Try.underlying34 (by kernel_rfl) hM el_aw h3
    obtain ⟨v4, hv4, S, _, hr4⟩ := rep_slice (M := M) ii 1 (by decide) (fun _ => rfl) Try.underlying25 (by kernel_rfl) hM (el_int Try.underlying3) h4
    have e3 : v3 = c3 := by simpa using hv3.symm
    have e4 : v4 = c4 := by simpa using hv4.symm
    subst e3; subst e4
    refine ⟨⟨a, b, c, C, S⟩, fun j x z hx hz => ?_⟩
    match j with
    | 0 => simp [AV.flat_agg] at hx hz; subst hx; subst hz; exact .v _
    | 1 => simp [AV.flat_agg] at hx hz; subst hx; subst hz; exact .v _
    | 2 => simp [AV.flat_agg] at hx hz; subst hx; subst hz; exact .v _
    | 3 => simp [AV.flat_agg] at hx hz; subst hx; subst hz; exact hr3
    | 4 => simp [AV.flat_agg] at hx hz; subst hx; subst hz; exact hr4
    | j + 5 => simp at hx
set_option maxRecDepth 100000 in
theorem rep_fds {H : Type} {enc : TypeId × Value → H} {W : World} {base : Nat} {v : Value} {d : DataW H} {p : List MemPlace} {M : Nat → Prop} {r : Go.Reach} {b0 : Nat} (hM : ∀ b, b < W.heap.size → M b)
    (hval : Value.okWide Try.prog W r b0 22 v) (h : DataW.Trod enc Try.prog W base (fun _ => true) true 22 v d p) : ∃ L : List Fd, L.length ≤ maxLen ∧ RepZ W M v (.sl (L.map fo)) :=
  rep_sliceV fo 5 (by decide) (fun _ => rfl) Try.underlying22 (by kernel_rfl) hM (el_fd hM) hval h
end Go.Proofs.Ytndiamkmcoghdaa

