/-
  Lemmas for the statement at the top.
-/
import Derived.Test.YtndiamkmcoghdaaYbP13
import Derived.Test.YtndiamkmcoghdaaRows
import Derived.Test.YtndiamkmcoghdaaYbP12
import Derived.Test.YtndiamkmcoghdaaYaFw5
set_option linter.all false
namespace Go.Proofs.Ytndiamkmcoghdaa
open Go.RowKit Go.Ab
abbrev xA : List (Int × Int) := [(1, 8), (2, 4)]
abbrev x1 : List Fd := [⟨10, 0, 5, xA, [0]⟩]
abbrev x2 : List Fd := [⟨5, 2, 0, xA, [0]⟩]
abbrev x3 : List Fd := [⟨10, 0, 0, [(7, 8)], [0, 500]⟩, ⟨10, 0, 0, [], [0, 0]⟩]
theorem xr1 : fewV x1 = true ∧ rightV x1 = true := by decide
theorem xr2 : fewV x2 = true ∧ rightV x2 = true := by decide
theorem xr3 : fewV x3 = true ∧ rightV x3 = true := by decide
theorem xo1 : owedL x1 = [12] := by decide +kernel
theorem xo2 : owedL x2 = [12] := by decide +kernel
theorem xo3 : owedL x3 = [4, 4] := by decide +kernel
theorem xs1 : share [8, 4] 12 = [8, 4] := by
  rcases share_cases (C := [8, 4]) (h := 12) (by decide) (by decide) with ⟨_, h⟩ | ⟨h, _⟩
  · exact h
  · exact absurd (by decide) h
theorem xs3 : share [8] 8 = [8] := by
  rcases share_cases (C := [8]) (h := 8) (by decide) (by decide) with ⟨_, h⟩ | ⟨h, _⟩
  · exact h
  · exact absurd (by decide) h
theorem xs2 : share [8, 4] 7 = [4, 3] := by
  rcases share_cases (C := [8, 4]) (h := 7) (by decide) (by decide) with ⟨h, _⟩ | ⟨_, l, h, e⟩
  · exact absurd h (by decide)
  · have : l = 3 := isLv_uniq h (by constructor <;> decide)
    subst this
    rw [e]; decide
theorem xg1 : gets x1 = [8, 4] := by
  unfold gets; rw [xo1, show asksK x1 x1.length = [8, 4] from rfl, show paidK x1 [12] x1.length = 12 from rfl, xs1]
theorem xg2 : gets x2 = [4, 3] := by
  unfold gets; rw [xo2, show asksK x2 x2.length = [8, 4] from rfl, show paidK x2 [12] x2.length = 7 from rfl, xs2]
theorem xg3 : gets x3 = [8] := by
  unfold gets; rw [xo3, show asksK x3 x3.length = [8] from rfl, show paidK x3 [4, 4] x3.length = 8 from rfl, xs3]
theorem xy1 : Means false Try.prog 11 [.sl (x1.map fo)] (.tup [.sl (([⟨3, 0, 0, [], [0]⟩] : List Fd).map fo), .sl ([xA].map awl), ii 0]) := by
  have h := year_m x1 xr1.1 xr1.2
  rwa [xo1, xg1, show outK x1 [12] x1.length = [⟨3, 0, 0, [], [0]⟩] from rfl, show awAll x1 [8, 4] x1.length = [xA] from rfl] at h
theorem xy2 : Means false Try.prog 11 [.sl (x2.map fo)] (.tup [.sl (([⟨0, 0, 0, [], [0]⟩] : List Fd).map fo), .sl ([[(1, 4), (2, 3)]].map awl), ii 0]) := by
  have h := year_m x2 xr2.1 xr2.2
  rwa [xo2, xg2, show outK x2 [12] x2.length = [⟨0, 0, 0, [], [0]⟩] from rfl, show awAll x2 [4, 3] x2.length = [[(1, 4), (2, 3)]] from rfl] at h
theorem xy3 : Means false Try.prog 11 [.sl (x3.map fo)] (.tup [.sl (([⟨6, 0, 0, [], [0, 500]⟩, ⟨6, 0, 0, [], [0, 0]⟩] : List Fd).map fo), .sl ([[(7, 8)], []].map awl), ii 0]) := by
  have h := year_m x3 xr3.1 xr3.2
  rwa [xo3, xg3, show outK x3 [4, 4] x3.length = [⟨6, 0, 0, [], [0, 500]⟩, ⟨6, 0, 0, [], [0, 0]⟩] from rfl, show awAll x3 [8] x3.length = [[(7, 8)], []] from rfl] at h
theorem xw3 : Means false Try.prog 10 [.sl (x3.map fo)] (.tup [il [4, 4], ii 0]) := by
  have h := owed_m x3 xr3.1 xr3.2
  rwa [xo3] at h
attribute [local irreducible] AWP Go.Ab.Sub Means MeansH CallK CallG CallT CallGT CallU
set_option maxHeartbeats 8000000 in
set_option maxRecDepth 20000 in
theorem psmall_m : Means false Try.prog 7 [] (bb true) := by
  have c1 := xy1
  have c2 := xy2
  have c3 := xy3
  have c4 := xw3
  have i1 := pints_m [4, 4] [4, 4] (by decide) (by decide)
  have s1 := plists_m [xA] [xA] (by decide) (by decide)
  have s2 := plists_m [[(1, 4), (2, 3)]] [[(1, 4), (2, 3)]] (by decide) (by decide)
  have s3 := plists_m [[(7, 8)], []] [[(7, 8)], []] (by decide) (by decide)
  have r0 := pright_m [] (by decide)
  rw [decide_eq_true rfl] at i1 s1 s2 s3
  rw [show rightV [] = false by decide] at r0
  simp only [List.map_cons, List.map_nil] at c1 c2 c3 c4 s1 s2 s3 r0 i1
  have s2h : MeansH Try.prog 23 [.row ⟨38, 2, [cl (1, 4), cl (2, 3)]⟩, .row ⟨34, 1, [.ow 0]⟩] [.sl [awl [(1, 4), (2, 3)]], .ow 1] (bb true) [.row ⟨38, 2, [cl (1, 4), cl (2, 3)]⟩, .row ⟨34, 1, [.ow 0]⟩] :=
    meansZ_h [1] s2 (by simp [frzOK, nestIds, AV.flat, AV.idB]) rfl (by rfl)
  have s3h : MeansH Try.prog 23 [.row ⟨38, 2, [cl (7, 8)]⟩, .row ⟨34, 1, [.ow 0, .nil]⟩] [.sl [awl [(7, 8)], awl []], .ow 1] (bb true) [.row ⟨38, 2, [cl (7, 8)]⟩, .row ⟨34, 1, [.ow 0, .nil]⟩] :=
    meansZ_h [1] s3 (by simp [frzOK, nestIds, AV.flat, AV.idB]) rfl (by rfl)
  refine means_fn false 147 [.tmp 0] Try.func7 rfl rfl rfl (by simp) (by decide) rfl fun X hX => ?_
  (repeat (first | refine awp_seq ?_ | refine awp_block ?_))
  ((first | refine awp_runG [0, 1, 2, 3, 4, 5, 6, 7, 8, 9, 10, 11, 12, 13, 14, 82] hX ?_ | refine awp_drawnG [0, 1, 2, 3, 4, 5, 6, 7, 8, 9, 10, 11, 12, 13, 14, 82] hX mixed ?_ | refine awp_ret ?_ | refine awp_skip ?_ | refine awp_exit ?_); (simp [go_sem]; try (refine ⟨by kernel_rfl, ?_⟩)))
  (repeat (first | refine awp_seq ?_ | refine awp_block ?_))
  refine awp_cut ⟨mkE [(0, bb false), (1, awl xA)], []⟩ ?_ ?_
  · ((first | refine awp_runG [0, 1, 2, 3, 4, 5, 6, 7, 8, 9, 10, 11, 12, 13, 14, 82] hX ?_ | refine awp_drawnG [0, 1, 2, 3, 4, 5, 6, 7, 8, 9, 10, 11, 12, 13, 14, 82] hX mixed ?_ | refine awp_ret ?_ | refine awp_skip ?_ | refine awp_exit ?_); (simp [go_sem]; try (refine ⟨by kernel_rfl, ?_⟩)))
    refine sub_of _ [] (by simp [go_sem]) ?_
    simp [go_sem]
  (simp [go_sem]; try (refine ⟨by kernel_rfl, ?_⟩))
  (repeat (refine awp_stepG [0, 1, 2, 3, 4, 5, 6, 7, 8, 9, 10, 11, 12, 13, 14, 82] hX mixed rfl ?_; (simp [go_sem]; try (refine ⟨by kernel_rfl, ?_⟩))))
  refine callZ_intro [1] c1 (by simp [go_sem]) (by simp [go_sem]) (by simp [go_sem]) (by simp [go_sem]) ?_
  try (simp [go_sem]; try (refine ⟨by kernel_rfl, ?_⟩))
  (repeat (refine awp_stepG [0, 1, 2, 3, 4, 5, 6, 7, 8, 9, 10, 11, 12, 13, 14, 82] hX mixed rfl ?_; (simp [go_sem]; try (refine ⟨by kernel_rfl, ?_⟩))))
  refine callZ_intro [3] c2 (by simp [go_sem]) (by simp [go_sem]) (by simp [go_sem]) (by simp [go_sem]) ?_
  try (simp [go_sem]; try (refine ⟨by kernel_rfl, ?_⟩))
  (repeat (first | refine awp_seq ?_ | refine awp_block ?_))
  refine awp_cut ⟨mkE [(0, bb false), (1, awl xA), (2, .sl [fo ⟨3, 0, 0, [], [0]⟩]), (3, .sl [awl xA]), (4, ii 0), (5, .sl [fo ⟨0, 0, 0, [], [0]⟩]), (6, .sl [awl [(1, 4), (2, 3)]]), (7, ii 0), (8, .sl [fo ⟨10, 0, 0, [(7, 8)], [0, 500]⟩, fo ⟨10, 0, 0, [], [0, 0]⟩])], []⟩ ?_ ?_
  · ((first | refine awp_runG [0, 1, 2, 3, 4, 5, 6, 7, 8, 9, 10, 11, 12, 13, 14, 82] hX ?_ | refine awp_drawnG [0, 1, 2, 3, 4, 5, 6, 7, 8, 9, 10, 11, 12, 13, 14, 82] hX mixed ?_ | refine awp_ret ?_ | refine awp_skip ?_ | refine awp_exit ?_); (simp [go_sem]; try (refine ⟨by kernel_rfl, ?_⟩)))
    refine sub_trans (b := ⟨mkE [(0, bb false), (1, awl xA), (2, .sl [fo ⟨3, 0, 0, [], [0]⟩]), (3, .sl [awl xA]), (4, ii 0), (5, .sl [fo ⟨0, 0, 0, [], [0]⟩]), (6, .sl [awl [(1, 4), (2, 3)]]), (7, ii 0), (8, .ow 0)], [.row ⟨36, 5, [fo ⟨10, 0, 0, [(7, 8)], [0, 500]⟩, fo ⟨10, 0, 0, [], [0, 0]⟩]⟩]⟩) ?_ ?_
    · refine sub_of _ [] (by simp [go_sem]) ?_
      simp [go_sem]
    · refine sub_of _ [.old 7 ⟨36, 5, [fo ⟨10, 0, 0, [(7, 8)], [0, 500]⟩, fo ⟨10, 0, 0, [], [0, 0]⟩]⟩] (by simp [go_sem]) ?_
      simp [go_sem]
  (simp [go_sem]; try (refine ⟨by kernel_rfl, ?_⟩))
  (repeat (refine awp_stepG [0, 1, 2, 3, 4, 5, 6, 7, 8, 9, 10, 11, 12, 13, 14, 82] hX mixed rfl ?_; (simp [go_sem]; try (refine ⟨by kernel_rfl, ?_⟩))))
  first | refine callKa (c4) ?_ | refine callTa (c4) ?_
  try (simp [go_sem]; try (refine ⟨by kernel_rfl, ?_⟩))
  (repeat (refine awp_stepG [0, 1, 2, 3, 4, 5, 6, 7, 8, 9, 10, 11, 12, 13, 14, 82] hX mixed rfl ?_; (simp [go_sem]; try (refine ⟨by kernel_rfl, ?_⟩))))
  first | refine callKa (c3) ?_ | refine callTa (c3) ?_
  try (simp [go_sem]; try (refine ⟨by kernel_rfl, ?_⟩))
  (repeat (refine awp_stepG [0, 1, 2, 3, 4, 5, 6, 7, 8, 9, 10, 11, 12, 13, 14, 82] hX mixed rfl ?_; (simp [go_sem]; try (refine ⟨by kernel_rfl, ?_⟩))))
  refine awp_cond (b := false) (by simp [go_sem]) (fun h => by cases h) (fun _ => ?_)
  (repeat (refine awp_stepG [0, 1, 2, 3, 4, 5, 6, 7, 8, 9, 10, 11, 12, 13, 14, 82] hX mixed rfl ?_; (simp [go_sem]; try (refine ⟨by kernel_rfl, ?_⟩))))
  first | refine callGa (fun hg => s1) ?_ | refine callGTa (fun hg => s1) ?_
  try (simp [go_sem]; try (refine ⟨by kernel_rfl, ?_⟩))
  first | refine callHG_intro [1, 2] (fun hg => s2h) (by simp [go_sem]) (by simp [go_sem]) ?_ | refine callHGT_intro [1, 2] (fun hg => s2h) (by simp [go_sem]) ?_
  try (simp [go_sem]; try (refine ⟨by kernel_rfl, ?_⟩))
  (repeat (refine awp_stepG [0, 1, 2, 3, 4, 5, 6, 7, 8, 9, 10, 11, 12, 13, 14, 82] hX mixed rfl ?_; (simp [go_sem]; try (refine ⟨by kernel_rfl, ?_⟩))))
  first | refine callGa (fun hg => i1) ?_ | refine callGTa (fun hg => i1) ?_
  try (simp [go_sem]; try (refine ⟨by kernel_rfl, ?_⟩))
  first | refine callHG_intro [4, 5] (fun hg => s3h) (by simp [go_sem]) (by simp [go_sem]) ?_ | refine callHGT_intro [4, 5] (fun hg => s3h) (by simp [go_sem]) ?_
  try (simp [go_sem]; try (refine ⟨by kernel_rfl, ?_⟩))
  first | refine callGa (fun hg => r0) ?_ | refine callGTa (fun hg => r0) ?_
  try (simp [go_sem]; try (refine ⟨by kernel_rfl, ?_⟩))
  (repeat (refine awp_stepG [0, 1, 2, 3, 4, 5, 6, 7, 8, 9, 10, 11, 12, 13, 14, 82] hX mixed rfl ?_; (simp [go_sem]; try (refine ⟨by kernel_rfl, ?_⟩))))
end Go.Proofs.Ytndiamkmcoghdaa

namespace Go.Proofs.Ytndiamkmcoghdaa
open Go.RowKit Go.Ab
structure YearOk (F : List Fd) (o G : List Int) : Prop where
  ol : o.length = F.length
  ob : ∀ x ∈ o, 0 ≤ x ∧ x ≤ 6597069766657
  os : sumI o = sumI (ownL F)
  gl : G.length = (asksK F F.length).length
  al : (asksK F F.length).length ≤ 40
  ge : G = share (asksK F F.length) (paidK F o F.length)
  ok : okC' (asksK F F.length) = true
  pb : 0 ≤ paidK F o F.length
  gs : sumI G = paidK F o F.length
  gb : ∀ (t : Nat) (h : t < G.length) (h' : t < (asksK F F.length).length), 0 ≤ G[t] ∧ G[t] ≤ (asksK F F.length)[t]
theorem asks_sum (F : List Fd) : ∀ k, k ≤ F.length → sumI (asksK F k) = sumI ((ownL F).take k)
  | 0, _ => by simp [asksK, sumI]
  | k + 1, h => by
    rw [asksK_next (by omega), sumI_app, asks_sum F k (by omega), ownL_next (show k < F.length by omega), sumI_snoc]
theorem paid_le {F : List Fd} {o : List Int} (ho : o.length = F.length) : ∀ k, k ≤ F.length → paidK F o k ≤ sumI (o.take k)
  | 0, _ => by simp [paidK, sumI]
  | k + 1, hk => by
    rw [paidK_next (by omega) (by omega), sumI_next (show k < o.length by omega)]
    have := paid_le ho k (by omega)
    have : payV F[k] o[k] ≤ o[k] := by simp only [payV]; omega
    omega
theorem year_ok {F : List Fd} (hf : fewV F = true) (hr : rightV F = true) : YearOk F (owedL F) (gets F) := by
  have h5 := few_5 hf
  have hv := rv_of hr
  have hc := owned hv h5
  have hoL := ownL_len F
  have hol : (owedL F).length = F.length := by have := hc.len; unfold owedL; omega
  have hpb := paid_bd hv hol fun x hx => (hc.bd x hx).1
  have ham := many_bd hf F.length (Nat.le_refl _)
  have hal : (asksK F F.length).length ≤ 40 := by rw [asksK_len F F.length (Nat.le_refl _)]; omega
  have hpn := hpb F.length (Nat.le_refl _)
  have hok : okC' (asksK F F.length) = true := asks_ok hv _
  have hgl : (gets F).length = (asksK F F.length).length := share_len hok hpn.1
  have hle := paid_le hol F.length (Nat.le_refl _)
  rw [List.take_of_length_le (by omega)] at hle
  have hs : sumI (owedL F) = sumI (ownL F) := hc.sum
  have ha := asks_sum F F.length (Nat.le_refl _)
  rw [List.take_of_length_le (by omega)] at ha
  refine ⟨hol, hc.bd, hs, hgl, hal, rfl, hok, hpn.1, ?_, fun t h h' => share_in hok hpn.1 h' h⟩
  have := share_sum hok hpn.1
  rw [sumI_L]
  show sumL (share _ _) = _
  rw [this, ← sumI_L, ha]
  omega
theorem out_sum {F : List Fd} {o : List Int} (ho : o.length = F.length) : ∀ k, k ≤ F.length → sumI ((outK F o k).map hasF) = sumI ((F.map hasF).take k) - paidK F o k
  | 0, _ => by simp [outK, paidK, sumI]
  | k + 1, hk => by
    have hk1 : k < F.length := by omega
    have hk2 : k < o.length := by omega
    rw [outK_next hk1 hk2, List.map_append, List.map_cons, List.map_nil, sumI_snoc, out_sum ho k (by omega), paidK_next hk1 hk2, sumI_next (show k < (F.map hasF).length by simpa using hk1), List.getElem_map, has_out]
    omega
theorem has_left {F : List Fd} {o : List Int} (ho : o.length = F.length) : hasV (outK F o F.length) = hasV F - paidK F o F.length := by
  unfold hasV
  rw [out_sum ho F.length (Nat.le_refl _), List.take_of_length_le (by simp)]
theorem outs_am {F : List Fd} {o : List Int} (hv : RV F) (ho : o.length = F.length) (hq : ∀ x ∈ o, 0 ≤ x) : ∀ f ∈ outK F o F.length, AmF f := fun f hf => by
  obtain ⟨i, hi, rfl⟩ := List.mem_map.1 hf
  have hi : i < F.length := by simpa using hi
  rw [getF hi, getD_at (show i < o.length by omega)]
  have h := hv.at' i hi
  exact out_am h.hol h.res h.inc (hq _ (List.getElem_mem _))
theorem off_next {F : List Fd} {i : Nat} (h : i < F.length) : (asksK F (i + 1)).length = (asksK F i).length + F[i].claims.length := by rw [asksK_next h, List.length_append, nums_len]
theorem off_le {F : List Fd} {i : Nat} (h : i ≤ F.length) : (asksK F i).length ≤ (asksK F F.length).length := by
  have : asksK F F.length = asksK F i ++ (F.drop i).flatMap fun f => nums f.claims := by
    unfold asksK; rw [← List.flatMap_append, List.take_append_drop, List.take_length]
  rw [this, List.length_append]; omega
theorem ask_at {F : List Fd} {i j : Nat} (h : i < F.length) (hj : j < F[i].claims.length) (h' : (asksK F i).length + j < (asksK F F.length).length) : (asksK F F.length)[(asksK F i).length + j] = F[i].claims[j].2 := by
  have e : asksK F F.length = asksK F (i + 1) ++ (F.drop (i + 1)).flatMap fun f => nums f.claims := by
    unfold asksK; rw [← List.flatMap_append, List.take_append_drop, List.take_length]
  have e2 : asksK F F.length = asksK F i ++ (nums F[i].claims ++ (F.drop (i + 1)).flatMap fun f => nums f.claims) := by
    rw [e, asksK_next h, List.append_assoc]
  simp only [e2]
  rw [List.getElem_append_right (by omega)]
  simp only [Nat.add_sub_cancel_left]
  rw [List.getElem_append_left (by rw [nums_len]; exact hj)]
  simp [nums]
theorem sum_bd40 {l : List Int} (h : ∀ x ∈ l, 0 ≤ x ∧ x ≤ 6597069766657) : ∀ k, k ≤ l.length → 0 ≤ sumI (l.take k) ∧ sumI (l.take k) ≤ 6597069766657 * k
  | 0, _ => by simp [sumI]
  | k + 1, hk => by
    rw [sumI_next (show k < l.length by omega)]
    have := sum_bd40 h k (by omega)
    have := h l[k] (List.getElem_mem (by omega))
    omega
end Go.Proofs.Ytndiamkmcoghdaa

namespace Go.Proofs.Ytndiamkmcoghdaa
open Go.RowKit Go.Ab
def enoughK (F : List Fd) (o : List Int) (i : Nat) : Bool := (List.range i).all fun t => decide (o.getD t 0 ≤ hasF (F.getD t dF))
variable {F : List Fd} {o G : List Int}
theorem enoughK_next {i : Nat} (h : i < F.length) (ho : i < o.length) : enoughK F o (i + 1) = (enoughK F o i && decide (o[i] ≤ hasF F[i])) := by
  unfold enoughK; rw [List.range_succ, List.all_append, ← getF h, ← getD_at ho]; simp
def bestV (G : List Int) : Nat → Int
  | 0 => 0
  | m + 1 => max (bestV G m) (G.getD m 0)
theorem bestV_next {m : Nat} (h : m < G.length) : bestV G (m + 1) = max (bestV G m) G[m] := by
  show max _ (G.getD m 0) = _
  rw [getD_at h]
theorem bestV_cases (G : List Int) : ∀ m, m ≤ G.length → bestV G m = 0 ∨ ∃ t, ∃ h : t < G.length, bestV G m = G[t]
  | 0, _ => .inl rfl
  | m + 1, h => by
    rw [bestV_next (by omega)]
    rcases bestV_cases G m (by omega) with e | ⟨t, ht, e⟩
    · by_cases h2 : bestV G m ≤ G[m]
      · exact .inr ⟨m, by omega, by omega⟩
      · exact .inl (by omega)
    · by_cases h2 : bestV G m ≤ G[m]
      · exact .inr ⟨m, by omega, by omega⟩
      · exact .inr ⟨t, ht, by omega⟩
theorem bestV_bd {B : Int} (hB : 0 ≤ B) (h : ∀ x ∈ G, 0 ≤ x ∧ x ≤ B) : ∀ m, m ≤ G.length → 0 ≤ bestV G m ∧ bestV G m ≤ B
  | 0, _ => ⟨Int.le_refl _, hB⟩
  | m + 1, hm => by
    rw [bestV_next (by omega)]
    have := bestV_bd hB h m (by omega)
    have := h G[m] (List.getElem_mem _)
    omega
theorem enough_pay (ho : o.length = F.length) : ∀ k, k ≤ F.length → enoughK F o k = true → paidK F o k = sumI (o.take k)
  | 0, _, _ => by simp [paidK, sumI]
  | k + 1, hk, h => by
    have hk1 : k < F.length := by omega
    have hk2 : k < o.length := by omega
    rw [enoughK_next hk1 hk2, Bool.and_eq_true, decide_eq_true_eq] at h
    rw [paidK_next hk1 hk2, sumI_next hk2, enough_pay ho k (by omega) h.1]
    have := h.2
    simp only [payV, freeV, hasF] at *
    omega
theorem enough_all (hY : YearOk F o G) (h : enoughK F o F.length = true) : G = asksK F F.length := by
  have hp := enough_pay hY.ol F.length (Nat.le_refl _) h
  rw [List.take_of_length_le (by rw [hY.ol]; omega), hY.os] at hp
  have ha := asks_sum F F.length (Nat.le_refl _)
  rw [List.take_of_length_le (by rw [ownL_len]; omega)] at ha
  rcases share_cases (h := paidK F o F.length) hY.ok hY.pb with ⟨_, e⟩ | ⟨e, _⟩
  · rw [← hY.ge] at e; exact e
  · exact absurd (by rw [← sumI_L, ha, hp]; exact Int.le_refl _) e
theorem fair_at (hY : YearOk F o G) {t : Nat} (ht : t < G.length) (h' : t < (asksK F F.length).length) : ¬ (G[t] < (asksK F F.length)[t] ∧ (enoughK F o F.length = true ∨ G[t] < bestV G G.length - 1)) := by
  rintro ⟨h1, h2⟩
  have hg0 := (hY.gb t ht h').1
  rcases h2 with h2 | h2
  · have e := enough_all hY h2
    simp only [e] at h1
    omega
  · rcases bestV_cases G G.length (Nat.le_refl _) with e | ⟨k, hk, e⟩
    · omega
    · have hk2 : k < (asksK F F.length).length := by rw [← hY.gl]; exact hk
      have := share_fair (h := paidK F o F.length) hY.ok hY.pb h' hk2 (by rw [← hY.ge]; exact ht) (by rw [← hY.ge]; exact hk)
      simp only [← hY.ge] at this
      exact this ⟨h1, .inl (by omega)⟩
theorem out_res {f : Fd} (hh : 0 ≤ f.holds) (hr : 0 ≤ f.reserve) (hi : 0 ≤ f.income) {q : Int} (hq : 0 ≤ q) : ¬ f.reserve < (outF f q).reserve ∧ ((outF f q).reserve < f.reserve → ¬ 0 < (outF f q).holds) := by
  unfold outF; simp only [freeV]; omega
end Go.Proofs.Ytndiamkmcoghdaa

namespace Go.Proofs.Ytndiamkmcoghdaa
open Go.RowKit Go.Ab
attribute [-simp] List.map_take
attribute [local irreducible] AWP Go.Ab.Sub Means MeansH CallK CallG CallT CallGT CallU
set_option maxHeartbeats 16000000 in
set_option maxRecDepth 20000 in
theorem poolFair_m (F : List Fd) (hl0 : F.length ≤ maxLen) : Means false Try.prog 4 [.sl (F.map fo)] (bb true) := by
  have hl : F.length ≤ 9223372036854775807 := by unfold maxLen at hl0; omega
  have c0 := psmall_m
  have c1 := pfew_m F hl
  refine means_fn false 178 [.tmp 2] Try.func4 rfl rfl rfl (by simp) (by decide) rfl fun X hX => ?_
  (repeat (refine awp_stepG [0, 2, 3, 4, 5, 6, 7, 8, 9, 10, 11, 12, 13, 14, 15, 16, 25, 57, 61, 108, 115, 131, 140, 176] hX mixed rfl ?_; (simp [go_sem]; try (refine ⟨by kernel_rfl, ?_⟩))))
  first | refine callKa (c0) ?_ | refine callTa (c0) ?_
  try (simp [go_sem]; try (refine ⟨by kernel_rfl, ?_⟩))
  (repeat (refine awp_stepG [0, 2, 3, 4, 5, 6, 7, 8, 9, 10, 11, 12, 13, 14, 15, 16, 25, 57, 61, 108, 115, 131, 140, 176] hX mixed rfl ?_; (simp [go_sem]; try (refine ⟨by kernel_rfl, ?_⟩))))
  first | refine callKa (c1) ?_ | refine callTa (c1) ?_
  try (simp [go_sem]; try (refine ⟨by kernel_rfl, ?_⟩))
  first | refine callGa (fun hg => pright_m F (by simpa using hg)) ?_ | refine callGTa (fun hg => pright_m F (by simpa using hg)) ?_
  try (simp [go_sem]; try (refine ⟨by kernel_rfl, ?_⟩))
  refine awp_cond (b := !fewV F || !rightV F) (by simp [go_sem]) (fun hb => ?_) (fun hb => ?_)
  · (repeat (refine awp_stepG [0, 2, 3, 4, 5, 6, 7, 8, 9, 10, 11, 12, 13, 14, 15, 16, 25, 57, 61, 108, 115, 131, 140, 176] hX mixed rfl ?_; (simp [go_sem]; try (refine ⟨by kernel_rfl, ?_⟩))))
  · have hf : fewV F = true := by simp at hb; exact hb.1
    have hr : rightV F = true := by simp at hb; exact hb.2
    have h5 := few_5 hf
    have hv := rv_of hr
    have c2 := owed_m F hf hr
    have c3 := year_m F hf hr
    have hY := year_ok hf hr
    generalize owedL F = o at *
    generalize gets F = G at *
    have c4 := formed_m F o G (by omega) hv hY.ol fun x hx => (hY.ob x hx).1
    have hol := hY.ol
    have hoL := ownL_len F
    have c5 := phasV_m F (by omega) hv.am
    have c6 := phasV_m (outK F o F.length) (by rw [outK_len]; omega) (outs_am hv hol fun x hx => (hY.ob x hx).1)
    have hleft := has_left (F := F) hol
    have l1 := outK_len F o F.length
    have l2 := awAll_len F G F.length
    have hown : ∀ x ∈ ownL F, 0 ≤ x ∧ x ≤ 6597069766657 := fun x hx => by
      obtain ⟨f, hf', rfl⟩ := List.mem_map.1 hx
      obtain ⟨i, hi, rfl⟩ := List.getElem_of_mem hf'
      have := okCl_bd (hv.at' i hi).cla
      omega
    have hgb : ∀ x ∈ G, 0 ≤ x ∧ x ≤ 6597069766657 := fun x hx => by
      obtain ⟨t, ht, rfl⟩ := List.getElem_of_mem hx
      have h1 := hY.gb t ht (by rw [← hY.gl]; exact ht)
      have h2 := asks_mem hv (List.getElem_mem (show t < (asksK F F.length).length by rw [← hY.gl]; exact ht))
      omega
    have so := sum_bd40 hY.ob
    have sw := sum_bd40 hown
    have sg := sum_bd40 hgb
    have hgl := hY.gl
    have hal := hY.al
    (repeat (refine awp_stepG [0, 2, 3, 4, 5, 6, 7, 8, 9, 10, 11, 12, 13, 14, 15, 16, 25, 57, 61, 108, 115, 131, 140, 176] hX mixed rfl ?_; (simp [go_sem]; try (refine ⟨by kernel_rfl, ?_⟩))))
    first | refine callKa (c2) ?_ | refine callTa (c2) ?_
    try (simp [go_sem]; try (refine ⟨by kernel_rfl, ?_⟩))
    (repeat (refine awp_stepG [0, 2, 3, 4, 5, 6, 7, 8, 9, 10, 11, 12, 13, 14, 15, 16, 25, 57, 61, 108, 115, 131, 140, 176] hX mixed rfl ?_; (simp [go_sem]; try (refine ⟨by kernel_rfl, ?_⟩))))
    first | refine callKa (c3) ?_ | refine callTa (c3) ?_
    try (simp [go_sem]; try (refine ⟨by kernel_rfl, ?_⟩))
    (repeat (refine awp_stepG [0, 2, 3, 4, 5, 6, 7, 8, 9, 10, 11, 12, 13, 14, 15, 16, 25, 57, 61, 108, 115, 131, 140, 176] hX mixed rfl ?_; (simp [go_sem]; try (refine ⟨by kernel_rfl, ?_⟩))))
    first | refine callGa (fun hg => c4) ?_ | refine callGTa (fun hg => c4) ?_
    try (simp [go_sem, hol]; try (refine ⟨by kernel_rfl, ?_⟩))
    refine awp_cond (b := false) (by simp [go_sem, hol]) (fun h => by cases h) (fun _ => ?_)
    (repeat (refine awp_stepG [0, 2, 3, 4, 5, 6, 7, 8, 9, 10, 11, 12, 13, 14, 15, 16, 25, 57, 61, 108, 115, 131, 140, 176] hX mixed rfl ?_; (simp [go_sem]; try (refine ⟨by kernel_rfl, ?_⟩))))
    refine awp_loop (fun i : Nat => ⟨mkE [(0, .sl (F.map fo)), (2, bb false), (3, bb true), (4, il o), (6, .sl ((outK F o F.length).map fo)), (7, .sl ((awAll F G F.length).map awl)), (9, bb (enoughK F o i)), (10, ii (bestV G (asksK F i).length)), (11, ii i)], []⟩) (fun i => i ≤ F.length) (fun i => F.length - i) 0 ?_ ?_ ?_
    · refine sub_of _ [] (by simp [go_sem]) ?_
      simp [go_sem, asksK, bestV, enoughK]
    · omega
    · intro i hi
      have hoi := off_le hi
      (repeat (refine awp_stepG [0, 2, 3, 4, 5, 6, 7, 8, 9, 10, 11, 12, 13, 14, 15, 16, 25, 57, 61, 108, 115, 131, 140, 176] hX mixed rfl ?_; (simp [go_sem]; try (refine ⟨by kernel_rfl, ?_⟩))))
      refine awp_cond (b := decide (i < F.length)) (by simp [go_sem]) (fun hb2 => ?_) (fun hb2 => ?_)
      · simp at hb2
        have hio : i < o.length := by omega
        have a1 : i < (outK F o F.length).length := by omega
        have a2 : i < (awAll F G F.length).length := by omega
        have e1 := out_get (F := F) (o := o) hb2 hb2 hio a1
        have e2 := aw_get (F := F) (G := G) hb2 hb2 a2
        have hat := hv.at' i hb2
        have hqi := (hY.ob o[i] (List.getElem_mem hio))
        have am1 := hv.am F[i] (List.getElem_mem hb2)
        have d1 := phas_m F[i] am1
        have n1 := enoughK_next hb2 hio
        have n3 := off_next hb2
        have hoi2 := off_le (F := F) (i := i + 1) (by omega)
        obtain ⟨q1, q2⟩ := out_res hat.hol.1 hat.res.1 hat.inc.1 hqi.1
        (repeat (refine awp_stepG [0, 2, 3, 4, 5, 6, 7, 8, 9, 10, 11, 12, 13, 14, 15, 16, 25, 57, 61, 108, 115, 131, 140, 176] hX mixed rfl ?_; (simp [go_sem, hb2, hio]; try (refine ⟨by kernel_rfl, ?_⟩))))
        first | refine callGa (fun hg => d1) ?_ | refine callGTa (fun hg => d1) ?_
        try (simp [go_sem, hb2, hio, a1, a2, e1, e2]; try (refine ⟨by kernel_rfl, ?_⟩))
        (repeat (refine awp_stepG [0, 2, 3, 4, 5, 6, 7, 8, 9, 10, 11, 12, 13, 14, 15, 16, 25, 57, 61, 108, 115, 131, 140, 176] hX mixed rfl ?_; (simp [go_sem, hb2, hio, a1, a2, e1, e2]; try (refine ⟨by kernel_rfl, ?_⟩))))
        refine ⟨fun a b => ⟨a, b⟩, by kernel_rfl, ?_⟩
        refine awp_cond (b := false) ?_ (fun h => by cases h) (fun _ => ?_)
        · simp [go_sem, q1]
          intro h
          have := q2 h
          omega
        (repeat (refine awp_stepG [0, 2, 3, 4, 5, 6, 7, 8, 9, 10, 11, 12, 13, 14, 15, 16, 25, 57, 61, 108, 115, 131, 140, 176] hX mixed rfl ?_; (simp [go_sem]; try (refine ⟨by kernel_rfl, ?_⟩))))
        refine awp_loop (fun j : Nat => ⟨mkE [(0, .sl (F.map fo)), (2, bb false), (3, bb true), (4, il o), (6, .sl ((outK F o F.length).map fo)), (7, .sl ((awAll F G F.length).map awl)), (9, bb (enoughK F o (i + 1))), (10, ii (bestV G ((asksK F i).length + j))), (11, ii i), (12, ii j)], []⟩) (fun j => j ≤ F[i].claims.length) (fun j => F[i].claims.length - j) 0 ?_ ?_ ?_
        · rw [n1]
          refine sub_of _ [] (by simp [go_sem]) ?_
          simp [go_sem]
        · omega
        · intro j hj
          have l3 := awK_len F G i F[i].claims.length
          (repeat (refine awp_stepG [0, 2, 3, 4, 5, 6, 7, 8, 9, 10, 11, 12, 13, 14, 15, 16, 25, 57, 61, 108, 115, 131, 140, 176] hX mixed rfl ?_; (simp [go_sem, hb2, a2, e2, l3]; try (refine ⟨by kernel_rfl, ?_⟩))))
          refine awp_cond (b := decide (j < F[i].claims.length)) (by simp [go_sem]) (fun hc => ?_) (fun hc => ?_)
          · simp at hc
            have hg : (asksK F i).length + j < G.length := by omega
            have a3 : j < (awK F G i F[i].claims.length).length := by omega
            have e3 := awK_get (F := F) (G := G) hb2 hc hc hg a3
            have n4 := bestV_next hg
            (repeat (refine awp_stepG [0, 2, 3, 4, 5, 6, 7, 8, 9, 10, 11, 12, 13, 14, 15, 16, 25, 57, 61, 108, 115, 131, 140, 176] hX mixed rfl ?_; (simp [go_sem, hb2, a2, e2, l3, a3, e3, hc]; (try simp (disch := omega) only [w64, td, tm]); try (refine ⟨by kernel_rfl, ?_⟩))))
            refine ⟨j + 1, by omega, by omega, ?_⟩
            rw [← Nat.add_assoc, n4]
            refine sub_of _ [] (by simp [go_sem]) ?_
            simp [go_sem]
          · have hjl : j = F[i].claims.length := by simp at hc; omega
            subst hjl
            (repeat (refine awp_stepG [0, 2, 3, 4, 5, 6, 7, 8, 9, 10, 11, 12, 13, 14, 15, 16, 25, 57, 61, 108, 115, 131, 140, 176] hX mixed rfl ?_; (simp [go_sem]; (try simp (disch := omega) only [w64, td, tm]); try (refine ⟨by kernel_rfl, ?_⟩))))
            refine ⟨i + 1, by omega, by omega, ?_⟩
            refine sub_of _ [] (by simp [go_sem]) ?_
            simp [go_sem, n3]
      · have hil : i = F.length := by simp at hb2; omega
        subst hil
        rw [← hgl]
        have bb1 := bestV_bd (by decide) hgb G.length (Nat.le_refl _)
        have fair := fun t ht h' => fair_at hY (t := t) ht h'
        generalize enoughK F o F.length = E at *
        generalize bestV G G.length = B at *
        have wB := w64 (x := B - 1) (by omega) (by omega)
        (repeat (refine awp_stepG [0, 2, 3, 4, 5, 6, 7, 8, 9, 10, 11, 12, 13, 14, 15, 16, 25, 57, 61, 108, 115, 131, 140, 176] hX mixed rfl ?_; (simp [go_sem]; try (refine ⟨by kernel_rfl, ?_⟩))))
        refine awp_loop (fun i : Nat => ⟨mkE [(0, .sl (F.map fo)), (2, bb false), (3, bb true), (7, .sl ((awAll F G F.length).map awl)), (9, bb E), (10, ii B), (13, ii i)], []⟩) (fun i => i ≤ F.length) (fun i => F.length - i) 0 ?_ ?_ ?_
        · refine sub_of _ [] (by simp [go_sem]) ?_
          simp [go_sem]
        · omega
        · intro i hi
          (repeat (refine awp_stepG [0, 2, 3, 4, 5, 6, 7, 8, 9, 10, 11, 12, 13, 14, 15, 16, 25, 57, 61, 108, 115, 131, 140, 176] hX mixed rfl ?_; (simp [go_sem]; try (refine ⟨by kernel_rfl, ?_⟩))))
          refine awp_cond (b := decide (i < F.length)) (by simp [go_sem]) (fun hb3 => ?_) (fun hb3 => ?_)
          · simp at hb3
            have a2 : i < (awAll F G F.length).length := by omega
            have e2 := aw_get (F := F) (G := G) hb3 hb3 a2
            have n3 := off_next hb3
            have hoi2 := off_le (F := F) (i := i + 1) (by omega)
            (repeat (refine awp_stepG [0, 2, 3, 4, 5, 6, 7, 8, 9, 10, 11, 12, 13, 14, 15, 16, 25, 57, 61, 108, 115, 131, 140, 176] hX mixed rfl ?_; (simp [go_sem]; try (refine ⟨by kernel_rfl, ?_⟩))))
            refine awp_loop (fun j : Nat => ⟨mkE [(0, .sl (F.map fo)), (2, bb false), (3, bb true), (7, .sl ((awAll F G F.length).map awl)), (9, bb E), (10, ii B), (13, ii i), (14, ii j)], []⟩) (fun j => j ≤ F[i].claims.length) (fun j => F[i].claims.length - j) 0 ?_ ?_ ?_
            · refine sub_of _ [] (by simp [go_sem]) ?_
              simp [go_sem]
            · omega
            · intro j hj
              have l3 := awK_len F G i F[i].claims.length
              (repeat (refine awp_stepG [0, 2, 3, 4, 5, 6, 7, 8, 9, 10, 11, 12, 13, 14, 15, 16, 25, 57, 61, 108, 115, 131, 140, 176] hX mixed rfl ?_; (simp [go_sem, hb3, a2, e2, l3]; try (refine ⟨by kernel_rfl, ?_⟩))))
              refine awp_cond (b := decide (j < F[i].claims.length)) (by simp [go_sem]) (fun hc => ?_) (fun hc => ?_)
              · simp at hc
                have hg : (asksK F i).length + j < G.length := by omega
                have hA : (asksK F i).length + j < (asksK F F.length).length := by omega
                have a3 : j < (awK F G i F[i].claims.length).length := by omega
                have e3 := awK_get (F := F) (G := G) hb3 hc hc hg a3
                have hfr := fair _ hg hA
                have hgB := hY.gb _ hg hA
                rw [ask_at hb3 hc hA] at hfr hgB
                (repeat (refine awp_stepG [0, 2, 3, 4, 5, 6, 7, 8, 9, 10, 11, 12, 13, 14, 15, 16, 25, 57, 61, 108, 115, 131, 140, 176] hX mixed rfl ?_; (simp [go_sem, hb3, a2, e2, l3, a3, e3, hc, wB]; try (refine ⟨by kernel_rfl, ?_⟩))))
                generalize G[(asksK F i).length + j] = g at *
                generalize F[i].claims[j].2 = a at *
                refine ⟨fun a b c => ⟨⟨a, b⟩, c⟩, fun a b => ⟨a, b⟩, ?_⟩
                refine awp_cond (b := false) ?_ (fun h => by cases h) (fun _ => ?_)
                · have f1 : ¬ a < g := by omega
                  simp [go_sem, f1]
                  intro h1
                  refine ⟨?_, ?_⟩
                  · cases hE : E with
                    | false => rfl
                    | true => exact absurd ⟨h1, .inl hE⟩ hfr
                  · have : ¬ g < B - 1 := fun h2 => hfr ⟨h1, .inr h2⟩
                    omega
                (repeat (refine awp_stepG [0, 2, 3, 4, 5, 6, 7, 8, 9, 10, 11, 12, 13, 14, 15, 16, 25, 57, 61, 108, 115, 131, 140, 176] hX mixed rfl ?_; (simp [go_sem, hc]; (try simp (disch := omega) only [w64, td, tm]); try (refine ⟨by kernel_rfl, ?_⟩))))
                refine ⟨j + 1, by omega, by omega, ?_⟩
                refine sub_of _ [] (by simp [go_sem]) ?_
                simp [go_sem]
              · have hjl : j = F[i].claims.length := by simp at hc; omega
                subst hjl
                (repeat (refine awp_stepG [0, 2, 3, 4, 5, 6, 7, 8, 9, 10, 11, 12, 13, 14, 15, 16, 25, 57, 61, 108, 115, 131, 140, 176] hX mixed rfl ?_; (simp [go_sem]; (try simp (disch := omega) only [w64, td, tm]); try (refine ⟨by kernel_rfl, ?_⟩))))
                refine ⟨i + 1, by omega, by omega, ?_⟩
                refine sub_of _ [] (by simp [go_sem]) ?_
                simp [go_sem]
          · (repeat (refine awp_stepG [0, 2, 3, 4, 5, 6, 7, 8, 9, 10, 11, 12, 13, 14, 15, 16, 25, 57, 61, 108, 115, 131, 140, 176] hX mixed rfl ?_; (simp [go_sem]; try (refine ⟨by kernel_rfl, ?_⟩))))
            try rfl
end Go.Proofs.Ytndiamkmcoghdaa

namespace Go.Proofs.Ytndiamkmcoghdaa
open Go.ChangeShapes Go.WideShapes Go.ChangeAt Go.RowKit Go.Ab
theorem Try.own : ownKnob Try.prog.godebug = none := by kernel_rfl
theorem Try.laidOut : laidOutB Try.prog = true := by kernel_rfl
theorem el_aw {H : Type} {enc : TypeId × Value → H} {W : World} {base : Nat} {M : Nat → Prop} : ∀ n cs y, DataW.trod enc Try.prog W base (fun _ => true) true n 38 cs = some y → cs.length = 2 → ∃ x : Int × Int, ∀ (j : Nat) (c : Value) (z : AV), cs[j]? = some c → (cl x).flat[j]? = some z → RepZ W M c z := by
  intro n cs y h hl
  match cs, hl with
  | [c0, c1], _ =>
    obtain ⟨n0, y0, h0⟩ := field_cell (c := c0) Try.underlying38 h (i := 0) rfl (by kernel_rfl) rfl
    obtain ⟨n1, y1, h1⟩ := field_cell (c := c1) Try.underlying38 h (i := 1) rfl (by kernel_rfl) rfl
    obtain ⟨a, rfl⟩ := cells_of_one Try.underlying3 h0
    obtain ⟨b, rfl⟩ := cells_of_one Try.underlying3 h1
    refine ⟨(a, b), fun j x z hx hz => ?_⟩
    match j with
    | 0 => simp [AV.flat_agg] at hx hz; subst hx; subst hz; exact .v _
    | 1 => simp [AV.flat_agg] at hx hz; subst hx; subst hz; exact .v _
    | j + 2 => simp at hx
set_option maxRecDepth 100000 in
theorem el_fd {H : Type} {enc : TypeId × Value → H} {W : World} {base : Nat} {M : Nat → Prop} (hM : ∀ b, b < W.heap.size → M b) : ∀ n cs y, DataW.trod enc Try.prog W base (fun _ => true) true n 36 cs = some y → cs.length = 5 → ∃ x : Fd, ∀ (j : Nat) (c : Value) (z : AV), cs[j]? = some c → (fo x).flat[j]? = some z → RepZ W M c z := by
  intro n cs y h hl
  match cs, hl with
  | [c0, c1, c2, c3, c4], _ =>
    obtain ⟨n0, y0, h0⟩ := field_cell (c := c0) Try.underlying36 h (i := 0) rfl (by kernel_rfl) rfl
    obtain ⟨n1, y1, h1⟩ := field_cell (c := c1) Try.underlying36 h (i := 1) rfl (by kernel_rfl) rfl
    obtain ⟨n2, y2, h2⟩ := field_cell (c := c2) Try.underlying36 h (i := 2) rfl (by kernel_rfl) rfl
    obtain ⟨n3, y3, h3⟩ := field_cell (c := c3) Try.underlying36 h (i := 3) rfl (by kernel_rfl) rfl
    obtain ⟨n4, y4, h4⟩ := field_cell (c := c4) Try.underlying36 h (i := 4) rfl (by kernel_rfl) rfl
    obtain ⟨a, rfl⟩ := cells_of_one Try.underlying3 h0
    obtain ⟨b, rfl⟩ := cells_of_one Try.underlying3 h1
    obtain ⟨c, rfl⟩ := cells_of_one Try.underlying3 h2
    obtain ⟨v3, hv3, C, _, hr3⟩ := rep_slice (M := M) cl 2 (by decide) (fun _ => rfl) Try.underlying34 (by kernel_rfl) hM el_aw h3
    obtain ⟨v4, hv4, S, _, hr4⟩ := rep_slice (M := M) ii 1 (by decide) (fun _ => rfl) Try.underlying25 (by kernel_rfl) hM (el_int Try.underlying3) h4
    have e3 : v3 = c3 := by simpa using hv3.symm
    have e4 : v4 = c4 := by simpa using hv4.symm
    subst e3; subst e4
    refine ⟨⟨a, b, c, C, S⟩, fun j x z hx hz => ?_⟩
    match j with
    | 0 => simp [AV.flat_agg] at hx hz; subst hx; subst hz; exact .v _
    | 1 => simp [AV.flat_agg] at hx hz; subst hx; subst hz; exact .v _
    | 2 => simp [AV.flat_agg] at hx hz; subst hx; subst hz; exact .v _
    | 3 => simp [AV.flat_agg] at hx hz; subst hx; subst hz; exact hr3
    | 4 => simp [AV.flat_agg] at hx hz; subst hx; subst hz; exact hr4
    | j + 5 => simp at hx
set_option maxRecDepth 100000 in
theorem rep_fds {H : Type} {enc : TypeId × Value → H} {W : World} {base : Nat} {v : Value} {d : DataW H} {p : List MemPlace} {M : Nat → Prop} {r : Go.Reach} {b0 : Nat} (hM : ∀ b, b < W.heap.size → M b)
    (hval : Value.okWide Try.prog W r b0 22 v) (h : DataW.Trod enc Try.prog W base (fun _ => true) true 22 v d p) : ∃ L : List Fd, L.length ≤ maxLen ∧ RepZ W M v (.sl (L.map fo)) :=
  rep_sliceV fo 5 (by decide) (fun _ => rfl) Try.underlying22 (by kernel_rfl) hM (el_fd hM) hval h
end Go.Proofs.Ytndiamkmcoghdaa

