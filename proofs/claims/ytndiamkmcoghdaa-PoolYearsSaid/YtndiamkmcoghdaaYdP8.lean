/-
  Lemmas for the statement at the top.
-/
import Derived.Test.YtndiamkmcoghdaaYdP7
set_option linter.all false
namespace Go.Proofs.Ytndiamkmcoghdaa
open Go.RowKit Go.Ab
attribute [local irreducible] AWP Go.Ab.Sub Means MeansH CallK CallG CallT CallGT
def dq (z w : Int) : Int :=(sg w * z) / ab w
def dr (z w : Int) : Int :=sg w * ((sg w * z) % ab w)
theorem dqr_uniq {s N D q r : Int} (hD : 0 < D) (h : r + D * q = s * N) (hr : 0 ≤ r ∧ r < D) : (s * N) / D = q ∧ (s * N) % D = r :=
 (Int.ediv_emod_unique hD).2 ⟨h,hr.1,hr.2⟩
theorem div_facts {z w : Int} (hw : w ≠ 0) :
  (sg z * sg w < 0 ∧ ab z % ab w ≠ 0 → dq z w = -(ab z / ab w + 1) ∧ dr z w = sg w * (ab w - ab z % ab w)) ∧
  (¬ (sg z * sg w < 0 ∧ ab z % ab w ≠ 0) → dq z w = sg z * sg w * (ab z / ab w) ∧ dr z w = sg z * (ab z % ab w)) :=by
 have hD : 0 < ab w :=by rcases sg_cases w with h | h | h <;> omega
 have h0 :=Int.mul_ediv_add_emod (ab z) (ab w)
 have h1 :=Int.emod_nonneg (ab z) (show ab w ≠ 0 by omega)
 have h2 :=Int.emod_lt_of_pos (ab z) hD
 unfold dq dr
 generalize ab z / ab w = q at *
 generalize ab z % ab w = r at *
 generalize hDD : ab w = D at *
 rcases sg_cases w with ⟨a1,a2,a3⟩ | ⟨a1,a2,a3⟩ | ⟨a1,a2,a3⟩
 · rcases sg_cases z with ⟨b1,b2,b3⟩ | ⟨b1,b2,b3⟩ | ⟨b1,b2,b3⟩
   · rw [a1,b1]
     refine ⟨fun h => by omega,fun _ => ?_⟩
     obtain ⟨e1,e2⟩ :=dqr_uniq (s :=-1) (N :=z) (q :=q) (r :=r) hD (by omega) ⟨h1,h2⟩
     rw [e1,e2]; omega
   · rw [a1,b1]
     refine ⟨fun h => by omega,fun _ => ?_⟩
     subst b2
     rw [b3] at h0
     obtain ⟨e1,e2⟩ :=dqr_uniq (s :=-1) (N :=0) (q :=0) (r :=0) hD (by omega) ⟨by omega,hD⟩
     rw [e1,e2]; omega
   · rw [a1,b1]
     refine ⟨fun h => ?_,fun h => ?_⟩
     · obtain ⟨e1,e2⟩ :=dqr_uniq (s :=-1) (N :=z) (q :=-(q + 1)) (r :=D - r) hD (by rw [Int.mul_neg,Int.mul_add]; omega) (by omega)
       rw [e1,e2]; omega
     · have hr0 : r = 0 :=by omega
       subst hr0
       obtain ⟨e1,e2⟩ :=dqr_uniq (s :=-1) (N :=z) (q :=-q) (r :=0) hD (by rw [Int.mul_neg]; omega) ⟨by omega,hD⟩
       rw [e1,e2]; omega
 · omega
 · rcases sg_cases z with ⟨b1,b2,b3⟩ | ⟨b1,b2,b3⟩ | ⟨b1,b2,b3⟩
   · rw [a1,b1]
     refine ⟨fun h => ?_,fun h => ?_⟩
     · obtain ⟨e1,e2⟩ :=dqr_uniq (s :=1) (N :=z) (q :=-(q + 1)) (r :=D - r) hD (by rw [Int.mul_neg,Int.mul_add]; omega) (by omega)
       rw [e1,e2]; omega
     · have hr0 : r = 0 :=by omega
       subst hr0
       obtain ⟨e1,e2⟩ :=dqr_uniq (s :=1) (N :=z) (q :=-q) (r :=0) hD (by rw [Int.mul_neg]; omega) ⟨by omega,hD⟩
       rw [e1,e2]; omega
   · rw [a1,b1]
     refine ⟨fun h => by omega,fun _ => ?_⟩
     subst b2
     obtain ⟨e1,e2⟩ :=dqr_uniq (s :=1) (N :=0) (q :=0) (r :=0) hD (by omega) ⟨by omega,hD⟩
     rw [e1,e2]; omega
   · rw [a1,b1]
     refine ⟨fun h => by omega,fun _ => ?_⟩
     obtain ⟨e1,e2⟩ :=dqr_uniq (s :=1) (N :=z) (q :=q) (r :=r) hD (by omega) ⟨h1,h2⟩
     rw [e1,e2]; omega
set_option maxHeartbeats 4000000 in
set_option maxRecDepth 20000 in
theorem Div_m (z w : Int) (hz : rz z) (hw : rz w) (h0 : w ≠ 0) : Means false Try.prog 44 [bigZ z,bigZ w] (.tup [bigZ (dq z w),bigZ (dr z w),ii 0]) :=by
 have hlz :=len60 hz
 have hlw :=len60 hw
 have hza :=ab_nonneg z
 have hD : 0 < ab w :=by rcases sg_cases w with h | h | h <;> omega
 have hs : sg w ≠ 0 :=by rcases sg_cases w with h | h | h <;> omega
 have hsz :=sg_bd z
 have hsw :=sg_bd w
 have hmm : -1 ≤ sg z * sg w ∧ sg z * sg w ≤ 1 :=by rw [← sg_mul]; exact sg_bd _
 have hww :=w64 (x :=sg z * sg w) (by omega) (by omega)
 have hne : 0 < (dg (ab w)).length :=by
  refine Nat.pos_of_ne_zero fun h => ?_
  have :=dg_eq_nil.1 (List.length_eq_zero_iff.1 h)
  omega
 have hdiv :=div_m (dg (ab z)) (dg (ab w)) (okD_dg _) (okD_dg _) (by omega) (by omega) (dg_dg hza) (dg_dg (by omega)) hne
 rw [val_ab,val_ab] at hdiv
 have h1 :=Int.emod_nonneg (ab z) (show ab w ≠ 0 by omega)
 have h2 :=Int.emod_lt_of_pos (ab z) hD
 have h3 :=Int.ediv_nonneg hza (show 0 ≤ ab w by omega)
 have h4 :=Int.ediv_le_self (ab w) hza
 obtain ⟨df1,df2⟩ :=div_facts (z :=z) h0
 have hlq : (dg (ab z / ab w)).length ≤ 60 :=Nat.le_trans (dg_len_mono h4) hlz
 have hlr : (dg (ab z % ab w)).length ≤ 60 :=Nat.le_trans (dg_len_mono (by omega)) hlw
 refine means_fn false 67 [.cell 4 46,.cell 5 46,.tmp 6] Try.func44 rfl rfl rfl (by simp) (by decide) rfl fun X hX => ?_
 (repeat (refine awp_stepG [0,1,2,3,4,5,6,7,8,9,20,44] hX mixed rfl ?_; (simp [go_sem]; try (refine ⟨by kernel_rfl,?_⟩))))
 first | refine callKa (right_t z hz) ?_ | refine callTa (right_t z hz) ?_
 try (simp [go_sem]; try (refine ⟨by kernel_rfl,?_⟩))
 first | refine callGa (fun hg => right_t w hw) ?_ | refine callGTa (fun hg => right_t w hw) ?_
 try (simp [go_sem]; try (refine ⟨by kernel_rfl,?_⟩))
 (repeat (refine awp_stepG [0,1,2,3,4,5,6,7,8,9,20,44] hX mixed rfl ?_; (simp [go_sem]; (try simp (disch :=omega) only [w64,td,tm]); try (refine ⟨by kernel_rfl,?_⟩))))
 refine awp_cond (b :=false) (by simp [go_sem]) (fun h => by cases h) (fun _ => ?_)
 (repeat (refine awp_stepG [0,1,2,3,4,5,6,7,8,9,20,44] hX mixed rfl ?_; (simp [go_sem]; try (refine ⟨by kernel_rfl,?_⟩))))
 refine awp_cond (b :=false) (by simp [go_sem,hs]) (fun h => by cases h) (fun _ => ?_)
 (repeat (refine awp_stepG [0,1,2,3,4,5,6,7,8,9,20,44] hX mixed rfl ?_; (simp [go_sem]; try (refine ⟨by kernel_rfl,?_⟩))))
 first | refine callKa (hdiv) ?_ | refine callTa (hdiv) ?_
 try (simp [go_sem]; try (refine ⟨by kernel_rfl,?_⟩))
 have hrl : 0 < (dg (ab z % ab w)).length ↔ ab z % ab w ≠ 0 :=by
  rw [List.length_pos_iff,Ne,dg_eq_nil]; omega
 have hq0 : 0 ≤ ab z / ab w + 1 :=by omega
 have hvq : val (dg (ab z / ab w)) = ab z / ab w :=val_dg h3
 have hvr : val (dg (ab z % ab w)) = ab z % ab w :=val_dg h1
 refine awp_seq ?_
 refine awp_seq ?_
 refine awp_cut ⟨mkE [(2,.el 0 2 0 0),(3,.el 1 2 0 0),(4,.el 2 2 0 0),(5,.el 3 2 0 0),(6,ii 0),(7,il (dg (ab z / ab w))),(8,il (dg (ab z % ab w))),(44,bb (decide (sg z * sg w < 0 ∧ ab z % ab w ≠ 0)))],
  [.row ⟨46,2,[bigZ z]⟩,.row ⟨46,2,[bigZ w]⟩,.row ⟨46,2,[.agg [ii 0,.nil]]⟩,.row ⟨46,2,[.agg [ii 0,.nil]]⟩]⟩ ?_ ?_
 · by_cases hn : sg z * sg w < 0
   · (repeat (refine awp_stepG [0,1,2,3,4,5,6,7,8,9,20,44] hX mixed rfl ?_; (simp [go_sem,hww,hn]; try (refine ⟨by kernel_rfl,?_⟩))))
     refine sub_of _ [.old 0 ⟨46,2,[bigZ z]⟩,.old 1 ⟨46,2,[bigZ w]⟩,.old 2 ⟨46,2,[.agg [ii 0,.nil]]⟩,.old 3 ⟨46,2,[.agg [ii 0,.nil]]⟩] (by simp [go_sem]) ?_
     simp [go_sem,hn]
     rw [Bool.eq_iff_iff]
     simp only [decide_eq_true_eq,Bool.not_eq_true',decide_eq_false_iff_not]
     exact hrl
   · (repeat (refine awp_stepG [0,1,2,3,4,5,6,7,8,9,20,44] hX mixed rfl ?_; (simp [go_sem,hww,hn]; try (refine ⟨by kernel_rfl,?_⟩))))
     refine sub_of _ [.old 0 ⟨46,2,[bigZ z]⟩,.old 1 ⟨46,2,[bigZ w]⟩,.old 2 ⟨46,2,[.agg [ii 0,.nil]]⟩,.old 3 ⟨46,2,[.agg [ii 0,.nil]]⟩] (by simp [go_sem]) ?_
     simp [go_sem,hn]
 · try (simp [go_sem]; try (refine ⟨by kernel_rfl,?_⟩))
   refine awp_cond (b :=decide (sg z * sg w < 0 ∧ ab z % ab w ≠ 0)) (by simp [go_sem]) (fun hb => ?_) (fun hb => ?_)
   · simp only [decide_eq_true_eq] at hb
     obtain ⟨e1,e2⟩ :=df1 hb
     have hadd :=add_m (dg (ab z / ab w)) [1] (okD_dg _) (dg_digit ⟨by decide,by decide⟩).2 (by omega) (by simp)
     rw [hvq,(dg_digit (r :=1) ⟨by decide,by decide⟩).1] at hadd
     have hvq1 : val (dg (ab z / ab w + 1)) = ab z / ab w + 1 :=val_dg hq0
     have hs1 :=signed_m (-1) (dg (ab z / ab w + 1)) (dq z w) (by
      have :=dg_len_iff (n :=ab z / ab w + 1) 61
      have h61 : (1048576 : Int) ^ 61 = 1048576 ^ 60 * 1048576 :=Int.pow_succ _ _
      have :=(dg_len_iff (n :=ab z / ab w) 60).1 hlq
      have :=this
      have : (dg (ab z / ab w + 1)).length ≤ 61 :=by rw [dg_len_iff]; omega
      omega) (okD_dg _) (by rw [hvq1,e1,ab_neg,ab,if_neg (by omega)]) (fun _ => by rw [e1,sg_neg,sg,if_neg (by omega),if_pos (by omega)])
     have hsub :=sub_m (dg (ab w)) (dg (ab z % ab w)) (okD_dg _) (okD_dg _) (by omega) (by omega) (by rw [val_ab,hvr]; omega)
     rw [val_ab,hvr] at hsub
     have hvs : val (dg (ab w - ab z % ab w)) = ab w - ab z % ab w :=val_dg (by omega)
     have hsw2 : sg w = 1 ∨ sg w = -1 :=by rcases sg_cases w with h | h | h <;> omega
     obtain ⟨f1,f2⟩ :=sg_of e2 (by omega) hsw2
     have hs2 :=signed_m (sg w) (dg (ab w - ab z % ab w)) (dr z w) (by have :=dg_len_mono (show ab w - ab z % ab w ≤ ab w by omega); omega) (okD_dg _) (by rw [hvs,f2]) (fun _ => f1)
     (repeat (refine awp_stepG [0,1,2,3,4,5,6,7,8,9,20,44] hX mixed rfl ?_; (simp [go_sem]; (try simp (disch :=omega) only [w64,td,tm]); try (refine ⟨by kernel_rfl,?_⟩))))
     first | refine callKa (hadd) ?_ | refine callTa (hadd) ?_
     try (simp [go_sem]; try (refine ⟨by kernel_rfl,?_⟩))
     first | refine callKa (hs1) ?_ | refine callTa (hs1) ?_
     try (simp [go_sem]; try (refine ⟨by kernel_rfl,?_⟩))
     first | refine callKa (hsub) ?_ | refine callTa (hsub) ?_
     try (simp [go_sem]; try (refine ⟨by kernel_rfl,?_⟩))
     first | refine callKa (hs2) ?_ | refine callTa (hs2) ?_
     try (simp [go_sem]; try (refine ⟨by kernel_rfl,?_⟩))
     (repeat refine And.intro (by first | omega | (unfold maxLen; omega) | kernel_rfl | (refine ⟨by first | omega | (unfold maxLen; omega),by first | omega | (unfold maxLen; omega)⟩) | grind) ?_)
     (repeat (refine awp_stepG [0,1,2,3,4,5,6,7,8,9,20,44] hX mixed rfl ?_; (simp [go_sem]; try (refine ⟨by kernel_rfl,?_⟩))))
   · simp only [decide_eq_false_iff_not] at hb
     obtain ⟨e1,e2⟩ :=df2 hb
     have hsz2 : sg z = 0 ∧ z = 0 ∨ (sg z = 1 ∨ sg z = -1) :=by rcases sg_cases z with h | h | h <;> omega
     have g1 : ab (dq z w) = ab z / ab w ∧ (ab z / ab w ≠ 0 → sg (dq z w) = sg z * sg w) :=by
      by_cases hq : ab z / ab w = 0
      · rw [e1,hq,Int.mul_zero]; exact ⟨rfl,fun h => (h rfl).elim⟩
      · have hm : sg z * sg w = 1 ∨ sg z * sg w = -1 :=by
         rcases sg_cases z with h | h | h <;> rcases sg_cases w with h5 | h5 | h5 <;> rw [h.1,h5.1] <;> first | omega | (exfalso; apply hq; rw [h.2.2]; exact Int.zero_ediv _)
        obtain ⟨f1,f2⟩ :=sg_of e1 (by omega) hm
        exact ⟨f2,fun _ => f1⟩
     have g2 : ab (dr z w) = ab z % ab w ∧ (ab z % ab w ≠ 0 → sg (dr z w) = sg z) :=by
      by_cases hq : ab z % ab w = 0
      · rw [e2,hq,Int.mul_zero]; exact ⟨rfl,fun h => (h rfl).elim⟩
      · have hm : sg z = 1 ∨ sg z = -1 :=by
         rcases sg_cases z with h | h | h
         · exact .inr h.1
         · exfalso; apply hq; rw [h.2.2]; exact Int.zero_emod _
         · exact .inl h.1
        obtain ⟨f1,f2⟩ :=sg_of e2 (by omega) hm
        exact ⟨f2,fun _ => f1⟩
     have hs1 :=signed_m (sg z * sg w) (dg (ab z / ab w)) (dq z w) (by omega) (okD_dg _) (by rw [hvq,g1.1]) (by rw [hvq]; exact g1.2)
     have hs2 :=signed_m (sg z) (dg (ab z % ab w)) (dr z w) (by omega) (okD_dg _) (by rw [hvr,g2.1]) (by rw [hvr]; exact g2.2)
     (repeat (refine awp_stepG [0,1,2,3,4,5,6,7,8,9,20,44] hX mixed rfl ?_; (simp [go_sem,hww]; (try simp (disch :=omega) only [w64,td,tm]); try (refine ⟨by kernel_rfl,?_⟩))))
     first | refine callKa (hs1) ?_ | refine callTa (hs1) ?_
     try (simp [go_sem]; try (refine ⟨by kernel_rfl,?_⟩))
     first | refine callKa (hs2) ?_ | refine callTa (hs2) ?_
     try (simp [go_sem]; try (refine ⟨by kernel_rfl,?_⟩))
     (repeat refine And.intro (by first | omega | (unfold maxLen; omega) | kernel_rfl | (refine ⟨by first | omega | (unfold maxLen; omega),by first | omega | (unfold maxLen; omega)⟩) | grind) ?_)
     (repeat (refine awp_stepG [0,1,2,3,4,5,6,7,8,9,20,44] hX mixed rfl ?_; (simp [go_sem]; try (refine ⟨by kernel_rfl,?_⟩))))
theorem gcd_step (m n : Nat) : Nat.gcd n (m % n) = Nat.gcd m n :=by
 rw [Nat.gcd_comm m n,Nat.gcd_rec n m,Nat.gcd_comm]
theorem ab_nat (z : Int) : ab z = z.natAbs :=by unfold ab; split <;> omega
set_option maxHeartbeats 4000000 in
set_option maxRecDepth 20000 in
theorem Gcd_m (z w : Int) (hz : rz z) (hw : rz w) : Means false Try.prog 63 [bigZ z,bigZ w] (.tup [bigZ (Int.gcd z w),ii 0]) :=by
 have hlz :=len60 hz
 have hlw :=len60 hw
 rw [ab_nat] at hlz
 rw [ab_nat] at hlw
 have hzn : bigZ z = big2 (sg z) (dg z.natAbs) :=by unfold bigZ; rw [ab_nat]
 have hcl :=clone_m (dg (z.natAbs : Int)) (by omega)
 rw [dg_len_iff] at hlz hlw
 refine means_fn false 44 [.cell 4 46,.tmp 5] Try.func63 rfl rfl rfl (by simp) (by decide) rfl fun X hX => ?_
 (repeat (refine awp_stepG [0,1,2,3,4,5,6,7,9,17,29] hX mixed rfl ?_; (simp [go_sem]; try (refine ⟨by kernel_rfl,?_⟩))))
 first | refine callKa (right_t z hz) ?_ | refine callTa (right_t z hz) ?_
 try (simp [go_sem]; try (refine ⟨by kernel_rfl,?_⟩))
 first | refine callGa (fun hg => right_t w hw) ?_ | refine callGTa (fun hg => right_t w hw) ?_
 try (simp [go_sem]; try (refine ⟨by kernel_rfl,?_⟩))
 (repeat (refine awp_stepG [0,1,2,3,4,5,6,7,9,17,29] hX mixed rfl ?_; (simp [go_sem]; (try simp (disch :=omega) only [w64,td,tm]); try (refine ⟨by kernel_rfl,?_⟩))))
 refine awp_cond (b :=false) (by simp [go_sem]) (fun h => by cases h) (fun _ => ?_)
 (repeat (refine awp_stepG [0,1,2,3,4,5,6,7,9,17,29] hX mixed rfl ?_; (simp [go_sem,ab_nat]; (try simp (disch :=omega) only [w64,td,tm]); try (refine ⟨by kernel_rfl,?_⟩))))
 first | refine callKa (hcl) ?_ | refine callTa (hcl) ?_
 try (simp [go_sem,ab_nat]; try (refine ⟨by kernel_rfl,?_⟩))
 (repeat refine And.intro (by first | omega | (unfold maxLen; omega) | kernel_rfl | (refine ⟨by first | omega | (unfold maxLen; omega),by first | omega | (unfold maxLen; omega)⟩) | grind) ?_)
 (repeat (refine awp_stepG [0,1,2,3,4,5,6,7,9,17,29] hX mixed rfl ?_; (simp [go_sem]; (try simp (disch :=omega) only [w64,td,tm]); try (refine ⟨by kernel_rfl,?_⟩))))
 refine awp_loop (fun x : Nat × Nat => ⟨mkE [(4,.el 0 2 0 0),(5,ii 0),(6,il (dg (x.1 : Int))),(7,il (dg (x.2 : Int)))],[.row ⟨46,2,[.agg [ii 0,.nil]]⟩]⟩)
  (fun x => Nat.gcd x.1 x.2 = Int.gcd z w ∧ (x.1 : Int) < 1048576 ^ 60 ∧ (x.2 : Int) < 1048576 ^ 60) (fun x => x.2) (z.natAbs,w.natAbs) ?_ ?_ ?_
 · refine sub_of _ [.old 2 ⟨46,2,[.agg [ii 0,.nil]]⟩] (by simp [go_sem]) ?_
   simp [go_sem]
 · exact ⟨rfl,hlz,hlw⟩
 · rintro ⟨m,n⟩ ⟨hg,hm,hn⟩
   simp only [] at hg hm hn
   have hlm :=(dg_len_iff 60).2 hm
   have hln :=(dg_len_iff 60).2 hn
   have hm0 : (0 : Int) ≤ m :=by omega
   have hn0 : (0 : Int) ≤ n :=by omega
   have hvm : val (dg (m : Int)) = m :=val_dg hm0
   have hvn : val (dg (n : Int)) = n :=val_dg hn0
   have hln0 : 0 < (dg (n : Int)).length ↔ n ≠ 0 :=by
    rw [List.length_pos_iff,Ne,dg_eq_nil]; omega
   (repeat (refine awp_stepG [0,1,2,3,4,5,6,7,9,17,29] hX mixed rfl ?_; (simp [go_sem]; (try simp (disch :=omega) only [w64,td,tm]); try (refine ⟨by kernel_rfl,?_⟩))))
   refine awp_cond (b :=decide (n ≠ 0)) (by
    simp only [← hln0]
    simp [go_sem]) (fun hd => ?_) (fun hd => ?_)
   · simp only [decide_eq_true_eq] at hd
     have hdiv :=div_m (dg (m : Int)) (dg (n : Int)) (okD_dg _) (okD_dg _) (by omega) (by omega) (dg_dg hm0) (dg_dg hn0) (hln0.2 hd)
     rw [hvm,hvn] at hdiv
     (repeat (refine awp_stepG [0,1,2,3,4,5,6,7,9,17,29] hX mixed rfl ?_; (simp [go_sem]; (try simp (disch :=omega) only [w64,td,tm]); try (refine ⟨by kernel_rfl,?_⟩))))
     first | refine callKa (hdiv) ?_ | refine callTa (hdiv) ?_
     try (simp [go_sem]; try (refine ⟨by kernel_rfl,?_⟩))
     (repeat (refine awp_stepG [0,1,2,3,4,5,6,7,9,17,29] hX mixed rfl ?_; (simp [go_sem]; (try simp (disch :=omega) only [w64,td,tm]); try (refine ⟨by kernel_rfl,?_⟩))))
     have hlt : m % n < n :=Nat.mod_lt _ (by omega)
     refine ⟨n,m % n,⟨by rw [gcd_step,hg],hn,by omega⟩,hlt,?_⟩
     refine sub_of _ [.old 0 ⟨46,2,[.agg [ii 0,.nil]]⟩] (by simp [go_sem]) ?_
     simp [go_sem]
   · have hn00 : n = 0 :=by simpa using hd
     subst hn00
     rw [Nat.gcd_zero_right] at hg
     rw [← hg]
     have hab : ab (m : Int) = m :=by rw [ab_nat]; omega
     have hr : rz (m : Int) :=by unfold rz; rw [hab]; exact hm
     have hcl2 :=clone_m (dg (m : Int)) (by omega)
     have hs1 :=signed_m 1 (dg (m : Int)) m (by omega) (okD_dg _) (by rw [hvm,hab]) (fun h => by rw [hvm] at h; rw [sg,if_neg (by omega),if_pos (by omega)])
     have hch :=check_m (m : Int) (by rw [hab]; omega)
     rw [res,r60_of hr,e60_of hr] at hch
     (repeat (refine awp_stepG [0,1,2,3,4,5,6,7,9,17,29] hX mixed rfl ?_; (simp [go_sem]; (try simp (disch :=omega) only [w64,td,tm]); try (refine ⟨by kernel_rfl,?_⟩))))
     first | refine callKa (hcl2) ?_ | refine callTa (hcl2) ?_
     try (simp [go_sem]; try (refine ⟨by kernel_rfl,?_⟩))
     first | refine callKa (hs1) ?_ | refine callTa (hs1) ?_
     try (simp [go_sem]; try (refine ⟨by kernel_rfl,?_⟩))
     first | refine callKa (hch) ?_ | refine callTa (hch) ?_
     try (simp [go_sem]; try (refine ⟨by kernel_rfl,?_⟩))
     (repeat (refine awp_stepG [0,1,2,3,4,5,6,7,9,17,29] hX mixed rfl ?_; (simp [go_sem]; (try simp (disch :=omega) only [w64,td,tm]); try (refine ⟨by kernel_rfl,?_⟩))))
end Go.Proofs.Ytndiamkmcoghdaa

namespace Go.Proofs.Ytndiamkmcoghdaa
open Go.RowKit Go.Ab
attribute [local irreducible] AWP Go.Ab.Sub Means MeansH CallK CallG CallT CallGT
theorem wu {x : Int} (h1 : 0 ≤ x) (h2 : x < 18446744073709551616) : IntKind.u64.wrap x = x :=by
 unfold IntKind.wrap
 simp [IntKind.bits,IntKind.signed]
 omega
theorem wun {n : Int} (h1 : -9223372036854775808 ≤ n) (h2 : n < 0) : IntKind.u64.wrap (-(IntKind.u64.wrap n)) = -n :=by
 unfold IntKind.wrap
 simp [IntKind.bits,IntKind.signed]
 omega
theorem and_mask_u {x : Int} (h1 : 0 ≤ x) (h2 : x < 18446744073709551616) : andI .u64 x 1048575 = x % 1048576 :=by
 unfold andI
 rw [BitVec.toNat_and,BitVec.toNat_ofInt,BitVec.toNat_ofInt]
 show IntKind.u64.wrap (((x % (2 ^ 64 : Nat)).toNat &&& ((1048575 : Int) % (2 ^ 64 : Nat)).toNat : Nat) : Int) = _
 rw [show ((1048575 : Int) % (2 ^ 64 : Nat)).toNat = 1048575 by decide,nat_mask,wu (by omega) (by omega)]
 omega
set_option maxHeartbeats 4000000 in
set_option maxRecDepth 20000 in
theorem Of_m (n : Int) (hn : -9223372036854775808 ≤ n ∧ n ≤ 9223372036854775807) : Means false Try.prog 41 [ii n] (bigZ n) :=by
 have hab :=ab_nonneg n
 have hlo : (dg (ab n)).length ≤ 4 :=by
  rw [dg_len_iff]
  have : ab n ≤ 9223372036854775808 :=by unfold ab; split <;> omega
  have : (1048576 : Int) ^ 4 = 1208925819614629174706176 :=by decide
  omega
 refine means_fn false 25 [.cell 2 46] Try.func41 rfl rfl rfl (by simp) (by decide) rfl fun X hX => ?_
 (repeat (refine awp_stepG [0,2,3,4,5,9,13] hX mixed rfl ?_; (simp [go_sem]; try (refine ⟨by kernel_rfl,?_⟩))))
 refine awp_cut ⟨mkE [(2,.el 0 2 0 0),(3,ii (if n < 0 then -1 else 1)),(4,uu (ab n))],[.row ⟨46,2,[.agg [ii 0,.nil]]⟩]⟩ ?_ ?_
 · refine awp_cond (b :=decide (n < 0)) (by simp [go_sem]) (fun hd => ?_) (fun hd => ?_)
   · simp only [decide_eq_true_eq] at hd
     have hw :=wun hn.1 hd
     have hae : ab n = -n :=by unfold ab; rw [if_pos hd]
     (repeat (refine awp_stepG [0,2,3,4,5,9,13] hX mixed rfl ?_; (simp [go_sem,hw,hd,hae]; try (refine ⟨by kernel_rfl,?_⟩))))
     refine sub_of _ [.old 0 ⟨46,2,[.agg [ii 0,.nil]]⟩] (by simp [go_sem]) ?_
     simp [go_sem,hw,hd,hae]
   · simp only [decide_eq_false_iff_not] at hd
     have hae : ab n = n :=by unfold ab; rw [if_neg hd]
     have hw :=wu (x :=n) (by omega) (by omega)
     (repeat (refine awp_stepG [0,2,3,4,5,9,13] hX mixed rfl ?_; (simp [go_sem,hd,hae,hw]; try (refine ⟨by kernel_rfl,?_⟩))))
     refine sub_of _ [.old 0 ⟨46,2,[.agg [ii 0,.nil]]⟩] (by simp [go_sem]) ?_
     simp [go_sem,hd,hae,hw]
 · try (simp [go_sem]; try (refine ⟨by kernel_rfl,?_⟩))
   (repeat (refine awp_stepG [0,2,3,4,5,9,13] hX mixed rfl ?_; (simp [go_sem]; try (refine ⟨by kernel_rfl,?_⟩))))
   refine awp_loop (fun x : Int × List Int => ⟨mkE [(2,.el 0 2 0 0),(3,ii (if n < 0 then -1 else 1)),(4,uu x.1),(5,.ow 1)],[.row ⟨46,2,[.agg [ii 0,.nil]]⟩,.row ⟨3,1,x.2.map ii⟩]⟩)
    (fun x => 0 ≤ x.1 ∧ x.1 ≤ 9223372036854775808 ∧ x.2 ++ dg x.1 = dg (ab n)) (fun x => x.1.toNat) (ab n,[]) ?_ ?_ ?_
   · refine sub_of _ [.old 0 ⟨46,2,[.agg [ii 0,.nil]]⟩,.birth 3 1] (by simp [go_sem]) ?_
     simp [go_sem]
   · exact ⟨hab,by show ab n ≤ _; unfold ab; split <;> omega,by simp⟩
   · rintro ⟨u,L⟩ ⟨hu,hu2,hE⟩
     simp only [] at hu hu2 hE
     (repeat (refine awp_stepG [0,2,3,4,5,9,13] hX mixed rfl ?_; (simp [go_sem]; try (refine ⟨by kernel_rfl,?_⟩))))
     refine awp_cond (b :=decide (0 < u)) (by simp [go_sem]) (fun hd => ?_) (fun hd => ?_)
     · simp only [decide_eq_true_eq] at hd
       have ham :=and_mask_u hu (by omega)
       have hLl : L.length ≤ 4 :=by have :=congrArg List.length hE; simp at this; omega
       (repeat (refine awp_stepG [0,2,3,4,5,9,13] hX mixed rfl ?_; (simp [go_sem,ham]; (try simp (disch :=omega) only [w64,td,tm]); try (refine ⟨by kernel_rfl,?_⟩))))
       refine ⟨⟨by omega,by unfold maxLen; omega⟩,?_⟩
       (repeat (refine awp_stepG [0,2,3,4,5,9,13] hX mixed rfl ?_; (simp [go_sem]; (try simp (disch :=omega) only [w64,td,tm]); try (refine ⟨by kernel_rfl,?_⟩))))
       refine ⟨u / 1048576,L ++ [u % 1048576],⟨by omega,by omega,by rw [← hE,dg_pos hd]; simp⟩,by omega,?_⟩
       refine sub_of _ [.old 0 ⟨46,2,[.agg [ii 0,.nil]]⟩,.old 3 ⟨3,1,(L ++ [u % 1048576]).map ii⟩] (by simp [go_sem]) ?_
       simp [go_sem]
     · simp only [decide_eq_false_iff_not] at hd
       have hu0 : u = 0 :=by omega
       subst hu0
       rw [dg_zero,List.append_nil] at hE
       subst hE
       refine awp_sub (st0 :=⟨mkE [(2,.el 0 2 0 0),(3,ii (if n < 0 then -1 else 1)),(5,il (dg (ab n)))],[.row ⟨46,2,[.agg [ii 0,.nil]]⟩]⟩) ?_ ?_
       · refine sub_of _ [.old 0 ⟨46,2,[.agg [ii 0,.nil]]⟩] (by simp [go_sem]) ?_
         simp [go_sem]
       · have hsgn :=signed_m (if n < 0 then -1 else 1) (dg (ab n)) n (by omega) (okD_dg _) (by rw [val_ab]) (fun h => by rw [val_ab] at h; unfold ab at h; unfold sg; split <;> split at h <;> first | rfl | omega | (rw [if_pos (by omega)]))
         (repeat (refine awp_stepG [0,2,3,4,5,9,13] hX mixed rfl ?_; (simp [go_sem]; (try simp (disch :=omega) only [w64,td,tm]); try (refine ⟨by kernel_rfl,?_⟩))))
         first | refine callKa (hsgn) ?_ | refine callTa (hsgn) ?_
         try (simp [go_sem]; try (refine ⟨by kernel_rfl,?_⟩))
         (repeat (refine awp_stepG [0,2,3,4,5,9,13] hX mixed rfl ?_; (simp [go_sem]; try (refine ⟨by kernel_rfl,?_⟩))))
theorem or_u (k : Nat) {u d : Int} (h1 : 0 ≤ u) (h2 : u < 2 ^ k) (h3 : 0 ≤ d) (h4 : d * 2 ^ k + u < 18446744073709551616) : orI .u64 u (d * 2 ^ k) = u + d * 2 ^ k :=by
 obtain ⟨m,rfl⟩ :=Int.eq_ofNat_of_zero_le h1
 obtain ⟨n,rfl⟩ :=Int.eq_ofNat_of_zero_le h3
 have hm : m < 2 ^ k :=by
  have : ((m : Nat) : Int) < ((2 ^ k : Nat) : Int) :=by simpa using h2
  omega
 have hnn : (n : Int) * 2 ^ k = ((n * 2 ^ k : Nat) : Int) :=by simp
 rw [hnn] at h4 ⊢
 unfold orI
 rw [BitVec.toNat_or,BitVec.toNat_ofInt,BitVec.toNat_ofInt]
 show IntKind.u64.wrap (((((m : Nat) : Int) % (2 ^ 64 : Nat)).toNat ||| ((((n * 2 ^ k : Nat) : Int)) % (2 ^ 64 : Nat)).toNat : Nat) : Int) = _
 rw [show (((n * 2 ^ k : Nat) : Int) % (2 ^ 64 : Nat)).toNat = n <<< k by rw [Nat.shiftLeft_eq]; omega,show (((m : Nat) : Int) % (2 ^ 64 : Nat)).toNat = m by omega,
  Nat.or_comm,← Nat.shiftLeft_add_eq_or_of_lt hm,Nat.shiftLeft_eq,wu (by omega) (by omega)]
 omega
theorem val_take_succ {L : List Int} {i : Nat} (h : i < L.length) : val (L.take (i + 1)) = val (L.take i) + 1048576 ^ i * L[i] :=by
 rw [List.take_succ_eq_append_getElem h,val_app,List.length_take,Nat.min_eq_left (by omega)]
 simp [val]
def inI (z : Int) : Bool :=decide (-9223372036854775808 ≤ z ∧ z ≤ 9223372036854775807)
set_option maxHeartbeats 4000000 in
set_option maxRecDepth 20000 in
theorem Int_m (z : Int) (hz : rz z) : Means false Try.prog 49 [bigZ z] (.tup [ii (if inI z then z else 0),bb (inI z)]) :=by
 have hlz :=len60 hz
 have hab :=ab_nonneg z
 have hva :=val_ab z
 have hok :=okD_dg (ab z)
 refine means_fn false 59 [.tmp 2,.tmp 3] Try.func49 rfl rfl rfl (by simp) (by decide) rfl fun X hX => ?_
 (repeat (refine awp_stepG [0,1,2,3,4,5,6,15,17,18,19,20,29,38,49] hX mixed rfl ?_; (simp [go_sem]; try (refine ⟨by kernel_rfl,?_⟩))))
 first | refine callKa (right_t z hz) ?_ | refine callTa (right_t z hz) ?_
 try (simp [go_sem]; try (refine ⟨by kernel_rfl,?_⟩))
 (repeat (refine awp_stepG [0,1,2,3,4,5,6,15,17,18,19,20,29,38,49] hX mixed rfl ?_; (simp [go_sem]; try (refine ⟨by kernel_rfl,?_⟩))))
 refine awp_cond (b :=decide (4 < (dg (ab z)).length)) (by simp [go_sem]; try omega) (fun hd => ?_) (fun hd => ?_)
 · simp only [decide_eq_true_eq] at hd
   have : ¬ (dg (ab z)).length ≤ 4 :=by omega
   rw [dg_len_iff] at this
   have h4 : (1048576 : Int) ^ 4 = 1208925819614629174706176 :=by decide
   have hin : inI z = false :=by
    unfold inI
    rcases sg_cases z with h | h | h <;> simp <;> omega
   (repeat (refine awp_stepG [0,1,2,3,4,5,6,15,17,18,19,20,29,38,49] hX mixed rfl ?_; (simp [go_sem,hin]; try (refine ⟨by kernel_rfl,?_⟩))))
 · simp only [decide_eq_false_iff_not] at hd
   generalize hL : dg (ab z) = L at *
   (repeat (refine awp_stepG [0,1,2,3,4,5,6,15,17,18,19,20,29,38,49] hX mixed rfl ?_; (simp [go_sem]; try (refine ⟨by kernel_rfl,?_⟩))))
   refine awp_loop (fun x : Nat => ⟨mkE [(1,.el 0 2 0 0),(4,uu (val (L.take x))),(17,il L),(18,ii L.length),(19,ii x)],[.row ⟨46,2,[big2 (sg z) L]⟩]⟩)
    (fun x => x ≤ L.length ∧ (x = 4 → ab z < 10376293541461622784)) (fun x => L.length - x) 0 ?_ ?_ ?_
   · refine sub_of _ [.old 0 ⟨46,2,[big2 (sg z) L]⟩] (by simp [go_sem,hL]) ?_
     simp [go_sem,val,hL]
   · exact ⟨Nat.zero_le _,fun h => by omega⟩
   · rintro i ⟨hi,hi4⟩
     (repeat (refine awp_stepG [0,1,2,3,4,5,6,15,17,18,19,20,29,38,49] hX mixed rfl ?_; (simp [go_sem]; try (refine ⟨by kernel_rfl,?_⟩))))
     refine awp_cond (b :=decide (i < L.length)) (by simp [go_sem]) (fun hd2 => ?_) (fun hd2 => ?_)
     · simp at hd2
       have hx :=okD_at hok hd2
       have hlt :=val_lt (okD_take hok i)
       have hge :=val_nonneg (okD_take hok i)
       rw [List.length_take,Nat.min_eq_left hi] at hlt
       have hvs :=val_take_succ hd2
       have hpw : (1048576 : Int) ^ i = 2 ^ (20 * i) :=by rw [Int.pow_mul]; rfl
       have hvs2 : val (L.take (i + 1)) = val (L.take i) + L[i] * 2 ^ (20 * i) :=by rw [hvs,hpw,Int.mul_comm]
       have hw1 :=wu (x :=L[i]) (by omega) (by omega)
       have hw2 :=w64 (x :=20 * (i : Int)) (by omega) (by omega)
       have hmin : min (20 * (i : Int)).toNat 64 = 20 * i :=by omega
       have hpos : (0 : Int) ≤ 20 * i :=by omega
       have hgo : (L[i] * 2 ^ (20 * i) + val (L.take i) < 18446744073709551616) →
         True :=fun _ => trivial
       clear hgo
       have hsmall : i ≤ 2 → L[i] * 2 ^ (20 * i) + val (L.take i) < 18446744073709551616 ∧ L[i] * 2 ^ (20 * i) < 18446744073709551616 :=by
        intro h
        have : i = 0 ∨ i = 1 ∨ i = 2 :=by omega
        rcases this with rfl | rfl | rfl <;> simp at hlt ⊢ <;> omega
       by_cases h3 : i = 3
       · have h3i : (i : Int) = 3 :=by omega
         have e1 :=eq_true h3
         have e2 :=eq_true h3i
         have hp60 : (2 : Int) ^ (20 * i) = 1152921504606846976 :=by rw [h3]; decide
         rw [hpw,hp60] at hlt
         have hLv : val (L.take (i + 1)) = ab z :=by rw [← hva,List.take_of_length_le (by omega)]
         rw [hp60] at hvs2
         by_cases h8 : 8 < L[i]
         · have hin : inI z = false :=by
            unfold inI
            rcases sg_cases z with h | h | h <;> simp <;> omega
           (repeat (refine awp_stepG [0,1,2,3,4,5,6,15,17,18,19,20,29,38,49] hX mixed rfl ?_; (simp [go_sem,hd2,e1,e2,h8]; try (refine ⟨by kernel_rfl,?_⟩))))
           try (simp [go_sem,hd2,e1,e2,h8]; try (refine ⟨by kernel_rfl,?_⟩))
           (repeat (refine awp_stepG [0,1,2,3,4,5,6,15,17,18,19,20,29,38,49] hX mixed rfl ?_; (simp [go_sem,e1,e2,h8]; (try simp (disch :=omega) only [w64,td,tm]); try (refine ⟨by kernel_rfl,?_⟩))))
           try (simp [go_sem,e1,e2,h8]; try (refine ⟨by kernel_rfl,?_⟩))
           refine awp_cond (b :=true) (by simp [go_sem]) (fun _ => ?_) (fun h => by cases h)
           (repeat (refine awp_stepG [0,1,2,3,4,5,6,15,17,18,19,20,29,38,49] hX mixed rfl ?_; (simp [go_sem,hin]; try (refine ⟨by kernel_rfl,?_⟩))))
         · have hp2 : (0 : Int) ≤ L[i] * 2 ^ (20 * i) :=Int.mul_nonneg hx.1 (Int.le_of_lt (Int.pow_pos (by decide)))
           have hor :=or_u (20 * i) (u :=val (L.take i)) (d :=L[i]) hge (by rw [hp60]; exact hlt) hx.1 (by rw [hp60]; omega)
           have hw3 :=wu (x :=L[i] * 2 ^ (20 * i)) hp2 (by rw [hp60]; omega)
           (repeat (refine awp_stepG [0,1,2,3,4,5,6,15,17,18,19,20,29,38,49] hX mixed rfl ?_; (simp [go_sem,hd2,e1,e2,h8]; try (refine ⟨by kernel_rfl,?_⟩))))
           try (simp [go_sem,hd2,e1,e2,h8]; try (refine ⟨by kernel_rfl,?_⟩))
           (repeat (refine awp_stepG [0,1,2,3,4,5,6,15,17,18,19,20,29,38,49] hX mixed rfl ?_; (simp [go_sem,e1,e2,h8]; (try simp (disch :=omega) only [w64,td,tm]); try (refine ⟨by kernel_rfl,?_⟩))))
           try (simp [go_sem,e1,e2,h8]; try (refine ⟨by kernel_rfl,?_⟩))
           refine awp_cond (b :=false) (by simp [go_sem]) (fun h => by cases h) (fun _ => ?_)
           (repeat (refine awp_stepG [0,1,2,3,4,5,6,15,17,18,19,20,29,38,49] hX mixed rfl ?_; (simp [go_sem,hw1,hw2,hmin,hpos,hw3,hor]; (try simp (disch :=omega) only [w64,td,tm]); try (refine ⟨by kernel_rfl,?_⟩))))
           try (simp [go_sem,hw1,hw2,hmin,hpos,hw3,hor]; try (refine ⟨by kernel_rfl,?_⟩))
           refine ⟨i + 1,⟨by omega,fun _ => by omega⟩,by omega,?_⟩
           rw [← hp60] at hvs2
           refine sub_of _ [.old 0 ⟨46,2,[big2 (sg z) L]⟩] (by simp [go_sem,hL]) ?_
           simp [go_sem,hvs2,hL]
       · have h3i : ¬ (i : Int) = 3 :=by omega
         obtain ⟨hs1,hs2⟩ :=hsmall (by omega)
         have hp2 : (0 : Int) ≤ L[i] * 2 ^ (20 * i) :=Int.mul_nonneg hx.1 (Int.le_of_lt (Int.pow_pos (by decide)))
         have hor :=or_u (20 * i) (u :=val (L.take i)) (d :=L[i]) hge (by rw [← hpw]; exact hlt) hx.1 hs1
         have hw3 :=wu (x :=L[i] * 2 ^ (20 * i)) hp2 hs2
         (repeat (refine awp_stepG [0,1,2,3,4,5,6,15,17,18,19,20,29,38,49] hX mixed rfl ?_; (simp [go_sem,hd2,h3i]; try (refine ⟨by kernel_rfl,?_⟩))))
         try (simp [go_sem,hd2,h3i]; try (refine ⟨by kernel_rfl,?_⟩))
         (repeat (refine awp_stepG [0,1,2,3,4,5,6,15,17,18,19,20,29,38,49] hX mixed rfl ?_; (simp [go_sem]; (try simp (disch :=omega) only [w64,td,tm]); try (refine ⟨by kernel_rfl,?_⟩))))
         refine awp_cond (b :=false) (by simp [go_sem]) (fun h => by cases h) (fun _ => ?_)
         (repeat (refine awp_stepG [0,1,2,3,4,5,6,15,17,18,19,20,29,38,49] hX mixed rfl ?_; (simp [go_sem,hw1,hw2,hmin,hpos,hw3,hor]; (try simp (disch :=omega) only [w64,td,tm]); try (refine ⟨by kernel_rfl,?_⟩))))
         try (simp [go_sem,hw1,hw2,hmin,hpos,hw3,hor]; try (refine ⟨by kernel_rfl,?_⟩))
         refine ⟨i + 1,⟨by omega,fun h => by omega⟩,by omega,?_⟩
         refine sub_of _ [.old 0 ⟨46,2,[big2 (sg z) L]⟩] (by simp [go_sem,hL]) ?_
         simp [go_sem,hvs2,hL]
     · have hil : i = L.length :=by simp at hd2; omega
       subst hil
       rw [List.take_length,hva]
       have hbd : ab z < 10376293541461622784 :=by
        by_cases h4 : L.length = 4
        · exact hi4 h4
        · have :=val_lt hok
          rw [hva] at this
          have hle : (1048576 : Int) ^ L.length ≤ 1048576 ^ 3 :=by
           have : L.length = 0 ∨ L.length = 1 ∨ L.length = 2 ∨ L.length = 3 :=by omega
           rcases this with h | h | h | h <;> rw [h] <;> decide
          have h3 : (1048576 : Int) ^ 3 = 1152921504606846976 :=by decide
          omega
       have hwn : 0 ≤ ab z → ab z ≤ 9223372036854775808 → sg z < 0 → IntKind.i64.wrap (IntKind.u64.wrap (-ab z)) = z :=by
        intro _ h1 h2
        have : ab z = -z :=by rcases sg_cases z with h | h | h <;> omega
        unfold IntKind.wrap
        simp [IntKind.bits,IntKind.signed]
        omega
       by_cases hs : sg z < 0
       · have hz0 : ab z = -z :=by rcases sg_cases z with h | h | h <;> omega
         by_cases hle : ab z ≤ 9223372036854775808
         · have hw :=hwn hab hle hs
           have hin : inI z = true :=by unfold inI; simp; omega
           (repeat (refine awp_stepG [0,1,2,3,4,5,6,15,17,18,19,20,29,38,49] hX mixed rfl ?_; (simp [go_sem,hs,hle]; try (refine ⟨by kernel_rfl,?_⟩))))
           refine awp_cond (b :=true) (by simp [go_sem]) (fun _ => ?_) (fun h => by cases h)
           (repeat (refine awp_stepG [0,1,2,3,4,5,6,15,17,18,19,20,29,38,49] hX mixed rfl ?_; (simp [go_sem,hw,hin]; try (refine ⟨by kernel_rfl,?_⟩))))
         · have hin : inI z = false :=by unfold inI; simp; omega
           have hs2 : ¬ 0 ≤ sg z :=by omega
           (repeat (refine awp_stepG [0,1,2,3,4,5,6,15,17,18,19,20,29,38,49] hX mixed rfl ?_; (simp [go_sem,hs,hle]; try (refine ⟨by kernel_rfl,?_⟩))))
           refine awp_cond (b :=false) (by simp [go_sem]) (fun h => by cases h) (fun _ => ?_)
           (repeat (refine awp_stepG [0,1,2,3,4,5,6,15,17,18,19,20,29,38,49] hX mixed rfl ?_; (simp [go_sem,hs2]; try (refine ⟨by kernel_rfl,?_⟩))))
           refine awp_cond (b :=false) (by simp [go_sem]) (fun h => by cases h) (fun _ => ?_)
           (repeat (refine awp_stepG [0,1,2,3,4,5,6,15,17,18,19,20,29,38,49] hX mixed rfl ?_; (simp [go_sem,hin]; try (refine ⟨by kernel_rfl,?_⟩))))
       · have hz0 : ab z = z :=by rcases sg_cases z with h | h | h <;> omega
         have hs2 : 0 ≤ sg z :=by omega
         by_cases hle : ab z < 9223372036854775808
         · have hw :=w64 (x :=ab z) (by omega) (by omega)
           rw [hz0] at hw
           have hin : inI z = true :=by unfold inI; simp; omega
           (repeat (refine awp_stepG [0,1,2,3,4,5,6,15,17,18,19,20,29,38,49] hX mixed rfl ?_; (simp [go_sem,hs]; try (refine ⟨by kernel_rfl,?_⟩))))
           refine awp_cond (b :=false) (by simp [go_sem]) (fun h => by cases h) (fun _ => ?_)
           (repeat (refine awp_stepG [0,1,2,3,4,5,6,15,17,18,19,20,29,38,49] hX mixed rfl ?_; (simp [go_sem,hs2,hle]; try (refine ⟨by kernel_rfl,?_⟩))))
           refine awp_cond (b :=true) (by simp [go_sem]) (fun _ => ?_) (fun h => by cases h)
           (repeat (refine awp_stepG [0,1,2,3,4,5,6,15,17,18,19,20,29,38,49] hX mixed rfl ?_; (simp [go_sem,hz0,hw,hin]; try (refine ⟨by kernel_rfl,?_⟩))))
         · have hin : inI z = false :=by unfold inI; simp; omega
           (repeat (refine awp_stepG [0,1,2,3,4,5,6,15,17,18,19,20,29,38,49] hX mixed rfl ?_; (simp [go_sem,hs]; try (refine ⟨by kernel_rfl,?_⟩))))
           refine awp_cond (b :=false) (by simp [go_sem]) (fun h => by cases h) (fun _ => ?_)
           (repeat (refine awp_stepG [0,1,2,3,4,5,6,15,17,18,19,20,29,38,49] hX mixed rfl ?_; (simp [go_sem,hs2,hle]; try (refine ⟨by kernel_rfl,?_⟩))))
           refine awp_cond (b :=false) (by simp [go_sem]) (fun h => by cases h) (fun _ => ?_)
           (repeat (refine awp_stepG [0,1,2,3,4,5,6,15,17,18,19,20,29,38,49] hX mixed rfl ?_; (simp [go_sem,hin]; try (refine ⟨by kernel_rfl,?_⟩))))
end Go.Proofs.Ytndiamkmcoghdaa

namespace Go.Proofs.Ytndiamkmcoghdaa
open Go.RowKit Go.Ab
attribute [local irreducible] AWP Go.Ab.Sub Means MeansH CallK CallG CallT CallGT
theorem rz_c {z : Int} (h : ab z < 100000000000000000000000000000000) : rz z :=by
 unfold rz
 have : (100000000000000000000000000000000 : Int) < 1048576 ^ 60 :=by decide
 omega
theorem rz_i {z : Int} (h : -9223372036854775808 ≤ z ∧ z ≤ 9223372036854775807) : rz z :=rz_c (by unfold ab; split <;> omega)
theorem Mul_ok {z w p : Int} (hz : rz z) (hw : rz w) (hp : rz p) (e : z * w = p) : Means false Try.prog 68 [bigZ z,bigZ w] (.tup [bigZ p,ii 0]) :=by
 have :=Mul_m z w hz hw
 rwa [res,e,r60_of hp,e60_of hp] at this
theorem Div_ok {z w q r : Int} (hz : rz z) (hw : rz w) (h0 : w ≠ 0) (hq : dq z w = q) (hr : dr z w = r) : Means false Try.prog 44 [bigZ z,bigZ w] (.tup [bigZ q,bigZ r,ii 0]) :=by
 have :=Div_m z w hz hw h0
 rwa [hq,hr] at this
theorem Gcd_ok {z w g : Int} (hz : rz z) (hw : rz w) (hg : (Int.gcd z w : Int) = g) : Means false Try.prog 63 [bigZ z,bigZ w] (.tup [bigZ g,ii 0]) :=by
 have :=Gcd_m z w hz hw
 rwa [hg] at this
theorem Int_i {z : Int} (h : -9223372036854775808 ≤ z ∧ z ≤ 9223372036854775807) : Means false Try.prog 49 [bigZ z] (.tup [ii z,bb true]) :=by
 have :=Int_m z (rz_i h)
 have e : inI z = true :=by unfold inI; simpa using h
 rwa [e,if_pos rfl] at this
theorem cmpI_bd (a b : Int) : -1 ≤ cmpI a b ∧ cmpI a b ≤ 1 :=by unfold cmpI; split <;> (try split) <;> omega
theorem cmpI_zero (a b : Int) : cmpI a b = 0 ↔ a = b :=by unfold cmpI; split <;> (try split) <;> omega
theorem cmpI_sg (a b : Int) : sg (a - b) = cmpI a b :=by unfold cmpI sg; split <;> (try split) <;> (try split) <;> (try split) <;> omega
theorem dq_bd {z w : Int} (h : w ≠ 0) : ab (dq z w) ≤ ab z :=by
 have hD : 0 < ab w :=by rcases sg_cases w with h | h | h <;> omega
 unfold dq
 have e : ab (sg w * z) = ab z :=by
  rcases sg_cases w with ⟨a1,_,_⟩ | ⟨a1,a2,_⟩ | ⟨a1,_,_⟩
  · rw [a1,Int.neg_one_mul,ab_neg]
  · exact absurd a2 h
  · rw [a1,Int.one_mul]
 rw [← e]
 generalize sg w * z = x
 generalize ab w = D at *
 have h0 :=Int.mul_ediv_add_emod x D
 have h1 :=Int.emod_nonneg x (show D ≠ 0 by omega)
 have h2 :=Int.emod_lt_of_pos x hD
 generalize x / D = q at *
 generalize x % D = r at *
 rcases sg_cases q with ⟨_,a2,a3⟩ | ⟨_,a2,a3⟩ | ⟨_,a2,a3⟩
 · have : D * q ≤ 1 * q :=Int.mul_le_mul_of_nonpos_right (by omega) (by omega)
   have : x < 0 :=by
    have : D * q ≤ D * (-1) :=Int.mul_le_mul_of_nonneg_left (by omega) (by omega)
    omega
   have hx : ab x = -x :=by unfold ab; rw [if_pos this]
   rw [a3,hx]
   have : (D - 1) * (q + 1) ≤ 0 :=Int.mul_nonpos_of_nonneg_of_nonpos (by omega) (by omega)
   rw [Int.sub_mul,Int.mul_add] at this
   omega
 · rw [a3]; exact ab_nonneg x
 · have : 1 * q ≤ D * q :=Int.mul_le_mul_of_nonneg_right (by omega) (by omega)
   have hx : ab x = x :=by unfold ab; rw [if_neg (by omega)]
   rw [a3,hx]
   omega
theorem gcd_bd {a b : Int} {k : Nat} (h1 : ab a < 1048576 ^ k) (h2 : ab b < 1048576 ^ k) : ab (Int.gcd a b : Int) < 1048576 ^ k :=by
 have e : ab (Int.gcd a b : Int) = Int.gcd a b :=by unfold ab; rw [if_neg (by omega)]
 rw [e]
 by_cases ha : a = 0
 · subst ha
   rw [Int.gcd_zero_left,← ab_nat]; exact h2
 · have hd :=Int.gcd_dvd_left a b
   have : (Int.gcd a b : Int) ≤ ab a :=by
    rw [ab_nat]
    have :=Int.natAbs_dvd_natAbs.2 hd
    rw [Int.natAbs_natCast] at this
    have :=Nat.le_of_dvd (by omega) this
    omega
   omega
end Go.Proofs.Ytndiamkmcoghdaa

namespace Go.Proofs.Ytndiamkmcoghdaa
open Go.RowKit Go.Ab
def rf (p q : Int) : Prop :=rz p ∧ rz q ∧ 0 < q ∧ Int.gcd p q = 1
def np (p q : Int) : Int :=sg q * p / (Int.gcd p q : Int)
def nq (p q : Int) : Int :=ab q / (Int.gcd p q : Int)
theorem cop_dvd {a b c : Int} (h : Int.gcd a b = 1) (hd : a ∣ b * c) : a ∣ c :=by
 rw [← Int.natAbs_dvd_natAbs] at hd ⊢
 rw [Int.natAbs_mul] at hd
 exact Nat.Coprime.dvd_of_dvd_mul_left h hd
theorem low_uniq {x y u v : Int} (hy : 0 < y) (h1 : Int.gcd x y = 1) (hv : 0 < v) (h2 : Int.gcd u v = 1) (h : x * v = u * y) : x = u ∧ y = v :=by
 have d1 : y ∣ v :=cop_dvd (b :=x) (by rw [Int.gcd_comm]; exact h1) ⟨u,by rw [h,Int.mul_comm]⟩
 have d2 : v ∣ y :=cop_dvd (b :=u) (by rw [Int.gcd_comm]; exact h2) ⟨x,by rw [← h,Int.mul_comm]⟩
 have e : y = v :=Int.dvd_antisymm (by omega) (by omega) d1 d2
 subst e
 exact ⟨Int.eq_of_mul_eq_mul_right (by omega) h,rfl⟩
theorem gcd_pos {p q : Int} (hq : q ≠ 0) : 0 < (Int.gcd p q : Int) :=by
 have : Int.gcd p q ≠ 0 :=fun e => hq (Int.gcd_eq_zero_iff.1 e).2
 omega
theorem gcd_sg {p q : Int} (hq : q ≠ 0) : Int.gcd (sg q * p) (ab q) = Int.gcd p q :=by
 rcases sg_cases q with ⟨h,_,h2⟩ | ⟨_,h,_⟩ | ⟨h,_,h2⟩
 · rw [h,h2,Int.neg_one_mul,Int.neg_gcd,Int.gcd_neg]
 · exact absurd h hq
 · rw [h,h2,Int.one_mul]
theorem low_spec {p q : Int} (hq : q ≠ 0) : 0 < nq p q ∧ Int.gcd (np p q) (nq p q) = 1 ∧ np p q * q = p * nq p q ∧ ab (np p q) ≤ ab p ∧ nq p q ≤ ab q ∧ np p q * (Int.gcd p q : Int) = sg q * p ∧ nq p q * (Int.gcd p q : Int) = ab q :=by
 have hg :=gcd_pos (p :=p) hq
 have d1 : (Int.gcd p q : Int) ∣ sg q * p :=Int.dvd_trans (Int.gcd_dvd_left p q) ⟨sg q,by rw [Int.mul_comm]⟩
 have d2 : (Int.gcd p q : Int) ∣ ab q :=by
  have :=Int.gcd_dvd_right p q
  rcases sg_cases q with ⟨h,_,h2⟩ | ⟨_,h,h2⟩ | ⟨h,_,h2⟩ <;> rw [h2]
  · exact Int.dvd_neg.2 this
  · exact ⟨0,by simp⟩
  · exact this
 have e1 : np p q * (Int.gcd p q : Int) = sg q * p :=Int.ediv_mul_cancel d1
 have e2 : nq p q * (Int.gcd p q : Int) = ab q :=Int.ediv_mul_cancel d2
 have hgs :=gcd_sg (p :=p) hq
 have hc : Int.gcd (np p q) (nq p q) = 1 :=by
  have :=@Int.gcd_ediv_gcd_ediv_gcd (sg q * p) (ab q) (by rw [hgs]; omega)
  rwa [hgs] at this
 have haq : 0 < ab q :=by rcases sg_cases q with h | h | h <;> omega
 have h0 : 0 < nq p q :=by
  refine Decidable.byContradiction fun hn => ?_
  have :=Int.mul_le_mul_of_nonneg_right (show nq p q ≤ 0 by omega) (show 0 ≤ (Int.gcd p q : Int) by omega)
  omega
 refine ⟨h0,hc,?_,?_,?_,e1,e2⟩
 · have hqs : q = sg q * ab q :=(sg_ab q).symm
   rw [show np p q * q = np p q * (sg q * ab q) by rw [← hqs],← e2]
   rw [show np p q * (sg q * (nq p q * (Int.gcd p q : Int))) = sg q * nq p q * (np p q * (Int.gcd p q : Int)) by grind,e1]
   rcases sg_cases q with ⟨h,_,h2⟩ | ⟨_,h,_⟩ | ⟨h,_,h2⟩
   · rw [h]; grind
   · exact absurd h hq
   · rw [h]; grind
 · have e3 : ab (np p q) * (Int.gcd p q : Int) = ab p :=by
    have e4 : ab (Int.gcd p q : Int) = (Int.gcd p q : Int) :=by unfold ab; rw [if_neg (by omega)]
    have :=congrArg ab e1
    rw [ab_mul,e4,ab_mul] at this
    rw [this]
    have : ab (sg q) = 1 :=by
     rcases sg_cases q with ⟨h,_,h2⟩ | ⟨_,h,_⟩ | ⟨h,_,h2⟩
     · rw [h]; rfl
     · exact absurd h hq
     · rw [h]; rfl
    rw [this,Int.one_mul]
   have :=Int.mul_le_mul_of_nonneg_left (show 1 ≤ (Int.gcd p q : Int) by omega) (ab_nonneg (np p q))
   omega
 · have :=Int.mul_le_mul_of_nonneg_left (show 1 ≤ (Int.gcd p q : Int) by omega) (show 0 ≤ nq p q by omega)
   omega
end Go.Proofs.Ytndiamkmcoghdaa

namespace Go.Proofs.Ytndiamkmcoghdaa
open Go.RowKit Go.Ab
attribute [local irreducible] AWP Go.Ab.Sub Means MeansH CallK CallG CallT CallGT
@[go_sem] theorem c_sg0 : sg 0 = 0 :=rfl
@[go_sem] theorem c_dg0 : dg (ab 0) = [] :=rfl
abbrev frac4 (s1 : Int) (L1 : List Int) (s2 : Int) (L2 : List Int) : AV :=.agg [ii s1,il L1,ii s2,il L2]
abbrev frZ (p q : Int) : AV :=frac4 (sg p) (dg (ab p)) (sg q) (dg (ab q))
def zv (s : Int) (L : List Int) : Int :=s * val L
theorem zv_bigZ (z : Int) : zv (sg z) (dg (ab z)) = z :=by unfold zv; rw [val_ab,sg_ab]
theorem zv_of {s : Int} {L : List Int} (h : isR s L) : rz (zv s L) ∧ s = sg (zv s L) ∧ L = dg (ab (zv s L)) :=by
 obtain ⟨z,hz,rfl,rfl⟩ :=isR_to h
 rw [zv_bigZ]; exact ⟨hz,rfl,rfl⟩
def isF (s1 : Int) (L1 : List Int) (s2 : Int) (L2 : List Int) : Prop :=isR s1 L1 ∧ isR s2 L2 ∧ rf (zv s1 L1) (zv s2 L2)
noncomputable instance (s1 : Int) (L1 : List Int) (s2 : Int) (L2 : List Int) : Decidable (isF s1 L1 s2 L2) :=Classical.propDecidable _
theorem isF_of {p q : Int} (h : rf p q) : isF (sg p) (dg (ab p)) (sg q) (dg (ab q)) :=⟨isR_of h.1,isR_of h.2.1,by rw [zv_bigZ,zv_bigZ]; exact h⟩
theorem isF_to {s1 s2 : Int} {L1 L2 : List Int} (h : isF s1 L1 s2 L2) : ∃ p q,rf p q ∧ s1 = sg p ∧ L1 = dg (ab p) ∧ s2 = sg q ∧ L2 = dg (ab q) :=by
 obtain ⟨h1,h2,h3⟩ :=h
 obtain ⟨_,a1,a2⟩ :=zv_of h1
 obtain ⟨_,b1,b2⟩ :=zv_of h2
 exact ⟨_,_,h3,a1,a2,b1,b2⟩
theorem one_m (z : Int) (hz : rz z) : Means false Try.prog 64 [bigZ z] (bb (decide (z = 1))) :=by
 refine means_fn false 15 [.tmp 2] Try.func64 rfl rfl rfl (by simp) (by decide) rfl fun X hX => ?_
 (repeat (refine awp_stepG [0,1,2,3,4] hX mixed rfl ?_; (simp [go_sem]; try (refine ⟨by kernel_rfl,?_⟩))))
 first | refine callKa (Int_m z hz) ?_ | refine callTa (Int_m z hz) ?_
 try (simp [go_sem]; try (refine ⟨by kernel_rfl,?_⟩))
 by_cases h : inI z = true
 · (repeat (refine awp_stepG [0,1,2,3,4] hX mixed rfl ?_; (simp [go_sem,h]; try (refine ⟨by kernel_rfl,?_⟩))))
 · have h1 : ¬ z = 1 :=by
    rintro rfl
    exact h (by decide)
   have hf : inI z = false :=by simpa using h
   (repeat (refine awp_stepG [0,1,2,3,4] hX mixed rfl ?_; (simp [go_sem,hf,h1]; try (refine ⟨by kernel_rfl,?_⟩))))
set_option maxHeartbeats 4000000 in
set_option maxRecDepth 20000 in
theorem Right_f (s1 : Int) (L1 : List Int) (l1 : L1.length ≤ 9223372036854775807) (s2 : Int) (L2 : List Int) (l2 : L2.length ≤ 9223372036854775807) : Means false Try.prog 37 [frac4 s1 L1 s2 L2] (bb (decide (isF s1 L1 s2 L2))) :=by
 refine means_fn false 35 [.tmp 2] Try.func37 rfl rfl rfl (by simp) (by decide) rfl fun X hX => ?_
 (repeat (refine awp_stepG [0,1,2,3,4,20] hX mixed rfl ?_; (simp [go_sem]; try (refine ⟨by kernel_rfl,?_⟩))))
 first | refine callKa (right_m s1 L1 l1) ?_ | refine callTa (right_m s1 L1 l1) ?_
 try (simp [go_sem]; try (refine ⟨by kernel_rfl,?_⟩))
 first | refine callGa (fun hg => right_m s2 L2 l2) ?_ | refine callGTa (fun hg => right_m s2 L2 l2) ?_
 try (simp [go_sem]; try (refine ⟨by kernel_rfl,?_⟩))
 by_cases h : isR s1 L1 ∧ isR s2 L2 ∧ s2 = 1
 · obtain ⟨h1,h2,h3⟩ :=h
   obtain ⟨p,hp,rfl,rfl⟩ :=isR_to h1
   obtain ⟨q,hq,rfl,rfl⟩ :=isR_to h2
   have hq0 : 0 < q :=by rcases sg_cases q with h | h | h <;> omega
   have e : isF (sg p) (dg (ab p)) (sg q) (dg (ab q)) ↔ (Int.gcd p q : Int) = 1 :=by
    unfold isF rf
    rw [zv_bigZ,zv_bigZ]
    constructor
    · rintro ⟨_,_,_,_,_,h⟩; omega
    · intro h; exact ⟨h1,h2,hp,hq,hq0,by omega⟩
   have zg : rz (Int.gcd p q : Int) :=by
    unfold rz at *
    have :=gcd_bd hp hq
    exact this
   have h2' : isR 1 (dg (ab q)) :=by rw [← h3]; exact h2
   refine awp_cond (b :=false) (by simp [go_sem,h1,h2,h2',h3]) (fun h => by cases h) (fun _ => ?_)
   (repeat (refine awp_stepG [0,1,2,3,4,20] hX mixed rfl ?_; (simp [go_sem]; try (refine ⟨by kernel_rfl,?_⟩))))
   first | refine callKa (Gcd_m p q hp hq) ?_ | refine callTa (Gcd_m p q hp hq) ?_
   try (simp [go_sem]; try (refine ⟨by kernel_rfl,?_⟩))
   (repeat (refine awp_stepG [0,1,2,3,4,20] hX mixed rfl ?_; (simp [go_sem]; try (refine ⟨by kernel_rfl,?_⟩))))
   first | refine callGa (fun hg => one_m _ zg) ?_ | refine callGTa (fun hg => one_m _ zg) ?_
   try (simp [go_sem]; try (refine ⟨by kernel_rfl,?_⟩))
   (repeat (refine awp_stepG [0,1,2,3,4,20] hX mixed rfl ?_; (simp [go_sem,e]; try (refine ⟨by kernel_rfl,?_⟩))))
 · have e : ¬ isF s1 L1 s2 L2 :=fun hf => h ⟨hf.1,hf.2.1,by
    obtain ⟨p,q,hr,_,_,rfl,_⟩ :=isF_to hf
    have :=hr.2.2.1
    rcases sg_cases q with h | h | h <;> omega⟩
   refine awp_cond (b :=true) (by simp [go_sem]; grind) (fun _ => ?_) (fun h => by cases h)
   (repeat (refine awp_stepG [0,1,2,3,4,20] hX mixed rfl ?_; (simp [go_sem,e]; try (refine ⟨by kernel_rfl,?_⟩))))
theorem Right_t (p q : Int) (h : rf p q) : Means false Try.prog 37 [frZ p q] (bb true) :=by
 have :=Right_f (sg p) (dg (ab p)) (by have :=len60 h.1; omega) (sg q) (dg (ab q)) (by have :=len60 h.2.1; omega)
 rwa [decide_eq_true (isF_of h)] at this
theorem np_dq {p q p' : Int} (_hq : q ≠ 0) (h : p' = sg q * p) (hg : 0 < (Int.gcd p q : Int)) : dq p' (Int.gcd p q : Int) = np p q :=by
 unfold dq np
 have e1 : sg (Int.gcd p q : Int) = 1 :=by rcases sg_cases (Int.gcd p q : Int) with h | h | h <;> omega
 have e2 : ab (Int.gcd p q : Int) = (Int.gcd p q : Int) :=by unfold ab; rw [if_neg (by omega)]
 rw [e1,e2,Int.one_mul,h]
theorem nq_dq {p q q' : Int} (h : q' = ab q) (hg : 0 < (Int.gcd p q : Int)) : dq q' (Int.gcd p q : Int) = nq p q :=by
 unfold dq nq
 have e1 : sg (Int.gcd p q : Int) = 1 :=by rcases sg_cases (Int.gcd p q : Int) with h | h | h <;> omega
 have e2 : ab (Int.gcd p q : Int) = (Int.gcd p q : Int) :=by unfold ab; rw [if_neg (by omega)]
 rw [e1,e2,Int.one_mul,h]
set_option maxHeartbeats 4000000 in
set_option maxRecDepth 20000 in
theorem New_m (p q : Int) (hp : rz p) (hq : rz q) (h0 : q ≠ 0) : Means false Try.prog 40 [bigZ p,bigZ q] (.tup [frZ (np p q) (nq p q),ii 0]) :=by
 have hs0 : ¬ sg q = 0 :=by rcases sg_cases q with h | h | h <;> omega
 have hgp :=gcd_pos (p :=p) h0
 have hg0 : (Int.gcd p q : Int) ≠ 0 :=by omega
 have zg : rz (Int.gcd p q : Int) :=gcd_bd hp hq
 have znp :=rz_neg hp
 have znq :=rz_neg hq
 refine means_fn false 60 [.cell 4 48,.tmp 5] Try.func40 rfl rfl rfl (by simp) (by decide) rfl fun X hX => ?_
 (repeat (refine awp_stepG [0,1,2,3,4,5,6,8,11,14,24,29] hX mixed rfl ?_; (simp [go_sem]; try (refine ⟨by kernel_rfl,?_⟩))))
 first | refine callKa (right_t p hp) ?_ | refine callTa (right_t p hp) ?_
 try (simp [go_sem]; try (refine ⟨by kernel_rfl,?_⟩))
 first | refine callGa (fun hg => right_t q hq) ?_ | refine callGTa (fun hg => right_t q hq) ?_
 try (simp [go_sem]; try (refine ⟨by kernel_rfl,?_⟩))
 refine awp_cond (b :=false) (by simp [go_sem]) (fun h => by cases h) (fun _ => ?_)
 (repeat (refine awp_stepG [0,1,2,3,4,5,6,8,11,14,24,29] hX mixed rfl ?_; (simp [go_sem]; try (refine ⟨by kernel_rfl,?_⟩))))
 refine awp_cond (b :=false) (by simp [go_sem,hs0]) (fun h => by cases h) (fun _ => ?_)
 (repeat (refine awp_stepG [0,1,2,3,4,5,6,8,11,14,24,29] hX mixed rfl ?_; (simp [go_sem]; try (refine ⟨by kernel_rfl,?_⟩))))
 by_cases hn : q < 0
 · have hsq : sg q = -1 :=by unfold sg; rw [if_pos hn]
   refine awp_cond (b :=true) (by simp [go_sem,hsq]) (fun _ => ?_) (fun h => by cases h)
   (repeat (refine awp_stepG [0,1,2,3,4,5,6,8,11,14,24,29] hX mixed rfl ?_; (simp [go_sem]; try (refine ⟨by kernel_rfl,?_⟩))))
   first | refine callKa (Neg_m p hp) ?_ | refine callTa (Neg_m p hp) ?_
   try (simp [go_sem]; try (refine ⟨by kernel_rfl,?_⟩))
   first | refine callKa (Neg_m q hq) ?_ | refine callTa (Neg_m q hq) ?_
   try (simp [go_sem]; try (refine ⟨by kernel_rfl,?_⟩))
   (repeat (refine awp_stepG [0,1,2,3,4,5,6,8,11,14,24,29] hX mixed rfl ?_; (simp [go_sem]; try (refine ⟨by kernel_rfl,?_⟩))))
   first | refine callKa (Gcd_ok (g :=(Int.gcd p q : Int)) znp znq (by rw [Int.neg_gcd,Int.gcd_neg])) ?_ | refine callTa (Gcd_ok (g :=(Int.gcd p q : Int)) znp znq (by rw [Int.neg_gcd,Int.gcd_neg])) ?_
   try (simp [go_sem]; try (refine ⟨by kernel_rfl,?_⟩))
   (repeat (refine awp_stepG [0,1,2,3,4,5,6,8,11,14,24,29] hX mixed rfl ?_; (simp [go_sem]; try (refine ⟨by kernel_rfl,?_⟩))))
   first | refine callKa (Div_ok znp zg hg0 (np_dq h0 (by rw [hsq,Int.neg_one_mul]) hgp) rfl) ?_ | refine callTa (Div_ok znp zg hg0 (np_dq h0 (by rw [hsq,Int.neg_one_mul]) hgp) rfl) ?_
   try (simp [go_sem]; try (refine ⟨by kernel_rfl,?_⟩))
   (repeat (refine awp_stepG [0,1,2,3,4,5,6,8,11,14,24,29] hX mixed rfl ?_; (simp [go_sem]; try (refine ⟨by kernel_rfl,?_⟩))))
   first | refine callKa (Div_ok znq zg hg0 (nq_dq (by unfold ab; rw [if_pos hn]) hgp) rfl) ?_ | refine callTa (Div_ok znq zg hg0 (nq_dq (by unfold ab; rw [if_pos hn]) hgp) rfl) ?_
   try (simp [go_sem]; try (refine ⟨by kernel_rfl,?_⟩))
   (repeat (refine awp_stepG [0,1,2,3,4,5,6,8,11,14,24,29] hX mixed rfl ?_; (simp [go_sem]; try (refine ⟨by kernel_rfl,?_⟩))))
 · have hsq : sg q = 1 :=by rcases sg_cases q with h | h | h <;> omega
   refine awp_cond (b :=false) (by simp [go_sem,hsq]) (fun h => by cases h) (fun _ => ?_)
   (repeat (refine awp_stepG [0,1,2,3,4,5,6,8,11,14,24,29] hX mixed rfl ?_; (simp [go_sem]; try (refine ⟨by kernel_rfl,?_⟩))))
   first | refine callKa (Gcd_ok (g :=(Int.gcd p q : Int)) hp hq (rfl)) ?_ | refine callTa (Gcd_ok (g :=(Int.gcd p q : Int)) hp hq (rfl)) ?_
   try (simp [go_sem]; try (refine ⟨by kernel_rfl,?_⟩))
   (repeat (refine awp_stepG [0,1,2,3,4,5,6,8,11,14,24,29] hX mixed rfl ?_; (simp [go_sem]; try (refine ⟨by kernel_rfl,?_⟩))))
   first | refine callKa (Div_ok hp zg hg0 (np_dq h0 (by rw [hsq,Int.one_mul]) hgp) rfl) ?_ | refine callTa (Div_ok hp zg hg0 (np_dq h0 (by rw [hsq,Int.one_mul]) hgp) rfl) ?_
   try (simp [go_sem]; try (refine ⟨by kernel_rfl,?_⟩))
   (repeat (refine awp_stepG [0,1,2,3,4,5,6,8,11,14,24,29] hX mixed rfl ?_; (simp [go_sem]; try (refine ⟨by kernel_rfl,?_⟩))))
   first | refine callKa (Div_ok hq zg hg0 (nq_dq (by unfold ab; rw [if_neg hn]) hgp) rfl) ?_ | refine callTa (Div_ok hq zg hg0 (nq_dq (by unfold ab; rw [if_neg hn]) hgp) rfl) ?_
   try (simp [go_sem]; try (refine ⟨by kernel_rfl,?_⟩))
   (repeat (refine awp_stepG [0,1,2,3,4,5,6,8,11,14,24,29] hX mixed rfl ?_; (simp [go_sem]; try (refine ⟨by kernel_rfl,?_⟩))))
set_option maxHeartbeats 4000000 in
theorem Of_f (p q : Int) (hp : -9223372036854775808 ≤ p ∧ p ≤ 9223372036854775807) (hq : -9223372036854775808 ≤ q ∧ q ≤ 9223372036854775807) (h0 : q ≠ 0) : Means false Try.prog 18 [ii p,ii q] (.tup [frZ (np p q) (nq p q),ii 0]) :=by
 refine means_fn false 13 [.cell 4 48,.tmp 5] Try.func18 rfl rfl rfl (by simp) (by decide) rfl fun X hX => ?_
 (repeat (refine awp_stepG [0,1,4,5] hX mixed rfl ?_; (simp [go_sem]; try (refine ⟨by kernel_rfl,?_⟩))))
 first | refine callKa (Of_m p hp) ?_ | refine callTa (Of_m p hp) ?_
 try (simp [go_sem]; try (refine ⟨by kernel_rfl,?_⟩))
 first | refine callKa (Of_m q hq) ?_ | refine callTa (Of_m q hq) ?_
 try (simp [go_sem]; try (refine ⟨by kernel_rfl,?_⟩))
 first | refine callKa (New_m p q (rz_i hp) (rz_i hq) h0) ?_ | refine callTa (New_m p q (rz_i hp) (rz_i hq) h0) ?_
 try (simp [go_sem]; try (refine ⟨by kernel_rfl,?_⟩))
 (repeat (refine awp_stepG [0,1,4,5] hX mixed rfl ?_; (simp [go_sem]; try (refine ⟨by kernel_rfl,?_⟩))))
theorem Mul_no {a b : Int} (ha : rz a) (hb : rz b) (h : ¬ rz (a * b)) : Means false Try.prog 68 [bigZ a,bigZ b] (.tup [bigZ 0,ii 6]) :=by
 have :=Mul_m a b ha hb
 rwa [res,r60,e60,if_neg h,if_neg h] at this
noncomputable def sumP (a b c d : Int) : Prop :=rz (a * b) ∧ rz (c * d) ∧ rz (a * b + c * d)
noncomputable instance (a b c d : Int) : Decidable (sumP a b c d) :=Classical.propDecidable _
set_option maxHeartbeats 4000000 in
theorem sum_m (a b c d : Int) (ha : rz a) (hb : rz b) (hc : rz c) (hd : rz d) : Means false Try.prog 67 [bigZ a,bigZ b,bigZ c,bigZ d] (.tup [bigZ (if sumP a b c d then a * b + c * d else 0),ii (if sumP a b c d then 0 else 6)]) :=by
 refine means_fn false 38 [.cell 8 46,.tmp 9] Try.func67 rfl rfl rfl (by simp) (by decide) rfl fun X hX => ?_
 (repeat (refine awp_stepG [0,1,2,3,4,5,6,7,8,9,10,11,12,20,30] hX mixed rfl ?_; (simp [go_sem]; try (refine ⟨by kernel_rfl,?_⟩))))
 by_cases h1 : rz (a * b)
 · first | refine callKa (Mul_ok ha hb h1 rfl) ?_ | refine callTa (Mul_ok ha hb h1 rfl) ?_
   try (simp [go_sem]; try (refine ⟨by kernel_rfl,?_⟩))
   (repeat (refine awp_stepG [0,1,2,3,4,5,6,7,8,9,10,11,12,20,30] hX mixed rfl ?_; (simp [go_sem]; try (refine ⟨by kernel_rfl,?_⟩))))
   refine awp_cond (b :=false) (by simp [go_sem]) (fun h => by cases h) (fun _ => ?_)
   (repeat (refine awp_stepG [0,1,2,3,4,5,6,7,8,9,10,11,12,20,30] hX mixed rfl ?_; (simp [go_sem]; try (refine ⟨by kernel_rfl,?_⟩))))
   by_cases h2 : rz (c * d)
   · first | refine callKa (Mul_ok hc hd h2 rfl) ?_ | refine callTa (Mul_ok hc hd h2 rfl) ?_
     try (simp [go_sem]; try (refine ⟨by kernel_rfl,?_⟩))
     (repeat (refine awp_stepG [0,1,2,3,4,5,6,7,8,9,10,11,12,20,30] hX mixed rfl ?_; (simp [go_sem]; try (refine ⟨by kernel_rfl,?_⟩))))
     refine awp_cond (b :=false) (by simp [go_sem]) (fun h => by cases h) (fun _ => ?_)
     (repeat (refine awp_stepG [0,1,2,3,4,5,6,7,8,9,10,11,12,20,30] hX mixed rfl ?_; (simp [go_sem]; try (refine ⟨by kernel_rfl,?_⟩))))
     first | refine callKa (Add_m _ _ h1 h2) ?_ | refine callTa (Add_m _ _ h1 h2) ?_
     try (simp [go_sem]; try (refine ⟨by kernel_rfl,?_⟩))
     have e : sumP a b c d ↔ rz (a * b + c * d) :=⟨fun h => h.2.2,fun h => ⟨h1,h2,h⟩⟩
     (repeat (refine awp_stepG [0,1,2,3,4,5,6,7,8,9,10,11,12,20,30] hX mixed rfl ?_; (simp [go_sem,e,r60,e60]; try (refine ⟨by kernel_rfl,?_⟩))))
   · have e : ¬ sumP a b c d :=fun h => h2 h.2.1
     first | refine callKa (Mul_no hc hd h2) ?_ | refine callTa (Mul_no hc hd h2) ?_
     try (simp [go_sem]; try (refine ⟨by kernel_rfl,?_⟩))
     (repeat (refine awp_stepG [0,1,2,3,4,5,6,7,8,9,10,11,12,20,30] hX mixed rfl ?_; (simp [go_sem]; try (refine ⟨by kernel_rfl,?_⟩))))
     refine awp_cond (b :=true) (by simp [go_sem]) (fun _ => ?_) (fun h => by cases h)
     (repeat (refine awp_stepG [0,1,2,3,4,5,6,7,8,9,10,11,12,20,30] hX mixed rfl ?_; (simp [go_sem,e]; try (refine ⟨by kernel_rfl,?_⟩))))
 · have e : ¬ sumP a b c d :=fun h => h1 h.1
   first | refine callKa (Mul_no ha hb h1) ?_ | refine callTa (Mul_no ha hb h1) ?_
   try (simp [go_sem]; try (refine ⟨by kernel_rfl,?_⟩))
   (repeat (refine awp_stepG [0,1,2,3,4,5,6,7,8,9,10,11,12,20,30] hX mixed rfl ?_; (simp [go_sem]; try (refine ⟨by kernel_rfl,?_⟩))))
   refine awp_cond (b :=true) (by simp [go_sem]) (fun _ => ?_) (fun h => by cases h)
   (repeat (refine awp_stepG [0,1,2,3,4,5,6,7,8,9,10,11,12,20,30] hX mixed rfl ?_; (simp [go_sem,e]; try (refine ⟨by kernel_rfl,?_⟩))))
noncomputable def resF (ok : Prop) [Decidable ok] (p q : Int) : AV :=if ok then .tup [frZ (np p q) (nq p q),ii 0] else .tup [frZ 0 0,ii 6]
theorem resF_t {ok : Prop} [Decidable ok] {p q : Int} (h : ok) : resF ok p q = .tup [frZ (np p q) (nq p q),ii 0] :=if_pos h
theorem resF_f {ok : Prop} [Decidable ok] {p q : Int} (h : ¬ ok) : resF ok p q = .tup [frZ 0 0,ii 6] :=if_neg h
theorem sum_ok {a b c d : Int} (ha : rz a) (hb : rz b) (hc : rz c) (hd : rz d) (h : sumP a b c d) : Means false Try.prog 67 [bigZ a,bigZ b,bigZ c,bigZ d] (.tup [bigZ (a * b + c * d),ii 0]) :=by
 have :=sum_m a b c d ha hb hc hd
 rwa [if_pos h,if_pos h] at this
theorem sum_no {a b c d : Int} (ha : rz a) (hb : rz b) (hc : rz c) (hd : rz d) (h : ¬ sumP a b c d) : Means false Try.prog 67 [bigZ a,bigZ b,bigZ c,bigZ d] (.tup [bigZ 0,ii 6]) :=by
 have :=sum_m a b c d ha hb hc hd
 rwa [if_neg h,if_neg h] at this
theorem quotient_no (p q e f : Int) (h : ¬ (e = 0 ∧ f = 0)) : Means false Try.prog 69 [bigZ p,ii e,bigZ q,ii f] (.tup [frZ 0 0,ii 6]) :=by
 refine means_fn false 22 [.cell 8 48,.tmp 9] Try.func69 rfl rfl rfl (by simp) (by decide) rfl fun X hX => ?_
 (repeat (refine awp_stepG [0,1,2,3,4,6,8,9,15] hX mixed rfl ?_; (simp [go_sem]; try (refine ⟨by kernel_rfl,?_⟩))))
 refine awp_cond (b :=true) (by simp [go_sem]; omega) (fun _ => ?_) (fun h => by cases h)
 (repeat (refine awp_stepG [0,1,2,3,4,6,8,9,15] hX mixed rfl ?_; (simp [go_sem]; try (refine ⟨by kernel_rfl,?_⟩))))
theorem quotient_ok (p q : Int) (hp : rz p) (hq : rz q) (h0 : q ≠ 0) : Means false Try.prog 69 [bigZ p,ii 0,bigZ q,ii 0] (.tup [frZ (np p q) (nq p q),ii 0]) :=by
 refine means_fn false 22 [.cell 8 48,.tmp 9] Try.func69 rfl rfl rfl (by simp) (by decide) rfl fun X hX => ?_
 (repeat (refine awp_stepG [0,1,2,3,4,6,8,9,15] hX mixed rfl ?_; (simp [go_sem]; try (refine ⟨by kernel_rfl,?_⟩))))
 refine awp_cond (b :=false) (by simp [go_sem]) (fun h => by cases h) (fun _ => ?_)
 (repeat (refine awp_stepG [0,1,2,3,4,6,8,9,15] hX mixed rfl ?_; (simp [go_sem]; try (refine ⟨by kernel_rfl,?_⟩))))
 first | refine callKa (New_m p q hp hq h0) ?_ | refine callTa (New_m p q hp hq h0) ?_
 try (simp [go_sem]; try (refine ⟨by kernel_rfl,?_⟩))
 (repeat (refine awp_stepG [0,1,2,3,4,6,8,9,15] hX mixed rfl ?_; (simp [go_sem]; try (refine ⟨by kernel_rfl,?_⟩))))
set_option maxHeartbeats 4000000 in
set_option maxRecDepth 20000 in
theorem Add_f (a b c d : Int) (hab : rf a b) (hcd : rf c d) : Means false Try.prog 42 [frZ a b,frZ c d] (resF (sumP a d c b ∧ rz (b * d)) (a * d + c * b) (b * d)) :=by
 have ha :=hab.1
 have hb :=hab.2.1
 have hc :=hcd.1
 have hd :=hcd.2.1
 have hb0 :=hab.2.2.1
 have hd0 :=hcd.2.2.1
 have hbd : b * d ≠ 0 :=Int.mul_ne_zero (by omega) (by omega)
 refine means_fn false 46 [.cell 4 48,.tmp 5] Try.func42 rfl rfl rfl (by simp) (by decide) rfl fun X hX => ?_
 (repeat (refine awp_stepG [0,1,2,3,4,5,6,7,8,9,17] hX mixed rfl ?_; (simp [go_sem]; try (refine ⟨by kernel_rfl,?_⟩))))
 first | refine callKa (Right_t a b hab) ?_ | refine callTa (Right_t a b hab) ?_
 try (simp [go_sem]; try (refine ⟨by kernel_rfl,?_⟩))
 first | refine callGa (fun hg => Right_t c d hcd) ?_ | refine callGTa (fun hg => Right_t c d hcd) ?_
 try (simp [go_sem]; try (refine ⟨by kernel_rfl,?_⟩))
 refine awp_cond (b :=false) (by simp [go_sem]) (fun h => by cases h) (fun _ => ?_)
 (repeat (refine awp_stepG [0,1,2,3,4,5,6,7,8,9,17] hX mixed rfl ?_; (simp [go_sem]; try (refine ⟨by kernel_rfl,?_⟩))))
 by_cases h1 : sumP a d c b
 · by_cases h2 : rz (b * d)
   · rw [resF_t ⟨h1,h2⟩]
     first | refine callKa (sum_ok ha hd hc hb h1) ?_ | refine callTa (sum_ok ha hd hc hb h1) ?_
     try (simp [go_sem]; try (refine ⟨by kernel_rfl,?_⟩))
     (repeat (refine awp_stepG [0,1,2,3,4,5,6,7,8,9,17] hX mixed rfl ?_; (simp [go_sem]; try (refine ⟨by kernel_rfl,?_⟩))))
     first | refine callKa (Mul_ok hb hd h2 rfl) ?_ | refine callTa (Mul_ok hb hd h2 rfl) ?_
     try (simp [go_sem]; try (refine ⟨by kernel_rfl,?_⟩))
     (repeat (refine awp_stepG [0,1,2,3,4,5,6,7,8,9,17] hX mixed rfl ?_; (simp [go_sem]; try (refine ⟨by kernel_rfl,?_⟩))))
     first | refine callKa (quotient_ok _ _ h1.2.2 h2 hbd) ?_ | refine callTa (quotient_ok _ _ h1.2.2 h2 hbd) ?_
     try (simp [go_sem]; try (refine ⟨by kernel_rfl,?_⟩))
     (repeat (refine awp_stepG [0,1,2,3,4,5,6,7,8,9,17] hX mixed rfl ?_; (simp [go_sem]; try (refine ⟨by kernel_rfl,?_⟩))))
   · rw [resF_f fun h => h2 h.2]
     first | refine callKa (sum_ok ha hd hc hb h1) ?_ | refine callTa (sum_ok ha hd hc hb h1) ?_
     try (simp [go_sem]; try (refine ⟨by kernel_rfl,?_⟩))
     (repeat (refine awp_stepG [0,1,2,3,4,5,6,7,8,9,17] hX mixed rfl ?_; (simp [go_sem]; try (refine ⟨by kernel_rfl,?_⟩))))
     first | refine callKa (Mul_no hb hd h2) ?_ | refine callTa (Mul_no hb hd h2) ?_
     try (simp [go_sem]; try (refine ⟨by kernel_rfl,?_⟩))
     (repeat (refine awp_stepG [0,1,2,3,4,5,6,7,8,9,17] hX mixed rfl ?_; (simp [go_sem]; try (refine ⟨by kernel_rfl,?_⟩))))
     first | refine callKa (quotient_no (a * d + c * b) 0 0 6 (by decide)) ?_ | refine callTa (quotient_no (a * d + c * b) 0 0 6 (by decide)) ?_
     try (simp [go_sem]; try (refine ⟨by kernel_rfl,?_⟩))
     (repeat (refine awp_stepG [0,1,2,3,4,5,6,7,8,9,17] hX mixed rfl ?_; (simp [go_sem]; try (refine ⟨by kernel_rfl,?_⟩))))
 · rw [resF_f fun h => h1 h.1]
   first | refine callKa (sum_no ha hd hc hb h1) ?_ | refine callTa (sum_no ha hd hc hb h1) ?_
   try (simp [go_sem]; try (refine ⟨by kernel_rfl,?_⟩))
   (repeat (refine awp_stepG [0,1,2,3,4,5,6,7,8,9,17] hX mixed rfl ?_; (simp [go_sem]; try (refine ⟨by kernel_rfl,?_⟩))))
   by_cases h2 : rz (b * d)
   · first | refine callKa (Mul_ok hb hd h2 rfl) ?_ | refine callTa (Mul_ok hb hd h2 rfl) ?_
     try (simp [go_sem]; try (refine ⟨by kernel_rfl,?_⟩))
     (repeat (refine awp_stepG [0,1,2,3,4,5,6,7,8,9,17] hX mixed rfl ?_; (simp [go_sem]; try (refine ⟨by kernel_rfl,?_⟩))))
     first | refine callKa (quotient_no 0 (b * d) 6 0 (by decide)) ?_ | refine callTa (quotient_no 0 (b * d) 6 0 (by decide)) ?_
     try (simp [go_sem]; try (refine ⟨by kernel_rfl,?_⟩))
     (repeat (refine awp_stepG [0,1,2,3,4,5,6,7,8,9,17] hX mixed rfl ?_; (simp [go_sem]; try (refine ⟨by kernel_rfl,?_⟩))))
   · first | refine callKa (Mul_no hb hd h2) ?_ | refine callTa (Mul_no hb hd h2) ?_
     try (simp [go_sem]; try (refine ⟨by kernel_rfl,?_⟩))
     (repeat (refine awp_stepG [0,1,2,3,4,5,6,7,8,9,17] hX mixed rfl ?_; (simp [go_sem]; try (refine ⟨by kernel_rfl,?_⟩))))
     first | refine callKa (quotient_no 0 0 6 6 (by decide)) ?_ | refine callTa (quotient_no 0 0 6 6 (by decide)) ?_
     try (simp [go_sem]; try (refine ⟨by kernel_rfl,?_⟩))
     (repeat (refine awp_stepG [0,1,2,3,4,5,6,7,8,9,17] hX mixed rfl ?_; (simp [go_sem]; try (refine ⟨by kernel_rfl,?_⟩))))
set_option maxHeartbeats 4000000 in
set_option maxRecDepth 20000 in
theorem Mul_f (a b c d : Int) (hab : rf a b) (hcd : rf c d) : Means false Try.prog 61 [frZ a b,frZ c d] (resF (rz (a * c) ∧ rz (b * d)) (a * c) (b * d)) :=by
 have ha :=hab.1
 have hb :=hab.2.1
 have hc :=hcd.1
 have hd :=hcd.2.1
 have hb0 :=hab.2.2.1
 have hd0 :=hcd.2.2.1
 have hbd : b * d ≠ 0 :=Int.mul_ne_zero (by omega) (by omega)
 refine means_fn false 42 [.cell 4 48,.tmp 5] Try.func61 rfl rfl rfl (by simp) (by decide) rfl fun X hX => ?_
 (repeat (refine awp_stepG [0,1,2,3,4,5,6,7,8,9,17] hX mixed rfl ?_; (simp [go_sem]; try (refine ⟨by kernel_rfl,?_⟩))))
 first | refine callKa (Right_t a b hab) ?_ | refine callTa (Right_t a b hab) ?_
 try (simp [go_sem]; try (refine ⟨by kernel_rfl,?_⟩))
 first | refine callGa (fun hg => Right_t c d hcd) ?_ | refine callGTa (fun hg => Right_t c d hcd) ?_
 try (simp [go_sem]; try (refine ⟨by kernel_rfl,?_⟩))
 refine awp_cond (b :=false) (by simp [go_sem]) (fun h => by cases h) (fun _ => ?_)
 (repeat (refine awp_stepG [0,1,2,3,4,5,6,7,8,9,17] hX mixed rfl ?_; (simp [go_sem]; try (refine ⟨by kernel_rfl,?_⟩))))
 by_cases h1 : rz (a * c)
 · by_cases h2 : rz (b * d)
   · rw [resF_t ⟨h1,h2⟩]
     first | refine callKa (Mul_ok ha hc h1 rfl) ?_ | refine callTa (Mul_ok ha hc h1 rfl) ?_
     try (simp [go_sem]; try (refine ⟨by kernel_rfl,?_⟩))
     (repeat (refine awp_stepG [0,1,2,3,4,5,6,7,8,9,17] hX mixed rfl ?_; (simp [go_sem]; try (refine ⟨by kernel_rfl,?_⟩))))
     first | refine callKa (Mul_ok hb hd h2 rfl) ?_ | refine callTa (Mul_ok hb hd h2 rfl) ?_
     try (simp [go_sem]; try (refine ⟨by kernel_rfl,?_⟩))
     (repeat (refine awp_stepG [0,1,2,3,4,5,6,7,8,9,17] hX mixed rfl ?_; (simp [go_sem]; try (refine ⟨by kernel_rfl,?_⟩))))
     first | refine callKa (quotient_ok _ _ h1 h2 hbd) ?_ | refine callTa (quotient_ok _ _ h1 h2 hbd) ?_
     try (simp [go_sem]; try (refine ⟨by kernel_rfl,?_⟩))
     (repeat (refine awp_stepG [0,1,2,3,4,5,6,7,8,9,17] hX mixed rfl ?_; (simp [go_sem]; try (refine ⟨by kernel_rfl,?_⟩))))
   · rw [resF_f fun h => h2 h.2]
     first | refine callKa (Mul_ok ha hc h1 rfl) ?_ | refine callTa (Mul_ok ha hc h1 rfl) ?_
     try (simp [go_sem]; try (refine ⟨by kernel_rfl,?_⟩))
     (repeat (refine awp_stepG [0,1,2,3,4,5,6,7,8,9,17] hX mixed rfl ?_; (simp [go_sem]; try (refine ⟨by kernel_rfl,?_⟩))))
     first | refine callKa (Mul_no hb hd h2) ?_ | refine callTa (Mul_no hb hd h2) ?_
     try (simp [go_sem]; try (refine ⟨by kernel_rfl,?_⟩))
     (repeat (refine awp_stepG [0,1,2,3,4,5,6,7,8,9,17] hX mixed rfl ?_; (simp [go_sem]; try (refine ⟨by kernel_rfl,?_⟩))))
     first | refine callKa (quotient_no (a * c) 0 0 6 (by decide)) ?_ | refine callTa (quotient_no (a * c) 0 0 6 (by decide)) ?_
     try (simp [go_sem]; try (refine ⟨by kernel_rfl,?_⟩))
     (repeat (refine awp_stepG [0,1,2,3,4,5,6,7,8,9,17] hX mixed rfl ?_; (simp [go_sem]; try (refine ⟨by kernel_rfl,?_⟩))))
 · rw [resF_f fun h => h1 h.1]
   first | refine callKa (Mul_no ha hc h1) ?_ | refine callTa (Mul_no ha hc h1) ?_
   try (simp [go_sem]; try (refine ⟨by kernel_rfl,?_⟩))
   (repeat (refine awp_stepG [0,1,2,3,4,5,6,7,8,9,17] hX mixed rfl ?_; (simp [go_sem]; try (refine ⟨by kernel_rfl,?_⟩))))
   by_cases h2 : rz (b * d)
   · first | refine callKa (Mul_ok hb hd h2 rfl) ?_ | refine callTa (Mul_ok hb hd h2 rfl) ?_
     try (simp [go_sem]; try (refine ⟨by kernel_rfl,?_⟩))
     (repeat (refine awp_stepG [0,1,2,3,4,5,6,7,8,9,17] hX mixed rfl ?_; (simp [go_sem]; try (refine ⟨by kernel_rfl,?_⟩))))
     first | refine callKa (quotient_no 0 (b * d) 6 0 (by decide)) ?_ | refine callTa (quotient_no 0 (b * d) 6 0 (by decide)) ?_
     try (simp [go_sem]; try (refine ⟨by kernel_rfl,?_⟩))
     (repeat (refine awp_stepG [0,1,2,3,4,5,6,7,8,9,17] hX mixed rfl ?_; (simp [go_sem]; try (refine ⟨by kernel_rfl,?_⟩))))
   · first | refine callKa (Mul_no hb hd h2) ?_ | refine callTa (Mul_no hb hd h2) ?_
     try (simp [go_sem]; try (refine ⟨by kernel_rfl,?_⟩))
     (repeat (refine awp_stepG [0,1,2,3,4,5,6,7,8,9,17] hX mixed rfl ?_; (simp [go_sem]; try (refine ⟨by kernel_rfl,?_⟩))))
     first | refine callKa (quotient_no 0 0 6 6 (by decide)) ?_ | refine callTa (quotient_no 0 0 6 6 (by decide)) ?_
     try (simp [go_sem]; try (refine ⟨by kernel_rfl,?_⟩))
     (repeat (refine awp_stepG [0,1,2,3,4,5,6,7,8,9,17] hX mixed rfl ?_; (simp [go_sem]; try (refine ⟨by kernel_rfl,?_⟩))))
set_option maxHeartbeats 4000000 in
set_option maxRecDepth 20000 in
theorem Div_f (a b c d : Int) (hab : rf a b) (hcd : rf c d) (h0 : c ≠ 0) : Means false Try.prog 83 [frZ a b,frZ c d] (resF (rz (a * d) ∧ rz (b * c)) (a * d) (b * c)) :=by
 have ha :=hab.1
 have hb :=hab.2.1
 have hc :=hcd.1
 have hd :=hcd.2.1
 have hb0 :=hab.2.2.1
 have hd0 :=hcd.2.2.1
 have hbd : b * d ≠ 0 :=Int.mul_ne_zero (by omega) (by omega)
 refine means_fn false 49 [.cell 4 48,.tmp 5] Try.func83 rfl rfl rfl (by simp) (by decide) rfl fun X hX => ?_
 (repeat (refine awp_stepG [0,1,2,3,4,5,6,7,8,9,10,20] hX mixed rfl ?_; (simp [go_sem]; try (refine ⟨by kernel_rfl,?_⟩))))
 first | refine callKa (Right_t a b hab) ?_ | refine callTa (Right_t a b hab) ?_
 try (simp [go_sem]; try (refine ⟨by kernel_rfl,?_⟩))
 first | refine callGa (fun hg => Right_t c d hcd) ?_ | refine callGTa (fun hg => Right_t c d hcd) ?_
 try (simp [go_sem]; try (refine ⟨by kernel_rfl,?_⟩))
 have hsc : ¬ sg c = 0 :=by rcases sg_cases c with h | h | h <;> omega
 refine awp_cond (b :=false) (by simp [go_sem]) (fun h => by cases h) (fun _ => ?_)
 (repeat (refine awp_stepG [0,1,2,3,4,5,6,7,8,9,10,20] hX mixed rfl ?_; (simp [go_sem]; try (refine ⟨by kernel_rfl,?_⟩))))
 refine awp_cond (b :=false) (by simp [go_sem,hsc]) (fun h => by cases h) (fun _ => ?_)
 (repeat (refine awp_stepG [0,1,2,3,4,5,6,7,8,9,10,20] hX mixed rfl ?_; (simp [go_sem]; try (refine ⟨by kernel_rfl,?_⟩))))
 by_cases h1 : rz (a * d)
 · by_cases h2 : rz (b * c)
   · rw [resF_t ⟨h1,h2⟩]
     first | refine callKa (Mul_ok ha hd h1 rfl) ?_ | refine callTa (Mul_ok ha hd h1 rfl) ?_
     try (simp [go_sem]; try (refine ⟨by kernel_rfl,?_⟩))
     (repeat (refine awp_stepG [0,1,2,3,4,5,6,7,8,9,10,20] hX mixed rfl ?_; (simp [go_sem]; try (refine ⟨by kernel_rfl,?_⟩))))
     first | refine callKa (Mul_ok hb hc h2 rfl) ?_ | refine callTa (Mul_ok hb hc h2 rfl) ?_
     try (simp [go_sem]; try (refine ⟨by kernel_rfl,?_⟩))
     (repeat (refine awp_stepG [0,1,2,3,4,5,6,7,8,9,10,20] hX mixed rfl ?_; (simp [go_sem]; try (refine ⟨by kernel_rfl,?_⟩))))
     first | refine callKa (quotient_ok _ _ h1 h2 (Int.mul_ne_zero (by omega) h0)) ?_ | refine callTa (quotient_ok _ _ h1 h2 (Int.mul_ne_zero (by omega) h0)) ?_
     try (simp [go_sem]; try (refine ⟨by kernel_rfl,?_⟩))
     (repeat (refine awp_stepG [0,1,2,3,4,5,6,7,8,9,10,20] hX mixed rfl ?_; (simp [go_sem]; try (refine ⟨by kernel_rfl,?_⟩))))
   · rw [resF_f fun h => h2 h.2]
     first | refine callKa (Mul_ok ha hd h1 rfl) ?_ | refine callTa (Mul_ok ha hd h1 rfl) ?_
     try (simp [go_sem]; try (refine ⟨by kernel_rfl,?_⟩))
     (repeat (refine awp_stepG [0,1,2,3,4,5,6,7,8,9,10,20] hX mixed rfl ?_; (simp [go_sem]; try (refine ⟨by kernel_rfl,?_⟩))))
     first | refine callKa (Mul_no hb hc h2) ?_ | refine callTa (Mul_no hb hc h2) ?_
     try (simp [go_sem]; try (refine ⟨by kernel_rfl,?_⟩))
     (repeat (refine awp_stepG [0,1,2,3,4,5,6,7,8,9,10,20] hX mixed rfl ?_; (simp [go_sem]; try (refine ⟨by kernel_rfl,?_⟩))))
     first | refine callKa (quotient_no (a * d) 0 0 6 (by decide)) ?_ | refine callTa (quotient_no (a * d) 0 0 6 (by decide)) ?_
     try (simp [go_sem]; try (refine ⟨by kernel_rfl,?_⟩))
     (repeat (refine awp_stepG [0,1,2,3,4,5,6,7,8,9,10,20] hX mixed rfl ?_; (simp [go_sem]; try (refine ⟨by kernel_rfl,?_⟩))))
 · rw [resF_f fun h => h1 h.1]
   first | refine callKa (Mul_no ha hd h1) ?_ | refine callTa (Mul_no ha hd h1) ?_
   try (simp [go_sem]; try (refine ⟨by kernel_rfl,?_⟩))
   (repeat (refine awp_stepG [0,1,2,3,4,5,6,7,8,9,10,20] hX mixed rfl ?_; (simp [go_sem]; try (refine ⟨by kernel_rfl,?_⟩))))
   by_cases h2 : rz (b * c)
   · first | refine callKa (Mul_ok hb hc h2 rfl) ?_ | refine callTa (Mul_ok hb hc h2 rfl) ?_
     try (simp [go_sem]; try (refine ⟨by kernel_rfl,?_⟩))
     (repeat (refine awp_stepG [0,1,2,3,4,5,6,7,8,9,10,20] hX mixed rfl ?_; (simp [go_sem]; try (refine ⟨by kernel_rfl,?_⟩))))
     first | refine callKa (quotient_no 0 (b * c) 6 0 (by decide)) ?_ | refine callTa (quotient_no 0 (b * c) 6 0 (by decide)) ?_
     try (simp [go_sem]; try (refine ⟨by kernel_rfl,?_⟩))
     (repeat (refine awp_stepG [0,1,2,3,4,5,6,7,8,9,10,20] hX mixed rfl ?_; (simp [go_sem]; try (refine ⟨by kernel_rfl,?_⟩))))
   · first | refine callKa (Mul_no hb hc h2) ?_ | refine callTa (Mul_no hb hc h2) ?_
     try (simp [go_sem]; try (refine ⟨by kernel_rfl,?_⟩))
     (repeat (refine awp_stepG [0,1,2,3,4,5,6,7,8,9,10,20] hX mixed rfl ?_; (simp [go_sem]; try (refine ⟨by kernel_rfl,?_⟩))))
     first | refine callKa (quotient_no 0 0 6 6 (by decide)) ?_ | refine callTa (quotient_no 0 0 6 6 (by decide)) ?_
     try (simp [go_sem]; try (refine ⟨by kernel_rfl,?_⟩))
     (repeat (refine awp_stepG [0,1,2,3,4,5,6,7,8,9,10,20] hX mixed rfl ?_; (simp [go_sem]; try (refine ⟨by kernel_rfl,?_⟩))))
theorem rf_neg {p q : Int} (h : rf p q) : rf (-p) q :=⟨rz_neg h.1,h.2.1,h.2.2.1,by rw [Int.neg_gcd]; exact h.2.2.2⟩
set_option maxHeartbeats 4000000 in
theorem Sub_f (a b c d : Int) (hab : rf a b) (hcd : rf c d) : Means false Try.prog 19 [frZ a b,frZ c d] (resF (sumP a d (-c) b ∧ rz (b * d)) (a * d + -c * b) (b * d)) :=by
 have hA :=Add_f a b (-c) d hab (rf_neg hcd)
 by_cases h : sumP a d (-c) b ∧ rz (b * d)
 · rw [resF_t h] at hA ⊢
   refine means_fn false 25 [.cell 4 48,.tmp 5] Try.func19 rfl rfl rfl (by simp) (by decide) rfl fun X hX => ?_
   (repeat (refine awp_stepG [0,1,2,3,4,5,13] hX mixed rfl ?_; (simp [go_sem]; try (refine ⟨by kernel_rfl,?_⟩))))
   first | refine callKa (Right_t a b hab) ?_ | refine callTa (Right_t a b hab) ?_
   try (simp [go_sem]; try (refine ⟨by kernel_rfl,?_⟩))
   first | refine callGa (fun hg => Right_t c d hcd) ?_ | refine callGTa (fun hg => Right_t c d hcd) ?_
   try (simp [go_sem]; try (refine ⟨by kernel_rfl,?_⟩))
   refine awp_cond (b :=false) (by simp [go_sem]) (fun h => by cases h) (fun _ => ?_)
   (repeat (refine awp_stepG [0,1,2,3,4,5,13] hX mixed rfl ?_; (simp [go_sem]; try (refine ⟨by kernel_rfl,?_⟩))))
   first | refine callKa (Neg_m c hcd.1) ?_ | refine callTa (Neg_m c hcd.1) ?_
   try (simp [go_sem]; try (refine ⟨by kernel_rfl,?_⟩))
   first | refine callKa (hA) ?_ | refine callTa (hA) ?_
   try (simp [go_sem]; try (refine ⟨by kernel_rfl,?_⟩))
   (repeat (refine awp_stepG [0,1,2,3,4,5,13] hX mixed rfl ?_; (simp [go_sem]; try (refine ⟨by kernel_rfl,?_⟩))))
 · rw [resF_f h] at hA ⊢
   refine means_fn false 25 [.cell 4 48,.tmp 5] Try.func19 rfl rfl rfl (by simp) (by decide) rfl fun X hX => ?_
   (repeat (refine awp_stepG [0,1,2,3,4,5,13] hX mixed rfl ?_; (simp [go_sem]; try (refine ⟨by kernel_rfl,?_⟩))))
   first | refine callKa (Right_t a b hab) ?_ | refine callTa (Right_t a b hab) ?_
   try (simp [go_sem]; try (refine ⟨by kernel_rfl,?_⟩))
   first | refine callGa (fun hg => Right_t c d hcd) ?_ | refine callGTa (fun hg => Right_t c d hcd) ?_
   try (simp [go_sem]; try (refine ⟨by kernel_rfl,?_⟩))
   refine awp_cond (b :=false) (by simp [go_sem]) (fun h => by cases h) (fun _ => ?_)
   (repeat (refine awp_stepG [0,1,2,3,4,5,13] hX mixed rfl ?_; (simp [go_sem]; try (refine ⟨by kernel_rfl,?_⟩))))
   first | refine callKa (Neg_m c hcd.1) ?_ | refine callTa (Neg_m c hcd.1) ?_
   try (simp [go_sem]; try (refine ⟨by kernel_rfl,?_⟩))
   first | refine callKa (hA) ?_ | refine callTa (hA) ?_
   try (simp [go_sem]; try (refine ⟨by kernel_rfl,?_⟩))
   (repeat (refine awp_stepG [0,1,2,3,4,5,13] hX mixed rfl ?_; (simp [go_sem]; try (refine ⟨by kernel_rfl,?_⟩))))
end Go.Proofs.Ytndiamkmcoghdaa

