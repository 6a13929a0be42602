/-
  Lemmas for the statement at the top.
-/
import Derived.Test.YtknbcehhjffndaaGreatYeP7
set_option linter.all false
namespace Go.Ab
def q17x0 : List Nat :=[0,1,2,3,4,5,6,15,17,18,19,20,29,38,49]
def q17x1 : List Nat :=[0,1,2,3,4,5,6,7,8,9,17]
def q17x2 : List Nat :=[0,1,2,3,4,5,6,7,8,9,10,20]
def q17x3 : List Nat :=[0,1,2,3,4,5,6,7,8,9,10,11,12,20,30]
def q17x4 : List Nat :=[0,1,2,3,4,5,6,8,11,14,24,29]
def q17x5 : List Nat :=[0,1,2,3,4,5,6,7,8,9,20,44]
def q17x6 : List Nat :=[0,1,2,3,4,5,6,7,9,17,29]
def q17x7 : List Nat :=[0,2,3,4,5,9,13]
def q17x8 : List Nat :=[0,1,2,3,4,6,8,9,15]
def q17x9 : List Nat :=[0,1,2,3,4,5,13]
attribute [go_sem] q17x0 q17x1 q17x2 q17x3 q17x4 q17x5 q17x6 q17x7 q17x8 q17x9
end Go.Ab
namespace Go.Proofs.YtknbcehhjffndaaGreat
open Go.RowKit Go.Ab
attribute [local irreducible] AWP Go.Ab.Sub Means MeansH CallK CallG CallT CallGT
def dq (z w : Int) : Int :=(sg w * z) / ab w
def dr (z w : Int) : Int :=sg w * ((sg w * z) % ab w)
theorem eJ {s N D q r : Int} (hD : 0 < D) (h : r + D * q = s * N) (hr : 0 ≤ r ∧ r < D) : (s * N) / D = q ∧ (s * N) % D = r :=
 (Int.ediv_emod_unique hD).2 ⟨h,hr.1,hr.2⟩
theorem sK {z w : Int} (hw : w ≠ 0) :
  (sg z * sg w < 0 ∧ ab z % ab w ≠ 0 → dq z w = -(ab z / ab w + 1) ∧ dr z w = sg w * (ab w - ab z % ab w)) ∧
  (¬ (sg z * sg w < 0 ∧ ab z % ab w ≠ 0) → dq z w = sg z * sg w * (ab z / ab w) ∧ dr z w = sg z * (ab z % ab w)) :=by
 have hD : 0 < ab w :=by rcases aD w with h | h | h <;> omega
 have h0 :=Int.mul_ediv_add_emod (ab z) (ab w)
 have h1 :=Int.emod_nonneg (ab z) (show ab w ≠ 0 by omega)
 have h2 :=Int.emod_lt_of_pos (ab z) hD
 unfold dq dr
 generalize ab z / ab w = q at *
 generalize ab z % ab w = r at *
 generalize hDD : ab w = D at *
 rcases aD w with ⟨a1,a2,a3⟩ | ⟨a1,a2,a3⟩ | ⟨a1,a2,a3⟩
 · rcases aD z with ⟨b1,b2,b3⟩ | ⟨b1,b2,b3⟩ | ⟨b1,b2,b3⟩
   · rw [a1,b1]
     refine ⟨fun h => by omega,fun _ => ?_⟩
     obtain ⟨e1,e2⟩ :=eJ (s :=-1) (N :=z) (q :=q) (r :=r) hD (by omega) ⟨h1,h2⟩
     rw [e1,e2]; omega
   · rw [a1,b1]
     refine ⟨fun h => by omega,fun _ => ?_⟩
     subst b2
     rw [b3] at h0
     obtain ⟨e1,e2⟩ :=eJ (s :=-1) (N :=0) (q :=0) (r :=0) hD (by omega) ⟨by omega,hD⟩
     rw [e1,e2]; omega
   · rw [a1,b1]
     refine ⟨fun h => ?_,fun h => ?_⟩
     · obtain ⟨e1,e2⟩ :=eJ (s :=-1) (N :=z) (q :=-(q + 1)) (r :=D - r) hD (by rw [Int.mul_neg,Int.mul_add]; omega) (by omega)
       rw [e1,e2]; omega
     · have hr0 : r = 0 :=by omega
       subst hr0
       obtain ⟨e1,e2⟩ :=eJ (s :=-1) (N :=z) (q :=-q) (r :=0) hD (by rw [Int.mul_neg]; omega) ⟨by omega,hD⟩
       rw [e1,e2]; omega
 · omega
 · rcases aD z with ⟨b1,b2,b3⟩ | ⟨b1,b2,b3⟩ | ⟨b1,b2,b3⟩
   · rw [a1,b1]
     refine ⟨fun h => ?_,fun h => ?_⟩
     · obtain ⟨e1,e2⟩ :=eJ (s :=1) (N :=z) (q :=-(q + 1)) (r :=D - r) hD (by rw [Int.mul_neg,Int.mul_add]; omega) (by omega)
       rw [e1,e2]; omega
     · have hr0 : r = 0 :=by omega
       subst hr0
       obtain ⟨e1,e2⟩ :=eJ (s :=1) (N :=z) (q :=-q) (r :=0) hD (by rw [Int.mul_neg]; omega) ⟨by omega,hD⟩
       rw [e1,e2]; omega
   · rw [a1,b1]
     refine ⟨fun h => by omega,fun _ => ?_⟩
     subst b2
     obtain ⟨e1,e2⟩ :=eJ (s :=1) (N :=0) (q :=0) (r :=0) hD (by omega) ⟨by omega,hD⟩
     rw [e1,e2]; omega
   · rw [a1,b1]
     refine ⟨fun h => by omega,fun _ => ?_⟩
     obtain ⟨e1,e2⟩ :=eJ (s :=1) (N :=z) (q :=q) (r :=r) hD (by omega) ⟨h1,h2⟩
     rw [e1,e2]; omega
set_option maxHeartbeats 4000000 in
set_option maxRecDepth 20000 in
theorem MP (z w : Int) (hz : rz z) (hw : rz w) (h0 : w ≠ 0) : Means false Tryz.prog 70 [bigZ z,bigZ w] (.tup [bigZ (dq z w),bigZ (dr z w),ii 0]) :=by
 have hlz :=bP hz
 have hlw :=bP hw
 have hza :=aT z
 have hD : 0 < ab w :=by rcases aD w with h | h | h <;> omega
 have hs : sg w ≠ 0 :=by rcases aD w with h | h | h <;> omega
 have hsz :=fA z
 have hsw :=fA w
 have hmm : -1 ≤ sg z * sg w ∧ sg z * sg w ≤ 1 :=by rw [← iL]; exact fA _
 have hww :=w64 (x :=sg z * sg w) (by omega) (by omega)
 have hne : 0 < (dg (ab w)).length :=by
  refine Nat.pos_of_ne_zero fun h => ?_
  have :=c8.1 (List.length_eq_zero_iff.1 h)
  omega
 have hdiv :=JV (dg (ab z)) (dg (ab w)) (aI _) (aI _) (by omega) (by omega) (mY hza) (mY (by omega)) hne
 rw [aL,aL] at hdiv
 have h1 :=Int.emod_nonneg (ab z) (show ab w ≠ 0 by omega)
 have h2 :=Int.emod_lt_of_pos (ab z) hD
 have h3 :=Int.ediv_nonneg hza (show 0 ≤ ab w by omega)
 have h4 :=Int.ediv_le_self (ab w) hza
 obtain ⟨df1,df2⟩ :=sK (z :=z) h0
 have hlq : (dg (ab z / ab w)).length ≤ 60 :=Nat.le_trans (aV h4) hlz
 have hlr : (dg (ab z % ab w)).length ≤ 60 :=Nat.le_trans (aV (by omega)) hlw
 refine aB false 67 [.cell 4 60,.cell 5 60,.tmp 6] Tryz.func70 rfl rfl rfl (by simp) (by decide) rfl fun X hX => ?_
 (repeat (refine a6 q17x5 hX a7 rfl ?_; (simp [go_sem]; try (refine ⟨by kernel_rfl,?_⟩))))
 first | refine a9 (b7 z hz) ?_ | refine aE (b7 z hz) ?_
 try (simp [go_sem]; try (refine ⟨by kernel_rfl,?_⟩))
 first | refine aJ (fun hg => b7 w hw) ?_ | refine aZ (fun hg => b7 w hw) ?_
 try (simp [go_sem]; try (refine ⟨by kernel_rfl,?_⟩))
 (repeat (refine a6 q17x5 hX a7 rfl ?_; (simp [go_sem]; (try simp (disch :=omega) only [w64,td,tm]); try (refine ⟨by kernel_rfl,?_⟩))))
 refine a8 (b :=false) (by simp [go_sem]) (fun h => by cases h) (fun _ => ?_)
 (repeat (refine a6 q17x5 hX a7 rfl ?_; (simp [go_sem]; try (refine ⟨by kernel_rfl,?_⟩))))
 refine a8 (b :=false) (by simp [go_sem,hs]) (fun h => by cases h) (fun _ => ?_)
 (repeat (refine a6 q17x5 hX a7 rfl ?_; (simp [go_sem]; try (refine ⟨by kernel_rfl,?_⟩))))
 first | refine a9 (hdiv) ?_ | refine aE (hdiv) ?_
 try (simp [go_sem]; try (refine ⟨by kernel_rfl,?_⟩))
 have hrl : 0 < (dg (ab z % ab w)).length ↔ ab z % ab w ≠ 0 :=by
  rw [List.length_pos_iff,Ne,c8]; omega
 have hq0 : 0 ≤ ab z / ab w + 1 :=by omega
 have hvq : val (dg (ab z / ab w)) = ab z / ab w :=b6 h3
 have hvr : val (dg (ab z % ab w)) = ab z % ab w :=b6 h1
 refine eA ?_
 refine eA ?_
 refine gS ⟨mkE [(2,.el 0 2 0 0),(3,.el 1 2 0 0),(4,.el 2 2 0 0),(5,.el 3 2 0 0),(6,ii 0),(7,il (dg (ab z / ab w))),(8,il (dg (ab z % ab w))),(44,bb (decide (sg z * sg w < 0 ∧ ab z % ab w ≠ 0)))],
  [.row ⟨60,2,[bigZ z]⟩,.row ⟨60,2,[bigZ w]⟩,.row ⟨60,2,[.agg [ii 0,.nil]]⟩,.row ⟨60,2,[.agg [ii 0,.nil]]⟩]⟩ ?_ ?_
 · by_cases hn : sg z * sg w < 0
   · (repeat (refine a6 q17x5 hX a7 rfl ?_; (simp [go_sem,hww,hn]; try (refine ⟨by kernel_rfl,?_⟩))))
     refine aA _ [.old 0 ⟨60,2,[bigZ z]⟩,.old 1 ⟨60,2,[bigZ w]⟩,.old 2 ⟨60,2,[.agg [ii 0,.nil]]⟩,.old 3 ⟨60,2,[.agg [ii 0,.nil]]⟩] (by simp [go_sem]) ?_
     simp [go_sem,hn]
     rw [Bool.eq_iff_iff]
     simp only [decide_eq_true_eq,Bool.not_eq_true',decide_eq_false_iff_not]
     exact hrl
   · (repeat (refine a6 q17x5 hX a7 rfl ?_; (simp [go_sem,hww,hn]; try (refine ⟨by kernel_rfl,?_⟩))))
     refine aA _ [.old 0 ⟨60,2,[bigZ z]⟩,.old 1 ⟨60,2,[bigZ w]⟩,.old 2 ⟨60,2,[.agg [ii 0,.nil]]⟩,.old 3 ⟨60,2,[.agg [ii 0,.nil]]⟩] (by simp [go_sem]) ?_
     simp [go_sem,hn]
 · try (simp [go_sem]; try (refine ⟨by kernel_rfl,?_⟩))
   refine a8 (b :=decide (sg z * sg w < 0 ∧ ab z % ab w ≠ 0)) (by simp [go_sem]) (fun hb => ?_) (fun hb => ?_)
   · simp only [decide_eq_true_eq] at hb
     obtain ⟨e1,e2⟩ :=df1 hb
     have hadd :=JL (dg (ab z / ab w)) [1] (aI _) (j7 ⟨by decide,by decide⟩).2 (by omega) (by simp)
     rw [hvq,(j7 (r :=1) ⟨by decide,by decide⟩).1] at hadd
     have hvq1 : val (dg (ab z / ab w + 1)) = ab z / ab w + 1 :=b6 hq0
     have hs1 :=cO (-1) (dg (ab z / ab w + 1)) (dq z w) (by
      have :=aP (n :=ab z / ab w + 1) 61
      have h61 : (1048576 : Int) ^ 61 = 1048576 ^ 60 * 1048576 :=Int.pow_succ _ _
      have :=(aP (n :=ab z / ab w) 60).1 hlq
      have :=this
      have : (dg (ab z / ab w + 1)).length ≤ 61 :=by rw [aP]; omega
      omega) (aI _) (by rw [hvq1,e1,pT,ab,if_neg (by omega)]) (fun _ => by rw [e1,tF,sg,if_neg (by omega),if_pos (by omega)])
     have hsub :=EE (dg (ab w)) (dg (ab z % ab w)) (aI _) (aI _) (by omega) (by omega) (by rw [aL,hvr]; omega)
     rw [aL,hvr] at hsub
     have hvs : val (dg (ab w - ab z % ab w)) = ab w - ab z % ab w :=b6 (by omega)
     have hsw2 : sg w = 1 ∨ sg w = -1 :=by rcases aD w with h | h | h <;> omega
     obtain ⟨f1,f2⟩ :=FD e2 (by omega) hsw2
     have hs2 :=cO (sg w) (dg (ab w - ab z % ab w)) (dr z w) (by have :=aV (show ab w - ab z % ab w ≤ ab w by omega); omega) (aI _) (by rw [hvs,f2]) (fun _ => f1)
     (repeat (refine a6 q17x5 hX a7 rfl ?_; (simp [go_sem]; (try simp (disch :=omega) only [w64,td,tm]); try (refine ⟨by kernel_rfl,?_⟩))))
     first | refine a9 (hadd) ?_ | refine aE (hadd) ?_
     try (simp [go_sem]; try (refine ⟨by kernel_rfl,?_⟩))
     first | refine a9 (hs1) ?_ | refine aE (hs1) ?_
     try (simp [go_sem]; try (refine ⟨by kernel_rfl,?_⟩))
     first | refine a9 (hsub) ?_ | refine aE (hsub) ?_
     try (simp [go_sem]; try (refine ⟨by kernel_rfl,?_⟩))
     first | refine a9 (hs2) ?_ | refine aE (hs2) ?_
     try (simp [go_sem]; try (refine ⟨by kernel_rfl,?_⟩))
     (repeat refine And.intro (by first | omega | (unfold maxLen; omega) | kernel_rfl | (refine ⟨by first | omega | (unfold maxLen; omega),by first | omega | (unfold maxLen; omega)⟩) | grind) ?_)
     (repeat (refine a6 q17x5 hX a7 rfl ?_; (simp [go_sem]; try (refine ⟨by kernel_rfl,?_⟩))))
   · simp only [decide_eq_false_iff_not] at hb
     obtain ⟨e1,e2⟩ :=df2 hb
     have hsz2 : sg z = 0 ∧ z = 0 ∨ (sg z = 1 ∨ sg z = -1) :=by rcases aD z with h | h | h <;> omega
     have g1 : ab (dq z w) = ab z / ab w ∧ (ab z / ab w ≠ 0 → sg (dq z w) = sg z * sg w) :=by
      by_cases hq : ab z / ab w = 0
      · rw [e1,hq,Int.mul_zero]; exact ⟨rfl,fun h => (h rfl).elim⟩
      · have hm : sg z * sg w = 1 ∨ sg z * sg w = -1 :=by
         rcases aD z with h | h | h <;> rcases aD w with h5 | h5 | h5 <;> rw [h.1,h5.1] <;> first | omega | (exfalso; apply hq; rw [h.2.2]; exact Int.zero_ediv _)
        obtain ⟨f1,f2⟩ :=FD e1 (by omega) hm
        exact ⟨f2,fun _ => f1⟩
     have g2 : ab (dr z w) = ab z % ab w ∧ (ab z % ab w ≠ 0 → sg (dr z w) = sg z) :=by
      by_cases hq : ab z % ab w = 0
      · rw [e2,hq,Int.mul_zero]; exact ⟨rfl,fun h => (h rfl).elim⟩
      · have hm : sg z = 1 ∨ sg z = -1 :=by
         rcases aD z with h | h | h
         · exact .inr h.1
         · exfalso; apply hq; rw [h.2.2]; exact Int.zero_emod _
         · exact .inl h.1
        obtain ⟨f1,f2⟩ :=FD e2 (by omega) hm
        exact ⟨f2,fun _ => f1⟩
     have hs1 :=cO (sg z * sg w) (dg (ab z / ab w)) (dq z w) (by omega) (aI _) (by rw [hvq,g1.1]) (by rw [hvq]; exact g1.2)
     have hs2 :=cO (sg z) (dg (ab z % ab w)) (dr z w) (by omega) (aI _) (by rw [hvr,g2.1]) (by rw [hvr]; exact g2.2)
     (repeat (refine a6 q17x5 hX a7 rfl ?_; (simp [go_sem,hww]; (try simp (disch :=omega) only [w64,td,tm]); try (refine ⟨by kernel_rfl,?_⟩))))
     first | refine a9 (hs1) ?_ | refine aE (hs1) ?_
     try (simp [go_sem]; try (refine ⟨by kernel_rfl,?_⟩))
     first | refine a9 (hs2) ?_ | refine aE (hs2) ?_
     try (simp [go_sem]; try (refine ⟨by kernel_rfl,?_⟩))
     (repeat refine And.intro (by first | omega | (unfold maxLen; omega) | kernel_rfl | (refine ⟨by first | omega | (unfold maxLen; omega),by first | omega | (unfold maxLen; omega)⟩) | grind) ?_)
     (repeat (refine a6 q17x5 hX a7 rfl ?_; (simp [go_sem]; try (refine ⟨by kernel_rfl,?_⟩))))
theorem FE (m n : Nat) : Nat.gcd n (m % n) = Nat.gcd m n :=by
 rw [Nat.gcd_comm m n,Nat.gcd_rec n m,Nat.gcd_comm]
theorem j8 (z : Int) : ab z = z.natAbs :=by unfold ab; split <;> omega
set_option maxHeartbeats 4000000 in
set_option maxRecDepth 20000 in
theorem JW (z w : Int) (hz : rz z) (hw : rz w) : Means false Tryz.prog 68 [bigZ z,bigZ w] (.tup [bigZ (Int.gcd z w),ii 0]) :=by
 have hlz :=bP hz
 have hlw :=bP hw
 rw [j8] at hlz
 rw [j8] at hlw
 have hzn : bigZ z = big2 (sg z) (dg z.natAbs) :=by unfold bigZ; rw [j8]
 have hcl :=gZ (dg (z.natAbs : Int)) (by omega)
 rw [aP] at hlz hlw
 refine aB false 44 [.cell 4 60,.tmp 5] Tryz.func68 rfl rfl rfl (by simp) (by decide) rfl fun X hX => ?_
 (repeat (refine a6 q17x6 hX a7 rfl ?_; (simp [go_sem]; try (refine ⟨by kernel_rfl,?_⟩))))
 first | refine a9 (b7 z hz) ?_ | refine aE (b7 z hz) ?_
 try (simp [go_sem]; try (refine ⟨by kernel_rfl,?_⟩))
 first | refine aJ (fun hg => b7 w hw) ?_ | refine aZ (fun hg => b7 w hw) ?_
 try (simp [go_sem]; try (refine ⟨by kernel_rfl,?_⟩))
 (repeat (refine a6 q17x6 hX a7 rfl ?_; (simp [go_sem]; (try simp (disch :=omega) only [w64,td,tm]); try (refine ⟨by kernel_rfl,?_⟩))))
 refine a8 (b :=false) (by simp [go_sem]) (fun h => by cases h) (fun _ => ?_)
 (repeat (refine a6 q17x6 hX a7 rfl ?_; (simp [go_sem,j8]; (try simp (disch :=omega) only [w64,td,tm]); try (refine ⟨by kernel_rfl,?_⟩))))
 first | refine a9 (hcl) ?_ | refine aE (hcl) ?_
 try (simp [go_sem,j8]; try (refine ⟨by kernel_rfl,?_⟩))
 (repeat refine And.intro (by first | omega | (unfold maxLen; omega) | kernel_rfl | (refine ⟨by first | omega | (unfold maxLen; omega),by first | omega | (unfold maxLen; omega)⟩) | grind) ?_)
 (repeat (refine a6 q17x6 hX a7 rfl ?_; (simp [go_sem]; (try simp (disch :=omega) only [w64,td,tm]); try (refine ⟨by kernel_rfl,?_⟩))))
 refine aF (fun x : Nat × Nat => ⟨mkE [(4,.el 0 2 0 0),(5,ii 0),(6,il (dg (x.1 : Int))),(7,il (dg (x.2 : Int)))],[.row ⟨60,2,[.agg [ii 0,.nil]]⟩]⟩)
  (fun x => Nat.gcd x.1 x.2 = Int.gcd z w ∧ (x.1 : Int) < 1048576 ^ 60 ∧ (x.2 : Int) < 1048576 ^ 60) (fun x => x.2) (z.natAbs,w.natAbs) ?_ ?_ ?_
 · refine aA _ [.old 2 ⟨60,2,[.agg [ii 0,.nil]]⟩] (by simp [go_sem]) ?_
   simp [go_sem]
 · exact ⟨rfl,hlz,hlw⟩
 · rintro ⟨m,n⟩ ⟨hg,hm,hn⟩
   simp only [] at hg hm hn
   have hlm :=(aP 60).2 hm
   have hln :=(aP 60).2 hn
   have hm0 : (0 : Int) ≤ m :=by omega
   have hn0 : (0 : Int) ≤ n :=by omega
   have hvm : val (dg (m : Int)) = m :=b6 hm0
   have hvn : val (dg (n : Int)) = n :=b6 hn0
   have hln0 : 0 < (dg (n : Int)).length ↔ n ≠ 0 :=by
    rw [List.length_pos_iff,Ne,c8]; omega
   (repeat (refine a6 q17x6 hX a7 rfl ?_; (simp [go_sem]; (try simp (disch :=omega) only [w64,td,tm]); try (refine ⟨by kernel_rfl,?_⟩))))
   refine a8 (b :=decide (n ≠ 0)) (by
    simp only [← hln0]
    simp [go_sem]) (fun hd => ?_) (fun hd => ?_)
   · simp only [decide_eq_true_eq] at hd
     have hdiv :=JV (dg (m : Int)) (dg (n : Int)) (aI _) (aI _) (by omega) (by omega) (mY hm0) (mY hn0) (hln0.2 hd)
     rw [hvm,hvn] at hdiv
     (repeat (refine a6 q17x6 hX a7 rfl ?_; (simp [go_sem]; (try simp (disch :=omega) only [w64,td,tm]); try (refine ⟨by kernel_rfl,?_⟩))))
     first | refine a9 (hdiv) ?_ | refine aE (hdiv) ?_
     try (simp [go_sem]; try (refine ⟨by kernel_rfl,?_⟩))
     (repeat (refine a6 q17x6 hX a7 rfl ?_; (simp [go_sem]; (try simp (disch :=omega) only [w64,td,tm]); try (refine ⟨by kernel_rfl,?_⟩))))
     have hlt : m % n < n :=Nat.mod_lt _ (by omega)
     refine ⟨n,m % n,⟨by rw [FE,hg],hn,by omega⟩,hlt,?_⟩
     refine aA _ [.old 0 ⟨60,2,[.agg [ii 0,.nil]]⟩] (by simp [go_sem]) ?_
     simp [go_sem]
   · have hn00 : n = 0 :=by simpa using hd
     subst hn00
     rw [Nat.gcd_zero_right] at hg
     rw [← hg]
     have hab : ab (m : Int) = m :=by rw [j8]; omega
     have hr : rz (m : Int) :=by unfold rz; rw [hab]; exact hm
     have hcl2 :=gZ (dg (m : Int)) (by omega)
     have hs1 :=cO 1 (dg (m : Int)) m (by omega) (aI _) (by rw [hvm,hab]) (fun h => by rw [hvm] at h; rw [sg,if_neg (by omega),if_pos (by omega)])
     have hch :=uM (m : Int) (by rw [hab]; omega)
     rw [res,cC hr,yS hr] at hch
     (repeat (refine a6 q17x6 hX a7 rfl ?_; (simp [go_sem]; (try simp (disch :=omega) only [w64,td,tm]); try (refine ⟨by kernel_rfl,?_⟩))))
     first | refine a9 (hcl2) ?_ | refine aE (hcl2) ?_
     try (simp [go_sem]; try (refine ⟨by kernel_rfl,?_⟩))
     first | refine a9 (hs1) ?_ | refine aE (hs1) ?_
     try (simp [go_sem]; try (refine ⟨by kernel_rfl,?_⟩))
     first | refine a9 (hch) ?_ | refine aE (hch) ?_
     try (simp [go_sem]; try (refine ⟨by kernel_rfl,?_⟩))
     (repeat (refine a6 q17x6 hX a7 rfl ?_; (simp [go_sem]; (try simp (disch :=omega) only [w64,td,tm]); try (refine ⟨by kernel_rfl,?_⟩))))
end Go.Proofs.YtknbcehhjffndaaGreat

namespace Go.Proofs.YtknbcehhjffndaaGreat
open Go.RowKit Go.Ab
attribute [local irreducible] AWP Go.Ab.Sub Means MeansH CallK CallG CallT CallGT
theorem wu {x : Int} (h1 : 0 ≤ x) (h2 : x < 18446744073709551616) : IntKind.u64.wrap x = x :=by
 unfold IntKind.wrap
 simp [IntKind.bits,IntKind.signed]
 omega
theorem wun {n : Int} (h1 : -9223372036854775808 ≤ n) (h2 : n < 0) : IntKind.u64.wrap (-(IntKind.u64.wrap n)) = -n :=by
 unfold IntKind.wrap
 simp [IntKind.bits,IntKind.signed]
 omega
theorem z4 {x : Int} (h1 : 0 ≤ x) (h2 : x < 18446744073709551616) : andI .u64 x 1048575 = x % 1048576 :=by
 unfold andI
 rw [BitVec.toNat_and,BitVec.toNat_ofInt,BitVec.toNat_ofInt]
 show IntKind.u64.wrap (((x % (2 ^ 64 : Nat)).toNat &&& ((1048575 : Int) % (2 ^ 64 : Nat)).toNat : Nat) : Int) = _
 rw [show ((1048575 : Int) % (2 ^ 64 : Nat)).toNat = 1048575 by decide,wD,wu (by omega) (by omega)]
 omega
set_option maxHeartbeats 4000000 in
set_option maxRecDepth 20000 in
theorem MQ (n : Int) (hn : -9223372036854775808 ≤ n ∧ n ≤ 9223372036854775807) : Means false Tryz.prog 95 [ii n] (bigZ n) :=by
 have hab :=aT n
 have hlo : (dg (ab n)).length ≤ 4 :=by
  rw [aP]
  have : ab n ≤ 9223372036854775808 :=by unfold ab; split <;> omega
  have : (1048576 : Int) ^ 4 = 1208925819614629174706176 :=by decide
  omega
 refine aB false 25 [.cell 2 60] Tryz.func95 rfl rfl rfl (by simp) (by decide) rfl fun X hX => ?_
 (repeat (refine a6 q17x7 hX a7 rfl ?_; (simp [go_sem])))
 refine gS ⟨mkE [(2,.el 0 2 0 0),(3,ii (if n < 0 then -1 else 1)),(4,uu (ab n))],[.row ⟨60,2,[.agg [ii 0,.nil]]⟩]⟩ ?_ ?_
 · refine a8 (b :=decide (n < 0)) (by simp [go_sem]) (fun hd => ?_) (fun hd => ?_)
   · simp only [decide_eq_true_eq] at hd
     have hw :=wun hn.1 hd
     have hae : ab n = -n :=by unfold ab; rw [if_pos hd]
     (repeat (refine a6 q17x7 hX a7 rfl ?_; (simp [go_sem,hw,hd,hae])))
     refine aA _ [.old 0 ⟨60,2,[.agg [ii 0,.nil]]⟩] (by simp [go_sem]) ?_
     simp [go_sem,hw,hd,hae]
   · simp only [decide_eq_false_iff_not] at hd
     have hae : ab n = n :=by unfold ab; rw [if_neg hd]
     have hw :=wu (x :=n) (by omega) (by omega)
     (repeat (refine a6 q17x7 hX a7 rfl ?_; (simp [go_sem,hd,hae,hw])))
     refine aA _ [.old 0 ⟨60,2,[.agg [ii 0,.nil]]⟩] (by simp [go_sem]) ?_
     simp [go_sem,hd,hae,hw]
 · try (simp [go_sem])
   (repeat (refine a6 q17x7 hX a7 rfl ?_; (simp [go_sem])))
   refine aF (fun x : Int × List Int => ⟨mkE [(2,.el 0 2 0 0),(3,ii (if n < 0 then -1 else 1)),(4,uu x.1),(5,.ow 1)],[.row ⟨60,2,[.agg [ii 0,.nil]]⟩,.row ⟨3,1,x.2.map ii⟩]⟩)
    (fun x => 0 ≤ x.1 ∧ x.1 ≤ 9223372036854775808 ∧ x.2 ++ dg x.1 = dg (ab n)) (fun x => x.1.toNat) (ab n,[]) ?_ ?_ ?_
   · refine aA _ [.old 0 ⟨60,2,[.agg [ii 0,.nil]]⟩,.birth 3 1] (by simp [go_sem]) ?_
     simp [go_sem]
   · exact ⟨hab,by show ab n ≤ _; unfold ab; split <;> omega,by simp⟩
   · rintro ⟨u,L⟩ ⟨hu,hu2,hE⟩
     simp only [] at hu hu2 hE
     (repeat (refine a6 q17x7 hX a7 rfl ?_; (simp [go_sem])))
     refine a8 (b :=decide (0 < u)) (by simp [go_sem]) (fun hd => ?_) (fun hd => ?_)
     · simp only [decide_eq_true_eq] at hd
       have ham :=z4 hu (by omega)
       have hLl : L.length ≤ 4 :=by have :=congrArg List.length hE; simp at this; omega
       (repeat (refine a6 q17x7 hX a7 rfl ?_; (simp [go_sem,ham]; (try simp (disch :=omega) only [w64,td,tm]))))
       refine ⟨⟨by omega,by unfold maxLen; omega⟩,?_⟩
       (repeat (refine a6 q17x7 hX a7 rfl ?_; (simp [go_sem]; (try simp (disch :=omega) only [w64,td,tm]))))
       refine ⟨u / 1048576,L ++ [u % 1048576],⟨by omega,by omega,by rw [← hE,fC hd]; simp⟩,by omega,?_⟩
       refine aA _ [.old 0 ⟨60,2,[.agg [ii 0,.nil]]⟩,.old 3 ⟨3,1,(L ++ [u % 1048576]).map ii⟩] (by simp [go_sem]) ?_
       simp [go_sem]
     · simp only [decide_eq_false_iff_not] at hd
       have hu0 : u = 0 :=by omega
       subst hu0
       rw [jO,List.append_nil] at hE
       subst hE
       refine eR (st0 :=⟨mkE [(2,.el 0 2 0 0),(3,ii (if n < 0 then -1 else 1)),(5,il (dg (ab n)))],[.row ⟨60,2,[.agg [ii 0,.nil]]⟩]⟩) ?_ ?_
       · refine aA _ [.old 0 ⟨60,2,[.agg [ii 0,.nil]]⟩] (by simp [go_sem]) ?_
         simp [go_sem]
       · have hsgn :=cO (if n < 0 then -1 else 1) (dg (ab n)) n (by omega) (aI _) (by rw [aL]) (fun h => by rw [aL] at h; unfold ab at h; unfold sg; split <;> split at h <;> first | rfl | omega | (rw [if_pos (by omega)]))
         (repeat (refine a6 q17x7 hX a7 rfl ?_; (simp [go_sem]; (try simp (disch :=omega) only [w64,td,tm]))))
         refine a9 (hsgn) ?_
         try (simp [go_sem])
         (repeat (refine a6 q17x7 hX a7 rfl ?_; (simp [go_sem])))
theorem MR (k : Nat) {u d : Int} (h1 : 0 ≤ u) (h2 : u < 2 ^ k) (h3 : 0 ≤ d) (h4 : d * 2 ^ k + u < 18446744073709551616) : orI .u64 u (d * 2 ^ k) = u + d * 2 ^ k :=by
 obtain ⟨m,rfl⟩ :=Int.eq_ofNat_of_zero_le h1
 obtain ⟨n,rfl⟩ :=Int.eq_ofNat_of_zero_le h3
 have hm : m < 2 ^ k :=by
  have : ((m : Nat) : Int) < ((2 ^ k : Nat) : Int) :=by simpa using h2
  omega
 have hnn : (n : Int) * 2 ^ k = ((n * 2 ^ k : Nat) : Int) :=by simp
 rw [hnn] at h4 ⊢
 unfold orI
 rw [BitVec.toNat_or,BitVec.toNat_ofInt,BitVec.toNat_ofInt]
 show IntKind.u64.wrap (((((m : Nat) : Int) % (2 ^ 64 : Nat)).toNat ||| ((((n * 2 ^ k : Nat) : Int)) % (2 ^ 64 : Nat)).toNat : Nat) : Int) = _
 rw [show (((n * 2 ^ k : Nat) : Int) % (2 ^ 64 : Nat)).toNat = n <<< k by rw [Nat.shiftLeft_eq]; omega,show (((m : Nat) : Int) % (2 ^ 64 : Nat)).toNat = m by omega,
  Nat.or_comm,← Nat.shiftLeft_add_eq_or_of_lt hm,Nat.shiftLeft_eq,wu (by omega) (by omega)]
 omega
theorem qZ {L : List Int} {i : Nat} (h : i < L.length) : val (L.take (i + 1)) = val (L.take i) + 1048576 ^ i * L[i] :=by
 rw [List.take_succ_eq_append_getElem h,eD,List.length_take,Nat.min_eq_left (by omega)]
 simp [val]
def inI (z : Int) : Bool :=decide (-9223372036854775808 ≤ z ∧ z ≤ 9223372036854775807)
set_option maxHeartbeats 4000000 in
set_option maxRecDepth 20000 in
theorem JX (z : Int) (hz : rz z) : Means false Tryz.prog 36 [bigZ z] (.tup [ii (if inI z then z else 0),bb (inI z)]) :=by
 have hlz :=bP hz
 have hab :=aT z
 have hva :=aL z
 have hok :=aI (ab z)
 refine aB false 59 [.tmp 2,.tmp 3] Tryz.func36 rfl rfl rfl (by simp) (by decide) rfl fun X hX => ?_
 (repeat (refine a6 q17x0 hX a7 rfl ?_; (simp [go_sem])))
 refine a9 (b7 z hz) ?_
 try (simp [go_sem])
 (repeat (refine a6 q17x0 hX a7 rfl ?_; (simp [go_sem])))
 refine a8 (b :=decide (4 < (dg (ab z)).length)) (by simp [go_sem]; try omega) (fun hd => ?_) (fun hd => ?_)
 · simp only [decide_eq_true_eq] at hd
   have : ¬ (dg (ab z)).length ≤ 4 :=by omega
   rw [aP] at this
   have h4 : (1048576 : Int) ^ 4 = 1208925819614629174706176 :=by decide
   have hin : inI z = false :=by
    unfold inI
    rcases aD z with h | h | h <;> simp <;> omega
   (repeat (refine a6 q17x0 hX a7 rfl ?_; (simp [go_sem,hin])))
 · simp only [decide_eq_false_iff_not] at hd
   generalize hL : dg (ab z) = L at *
   (repeat (refine a6 q17x0 hX a7 rfl ?_; (simp [go_sem])))
   refine aF (fun x : Nat => ⟨mkE [(1,.el 0 2 0 0),(4,uu (val (L.take x))),(17,il L),(18,ii L.length),(19,ii x)],[.row ⟨60,2,[big2 (sg z) L]⟩]⟩)
    (fun x => x ≤ L.length ∧ (x = 4 → ab z < 10376293541461622784)) (fun x => L.length - x) 0 ?_ ?_ ?_
   · refine aA _ [.old 0 ⟨60,2,[big2 (sg z) L]⟩] (by simp [go_sem,hL]) ?_
     simp [go_sem,val,hL]
   · exact ⟨Nat.zero_le _,fun h => by omega⟩
   · rintro i ⟨hi,hi4⟩
     (repeat (refine a6 q17x0 hX a7 rfl ?_; (simp [go_sem])))
     refine a8 (b :=decide (i < L.length)) (by simp [go_sem]) (fun hd2 => ?_) (fun hd2 => ?_)
     · simp at hd2
       have hx :=b5 hok hd2
       have hlt :=d8 (bB hok i)
       have hge :=aM (bB hok i)
       rw [List.length_take,Nat.min_eq_left hi] at hlt
       have hvs :=qZ hd2
       have hpw : (1048576 : Int) ^ i = 2 ^ (20 * i) :=by rw [Int.pow_mul]; rfl
       have hvs2 : val (L.take (i + 1)) = val (L.take i) + L[i] * 2 ^ (20 * i) :=by rw [hvs,hpw,Int.mul_comm]
       have hw1 :=wu (x :=L[i]) (by omega) (by omega)
       have hw2 :=w64 (x :=20 * (i : Int)) (by omega) (by omega)
       have hmin : min (20 * (i : Int)).toNat 64 = 20 * i :=by omega
       have hpos : (0 : Int) ≤ 20 * i :=by omega
       have hgo : (L[i] * 2 ^ (20 * i) + val (L.take i) < 18446744073709551616) →
         True :=fun _ => trivial
       clear hgo
       have hsmall : i ≤ 2 → L[i] * 2 ^ (20 * i) + val (L.take i) < 18446744073709551616 ∧ L[i] * 2 ^ (20 * i) < 18446744073709551616 :=by
        intro h
        have : i = 0 ∨ i = 1 ∨ i = 2 :=by omega
        rcases this with rfl | rfl | rfl <;> simp at hlt ⊢ <;> omega
       by_cases h3 : i = 3
       · have h3i : (i : Int) = 3 :=by omega
         have e1 :=eq_true h3
         have e2 :=eq_true h3i
         have hp60 : (2 : Int) ^ (20 * i) = 1152921504606846976 :=by rw [h3]; decide
         rw [hpw,hp60] at hlt
         have hLv : val (L.take (i + 1)) = ab z :=by rw [← hva,List.take_of_length_le (by omega)]
         rw [hp60] at hvs2
         by_cases h8 : 8 < L[i]
         · have hin : inI z = false :=by
            unfold inI
            rcases aD z with h | h | h <;> simp <;> omega
           (repeat (refine a6 q17x0 hX a7 rfl ?_; (simp [go_sem,hd2,e1,e2,h8])))
           try (simp [go_sem,hd2,e1,e2,h8])
           (repeat (refine a6 q17x0 hX a7 rfl ?_; (simp [go_sem,e1,e2,h8]; (try simp (disch :=omega) only [w64,td,tm]))))
           try (simp [go_sem,e1,e2,h8])
           refine a8 (b :=true) (by simp [go_sem]) (fun _ => ?_) (fun h => by cases h)
           (repeat (refine a6 q17x0 hX a7 rfl ?_; (simp [go_sem,hin])))
         · have hp2 : (0 : Int) ≤ L[i] * 2 ^ (20 * i) :=Int.mul_nonneg hx.1 (Int.le_of_lt (Int.pow_pos (by decide)))
           have hor :=MR (20 * i) (u :=val (L.take i)) (d :=L[i]) hge (by rw [hp60]; exact hlt) hx.1 (by rw [hp60]; omega)
           have hw3 :=wu (x :=L[i] * 2 ^ (20 * i)) hp2 (by rw [hp60]; omega)
           (repeat (refine a6 q17x0 hX a7 rfl ?_; (simp [go_sem,hd2,e1,e2,h8])))
           try (simp [go_sem,hd2,e1,e2,h8])
           (repeat (refine a6 q17x0 hX a7 rfl ?_; (simp [go_sem,e1,e2,h8]; (try simp (disch :=omega) only [w64,td,tm]))))
           try (simp [go_sem,e1,e2,h8])
           refine a8 (b :=false) (by simp [go_sem]) (fun h => by cases h) (fun _ => ?_)
           (repeat (refine a6 q17x0 hX a7 rfl ?_; (simp [go_sem,hw1,hw2,hmin,hpos,hw3,hor]; (try simp (disch :=omega) only [w64,td,tm]))))
           try (simp [go_sem,hw1,hw2,hmin,hpos,hw3,hor])
           refine ⟨i + 1,⟨by omega,fun _ => by omega⟩,by omega,?_⟩
           rw [← hp60] at hvs2
           refine aA _ [.old 0 ⟨60,2,[big2 (sg z) L]⟩] (by simp [go_sem,hL]) ?_
           simp [go_sem,hvs2,hL]
       · have h3i : ¬ (i : Int) = 3 :=by omega
         obtain ⟨hs1,hs2⟩ :=hsmall (by omega)
         have hp2 : (0 : Int) ≤ L[i] * 2 ^ (20 * i) :=Int.mul_nonneg hx.1 (Int.le_of_lt (Int.pow_pos (by decide)))
         have hor :=MR (20 * i) (u :=val (L.take i)) (d :=L[i]) hge (by rw [← hpw]; exact hlt) hx.1 hs1
         have hw3 :=wu (x :=L[i] * 2 ^ (20 * i)) hp2 hs2
         (repeat (refine a6 q17x0 hX a7 rfl ?_; (simp [go_sem,hd2,h3i])))
         try (simp [go_sem,hd2,h3i])
         (repeat (refine a6 q17x0 hX a7 rfl ?_; (simp [go_sem]; (try simp (disch :=omega) only [w64,td,tm]))))
         refine a8 (b :=false) (by simp [go_sem]) (fun h => by cases h) (fun _ => ?_)
         (repeat (refine a6 q17x0 hX a7 rfl ?_; (simp [go_sem,hw1,hw2,hmin,hpos,hw3,hor]; (try simp (disch :=omega) only [w64,td,tm]))))
         try (simp [go_sem,hw1,hw2,hmin,hpos,hw3,hor])
         refine ⟨i + 1,⟨by omega,fun h => by omega⟩,by omega,?_⟩
         refine aA _ [.old 0 ⟨60,2,[big2 (sg z) L]⟩] (by simp [go_sem,hL]) ?_
         simp [go_sem,hvs2,hL]
     · have hil : i = L.length :=by simp at hd2; omega
       subst hil
       rw [List.take_length,hva]
       have hbd : ab z < 10376293541461622784 :=by
        by_cases h4 : L.length = 4
        · exact hi4 h4
        · have :=d8 hok
          rw [hva] at this
          have hle : (1048576 : Int) ^ L.length ≤ 1048576 ^ 3 :=by
           have : L.length = 0 ∨ L.length = 1 ∨ L.length = 2 ∨ L.length = 3 :=by omega
           rcases this with h | h | h | h <;> rw [h] <;> decide
          have h3 : (1048576 : Int) ^ 3 = 1152921504606846976 :=by decide
          omega
       have hwn : 0 ≤ ab z → ab z ≤ 9223372036854775808 → sg z < 0 → IntKind.i64.wrap (IntKind.u64.wrap (-ab z)) = z :=by
        intro _ h1 h2
        have : ab z = -z :=by rcases aD z with h | h | h <;> omega
        unfold IntKind.wrap
        simp [IntKind.bits,IntKind.signed]
        omega
       by_cases hs : sg z < 0
       · have hz0 : ab z = -z :=by rcases aD z with h | h | h <;> omega
         by_cases hle : ab z ≤ 9223372036854775808
         · have hw :=hwn hab hle hs
           have hin : inI z = true :=by unfold inI; simp; omega
           (repeat (refine a6 q17x0 hX a7 rfl ?_; (simp [go_sem,hs,hle])))
           refine a8 (b :=true) (by simp [go_sem]) (fun _ => ?_) (fun h => by cases h)
           (repeat (refine a6 q17x0 hX a7 rfl ?_; (simp [go_sem,hw,hin])))
         · have hin : inI z = false :=by unfold inI; simp; omega
           have hs2 : ¬ 0 ≤ sg z :=by omega
           (repeat (refine a6 q17x0 hX a7 rfl ?_; (simp [go_sem,hs,hle])))
           refine a8 (b :=false) (by simp [go_sem]) (fun h => by cases h) (fun _ => ?_)
           (repeat (refine a6 q17x0 hX a7 rfl ?_; (simp [go_sem,hs2])))
           refine a8 (b :=false) (by simp [go_sem]) (fun h => by cases h) (fun _ => ?_)
           (repeat (refine a6 q17x0 hX a7 rfl ?_; (simp [go_sem,hin])))
       · have hz0 : ab z = z :=by rcases aD z with h | h | h <;> omega
         have hs2 : 0 ≤ sg z :=by omega
         by_cases hle : ab z < 9223372036854775808
         · have hw :=w64 (x :=ab z) (by omega) (by omega)
           rw [hz0] at hw
           have hin : inI z = true :=by unfold inI; simp; omega
           (repeat (refine a6 q17x0 hX a7 rfl ?_; (simp [go_sem,hs])))
           refine a8 (b :=false) (by simp [go_sem]) (fun h => by cases h) (fun _ => ?_)
           (repeat (refine a6 q17x0 hX a7 rfl ?_; (simp [go_sem,hs2,hle])))
           refine a8 (b :=true) (by simp [go_sem]) (fun _ => ?_) (fun h => by cases h)
           (repeat (refine a6 q17x0 hX a7 rfl ?_; (simp [go_sem,hz0,hw,hin])))
         · have hin : inI z = false :=by unfold inI; simp; omega
           (repeat (refine a6 q17x0 hX a7 rfl ?_; (simp [go_sem,hs])))
           refine a8 (b :=false) (by simp [go_sem]) (fun h => by cases h) (fun _ => ?_)
           (repeat (refine a6 q17x0 hX a7 rfl ?_; (simp [go_sem,hs2,hle])))
           refine a8 (b :=false) (by simp [go_sem]) (fun h => by cases h) (fun _ => ?_)
           (repeat (refine a6 q17x0 hX a7 rfl ?_; (simp [go_sem,hin])))
end Go.Proofs.YtknbcehhjffndaaGreat

namespace Go.Proofs.YtknbcehhjffndaaGreat
open Go.RowKit Go.Ab
attribute [local irreducible] AWP Go.Ab.Sub Means MeansH CallK CallG CallT CallGT
theorem vT {z w : Int} : (sg z = sg w ∧ dg (ab z) = dg (ab w)) ↔ z = w :=by
 constructor
 · rintro ⟨h1,h2⟩
   have :=KH (aT z) (aT w) h2
   rw [← x7 z,← x7 w,h1,this]
 · rintro rfl; exact ⟨rfl,rfl⟩
theorem I4 {z : Int} (h : ab z < 100000000000000000000000000000000) : rz z :=by
 unfold rz
 have : (100000000000000000000000000000000 : Int) < 1048576 ^ 60 :=by decide
 omega
theorem l3 {z : Int} (h : -9223372036854775808 ≤ z ∧ z ≤ 9223372036854775807) : rz z :=I4 (by unfold ab; split <;> omega)
theorem eN {z w p : Int} (hz : rz z) (hw : rz w) (hp : rz p) (e : z * w = p) : Means false Tryz.prog 92 [bigZ z,bigZ w] (.tup [bigZ p,ii 0]) :=by
 have :=JY z w hz hw
 rwa [res,e,cC hp,yS hp] at this
theorem dU {z w q r : Int} (hz : rz z) (hw : rz w) (h0 : w ≠ 0) (hq : dq z w = q) (hr : dr z w = r) : Means false Tryz.prog 70 [bigZ z,bigZ w] (.tup [bigZ q,bigZ r,ii 0]) :=by
 have :=MP z w hz hw h0
 rwa [hq,hr] at this
theorem uN {z w g : Int} (hz : rz z) (hw : rz w) (hg : (Int.gcd z w : Int) = g) : Means false Tryz.prog 68 [bigZ z,bigZ w] (.tup [bigZ g,ii 0]) :=by
 have :=JW z w hz hw
 rwa [hg] at this
theorem JZ {z : Int} (h : -9223372036854775808 ≤ z ∧ z ≤ 9223372036854775807) : Means false Tryz.prog 36 [bigZ z] (.tup [ii z,bb true]) :=by
 have :=JX z (l3 h)
 have e : inI z = true :=by unfold inI; simpa using h
 rwa [e,if_pos rfl] at this
theorem F2 (a b : Int) : cmpI b a = -cmpI a b :=by unfold cmpI; split <;> (try split) <;> (try split) <;> (try split) <;> omega
theorem tI (a b : Int) : -1 ≤ cmpI a b ∧ cmpI a b ≤ 1 :=by unfold cmpI; split <;> (try split) <;> omega
theorem jL (a b : Int) : cmpI a b = 0 ↔ a = b :=by unfold cmpI; split <;> (try split) <;> omega
theorem nL (a b : Int) : sg (a - b) = cmpI a b :=by unfold cmpI sg; split <;> (try split) <;> (try split) <;> (try split) <;> omega
theorem M4 {z w : Int} (h : w ≠ 0) : ab (dq z w) ≤ ab z :=by
 have hD : 0 < ab w :=by rcases aD w with h | h | h <;> omega
 unfold dq
 have e : ab (sg w * z) = ab z :=by
  rcases aD w with ⟨a1,_,_⟩ | ⟨a1,a2,_⟩ | ⟨a1,_,_⟩
  · rw [a1,Int.neg_one_mul,pT]
  · exact absurd a2 h
  · rw [a1,Int.one_mul]
 rw [← e]
 generalize sg w * z = x
 generalize ab w = D at *
 have h0 :=Int.mul_ediv_add_emod x D
 have h1 :=Int.emod_nonneg x (show D ≠ 0 by omega)
 have h2 :=Int.emod_lt_of_pos x hD
 generalize x / D = q at *
 generalize x % D = r at *
 rcases aD q with ⟨_,a2,a3⟩ | ⟨_,a2,a3⟩ | ⟨_,a2,a3⟩
 · have : D * q ≤ 1 * q :=Int.mul_le_mul_of_nonpos_right (by omega) (by omega)
   have : x < 0 :=by
    have : D * q ≤ D * (-1) :=Int.mul_le_mul_of_nonneg_left (by omega) (by omega)
    omega
   have hx : ab x = -x :=by unfold ab; rw [if_pos this]
   rw [a3,hx]
   have : (D - 1) * (q + 1) ≤ 0 :=Int.mul_nonpos_of_nonneg_of_nonpos (by omega) (by omega)
   rw [Int.sub_mul,Int.mul_add] at this
   omega
 · rw [a3]; exact aT x
 · have : 1 * q ≤ D * q :=Int.mul_le_mul_of_nonneg_right (by omega) (by omega)
   have hx : ab x = x :=by unfold ab; rw [if_neg (by omega)]
   rw [a3,hx]
   omega
theorem uO {a b : Int} {k : Nat} (h1 : ab a < 1048576 ^ k) (h2 : ab b < 1048576 ^ k) : ab (Int.gcd a b : Int) < 1048576 ^ k :=by
 have e : ab (Int.gcd a b : Int) = Int.gcd a b :=by unfold ab; rw [if_neg (by omega)]
 rw [e]
 by_cases ha : a = 0
 · subst ha
   rw [Int.gcd_zero_left,← j8]; exact h2
 · have hd :=Int.gcd_dvd_left a b
   have : (Int.gcd a b : Int) ≤ ab a :=by
    rw [j8]
    have :=Int.natAbs_dvd_natAbs.2 hd
    rw [Int.natAbs_natCast] at this
    have :=Nat.le_of_dvd (by omega) this
    omega
   omega
end Go.Proofs.YtknbcehhjffndaaGreat

namespace Go.Proofs.YtknbcehhjffndaaGreat
open Go.RowKit Go.Ab
def rf (p q : Int) : Prop :=rz p ∧ rz q ∧ 0 < q ∧ Int.gcd p q = 1
def np (p q : Int) : Int :=sg q * p / (Int.gcd p q : Int)
def nq (p q : Int) : Int :=ab q / (Int.gcd p q : Int)
theorem B0 {a b c : Int} (h : Int.gcd a b = 1) (hd : a ∣ b * c) : a ∣ c :=by
 rw [← Int.natAbs_dvd_natAbs] at hd ⊢
 rw [Int.natAbs_mul] at hd
 exact Nat.Coprime.dvd_of_dvd_mul_left h hd
theorem DQ {x y u v : Int} (hy : 0 < y) (h1 : Int.gcd x y = 1) (hv : 0 < v) (h2 : Int.gcd u v = 1) (h : x * v = u * y) : x = u ∧ y = v :=by
 have d1 : y ∣ v :=B0 (b :=x) (by rw [Int.gcd_comm]; exact h1) ⟨u,by rw [h,Int.mul_comm]⟩
 have d2 : v ∣ y :=B0 (b :=u) (by rw [Int.gcd_comm]; exact h2) ⟨x,by rw [← h,Int.mul_comm]⟩
 have e : y = v :=Int.dvd_antisymm (by omega) (by omega) d1 d2
 subst e
 exact ⟨Int.eq_of_mul_eq_mul_right (by omega) h,rfl⟩
theorem uQ {p q : Int} (hq : q ≠ 0) : 0 < (Int.gcd p q : Int) :=by
 have : Int.gcd p q ≠ 0 :=fun e => hq (Int.gcd_eq_zero_iff.1 e).2
 omega
theorem KW {p q : Int} (hq : q ≠ 0) : Int.gcd (sg q * p) (ab q) = Int.gcd p q :=by
 rcases aD q with ⟨h,_,h2⟩ | ⟨_,h,_⟩ | ⟨h,_,h2⟩
 · rw [h,h2,Int.neg_one_mul,Int.neg_gcd,Int.gcd_neg]
 · exact absurd h hq
 · rw [h,h2,Int.one_mul]
theorem oZ {p q : Int} (hq : q ≠ 0) : 0 < nq p q ∧ Int.gcd (np p q) (nq p q) = 1 ∧ np p q * q = p * nq p q ∧ ab (np p q) ≤ ab p ∧ nq p q ≤ ab q ∧ np p q * (Int.gcd p q : Int) = sg q * p ∧ nq p q * (Int.gcd p q : Int) = ab q :=by
 have hg :=uQ (p :=p) hq
 have d1 : (Int.gcd p q : Int) ∣ sg q * p :=Int.dvd_trans (Int.gcd_dvd_left p q) ⟨sg q,by rw [Int.mul_comm]⟩
 have d2 : (Int.gcd p q : Int) ∣ ab q :=by
  have :=Int.gcd_dvd_right p q
  rcases aD q with ⟨h,_,h2⟩ | ⟨_,h,h2⟩ | ⟨h,_,h2⟩ <;> rw [h2]
  · exact Int.dvd_neg.2 this
  · exact ⟨0,by simp⟩
  · exact this
 have e1 : np p q * (Int.gcd p q : Int) = sg q * p :=Int.ediv_mul_cancel d1
 have e2 : nq p q * (Int.gcd p q : Int) = ab q :=Int.ediv_mul_cancel d2
 have hgs :=KW (p :=p) hq
 have hc : Int.gcd (np p q) (nq p q) = 1 :=by
  have :=@Int.gcd_ediv_gcd_ediv_gcd (sg q * p) (ab q) (by rw [hgs]; omega)
  rwa [hgs] at this
 have haq : 0 < ab q :=by rcases aD q with h | h | h <;> omega
 have h0 : 0 < nq p q :=by
  refine Decidable.byContradiction fun hn => ?_
  have :=Int.mul_le_mul_of_nonneg_right (show nq p q ≤ 0 by omega) (show 0 ≤ (Int.gcd p q : Int) by omega)
  omega
 refine ⟨h0,hc,?_,?_,?_,e1,e2⟩
 · have hqs : q = sg q * ab q :=(x7 q).symm
   rw [show np p q * q = np p q * (sg q * ab q) by rw [← hqs],← e2]
   rw [show np p q * (sg q * (nq p q * (Int.gcd p q : Int))) = sg q * nq p q * (np p q * (Int.gcd p q : Int)) by grind,e1]
   rcases aD q with ⟨h,_,h2⟩ | ⟨_,h,_⟩ | ⟨h,_,h2⟩
   · rw [h]; grind
   · exact absurd h hq
   · rw [h]; grind
 · have e3 : ab (np p q) * (Int.gcd p q : Int) = ab p :=by
    have e4 : ab (Int.gcd p q : Int) = (Int.gcd p q : Int) :=by unfold ab; rw [if_neg (by omega)]
    have :=congrArg ab e1
    rw [pU,e4,pU] at this
    rw [this]
    have : ab (sg q) = 1 :=by
     rcases aD q with ⟨h,_,h2⟩ | ⟨_,h,_⟩ | ⟨h,_,h2⟩
     · rw [h]; rfl
     · exact absurd h hq
     · rw [h]; rfl
    rw [this,Int.one_mul]
   have :=Int.mul_le_mul_of_nonneg_left (show 1 ≤ (Int.gcd p q : Int) by omega) (aT (np p q))
   omega
 · have :=Int.mul_le_mul_of_nonneg_left (show 1 ≤ (Int.gcd p q : Int) by omega) (show 0 ≤ nq p q by omega)
   omega
end Go.Proofs.YtknbcehhjffndaaGreat

namespace Go.Proofs.YtknbcehhjffndaaGreat
open Go.RowKit Go.Ab
attribute [local irreducible] AWP Go.Ab.Sub Means MeansH CallK CallG CallT CallGT
@[go_sem] theorem c_sg0 : sg 0 = 0 :=rfl
@[go_sem] theorem c_dg0 : dg (ab 0) = [] :=rfl
abbrev frac4 (s1 : Int) (L1 : List Int) (s2 : Int) (L2 : List Int) : AV :=.agg [ii s1,il L1,ii s2,il L2]
abbrev frZ (p q : Int) : AV :=frac4 (sg p) (dg (ab p)) (sg q) (dg (ab q))
def zv (s : Int) (L : List Int) : Int :=s * val L
theorem eO (z : Int) : zv (sg z) (dg (ab z)) = z :=by unfold zv; rw [aL,x7]
theorem K0 {s : Int} {L : List Int} (h : isR s L) : rz (zv s L) ∧ s = sg (zv s L) ∧ L = dg (ab (zv s L)) :=by
 obtain ⟨z,hz,rfl,rfl⟩ :=q8 h
 rw [eO]; exact ⟨hz,rfl,rfl⟩
def isF (s1 : Int) (L1 : List Int) (s2 : Int) (L2 : List Int) : Prop :=isR s1 L1 ∧ isR s2 L2 ∧ rf (zv s1 L1) (zv s2 L2)
noncomputable instance (s1 : Int) (L1 : List Int) (s2 : Int) (L2 : List Int) : Decidable (isF s1 L1 s2 L2) :=Classical.propDecidable _
theorem FF {p q : Int} (h : rf p q) : isF (sg p) (dg (ab p)) (sg q) (dg (ab q)) :=⟨lW h.1,lW h.2.1,by rw [eO,eO]; exact h⟩
theorem z5 {s1 s2 : Int} {L1 L2 : List Int} (h : isF s1 L1 s2 L2) : ∃ p q,rf p q ∧ s1 = sg p ∧ L1 = dg (ab p) ∧ s2 = sg q ∧ L2 = dg (ab q) :=by
 obtain ⟨h1,h2,h3⟩ :=h
 obtain ⟨_,a1,a2⟩ :=K0 h1
 obtain ⟨_,b1,b2⟩ :=K0 h2
 exact ⟨_,_,h3,a1,a2,b1,b2⟩
theorem MS (z : Int) (hz : rz z) : Means false Tryz.prog 69 [bigZ z] (bb (decide (z = 1))) :=by
 refine aB false 15 [.tmp 2] Tryz.func69 rfl rfl rfl (by simp) (by decide) rfl fun X hX => ?_
 (repeat (refine a6 [0,1,2,3,4] hX a7 rfl ?_; (simp [go_sem])))
 refine a9 (JX z hz) ?_
 try (simp [go_sem])
 by_cases h : inI z = true
 · (repeat (refine a6 [0,1,2,3,4] hX a7 rfl ?_; (simp [go_sem,h])))
 · have h1 : ¬ z = 1 :=by
    rintro rfl
    exact h (by decide)
   have hf : inI z = false :=by simpa using h
   (repeat (refine a6 [0,1,2,3,4] hX a7 rfl ?_; (simp [go_sem,hf,h1])))
set_option maxHeartbeats 4000000 in
set_option maxRecDepth 20000 in
theorem uR (s1 : Int) (L1 : List Int) (l1 : L1.length ≤ 9223372036854775807) (s2 : Int) (L2 : List Int) (l2 : L2.length ≤ 9223372036854775807) : Means false Tryz.prog 34 [frac4 s1 L1 s2 L2] (bb (decide (isF s1 L1 s2 L2))) :=by
 refine aB false 35 [.tmp 2] Tryz.func34 rfl rfl rfl (by simp) (by decide) rfl fun X hX => ?_
 (repeat (refine a6 [0,1,2,3,4,20] hX a7 rfl ?_; (simp [go_sem])))
 refine a9 (uS s1 L1 l1) ?_
 try (simp [go_sem])
 refine aJ (fun hg => uS s2 L2 l2) ?_
 try (simp [go_sem])
 by_cases h : isR s1 L1 ∧ isR s2 L2 ∧ s2 = 1
 · obtain ⟨h1,h2,h3⟩ :=h
   obtain ⟨p,hp,rfl,rfl⟩ :=q8 h1
   obtain ⟨q,hq,rfl,rfl⟩ :=q8 h2
   have hq0 : 0 < q :=by rcases aD q with h | h | h <;> omega
   have e : isF (sg p) (dg (ab p)) (sg q) (dg (ab q)) ↔ (Int.gcd p q : Int) = 1 :=by
    unfold isF rf
    rw [eO,eO]
    constructor
    · rintro ⟨_,_,_,_,_,h⟩; omega
    · intro h; exact ⟨h1,h2,hp,hq,hq0,by omega⟩
   have zg : rz (Int.gcd p q : Int) :=by
    unfold rz at *
    have :=uO hp hq
    exact this
   have h2' : isR 1 (dg (ab q)) :=by rw [← h3]; exact h2
   refine a8 (b :=false) (by simp [go_sem,h1,h2,h2',h3]) (fun h => by cases h) (fun _ => ?_)
   (repeat (refine a6 [0,1,2,3,4,20] hX a7 rfl ?_; (simp [go_sem])))
   refine a9 (JW p q hp hq) ?_
   try (simp [go_sem])
   (repeat (refine a6 [0,1,2,3,4,20] hX a7 rfl ?_; (simp [go_sem])))
   refine aJ (fun hg => MS _ zg) ?_
   try (simp [go_sem])
   (repeat (refine a6 [0,1,2,3,4,20] hX a7 rfl ?_; (simp [go_sem,e])))
 · have e : ¬ isF s1 L1 s2 L2 :=fun hf => h ⟨hf.1,hf.2.1,by
    obtain ⟨p,q,hr,_,_,rfl,_⟩ :=z5 hf
    have :=hr.2.2.1
    rcases aD q with h | h | h <;> omega⟩
   refine a8 (b :=true) (by simp [go_sem]; grind) (fun _ => ?_) (fun h => by cases h)
   (repeat (refine a6 [0,1,2,3,4,20] hX a7 rfl ?_; (simp [go_sem,e])))
theorem bO (p q : Int) (h : rf p q) : Means false Tryz.prog 34 [frZ p q] (bb true) :=by
 have :=uR (sg p) (dg (ab p)) (by have :=bP h.1; omega) (sg q) (dg (ab q)) (by have :=bP h.2.1; omega)
 rwa [decide_eq_true (FF h)] at this
theorem sL {p q p' : Int} (_hq : q ≠ 0) (h : p' = sg q * p) (hg : 0 < (Int.gcd p q : Int)) : dq p' (Int.gcd p q : Int) = np p q :=by
 unfold dq np
 have e1 : sg (Int.gcd p q : Int) = 1 :=by rcases aD (Int.gcd p q : Int) with h | h | h <;> omega
 have e2 : ab (Int.gcd p q : Int) = (Int.gcd p q : Int) :=by unfold ab; rw [if_neg (by omega)]
 rw [e1,e2,Int.one_mul,h]
theorem sM {p q q' : Int} (h : q' = ab q) (hg : 0 < (Int.gcd p q : Int)) : dq q' (Int.gcd p q : Int) = nq p q :=by
 unfold dq nq
 have e1 : sg (Int.gcd p q : Int) = 1 :=by rcases aD (Int.gcd p q : Int) with h | h | h <;> omega
 have e2 : ab (Int.gcd p q : Int) = (Int.gcd p q : Int) :=by unfold ab; rw [if_neg (by omega)]
 rw [e1,e2,Int.one_mul,h]
set_option maxHeartbeats 4000000 in
set_option maxRecDepth 20000 in
theorem K1 (p q : Int) (hp : rz p) (hq : rz q) (h0 : q ≠ 0) : Means false Tryz.prog 94 [bigZ p,bigZ q] (.tup [frZ (np p q) (nq p q),ii 0]) :=by
 have hs0 : ¬ sg q = 0 :=by rcases aD q with h | h | h <;> omega
 have hgp :=uQ (p :=p) h0
 have hg0 : (Int.gcd p q : Int) ≠ 0 :=by omega
 have zg : rz (Int.gcd p q : Int) :=uO hp hq
 have znp :=j3 hp
 have znq :=j3 hq
 refine aB false 60 [.cell 4 62,.tmp 5] Tryz.func94 rfl rfl rfl (by simp) (by decide) rfl fun X hX => ?_
 (repeat (refine a6 q17x4 hX a7 rfl ?_; (simp [go_sem]; try (refine ⟨by kernel_rfl,?_⟩))))
 first | refine a9 (b7 p hp) ?_ | refine aE (b7 p hp) ?_
 try (simp [go_sem]; try (refine ⟨by kernel_rfl,?_⟩))
 first | refine aJ (fun hg => b7 q hq) ?_ | refine aZ (fun hg => b7 q hq) ?_
 try (simp [go_sem]; try (refine ⟨by kernel_rfl,?_⟩))
 refine a8 (b :=false) (by simp [go_sem]) (fun h => by cases h) (fun _ => ?_)
 (repeat (refine a6 q17x4 hX a7 rfl ?_; (simp [go_sem]; try (refine ⟨by kernel_rfl,?_⟩))))
 refine a8 (b :=false) (by simp [go_sem,hs0]) (fun h => by cases h) (fun _ => ?_)
 (repeat (refine a6 q17x4 hX a7 rfl ?_; (simp [go_sem]; try (refine ⟨by kernel_rfl,?_⟩))))
 by_cases hn : q < 0
 · have hsq : sg q = -1 :=by unfold sg; rw [if_pos hn]
   refine a8 (b :=true) (by simp [go_sem,hsq]) (fun _ => ?_) (fun h => by cases h)
   (repeat (refine a6 q17x4 hX a7 rfl ?_; (simp [go_sem]; try (refine ⟨by kernel_rfl,?_⟩))))
   first | refine a9 (mZ p hp) ?_ | refine aE (mZ p hp) ?_
   try (simp [go_sem]; try (refine ⟨by kernel_rfl,?_⟩))
   first | refine a9 (mZ q hq) ?_ | refine aE (mZ q hq) ?_
   try (simp [go_sem]; try (refine ⟨by kernel_rfl,?_⟩))
   (repeat (refine a6 q17x4 hX a7 rfl ?_; (simp [go_sem]; try (refine ⟨by kernel_rfl,?_⟩))))
   first | refine a9 (uN (g :=(Int.gcd p q : Int)) znp znq (by rw [Int.neg_gcd,Int.gcd_neg])) ?_ | refine aE (uN (g :=(Int.gcd p q : Int)) znp znq (by rw [Int.neg_gcd,Int.gcd_neg])) ?_
   try (simp [go_sem]; try (refine ⟨by kernel_rfl,?_⟩))
   (repeat (refine a6 q17x4 hX a7 rfl ?_; (simp [go_sem]; try (refine ⟨by kernel_rfl,?_⟩))))
   first | refine a9 (dU znp zg hg0 (sL h0 (by rw [hsq,Int.neg_one_mul]) hgp) rfl) ?_ | refine aE (dU znp zg hg0 (sL h0 (by rw [hsq,Int.neg_one_mul]) hgp) rfl) ?_
   try (simp [go_sem]; try (refine ⟨by kernel_rfl,?_⟩))
   (repeat (refine a6 q17x4 hX a7 rfl ?_; (simp [go_sem]; try (refine ⟨by kernel_rfl,?_⟩))))
   first | refine a9 (dU znq zg hg0 (sM (by unfold ab; rw [if_pos hn]) hgp) rfl) ?_ | refine aE (dU znq zg hg0 (sM (by unfold ab; rw [if_pos hn]) hgp) rfl) ?_
   try (simp [go_sem]; try (refine ⟨by kernel_rfl,?_⟩))
   (repeat (refine a6 q17x4 hX a7 rfl ?_; (simp [go_sem]; try (refine ⟨by kernel_rfl,?_⟩))))
 · have hsq : sg q = 1 :=by rcases aD q with h | h | h <;> omega
   refine a8 (b :=false) (by simp [go_sem,hsq]) (fun h => by cases h) (fun _ => ?_)
   (repeat (refine a6 q17x4 hX a7 rfl ?_; (simp [go_sem]; try (refine ⟨by kernel_rfl,?_⟩))))
   first | refine a9 (uN (g :=(Int.gcd p q : Int)) hp hq (rfl)) ?_ | refine aE (uN (g :=(Int.gcd p q : Int)) hp hq (rfl)) ?_
   try (simp [go_sem]; try (refine ⟨by kernel_rfl,?_⟩))
   (repeat (refine a6 q17x4 hX a7 rfl ?_; (simp [go_sem]; try (refine ⟨by kernel_rfl,?_⟩))))
   first | refine a9 (dU hp zg hg0 (sL h0 (by rw [hsq,Int.one_mul]) hgp) rfl) ?_ | refine aE (dU hp zg hg0 (sL h0 (by rw [hsq,Int.one_mul]) hgp) rfl) ?_
   try (simp [go_sem]; try (refine ⟨by kernel_rfl,?_⟩))
   (repeat (refine a6 q17x4 hX a7 rfl ?_; (simp [go_sem]; try (refine ⟨by kernel_rfl,?_⟩))))
   first | refine a9 (dU hq zg hg0 (sM (by unfold ab; rw [if_neg hn]) hgp) rfl) ?_ | refine aE (dU hq zg hg0 (sM (by unfold ab; rw [if_neg hn]) hgp) rfl) ?_
   try (simp [go_sem]; try (refine ⟨by kernel_rfl,?_⟩))
   (repeat (refine a6 q17x4 hX a7 rfl ?_; (simp [go_sem]; try (refine ⟨by kernel_rfl,?_⟩))))
set_option maxHeartbeats 4000000 in
theorem NC (p q : Int) (hp : -9223372036854775808 ≤ p ∧ p ≤ 9223372036854775807) (hq : -9223372036854775808 ≤ q ∧ q ≤ 9223372036854775807) (h0 : q ≠ 0) : Means false Tryz.prog 66 [ii p,ii q] (.tup [frZ (np p q) (nq p q),ii 0]) :=by
 refine aB false 13 [.cell 4 62,.tmp 5] Tryz.func66 rfl rfl rfl (by simp) (by decide) rfl fun X hX => ?_
 (repeat (refine a6 [0,1,4,5] hX a7 rfl ?_; (simp [go_sem])))
 refine a9 (MQ p hp) ?_
 try (simp [go_sem])
 refine a9 (MQ q hq) ?_
 try (simp [go_sem])
 refine a9 (K1 p q (l3 hp) (l3 hq) h0) ?_
 try (simp [go_sem])
 (repeat (refine a6 [0,1,4,5] hX a7 rfl ?_; (simp [go_sem])))
theorem fZ {a b : Int} (ha : rz a) (hb : rz b) (h : ¬ rz (a * b)) : Means false Tryz.prog 92 [bigZ a,bigZ b] (.tup [bigZ 0,ii 6]) :=by
 have :=JY a b ha hb
 rwa [res,r60,e60,if_neg h,if_neg h] at this
noncomputable def sumP (a b c d : Int) : Prop :=rz (a * b) ∧ rz (c * d) ∧ rz (a * b + c * d)
noncomputable instance (a b c d : Int) : Decidable (sumP a b c d) :=Classical.propDecidable _
set_option maxHeartbeats 4000000 in
theorem K2 (a b c d : Int) (ha : rz a) (hb : rz b) (hc : rz c) (hd : rz d) : Means false Tryz.prog 104 [bigZ a,bigZ b,bigZ c,bigZ d] (.tup [bigZ (if sumP a b c d then a * b + c * d else 0),ii (if sumP a b c d then 0 else 6)]) :=by
 refine aB false 38 [.cell 8 60,.tmp 9] Tryz.func104 rfl rfl rfl (by simp) (by decide) rfl fun X hX => ?_
 (repeat (refine a6 q17x3 hX a7 rfl ?_; (simp [go_sem])))
 by_cases h1 : rz (a * b)
 · refine a9 (eN ha hb h1 rfl) ?_
   try (simp [go_sem])
   (repeat (refine a6 q17x3 hX a7 rfl ?_; (simp [go_sem])))
   refine a8 (b :=false) (by simp [go_sem]) (fun h => by cases h) (fun _ => ?_)
   (repeat (refine a6 q17x3 hX a7 rfl ?_; (simp [go_sem])))
   by_cases h2 : rz (c * d)
   · refine a9 (eN hc hd h2 rfl) ?_
     try (simp [go_sem])
     (repeat (refine a6 q17x3 hX a7 rfl ?_; (simp [go_sem])))
     refine a8 (b :=false) (by simp [go_sem]) (fun h => by cases h) (fun _ => ?_)
     (repeat (refine a6 q17x3 hX a7 rfl ?_; (simp [go_sem])))
     refine a9 (MT _ _ h1 h2) ?_
     try (simp [go_sem])
     have e : sumP a b c d ↔ rz (a * b + c * d) :=⟨fun h => h.2.2,fun h => ⟨h1,h2,h⟩⟩
     (repeat (refine a6 q17x3 hX a7 rfl ?_; (simp [go_sem,e,r60,e60])))
   · have e : ¬ sumP a b c d :=fun h => h2 h.2.1
     refine a9 (fZ hc hd h2) ?_
     try (simp [go_sem])
     (repeat (refine a6 q17x3 hX a7 rfl ?_; (simp [go_sem])))
     refine a8 (b :=true) (by simp [go_sem]) (fun _ => ?_) (fun h => by cases h)
     (repeat (refine a6 q17x3 hX a7 rfl ?_; (simp [go_sem,e])))
 · have e : ¬ sumP a b c d :=fun h => h1 h.1
   refine a9 (fZ ha hb h1) ?_
   try (simp [go_sem])
   (repeat (refine a6 q17x3 hX a7 rfl ?_; (simp [go_sem])))
   refine a8 (b :=true) (by simp [go_sem]) (fun _ => ?_) (fun h => by cases h)
   (repeat (refine a6 q17x3 hX a7 rfl ?_; (simp [go_sem,e])))
noncomputable def resF (ok : Prop) [Decidable ok] (p q : Int) : AV :=if ok then .tup [frZ (np p q) (nq p q),ii 0] else .tup [frZ 0 0,ii 6]
theorem cU {ok : Prop} [Decidable ok] {p q : Int} (h : ok) : resF ok p q = .tup [frZ (np p q) (nq p q),ii 0] :=if_pos h
theorem cA {ok : Prop} [Decidable ok] {p q : Int} (h : ¬ ok) : resF ok p q = .tup [frZ 0 0,ii 6] :=if_neg h
theorem FG {a b c d : Int} (ha : rz a) (hb : rz b) (hc : rz c) (hd : rz d) (h : sumP a b c d) : Means false Tryz.prog 104 [bigZ a,bigZ b,bigZ c,bigZ d] (.tup [bigZ (a * b + c * d),ii 0]) :=by
 have :=K2 a b c d ha hb hc hd
 rwa [if_pos h,if_pos h] at this
theorem KX {a b c d : Int} (ha : rz a) (hb : rz b) (hc : rz c) (hd : rz d) (h : ¬ sumP a b c d) : Means false Tryz.prog 104 [bigZ a,bigZ b,bigZ c,bigZ d] (.tup [bigZ 0,ii 6]) :=by
 have :=K2 a b c d ha hb hc hd
 rwa [if_neg h,if_neg h] at this
theorem bZ (p q e f : Int) (h : ¬ (e = 0 ∧ f = 0)) : Means false Tryz.prog 93 [bigZ p,ii e,bigZ q,ii f] (.tup [frZ 0 0,ii 6]) :=by
 refine aB false 22 [.cell 8 62,.tmp 9] Tryz.func93 rfl rfl rfl (by simp) (by decide) rfl fun X hX => ?_
 (repeat (refine a6 q17x8 hX a7 rfl ?_; (simp [go_sem])))
 refine a8 (b :=true) (by simp [go_sem]; omega) (fun _ => ?_) (fun h => by cases h)
 (repeat (refine a6 q17x8 hX a7 rfl ?_; (simp [go_sem])))
theorem j9 (p q : Int) (hp : rz p) (hq : rz q) (h0 : q ≠ 0) : Means false Tryz.prog 93 [bigZ p,ii 0,bigZ q,ii 0] (.tup [frZ (np p q) (nq p q),ii 0]) :=by
 refine aB false 22 [.cell 8 62,.tmp 9] Tryz.func93 rfl rfl rfl (by simp) (by decide) rfl fun X hX => ?_
 (repeat (refine a6 q17x8 hX a7 rfl ?_; (simp [go_sem])))
 refine a8 (b :=false) (by simp [go_sem]) (fun h => by cases h) (fun _ => ?_)
 (repeat (refine a6 q17x8 hX a7 rfl ?_; (simp [go_sem])))
 refine a9 (K1 p q hp hq h0) ?_
 try (simp [go_sem])
 (repeat (refine a6 q17x8 hX a7 rfl ?_; (simp [go_sem])))
set_option maxHeartbeats 4000000 in
set_option maxRecDepth 20000 in
theorem JI (a b c d : Int) (hab : rf a b) (hcd : rf c d) : Means false Tryz.prog 73 [frZ a b,frZ c d] (resF (sumP a d c b ∧ rz (b * d)) (a * d + c * b) (b * d)) :=by
 have ha :=hab.1
 have hb :=hab.2.1
 have hc :=hcd.1
 have hd :=hcd.2.1
 have hb0 :=hab.2.2.1
 have hd0 :=hcd.2.2.1
 have hbd : b * d ≠ 0 :=Int.mul_ne_zero (by omega) (by omega)
 refine aB false 46 [.cell 4 62,.tmp 5] Tryz.func73 rfl rfl rfl (by simp) (by decide) rfl fun X hX => ?_
 (repeat (refine a6 q17x1 hX a7 rfl ?_; (simp [go_sem])))
 refine a9 (bO a b hab) ?_
 try (simp [go_sem])
 refine aJ (fun hg => bO c d hcd) ?_
 try (simp [go_sem])
 refine a8 (b :=false) (by simp [go_sem]) (fun h => by cases h) (fun _ => ?_)
 (repeat (refine a6 q17x1 hX a7 rfl ?_; (simp [go_sem])))
 by_cases h1 : sumP a d c b
 · by_cases h2 : rz (b * d)
   · rw [cU ⟨h1,h2⟩]
     refine a9 (FG ha hd hc hb h1) ?_
     try (simp [go_sem])
     (repeat (refine a6 q17x1 hX a7 rfl ?_; (simp [go_sem])))
     refine a9 (eN hb hd h2 rfl) ?_
     try (simp [go_sem])
     (repeat (refine a6 q17x1 hX a7 rfl ?_; (simp [go_sem])))
     refine a9 (j9 _ _ h1.2.2 h2 hbd) ?_
     try (simp [go_sem])
     (repeat (refine a6 q17x1 hX a7 rfl ?_; (simp [go_sem])))
   · rw [cA fun h => h2 h.2]
     refine a9 (FG ha hd hc hb h1) ?_
     try (simp [go_sem])
     (repeat (refine a6 q17x1 hX a7 rfl ?_; (simp [go_sem])))
     refine a9 (fZ hb hd h2) ?_
     try (simp [go_sem])
     (repeat (refine a6 q17x1 hX a7 rfl ?_; (simp [go_sem])))
     refine a9 (bZ (a * d + c * b) 0 0 6 (by decide)) ?_
     try (simp [go_sem])
     (repeat (refine a6 q17x1 hX a7 rfl ?_; (simp [go_sem])))
 · rw [cA fun h => h1 h.1]
   refine a9 (KX ha hd hc hb h1) ?_
   try (simp [go_sem])
   (repeat (refine a6 q17x1 hX a7 rfl ?_; (simp [go_sem])))
   by_cases h2 : rz (b * d)
   · refine a9 (eN hb hd h2 rfl) ?_
     try (simp [go_sem])
     (repeat (refine a6 q17x1 hX a7 rfl ?_; (simp [go_sem])))
     refine a9 (bZ 0 (b * d) 6 0 (by decide)) ?_
     try (simp [go_sem])
     (repeat (refine a6 q17x1 hX a7 rfl ?_; (simp [go_sem])))
   · refine a9 (fZ hb hd h2) ?_
     try (simp [go_sem])
     (repeat (refine a6 q17x1 hX a7 rfl ?_; (simp [go_sem])))
     refine a9 (bZ 0 0 6 6 (by decide)) ?_
     try (simp [go_sem])
     (repeat (refine a6 q17x1 hX a7 rfl ?_; (simp [go_sem])))
set_option maxHeartbeats 4000000 in
set_option maxRecDepth 20000 in
theorem MA (a b c d : Int) (hab : rf a b) (hcd : rf c d) : Means false Tryz.prog 65 [frZ a b,frZ c d] (resF (rz (a * c) ∧ rz (b * d)) (a * c) (b * d)) :=by
 have ha :=hab.1
 have hb :=hab.2.1
 have hc :=hcd.1
 have hd :=hcd.2.1
 have hb0 :=hab.2.2.1
 have hd0 :=hcd.2.2.1
 have hbd : b * d ≠ 0 :=Int.mul_ne_zero (by omega) (by omega)
 refine aB false 42 [.cell 4 62,.tmp 5] Tryz.func65 rfl rfl rfl (by simp) (by decide) rfl fun X hX => ?_
 (repeat (refine a6 q17x1 hX a7 rfl ?_; (simp [go_sem])))
 refine a9 (bO a b hab) ?_
 try (simp [go_sem])
 refine aJ (fun hg => bO c d hcd) ?_
 try (simp [go_sem])
 refine a8 (b :=false) (by simp [go_sem]) (fun h => by cases h) (fun _ => ?_)
 (repeat (refine a6 q17x1 hX a7 rfl ?_; (simp [go_sem])))
 by_cases h1 : rz (a * c)
 · by_cases h2 : rz (b * d)
   · rw [cU ⟨h1,h2⟩]
     refine a9 (eN ha hc h1 rfl) ?_
     try (simp [go_sem])
     (repeat (refine a6 q17x1 hX a7 rfl ?_; (simp [go_sem])))
     refine a9 (eN hb hd h2 rfl) ?_
     try (simp [go_sem])
     (repeat (refine a6 q17x1 hX a7 rfl ?_; (simp [go_sem])))
     refine a9 (j9 _ _ h1 h2 hbd) ?_
     try (simp [go_sem])
     (repeat (refine a6 q17x1 hX a7 rfl ?_; (simp [go_sem])))
   · rw [cA fun h => h2 h.2]
     refine a9 (eN ha hc h1 rfl) ?_
     try (simp [go_sem])
     (repeat (refine a6 q17x1 hX a7 rfl ?_; (simp [go_sem])))
     refine a9 (fZ hb hd h2) ?_
     try (simp [go_sem])
     (repeat (refine a6 q17x1 hX a7 rfl ?_; (simp [go_sem])))
     refine a9 (bZ (a * c) 0 0 6 (by decide)) ?_
     try (simp [go_sem])
     (repeat (refine a6 q17x1 hX a7 rfl ?_; (simp [go_sem])))
 · rw [cA fun h => h1 h.1]
   refine a9 (fZ ha hc h1) ?_
   try (simp [go_sem])
   (repeat (refine a6 q17x1 hX a7 rfl ?_; (simp [go_sem])))
   by_cases h2 : rz (b * d)
   · refine a9 (eN hb hd h2 rfl) ?_
     try (simp [go_sem])
     (repeat (refine a6 q17x1 hX a7 rfl ?_; (simp [go_sem])))
     refine a9 (bZ 0 (b * d) 6 0 (by decide)) ?_
     try (simp [go_sem])
     (repeat (refine a6 q17x1 hX a7 rfl ?_; (simp [go_sem])))
   · refine a9 (fZ hb hd h2) ?_
     try (simp [go_sem])
     (repeat (refine a6 q17x1 hX a7 rfl ?_; (simp [go_sem])))
     refine a9 (bZ 0 0 6 6 (by decide)) ?_
     try (simp [go_sem])
     (repeat (refine a6 q17x1 hX a7 rfl ?_; (simp [go_sem])))
set_option maxHeartbeats 4000000 in
set_option maxRecDepth 20000 in
theorem MC (a b c d : Int) (hab : rf a b) (hcd : rf c d) (h0 : c ≠ 0) : Means false Tryz.prog 91 [frZ a b,frZ c d] (resF (rz (a * d) ∧ rz (b * c)) (a * d) (b * c)) :=by
 have ha :=hab.1
 have hb :=hab.2.1
 have hc :=hcd.1
 have hd :=hcd.2.1
 have hb0 :=hab.2.2.1
 have hd0 :=hcd.2.2.1
 have hbd : b * d ≠ 0 :=Int.mul_ne_zero (by omega) (by omega)
 refine aB false 49 [.cell 4 62,.tmp 5] Tryz.func91 rfl rfl rfl (by simp) (by decide) rfl fun X hX => ?_
 (repeat (refine a6 q17x2 hX a7 rfl ?_; (simp [go_sem])))
 refine a9 (bO a b hab) ?_
 try (simp [go_sem])
 refine aJ (fun hg => bO c d hcd) ?_
 try (simp [go_sem])
 have hsc : ¬ sg c = 0 :=by rcases aD c with h | h | h <;> omega
 refine a8 (b :=false) (by simp [go_sem]) (fun h => by cases h) (fun _ => ?_)
 (repeat (refine a6 q17x2 hX a7 rfl ?_; (simp [go_sem])))
 refine a8 (b :=false) (by simp [go_sem,hsc]) (fun h => by cases h) (fun _ => ?_)
 (repeat (refine a6 q17x2 hX a7 rfl ?_; (simp [go_sem])))
 by_cases h1 : rz (a * d)
 · by_cases h2 : rz (b * c)
   · rw [cU ⟨h1,h2⟩]
     refine a9 (eN ha hd h1 rfl) ?_
     try (simp [go_sem])
     (repeat (refine a6 q17x2 hX a7 rfl ?_; (simp [go_sem])))
     refine a9 (eN hb hc h2 rfl) ?_
     try (simp [go_sem])
     (repeat (refine a6 q17x2 hX a7 rfl ?_; (simp [go_sem])))
     refine a9 (j9 _ _ h1 h2 (Int.mul_ne_zero (by omega) h0)) ?_
     try (simp [go_sem])
     (repeat (refine a6 q17x2 hX a7 rfl ?_; (simp [go_sem])))
   · rw [cA fun h => h2 h.2]
     refine a9 (eN ha hd h1 rfl) ?_
     try (simp [go_sem])
     (repeat (refine a6 q17x2 hX a7 rfl ?_; (simp [go_sem])))
     refine a9 (fZ hb hc h2) ?_
     try (simp [go_sem])
     (repeat (refine a6 q17x2 hX a7 rfl ?_; (simp [go_sem])))
     refine a9 (bZ (a * d) 0 0 6 (by decide)) ?_
     try (simp [go_sem])
     (repeat (refine a6 q17x2 hX a7 rfl ?_; (simp [go_sem])))
 · rw [cA fun h => h1 h.1]
   refine a9 (fZ ha hd h1) ?_
   try (simp [go_sem])
   (repeat (refine a6 q17x2 hX a7 rfl ?_; (simp [go_sem])))
   by_cases h2 : rz (b * c)
   · refine a9 (eN hb hc h2 rfl) ?_
     try (simp [go_sem])
     (repeat (refine a6 q17x2 hX a7 rfl ?_; (simp [go_sem])))
     refine a9 (bZ 0 (b * c) 6 0 (by decide)) ?_
     try (simp [go_sem])
     (repeat (refine a6 q17x2 hX a7 rfl ?_; (simp [go_sem])))
   · refine a9 (fZ hb hc h2) ?_
     try (simp [go_sem])
     (repeat (refine a6 q17x2 hX a7 rfl ?_; (simp [go_sem])))
     refine a9 (bZ 0 0 6 6 (by decide)) ?_
     try (simp [go_sem])
     (repeat (refine a6 q17x2 hX a7 rfl ?_; (simp [go_sem])))
theorem KY {p q : Int} (h : rf p q) : rf (-p) q :=⟨j3 h.1,h.2.1,h.2.2.1,by rw [Int.neg_gcd]; exact h.2.2.2⟩
set_option maxHeartbeats 4000000 in
theorem M8 (a b c d : Int) (hab : rf a b) (hcd : rf c d) : Means false Tryz.prog 72 [frZ a b,frZ c d] (resF (sumP a d (-c) b ∧ rz (b * d)) (a * d + -c * b) (b * d)) :=by
 have hA :=JI a b (-c) d hab (KY hcd)
 by_cases h : sumP a d (-c) b ∧ rz (b * d)
 · rw [cU h] at hA ⊢
   refine aB false 25 [.cell 4 62,.tmp 5] Tryz.func72 rfl rfl rfl (by simp) (by decide) rfl fun X hX => ?_
   (repeat (refine a6 q17x9 hX a7 rfl ?_; (simp [go_sem]; try (refine ⟨by kernel_rfl,?_⟩))))
   first | refine a9 (bO a b hab) ?_ | refine aE (bO a b hab) ?_
   try (simp [go_sem]; try (refine ⟨by kernel_rfl,?_⟩))
   first | refine aJ (fun hg => bO c d hcd) ?_ | refine aZ (fun hg => bO c d hcd) ?_
   try (simp [go_sem]; try (refine ⟨by kernel_rfl,?_⟩))
   refine a8 (b :=false) (by simp [go_sem]) (fun h => by cases h) (fun _ => ?_)
   (repeat (refine a6 q17x9 hX a7 rfl ?_; (simp [go_sem]; try (refine ⟨by kernel_rfl,?_⟩))))
   first | refine a9 (mZ c hcd.1) ?_ | refine aE (mZ c hcd.1) ?_
   try (simp [go_sem]; try (refine ⟨by kernel_rfl,?_⟩))
   first | refine a9 (hA) ?_ | refine aE (hA) ?_
   try (simp [go_sem]; try (refine ⟨by kernel_rfl,?_⟩))
   (repeat (refine a6 q17x9 hX a7 rfl ?_; (simp [go_sem]; try (refine ⟨by kernel_rfl,?_⟩))))
 · rw [cA h] at hA ⊢
   refine aB false 25 [.cell 4 62,.tmp 5] Tryz.func72 rfl rfl rfl (by simp) (by decide) rfl fun X hX => ?_
   (repeat (refine a6 q17x9 hX a7 rfl ?_; (simp [go_sem]; try (refine ⟨by kernel_rfl,?_⟩))))
   first | refine a9 (bO a b hab) ?_ | refine aE (bO a b hab) ?_
   try (simp [go_sem]; try (refine ⟨by kernel_rfl,?_⟩))
   first | refine aJ (fun hg => bO c d hcd) ?_ | refine aZ (fun hg => bO c d hcd) ?_
   try (simp [go_sem]; try (refine ⟨by kernel_rfl,?_⟩))
   refine a8 (b :=false) (by simp [go_sem]) (fun h => by cases h) (fun _ => ?_)
   (repeat (refine a6 q17x9 hX a7 rfl ?_; (simp [go_sem]; try (refine ⟨by kernel_rfl,?_⟩))))
   first | refine a9 (mZ c hcd.1) ?_ | refine aE (mZ c hcd.1) ?_
   try (simp [go_sem]; try (refine ⟨by kernel_rfl,?_⟩))
   first | refine a9 (hA) ?_ | refine aE (hA) ?_
   try (simp [go_sem]; try (refine ⟨by kernel_rfl,?_⟩))
   (repeat (refine a6 q17x9 hX a7 rfl ?_; (simp [go_sem]; try (refine ⟨by kernel_rfl,?_⟩))))
end Go.Proofs.YtknbcehhjffndaaGreat

