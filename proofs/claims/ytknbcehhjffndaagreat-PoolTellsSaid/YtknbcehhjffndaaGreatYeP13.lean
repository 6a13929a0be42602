/-
  Lemmas for the statement at the top.
-/
import Derived.Test.YtknbcehhjffndaaGreatYeP12
import Derived.Test.YtknbcehhjffndaaGreatYeP8
import Derived.Test.YtknbcehhjffndaaGreatYeP9
set_option linter.all false
namespace Go.Ab
def q9x0 : List Nat :=[0,2,3,4,5,6,7,8,9,10,11,12,13,15,18,26,35,36,37,38,56,92,108,114,115,116,117]
def q9x1 : List Nat :=[0,1,2,3,4,5,6,7,8,9,10,11,12,13,21]
def q9x2 : List Nat :=[0,1,2,3,4,5,6,7,8,9,10,12,13,15,34,43]
def q9x3 : List Nat :=[0,1,2,3,4,5,6,8,11,21,25,29]
def q9x4 : List Nat :=[0,1,2,3,4,5,6,7,8,16,21,42]
def q9x5 : List Nat :=[0,1,2,3,4,5,6,7,8,9,17]
def q9x6 : List Nat :=[0,1,2,3,4,5,6,7,8,9,17,22]
def q9x7 : List Nat :=[0,1,2,3,4,5,6,7,9,17,25]
def q9x8 : List Nat :=[0,1,2,3,4,6,7,8]
attribute [go_sem] q9x0 q9x1 q9x2 q9x3 q9x4 q9x5 q9x6 q9x7 q9x8
end Go.Ab
namespace Go.Proofs.YtknbcehhjffndaaGreat
open Go.RowKit Go.Ab
attribute [local irreducible] AWP Go.Ab.Sub Means MeansH CallK CallG CallT CallGT CallU
theorem sab {s t x : Int} (h : x = s * t) (h0 : 0 ≤ t) (hs : s = -1 ∨ (s = 0 ∧ t = 0) ∨ s = 1) : ab x = t ∧ (x ≠ 0 → s = sg x) :=by
 subst h
 rcases hs with rfl | ⟨rfl,rfl⟩ | rfl
 · rcases aD (-1 * t) with h | h | h <;> refine ⟨by omega,fun _ => by omega⟩
 · simp [ab]
 · rcases aD (1 * t) with h | h | h <;> refine ⟨by omega,fun _ => by omega⟩
set_option maxHeartbeats 8000000 in
set_option maxRecDepth 20000 in
theorem LK (z w : Int) (hz : rz z) (hw : rz w) (h0 : w ≠ 0) : Means false Tryz.prog 85 [bigZ z,bigZ w] (.tup [bigZ (dq z w),bigZ (dr z w),ii 0]) :=by
 have hlz :=bP hz
 have hlw :=bP hw
 have hza :=aT z
 have hD : 0 < ab w :=by rcases aD w with h | h | h <;> omega
 have hs : sg w ≠ 0 :=by rcases aD w with h | h | h <;> omega
 have hmm : -1 ≤ sg z * sg w ∧ sg z * sg w ≤ 1 :=by rw [← iL]; exact fA _
 have hww :=w64 (x :=sg z * sg w) (by omega) (by omega)
 have hov :=AP (dg (ab z)) (dg (ab w)) (by omega) (by omega) (aI _) (aI _) (by rw [aL]; exact hD)
 rw [aL,aL] at hov
 have h1 :=Int.emod_nonneg (ab z) (show ab w ≠ 0 by omega)
 have h2 :=Int.emod_lt_of_pos (ab z) hD
 have h3 :=Int.ediv_nonneg hza (show 0 ≤ ab w by omega)
 have h4 :=Int.ediv_le_self (ab w) hza
 obtain ⟨df1,df2⟩ :=sK (z :=z) h0
 have hlq : (dg (ab z / ab w)).length ≤ 60 :=Nat.le_trans (aV h4) hlz
 have hlr : (dg (ab z % ab w)).length ≤ 60 :=Nat.le_trans (aV (by omega)) hlw
 have hq1 : (dg (ab z / ab w + 1)).length ≤ 61 :=by
  rw [aP] at hlq ⊢
  have : (1048576 : Int) ^ 61 = 1048576 ^ 60 * 1048576 :=Int.pow_succ _ _
  omega
 have hlm : (dg (ab w - ab z % ab w)).length ≤ 60 :=Nat.le_trans (aV (by omega)) hlw
 have hrl : (dg (ab z % ab w)).length = 0 ↔ ab z % ab w = 0 :=by rw [List.length_eq_zero_iff,c8]; omega
 have hzq : z = 0 → ab z / ab w = 0 ∧ ab z % ab w = 0 :=fun h => by subst h; rw [show ab 0 = 0 from rfl]; simp
 by_cases hc : sg z * sg w < 0 ∧ ab z % ab w ≠ 0
 · obtain ⟨e1,e2⟩ :=df1 hc
   obtain ⟨hc1,hc2⟩ :=hc
   have cp :=AR (dg (ab z / ab w)) [1] (by omega) (by simp) (aI _) (aN.2 ⟨by omega,cJ⟩)
   rw [b6 h3,show val [1] = 1 from rfl] at cp
   have cn :=lB (dg (ab w)) (dg (ab z % ab w)) (by omega) (by omega) (aI _) (aI _) (by rw [aL,b6 h1]; omega)
   rw [aL,b6 h1] at cn
   obtain ⟨p1,p2⟩ :=sab (s :=-1) (t :=ab z / ab w + 1) (x :=dq z w) (by rw [e1]; omega) (by omega) (.inl rfl)
   obtain ⟨p3,p4⟩ :=sab (s :=sg w) (t :=ab w - ab z % ab w) (x :=dr z w) e2 (by omega) (by rcases aD w with h | h | h <;> omega)
   have m1 :=eQ (-1) (dq z w) (dg (ab z / ab w + 1)) (by omega) (aI _) (by rw [b6 (by omega),p1]) p2
   have m2 :=eQ (sg w) (dr z w) (dg (ab w - ab z % ab w)) (by omega) (aI _) (by rw [b6 (by omega),p3]) p4
   have hn1 : ¬ 0 ≤ sg z * sg w :=by omega
   have hn2 : ¬ (dg (ab z % ab w)).length = 0 :=fun q => hc2 (hrl.1 q)
   have hn3 : ¬ dg (ab z % ab w) = [] :=fun q => hn2 (by rw [q]; rfl)
   have cK :=qW (E :=3) (k :=1) [il (dg (ab z / ab w))] (es :=[ii 1]) (rest :=[]) rfl (by simp [AV.zone]) (by simp) rfl cp
   generalize dq z w = x at *
   generalize dr z w = y at *
   generalize dg (ab z / ab w) = Lq at *
   generalize dg (ab z % ab w) = Lr at *
   generalize dg (ab z / ab w + 1) = Lp at *
   generalize dg (ab w - ab z % ab w) = Lm at *
   refine aB false 65 [.cell 4 60,.cell 5 60,.tmp 6] Tryz.func85 rfl rfl rfl (by simp) (by decide) rfl fun X hX => ?_
   (repeat (refine a6 q9x4 hX a7 rfl ?_; (simp [go_sem]; try (refine ⟨by kernel_rfl,?_⟩))))
   first | refine a9 (aK z hz) ?_ | refine aE (aK z hz) ?_
   try (simp [go_sem]; try (refine ⟨by kernel_rfl,?_⟩))
   first | refine aJ (fun hg => aK w hw) ?_ | refine aZ (fun hg => aK w hw) ?_
   try (simp [go_sem]; try (refine ⟨by kernel_rfl,?_⟩))
   refine a8 (b :=false) (by simp [go_sem]) (fun h => by cases h) (fun _ => ?_)
   (repeat (refine a6 q9x4 hX a7 rfl ?_; (simp [go_sem]; try (refine ⟨by kernel_rfl,?_⟩))))
   refine a8 (b :=false) (by simp [go_sem,hs]) (fun h => by cases h) (fun _ => ?_)
   (repeat (refine a6 q9x4 hX a7 rfl ?_; (simp [go_sem]; try (refine ⟨by kernel_rfl,?_⟩))))
   first | refine a9 (hov) ?_ | refine aE (hov) ?_
   try (simp [go_sem]; try (refine ⟨by kernel_rfl,?_⟩))
   (repeat (refine a6 q9x4 hX a7 rfl ?_; (simp [go_sem,hww,hn1]; try (refine ⟨by kernel_rfl,?_⟩))))
   refine a8 (b :=false) (by simp [go_sem,hww,hn1,hn2,hn3]; try omega) (fun h => by cases h) (fun _ => ?_)
   (repeat (refine a6 q9x4 hX a7 rfl ?_; (simp [go_sem]; try (refine ⟨by kernel_rfl,?_⟩))))
   refine aO [4] cK (by simp [go_sem]) ?_
   try (simp [go_sem]; try (refine ⟨by kernel_rfl,?_⟩))
   first | refine a9 (m1) ?_ | refine aE (m1) ?_
   try (simp [go_sem]; try (refine ⟨by kernel_rfl,?_⟩))
   first | refine a9 (cn) ?_ | refine aE (cn) ?_
   try (simp [go_sem]; try (refine ⟨by kernel_rfl,?_⟩))
   first | refine a9 (m2) ?_ | refine aE (m2) ?_
   try (simp [go_sem]; try (refine ⟨by kernel_rfl,?_⟩))
   (repeat (refine a6 q9x4 hX a7 rfl ?_; (simp [go_sem]; try (refine ⟨by kernel_rfl,?_⟩))))
 · obtain ⟨e1,e2⟩ :=df2 hc
   have hss : sg z * sg w = -1 ∨ (sg z * sg w = 0 ∧ ab z / ab w = 0) ∨ sg z * sg w = 1 :=by
    rcases aD z with h | h | h
    · rcases aD w with h' | h' | h' <;> rw [h.1,h'.1] <;> omega
    · right; left; exact ⟨by rw [h.1]; simp,(hzq h.2.1).1⟩
    · rcases aD w with h' | h' | h' <;> rw [h.1,h'.1] <;> omega
   obtain ⟨p1,p2⟩ :=sab (s :=sg z * sg w) (t :=ab z / ab w) (x :=dq z w) e1 h3 hss
   obtain ⟨p3,p4⟩ :=sab (s :=sg z) (t :=ab z % ab w) (x :=dr z w) e2 h1 (by
    rcases aD z with h | h | h
    · omega
    · have :=hzq h.2.1; omega
    · omega)
   have m1 :=eQ (sg z * sg w) (dq z w) (dg (ab z / ab w)) (by omega) (aI _) (by rw [b6 h3,p1]) p2
   have m2 :=eQ (sg z) (dr z w) (dg (ab z % ab w)) (by omega) (aI _) (by rw [b6 h1,p3]) p4
   have hcb : 0 ≤ sg z * sg w ∨ (dg (ab z % ab w)).length = 0 :=by
    rcases Int.lt_or_le (sg z * sg w) 0 with q | q
    · right; exact hrl.2 (Classical.byContradiction fun r => hc ⟨q,r⟩)
    · exact .inl q
   generalize dq z w = x at *
   generalize dr z w = y at *
   generalize dg (ab z / ab w) = Lq at *
   generalize dg (ab z % ab w) = Lr at *
   refine aB false 65 [.cell 4 60,.cell 5 60,.tmp 6] Tryz.func85 rfl rfl rfl (by simp) (by decide) rfl fun X hX => ?_
   (repeat (refine a6 q9x4 hX a7 rfl ?_; (simp [go_sem]; try (refine ⟨by kernel_rfl,?_⟩))))
   first | refine a9 (aK z hz) ?_ | refine aE (aK z hz) ?_
   try (simp [go_sem]; try (refine ⟨by kernel_rfl,?_⟩))
   first | refine aJ (fun hg => aK w hw) ?_ | refine aZ (fun hg => aK w hw) ?_
   try (simp [go_sem]; try (refine ⟨by kernel_rfl,?_⟩))
   refine a8 (b :=false) (by simp [go_sem]) (fun h => by cases h) (fun _ => ?_)
   (repeat (refine a6 q9x4 hX a7 rfl ?_; (simp [go_sem]; try (refine ⟨by kernel_rfl,?_⟩))))
   refine a8 (b :=false) (by simp [go_sem,hs]) (fun h => by cases h) (fun _ => ?_)
   (repeat (refine a6 q9x4 hX a7 rfl ?_; (simp [go_sem]; try (refine ⟨by kernel_rfl,?_⟩))))
   first | refine a9 (hov) ?_ | refine aE (hov) ?_
   try (simp [go_sem]; try (refine ⟨by kernel_rfl,?_⟩))
   (repeat (refine a6 q9x4 hX a7 rfl ?_; (simp [go_sem,hww]; try (refine ⟨by kernel_rfl,?_⟩))))
   refine a8 (b :=true) (by rcases hcb with q | q <;> simp [go_sem,hww,q]; try (right; exact List.length_eq_zero_iff.1 q)) (fun _ => ?_) (fun h => by cases h)
   (repeat (refine a6 q9x4 hX a7 rfl ?_; (simp [go_sem,hww]; try (refine ⟨by kernel_rfl,?_⟩))))
   first | refine a9 (m1) ?_ | refine aE (m1) ?_
   try (simp [go_sem,hww]; try (refine ⟨by kernel_rfl,?_⟩))
   first | refine a9 (m2) ?_ | refine aE (m2) ?_
   try (simp [go_sem]; try (refine ⟨by kernel_rfl,?_⟩))
   (repeat (refine a6 q9x4 hX a7 rfl ?_; (simp [go_sem]; try (refine ⟨by kernel_rfl,?_⟩))))
end Go.Proofs.YtknbcehhjffndaaGreat

namespace Go.Proofs.YtknbcehhjffndaaGreat
open Go.RowKit Go.Ab
attribute [local irreducible] AWP Go.Ab.Sub Means MeansH CallK CallG CallT CallGT CallU
end Go.Proofs.YtknbcehhjffndaaGreat

namespace Go.Proofs.YtknbcehhjffndaaGreat
open Go.RowKit Go.Ab
attribute [local irreducible] AWP Go.Ab.Sub Means MeansH CallK CallG CallT CallGT CallU
theorem v6 (z : Int) : ab z = (z.natAbs : Int) :=by unfold ab; split <;> omega
theorem LL {n : Nat} (h : n ≠ 0) : sg (n : Int) = 1 :=by rcases aD (n : Int) with q | q | q <;> omega
theorem MY (n : Nat) : ab (n : Int) = n :=by unfold ab; rw [if_neg (by omega)]
set_option maxHeartbeats 4000000 in
set_option maxRecDepth 20000 in
theorem zF (z w : Int) (hz : rz z) (hw : rz w) : Means false Tryz.prog 81 [bigZ z,bigZ w] (.tup [bigZ (Int.gcd z w : Int),ii 0]) :=by
 have hlz :=bP hz
 have hlw :=bP hw
 rw [v6] at hlz hlw
 have hzz : bigZ z = big2 (sg z) (dg (z.natAbs : Int)) :=by show big2 _ (dg (ab z)) = _; rw [v6]
 have hww : bigZ w = big2 (sg w) (dg (w.natAbs : Int)) :=by show big2 _ (dg (ab w)) = _; rw [v6]
 have hg : Int.gcd z w = Nat.gcd z.natAbs w.natAbs :=rfl
 rw [hg]
 have r1 :=aK z hz
 have r2 :=aK w hw
 rw [hzz] at r1
 rw [hww] at r2
 rw [hzz,hww]
 have hsz :=sg z
 generalize sg z = s1 at *
 generalize sg w = s2 at *
 generalize z.natAbs = m at *
 generalize w.natAbs = n at *
 refine aB false 36 [.cell 4 60,.tmp 5] Tryz.func81 rfl rfl rfl (by simp) (by decide) rfl fun X hX => ?_
 (repeat (refine a6 q9x7 hX a7 rfl ?_; (simp [go_sem])))
 refine a9 (r1) ?_
 try (simp [go_sem])
 refine aJ (fun hg => r2) ?_
 try (simp [go_sem])
 refine a8 (b :=false) (by simp [go_sem]) (fun h => by cases h) (fun _ => ?_)
 (repeat (refine a6 q9x7 hX a7 rfl ?_; (simp [go_sem])))
 refine aF (fun x : Nat × Nat => ⟨mkE [(4,.el 2 2 0 0),(6,il (dg (x.1 : Int))),(7,il (dg (x.2 : Int)))],[.row ⟨60,2,[big2 s1 (dg (m : Int))]⟩,.row ⟨60,2,[big2 s2 (dg (n : Int))]⟩,.row ⟨60,2,[.agg [ii 0,.nil]]⟩]⟩)
  (fun x => (dg (x.1 : Int)).length ≤ 60 ∧ (dg (x.2 : Int)).length ≤ 60 ∧ Nat.gcd x.1 x.2 = Nat.gcd m n) (fun x => x.2) (m,n) ?_ ?_ ?_
 · refine aA _ [.old 0 ⟨60,2,[big2 s1 (dg (m : Int))]⟩,.old 1 ⟨60,2,[big2 s2 (dg (n : Int))]⟩,.old 2 ⟨60,2,[.agg [ii 0,.nil]]⟩] (by simp [go_sem]) ?_
   simp [go_sem]
 · exact ⟨hlz,hlw,rfl⟩
 · rintro ⟨x,y⟩ ⟨h1,h2,h3⟩
   simp only [] at h1 h2 h3
   have hy : 0 < (dg (y : Int)).length ↔ ¬ y = 0 :=by rw [List.length_pos_iff,Ne,c8]; omega
   (repeat (refine a6 q9x7 hX a7 rfl ?_; (simp [go_sem])))
   refine a8 (b :=decide (y ≠ 0)) (by simp [go_sem,hy]) (fun hd => ?_) (fun hd => ?_)
   · simp only [decide_eq_true_eq] at hd
     have co :=AP (dg (x : Int)) (dg (y : Int)) (by omega) (by omega) (aI _) (aI _) (by rw [b6 (by omega)]; omega)
     rw [b6 (by omega),b6 (by omega)] at co
     have em : (x : Int) % (y : Int) = ((x % y : Nat) : Int) :=by omega
     rw [em] at co
     have hlt :=Nat.mod_lt x (show 0 < y by omega)
     have hle : (dg ((x % y : Nat) : Int)).length ≤ 60 :=Nat.le_trans (aV (by omega)) h2
     have hgc : Nat.gcd y (x % y) = Nat.gcd m n :=by rw [← h3,Nat.gcd_comm x y,Nat.gcd_rec y x,Nat.gcd_comm]
     generalize x % y = z' at *
     (repeat (refine a6 q9x7 hX a7 rfl ?_; (simp [go_sem])))
     refine a9 (co) ?_
     try (simp [go_sem])
     (repeat (refine a6 q9x7 hX a7 rfl ?_; (simp [go_sem])))
     refine ⟨y,z',⟨h2,hle,hgc⟩,hlt,?_⟩
     refine aA _ [.old 0 ⟨60,2,[big2 s1 (dg (m : Int))]⟩,.old 1 ⟨60,2,[big2 s2 (dg (n : Int))]⟩,.old 2 ⟨60,2,[.agg [ii 0,.nil]]⟩] (by simp [go_sem]) ?_
     simp [go_sem]
   · have hy0 : y = 0 :=by simpa using hd
     subst hy0
     rw [Nat.gcd_zero_right] at h3
     rw [← h3]
     have cm :=nU 1 (dg (x : Int)) (by omega) (aI _)
     rw [b6 (by omega)] at cm
     have e : big2 (if (x : Int) = 0 then 0 else 1) (dg (x : Int)) = bigZ (x : Int) :=by
      show _ = big2 (sg (x : Int)) (dg (ab (x : Int)))
      rw [MY]
      by_cases q : x = 0
      · subst q; rfl
      · rw [if_neg (by omega),LL q]
     rw [e] at cm
     (repeat (refine a6 q9x7 hX a7 rfl ?_; (simp [go_sem])))
     refine a9 (cm) ?_
     try (simp [go_sem])
     (repeat (refine a6 q9x7 hX a7 rfl ?_; (simp [go_sem])))
end Go.Proofs.YtknbcehhjffndaaGreat

namespace Go.Proofs.YtknbcehhjffndaaGreat
open Go.RowKit Go.Ab
attribute [local irreducible] AWP Go.Ab.Sub Means MeansH CallK CallG CallT CallGT CallU
theorem iD {z w q r : Int} (hz : rz z) (hw : rz w) (h0 : w ≠ 0) (hq : dq z w = q) (hr : dr z w = r) : Means false Tryz.prog 85 [bigZ z,bigZ w] (.tup [bigZ q,bigZ r,ii 0]) :=by
 have :=LK z w hz hw h0
 rwa [hq,hr] at this
theorem BD {z w g : Int} (hz : rz z) (hw : rz w) (hg : (Int.gcd z w : Int) = g) : Means false Tryz.prog 81 [bigZ z,bigZ w] (.tup [bigZ g,ii 0]) :=by
 have :=zF z w hz hw
 rwa [hg] at this
theorem v7 (x : Int) : rz (r60 x) :=by
 unfold r60
 by_cases h : rz x
 · rwa [if_pos h]
 · rw [if_neg h]; exact I4 (by decide)
set_option maxHeartbeats 4000000 in
set_option maxRecDepth 20000 in
theorem xW (s1 : Int) (L1 : List Int) (l1 : L1.length ≤ 9223372036854775807) (s2 : Int) (L2 : List Int) (l2 : L2.length ≤ 9223372036854775807) : Means false Tryz.prog 49 [frac4 s1 L1 s2 L2] (bb (decide (isF s1 L1 s2 L2))) :=by
 refine aB false 33 [.tmp 2] Tryz.func49 rfl rfl rfl (by simp) (by decide) rfl fun X hX => ?_
 (repeat (refine a6 [0,1,2,3,20] hX a7 rfl ?_; (simp [go_sem]; try (refine ⟨by kernel_rfl,?_⟩))))
 first | refine a9 (j2 s1 L1 l1) ?_ | refine aE (j2 s1 L1 l1) ?_
 try (simp [go_sem]; try (refine ⟨by kernel_rfl,?_⟩))
 first | refine aJ (fun hg => j2 s2 L2 l2) ?_ | refine aZ (fun hg => j2 s2 L2 l2) ?_
 try (simp [go_sem]; try (refine ⟨by kernel_rfl,?_⟩))
 by_cases h : isR s1 L1 ∧ isR s2 L2 ∧ ¬ s2 < 1
 · obtain ⟨h1,h2,h3⟩ :=h
   have h3' : ¬ s2 ≤ 0 :=by omega
   refine a8 (b :=false) (by simp [go_sem,h1,h2]; omega) (fun h => by cases h) (fun _ => ?_)
   obtain ⟨p,hp,rfl,rfl⟩ :=q8 h1
   obtain ⟨q,hq,rfl,rfl⟩ :=q8 h2
   have hq0 : 0 < q :=by rcases aD q with h | h | h <;> omega
   have e : isF (sg p) (dg (ab p)) (sg q) (dg (ab q)) ↔ (Int.gcd p q : Int) = 1 :=by
    unfold isF rf
    rw [eO,eO]
    constructor
    · rintro ⟨_,_,_,_,_,h⟩; omega
    · intro h; exact ⟨h1,h2,hp,hq,hq0,by omega⟩
   have zg : rz (Int.gcd p q : Int) :=uO hp hq
   have hc :=jL (Int.gcd p q : Int) 1
   (repeat (refine a6 [0,1,2,3,20] hX a7 rfl ?_; (simp [go_sem]; try (refine ⟨by kernel_rfl,?_⟩))))
   first | refine a9 (zF p q hp hq) ?_ | refine aE (zF p q hp hq) ?_
   try (simp [go_sem]; try (refine ⟨by kernel_rfl,?_⟩))
   (repeat (refine a6 [0,1,2,3,20] hX a7 rfl ?_; (simp [go_sem]; try (refine ⟨by kernel_rfl,?_⟩))))
   first | refine a9 (mT 1 (by decide)) ?_ | refine aE (mT 1 (by decide)) ?_
   try (simp [go_sem]; try (refine ⟨by kernel_rfl,?_⟩))
   first | refine a9 (fH _ 1 zg (I4 (by decide))) ?_ | refine aE (fH _ 1 zg (I4 (by decide))) ?_
   try (simp [go_sem]; try (refine ⟨by kernel_rfl,?_⟩))
   (repeat (refine a6 [0,1,2,3,20] hX a7 rfl ?_; (simp [go_sem,e,hc]; try (refine ⟨by kernel_rfl,?_⟩))))
 · have e : ¬ isF s1 L1 s2 L2 :=fun hf => h ⟨hf.1,hf.2.1,by
    obtain ⟨p,q,hr,_,_,rfl,_⟩ :=z5 hf
    have :=hr.2.2.1
    rcases aD q with h | h | h <;> omega⟩
   refine a8 (b :=true) (by simp [go_sem]; grind) (fun _ => ?_) (fun h => by cases h)
   (repeat (refine a6 [0,1,2,3,20] hX a7 rfl ?_; (simp [go_sem,e]; try (refine ⟨by kernel_rfl,?_⟩))))
theorem cF (p q : Int) (h : rf p q) : Means false Tryz.prog 49 [frZ p q] (bb true) :=by
 have :=xW (sg p) (dg (ab p)) (by have :=bP h.1; omega) (sg q) (dg (ab q)) (by have :=bP h.2.1; omega)
 rwa [decide_eq_true (FF h)] at this
set_option maxHeartbeats 4000000 in
set_option maxRecDepth 20000 in
theorem FO (p q : Int) (hp : rz p) (hq : rz q) (h0 : q ≠ 0) : Means false Tryz.prog 107 [bigZ p,bigZ q] (.tup [frZ (np p q) (nq p q),ii 0]) :=by
 have hs0 : ¬ sg q = 0 :=by rcases aD q with h | h | h <;> omega
 have hgp :=uQ (p :=p) h0
 have hg0 : (Int.gcd p q : Int) ≠ 0 :=by omega
 have zg : rz (Int.gcd p q : Int) :=uO hp hq
 have znp :=j3 hp
 have znq :=j3 hq
 refine aB false 57 [.cell 4 62,.tmp 5] Tryz.func107 rfl rfl rfl (by simp) (by decide) rfl fun X hX => ?_
 (repeat (refine a6 q9x3 hX a7 rfl ?_; (simp [go_sem])))
 refine a9 (aK p hp) ?_
 try (simp [go_sem])
 refine aJ (fun hg => aK q hq) ?_
 try (simp [go_sem])
 refine a8 (b :=false) (by simp [go_sem]) (fun h => by cases h) (fun _ => ?_)
 (repeat (refine a6 q9x3 hX a7 rfl ?_; (simp [go_sem])))
 refine a8 (b :=false) (by simp [go_sem,hs0]) (fun h => by cases h) (fun _ => ?_)
 (repeat (refine a6 q9x3 hX a7 rfl ?_; (simp [go_sem])))
 by_cases hn : q < 0
 · have hsq : sg q = -1 :=by unfold sg; rw [if_pos hn]
   refine a8 (b :=true) (by simp [go_sem,hsq]) (fun _ => ?_) (fun h => by cases h)
   (repeat (refine a6 q9x3 hX a7 rfl ?_; (simp [go_sem])))
   refine a9 (uD p hp) ?_
   try (simp [go_sem])
   (repeat (refine a6 q9x3 hX a7 rfl ?_; (simp [go_sem])))
   refine a9 (uD q hq) ?_
   try (simp [go_sem])
   (repeat (refine a6 q9x3 hX a7 rfl ?_; (simp [go_sem])))
   refine a9 (BD (g :=(Int.gcd p q : Int)) znp znq (by rw [Int.neg_gcd,Int.gcd_neg])) ?_
   try (simp [go_sem])
   (repeat (refine a6 q9x3 hX a7 rfl ?_; (simp [go_sem])))
   refine a9 (iD znp zg hg0 (sL h0 (by rw [hsq,Int.neg_one_mul]) hgp) rfl) ?_
   try (simp [go_sem])
   (repeat (refine a6 q9x3 hX a7 rfl ?_; (simp [go_sem])))
   refine a9 (iD znq zg hg0 (sM (by unfold ab; rw [if_pos hn]) hgp) rfl) ?_
   try (simp [go_sem])
   (repeat (refine a6 q9x3 hX a7 rfl ?_; (simp [go_sem])))
 · have hsq : sg q = 1 :=by rcases aD q with h | h | h <;> omega
   refine a8 (b :=false) (by simp [go_sem,hsq]) (fun h => by cases h) (fun _ => ?_)
   (repeat (refine a6 q9x3 hX a7 rfl ?_; (simp [go_sem])))
   refine a9 (BD (g :=(Int.gcd p q : Int)) hp hq (rfl)) ?_
   try (simp [go_sem])
   (repeat (refine a6 q9x3 hX a7 rfl ?_; (simp [go_sem])))
   refine a9 (iD hp zg hg0 (sL h0 (by rw [hsq,Int.one_mul]) hgp) rfl) ?_
   try (simp [go_sem])
   (repeat (refine a6 q9x3 hX a7 rfl ?_; (simp [go_sem])))
   refine a9 (iD hq zg hg0 (sM (by unfold ab; rw [if_neg hn]) hgp) rfl) ?_
   try (simp [go_sem])
   (repeat (refine a6 q9x3 hX a7 rfl ?_; (simp [go_sem])))
theorem MV (p q x y e : Int) (hp : -9223372036854775808 ≤ p ∧ p ≤ 9223372036854775807) (hq : -9223372036854775808 ≤ q ∧ q ≤ 9223372036854775807) (h : Means false Tryz.prog 107 [bigZ p,bigZ q] (.tup [frZ x y,ii e])) : Means false Tryz.prog 76 [ii p,ii q] (.tup [frZ x y,ii e]) :=by
 refine aB false 13 [.cell 4 62,.tmp 5] Tryz.func76 rfl rfl rfl (by simp) (by decide) rfl fun X hX => ?_
 (repeat (refine a6 [0,1,4,5] hX a7 rfl ?_; (simp [go_sem])))
 refine a9 (mT p hp) ?_
 try (simp [go_sem])
 refine a9 (mT q hq) ?_
 try (simp [go_sem])
 refine a9 (h) ?_
 try (simp [go_sem])
 (repeat (refine a6 [0,1,4,5] hX a7 rfl ?_; (simp [go_sem])))
theorem o9 {bad : Bool} (p q : Int) (hp : rz p) (hq : rz q) (h0 : q ≠ 0) (hb : bad = false) : Means false Tryz.prog 79 [bigZ p,bigZ q,bb bad] (.tup [frZ (np p q) (nq p q),ii 0]) :=by
 subst hb
 refine aB false 15 [.cell 6 62,.tmp 7] Tryz.func79 rfl rfl rfl (by simp) (by decide) rfl fun X hX => ?_
 (repeat (refine a6 q9x8 hX a7 rfl ?_; (simp [go_sem])))
 refine a8 (b :=false) (by simp [go_sem]) (fun h => by cases h) (fun _ => ?_)
 (repeat (refine a6 q9x8 hX a7 rfl ?_; (simp [go_sem])))
 refine a9 (FO p q hp hq h0) ?_
 try (simp [go_sem])
 (repeat (refine a6 q9x8 hX a7 rfl ?_; (simp [go_sem])))
theorem oA {bad : Bool} (p q : Int) (hb : bad = true) : Means false Tryz.prog 79 [bigZ p,bigZ q,bb bad] (.tup [frZ 0 0,ii 6]) :=by
 subst hb
 refine aB false 15 [.cell 6 62,.tmp 7] Tryz.func79 rfl rfl rfl (by simp) (by decide) rfl fun X hX => ?_
 (repeat (refine a6 q9x8 hX a7 rfl ?_; (simp [go_sem])))
 refine a8 (b :=true) (by simp [go_sem]) (fun _ => ?_) (fun h => by cases h)
 (repeat (refine a6 q9x8 hX a7 rfl ?_; (simp [go_sem])))
end Go.Proofs.YtknbcehhjffndaaGreat

namespace Go.Proofs.YtknbcehhjffndaaGreat
open Go.RowKit Go.Ab
attribute [local irreducible] AWP Go.Ab.Sub Means MeansH CallK CallG CallT CallGT CallU
theorem nH (x : Int) : e60 x = 0 ↔ rz x :=by
 unfold e60
 by_cases h : rz x
 · rw [if_pos h]; simp [h]
 · rw [if_neg h]; simp [h]
set_option maxHeartbeats 4000000 in
set_option maxRecDepth 20000 in
theorem L4 (a b c d : Int) (hab : rf a b) (hcd : rf c d) : Means false Tryz.prog 53 [frZ a b,frZ c d] (resF (sumP a d c b ∧ rz (b * d)) (a * d + c * b) (b * d)) :=by
 have hb0 :=hab.2.2.1
 have hd0 :=hcd.2.2.1
 have hbd : b * d ≠ 0 :=Int.mul_ne_zero (by omega) (by omega)
 have m1 :=fX a d hab.1 hcd.2.1
 have m2 :=fX c b hcd.1 hab.2.1
 have m3 :=fX b d hab.2.1 hcd.2.1
 have m4 :=F3 (r60 (a * d)) (r60 (c * b)) (v7 _) (v7 _)
 refine aB false 72 [.cell 4 62,.tmp 5] Tryz.func53 rfl rfl rfl (by simp) (by decide) rfl fun X hX => ?_
 (repeat (refine a6 q9x1 hX a7 rfl ?_; (simp [go_sem])))
 refine a9 (cF a b hab) ?_
 try (simp [go_sem])
 refine aJ (fun hg => cF c d hcd) ?_
 try (simp [go_sem])
 refine a8 (b :=false) (by simp [go_sem]) (fun h => by cases h) (fun _ => ?_)
 (repeat (refine a6 q9x1 hX a7 rfl ?_; (simp [go_sem])))
 refine a9 (m1) ?_
 try (simp [go_sem])
 (repeat (refine a6 q9x1 hX a7 rfl ?_; (simp [go_sem])))
 refine a9 (m2) ?_
 try (simp [go_sem])
 (repeat (refine a6 q9x1 hX a7 rfl ?_; (simp [go_sem])))
 refine a9 (m3) ?_
 try (simp [go_sem])
 (repeat (refine a6 q9x1 hX a7 rfl ?_; (simp [go_sem])))
 refine a9 (m4) ?_
 try (simp [go_sem])
 (repeat (refine a6 q9x1 hX a7 rfl ?_; (simp [go_sem])))
 by_cases hok : sumP a d c b ∧ rz (b * d)
 · obtain ⟨⟨o1,o2,o4⟩,o3⟩ :=hok
   rw [cU ⟨⟨o1,o2,o4⟩,o3⟩,cC o1,cC o2,cC o3,cC o4]
   refine a9 (o9 _ _ o4 o3 hbd (by simp [nH,o1,o2,o3,o4])) ?_
   try (simp [go_sem])
   (repeat (refine a6 q9x1 hX a7 rfl ?_; (simp [go_sem])))
 · have hno : ((¬ rz (a * d) ∨ ¬ rz (c * b)) ∨ ¬ rz (b * d)) ∨ ¬ rz (r60 (a * d) + r60 (c * b)) :=Classical.byContradiction fun q => by
    simp only [not_or,Classical.not_not] at q
    obtain ⟨⟨⟨o1,o2⟩,o3⟩,o4⟩ :=q
    rw [cC o1,cC o2] at o4; exact hok ⟨⟨o1,o2,o4⟩,o3⟩
   rw [cA hok]
   refine a9 (oA _ _ (by simp [nH]; exact hno)) ?_
   try (simp [go_sem])
   (repeat (refine a6 q9x1 hX a7 rfl ?_; (simp [go_sem])))
set_option maxHeartbeats 4000000 in
set_option maxRecDepth 20000 in
theorem L6 (a b c d : Int) (hab : rf a b) (hcd : rf c d) : Means false Tryz.prog 44 [frZ a b,frZ c d] (resF (sumP a d (-c) b ∧ rz (b * d)) (a * d + -c * b) (b * d)) :=by
 have hb0 :=hab.2.2.1
 have hd0 :=hcd.2.2.1
 have hbd : b * d ≠ 0 :=Int.mul_ne_zero (by omega) (by omega)
 have es : a * d + -c * b = a * d - c * b :=by rw [Int.neg_mul]; omega
 have m1 :=fX a d hab.1 hcd.2.1
 have m2 :=fX c b hcd.1 hab.2.1
 have m3 :=fX b d hab.2.1 hcd.2.1
 have m4 :=KQ (r60 (a * d)) (r60 (c * b)) (v7 _) (v7 _)
 refine aB false 72 [.cell 4 62,.tmp 5] Tryz.func44 rfl rfl rfl (by simp) (by decide) rfl fun X hX => ?_
 (repeat (refine a6 q9x1 hX a7 rfl ?_; (simp [go_sem])))
 refine a9 (cF a b hab) ?_
 try (simp [go_sem])
 refine aJ (fun hg => cF c d hcd) ?_
 try (simp [go_sem])
 refine a8 (b :=false) (by simp [go_sem]) (fun h => by cases h) (fun _ => ?_)
 (repeat (refine a6 q9x1 hX a7 rfl ?_; (simp [go_sem])))
 refine a9 (m1) ?_
 try (simp [go_sem])
 (repeat (refine a6 q9x1 hX a7 rfl ?_; (simp [go_sem])))
 refine a9 (m2) ?_
 try (simp [go_sem])
 (repeat (refine a6 q9x1 hX a7 rfl ?_; (simp [go_sem])))
 refine a9 (m3) ?_
 try (simp [go_sem])
 (repeat (refine a6 q9x1 hX a7 rfl ?_; (simp [go_sem])))
 refine a9 (m4) ?_
 try (simp [go_sem])
 (repeat (refine a6 q9x1 hX a7 rfl ?_; (simp [go_sem])))
 by_cases hok : sumP a d (-c) b ∧ rz (b * d)
 · obtain ⟨⟨o1,o2,o4⟩,o3⟩ :=hok
   rw [cU ⟨⟨o1,o2,o4⟩,o3⟩]
   rw [es] at o4 ⊢
   have o2 : rz (c * b) :=by rw [Int.neg_mul] at o2; have :=j3 o2; rwa [Int.neg_neg] at this
   rw [cC o1,cC o2,cC o3,cC o4]
   refine a9 (o9 _ _ o4 o3 hbd (by simp [nH,o1,o2,o3,o4])) ?_
   try (simp [go_sem])
   (repeat (refine a6 q9x1 hX a7 rfl ?_; (simp [go_sem])))
 · have hno : ((¬ rz (a * d) ∨ ¬ rz (c * b)) ∨ ¬ rz (b * d)) ∨ ¬ rz (r60 (a * d) - r60 (c * b)) :=Classical.byContradiction fun q => by
    simp only [not_or,Classical.not_not] at q
    obtain ⟨⟨⟨o1,o2⟩,o3⟩,o4⟩ :=q
    rw [cC o1,cC o2] at o4; exact hok ⟨⟨o1,by rw [Int.neg_mul]; exact j3 o2,by rw [es]; exact o4⟩,o3⟩
   rw [cA hok]
   refine a9 (oA _ _ (by simp [nH]; exact hno)) ?_
   try (simp [go_sem])
   (repeat (refine a6 q9x1 hX a7 rfl ?_; (simp [go_sem])))
set_option maxHeartbeats 4000000 in
set_option maxRecDepth 20000 in
theorem L8 (a b c d : Int) (hab : rf a b) (hcd : rf c d) : Means false Tryz.prog 47 [frZ a b,frZ c d] (resF (rz (a * c) ∧ rz (b * d)) (a * c) (b * d)) :=by
 have hb0 :=hab.2.2.1
 have hd0 :=hcd.2.2.1
 have hbd : b * d ≠ 0 :=Int.mul_ne_zero (by omega) (by omega)
 have m1 :=fX a c hab.1 hcd.1
 have m2 :=fX b d hab.2.1 hcd.2.1
 refine aB false 46 [.cell 4 62,.tmp 5] Tryz.func47 rfl rfl rfl (by simp) (by decide) rfl fun X hX => ?_
 (repeat (refine a6 q9x5 hX a7 rfl ?_; (simp [go_sem])))
 refine a9 (cF a b hab) ?_
 try (simp [go_sem])
 refine aJ (fun hg => cF c d hcd) ?_
 try (simp [go_sem])
 refine a8 (b :=false) (by simp [go_sem]) (fun h => by cases h) (fun _ => ?_)
 (repeat (refine a6 q9x5 hX a7 rfl ?_; (simp [go_sem])))
 refine a9 (m1) ?_
 try (simp [go_sem])
 (repeat (refine a6 q9x5 hX a7 rfl ?_; (simp [go_sem])))
 refine a9 (m2) ?_
 try (simp [go_sem])
 (repeat (refine a6 q9x5 hX a7 rfl ?_; (simp [go_sem])))
 by_cases hok : rz (a * c) ∧ rz (b * d)
 · obtain ⟨o1,o2⟩ :=hok
   rw [cU ⟨o1,o2⟩,cC o1,cC o2]
   refine a9 (o9 _ _ o1 o2 hbd (by simp [nH,o1,o2])) ?_
   try (simp [go_sem])
   (repeat (refine a6 q9x5 hX a7 rfl ?_; (simp [go_sem])))
 · have hno : ¬ rz (a * c) ∨ ¬ rz (b * d) :=Classical.byContradiction fun q => by
    simp only [not_or,Classical.not_not] at q
    obtain ⟨o1,o2⟩ :=q
    exact hok ⟨o1,o2⟩
   rw [cA hok]
   refine a9 (oA _ _ (by simp [nH]; exact hno)) ?_
   try (simp [go_sem])
   (repeat (refine a6 q9x5 hX a7 rfl ?_; (simp [go_sem])))
set_option maxHeartbeats 4000000 in
set_option maxRecDepth 20000 in
theorem LA (a b c d : Int) (hab : rf a b) (hcd : rf c d) (h0 : c ≠ 0) : Means false Tryz.prog 45 [frZ a b,frZ c d] (resF (rz (a * d) ∧ rz (b * c)) (a * d) (b * c)) :=by
 have hb0 :=hab.2.2.1
 have hd0 :=hcd.2.2.1
 have hbd : b * c ≠ 0 :=Int.mul_ne_zero (by omega) h0
 have hsc : ¬ sg c = 0 :=by rcases aD c with h | h | h <;> omega
 have m1 :=fX a d hab.1 hcd.2.1
 have m2 :=fX b c hab.2.1 hcd.1
 refine aB false 51 [.cell 4 62,.tmp 5] Tryz.func45 rfl rfl rfl (by simp) (by decide) rfl fun X hX => ?_
 (repeat (refine a6 q9x6 hX a7 rfl ?_; (simp [go_sem])))
 refine a9 (cF a b hab) ?_
 try (simp [go_sem])
 refine aJ (fun hg => cF c d hcd) ?_
 try (simp [go_sem])
 refine a8 (b :=false) (by simp [go_sem]) (fun h => by cases h) (fun _ => ?_)
 (repeat (refine a6 q9x6 hX a7 rfl ?_; (simp [go_sem])))
 refine a8 (b :=false) (by simp [go_sem,hsc]) (fun h => by cases h) (fun _ => ?_)
 (repeat (refine a6 q9x6 hX a7 rfl ?_; (simp [go_sem])))
 refine a9 (m1) ?_
 try (simp [go_sem])
 (repeat (refine a6 q9x6 hX a7 rfl ?_; (simp [go_sem])))
 refine a9 (m2) ?_
 try (simp [go_sem])
 (repeat (refine a6 q9x6 hX a7 rfl ?_; (simp [go_sem])))
 by_cases hok : rz (a * d) ∧ rz (b * c)
 · obtain ⟨o1,o2⟩ :=hok
   rw [cU ⟨o1,o2⟩,cC o1,cC o2]
   refine a9 (o9 _ _ o1 o2 hbd (by simp [nH,o1,o2])) ?_
   try (simp [go_sem])
   (repeat (refine a6 q9x6 hX a7 rfl ?_; (simp [go_sem])))
 · have hno : ¬ rz (a * d) ∨ ¬ rz (b * c) :=Classical.byContradiction fun q => by
    simp only [not_or,Classical.not_not] at q
    obtain ⟨o1,o2⟩ :=q
    exact hok ⟨o1,o2⟩
   rw [cA hok]
   refine a9 (oA _ _ (by simp [nH]; exact hno)) ?_
   try (simp [go_sem])
   (repeat (refine a6 q9x6 hX a7 rfl ?_; (simp [go_sem])))
end Go.Proofs.YtknbcehhjffndaaGreat

namespace Go.Proofs.YtknbcehhjffndaaGreat
open Go.RowKit Go.Ab
attribute [local irreducible] AWP Go.Ab.Sub Means MeansH CallK CallG CallT CallGT CallU
set_option maxHeartbeats 4000000 in
set_option maxRecDepth 20000 in
theorem BE : ∀ (n : Nat) (p q r s : Int),q.toNat + s.toNat ≤ n → rz p → rz q → rz r → rz s → 0 < q → 0 < s → Means false Tryz.prog 84 [bigZ p,bigZ q,bigZ r,bigZ s] (ii (cmpI (p * s) (r * q)))
 | 0,p,q,r,s,hn,_,_,_,_,hq,hs => by omega
 | n + 1,p,q,r,s,hn,zp,zq,zr,zs,hq,hs => by
   have hu0 :=Int.emod_nonneg p (show q ≠ 0 by omega)
   have hu1 :=Int.emod_lt_of_pos p hq
   have hv0 :=Int.emod_nonneg r (show s ≠ 0 by omega)
   have hv1 :=Int.emod_lt_of_pos r hs
   have zx :=tH hq zp
   have zy :=tH hs zr
   have zu :=tG (p :=p) hq zq
   have zv :=tG (p :=r) hs zs
   have c2 :=jL (p / q) (r / s)
   have s1 :=fA (p % q)
   have s2 :=fA (r % s)
   have d1 :=iD zp zq (by omega) (cL hq).1 (cL hq).2
   have d2 :=iD zr zs (by omega) (cL hs).1 (cL hs).2
   have d3 :=fH _ _ zx zy
   have ih :=BE n s (r % s) q (p % q)
   have sgu : sg (p % q) = 0 ↔ p % q = 0 :=by rcases aD (p % q) with h | h | h <;> omega
   have sgv : sg (r % s) = 0 ↔ r % s = 0 :=by rcases aD (r % s) with h | h | h <;> omega
   by_cases hxy : p / q = r / s
   · have hc0 : cmpI (p / q) (r / s) = 0 :=c2.2 hxy
     have ct :=zZ hxy
     have cz :=fun h => vS hq hs hu0 hv0 h
     rw [ct]
     rw [hc0] at d3
     generalize p / q = x at *
     generalize r / s = y at *
     generalize p % q = u at *
     generalize r % s = v at *
     refine aB false 54 [.tmp 8] Tryz.func84 rfl rfl rfl (by simp) (by decide) rfl fun X hX => ?_
     (repeat (refine a6 q9x2 hX a7 rfl ?_; (simp [go_sem])))
     refine a9 (d1) ?_
     try (simp [go_sem])
     (repeat (refine a6 q9x2 hX a7 rfl ?_; (simp [go_sem])))
     refine a9 (d2) ?_
     try (simp [go_sem])
     (repeat (refine a6 q9x2 hX a7 rfl ?_; (simp [go_sem])))
     refine a9 (d3) ?_
     try (simp [go_sem])
     (repeat (refine a6 q9x2 hX a7 rfl ?_; (simp [go_sem])))
     refine a8 (b :=false) (by simp [go_sem]) (fun h => by cases h) (fun _ => ?_)
     (repeat (refine a6 q9x2 hX a7 rfl ?_; (simp [go_sem])))
     by_cases huv : u = 0 ∨ v = 0
     · refine a8 (b :=true) (by simp [go_sem,sgu,sgv,huv]) (fun _ => ?_) (fun h => by cases h)
       rw [cz huv]
       have w1 :=w64 (x :=sg u - sg v) (by omega) (by omega)
       (repeat (refine a6 q9x2 hX a7 rfl ?_; (simp [go_sem,w1])))
     · refine a8 (b :=false) (by simp [go_sem,sgu,sgv]; omega) (fun h => by cases h) (fun _ => ?_)
       have hE : cmpI (u * s) (v * q) = cmpI (s * u) (q * v) :=by rw [Int.mul_comm u s,Int.mul_comm v q]
       rw [hE]
       (repeat (refine a6 q9x2 hX a7 rfl ?_; (simp [go_sem])))
       refine a9 (ih (by omega) zs zv zq zu (by omega) (by omega)) ?_
       try (simp [go_sem])
       (repeat (refine a6 q9x2 hX a7 rfl ?_; (simp [go_sem])))
   · have hc0 : ¬ cmpI (p / q) (r / s) = 0 :=fun h => hxy (c2.1 h)
     rw [zY hq hs hxy]
     refine aB false 54 [.tmp 8] Tryz.func84 rfl rfl rfl (by simp) (by decide) rfl fun X hX => ?_
     (repeat (refine a6 q9x2 hX a7 rfl ?_; (simp [go_sem])))
     refine a9 (d1) ?_
     try (simp [go_sem])
     (repeat (refine a6 q9x2 hX a7 rfl ?_; (simp [go_sem])))
     refine a9 (d2) ?_
     try (simp [go_sem])
     (repeat (refine a6 q9x2 hX a7 rfl ?_; (simp [go_sem])))
     refine a9 (d3) ?_
     try (simp [go_sem])
     (repeat (refine a6 q9x2 hX a7 rfl ?_; (simp [go_sem])))
     refine a8 (b :=true) (by simp [go_sem,hc0]) (fun _ => ?_) (fun h => by cases h)
     (repeat (refine a6 q9x2 hX a7 rfl ?_; (simp [go_sem])))
set_option maxHeartbeats 4000000 in
theorem zG (a b c d : Int) (hab : rf a b) (hcd : rf c d) : Means false Tryz.prog 50 [frZ a b,frZ c d] (ii (cmpI (a * d) (c * b))) :=by
 have hb :=BE _ a b c d (Nat.le_refl _) hab.1 hab.2.1 hcd.1 hcd.2.1 hab.2.2.1 hcd.2.2.1
 refine aB false 22 [.tmp 4] Tryz.func50 rfl rfl rfl (by simp) (by decide) rfl fun X hX => ?_
 (repeat (refine a6 [0,1,2,3,4,12] hX a7 rfl ?_; (simp [go_sem])))
 refine a9 (cF a b hab) ?_
 try (simp [go_sem])
 refine aJ (fun hg => cF c d hcd) ?_
 try (simp [go_sem])
 refine a8 (b :=false) (by simp [go_sem]) (fun h => by cases h) (fun _ => ?_)
 (repeat (refine a6 [0,1,2,3,4,12] hX a7 rfl ?_; (simp [go_sem])))
 refine a9 (hb) ?_
 try (simp [go_sem])
 (repeat (refine a6 [0,1,2,3,4,12] hX a7 rfl ?_; (simp [go_sem])))
set_option maxHeartbeats 4000000 in
theorem xX (a b : Int) (h : rf a b) : Means false Tryz.prog 52 [frZ a b] (bigZ (a / b)) :=by
 have hb :=h.2.2.1
 refine aB false 20 [.cell 2 60] Tryz.func52 rfl rfl rfl (by simp) (by decide) rfl fun X hX => ?_
 (repeat (refine a6 [0,1,2,3,8] hX a7 rfl ?_; (simp [go_sem])))
 refine a9 (cF a b h) ?_
 try (simp [go_sem])
 refine a8 (b :=false) (by simp [go_sem]) (fun h => by cases h) (fun _ => ?_)
 (repeat (refine a6 [0,1,2,3,8] hX a7 rfl ?_; (simp [go_sem])))
 refine a9 (iD h.1 h.2.1 (by omega) (cL hb).1 (cL hb).2) ?_
 try (simp [go_sem])
 (repeat (refine a6 [0,1,2,3,8] hX a7 rfl ?_; (simp [go_sem])))
end Go.Proofs.YtknbcehhjffndaaGreat

namespace Go.Proofs.YtknbcehhjffndaaGreat
open Go.RowKit Go.Ab
attribute [local irreducible] AWP Go.Ab.Sub Means MeansH CallK CallG CallT CallGT CallU
end Go.Proofs.YtknbcehhjffndaaGreat

namespace Go.Proofs.YtknbcehhjffndaaGreat
open Go.RowKit Go.Ab
attribute [local irreducible] AWP Go.Ab.Sub Means MeansH CallK CallG CallT CallGT CallU
theorem G5 (s1 : Int) (a : List Int) (t1 : Int) (b : List Int) (s2 : Int) (c : List Int) (t2 : Int) (d : List Int) (ha : a.length ≤ 100000) (hb : b.length ≤ 100000) (hc : c.length ≤ 100000) (hd : d.length ≤ 100000) (h : ¬ (isF s1 a t1 b ∧ isF s2 c t2 d)) : Means false Tryz.prog 73 [frac4 s1 a t1 b,frac4 s2 c t2 d] (.tup [frZ 0 0,ii 1]) :=by
 have r1 :=uR s1 a (by omega) t1 b (by omega)
 have r2 :=uR s2 c (by omega) t2 d (by omega)
 obtain ⟨x,hx⟩ : ∃ x,decide (isF s1 a t1 b) = x :=⟨_,rfl⟩
 obtain ⟨y,hy⟩ : ∃ y,decide (isF s2 c t2 d) = y :=⟨_,rfl⟩
 have hxy : (!x || !y) = true :=by
  rw [← hx,← hy]; simp; grind
 rw [hx] at r1
 rw [hy] at r2
 refine aB false 46 [.cell 4 62,.tmp 5] Tryz.func73 rfl rfl rfl (by simp) (by decide) rfl fun X hX => ?_
 (repeat (refine a6 q9x5 hX a7 rfl ?_; (simp [go_sem])))
 refine a9 (r1) ?_
 try (simp [go_sem])
 refine aJ (fun hg => r2) ?_
 try (simp [go_sem])
 refine a8 (b :=true) (by simpa [go_sem] using hxy) (fun _ => ?_) (fun h => by cases h)
 (repeat (refine a6 q9x5 hX a7 rfl ?_; (simp [go_sem])))
end Go.Proofs.YtknbcehhjffndaaGreat

namespace Go.Proofs.YtknbcehhjffndaaGreat
open Go.RowKit Go.Ab
attribute [local irreducible] AWP Go.Ab.Sub Means MeansH MeansX CallK CallG CallT CallGT CallU
def fl (r : Rat) : Int :=r.num / (r.den : Int)
def rs (r : Rat) : Rat :=r - ((fl r : Int) : Rat)
theorem xY (r : Rat) : (0 : Rat) < ((r.den : Int) : Rat) :=Rat.intCast_pos.2 (by have :=r.den_pos; omega)
theorem K4 (r : Rat) : ((fl r : Int) : Rat) ≤ r :=by
 have hd : 0 < (r.den : Int) :=by have :=r.den_pos; omega
 have h1 : fl r * (r.den : Int) ≤ r.num :=Int.ediv_mul_le _ (by omega)
 have h2 : ((fl r * (r.den : Int) : Int) : Rat) ≤ ((r.num : Int) : Rat) :=Rat.intCast_le_intCast.2 h1
 rw [Rat.intCast_mul,cH r] at h2
 exact Rat.le_of_mul_le_mul_right h2 (xY r)
theorem MZ (r : Rat) : r < ((fl r : Int) : Rat) + 1 :=by
 have hd : 0 < (r.den : Int) :=by have :=r.den_pos; omega
 have h1 : r.num < (fl r + 1) * (r.den : Int) :=Int.lt_ediv_add_one_mul_self _ hd
 have h2 : ((r.num : Int) : Rat) < (((fl r + 1) * (r.den : Int) : Int) : Rat) :=Rat.intCast_lt_intCast.2 h1
 rw [Rat.intCast_mul,cH r,Rat.intCast_add] at h2
 have h3 :=Rat.lt_of_mul_lt_mul_right h2 (Rat.le_of_lt (xY r))
 simpa using h3
theorem m7 (r : Rat) : 0 ≤ rs r :=by have :=K4 r; unfold rs; grind
theorem JQ (r : Rat) : rs r < 1 :=by have :=MZ r; unfold rs; grind
theorem pP {r : Rat} {B : Int} (h0 : 0 ≤ r) (h1 : r ≤ ((B : Int) : Rat)) : 0 ≤ fl r ∧ fl r ≤ B :=by
 refine ⟨?_,?_⟩
 · unfold fl
   exact Int.ediv_nonneg (Rat.num_nonneg.2 h0) (by omega)
 · have h2 : ((fl r : Int) : Rat) ≤ ((B : Int) : Rat) :=by have :=K4 r; grind
   exact Rat.intCast_le_intCast.1 h2
theorem qJ {r : Rat} (hq : rq r) (h0 : 0 ≤ r) : okSub r ((fl r : Int) : Rat) :=by
 have hd : 0 < (r.den : Int) :=by have :=r.den_pos; omega
 have hn :=Rat.num_nonneg.2 h0
 have h1 : fl r * (r.den : Int) ≤ r.num :=Int.ediv_mul_le _ (by omega)
 have h2 : 0 ≤ fl r :=Int.ediv_nonneg hn (by omega)
 have h3 : 0 ≤ fl r * (r.den : Int) :=Int.mul_nonneg h2 (by omega)
 have h4 : ((((fl r : Int) : Rat).den : Nat) : Int) = 1 :=by rw [Rat.den_intCast]; rfl
 obtain ⟨z1,z2⟩ :=hq
 unfold okSub sumP
 rw [h4,Rat.num_intCast,Int.mul_one,Int.mul_one]
 have e : -fl r * (r.den : Int) = -(fl r * (r.den : Int)) :=Int.neg_mul _ _
 rw [e]
 generalize fl r * (r.den : Int) = y at *
 refine ⟨⟨z1,?_,?_⟩,z2⟩
 all_goals
  unfold rz ab at *
  repeat' split
  all_goals (try omega)
  all_goals (repeat' split at z1)
  all_goals (try omega)
def rsum (ks : List Rat) (i : Nat) : Rat :=sumR (fun t => rs (ks.getD t 0)) i
theorem eW (ks : List Rat) (i : Nat) : rsum ks (i + 1) = rsum ks i + rs (ks.getD i 0) :=rfl
theorem l6 (ks : List Rat) : ∀ i,0 ≤ rsum ks i ∧ rsum ks i ≤ ((i : Int) : Rat)
 | 0 => ⟨by show (0 : Rat) ≤ 0; grind,by show (0 : Rat) ≤ _; simp⟩
 | i + 1 => by
   obtain ⟨h1,h2⟩ :=l6 ks i
   have h3 :=m7 (ks.getD i 0)
   have h4 :=JQ (ks.getD i 0)
   rw [eW]
   refine ⟨by grind,?_⟩
   have : (((i + 1 : Nat) : Int) : Rat) = ((i : Int) : Rat) + 1 :=by
    rw [show ((i + 1 : Nat) : Int) = (i : Int) + 1 by omega,Rat.intCast_add]; rfl
   rw [this]; grind
def okS (ks : List Rat) (i : Nat) : Prop :=∀ j,j < i → okAdd (rsum ks j) (rs (ks.getD j 0))
noncomputable def svF (ks : List Rat) (i : Nat) : Fr :=@ite _ (okS ks i) (Classical.propDecidable _) (frR (rsum ks i)) ⟨sg 0,dg (ab 0),sg 0,dg (ab 0)⟩
noncomputable def ev (ks : List Rat) (i : Nat) : Int :=@ite _ (okS ks i) (Classical.propDecidable _) 0 6
theorem G6 (ks : List Rat) : okS ks 0 :=fun j hj => by omega
theorem J0 {ks : List Rat} {i : Nat} (h : okS ks (i + 1)) : okS ks i :=fun j hj => h j (by omega)
theorem BF {r : Rat} (hq : rq r) (h0 : 0 ≤ r) : rq (rs r) :=DR (qJ hq h0)
theorem N0 : rq 0 :=⟨l3 (by decide),l3 (by decide)⟩
theorem oB {ks : List Rat} : ∀ {i : Nat},okS ks i → rq (rsum ks i)
 | 0,_ => N0
 | i + 1,h => by rw [eW]; exact KB (h i (by omega))
theorem N3 (c : Int) {r : Rat} (hq : rq r) (h0 : 0 ≤ r) (h1 : fl r ≤ 4503599627370496) : MeansH Tryz.prog 38 [calC c] [.el 0 1 0 0,frq r,frq ((fl r : Int) : Rat)] (frq (rs r)) [calC c] :=by
 have h2 : 0 ≤ fl r :=Int.ediv_nonneg (Rat.num_nonneg.2 h0) (by omega)
 have :=JJ c (DU hq (rL (p :=fl r) (q :=1) (by omega) (by decide) (by decide)) (by rw [n9]; exact qJ hq h0))
 have e : kp c 0 = c :=by unfold kp; split <;> simp_all
 rw [e,n9] at this
 exact this
theorem J1 (c : Int) {p : Int} (hp : -9223372036854775808 ≤ p ∧ p ≤ 9223372036854775807) : MeansH Tryz.prog 32 [calC c] [.el 0 1 0 0,ii p,ii 1] (frq ((p : Int) : Rat)) [calC c] :=by
 have :=ME c (MD p 1 hp (by decide) (by decide))
 have e : kp c 0 = c :=by unfold kp; split <;> simp_all
 rw [e,n9] at this
 exact this
theorem N4 {ks : List Rat} {i : Nat} (hq : rq (ks.getD i 0)) (h0 : 0 ≤ ks.getD i 0) : MeansH Tryz.prog 39 [calC (ev ks i)] [.el 0 1 0 0,fv (svF ks i),frq (rs (ks.getD i 0))] (fv (svF ks (i + 1))) [calC (ev ks (i + 1))] :=by
 have hr :=BF hq h0
 by_cases h : okS ks i
 · have e1 : svF ks i = frR (rsum ks i) :=if_pos h
   have e2 : ev ks i = 0 :=if_pos h
   have hs :=oB h
   have ha :=M6 hs hr
   by_cases h2 : okAdd (rsum ks i) (rs (ks.getD i 0))
   · have h3 : okS ks (i + 1) :=fun j hj => by
      by_cases e : j = i
      · subst e; exact h2
      · exact h j (by omega)
     have e3 : svF ks (i + 1) = frR (rsum ks (i + 1)) :=if_pos h3
     have e4 : ev ks (i + 1) = 0 :=if_pos h3
     rw [iN h2] at ha
     rw [e1,e2,e3,e4,eW]
     exact DV 0 ha
   · have h3 : ¬ okS ks (i + 1) :=fun e => h2 (e i (by omega))
     have e3 : svF ks (i + 1) = ⟨sg 0,dg (ab 0),sg 0,dg (ab 0)⟩ :=if_neg h3
     have e4 : ev ks (i + 1) = 6 :=if_neg h3
     rw [qV h2] at ha
     rw [e1,e2,e3,e4]
     exact DV 0 ha
 · have h3 : ¬ okS ks (i + 1) :=fun e => h (J0 e)
   have e1 : svF ks i = ⟨sg 0,dg (ab 0),sg 0,dg (ab 0)⟩ :=if_neg h
   have e2 : ev ks i = 6 :=if_neg h
   have e3 : svF ks (i + 1) = ⟨sg 0,dg (ab 0),sg 0,dg (ab 0)⟩ :=if_neg h3
   have e4 : ev ks (i + 1) = 6 :=if_neg h3
   rw [e1,e2,e3,e4]
   have hn : ¬ (isF (sg 0) (dg (ab 0)) (sg 0) (dg (ab 0)) ∧ isF (sg (rs (ks.getD i 0)).num) (dg (ab (rs (ks.getD i 0)).num)) (sg ((rs (ks.getD i 0)).den : Int)) (dg (ab ((rs (ks.getD i 0)).den : Int)))) :=fun e => by
    have :=e.1
    rw [H7 (l3 (by decide)) (l3 (by decide))] at this
    exact absurd this.2.2.1 (by decide)
   exact DV 6 (G5 _ _ _ _ _ _ _ _ (by decide) (by decide) (by have :=(aP 60).2 hr.1; omega) (by have :=(aP 60).2 hr.2; omega) hn)
end Go.Proofs.YtknbcehhjffndaaGreat

namespace Go.Proofs.YtknbcehhjffndaaGreat
open Go.RowKit Go.Ab
attribute [local irreducible] AWP Go.Ab.Sub Means MeansH MeansX CallK CallG CallT CallGT CallU
def most : Rat :=((4503599627370496 : Int) : Rat)
def cArg (ks : List Rat) (T : List AV) : Prop :=T ≠ [] ∨ ∃ k ∈ ks,k < 0 ∨ most < k
def coinL (ks : List Rat) : List Int :=bumps (ks.map fl) ((srt (B.kf (ks.map rs)) (idxI ks.length)).take (fl (rsum ks ks.length)).toNat)
noncomputable def coinV (ks : List Rat) (T : List AV) : AV :=
 @ite _ ((ks.length + T.length = 0 ∨ 12 < ks.length + T.length) ∨ cArg ks T) (Classical.propDecidable _) (.tup [.sl [],ii 1]) (@ite _ (okS ks ks.length) (Classical.propDecidable _) (if rsum ks ks.length = ((fl (rsum ks ks.length) : Int) : Rat) then .tup [il (coinL ks),ii 0] else .tup [.sl [],ii 1]) (.tup [.sl [],ii 6]))
def tailOk (T : List AV) : Prop :=T = [] ∨ ∃ x T',T = fv x :: T' ∧ Means false Tryz.prog 34 [fv x] (bb false)
def okTo (ks : List Rat) (i : Nat) : Prop :=∀ k,k < i → 0 ≤ ks.getD k 0 ∧ ks.getD k 0 ≤ most
theorem sY {ks : List Rat} {i : Nat} {f : Rat} (h : okTo ks i) (hf : ks.getD i 0 = f) (h0 : 0 ≤ f) (h1 : f ≤ most) : okTo ks (i + 1) :=fun k hk => by
 by_cases e : k = i
 · subst e; rw [hf]; exact ⟨h0,h1⟩
 · exact h k (by omega)
def restA (ks : List Rat) (i : Nat) : List AV :=(List.range i).map fun k => frq (rs (ks.getD k 0))
def outA (ks : List Rat) (i : Nat) : List AV :=(List.range i).map fun k => ii (fl (ks.getD k 0))
def ordA (i : Nat) : List AV :=(List.range i).map fun k : Nat => ii (k : Int)
theorem qK (ks : List Rat) (i : Nat) : restA ks (i + 1) = restA ks i ++ [frq (rs (ks.getD i 0))] :=by unfold restA; rw [List.range_succ,List.map_append]; rfl
theorem sZ (ks : List Rat) (i : Nat) : outA ks (i + 1) = outA ks i ++ [ii (fl (ks.getD i 0))] :=by unfold outA; rw [List.range_succ,List.map_append]; rfl
theorem D6 (i : Nat) : ordA (i + 1) = ordA i ++ [ii (i : Int)] :=by unfold ordA; rw [List.range_succ,List.map_append]; rfl
theorem t0 (ks : List Rat) (i : Nat) : (restA ks i).length = i :=by simp [restA]
theorem xZ (ks : List Rat) (i : Nat) : (outA ks i).length = i :=by simp [outA]
theorem G7 (i : Nat) : (ordA i).length = i :=by simp [ordA]
theorem qL {α β : Type} (ks : List α) (d : α) (f : α → β) : (List.range ks.length).map (fun k => f (ks.getD k d)) = ks.map f :=by
 apply List.ext_getElem
 · simp
 · intro i h1 h2
   have : i < ks.length :=by simpa using h2
   simp [List.getD_eq_getElem?_getD,List.getElem?_eq_getElem this]
theorem qM (ks : List Rat) : restA ks ks.length = (ks.map rs).map frq :=by
 rw [List.map_map]; exact qL ks 0 fun r => frq (rs r)
theorem t3 (ks : List Rat) : outA ks ks.length = (ks.map fl).map ii :=by
 rw [List.map_map]; exact qL ks 0 fun r => ii (fl r)
theorem D7 (n : Nat) : ordA n = (idxI n).map ii :=by unfold ordA idxI; rw [List.map_map]; rfl
theorem fK {n : Nat} {f : Nat → AV} (h : ∀ k,zoneEs [f k] = true) : zoneEs ((List.range n).map f) = true :=by
 unfold zoneEs
 rw [List.all_eq_true]
 intro e he
 obtain ⟨k,_,rfl⟩ :=List.mem_map.1 he
 have :=h k
 unfold zoneEs at this
 rw [List.all_eq_true] at this
 exact this _ (by simp)
theorem iE (ks : List Rat) (i : Nat) : zoneEs (restA ks i) = true :=fK fun _ => rfl
theorem k8 (ks : List Rat) (i : Nat) : zoneEs (outA ks i) = true :=fK fun _ => rfl
theorem t4 (i : Nat) : zoneEs (ordA i) = true :=fK fun _ => rfl
theorem G8 {A B : List AV} {v : AV} {k : Nat} (h : A[k]? = some v) : nth (A ++ B) k = v :=f8 (by
 rw [List.getElem?_append_left (by rcases Nat.lt_or_ge k A.length with h2 | h2; exact h2; rw [List.getElem?_eq_none h2] at h; cases h)]; exact h)
theorem oC {A B : List AV} {v : AV} {k : Nat} (h : A.length = k) : nth (A ++ v :: B) k = v :=f8 (by
 rw [List.getElem?_append_right (by omega),h,Nat.sub_self]; rfl)
set_option maxHeartbeats 8000000 in
set_option maxRecDepth 20000 in
theorem HK (ks : List Rat) (T : List AV) (hq : ∀ k ∈ ks,rq k) (hT : tailOk T) (hl : ks.length + T.length ≤ 100000) : Means false Tryz.prog 17 [.sl (ks.map frq ++ T)] (coinV ks T) :=by
 obtain ⟨V,hV⟩ : ∃ V,coinV ks T = V :=⟨_,rfl⟩
 have hzr : svF ks 0 = frR 0 :=if_pos (G6 ks)
 have hev : ev ks 0 = 0 :=if_pos (G6 ks)
 have k0 :=J1 0 (p :=0) (by decide)
 have k1 :=J1 0 (p :=4503599627370496) (by decide)
 have hmr : ((4503599627370496 : Int) : Rat) = most :=rfl
 have hz0 : (((0 : Int)) : Rat) = 0 :=rfl
 have hmq : rq most :=by
  have :=rL (p :=4503599627370496) (q :=1) (by decide) (by decide) (by decide)
  rwa [n9] at this
 rw [hz0] at k0
 rw [hmr] at k1
 obtain ⟨mr,hmr2⟩ : ∃ m,most = m :=⟨_,rfl⟩
 obtain ⟨zr,hzr2⟩ : ∃ z : Rat,0 = z :=⟨_,rfl⟩
 rw [hmr2] at k1 hmq
 rw [hzr2] at k0 hzr
 have hzq : rq zr :=hzr2 ▸ N0
 rw [hV]
 refine aB false 128 [.tmp 2,.tmp 3] Tryz.func17 rfl rfl rfl (by simp) (by decide) rfl fun X hX => ?_
 (repeat (refine a6 q9x0 hX a7 rfl ?_; (simp [go_sem]; try (refine ⟨by kernel_rfl,?_⟩))))
 by_cases hlen : ks.length + T.length = 0 ∨ 12 < ks.length + T.length
 · have e : V = .tup [.sl [],ii 1] :=by rw [← hV]; exact if_pos (.inl hlen)
   rw [e]
   refine a8 (b :=true) (by simp [go_sem]; omega) (fun _ => ?_) (fun h => by cases h)
   (repeat (refine a6 q9x0 hX a7 rfl ?_; (simp [go_sem]; try (refine ⟨by kernel_rfl,?_⟩))))
 refine a8 (b :=false) (by simp [go_sem]; omega) (fun h => by cases h) (fun _ => ?_)
 (repeat (refine a6 q9x0 hX a7 rfl ?_; (simp [go_sem]; try (refine ⟨by kernel_rfl,?_⟩))))
 first | refine aG [0] (k0) (by simp [go_sem]) ?_ | refine aQ [0] (k0) (by simp [go_sem]) ?_ | refine aO [0] (k0) (by simp [go_sem]) ?_
 try (simp [go_sem]; try (refine ⟨by kernel_rfl,?_⟩))
 first | refine aG [0] (k0) (by simp [go_sem]) ?_ | refine aQ [0] (k0) (by simp [go_sem]) ?_ | refine aO [0] (k0) (by simp [go_sem]) ?_
 try (simp [go_sem]; try (refine ⟨by kernel_rfl,?_⟩))
 first | refine aG [0] (k1) (by simp [go_sem]) ?_ | refine aQ [0] (k1) (by simp [go_sem]) ?_ | refine aO [0] (k1) (by simp [go_sem]) ?_
 try (simp [go_sem]; try (refine ⟨by kernel_rfl,?_⟩))
 (repeat (refine a6 q9x0 hX a7 rfl ?_; (simp [go_sem]; try (refine ⟨by kernel_rfl,?_⟩))))
 refine aF (fun i : Nat => ⟨mkE [(0,.sl (ks.map frq ++ T)),(4,.el 0 1 0 0),(5,.el 1 4 0 0),(6,.el 2 4 0 0),(7,.el 3 4 0 0),(8,.ow 6),(9,.ow 7),(10,.el 4 1 0 0),(35,.sl (ks.map frq ++ T)),(36,ii (ks.length + T.length : Nat)),(37,ii i)],[calC (ev ks i),.row ⟨62,4,[fv (svF ks i)]⟩,.row ⟨62,4,[frq zr]⟩,.row ⟨62,4,[frq mr]⟩,.row ⟨43,1,[.ow 5]⟩,.row ⟨62,4,restA ks i⟩,.row ⟨3,1,outA ks i⟩,.row ⟨3,1,ordA i⟩]⟩) (fun i => i ≤ ks.length ∧ okTo ks i) (fun i => ks.length + T.length - i) 0 ?_ ?_ ?_
 · rw [hzr,hev]
   refine aA _ [.old 0 ⟨55,1,[.agg [ii 0]]⟩,.old 1 ⟨62,4,[frq zr]⟩,.old 2 ⟨62,4,[frq zr]⟩,.old 3 ⟨62,4,[frq mr]⟩,.old 4 ⟨43,1,[.ow 5]⟩,.birth 62 4,.birth 3 1,.birth 3 1] (by simp [go_sem]) ?_
   simp [go_sem]
 · exact ⟨by omega,fun k hk => by omega⟩
 · rintro i ⟨hi,hp⟩
   have hn0 : ks.length + T.length ≤ 12 :=by omega
   have wi :=w64 (x :=(i : Int) + 1) (by omega) (by omega)
   (repeat (refine a6 q9x0 hX a7 rfl ?_; (simp [go_sem]; try (refine ⟨by kernel_rfl,?_⟩))))
   refine a8 (b :=decide (i < ks.length + T.length)) (by simp [go_sem]; try omega) (fun hb => ?_) (fun hb => ?_)
   · simp only [decide_eq_true_eq] at hb
     by_cases hik : i < ks.length
     · have hgi : ks.getD i 0 = ks[i] :=by rw [List.getD_eq_getElem?_getD,List.getElem?_eq_getElem hik]; rfl
       have hfq : rq (ks.getD i 0) :=by rw [hgi]; exact hq _ (List.getElem_mem hik)
       have q1 : nth (ks.map frq ++ T) i = frq (ks.getD i 0) :=G8 (by simp [hik])
       have hil : (i : Int) < (ks.length : Int) + (T.length : Int) :=by omega
       have r1 :=bO _ _ (eF hfq)
       have m1 :=jZ hfq hzq
       have m2 :=jZ hfq hmq
       have z1 :=uZ (ks.getD i 0) zr
       have z2 :=o7 (ks.getD i 0) mr
       have hmem : ks.getD i 0 ∈ ks :=by rw [hgi]; exact List.getElem_mem hik
       obtain ⟨F0,hF0⟩ : ∃ F,svF ks i = F :=⟨_,rfl⟩
       obtain ⟨e0,he0⟩ : ∃ e,ev ks i = e :=⟨_,rfl⟩
       have k5 :=fun h => N4 (ks :=ks) (i :=i) hfq h
       have hrs :=qK ks i
       have hos :=sZ ks i
       have hds :=D6 i
       have hrl :=t0 ks i
       have hol :=xZ ks i
       have hdl :=G7 i
       have hrz :=iE ks i
       have hoz :=k8 ks i
       have hdz :=t4 i
       obtain ⟨f,hf⟩ : ∃ f,ks.getD i 0 = f :=⟨_,rfl⟩
       obtain ⟨RA,hRA⟩ : ∃ e,restA ks i = e :=⟨_,rfl⟩
       obtain ⟨OA,hOA⟩ : ∃ e,outA ks i = e :=⟨_,rfl⟩
       obtain ⟨DA,hDA⟩ : ∃ e,ordA i = e :=⟨_,rfl⟩
       rw [hf] at hfq q1 r1 m1 m2 z1 z2 hmem hrs hos k5
       rw [hF0,he0] at k5 ⊢
       rw [hRA] at hrs hrl hrz ⊢
       rw [hOA] at hos hoz hol ⊢
       rw [hDA] at hds hdz hdl ⊢
       (repeat (refine a6 q9x0 hX a7 rfl ?_; (simp [go_sem,hil,q1]; try (refine ⟨by kernel_rfl,?_⟩))))
       first | refine a9 (r1) ?_ | refine aE (r1) ?_
       try (simp [go_sem,hil,q1]; try (refine ⟨by kernel_rfl,?_⟩))
       first | refine aJ (fun hg => m1) ?_ | refine aZ (fun hg => m1) ?_
       try (simp [go_sem,hil,q1]; try (refine ⟨by kernel_rfl,?_⟩))
       first | refine aJ (fun hg => m2) ?_ | refine aZ (fun hg => m2) ?_
       try (simp [go_sem,hil,q1]; try (refine ⟨by kernel_rfl,?_⟩))
       refine a8 (b :=decide (f < zr ∨ mr < f)) (by simp [go_sem,z1,z2]; try grind) (fun hd => ?_) (fun hd => ?_)
       · simp only [decide_eq_true_eq] at hd
         have e : V = .tup [.sl [],ii 1] :=by rw [← hV]; exact if_pos (.inr (.inr ⟨f,hmem,by rw [hmr2,hzr2]; exact hd⟩))
         rw [e]
         (repeat (refine a6 q9x0 hX a7 rfl ?_; (simp [go_sem]; try (refine ⟨by kernel_rfl,?_⟩))))
       · simp only [decide_eq_false_iff_not,not_or] at hd
         have hf0 : 0 ≤ f :=by rw [hzr2]; exact Rat.not_lt.1 hd.1
         have hfm : f ≤ most :=by rw [hmr2]; exact Rat.not_lt.1 hd.2
         obtain ⟨b1,b2⟩ :=pP (B :=4503599627370496) hf0 hfm
         have c1 :=A1 f.num f.den (eF hfq)
         have c2 :=JZ (z :=fl f) (by omega)
         have k3 :=J1 e0 (p :=fl f) (by omega)
         have k4 :=N3 e0 hfq hf0 b2
         have k5 :=k5 hf0
         obtain ⟨F1,hF1⟩ : ∃ F,svF ks (i + 1) = F :=⟨_,rfl⟩
         obtain ⟨e1,he1⟩ : ∃ e,ev ks (i + 1) = e :=⟨_,rfl⟩
         rw [hF1,he1] at k5
         have hrn : nth (RA ++ [frq (rs f)]) i = frq (rs f) :=oC hrl
         have hri : (i : Int) < (RA.length : Int) + 1 :=by omega
         have hri2 : i < RA.length + 1 :=by omega
         (repeat (refine a6 q9x0 hX a7 rfl ?_; (simp [go_sem,hil,q1]; try (refine ⟨by kernel_rfl,?_⟩))))
         first | refine a9 (c1) ?_ | refine aE (c1) ?_
         try (simp [go_sem]; try (refine ⟨by kernel_rfl,?_⟩))
         first | refine a9 (c2) ?_ | refine aE (c2) ?_
         try (simp [go_sem]; try (refine ⟨by kernel_rfl,?_⟩))
         (repeat (refine a6 q9x0 hX a7 rfl ?_; (simp [go_sem]; try (refine ⟨by kernel_rfl,?_⟩))))
         (repeat refine And.intro (by first | omega | (unfold maxLen; omega) | kernel_rfl | (refine ⟨by first | omega | (unfold maxLen; omega),by first | omega | (unfold maxLen; omega)⟩) | grind) ?_)
         (repeat (refine a6 q9x0 hX a7 rfl ?_; (simp [go_sem,hil,q1]; try (refine ⟨by kernel_rfl,?_⟩))))
         first | refine aG [0] (k3) (by simp [go_sem]) ?_ | refine aQ [0] (k3) (by simp [go_sem]) ?_ | refine aO [0] (k3) (by simp [go_sem]) ?_
         try (simp [go_sem]; try (refine ⟨by kernel_rfl,?_⟩))
         first | refine aG [0] (k4) (by simp [go_sem]) ?_ | refine aQ [0] (k4) (by simp [go_sem]) ?_ | refine aO [0] (k4) (by simp [go_sem]) ?_
         try (simp [go_sem]; try (refine ⟨by kernel_rfl,?_⟩))
         (repeat refine And.intro (by first | omega | (unfold maxLen; omega) | kernel_rfl | (refine ⟨by first | omega | (unfold maxLen; omega),by first | omega | (unfold maxLen; omega)⟩) | grind) ?_)
         (repeat (refine a6 q9x0 hX a7 rfl ?_; (simp [go_sem,hrn,hri,hri2]; try (refine ⟨by kernel_rfl,?_⟩))))
         first | refine aG [0] (k5) (by simp [go_sem]) ?_ | refine aQ [0] (k5) (by simp [go_sem]) ?_ | refine aO [0] (k5) (by simp [go_sem]) ?_
         try (simp [go_sem]; try (refine ⟨by kernel_rfl,?_⟩))
         (repeat refine And.intro (by first | omega | (unfold maxLen; omega) | kernel_rfl | (refine ⟨by first | omega | (unfold maxLen; omega),by first | omega | (unfold maxLen; omega)⟩) | grind) ?_)
         (repeat (refine a6 q9x0 hX a7 rfl ?_; (simp [go_sem,wi]; try (refine ⟨by kernel_rfl,?_⟩))))
         refine ⟨i + 1,⟨by omega,sY hp hf hf0 hfm⟩,by omega,?_⟩
         · rw [hF1,he1,hrs,hos,hds]
           refine aA _ [.old 0 ⟨55,1,[.agg [ii e1]]⟩,.old 1 ⟨62,4,[fv F1]⟩,.old 2 ⟨62,4,[frq zr]⟩,.old 3 ⟨62,4,[frq mr]⟩,.old 4 ⟨43,1,[.ow 5]⟩,.old 14 ⟨62,4,RA ++ [frq (rs f)]⟩,.old 10 ⟨3,1,OA ++ [ii (fl f)]⟩,.old 12 ⟨3,1,DA ++ [ii (i : Int)]⟩] (by simp [go_sem,hrz,hoz,hdz]) ?_
           simp [go_sem]
     · have hin : i = ks.length :=by omega
       rcases hT with rfl | ⟨x,T',rfl,hx⟩
       · simp at hb; omega
       · have q1 : nth (ks.map frq ++ fv x :: T') i = fv x :=oC (by simp [hin])
         have hil : (i : Int) < (ks.length : Int) + ((T'.length : Int) + 1) :=by simp at hb; omega
         have e : V = .tup [.sl [],ii 1] :=by rw [← hV]; exact if_pos (.inr (.inl (by simp)))
         (repeat (refine a6 q9x0 hX a7 rfl ?_; (simp [go_sem,hil,q1]; try (refine ⟨by kernel_rfl,?_⟩))))
         first | refine a9 (hx) ?_ | refine aE (hx) ?_
         try (simp [go_sem,hil,q1]; try (refine ⟨by kernel_rfl,?_⟩))
         try first | refine cB rfl ?_ | refine bY rfl ?_
         try (simp [go_sem,hil,q1]; try (refine ⟨by kernel_rfl,?_⟩))
         try first | refine cB rfl ?_ | refine bY rfl ?_
         try (simp [go_sem,hil,q1]; try (refine ⟨by kernel_rfl,?_⟩))
         refine a8 (b :=true) (by simp [go_sem]) (fun _ => ?_) (fun h => by cases h)
         rw [e]
         (repeat (refine a6 q9x0 hX a7 rfl ?_; (simp [go_sem]; try (refine ⟨by kernel_rfl,?_⟩))))
   · simp only [decide_eq_false_iff_not] at hb
     have hin : i = ks.length :=by omega
     have hT0 : T = [] :=List.eq_nil_of_length_eq_zero (by omega)
     subst hin hT0
     have hcB : ¬ ((ks.length + ([] : List AV).length = 0 ∨ 12 < ks.length + ([] : List AV).length) ∨ cArg ks []) :=fun h => by
      rcases h with h | h | ⟨k,hk,h⟩
      · exact hlen h
      · exact h rfl
      · obtain ⟨j,hj,rfl⟩ :=List.getElem_of_mem hk
        have :=hp j hj
        rw [List.getD_eq_getElem?_getD,List.getElem?_eq_getElem hj] at this
        have h1 : 0 ≤ ks[j] :=this.1
        have h2 : ks[j] ≤ most :=this.2
        rcases h with h | h
        · exact absurd h (Rat.not_lt.2 h1)
        · exact absurd h (Rat.not_lt.2 h2)
     by_cases hs : okS ks ks.length
     · have e1 : svF ks ks.length = frR (rsum ks ks.length) :=if_pos hs
       have e2 : ev ks ks.length = 0 :=if_pos hs
       have hsq :=oB hs
       obtain ⟨b1,b2⟩ :=l6 ks ks.length
       obtain ⟨b3,b4⟩ :=pP (B :=(ks.length : Int)) b1 b2
       have hV2 : V = if rsum ks ks.length = ((fl (rsum ks ks.length) : Int) : Rat) then .tup [il (coinL ks),ii 0] else .tup [.sl [],ii 1] :=by
        rw [← hV]; unfold coinV; rw [if_neg hcB,if_pos hs]
       have hcl : coinL ks = bumps (ks.map fl) ((srt (B.kf (ks.map rs)) (idxI ks.length)).take (fl (rsum ks ks.length)).toNat) :=rfl
       have c1 :=A1 (rsum ks ks.length).num (rsum ks ks.length).den (eF hsq)
       have c2 :=JZ (z :=fl (rsum ks ks.length)) (by omega)
       have k3 :=J1 0 (p :=fl (rsum ks ks.length)) (by omega)
       have hlq : rq ((fl (rsum ks ks.length) : Int) : Rat) :=by
        have :=rL (p :=fl (rsum ks ks.length)) (q :=1) (by omega) (by decide) (by decide)
        rwa [n9] at this
       have m1 :=jZ hsq hlq
       have z1 :=IM (rsum ks ks.length) ((fl (rsum ks ks.length) : Int) : Rat)
       have hrz :=iE ks ks.length
       have hoz :=k8 ks ks.length
       have hdz :=t4 ks.length
       have hrf : restA ks ks.length = (ks.map rs).map frq :=qM ks
       have hof :=t3 ks
       have hdf :=D7 ks.length
       have hfq : ∀ v ∈ ks.map fl,0 ≤ v ∧ v ≤ 4503599627370496 :=fun v hv => by
        obtain ⟨k,hk,rfl⟩ :=List.mem_map.1 hv
        obtain ⟨j,hj,rfl⟩ :=List.getElem_of_mem hk
        have :=hp j hj
        rw [List.getD_eq_getElem?_getD,List.getElem?_eq_getElem hj] at this
        exact pP this.1 this.2
       have hrl : (ks.map rs).length = ks.length :=by simp
       have hS :=B.sortS_m (idxI ks.length) (ks.map rs) (dZ _) (fun i j hi hj hij => EY _ i j hi hj hij) (fun x hx => by rw [hrl]; exact fF.1 hx) (by rw [iX]; omega) (by rw [hrl]; omega) (fun r hr => by
        obtain ⟨k,hk,rfl⟩ :=List.mem_map.1 hr
        obtain ⟨j,hj,rfl⟩ :=List.getElem_of_mem hk
        have :=hp j hj
        rw [List.getD_eq_getElem?_getD,List.getElem?_eq_getElem hj] at this
        exact BF (hq _ hk) this.1)
       obtain ⟨O,hO⟩ : ∃ O,srt (B.kf (ks.map rs)) (idxI ks.length) = O :=⟨_,rfl⟩
       rw [hO] at hS hcl
       have hOl : O.length = ks.length :=by rw [← hO,v5,iX]
       have hOm : ∀ x ∈ O,0 ≤ x ∧ x < ks.length :=fun x hx => by
        rw [← hO] at hx
        exact fF.1 ((dN _ _).mem_iff.1 hx)
       have hQl : (ks.map fl).length = ks.length :=by simp
       obtain ⟨m,hm⟩ : ∃ m : Nat,(m : Int) = fl (rsum ks ks.length) :=⟨(fl (rsum ks ks.length)).toNat,by omega⟩
       have hmt : (fl (rsum ks ks.length)).toNat = m :=by omega
       rw [hmt] at hcl
       rw [← hm] at c2 k3 m1 z1 hV2 b3 b4
       have c1 : Means false Tryz.prog 37 [frq (rsum ks ks.length)] (bigZ (m : Int)) :=by rw [hm]; exact c1
       rw [e1,e2,hrf,hof,hdf]
       rw [hrf] at hrz
       rw [hof] at hoz
       rw [hdf] at hdz
       generalize ks.map rs = R at *
       generalize ks.map fl = Q at *
       generalize idxI ks.length = I at *
       generalize rsum ks ks.length = su at *
       (repeat (refine a6 q9x0 hX a7 rfl ?_; (simp [go_sem]; try (refine ⟨by kernel_rfl,?_⟩))))
       refine a8 (b :=false) (by simp [go_sem]) (fun h => by cases h) (fun _ => ?_)
       (repeat (refine a6 q9x0 hX a7 rfl ?_; (simp [go_sem]; try (refine ⟨by kernel_rfl,?_⟩))))
       first | refine a9 (c1) ?_ | refine aE (c1) ?_
       try (simp [go_sem]; try (refine ⟨by kernel_rfl,?_⟩))
       first | refine a9 (c2) ?_ | refine aE (c2) ?_
       try (simp [go_sem]; try (refine ⟨by kernel_rfl,?_⟩))
       (repeat (refine a6 q9x0 hX a7 rfl ?_; (simp [go_sem]; try (refine ⟨by kernel_rfl,?_⟩))))
       first | refine aG [0] (k3) (by simp [go_sem]) ?_ | refine aQ [0] (k3) (by simp [go_sem]) ?_ | refine aO [0] (k3) (by simp [go_sem]) ?_
       try (simp [go_sem]; try (refine ⟨by kernel_rfl,?_⟩))
       (repeat (refine a6 q9x0 hX a7 rfl ?_; (simp [go_sem]; try (refine ⟨by kernel_rfl,?_⟩))))
       first | refine a9 (m1) ?_ | refine aE (m1) ?_
       try (simp [go_sem]; try (refine ⟨by kernel_rfl,?_⟩))
       refine a8 (b :=!decide (su = (((m : Nat) : Int) : Rat))) (by simp [go_sem,z1,bne]; try grind) (fun hd => ?_) (fun hd => ?_)
       · have e : V = .tup [.sl [],ii 1] :=by rw [hV2]; exact if_neg (by simpa using hd)
         rw [e]
         (repeat (refine a6 q9x0 hX a7 rfl ?_; (simp [go_sem]; try (refine ⟨by kernel_rfl,?_⟩))))
       simp only [Bool.not_eq_false',decide_eq_true_eq] at hd
       have e : V = .tup [il (coinL ks),ii 0] :=by rw [hV2]; exact if_pos hd
       refine eR (aA [(8,.ow 2),(9,.ow 1),(10,.el 0 1 0 0),(15,ii (m : Int))] [.old 4 ⟨43,1,[.sl (R.map frq)]⟩,.old 7 ⟨3,1,I.map ii⟩,.old 6 ⟨3,1,Q.map ii⟩] (by simp [go_sem,hrz]) (by simp [go_sem])) ?_
       simp only [List.map_cons,List.map_nil,Src.cell]
       have hmO : m ≤ O.length :=by omega
       have hmO2 : (m : Int) ≤ (O.length : Int) :=by omega
       (repeat (refine a6 q9x0 hX a7 rfl ?_; (simp [go_sem]; try (refine ⟨by kernel_rfl,?_⟩))))
       first | refine aG [1,0] (hS) (by simp [go_sem]) ?_ | refine aQ [1,0] (hS) (by simp [go_sem]) ?_ | refine aO [1,0] (hS) (by simp [go_sem]) ?_
       try (simp [go_sem]; try (refine ⟨by kernel_rfl,?_⟩))
       (repeat (refine a6 q9x0 hX a7 rfl ?_; (simp [go_sem,hmO,hmO2]; try (refine ⟨by kernel_rfl,?_⟩))))
       refine aF (fun j : Nat => ⟨mkE [(8,.ow 0),(114,.wn 1 1 0 m),(115,ii m),(116,ii j)],[rowI (bumps Q (O.take j)),rowI O]⟩) (fun j => j ≤ m) (fun j => m - j) 0 ?_ ?_ ?_
       · refine aA _ [.old 2 ⟨3,1,Q.map ii⟩,.old 1 ⟨3,1,O.map ii⟩] (by simp [go_sem,bumps]) ?_
         simp [go_sem,bumps]
       · omega
       · intro j hj
         have hbl :=eX (O.take j) Q
         (repeat (refine a6 q9x0 hX a7 rfl ?_; (simp [go_sem]; try (refine ⟨by kernel_rfl,?_⟩))))
         refine a8 (b :=decide (j < m)) (by simp [go_sem]) (fun hc => ?_) (fun hc => ?_)
         · simp at hc
           have hjO : j < O.length :=by omega
           have hx :=hOm O[j] (List.getElem_mem hjO)
           have hbs :=pQ (L :=Q) hjO
           obtain ⟨p,hp⟩ : ∃ p : Nat,O[j] = (p : Int) :=⟨O[j].toNat,by omega⟩
           obtain ⟨B,hB⟩ : ∃ B,bumps Q (O.take j) = B :=⟨_,rfl⟩
           rw [hp] at hx hbs
           have hbd :=pR (O.take j) hfq
           rw [hB] at hbl hbs hbd ⊢
           have hpB : p < B.length :=by omega
           have hbd : 0 ≤ B[p] ∧ B[p] ≤ 4503599627370496 + 12 :=by
            have :=hbd B[p] (List.getElem_mem _)
            rw [List.length_take] at this
            omega
           have hbe : bump B (p : Int) = B.set p (B[p] + 1) :=by
            unfold bump
            rw [Int.toNat_natCast,List.getD_eq_getElem?_getD,List.getElem?_eq_getElem hpB]; rfl
           (repeat (refine a6 q9x0 hX a7 rfl ?_; (simp [go_sem,hc,hjO,hp,hpB]; (try simp (disch :=omega) only [w64,td,tm]); try (refine ⟨by kernel_rfl,?_⟩))))
           (repeat refine And.intro (by first | omega | (unfold maxLen; omega) | kernel_rfl | (refine ⟨by first | omega | (unfold maxLen; omega),by first | omega | (unfold maxLen; omega)⟩) | grind) ?_)
           (repeat (refine a6 q9x0 hX a7 rfl ?_; (simp [go_sem,hc,hjO,hp,hpB]; (try simp (disch :=omega) only [w64,td,tm]); try (refine ⟨by kernel_rfl,?_⟩))))
           refine ⟨j + 1,by omega,by omega,?_⟩
           rw [hbs,hbe]
           refine aA _ [.old 0 ⟨3,1,(B.set p (B[p] + 1)).map ii⟩,.old 1 ⟨3,1,O.map ii⟩] (by simp [go_sem]) ?_
           simp [go_sem]
           try omega
         · have : j = m :=by simp at hc; omega
           subst this
           (repeat (refine a6 q9x0 hX a7 rfl ?_; (simp [go_sem]; try (refine ⟨by kernel_rfl,?_⟩))))
           rw [e,hcl]
           (repeat (refine a6 q9x0 hX a7 rfl ?_; (simp [go_sem]; try (refine ⟨by kernel_rfl,?_⟩))))
     · have e2 : ev ks ks.length = 6 :=if_neg hs
       have e : V = .tup [.sl [],ii 6] :=by
        rw [← hV]; unfold coinV
        rw [if_neg (hcB),if_neg hs]
       rw [e2,e]
       (repeat (refine a6 q9x0 hX a7 rfl ?_; (simp [go_sem]; try (refine ⟨by kernel_rfl,?_⟩))))
       refine a8 (b :=true) (by simp [go_sem]) (fun _ => ?_) (fun h => by cases h)
       (repeat (refine a6 q9x0 hX a7 rfl ?_; (simp [go_sem]; try (refine ⟨by kernel_rfl,?_⟩))))
end Go.Proofs.YtknbcehhjffndaaGreat

