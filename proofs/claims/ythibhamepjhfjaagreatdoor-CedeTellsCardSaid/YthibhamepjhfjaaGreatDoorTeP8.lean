/-
  Lemmas for the statement at the top.
-/
import Derived.Test.YthibhamepjhfjaaGreatDoorTeP7
set_option linter.all false
namespace Go.Proofs.YthibhamepjhfjaaGreatDoor
open Go.RowKit Go.Ab
def q21x0 : List Nat :=[0,1,2,3,5,10,11,12,13,21,24]
def q21x1 : List Nat :=[0,1,2,3,4,5,6,7,8,9,20,44]
def q21x2 : List Nat :=[0,1,2,3,4,5,6,7,9,17,29]
def q21x3 : List Nat :=[0,2,3,5,6,7,8,9,14]
def q21x4 : List Nat :=[0,1,2,3,4,5,13,18,40]
def q21x5 : List Nat :=[0,1,2,3,4,12,17]
attribute [go_sem] q21x0 q21x1 q21x2 q21x3 q21x4 q21x5
attribute [local irreducible] AWP Go.Ab.Sub Means MeansH CallK CallG CallT CallGT
def ab (z : Int) : Int :=if z < 0 then -z else z
def sg (z : Int) : Int :=if z < 0 then -1 else if 0 < z then 1 else 0
abbrev big2 (s : Int) (L : List Int) : AV :=.agg [ii s,il L]
abbrev bigZ (z : Int) : AV :=big2 (sg z) (dg (ab z))
def rz (z : Int) : Prop :=ab z < 1048576 ^ 60
def isR (s : Int) (L : List Int) : Prop :=okD L ∧ (L.length = 0 → s = 0) ∧ ∀ h : 0 < L.length,(s = 1 ∨ s = -1) ∧ L.length ≤ 60 ∧ L[L.length - 1]'(by omega) ≠ 0
noncomputable instance (s : Int) (L : List Int) : Decidable (isR s L) :=Classical.propDecidable _
noncomputable instance (z : Int) : Decidable (rz z) :=Classical.propDecidable _
theorem aV (z : Int) : 0 ≤ ab z :=by unfold ab; split <;> omega
theorem wI (z : Int) : sg z * ab z = z :=by
 unfold sg ab
 split
 · omega
 · split
   · omega
   · omega
theorem lQ {z : Int} (h : rz z) : isR (sg z) (dg (ab z)) :=by
 refine ⟨aO _,fun hl => ?_,fun hl => ⟨?_,(aR 60).2 h,?_⟩⟩
 · have :=cB.1 (List.length_eq_zero_iff.1 hl)
   have :=aV z
   unfold ab at *; unfold sg
   split <;> split at * <;> omega
 · have hz : z ≠ 0 :=by
    intro h0; subst h0
    have : dg (ab 0) = [] :=rfl
    rw [this] at hl; simp at hl
   unfold sg
   split
   · exact .inr rfl
   · rw [if_pos (by omega)]; exact .inl rfl
 · have :=tJ (ab z) (by intro e; rw [e] at hl; simp at hl)
   rwa [List.getLast_eq_getElem] at this
theorem H0 {L : List Int} (ho : okD L) (h : ∀ hl : 0 < L.length,L[L.length - 1]'(by omega) ≠ 0) : dg (val L) = L :=by
 refine EO ho fun hl => ?_
 rw [List.getLast_eq_getElem]
 exact h (List.length_pos_iff.2 hl)
theorem pQ {s : Int} {L : List Int} (h : isR s L) : ∃ z,rz z ∧ s = sg z ∧ L = dg (ab z) :=by
 obtain ⟨h1,h2,h3⟩ :=h
 have hd :=H0 h1 fun hl => (h3 hl).2.2
 have hv :=aT h1
 by_cases hl : 0 < L.length
 · obtain ⟨hs,hlen,hne⟩ :=h3 hl
   have hp : 0 < val L :=by
    refine Decidable.byContradiction fun hn => ?_
    rw [gU (by omega)] at hd
    rw [← hd] at hl; simp at hl
   have hr : val L < 1048576 ^ 60 :=(aR 60).1 (by rw [hd]; exact hlen)
   rcases hs with rfl | rfl
   · refine ⟨val L,?_,?_,?_⟩
     · unfold rz ab; rw [if_neg (by omega)]; exact hr
     · unfold sg; rw [if_neg (by omega),if_pos hp]
     · unfold ab; rw [if_neg (by omega),hd]
   · refine ⟨-val L,?_,?_,?_⟩
     · unfold rz ab; rw [if_pos (by omega),Int.neg_neg]; exact hr
     · unfold sg; rw [if_pos (by omega)]
     · unfold ab; rw [if_pos (by omega),Int.neg_neg,hd]
 · have h0 : L = [] :=List.length_eq_zero_iff.1 (by omega)
   subst h0
   exact ⟨0,by unfold rz ab; simp,h2 rfl,rfl⟩
set_option maxHeartbeats 4000000 in
set_option maxRecDepth 20000 in
theorem l4 (s : Int) (L : List Int) (hl : L.length ≤ 9223372036854775807) : Means false Tryz.prog 61 [big2 s L] (bb (decide (isR s L))) :=by
 refine aF false 49 [.tmp 2] Tryz.func61 rfl rfl rfl (by simp) (by decide) rfl fun X hX => ?_
 (repeat (refine a7 q21x0 hX mixed rfl ?_;simp [go_sem]; (try simp (disch :=omega) only [w64,td,tm]);try refine ⟨by kernel_rfl,?_⟩))
 refine aH (fun n : Nat => ⟨mkE [(1,.el 0 2 0 0),(3,ii L.length),(10,il L),(11,ii L.length),(12,ii n)],[.row ⟨39,2,[big2 s L]⟩]⟩) (fun n => n ≤ L.length ∧ okD (L.take n)) (fun n => L.length - n) 0 ?_ ?_ ?_
 · refine aG _ [.old 0 ⟨39,2,[big2 s L]⟩] (by simp [go_sem]) ?_
   simp [go_sem]
 · exact ⟨Nat.zero_le _,by simp [okD]⟩
 · rintro n ⟨hn,hok⟩
   (repeat (refine a7 q21x0 hX mixed rfl ?_;simp [go_sem];try refine ⟨by kernel_rfl,?_⟩))
   refine aB (b :=decide (n < L.length)) (by simp [go_sem]) (fun hd => ?_) (fun hd => ?_)
   · simp at hd
     (repeat (refine a7 q21x0 hX mixed rfl ?_;simp [go_sem,hd]; (try simp (disch :=omega) only [w64,td,tm]);try refine ⟨by kernel_rfl,?_⟩))
     by_cases h0 : 0 ≤ L[n] ∧ L[n] < 1048576
     · have h1 : ¬ L[n] < 0 :=by omega
       have h2 : ¬ 1048575 < L[n] :=by omega
       (repeat (refine a7 q21x0 hX mixed rfl ?_;simp [go_sem,hd,h1,h2]; (try simp (disch :=omega) only [w64,td,tm]);try refine ⟨by kernel_rfl,?_⟩))
       try (simp [go_sem,hd,h1,h2];try refine ⟨by kernel_rfl,?_⟩)
       refine aB (b :=false) (by simp [go_sem]) (fun hb => by cases hb) (fun _ => ?_)
       (repeat (refine a7 q21x0 hX mixed rfl ?_;simp [go_sem]; (try simp (disch :=omega) only [w64,td,tm]);try refine ⟨by kernel_rfl,?_⟩))
       refine ⟨n + 1,⟨by omega,?_⟩,by omega,?_⟩
       · rw [List.take_succ_eq_append_getElem hd]
         exact eD.2 ⟨hok,by simp [okD]; exact h0⟩
       · refine aG _ [.old 0 ⟨39,2,[big2 s L]⟩] (by simp [go_sem]) ?_
         simp [go_sem]
     · have hno : ¬ isR s L :=fun h => h0 (bH h.1 hd)
       by_cases h1 : L[n] < 0
       · (repeat (refine a7 q21x0 hX mixed rfl ?_;simp [go_sem,hd,h1]; (try simp (disch :=omega) only [w64,td,tm]);try refine ⟨by kernel_rfl,?_⟩))
         try (simp [go_sem,hd,h1];try refine ⟨by kernel_rfl,?_⟩)
         refine aB (b :=true) (by simp [go_sem]) (fun _ => ?_) (fun hb => by cases hb)
         (repeat (refine a7 q21x0 hX mixed rfl ?_;simp [go_sem,hno];try refine ⟨by kernel_rfl,?_⟩))
       · have h2 : 1048575 < L[n] :=by omega
         (repeat (refine a7 q21x0 hX mixed rfl ?_;simp [go_sem,hd,h1,h2]; (try simp (disch :=omega) only [w64,td,tm]);try refine ⟨by kernel_rfl,?_⟩))
         try (simp [go_sem,hd,h1,h2];try refine ⟨by kernel_rfl,?_⟩)
         refine aB (b :=true) (by simp [go_sem]) (fun _ => ?_) (fun hb => by cases hb)
         (repeat (refine a7 q21x0 hX mixed rfl ?_;simp [go_sem,hno];try refine ⟨by kernel_rfl,?_⟩))
   · have hnl : n = L.length :=by simp at hd; omega
     subst hnl
     rw [List.take_length] at hok
     (repeat (refine a7 q21x0 hX mixed rfl ?_;simp [go_sem]; (try simp (disch :=omega) only [w64,td,tm]);try refine ⟨by kernel_rfl,?_⟩))
     refine aB (b :=decide (L.length = 0)) (by simp [go_sem]; try omega) (fun hb => ?_) (fun hb => ?_)
     · simp only [decide_eq_true_eq] at hb
       have e : isR s L ↔ s = 0 :=⟨fun h => h.2.1 hb,fun h => ⟨hok,fun _ => h,fun h => by omega⟩⟩
       (repeat (refine a7 q21x0 hX mixed rfl ?_;simp [go_sem];try refine ⟨by kernel_rfl,?_⟩))
       simp only [e]
     · simp only [decide_eq_false_iff_not] at hb
       have hlp : 0 < L.length :=by omega
       have e : isR s L ↔ (s = 1 ∨ s = -1) ∧ L.length ≤ 60 ∧ L[L.length - 1] ≠ 0 :=⟨fun h => h.2.2 hlp,fun h => ⟨hok,fun h => by omega,fun _ => h⟩⟩
       have hc : ((L.length : Int) - 1).toNat = L.length - 1 :=by omega
       have hc1 : 1 ≤ (L.length : Int) :=by omega
       have hc2 : (L.length : Int) - 1 < L.length :=by omega
       have hc3 : L.length - 1 < L.length :=by omega
       have hw1 :=w64 (x :=(L.length : Int) - 1) (by omega) (by omega)
       by_cases h1 : s = 1
       · subst h1
         by_cases h3 : L.length ≤ 60
         · have h4 : (L.length : Int) ≤ 60 :=by omega
           (repeat (refine a7 q21x0 hX mixed rfl ?_;simp [go_sem,hc,hc1,hc2,hc3,hw1,h3];try refine ⟨by kernel_rfl,?_⟩))
           simp [e,h3,h4]
         · have h4 : ¬ (L.length : Int) ≤ 60 :=by omega
           (repeat (refine a7 q21x0 hX mixed rfl ?_;simp [go_sem,hc,hc1,hc2,hc3,hw1,h3];try refine ⟨by kernel_rfl,?_⟩))
           simp [e,h3,h4]
       · by_cases h2 : s = -1
         · subst h2
           by_cases h3 : L.length ≤ 60
           · have h4 : (L.length : Int) ≤ 60 :=by omega
             (repeat (refine a7 q21x0 hX mixed rfl ?_;simp [go_sem,hc,hc1,hc2,hc3,hw1,h3];try refine ⟨by kernel_rfl,?_⟩))
             simp [e,h3,h4]
           · have h4 : ¬ (L.length : Int) ≤ 60 :=by omega
             (repeat (refine a7 q21x0 hX mixed rfl ?_;simp [go_sem,hc,hc1,hc2,hc3,hw1,h3];try refine ⟨by kernel_rfl,?_⟩))
             simp [e,h3,h4]
         · (repeat (refine a7 q21x0 hX mixed rfl ?_;simp [go_sem,hc,hc1,hc2,hc3,hw1,h1,h2];try refine ⟨by kernel_rfl,?_⟩))
           simp [e,h1,h2]
theorem cT (s : Int) (L : List Int) (z : Int) (hl : L.length ≤ 100000) (ho : okD L) (hz : ab z = val L) (hs : val L ≠ 0 → sg z = s) : Means false Tryz.prog 88 [ii s,il L] (bigZ z) :=by
 refine aF false 14 [.cell 4 39] Tryz.func88 rfl rfl rfl (by simp) (by decide) rfl fun X hX => ?_
 (repeat (refine a7 [0,1,4,9] hX mixed rfl ?_;simp [go_sem];try refine ⟨by kernel_rfl,?_⟩))
 first | refine a8 (EP L hl ho) ?_ | refine aA (EP L hl ho) ?_
 try (simp [go_sem];try refine ⟨by kernel_rfl,?_⟩)
 (repeat (refine a7 [0,1,4,9] hX mixed rfl ?_;simp [go_sem];try refine ⟨by kernel_rfl,?_⟩))
 have hv :=aT ho
 refine aB (b :=decide (val L = 0)) (by simp [go_sem,cB]; omega) (fun hb => ?_) (fun hb => ?_)
 · simp at hb
   have : z = 0 :=by unfold ab at hz; split at hz <;> omega
   subst this
   (repeat (refine a7 [0,1,4,9] hX mixed rfl ?_;simp [go_sem];try refine ⟨by kernel_rfl,?_⟩))
   simp [ab,jC]
 · simp at hb
   have hs2 :=hs hb
   (repeat (refine a7 [0,1,4,9] hX mixed rfl ?_;simp [go_sem,hs2,hz];try refine ⟨by kernel_rfl,?_⟩))
theorem z0 : bigZ 0 = big2 0 [] :=rfl
theorem BZ (z : Int) (hl : (dg (ab z)).length ≤ 100000) : Means false Tryz.prog 96 [bb true,bigZ z] (.tup [bigZ (if rz z then z else 0),ii (if rz z then 0 else 6)]) :=by
 refine aF false 17 [.cell 4 39,.tmp 5] Tryz.func96 rfl rfl rfl (by simp) (by decide) rfl fun X hX => ?_
 (repeat (refine a7 [0,1,3,4,5,6,10] hX mixed rfl ?_;simp [go_sem];try refine ⟨by kernel_rfl,?_⟩))
 refine aB (b :=false) (by simp [go_sem]) (fun hb => by cases hb) (fun _ => ?_)
 (repeat (refine a7 [0,1,3,4,5,6,10] hX mixed rfl ?_;simp [go_sem]; (try simp (disch :=omega) only [w64,td,tm]);try refine ⟨by kernel_rfl,?_⟩))
 have e : rz z ↔ (dg (ab z)).length ≤ 60 :=(aR 60).symm
 refine aB (b :=decide (¬ rz z)) (by simp [go_sem,e]; try omega) (fun hb => ?_) (fun hb => ?_)
 · simp at hb
   (repeat (refine a7 [0,1,3,4,5,6,10] hX mixed rfl ?_;simp [go_sem];try refine ⟨by kernel_rfl,?_⟩))
   simp [hb]
   exact ⟨rfl,rfl⟩
 · simp at hb
   (repeat (refine a7 [0,1,3,4,5,6,10] hX mixed rfl ?_;simp [go_sem];try refine ⟨by kernel_rfl,?_⟩))
   simp [hb]
end Go.Proofs.YthibhamepjhfjaaGreatDoor

namespace Go.Proofs.YthibhamepjhfjaaGreatDoor
open Go.RowKit Go.Ab
attribute [local irreducible] AWP Go.Ab.Sub Means MeansH CallK CallG CallT CallGT
theorem aE (z : Int) : (sg z = -1 ∧ z < 0 ∧ ab z = -z) ∨ (sg z = 0 ∧ z = 0 ∧ ab z = 0) ∨ (sg z = 1 ∧ 0 < z ∧ ab z = z) :=by
 unfold sg ab
 by_cases h : z < 0
 · rw [if_pos h,if_pos h]; exact .inl ⟨rfl,h,rfl⟩
 · by_cases h2 : 0 < z
   · rw [if_neg h,if_pos h2,if_neg h]; exact .inr (.inr ⟨rfl,h2,rfl⟩)
   · rw [if_neg h,if_neg h2,if_neg h]; exact .inr (.inl ⟨rfl,by omega,by omega⟩)
theorem fC (z : Int) : -1 ≤ sg z ∧ sg z ≤ 1 :=by rcases aE z with h | h | h <;> omega
theorem tK (z : Int) : sg (-z) = -sg z :=by rcases aE z with h | h | h <;> rcases aE (-z) with h2 | h2 | h2 <;> omega
theorem pN (z : Int) : ab (-z) = ab z :=by rcases aE z with h | h | h <;> rcases aE (-z) with h2 | h2 | h2 <;> omega
theorem EQ {z s t : Int} (h : z = s * t) (ht : 0 < t) (hs : s = 1 ∨ s = -1) : sg z = s ∧ ab z = t :=by
 rcases hs with rfl | rfl
 · rcases aE z with h2 | h2 | h2 <;> omega
 · rcases aE z with h2 | h2 | h2 <;> omega
theorem pP (z w : Int) : ab (z * w) = ab z * ab w :=by
 rcases aE z with ⟨_,hz,e1⟩ | ⟨_,rfl,e1⟩ | ⟨_,hz,e1⟩
 · rcases aE w with ⟨_,hw,e2⟩ | ⟨_,rfl,e2⟩ | ⟨_,hw,e2⟩
   · have :=Int.mul_pos_of_neg_of_neg hz hw
     rw [e1,e2,Int.neg_mul_neg,ab,if_neg (by omega)]
   · rw [e2,Int.mul_zero,Int.mul_zero]; rfl
   · have :=Int.mul_neg_of_neg_of_pos hz hw
     rw [e1,e2,Int.neg_mul,ab,if_pos (by omega)]
 · rw [e1,Int.zero_mul,Int.zero_mul]; rfl
 · rcases aE w with ⟨_,hw,e2⟩ | ⟨_,rfl,e2⟩ | ⟨_,hw,e2⟩
   · have :=Int.mul_neg_of_pos_of_neg hz hw
     rw [e1,e2,Int.mul_neg,ab,if_pos (by omega)]
   · rw [e2,Int.mul_zero,Int.mul_zero]; rfl
   · have :=Int.mul_pos hz hw
     rw [e1,e2,ab,if_neg (by omega)]
theorem iR (z w : Int) : sg (z * w) = sg z * sg w :=by
 rcases aE z with ⟨e1,hz,_⟩ | ⟨e1,rfl,_⟩ | ⟨e1,hz,_⟩
 · rcases aE w with ⟨e2,hw,_⟩ | ⟨e2,rfl,_⟩ | ⟨e2,hw,_⟩
   · have :=Int.mul_pos_of_neg_of_neg hz hw
     rw [e1,e2,sg,if_neg (by omega),if_pos (by omega)]; rfl
   · rw [e2,Int.mul_zero,Int.mul_zero]; rfl
   · have :=Int.mul_neg_of_neg_of_pos hz hw
     rw [e1,e2,sg,if_pos (by omega)]; rfl
 · rw [e1,Int.zero_mul,Int.zero_mul]; rfl
 · rcases aE w with ⟨e2,hw,_⟩ | ⟨e2,rfl,_⟩ | ⟨e2,hw,_⟩
   · have :=Int.mul_neg_of_pos_of_neg hz hw
     rw [e1,e2,sg,if_pos (by omega)]; rfl
   · rw [e2,Int.mul_zero,Int.mul_zero]; rfl
   · have :=Int.mul_pos hz hw
     rw [e1,e2,sg,if_neg (by omega),if_pos (by omega)]; rfl
theorem aS (z : Int) : val (dg (ab z)) = ab z :=bF (aV z)
theorem mJ {n : Int} (h : 0 ≤ n) : dg (val (dg n)) = dg n :=by rw [bF h]
theorem bQ {z : Int} (h : rz z) : (dg (ab z)).length ≤ 60 :=(aR 60).2 h
noncomputable def r60 (x : Int) : Int :=if rz x then x else 0
noncomputable def e60 (x : Int) : Int :=if rz x then 0 else 6
noncomputable abbrev res (x : Int) : AV :=.tup [bigZ (r60 x),ii (e60 x)]
theorem cN {x : Int} (h : rz x) : r60 x = x :=if_pos h
theorem yE {x : Int} (h : rz x) : e60 x = 0 :=if_pos h
theorem tQ (z : Int) (hl : (dg (ab z)).length ≤ 100000) : Means false Tryz.prog 96 [bb true,bigZ z] (res z) :=BZ z hl
theorem bB (z : Int) (h : rz z) : Means false Tryz.prog 61 [bigZ z] (bb true) :=by
 have :=l4 (sg z) (dg (ab z)) (by have :=bQ h; omega)
 have e : decide (isR (sg z) (dg (ab z))) = true :=decide_eq_true (lQ h)
 rwa [e] at this
theorem yJ {a b : Int} {m n : Nat} (ha : 0 ≤ a) (hb : 0 ≤ b) (h1 : (dg a).length ≤ m) (h2 : (dg b).length ≤ n) : (dg (a * b)).length ≤ m + n :=by
 rw [aR] at h1 h2 ⊢
 rw [Int.pow_add]
 by_cases h0 : b = 0
 · subst h0
   rw [Int.mul_zero]
   exact Int.mul_pos (bV m) (bV n)
 · exact Int.mul_lt_mul h1 (by omega) (by omega) (by have :=bV m; omega)
set_option maxHeartbeats 4000000 in
set_option maxRecDepth 20000 in
theorem I5 (z w : Int) (hz : rz z) (hw : rz w) : Means false Tryz.prog 64 [bigZ z,bigZ w] (res (z * w)) :=by
 have hlz :=bQ hz
 have hlw :=bQ hw
 have hs :=iR z w
 have hb :=fC (z * w)
 have hww :=w64 (x :=sg z * sg w) (by omega) (by omega)
 have hmul :=I4 (dg (ab z)) (dg (ab w)) (aO _) (aO _) (by omega) (by omega)
 rw [aS,aS] at hmul
 have hll :=yJ (aV z) (aV w) hlz hlw
 have hp : 0 ≤ ab z * ab w :=Int.mul_nonneg (aV z) (aV w)
 have hsgn :=cT (sg z * sg w) (dg (ab z * ab w)) (z * w) (by omega) (aO _) (by rw [bF hp,pP]) (fun _ => hs)
 have hch :=tQ (z * w) (by rw [pP]; omega)
 refine aF false 32 [.cell 4 39,.tmp 5] Tryz.func64 rfl rfl rfl (by simp) (by decide) rfl fun X hX => ?_
 (repeat (refine a7 [0,1,2,3,4,5,13] hX mixed rfl ?_;simp [go_sem];try refine ⟨by kernel_rfl,?_⟩))
 first | refine a8 (bB z hz) ?_ | refine aA (bB z hz) ?_
 try (simp [go_sem];try refine ⟨by kernel_rfl,?_⟩)
 first | refine aP (fun hg => bB w hw) ?_ | refine aM (fun hg => bB w hw) ?_
 try (simp [go_sem];try refine ⟨by kernel_rfl,?_⟩)
 refine aC (by simp [go_sem]) ?_
 (repeat (refine a7 [0,1,2,3,4,5,13] hX mixed rfl ?_;simp [go_sem,hww]; (try simp (disch :=omega) only [w64,td,tm]);try refine ⟨by kernel_rfl,?_⟩))
 first | refine a8 (hmul) ?_ | refine aA (hmul) ?_
 try (simp [go_sem];try refine ⟨by kernel_rfl,?_⟩)
 first | refine a8 (hsgn) ?_ | refine aA (hsgn) ?_
 try (simp [go_sem];try refine ⟨by kernel_rfl,?_⟩)
 first | refine a8 (hch) ?_ | refine aA (hch) ?_
 try (simp [go_sem];try refine ⟨by kernel_rfl,?_⟩)
 (repeat refine And.intro (by first | omega | (unfold maxLen;omega) | kernel_rfl | (constructor <;> first | omega | (unfold maxLen;omega)) | grind) ?_)
 (repeat (refine a7 [0,1,2,3,4,5,13] hX mixed rfl ?_;simp [go_sem];try refine ⟨by kernel_rfl,?_⟩))
theorem mK (z : Int) (hz : rz z) : Means false Tryz.prog 62 [bigZ z] (bigZ (-z)) :=by
 have hlz :=bQ hz
 have hb :=fC z
 have hww :=w64 (x :=- sg z) (by omega) (by omega)
 have hcl :=l0 (dg (ab z)) (by omega)
 have hsgn :=cT (- sg z) (dg (ab z)) (-z) (by omega) (aO _) (by rw [aS,pN]) (fun _ => tK z)
 refine aF false 14 [.cell 2 39] Tryz.func62 rfl rfl rfl (by simp) (by decide) rfl fun X hX => ?_
 (repeat (refine a7 [0,1,2,5] hX mixed rfl ?_;simp [go_sem];try refine ⟨by kernel_rfl,?_⟩))
 first | refine a8 (bB z hz) ?_ | refine aA (bB z hz) ?_
 try (simp [go_sem];try refine ⟨by kernel_rfl,?_⟩)
 refine aC (by simp [go_sem]) ?_
 (repeat (refine a7 [0,1,2,5] hX mixed rfl ?_;simp [go_sem,hww]; (try simp (disch :=omega) only [w64,td,tm]);try refine ⟨by kernel_rfl,?_⟩))
 first | refine a8 (hcl) ?_ | refine aA (hcl) ?_
 try (simp [go_sem];try refine ⟨by kernel_rfl,?_⟩)
 first | refine a8 (hsgn) ?_ | refine aA (hsgn) ?_
 try (simp [go_sem];try refine ⟨by kernel_rfl,?_⟩)
 (repeat refine And.intro (by first | omega | (unfold maxLen;omega) | kernel_rfl | (constructor <;> first | omega | (unfold maxLen;omega)) | grind) ?_)
 (repeat (refine a7 [0,1,2,5] hX mixed rfl ?_;simp [go_sem];try refine ⟨by kernel_rfl,?_⟩))
theorem rG (z w : Int) (hz : rz z) (hw : rz w) : Means false Tryz.prog 59 [bigZ z,bigZ w] (ii (cmpI z w)) :=by
 have hlz :=bQ hz
 have hlw :=bQ hw
 have hcm :=jB (dg (ab z)) (dg (ab w)) (by omega) (by omega) (aO _) (aO _) (mJ (aV z)) (mJ (aV w))
 rw [aS,aS] at hcm
 have hcc : -1 ≤ cmpI (ab z) (ab w) ∧ cmpI (ab z) (ab w) ≤ 1 :=by unfold cmpI; split <;> (try split) <;> omega
 refine aF false 31 [.tmp 4] Tryz.func59 rfl rfl rfl (by simp) (by decide) rfl fun X hX => ?_
 (repeat (refine a7 q21x5 hX mixed rfl ?_;simp [go_sem];try refine ⟨by kernel_rfl,?_⟩))
 first | refine a8 (bB z hz) ?_ | refine aA (bB z hz) ?_
 try (simp [go_sem];try refine ⟨by kernel_rfl,?_⟩)
 first | refine aP (fun hg => bB w hw) ?_ | refine aM (fun hg => bB w hw) ?_
 try (simp [go_sem];try refine ⟨by kernel_rfl,?_⟩)
 refine aC (by simp [go_sem]) ?_
 (repeat (refine a7 q21x5 hX mixed rfl ?_;simp [go_sem]; (try simp (disch :=omega) only [w64,td,tm]);try refine ⟨by kernel_rfl,?_⟩))
 refine aB (b :=decide (sg z ≠ sg w)) (by simp [go_sem]; try omega) (fun hd => ?_) (fun hd => ?_)
 · simp only [decide_eq_true_eq] at hd
   have e : cmpI (sg z) (sg w) = cmpI z w :=by
    refine tR ?_ ?_ <;> rcases aE z with h | h | h <;> rcases aE w with h2 | h2 | h2 <;> omega
   (repeat (refine a7 q21x5 hX mixed rfl ?_;simp [go_sem];try refine ⟨by kernel_rfl,?_⟩))
   first | refine a8 (rH (sg z) (sg w)) ?_ | refine aA (rH (sg z) (sg w)) ?_
   try (simp [go_sem];try refine ⟨by kernel_rfl,?_⟩)
   (repeat (refine a7 q21x5 hX mixed rfl ?_;simp [go_sem,e];try refine ⟨by kernel_rfl,?_⟩))
 · simp at hd
   have e : sg w * cmpI (ab z) (ab w) = cmpI z w :=by
    rcases aE w with ⟨h1,h2,h3⟩ | ⟨h1,h2,h3⟩ | ⟨h1,h2,h3⟩ <;> rcases aE z with ⟨h4,h5,h6⟩ | ⟨h4,h5,h6⟩ | ⟨h4,h5,h6⟩ <;> first | omega | (rw [h1,h3,h6]; unfold cmpI; split <;> (try split) <;> (try split) <;> omega) | skip
   have hew :=w64 (x :=cmpI z w) (by unfold cmpI; split <;> (try split) <;> omega) (by unfold cmpI; split <;> (try split) <;> omega)
   (repeat (refine a7 q21x5 hX mixed rfl ?_;simp [go_sem,hd]; (try simp (disch :=omega) only [w64,td,tm]);try refine ⟨by kernel_rfl,?_⟩))
   first | refine a8 (hcm) ?_ | refine aA (hcm) ?_
   try (simp [go_sem,hd,hew,e];try refine ⟨by kernel_rfl,?_⟩)
   (repeat refine And.intro (by first | omega | (unfold maxLen;omega) | kernel_rfl | (constructor <;> first | omega | (unfold maxLen;omega)) | grind) ?_)
   (repeat (refine a7 q21x5 hX mixed rfl ?_;simp [go_sem];try refine ⟨by kernel_rfl,?_⟩))
theorem KW (a b : Int) : Means false Tryz.prog 125 [.sl [ii a,ii b]] (ii (if a = 0 then b else a)) :=by
 refine aF false 18 [.tmp 2] Tryz.func125 rfl rfl rfl (by simp) (by decide) rfl fun X hX => ?_
 (repeat (refine a7 q21x3 hX mixed rfl ?_;simp [go_sem];try refine ⟨by kernel_rfl,?_⟩))
 refine aH (fun n : Nat => ⟨mkE [(3,ii 0),(6,.sl [ii a,ii b]),(7,ii 2),(8,ii n)],[]⟩) (fun n => n ≤ 2 ∧ (1 ≤ n → a = 0) ∧ (2 ≤ n → b = 0)) (fun n => 2 - n) 0 ?_ ?_ ?_
 · refine aG _ [] (by simp [go_sem]) ?_
   simp [go_sem]
 · simp
 · rintro n ⟨hn,ha,hb⟩
   match n,hn with
   | 0,_ =>
     (repeat (refine a7 q21x3 hX mixed rfl ?_;simp [go_sem];try refine ⟨by kernel_rfl,?_⟩))
     refine aK (by simp [go_sem]) ?_
     (repeat (refine a7 q21x3 hX mixed rfl ?_;simp [go_sem]; (try simp (disch :=omega) only [w64,td,tm]);try refine ⟨by kernel_rfl,?_⟩))
     refine aB (b :=decide (a ≠ 0)) (by simp [go_sem]) (fun h => ?_) (fun h => ?_)
     · simp at h
       (repeat (refine a7 q21x3 hX mixed rfl ?_;simp [go_sem,h];try refine ⟨by kernel_rfl,?_⟩))
     · simp at h
       (repeat (refine a7 q21x3 hX mixed rfl ?_;simp [go_sem]; (try simp (disch :=omega) only [w64,td,tm]);try refine ⟨by kernel_rfl,?_⟩))
       refine ⟨1,⟨by omega,fun _ => h,fun h => by omega⟩,by omega,?_⟩
       refine aG _ [] (by simp [go_sem]) ?_
       simp [go_sem]
   | 1,_ =>
     have ha0 :=ha (by omega)
     (repeat (refine a7 q21x3 hX mixed rfl ?_;simp [go_sem];try refine ⟨by kernel_rfl,?_⟩))
     refine aK (by simp [go_sem]) ?_
     (repeat (refine a7 q21x3 hX mixed rfl ?_;simp [go_sem]; (try simp (disch :=omega) only [w64,td,tm]);try refine ⟨by kernel_rfl,?_⟩))
     refine aB (b :=decide (b ≠ 0)) (by simp [go_sem]) (fun h => ?_) (fun h => ?_)
     · simp at h
       (repeat (refine a7 q21x3 hX mixed rfl ?_;simp [go_sem,ha0];try refine ⟨by kernel_rfl,?_⟩))
     · simp at h
       (repeat (refine a7 q21x3 hX mixed rfl ?_;simp [go_sem]; (try simp (disch :=omega) only [w64,td,tm]);try refine ⟨by kernel_rfl,?_⟩))
       refine ⟨2,⟨by omega,fun _ => ha0,fun _ => h⟩,by omega,?_⟩
       refine aG _ [] (by simp [go_sem]) ?_
       simp [go_sem]
   | 2,_ =>
     have ha0 :=ha (by omega)
     have hb0 :=hb (by omega)
     (repeat (refine a7 q21x3 hX mixed rfl ?_;simp [go_sem];try refine ⟨by kernel_rfl,?_⟩))
     refine aC (by simp [go_sem]) ?_
     (repeat (refine a7 q21x3 hX mixed rfl ?_;simp [go_sem,ha0,hb0];try refine ⟨by kernel_rfl,?_⟩))
set_option maxHeartbeats 4000000 in
set_option maxRecDepth 20000 in
theorem I6 (z w : Int) (hz : rz z) (hw : rz w) : Means false Tryz.prog 117 [bigZ z,bigZ w] (res (z + w)) :=by
 have hlz :=bQ hz
 have hlw :=bQ hw
 have hsz :=fC z
 have hsw :=fC w
 have hza :=aV z
 have hwa :=aV w
 have hmm : -1 ≤ sg z * sg w ∧ sg z * sg w ≤ 1 :=by rw [← iR]; exact fC _
 have hww :=w64 (x :=sg z * sg w) (by omega) (by omega)
 have hsum : ab (z + w) ≤ ab z + ab w :=by rcases aE z with h | h | h <;> rcases aE w with h2 | h2 | h2 <;> rcases aE (z + w) with h3 | h3 | h3 <;> omega
 have hl61 : (dg (ab z + ab w)).length ≤ 61 :=by
  rw [aR]
  unfold rz at hz hw
  have : (1048576 : Int) ^ 61 = 1048576 ^ 60 * 1048576 :=Int.pow_succ _ _
  omega
 have hl61' : (dg (ab (z + w))).length ≤ 61 :=Nat.le_trans (aY hsum) hl61
 have hch :=tQ (z + w) (by omega)
 have hcm :=jB (dg (ab z)) (dg (ab w)) (by omega) (by omega) (aO _) (aO _) (mJ hza) (mJ hwa)
 rw [aS,aS] at hcm
 refine aF false 69 [.cell 4 39,.tmp 5] Tryz.func117 rfl rfl rfl (by simp) (by decide) rfl fun X hX => ?_
 (repeat (refine a7 q21x4 hX mixed rfl ?_;simp [go_sem];try refine ⟨by kernel_rfl,?_⟩))
 first | refine a8 (bB z hz) ?_ | refine aA (bB z hz) ?_
 try (simp [go_sem];try refine ⟨by kernel_rfl,?_⟩)
 first | refine aP (fun hg => bB w hw) ?_ | refine aM (fun hg => bB w hw) ?_
 try (simp [go_sem];try refine ⟨by kernel_rfl,?_⟩)
 refine aC (by simp [go_sem]) ?_
 (repeat (refine a7 q21x4 hX mixed rfl ?_;simp [go_sem,hww]; (try simp (disch :=omega) only [w64,td,tm]);try refine ⟨by kernel_rfl,?_⟩))
 refine aB (b :=decide (0 ≤ sg z * sg w)) (by simp [go_sem]) (fun hd => ?_) (fun hd => ?_)
 · simp at hd
   have hab : ab (z + w) = ab z + ab w :=by
    rcases aE z with ⟨h,h1,h2⟩ | ⟨h,h1,h2⟩ | ⟨h,h1,h2⟩ <;> rcases aE w with ⟨h3,h4,h5⟩ | ⟨h3,h4,h5⟩ | ⟨h3,h4,h5⟩ <;> rw [h,h3] at hd <;> rcases aE (z + w) with h6 | h6 | h6 <;> omega
   have hsg : ab z + ab w ≠ 0 → sg (z + w) = (if sg z = 0 then sg w else sg z) :=by
    intro _
    rcases aE z with ⟨h,h1,h2⟩ | ⟨h,h1,h2⟩ | ⟨h,h1,h2⟩ <;> rcases aE w with ⟨h3,h4,h5⟩ | ⟨h3,h4,h5⟩ | ⟨h3,h4,h5⟩ <;> rw [h,h3] at hd ⊢ <;> rcases aE (z + w) with h6 | h6 | h6 <;> simp <;> omega
   have hadd :=I7 (dg (ab z)) (dg (ab w)) (aO _) (aO _) (by omega) (by omega)
   rw [aS,aS] at hadd
   have hvv : val (dg (ab z + ab w)) = ab z + ab w :=bF (by omega)
   have hsgn :=cT (if sg z = 0 then sg w else sg z) (dg (ab z + ab w)) (z + w) (by omega) (aO _) (by rw [hvv,hab]) (by rw [hvv]; exact hsg)
   (repeat (refine a7 q21x4 hX mixed rfl ?_;simp [go_sem]; (try simp (disch :=omega) only [w64,td,tm]);try refine ⟨by kernel_rfl,?_⟩))
   first | refine a8 (KW (sg z) (sg w)) ?_ | refine aA (KW (sg z) (sg w)) ?_
   try (simp [go_sem];try refine ⟨by kernel_rfl,?_⟩)
   first | refine a8 (hadd) ?_ | refine aA (hadd) ?_
   try (simp [go_sem];try refine ⟨by kernel_rfl,?_⟩)
   first | refine a8 (hsgn) ?_ | refine aA (hsgn) ?_
   try (simp [go_sem];try refine ⟨by kernel_rfl,?_⟩)
   first | refine a8 (hch) ?_ | refine aA (hch) ?_
   try (simp [go_sem];try refine ⟨by kernel_rfl,?_⟩)
   (repeat refine And.intro (by first | omega | (unfold maxLen;omega) | kernel_rfl | (constructor <;> first | omega | (unfold maxLen;omega)) | grind) ?_)
   (repeat (refine a7 q21x4 hX mixed rfl ?_;simp [go_sem];try refine ⟨by kernel_rfl,?_⟩))
 · simp at hd
   have hcl : cmpI (ab z) (ab w) < 0 ↔ ab z < ab w :=kZ
   (repeat (refine a7 q21x4 hX mixed rfl ?_;simp [go_sem]; (try simp (disch :=omega) only [w64,td,tm]);try refine ⟨by kernel_rfl,?_⟩))
   first | refine a8 (hcm) ?_ | refine aA (hcm) ?_
   try (simp [go_sem];try refine ⟨by kernel_rfl,?_⟩)
   (repeat (refine a7 q21x4 hX mixed rfl ?_;simp [go_sem]; (try simp (disch :=omega) only [w64,td,tm]);try refine ⟨by kernel_rfl,?_⟩))
   refine aB (b :=decide (ab z < ab w)) (by simp [go_sem,kZ]) (fun hd2 => ?_) (fun hd2 => ?_)
   · simp at hd2
     have hsub :=ER (dg (ab w)) (dg (ab z)) (aO _) (aO _) (by omega) (by omega) (by rw [aS,aS]; omega)
     rw [aS,aS] at hsub
     have hvv : val (dg (ab w - ab z)) = ab w - ab z :=bF (by omega)
     have hfin : ab (z + w) = ab w - ab z ∧ sg (z + w) = sg w :=by
      rcases aE z with ⟨h,h1,h2⟩ | ⟨h,h1,h2⟩ | ⟨h,h1,h2⟩ <;> rcases aE w with ⟨h3,h4,h5⟩ | ⟨h3,h4,h5⟩ | ⟨h3,h4,h5⟩ <;> rw [h,h3] at hd <;> rcases aE (z + w) with h6 | h6 | h6 <;> omega
     have hsgn :=cT (sg w) (dg (ab w - ab z)) (z + w) (by have :=aY (show ab w - ab z ≤ ab z + ab w by omega); omega) (aO _) (by rw [hvv,hfin.1]) (fun _ => hfin.2)
     (repeat (refine a7 q21x4 hX mixed rfl ?_;simp [go_sem]; (try simp (disch :=omega) only [w64,td,tm]);try refine ⟨by kernel_rfl,?_⟩))
     first | refine a8 (hsub) ?_ | refine aA (hsub) ?_
     try (simp [go_sem];try refine ⟨by kernel_rfl,?_⟩)
     first | refine a8 (hsgn) ?_ | refine aA (hsgn) ?_
     try (simp [go_sem];try refine ⟨by kernel_rfl,?_⟩)
     first | refine a8 (hch) ?_ | refine aA (hch) ?_
     try (simp [go_sem];try refine ⟨by kernel_rfl,?_⟩)
     (repeat refine And.intro (by first | omega | (unfold maxLen;omega) | kernel_rfl | (constructor <;> first | omega | (unfold maxLen;omega)) | grind) ?_)
     (repeat (refine a7 q21x4 hX mixed rfl ?_;simp [go_sem];try refine ⟨by kernel_rfl,?_⟩))
   · simp at hd2
     have hsub :=ER (dg (ab z)) (dg (ab w)) (aO _) (aO _) (by omega) (by omega) (by rw [aS,aS]; omega)
     rw [aS,aS] at hsub
     have hvv : val (dg (ab z - ab w)) = ab z - ab w :=bF (by omega)
     have hfin : ab (z + w) = ab z - ab w ∧ (ab z - ab w ≠ 0 → sg (z + w) = sg z) :=by
      rcases aE z with ⟨h,h1,h2⟩ | ⟨h,h1,h2⟩ | ⟨h,h1,h2⟩ <;> rcases aE w with ⟨h3,h4,h5⟩ | ⟨h3,h4,h5⟩ | ⟨h3,h4,h5⟩ <;> rw [h,h3] at hd <;> rcases aE (z + w) with h6 | h6 | h6 <;> omega
     have hsgn :=cT (sg z) (dg (ab z - ab w)) (z + w) (by have :=aY (show ab z - ab w ≤ ab z + ab w by omega); omega) (aO _) (by rw [hvv,hfin.1]) (by rw [hvv]; exact hfin.2)
     (repeat (refine a7 q21x4 hX mixed rfl ?_;simp [go_sem]; (try simp (disch :=omega) only [w64,td,tm]);try refine ⟨by kernel_rfl,?_⟩))
     first | refine a8 (hsub) ?_ | refine aA (hsub) ?_
     try (simp [go_sem];try refine ⟨by kernel_rfl,?_⟩)
     first | refine a8 (hsgn) ?_ | refine aA (hsgn) ?_
     try (simp [go_sem];try refine ⟨by kernel_rfl,?_⟩)
     first | refine a8 (hch) ?_ | refine aA (hch) ?_
     try (simp [go_sem];try refine ⟨by kernel_rfl,?_⟩)
     (repeat refine And.intro (by first | omega | (unfold maxLen;omega) | kernel_rfl | (constructor <;> first | omega | (unfold maxLen;omega)) | grind) ?_)
     (repeat (refine a7 q21x4 hX mixed rfl ?_;simp [go_sem];try refine ⟨by kernel_rfl,?_⟩))
theorem iQ {z : Int} (h : rz z) : rz (-z) :=by unfold rz at *; rwa [pN]
end Go.Proofs.YthibhamepjhfjaaGreatDoor

namespace Go.Proofs.YthibhamepjhfjaaGreatDoor
open Go.RowKit Go.Ab
attribute [local irreducible] AWP Go.Ab.Sub Means MeansH CallK CallG CallT CallGT
def dq (z w : Int) : Int :=(sg w * z) / ab w
def dr (z w : Int) : Int :=sg w * ((sg w * z) % ab w)
theorem eL {s N D q r : Int} (hD : 0 < D) (h : r + D * q = s * N) (hr : 0 ≤ r ∧ r < D) : (s * N) / D = q ∧ (s * N) % D = r :=
 (Int.ediv_emod_unique hD).2 ⟨h,hr.1,hr.2⟩
theorem rF {z w : Int} (hw : w ≠ 0) :
  (sg z * sg w < 0 ∧ ab z % ab w ≠ 0 → dq z w = -(ab z / ab w + 1) ∧ dr z w = sg w * (ab w - ab z % ab w)) ∧
  (¬ (sg z * sg w < 0 ∧ ab z % ab w ≠ 0) → dq z w = sg z * sg w * (ab z / ab w) ∧ dr z w = sg z * (ab z % ab w)) :=by
 have hD : 0 < ab w :=by rcases aE w with h | h | h <;> omega
 have h0 :=Int.mul_ediv_add_emod (ab z) (ab w)
 have h1 :=Int.emod_nonneg (ab z) (show ab w ≠ 0 by omega)
 have h2 :=Int.emod_lt_of_pos (ab z) hD
 unfold dq dr
 generalize ab z / ab w = q at *
 generalize ab z % ab w = r at *
 generalize hDD : ab w = D at *
 rcases aE w with ⟨a1,a2,a3⟩ | ⟨a1,a2,a3⟩ | ⟨a1,a2,a3⟩
 · rcases aE z with ⟨b1,b2,b3⟩ | ⟨b1,b2,b3⟩ | ⟨b1,b2,b3⟩
   · rw [a1,b1]
     refine ⟨fun h => by omega,fun _ => ?_⟩
     obtain ⟨e1,e2⟩ :=eL (s :=-1) (N :=z) (q :=q) (r :=r) hD (by omega) ⟨h1,h2⟩
     rw [e1,e2]; omega
   · rw [a1,b1]
     refine ⟨fun h => by omega,fun _ => ?_⟩
     subst b2
     rw [b3] at h0
     obtain ⟨e1,e2⟩ :=eL (s :=-1) (N :=0) (q :=0) (r :=0) hD (by omega) ⟨by omega,hD⟩
     rw [e1,e2]; omega
   · rw [a1,b1]
     refine ⟨fun h => ?_,fun h => ?_⟩
     · obtain ⟨e1,e2⟩ :=eL (s :=-1) (N :=z) (q :=-(q + 1)) (r :=D - r) hD (by rw [Int.mul_neg,Int.mul_add]; omega) (by omega)
       rw [e1,e2]; omega
     · have hr0 : r = 0 :=by omega
       subst hr0
       obtain ⟨e1,e2⟩ :=eL (s :=-1) (N :=z) (q :=-q) (r :=0) hD (by rw [Int.mul_neg]; omega) ⟨by omega,hD⟩
       rw [e1,e2]; omega
 · omega
 · rcases aE z with ⟨b1,b2,b3⟩ | ⟨b1,b2,b3⟩ | ⟨b1,b2,b3⟩
   · rw [a1,b1]
     refine ⟨fun h => ?_,fun h => ?_⟩
     · obtain ⟨e1,e2⟩ :=eL (s :=1) (N :=z) (q :=-(q + 1)) (r :=D - r) hD (by rw [Int.mul_neg,Int.mul_add]; omega) (by omega)
       rw [e1,e2]; omega
     · have hr0 : r = 0 :=by omega
       subst hr0
       obtain ⟨e1,e2⟩ :=eL (s :=1) (N :=z) (q :=-q) (r :=0) hD (by rw [Int.mul_neg]; omega) ⟨by omega,hD⟩
       rw [e1,e2]; omega
   · rw [a1,b1]
     refine ⟨fun h => by omega,fun _ => ?_⟩
     subst b2
     obtain ⟨e1,e2⟩ :=eL (s :=1) (N :=0) (q :=0) (r :=0) hD (by omega) ⟨by omega,hD⟩
     rw [e1,e2]; omega
   · rw [a1,b1]
     refine ⟨fun h => by omega,fun _ => ?_⟩
     obtain ⟨e1,e2⟩ :=eL (s :=1) (N :=z) (q :=q) (r :=r) hD (by omega) ⟨h1,h2⟩
     rw [e1,e2]; omega
set_option maxHeartbeats 4000000 in
set_option maxRecDepth 20000 in
theorem KX (z w : Int) (hz : rz z) (hw : rz w) (h0 : w ≠ 0) : Means false Tryz.prog 58 [bigZ z,bigZ w] (.tup [bigZ (dq z w),bigZ (dr z w),ii 0]) :=by
 have hlz :=bQ hz
 have hlw :=bQ hw
 have hza :=aV z
 have hD : 0 < ab w :=by rcases aE w with h | h | h <;> omega
 have hs : sg w ≠ 0 :=by rcases aE w with h | h | h <;> omega
 have hsz :=fC z
 have hsw :=fC w
 have hmm : -1 ≤ sg z * sg w ∧ sg z * sg w ≤ 1 :=by rw [← iR]; exact fC _
 have hww :=w64 (x :=sg z * sg w) (by omega) (by omega)
 have hne : 0 < (dg (ab w)).length :=by
  refine Nat.pos_of_ne_zero fun h => ?_
  have :=cB.1 (List.length_eq_zero_iff.1 h)
  omega
 have hdiv :=I3 (dg (ab z)) (dg (ab w)) (aO _) (aO _) (by omega) (by omega) (mJ hza) (mJ (by omega)) hne
 rw [aS,aS] at hdiv
 have h1 :=Int.emod_nonneg (ab z) (show ab w ≠ 0 by omega)
 have h2 :=Int.emod_lt_of_pos (ab z) hD
 have h3 :=Int.ediv_nonneg hza (show 0 ≤ ab w by omega)
 have h4 :=Int.ediv_le_self (ab w) hza
 obtain ⟨df1,df2⟩ :=rF (z :=z) h0
 have hlq : (dg (ab z / ab w)).length ≤ 60 :=Nat.le_trans (aY h4) hlz
 have hlr : (dg (ab z % ab w)).length ≤ 60 :=Nat.le_trans (aY (by omega)) hlw
 refine aF false 67 [.cell 4 39,.cell 5 39,.tmp 6] Tryz.func58 rfl rfl rfl (by simp) (by decide) rfl fun X hX => ?_
 (repeat (refine a7 q21x1 hX mixed rfl ?_;simp [go_sem];try refine ⟨by kernel_rfl,?_⟩))
 first | refine a8 (bB z hz) ?_ | refine aA (bB z hz) ?_
 try (simp [go_sem];try refine ⟨by kernel_rfl,?_⟩)
 first | refine aP (fun hg => bB w hw) ?_ | refine aM (fun hg => bB w hw) ?_
 try (simp [go_sem];try refine ⟨by kernel_rfl,?_⟩)
 (repeat (refine a7 q21x1 hX mixed rfl ?_;simp [go_sem]; (try simp (disch :=omega) only [w64,td,tm]);try refine ⟨by kernel_rfl,?_⟩))
 refine aC (by simp [go_sem]) ?_
 (repeat (refine a7 q21x1 hX mixed rfl ?_;simp [go_sem];try refine ⟨by kernel_rfl,?_⟩))
 refine aC (by simp [go_sem,hs]) ?_
 (repeat (refine a7 q21x1 hX mixed rfl ?_;simp [go_sem];try refine ⟨by kernel_rfl,?_⟩))
 first | refine a8 (hdiv) ?_ | refine aA (hdiv) ?_
 try (simp [go_sem];try refine ⟨by kernel_rfl,?_⟩)
 have hrl : 0 < (dg (ab z % ab w)).length ↔ ab z % ab w ≠ 0 :=by
  rw [List.length_pos_iff,Ne,cB]; omega
 have hq0 : 0 ≤ ab z / ab w + 1 :=by omega
 have hvq : val (dg (ab z / ab w)) = ab z / ab w :=bF h3
 have hvr : val (dg (ab z % ab w)) = ab z % ab w :=bF h1
 refine j8 ?_
 refine j8 ?_
 refine j5 ⟨mkE [(2,.el 0 2 0 0),(3,.el 1 2 0 0),(4,.el 2 2 0 0),(5,.el 3 2 0 0),(6,ii 0),(7,il (dg (ab z / ab w))),(8,il (dg (ab z % ab w))),(44,bb (decide (sg z * sg w < 0 ∧ ab z % ab w ≠ 0)))],
  [.row ⟨39,2,[bigZ z]⟩,.row ⟨39,2,[bigZ w]⟩,.row ⟨39,2,[.agg [ii 0,.nil]]⟩,.row ⟨39,2,[.agg [ii 0,.nil]]⟩]⟩ ?_ ?_
 · by_cases hn : sg z * sg w < 0
   · (repeat (refine a7 q21x1 hX mixed rfl ?_;simp [go_sem,hww,hn];try refine ⟨by kernel_rfl,?_⟩))
     refine aG _ [.old 0 ⟨39,2,[bigZ z]⟩,.old 1 ⟨39,2,[bigZ w]⟩,.old 2 ⟨39,2,[.agg [ii 0,.nil]]⟩,.old 3 ⟨39,2,[.agg [ii 0,.nil]]⟩] (by simp [go_sem]) ?_
     simp [go_sem,hn]
     rw [Bool.eq_iff_iff]
     simp only [decide_eq_true_eq,Bool.not_eq_true',decide_eq_false_iff_not]
     exact hrl
   · (repeat (refine a7 q21x1 hX mixed rfl ?_;simp [go_sem,hww,hn];try refine ⟨by kernel_rfl,?_⟩))
     refine aG _ [.old 0 ⟨39,2,[bigZ z]⟩,.old 1 ⟨39,2,[bigZ w]⟩,.old 2 ⟨39,2,[.agg [ii 0,.nil]]⟩,.old 3 ⟨39,2,[.agg [ii 0,.nil]]⟩] (by simp [go_sem]) ?_
     simp [go_sem,hn]
 · try (simp [go_sem];try refine ⟨by kernel_rfl,?_⟩)
   refine aB (b :=decide (sg z * sg w < 0 ∧ ab z % ab w ≠ 0)) (by simp [go_sem]) (fun hb => ?_) (fun hb => ?_)
   · simp only [decide_eq_true_eq] at hb
     obtain ⟨e1,e2⟩ :=df1 hb
     have hadd :=I7 (dg (ab z / ab w)) [1] (aO _) (iP ⟨by decide,by decide⟩).2 (by omega) (by simp)
     rw [hvq,(iP (r :=1) ⟨by decide,by decide⟩).1] at hadd
     have hvq1 : val (dg (ab z / ab w + 1)) = ab z / ab w + 1 :=bF hq0
     have hs1 :=cT (-1) (dg (ab z / ab w + 1)) (dq z w) (by
      have :=aR (n :=ab z / ab w + 1) 61
      have h61 : (1048576 : Int) ^ 61 = 1048576 ^ 60 * 1048576 :=Int.pow_succ _ _
      have :=(aR (n :=ab z / ab w) 60).1 hlq
      have :=this
      have : (dg (ab z / ab w + 1)).length ≤ 61 :=by rw [aR]; omega
      omega) (aO _) (by rw [hvq1,e1,pN,ab,if_neg (by omega)]) (fun _ => by rw [e1,tK,sg,if_neg (by omega),if_pos (by omega)])
     have hsub :=ER (dg (ab w)) (dg (ab z % ab w)) (aO _) (aO _) (by omega) (by omega) (by rw [aS,hvr]; omega)
     rw [aS,hvr] at hsub
     have hvs : val (dg (ab w - ab z % ab w)) = ab w - ab z % ab w :=bF (by omega)
     have hsw2 : sg w = 1 ∨ sg w = -1 :=by rcases aE w with h | h | h <;> omega
     obtain ⟨f1,f2⟩ :=EQ e2 (by omega) hsw2
     have hs2 :=cT (sg w) (dg (ab w - ab z % ab w)) (dr z w) (by have :=aY (show ab w - ab z % ab w ≤ ab w by omega); omega) (aO _) (by rw [hvs,f2]) (fun _ => f1)
     (repeat (refine a7 q21x1 hX mixed rfl ?_;simp [go_sem]; (try simp (disch :=omega) only [w64,td,tm]);try refine ⟨by kernel_rfl,?_⟩))
     first | refine a8 (hadd) ?_ | refine aA (hadd) ?_
     try (simp [go_sem];try refine ⟨by kernel_rfl,?_⟩)
     first | refine a8 (hs1) ?_ | refine aA (hs1) ?_
     try (simp [go_sem];try refine ⟨by kernel_rfl,?_⟩)
     first | refine a8 (hsub) ?_ | refine aA (hsub) ?_
     try (simp [go_sem];try refine ⟨by kernel_rfl,?_⟩)
     first | refine a8 (hs2) ?_ | refine aA (hs2) ?_
     try (simp [go_sem];try refine ⟨by kernel_rfl,?_⟩)
     (repeat refine And.intro (by first | omega | (unfold maxLen;omega) | kernel_rfl | (constructor <;> first | omega | (unfold maxLen;omega)) | grind) ?_)
     (repeat (refine a7 q21x1 hX mixed rfl ?_;simp [go_sem];try refine ⟨by kernel_rfl,?_⟩))
   · simp only [decide_eq_false_iff_not] at hb
     obtain ⟨e1,e2⟩ :=df2 hb
     have hsz2 : sg z = 0 ∧ z = 0 ∨ (sg z = 1 ∨ sg z = -1) :=by rcases aE z with h | h | h <;> omega
     have g1 : ab (dq z w) = ab z / ab w ∧ (ab z / ab w ≠ 0 → sg (dq z w) = sg z * sg w) :=by
      by_cases hq : ab z / ab w = 0
      · rw [e1,hq,Int.mul_zero]; exact ⟨rfl,fun h => (h rfl).elim⟩
      · have hm : sg z * sg w = 1 ∨ sg z * sg w = -1 :=by
         rcases aE z with h | h | h <;> rcases aE w with h5 | h5 | h5 <;> rw [h.1,h5.1] <;> first | omega | (exfalso; apply hq; rw [h.2.2]; exact Int.zero_ediv _)
        obtain ⟨f1,f2⟩ :=EQ e1 (by omega) hm
        exact ⟨f2,fun _ => f1⟩
     have g2 : ab (dr z w) = ab z % ab w ∧ (ab z % ab w ≠ 0 → sg (dr z w) = sg z) :=by
      by_cases hq : ab z % ab w = 0
      · rw [e2,hq,Int.mul_zero]; exact ⟨rfl,fun h => (h rfl).elim⟩
      · have hm : sg z = 1 ∨ sg z = -1 :=by
         rcases aE z with h | h | h
         · exact .inr h.1
         · exfalso; apply hq; rw [h.2.2]; exact Int.zero_emod _
         · exact .inl h.1
        obtain ⟨f1,f2⟩ :=EQ e2 (by omega) hm
        exact ⟨f2,fun _ => f1⟩
     have hs1 :=cT (sg z * sg w) (dg (ab z / ab w)) (dq z w) (by omega) (aO _) (by rw [hvq,g1.1]) (by rw [hvq]; exact g1.2)
     have hs2 :=cT (sg z) (dg (ab z % ab w)) (dr z w) (by omega) (aO _) (by rw [hvr,g2.1]) (by rw [hvr]; exact g2.2)
     (repeat (refine a7 q21x1 hX mixed rfl ?_;simp [go_sem,hww]; (try simp (disch :=omega) only [w64,td,tm]);try refine ⟨by kernel_rfl,?_⟩))
     first | refine a8 (hs1) ?_ | refine aA (hs1) ?_
     try (simp [go_sem];try refine ⟨by kernel_rfl,?_⟩)
     first | refine a8 (hs2) ?_ | refine aA (hs2) ?_
     try (simp [go_sem];try refine ⟨by kernel_rfl,?_⟩)
     (repeat refine And.intro (by first | omega | (unfold maxLen;omega) | kernel_rfl | (constructor <;> first | omega | (unfold maxLen;omega)) | grind) ?_)
     (repeat (refine a7 q21x1 hX mixed rfl ?_;simp [go_sem];try refine ⟨by kernel_rfl,?_⟩))
theorem ES (m n : Nat) : Nat.gcd n (m % n) = Nat.gcd m n :=by
 rw [Nat.gcd_comm m n,Nat.gcd_rec n m,Nat.gcd_comm]
theorem fV (z : Int) : ab z = z.natAbs :=by unfold ab; split <;> omega
set_option maxHeartbeats 4000000 in
set_option maxRecDepth 20000 in
theorem ET (z w : Int) (hz : rz z) (hw : rz w) : Means false Tryz.prog 63 [bigZ z,bigZ w] (.tup [bigZ (Int.gcd z w),ii 0]) :=by
 have hlz :=bQ hz
 have hlw :=bQ hw
 rw [fV] at hlz
 rw [fV] at hlw
 have hzn : bigZ z = big2 (sg z) (dg z.natAbs) :=by unfold bigZ; rw [fV]
 have hcl :=l0 (dg (z.natAbs : Int)) (by omega)
 rw [aR] at hlz hlw
 refine aF false 44 [.cell 4 39,.tmp 5] Tryz.func63 rfl rfl rfl (by simp) (by decide) rfl fun X hX => ?_
 (repeat (refine a7 q21x2 hX mixed rfl ?_;simp [go_sem];try refine ⟨by kernel_rfl,?_⟩))
 first | refine a8 (bB z hz) ?_ | refine aA (bB z hz) ?_
 try (simp [go_sem];try refine ⟨by kernel_rfl,?_⟩)
 first | refine aP (fun hg => bB w hw) ?_ | refine aM (fun hg => bB w hw) ?_
 try (simp [go_sem];try refine ⟨by kernel_rfl,?_⟩)
 (repeat (refine a7 q21x2 hX mixed rfl ?_;simp [go_sem]; (try simp (disch :=omega) only [w64,td,tm]);try refine ⟨by kernel_rfl,?_⟩))
 refine aC (by simp [go_sem]) ?_
 (repeat (refine a7 q21x2 hX mixed rfl ?_;simp [go_sem,fV]; (try simp (disch :=omega) only [w64,td,tm]);try refine ⟨by kernel_rfl,?_⟩))
 first | refine a8 (hcl) ?_ | refine aA (hcl) ?_
 try (simp [go_sem,fV];try refine ⟨by kernel_rfl,?_⟩)
 (repeat refine And.intro (by first | omega | (unfold maxLen;omega) | kernel_rfl | (constructor <;> first | omega | (unfold maxLen;omega)) | grind) ?_)
 (repeat (refine a7 q21x2 hX mixed rfl ?_;simp [go_sem]; (try simp (disch :=omega) only [w64,td,tm]);try refine ⟨by kernel_rfl,?_⟩))
 refine aH (fun x : Nat × Nat => ⟨mkE [(4,.el 0 2 0 0),(5,ii 0),(6,il (dg (x.1 : Int))),(7,il (dg (x.2 : Int)))],[.row ⟨39,2,[.agg [ii 0,.nil]]⟩]⟩)
  (fun x => Nat.gcd x.1 x.2 = Int.gcd z w ∧ (x.1 : Int) < 1048576 ^ 60 ∧ (x.2 : Int) < 1048576 ^ 60) (fun x => x.2) (z.natAbs,w.natAbs) ?_ ?_ ?_
 · refine aG _ [.old 2 ⟨39,2,[.agg [ii 0,.nil]]⟩] (by simp [go_sem]) ?_
   simp [go_sem]
 · exact ⟨rfl,hlz,hlw⟩
 · rintro ⟨m,n⟩ ⟨hg,hm,hn⟩
   simp only [] at hg hm hn
   have hlm :=(aR 60).2 hm
   have hln :=(aR 60).2 hn
   have hm0 : (0 : Int) ≤ m :=by omega
   have hn0 : (0 : Int) ≤ n :=by omega
   have hvm : val (dg (m : Int)) = m :=bF hm0
   have hvn : val (dg (n : Int)) = n :=bF hn0
   have hln0 : 0 < (dg (n : Int)).length ↔ n ≠ 0 :=by
    rw [List.length_pos_iff,Ne,cB]; omega
   (repeat (refine a7 q21x2 hX mixed rfl ?_;simp [go_sem]; (try simp (disch :=omega) only [w64,td,tm]);try refine ⟨by kernel_rfl,?_⟩))
   refine aB (b :=decide (n ≠ 0)) (by
    simp only [← hln0]
    simp [go_sem]) (fun hd => ?_) (fun hd => ?_)
   · simp only [decide_eq_true_eq] at hd
     have hdiv :=I3 (dg (m : Int)) (dg (n : Int)) (aO _) (aO _) (by omega) (by omega) (mJ hm0) (mJ hn0) (hln0.2 hd)
     rw [hvm,hvn] at hdiv
     (repeat (refine a7 q21x2 hX mixed rfl ?_;simp [go_sem]; (try simp (disch :=omega) only [w64,td,tm]);try refine ⟨by kernel_rfl,?_⟩))
     first | refine a8 (hdiv) ?_ | refine aA (hdiv) ?_
     try (simp [go_sem];try refine ⟨by kernel_rfl,?_⟩)
     (repeat (refine a7 q21x2 hX mixed rfl ?_;simp [go_sem]; (try simp (disch :=omega) only [w64,td,tm]);try refine ⟨by kernel_rfl,?_⟩))
     have hlt : m % n < n :=Nat.mod_lt _ (by omega)
     refine ⟨n,m % n,⟨by rw [ES,hg],hn,by omega⟩,hlt,?_⟩
     refine aG _ [.old 0 ⟨39,2,[.agg [ii 0,.nil]]⟩] (by simp [go_sem]) ?_
     simp [go_sem]
   · have hn00 : n = 0 :=by simpa using hd
     subst hn00
     rw [Nat.gcd_zero_right] at hg
     rw [← hg]
     have hab : ab (m : Int) = m :=by rw [fV]; omega
     have hr : rz (m : Int) :=by unfold rz; rw [hab]; exact hm
     have hcl2 :=l0 (dg (m : Int)) (by omega)
     have hs1 :=cT 1 (dg (m : Int)) m (by omega) (aO _) (by rw [hvm,hab]) (fun h => by rw [hvm] at h; rw [sg,if_neg (by omega),if_pos (by omega)])
     have hch :=tQ (m : Int) (by rw [hab]; omega)
     rw [res,cN hr,yE hr] at hch
     (repeat (refine a7 q21x2 hX mixed rfl ?_;simp [go_sem]; (try simp (disch :=omega) only [w64,td,tm]);try refine ⟨by kernel_rfl,?_⟩))
     first | refine a8 (hcl2) ?_ | refine aA (hcl2) ?_
     try (simp [go_sem];try refine ⟨by kernel_rfl,?_⟩)
     first | refine a8 (hs1) ?_ | refine aA (hs1) ?_
     try (simp [go_sem];try refine ⟨by kernel_rfl,?_⟩)
     first | refine a8 (hch) ?_ | refine aA (hch) ?_
     try (simp [go_sem];try refine ⟨by kernel_rfl,?_⟩)
     (repeat (refine a7 q21x2 hX mixed rfl ?_;simp [go_sem]; (try simp (disch :=omega) only [w64,td,tm]);try refine ⟨by kernel_rfl,?_⟩))
end Go.Proofs.YthibhamepjhfjaaGreatDoor

