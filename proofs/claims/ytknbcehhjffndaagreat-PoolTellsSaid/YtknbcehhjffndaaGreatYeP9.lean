/-
  Lemmas for the statement at the top.
-/
import Derived.Test.YtknbcehhjffndaaGreatYeP8
import Init
set_option linter.all false
namespace Go.Ab
def q18x0 : List Nat :=[0,1,2,3,4,5,6,7,8,9,10,11,13,14,16,24,52,58]
def q18x1 : List Nat :=[0,1,2,3,4,5,19,24,37]
def q18x2 : List Nat :=[0,1,2,4,5,6,1000000]
attribute [go_sem] q18x0 q18x1 q18x2
end Go.Ab
namespace Go.Proofs.YtknbcehhjffndaaGreat
open Go.RowKit Go.Ab
attribute [local irreducible] AWP Go.Ab.Sub Means MeansH CallK CallG CallT CallGT
theorem cL {p q : Int} (h : 0 < q) : dq p q = p / q ∧ dr p q = p % q :=by
 unfold dq dr
 have e1 : sg q = 1 :=by rcases aD q with h' | h' | h' <;> omega
 have e2 : ab q = q :=by unfold ab; rw [if_neg (by omega)]
 rw [e1,e2,Int.one_mul,Int.one_mul]; exact ⟨rfl,rfl⟩
theorem vP {a b : Int} (h : a < b) : cmpI a b = -1 :=by unfold cmpI; rw [if_pos h]
theorem vQ {a b : Int} (h : b < a) : cmpI a b = 1 :=by unfold cmpI; rw [if_neg (by omega),if_pos h]
theorem zY {p q r s : Int} (hq : 0 < q) (hs : 0 < s) (h : p / q ≠ r / s) : cmpI (p * s) (r * q) = cmpI (p / q) (r / s) :=by
 have a0 :=Int.mul_ediv_add_emod p q
 have a1 :=Int.emod_nonneg p (show q ≠ 0 by omega)
 have a2 :=Int.emod_lt_of_pos p hq
 have b0 :=Int.mul_ediv_add_emod r s
 have b1 :=Int.emod_nonneg r (show s ≠ 0 by omega)
 have b2 :=Int.emod_lt_of_pos r hs
 generalize p / q = x at *
 generalize r / s = y at *
 generalize p % q = u at *
 generalize r % s = v at *
 subst a0 b0
 have hqs : 0 < q * s :=Int.mul_pos hq hs
 have e : (q * x + u) * s - (s * y + v) * q = q * s * (x - y) + (u * s - v * q) :=by grind
 have u1 : u * s ≤ (q - 1) * s :=Int.mul_le_mul_of_nonneg_right (by omega) (by omega)
 have u0 : 0 ≤ u * s :=Int.mul_nonneg a1 (by omega)
 have v1 : v * q ≤ (s - 1) * q :=Int.mul_le_mul_of_nonneg_right (by omega) (by omega)
 have v0 : 0 ≤ v * q :=Int.mul_nonneg b1 (by omega)
 have e1 : (q - 1) * s = q * s - s :=by grind
 have e2 : (s - 1) * q = q * s - q :=by grind
 rcases Int.lt_or_gt_of_ne h with h | h
 · rw [vP h,vP]
   have : q * s * (x - y) ≤ q * s * (-1) :=Int.mul_le_mul_of_nonneg_left (by omega) (by omega)
   omega
 · rw [vQ h,vQ]
   have : q * s * 1 ≤ q * s * (x - y) :=Int.mul_le_mul_of_nonneg_left (by omega) (by omega)
   omega
theorem BV (a b : Int) : cmpI a b = -cmpI b a :=by unfold cmpI; split <;> split <;> (try split) <;> omega
theorem vR {a b c d : Int} (h : a - b = c - d) : cmpI a b = cmpI c d :=by rw [← nL,← nL,h]
theorem zZ {p q r s : Int} (h : p / q = r / s) : cmpI (p * s) (r * q) = cmpI (p % q * s) (r % s * q) :=by
 have a0 :=Int.mul_ediv_add_emod p q
 have b0 :=Int.mul_ediv_add_emod r s
 rw [h] at a0
 apply vR
 generalize r / s = y at *
 generalize p % q = u at *
 generalize r % s = v at *
 subst a0 b0
 grind
theorem vS {u v q s : Int} (hq : 0 < q) (hs : 0 < s) (hu : 0 ≤ u) (hv : 0 ≤ v) (h : u = 0 ∨ v = 0) : cmpI (u * s) (v * q) = sg u - sg v :=by
 rcases h with h | h <;> subst h
 · rw [Int.zero_mul,← nL,Int.zero_sub,tF,iL]
   have : sg q = 1 :=by rcases aD q with h' | h' | h' <;> omega
   rw [this,Int.mul_one]
   show _ = (0 : Int) - _
   omega
 · rw [Int.zero_mul,← nL,Int.sub_zero,iL]
   have : sg s = 1 :=by rcases aD s with h' | h' | h' <;> omega
   rw [this,Int.mul_one]
   show _ = _ - (0 : Int)
   omega
theorem A0 {a b : Int} (h : ab a ≤ ab b) (hb : rz b) : rz a :=by unfold rz at *; omega
theorem tG {p q : Int} (hq : 0 < q) (h : rz q) : rz (p % q) :=by
 have a1 :=Int.emod_nonneg p (show q ≠ 0 by omega)
 have a2 :=Int.emod_lt_of_pos p hq
 refine A0 ?_ h
 unfold ab; split <;> split <;> omega
theorem tH {p q : Int} (hq : 0 < q) (h : rz p) : rz (p / q) :=by
 have :=M4 (z :=p) (w :=q) (by omega)
 rw [(cL hq).1] at this
 exact A0 this h
set_option maxHeartbeats 4000000 in
set_option maxRecDepth 20000 in
theorem BW (a b c d : Int) (hab : rf a b) (hcd : rf c d) : Means false Tryz.prog 35 [frZ a b,frZ c d] (ii (cmpI (a * d) (c * b))) :=by
 have hb0 :=hab.2.2.1
 have hd0 :=hcd.2.2.1
 refine aB false 78 [.tmp 4] Tryz.func35 rfl rfl rfl (by simp) (by decide) rfl fun X hX => ?_
 (repeat (refine a6 q18x0 hX a7 rfl ?_; (simp [go_sem]; try (refine ⟨by kernel_rfl,?_⟩))))
 first | refine a9 (bO a b hab) ?_ | refine aE (bO a b hab) ?_
 try (simp [go_sem]; try (refine ⟨by kernel_rfl,?_⟩))
 first | refine aJ (fun hg => bO c d hcd) ?_ | refine aZ (fun hg => bO c d hcd) ?_
 try (simp [go_sem]; try (refine ⟨by kernel_rfl,?_⟩))
 refine a8 (b :=false) (by simp [go_sem]) (fun h => by cases h) (fun _ => ?_)
 (repeat (first | refine eA ?_ | refine eV ?_ | ((first | refine gC q18x0 hX ?_ | refine gD ?_ | refine gE ?_); (simp [go_sem]; try (refine ⟨by kernel_rfl,?_⟩)))))
 refine oW [0,1,2,3,4,5,6,7,8,9,10,11,13,14,16,24,52,58] 4 hX a7 ?_; (simp [go_sem]; try (refine ⟨by kernel_rfl,?_⟩))
 (repeat refine And.intro (by first | omega | (unfold maxLen; omega) | kernel_rfl | (refine ⟨by first | omega | (unfold maxLen; omega),by first | omega | (unfold maxLen; omega)⟩) | grind) ?_)
 refine ⟨⟨by kernel_rfl,by kernel_rfl⟩,?_⟩
 (repeat (refine a6 q18x0 hX a7 rfl ?_; (simp [go_sem]; try (refine ⟨by kernel_rfl,?_⟩))))
 refine aF (fun x : Int × Int × Int × Int × Int => ⟨mkE [(5,.el 0 2 0 0),(6,.el 1 2 0 0),(7,.el 2 2 0 0),(8,.el 3 2 0 0),(9,ii x.2.2.2.2)],[.row ⟨60,2,[bigZ x.1]⟩,.row ⟨60,2,[bigZ x.2.1]⟩,.row ⟨60,2,[bigZ x.2.2.1]⟩,.row ⟨60,2,[bigZ x.2.2.2.1]⟩]⟩)
  (fun x => rz x.1 ∧ rz x.2.1 ∧ rz x.2.2.1 ∧ rz x.2.2.2.1 ∧ 0 < x.2.1 ∧ 0 < x.2.2.2.1 ∧ (x.2.2.2.2 = 1 ∨ x.2.2.2.2 = -1) ∧ x.2.2.2.2 * cmpI (x.1 * x.2.2.2.1) (x.2.2.1 * x.2.1) = cmpI (a * d) (c * b)) (fun x => x.2.1.toNat) (a,b,c,d,1) ?_ ?_ ?_
 · refine aA _ [.old 2 ⟨60,2,[bigZ a]⟩,.old 3 ⟨60,2,[bigZ b]⟩,.old 4 ⟨60,2,[bigZ c]⟩,.old 5 ⟨60,2,[bigZ d]⟩] (by simp [go_sem]) ?_
   simp [go_sem]
 · exact ⟨hab.1,hab.2.1,hcd.1,hcd.2.1,hb0,hd0,.inl rfl,by simp⟩
 · rintro ⟨p,q,r,s,e⟩ ⟨zp,zq,zr,zs,hq,hs,he,hE⟩
   simp only [] at zp zq zr zs hq hs he hE
   have hu0 :=Int.emod_nonneg p (show q ≠ 0 by omega)
   have hu1 :=Int.emod_lt_of_pos p hq
   have hv0 :=Int.emod_nonneg r (show s ≠ 0 by omega)
   have hv1 :=Int.emod_lt_of_pos r hs
   have zx :=tH hq zp
   have zy :=tH hs zr
   have zu :=tG (p :=p) hq zq
   have zv :=tG (p :=r) hs zs
   have c1 :=tI (p / q) (r / s)
   have c2 :=jL (p / q) (r / s)
   have s1 :=fA (p % q)
   have s2 :=fA (r % s)
   (repeat (refine a6 q18x0 hX a7 rfl ?_; (simp [go_sem]; try (refine ⟨by kernel_rfl,?_⟩))))
   first | refine a9 (dU zp zq (by omega) (cL hq).1 (cL hq).2) ?_ | refine aE (dU zp zq (by omega) (cL hq).1 (cL hq).2) ?_
   try (simp [go_sem]; try (refine ⟨by kernel_rfl,?_⟩))
   (repeat (refine a6 q18x0 hX a7 rfl ?_; (simp [go_sem]; try (refine ⟨by kernel_rfl,?_⟩))))
   first | refine a9 (dU zr zs (by omega) (cL hs).1 (cL hs).2) ?_ | refine aE (dU zr zs (by omega) (cL hs).1 (cL hs).2) ?_
   try (simp [go_sem]; try (refine ⟨by kernel_rfl,?_⟩))
   (repeat (refine a6 q18x0 hX a7 rfl ?_; (simp [go_sem]; try (refine ⟨by kernel_rfl,?_⟩))))
   first | refine a9 (rI _ _ zx zy) ?_ | refine aE (rI _ _ zx zy) ?_
   try (simp [go_sem]; try (refine ⟨by kernel_rfl,?_⟩))
   (repeat (refine a6 q18x0 hX a7 rfl ?_; (simp [go_sem]; try (refine ⟨by kernel_rfl,?_⟩))))
   by_cases hxy : p / q = r / s
   · have hc0 : cmpI (p / q) (r / s) = 0 :=c2.2 hxy
     refine a8 (b :=false) (by simp [go_sem,hc0]) (fun h => by cases h) (fun _ => ?_)
     (repeat (refine a6 q18x0 hX a7 rfl ?_; (simp [go_sem]; try (refine ⟨by kernel_rfl,?_⟩))))
     have sgu : sg (p % q) = 0 ↔ p % q = 0 :=by rcases aD (p % q) with h | h | h <;> omega
     have sgv : sg (r % s) = 0 ↔ r % s = 0 :=by rcases aD (r % s) with h | h | h <;> omega
     rw [zZ hxy] at hE
     by_cases huv : p % q = 0 ∨ r % s = 0
     · refine a8 (b :=true) (by simp [go_sem,sgu,sgv,huv]) (fun _ => ?_) (fun h => by cases h)
       rw [vS hq hs hu0 hv0 huv] at hE
       have w1 :=w64 (x :=sg (p % q) - sg (r % s)) (by omega) (by omega)
       have w2 :=w64 (x :=e * (sg (p % q) - sg (r % s))) (by rcases he with rfl | rfl <;> omega) (by rcases he with rfl | rfl <;> omega)
       rw [hE] at w2
       (repeat (refine a6 q18x0 hX a7 rfl ?_; (simp [go_sem,w1,hE,w2]; try (refine ⟨by kernel_rfl,?_⟩))))
     · refine a8 (b :=false) (by simp [go_sem,sgu,sgv]; omega) (fun h => by cases h) (fun _ => ?_)
       have w1 :=w64 (x :=-e) (by omega) (by omega)
       (repeat (refine a6 q18x0 hX a7 rfl ?_; (simp [go_sem,w1]; try (refine ⟨by kernel_rfl,?_⟩))))
       refine ⟨q,p % q,s,r % s,-e,⟨zq,zu,zs,zv,by omega,by omega,by omega,?_⟩,by omega,?_⟩
       · rw [← hE,BV (q * (r % s)),Int.mul_comm s,Int.mul_comm q]
         grind
       · refine aA _ [.old 0 ⟨60,2,[bigZ q]⟩,.old 1 ⟨60,2,[bigZ (p % q)]⟩,.old 2 ⟨60,2,[bigZ s]⟩,.old 3 ⟨60,2,[bigZ (r % s)]⟩] (by simp [go_sem]) ?_
         simp [go_sem]
   · have hc0 : ¬ cmpI (p / q) (r / s) = 0 :=fun h => hxy (c2.1 h)
     refine a8 (b :=true) (by simp [go_sem,hc0]) (fun _ => ?_) (fun h => by cases h)
     rw [zY hq hs hxy] at hE
     have w1 :=w64 (x :=e * cmpI (p / q) (r / s)) (by rcases he with rfl | rfl <;> omega) (by rcases he with rfl | rfl <;> omega)
     rw [hE] at w1
     (repeat (refine a6 q18x0 hX a7 rfl ?_; (simp [go_sem,hE,w1]; try (refine ⟨by kernel_rfl,?_⟩))))
end Go.Proofs.YtknbcehhjffndaaGreat

namespace Go.Proofs.YtknbcehhjffndaaGreat
open Go.RowKit Go.Ab
attribute [local irreducible] AWP Go.Ab.Sub Means MeansH CallK CallG CallT CallGT
noncomputable instance (p q : Int) : Decidable (rf p q) :=Classical.propDecidable _
theorem H7 {p q : Int} (hp : rz p) (hq : rz q) : isF (sg p) (dg (ab p)) (sg q) (dg (ab q)) ↔ rf p q :=by
 unfold isF
 rw [eO,eO]
 exact ⟨fun h => h.2.2,fun h => ⟨lW hp,lW hq,h⟩⟩
set_option maxHeartbeats 4000000 in
theorem A1 (a b : Int) (h : rf a b) : Means false Tryz.prog 37 [frZ a b] (bigZ (a / b)) :=by
 have hb :=h.2.2.1
 refine aB false 20 [.cell 2 60] Tryz.func37 rfl rfl rfl (by simp) (by decide) rfl fun X hX => ?_
 (repeat (refine a6 [0,1,2,3,8] hX a7 rfl ?_; (simp [go_sem])))
 refine a9 (bO a b h) ?_
 try (simp [go_sem])
 refine a8 (b :=false) (by simp [go_sem]) (fun h => by cases h) (fun _ => ?_)
 (repeat (refine a6 [0,1,2,3,8] hX a7 rfl ?_; (simp [go_sem])))
 refine a9 (dU h.1 h.2.1 (by omega) (cL hb).1 (cL hb).2) ?_
 try (simp [go_sem])
 (repeat (refine a6 [0,1,2,3,8] hX a7 rfl ?_; (simp [go_sem])))
end Go.Proofs.YtknbcehhjffndaaGreat

namespace Go.Proofs.YtknbcehhjffndaaGreat
open Go.RowKit Go.Ab
attribute [local irreducible] AWP Go.Ab.Sub Means MeansH CallK CallG CallT CallGT
theorem BX (s1 s2 : Int) (a b : List Int) (hla : a.length ≤ 140737488355328) (hlb : b.length ≤ 140737488355328) : Means false Tryz.prog 87 [big2 s1 a,big2 s2 b] (bb (decide (s1 = s2 ∧ a = b))) :=by
 refine aB false 38 [.tmp 4] Tryz.func87 rfl rfl rfl (by simp) (by decide) rfl fun X hX => ?_
 (repeat (refine a6 q18x1 hX a7 rfl ?_; (simp [go_sem]; try (refine ⟨by kernel_rfl,?_⟩))))
 by_cases h : s1 = s2
 · subst h
   by_cases hl : a.length = b.length
   · (repeat (refine a6 q18x1 hX a7 rfl ?_; (simp [go_sem,hl]; try (refine ⟨by kernel_rfl,?_⟩))))
     refine a8 (b :=false) (by simp [go_sem,hl]) (fun hb => by cases hb) (fun _ => ?_)
     (repeat (refine a6 q18x1 hX a7 rfl ?_; (simp [go_sem]; try (refine ⟨by kernel_rfl,?_⟩))))
     refine aF (fun n : Nat => ⟨mkE [(2,.el 0 2 0 0),(3,.el 1 2 0 0),(5,ii n)],[.row ⟨60,2,[big2 s1 a]⟩,.row ⟨60,2,[big2 s1 b]⟩]⟩) (fun n => n ≤ a.length ∧ a.take n = b.take n) (fun n => a.length - n) 0 ?_ ?_ ?_
     · refine aA _ [.old 0 ⟨60,2,[big2 s1 a]⟩,.old 1 ⟨60,2,[big2 s1 b]⟩] (by simp [go_sem]) ?_
       simp [go_sem]
     · exact ⟨Nat.zero_le _,by simp⟩
     · rintro n ⟨hn,he⟩
       (repeat (refine a6 q18x1 hX a7 rfl ?_; (simp [go_sem]; try (refine ⟨by kernel_rfl,?_⟩))))
       refine a8 (b :=decide (n < a.length)) (by simp [go_sem]) (fun hd2 => ?_) (fun hd2 => ?_)
       · simp at hd2
         have h2 : n < b.length :=by omega
         (repeat (refine a6 q18x1 hX a7 rfl ?_; (simp [go_sem,hd2,h2]; (try simp (disch :=omega) only [w64,td,tm]); try (refine ⟨by kernel_rfl,?_⟩))))
         (repeat refine And.intro (by first | omega | (unfold maxLen; omega) | kernel_rfl | (refine ⟨by first | omega | (unfold maxLen; omega),by first | omega | (unfold maxLen; omega)⟩) | grind) ?_)
         try (simp [go_sem,hd2,h2]; try (refine ⟨by kernel_rfl,?_⟩))
         refine a8 (b :=decide (a[n] ≠ b[n])) (by simp [go_sem,hd2,h2]; try omega) (fun hc => ?_) (fun hc => ?_)
         · simp only [decide_eq_true_eq] at hc
           have hne : ¬ a = b :=fun e => hc (by simp only [e])
           (repeat (refine a6 q18x1 hX a7 rfl ?_; (simp [go_sem,hne]; try (refine ⟨by kernel_rfl,?_⟩))))
         · simp at hc
           (repeat (refine a6 q18x1 hX a7 rfl ?_; (simp [go_sem]; (try simp (disch :=omega) only [w64,td,tm]); try (refine ⟨by kernel_rfl,?_⟩))))
           refine ⟨n + 1,⟨by omega,?_⟩,by omega,?_⟩
           · rw [List.take_succ_eq_append_getElem hd2,List.take_succ_eq_append_getElem h2,he,hc]
           · refine aA _ [.old 0 ⟨60,2,[big2 s1 a]⟩,.old 1 ⟨60,2,[big2 s1 b]⟩] (by simp [go_sem]) ?_
             simp [go_sem]
       · have hnl : n = a.length :=by simp at hd2; omega
         subst hnl
         have hab : a = b :=by rwa [List.take_length,hl,List.take_length] at he
         (repeat (refine a6 q18x1 hX a7 rfl ?_; (simp [go_sem,hab]; try (refine ⟨by kernel_rfl,?_⟩))))
   · have hne : ¬ a = b :=fun e => hl (by rw [e])
     (repeat (refine a6 q18x1 hX a7 rfl ?_; (simp [go_sem,hl]; try (refine ⟨by kernel_rfl,?_⟩))))
     refine a8 (b :=true) (by simp [go_sem,hl]; try omega) (fun _ => ?_) (fun hb => by cases hb)
     (repeat (refine a6 q18x1 hX a7 rfl ?_; (simp [go_sem,hne]; try (refine ⟨by kernel_rfl,?_⟩))))
 · (repeat (refine a6 q18x1 hX a7 rfl ?_; (simp [go_sem,h]; try (refine ⟨by kernel_rfl,?_⟩))))
   refine a8 (b :=true) (by simp [go_sem,h]) (fun _ => ?_) (fun hb => by cases hb)
   (repeat (refine a6 q18x1 hX a7 rfl ?_; (simp [go_sem,h]; try (refine ⟨by kernel_rfl,?_⟩))))
theorem rK (z w : Int) (hz : rz z) (hw : rz w) : Means false Tryz.prog 87 [bigZ z,bigZ w] (bb (decide (z = w))) :=by
 have :=BX (sg z) (sg w) (dg (ab z)) (dg (ab w)) (by have :=bP hz; omega) (by have :=bP hw; omega)
 simpa only [vT] using this
theorem H8 (a b c d : Int) (ha : rz a) (hb : rz b) (hc : rz c) (hd : rz d) : Means false Tryz.prog 54 [frZ a b,frZ c d] (bb (decide (a = c ∧ b = d))) :=by
 refine aB false 17 [.tmp 4] Tryz.func54 rfl rfl rfl (by simp) (by decide) rfl fun X hX => ?_
 (repeat (refine a6 [0,1,2,3,4] hX a7 rfl ?_; (simp [go_sem])))
 refine a9 (rK a c ha hc) ?_
 try (simp [go_sem])
 refine aJ (fun hg => rK b d hb hd) ?_
 try (simp [go_sem])
 (repeat (refine a6 [0,1,2,3,4] hX a7 rfl ?_; (simp [go_sem])))
end Go.Proofs.YtknbcehhjffndaaGreat

namespace Go.Proofs.YtknbcehhjffndaaGreat
open Go.RowKit Go.Ab
attribute [local irreducible] AWP Go.Ab.Sub Means MeansH CallK CallG CallT CallGT CallU
abbrev frq (r : Rat) : AV :=frZ r.num r.den
def rq (r : Rat) : Prop :=rz r.num ∧ rz r.den
theorem eF {r : Rat} (h : rq r) : rf r.num r.den :=⟨h.1,h.2,by have :=r.den_pos; omega,by have :=r.reduced; simpa [Int.gcd] using this⟩
theorem M5 {p q : Int} (h : rf p q) : ∃ r : Rat,rq r ∧ r.num = p ∧ (r.den : Int) = q :=by
 obtain ⟨h1,h2,h3,h4⟩ :=h
 refine ⟨⟨p,q.toNat,by omega,?_⟩,⟨h1,?_⟩,rfl,?_⟩
 · have : q.natAbs = q.toNat :=by omega
   rw [← this]; exact h4
 · show rz (q.toNat : Int)
   rw [Int.toNat_of_nonneg (by omega)]; exact h2
 · show (q.toNat : Int) = q
   omega
theorem cH (r : Rat) : (r.num : Rat) = r * (r.den : Int) :=by
 have h :=Rat.num_divInt_den r
 rw [Rat.divInt_eq_div] at h
 have hd : (((r.den : Int)) : Rat) ≠ 0 :=by
  have :=r.den_pos
  intro e
  have : ((r.den : Int) : Rat) = ((0 : Int) : Rat) :=e
  have :=Rat.intCast_inj.1 this
  omega
 grind
theorem K9 (r : Rat) : (((r.den : Int)) : Rat) ≠ 0 :=by
 have :=r.den_pos
 intro e
 have : ((r.den : Int) : Rat) = ((0 : Int) : Rat) :=e
 have :=Rat.intCast_inj.1 this
 omega
theorem eL {p q : Int} {r : Rat} (hq : q ≠ 0) (h : r * (q : Rat) = p) : np p q = r.num ∧ nq p q = (r.den : Int) :=by
 obtain ⟨a1,a2,a3,_⟩ :=oZ (p :=p) hq
 refine DQ a1 a2 (by have :=r.den_pos; omega) (by have :=r.reduced; simpa [Int.gcd] using this) ?_
 have h1 :=cH r
 have h2 : p * (r.den : Int) = r.num * q :=by
  have : ((p * (r.den : Int) : Int) : Rat) = ((r.num * q : Int) : Rat) :=by
   rw [Rat.intCast_mul,Rat.intCast_mul,h1,← h]; grind
  exact Rat.intCast_inj.1 this
 have key : np p q * (r.den : Int) * q = r.num * nq p q * q :=by
  have e1 : np p q * (r.den : Int) * q = (np p q * q) * (r.den : Int) :=by grind
  have e2 : r.num * nq p q * q = (r.num * q) * nq p q :=by grind
  rw [e1,e2,a3,← h2]; grind
 exact Int.eq_of_mul_eq_mul_right hq key
theorem KA {a b : Rat} (h1 : a.num = b.num) (h2 : (a.den : Int) = b.den) : a = b :=Rat.ext h1 (by omega)
theorem p5 {p q : Int} {r : Rat} (hq : q ≠ 0) (h : r * (q : Rat) = p) (hp : rz p) (hz : rz q) : rq r :=by
 obtain ⟨h1,h2⟩ :=eL hq h
 obtain ⟨_,_,_,h4,h5,_⟩ :=oZ (p :=p) hq
 refine ⟨?_,?_⟩
 · rw [← h1]; unfold rz at *; omega
 · rw [← h2]
   unfold rz at *
   have : ab (nq p q) = nq p q :=by
    have :=r.den_pos
    unfold ab; rw [if_neg (by omega)]
   omega
abbrev okMul (a b : Rat) : Prop :=rz (a.num * b.num) ∧ rz (a.den * b.den)
abbrev okAdd (a b : Rat) : Prop :=sumP a.num b.den b.num a.den ∧ rz (a.den * b.den)
abbrev okSub (a b : Rat) : Prop :=sumP a.num b.den (-b.num) a.den ∧ rz (a.den * b.den)
abbrev okDiv (a b : Rat) : Prop :=rz (a.num * b.den) ∧ rz (a.den * b.num)
theorem iM (a b : Rat) : (a.den : Int) * b.den ≠ 0 :=Int.mul_ne_zero (by have :=a.den_pos; omega) (by have :=b.den_pos; omega)
theorem nM (a b : Rat) : (a + b) * ((((a.den : Int) * b.den : Int)) : Rat) = ((a.num * b.den + b.num * a.den : Int) : Rat) :=by
 rw [Rat.intCast_mul,Rat.intCast_add,Rat.intCast_mul,Rat.intCast_mul,cH a,cH b]; grind
theorem tJ (a b : Rat) : (a - b) * ((((a.den : Int) * b.den : Int)) : Rat) = ((a.num * b.den + -b.num * a.den : Int) : Rat) :=by
 rw [Rat.intCast_mul,Rat.intCast_add,Rat.intCast_mul,Rat.intCast_mul,Rat.intCast_neg,cH a,cH b]; grind
theorem nN (a b : Rat) : (a * b) * ((((a.den : Int) * b.den : Int)) : Rat) = ((a.num * b.num : Int) : Rat) :=by
 rw [Rat.intCast_mul,Rat.intCast_mul,cH a,cH b]; grind
theorem yF {b : Rat} (h : b ≠ 0) : b.num ≠ 0 :=fun e => h (by
 have :=cH b
 rw [e] at this
 have h2 :=K9 b
 have h3 : ((0 : Int) : Rat) = 0 :=rfl
 rw [h3] at this
 grind)
theorem tK (a b : Rat) (h : b ≠ 0) : (a / b) * ((((a.den : Int) * b.num : Int)) : Rat) = ((a.num * b.den : Int) : Rat) :=by
 rw [Rat.intCast_mul,Rat.intCast_mul,cH a,cH b]; grind
theorem KB {a b : Rat} (h : okAdd a b) : rq (a + b) :=p5 (iM a b) (nM a b) h.1.2.2 h.2
theorem DR {a b : Rat} (h : okSub a b) : rq (a - b) :=p5 (iM a b) (tJ a b) h.1.2.2 h.2
theorem DS {a b : Rat} (h : okMul a b) : rq (a * b) :=p5 (iM a b) (nN a b) h.1 h.2
theorem DT (a : Rat) {b : Rat} (h : b ≠ 0) : (a.den : Int) * b.num ≠ 0 :=Int.mul_ne_zero (by have :=a.den_pos; omega) (yF h)
theorem yG {a b : Rat} (hb : b ≠ 0) (h : okDiv a b) : rq (a / b) :=p5 (DT a hb) (tK a b hb) h.1 h.2
noncomputable def qv (ok : Prop) (r : Rat) : AV :=@ite _ ok (Classical.propDecidable ok) (.tup [frq r,ii 0]) (.tup [frZ 0 0,ii 6])
theorem iN {ok : Prop} {r : Rat} (h : ok) : qv ok r = .tup [frq r,ii 0] :=if_pos h
theorem qV {ok : Prop} {r : Rat} (h : ¬ ok) : qv ok r = .tup [frZ 0 0,ii 6] :=if_neg h
theorem M6 {a b : Rat} (ha : rq a) (hb : rq b) : Means false Tryz.prog 73 [frq a,frq b] (qv (okAdd a b) (a + b)) :=by
 have :=JI a.num a.den b.num b.den (eF ha) (eF hb)
 obtain ⟨h1,h2⟩ :=eL (iM a b) (nM a b)
 by_cases h : okAdd a b
 · rw [cU h,h1,h2] at this
   rw [iN h]; exact this
 · rw [cA h] at this
   rw [qV h]; exact this
theorem M7 {a b : Rat} (ha : rq a) (hb : rq b) : Means false Tryz.prog 72 [frq a,frq b] (qv (okSub a b) (a - b)) :=by
 have :=M8 a.num a.den b.num b.den (eF ha) (eF hb)
 obtain ⟨h1,h2⟩ :=eL (iM a b) (tJ a b)
 by_cases h : okSub a b
 · rw [cU h,h1,h2] at this
   rw [iN h]; exact this
 · rw [cA h] at this
   rw [qV h]; exact this
theorem DU {a b : Rat} (ha : rq a) (hb : rq b) (h : okSub a b) : Means false Tryz.prog 72 [frq a,frq b] (.tup [frq (a - b),ii 0]) :=by
 have :=M7 ha hb
 rwa [iN h] at this
theorem M9 {a b : Rat} (ha : rq a) (hb : rq b) : Means false Tryz.prog 65 [frq a,frq b] (qv (okMul a b) (a * b)) :=by
 have :=MA a.num a.den b.num b.den (eF ha) (eF hb)
 obtain ⟨h1,h2⟩ :=eL (iM a b) (nN a b)
 by_cases h : okMul a b
 · rw [cU h,h1,h2] at this
   rw [iN h]; exact this
 · rw [cA h] at this
   rw [qV h]; exact this
theorem KC {a b : Rat} (ha : rq a) (hb : rq b) (h : okMul a b) : Means false Tryz.prog 65 [frq a,frq b] (.tup [frq (a * b),ii 0]) :=by
 have :=M9 ha hb
 rwa [iN h] at this
theorem MB {a b : Rat} (ha : rq a) (hb : rq b) (h0 : b ≠ 0) : Means false Tryz.prog 91 [frq a,frq b] (qv (okDiv a b) (a / b)) :=by
 have :=MC a.num a.den b.num b.den (eF ha) (eF hb) (yF h0)
 obtain ⟨h1,h2⟩ :=eL (DT a h0) (tK a b h0)
 by_cases h : okDiv a b
 · rw [cU h,h1,h2] at this
   rw [iN h]; exact this
 · rw [cA h] at this
   rw [qV h]; exact this
theorem KD {a b : Rat} (ha : rq a) (hb : rq b) (h0 : b ≠ 0) (h : okDiv a b) : Means false Tryz.prog 91 [frq a,frq b] (.tup [frq (a / b),ii 0]) :=by
 have :=MB ha hb h0
 rwa [iN h] at this
theorem ofq {p q : Int} (h0 : q ≠ 0) : ((p : Rat) / (q : Rat)) * (q : Rat) = (p : Rat) :=by
 have : (q : Rat) ≠ 0 :=fun e => h0 (Rat.intCast_inj.1 (show (q : Rat) = ((0 : Int) : Rat) from e))
 grind
theorem rL {p q : Int} (hp : -9223372036854775808 ≤ p ∧ p ≤ 9223372036854775807) (hq : -9223372036854775808 ≤ q ∧ q ≤ 9223372036854775807) (h0 : q ≠ 0) : rq ((p : Rat) / (q : Rat)) :=p5 h0 (ofq h0) (l3 hp) (l3 hq)
theorem MD (p q : Int) (hp : -9223372036854775808 ≤ p ∧ p ≤ 9223372036854775807) (hq : -9223372036854775808 ≤ q ∧ q ≤ 9223372036854775807) (h0 : q ≠ 0) : Means false Tryz.prog 66 [ii p,ii q] (.tup [frq ((p : Rat) / (q : Rat)),ii 0]) :=by
 have :=NC p q hp hq h0
 obtain ⟨h1,h2⟩ :=eL (r :=(p : Rat) / (q : Rat)) h0 (ofq h0)
 rwa [h1,h2] at this
end Go.Proofs.YtknbcehhjffndaaGreat

namespace Go.Proofs.YtknbcehhjffndaaGreat
open Go.RowKit Go.Ab
attribute [local irreducible] AWP Go.Ab.Sub Means MeansH CallK CallG CallT CallGT CallU
abbrev calC (e : Int) : Cell :=.row ⟨55,1,[.agg [ii e]]⟩
def kp (c e : Int) : Int :=if c = 0 then e else c
theorem p6 (c e : Int) (s1 : Int) (L1 : List Int) (s2 : Int) (L2 : List Int) : MeansH Tryz.prog 64 [calC c] [.el 0 1 0 0,frac4 s1 L1 s2 L2,ii e] (frac4 s1 L1 s2 L2) [calC (kp c e)] :=by
 refine bI 1 17 [.cell 6 62] Tryz.func64 rfl rfl rfl (by simp) (by decide) rfl fun X hX => ?_
 (repeat (refine aC [0,1,2,4,6,11,1000000] hX a7 rfl ?_; (simp [go_sem])))
 refine a8 (b :=decide (c = 0)) (by simp [go_sem]) (fun hb => ?_) (fun hb => ?_)
 · simp only [decide_eq_true_eq] at hb
   have e1 : kp c e = e :=if_pos hb
   rw [e1]
   (repeat (refine aC [0,1,2,4,6,11,1000000] hX a7 rfl ?_; (simp [go_sem])))
   refine b8 ?_; (try simp only [thenQ,blkQ,loopQ]); refine bH [(1000000,.ow 0)] [.old 0 ⟨55,1,[.agg [ii e]]⟩] ?_
   simp [go_sem]
 · simp only [decide_eq_false_iff_not] at hb
   have e1 : kp c e = c :=if_neg hb
   rw [e1]
   (repeat (refine aC [0,1,2,4,6,11,1000000] hX a7 rfl ?_; (simp [go_sem])))
   refine b8 ?_; (try simp only [thenQ,blkQ,loopQ]); refine bH [(1000000,.ow 0)] [.old 0 ⟨55,1,[.agg [ii c]]⟩] ?_
   simp [go_sem]
theorem ME (c : Int) {p q s1 s2 e : Int} {L1 L2 : List Int} (h : Means false Tryz.prog 66 [ii p,ii q] (.tup [frac4 s1 L1 s2 L2,ii e])) : MeansH Tryz.prog 32 [calC c] [.el 0 1 0 0,ii p,ii q] (frac4 s1 L1 s2 L2) [calC (kp c e)] :=by
 have c1 :=p6 c e s1 L1 s2 L2
 refine bI 1 14 [.cell 6 62] Tryz.func32 rfl rfl rfl (by simp) (by decide) rfl fun X hX => ?_
 (repeat (refine aC [0,1,2,6,1000000] hX a7 rfl ?_; (simp [go_sem])))
 refine a9 (h) ?_
 try (simp [go_sem])
 refine aG [0] (c1) (by simp [go_sem]) ?_
 try (simp [go_sem])
 refine b8 ?_; (try simp only [thenQ,blkQ,loopQ]); refine bH [(1000000,.ow 0)] [.old 0 ⟨55,1,[.agg [ii (kp c e)]]⟩] ?_
 simp [go_sem]
theorem DV (c : Int) {s1 s2 t1 t2 r1 r2 e : Int} {L1 L2 M1 M2 N1 N2 : List Int} (h : Means false Tryz.prog 73 [frac4 s1 L1 s2 L2,frac4 t1 M1 t2 M2] (.tup [frac4 r1 N1 r2 N2,ii e])) : MeansH Tryz.prog 39 [calC c] [.el 0 1 0 0,frac4 s1 L1 s2 L2,frac4 t1 M1 t2 M2] (frac4 r1 N1 r2 N2) [calC (kp c e)] :=by
 have c1 :=p6 c e r1 N1 r2 N2
 refine bI 1 14 [.cell 6 62] Tryz.func39 rfl rfl rfl (by simp) (by decide) rfl fun X hX => ?_
 (repeat (refine aC q18x2 hX a7 rfl ?_; (simp [go_sem])))
 refine a9 (h) ?_
 try (simp [go_sem])
 refine aG [0] (c1) (by simp [go_sem]) ?_
 try (simp [go_sem])
 refine b8 ?_; (try simp only [thenQ,blkQ,loopQ]); refine bH [(1000000,.ow 0)] [.old 0 ⟨55,1,[.agg [ii (kp c e)]]⟩] ?_
 simp [go_sem]
theorem JJ (c : Int) {s1 s2 t1 t2 r1 r2 e : Int} {L1 L2 M1 M2 N1 N2 : List Int} (h : Means false Tryz.prog 72 [frac4 s1 L1 s2 L2,frac4 t1 M1 t2 M2] (.tup [frac4 r1 N1 r2 N2,ii e])) : MeansH Tryz.prog 38 [calC c] [.el 0 1 0 0,frac4 s1 L1 s2 L2,frac4 t1 M1 t2 M2] (frac4 r1 N1 r2 N2) [calC (kp c e)] :=by
 have c1 :=p6 c e r1 N1 r2 N2
 refine bI 1 14 [.cell 6 62] Tryz.func38 rfl rfl rfl (by simp) (by decide) rfl fun X hX => ?_
 (repeat (refine aC q18x2 hX a7 rfl ?_; (simp [go_sem])))
 refine a9 (h) ?_
 try (simp [go_sem])
 refine aG [0] (c1) (by simp [go_sem]) ?_
 try (simp [go_sem])
 refine b8 ?_; (try simp only [thenQ,blkQ,loopQ]); refine bH [(1000000,.ow 0)] [.old 0 ⟨55,1,[.agg [ii (kp c e)]]⟩] ?_
 simp [go_sem]
theorem MF (c : Int) {s1 s2 t1 t2 r1 r2 e : Int} {L1 L2 M1 M2 N1 N2 : List Int} (h : Means false Tryz.prog 65 [frac4 s1 L1 s2 L2,frac4 t1 M1 t2 M2] (.tup [frac4 r1 N1 r2 N2,ii e])) : MeansH Tryz.prog 31 [calC c] [.el 0 1 0 0,frac4 s1 L1 s2 L2,frac4 t1 M1 t2 M2] (frac4 r1 N1 r2 N2) [calC (kp c e)] :=by
 have c1 :=p6 c e r1 N1 r2 N2
 refine bI 1 14 [.cell 6 62] Tryz.func31 rfl rfl rfl (by simp) (by decide) rfl fun X hX => ?_
 (repeat (refine aC q18x2 hX a7 rfl ?_; (simp [go_sem])))
 refine a9 (h) ?_
 try (simp [go_sem])
 refine aG [0] (c1) (by simp [go_sem]) ?_
 try (simp [go_sem])
 refine b8 ?_; (try simp only [thenQ,blkQ,loopQ]); refine bH [(1000000,.ow 0)] [.old 0 ⟨55,1,[.agg [ii (kp c e)]]⟩] ?_
 simp [go_sem]
theorem MG (c : Int) {s1 s2 t1 t2 r1 r2 e : Int} {L1 L2 M1 M2 N1 N2 : List Int} (h : Means false Tryz.prog 91 [frac4 s1 L1 s2 L2,frac4 t1 M1 t2 M2] (.tup [frac4 r1 N1 r2 N2,ii e])) : MeansH Tryz.prog 63 [calC c] [.el 0 1 0 0,frac4 s1 L1 s2 L2,frac4 t1 M1 t2 M2] (frac4 r1 N1 r2 N2) [calC (kp c e)] :=by
 have c1 :=p6 c e r1 N1 r2 N2
 refine bI 1 14 [.cell 6 62] Tryz.func63 rfl rfl rfl (by simp) (by decide) rfl fun X hX => ?_
 (repeat (refine aC q18x2 hX a7 rfl ?_; (simp [go_sem])))
 refine a9 (h) ?_
 try (simp [go_sem])
 refine aG [0] (c1) (by simp [go_sem]) ?_
 try (simp [go_sem])
 refine b8 ?_; (try simp only [thenQ,blkQ,loopQ]); refine bH [(1000000,.ow 0)] [.old 0 ⟨55,1,[.agg [ii (kp c e)]]⟩] ?_
 simp [go_sem]
end Go.Proofs.YtknbcehhjffndaaGreat

namespace Go.Proofs.YtknbcehhjffndaaGreat
def sumR (f : Nat → Rat) : Nat → Rat
 | 0 => 0
 | n + 1 => sumR f n + f n
theorem aR {f g : Nat → Rat} : ∀ {n : Nat},(∀ k,k < n → f k = g k) → sumR f n = sumR g n
 | 0,_ => rfl
 | n + 1,h => by simp only [sumR]; rw [aR fun k hk => h k (by omega),h n (by omega)]
theorem cN (f g : Nat → Rat) (a b : Rat) : ∀ n,sumR (fun k => a * f k + b * g k) n = a * sumR f n + b * sumR g n
 | 0 => by simp only [sumR]; grind
 | n + 1 => by simp only [sumR]; rw [cN f g a b n]; grind
theorem jM {f : Nat → Rat} : ∀ {n : Nat},(∀ k,k < n → f k = 0) → sumR f n = 0
 | 0,_ => rfl
 | n + 1,h => by simp only [sumR]; rw [jM fun k hk => h k (by omega),h n (by omega)]; grind
theorem dL {f : Nat → Rat} {i : Nat} : ∀ {n : Nat},i < n → (∀ k,k < n → k ≠ i → f k = 0) → sumR f n = f i
 | 0,h,_ => by omega
 | n + 1,h,h0 => by
   simp only [sumR]
   by_cases hi : i = n
   · subst hi
     rw [jM fun k hk => h0 k (by omega) (by omega)]; grind
   · rw [dL (i :=i) (n :=n) (by omega) fun k hk hne => h0 k (by omega) hne,h0 n (by omega) (fun e => hi e.symm)]; grind
theorem vU {f : Nat → Rat} {i : Nat} : ∀ {n : Nat},i + 1 < n → (∀ k,k < n → k ≠ i → k ≠ i + 1 → f k = 0) → sumR f n = f i + f (i + 1)
 | 0,h,_ => by omega
 | n + 1,h,h0 => by
   simp only [sumR]
   by_cases hi : i + 1 = n
   · subst hi
     rw [dL (i :=i) (n :=i + 1) (by omega) fun k hk hne => h0 k (by omega) hne (by omega)]
   · rw [vU (i :=i) (n :=n) (by omega) fun k hk h1 h2 => h0 k (by omega) h1 h2,h0 n (by omega) (by omega) (by omega)]; grind
theorem iO {f : Nat → Rat} : ∀ {n : Nat},(∀ k,k < n → 0 ≤ f k) → 0 ≤ sumR f n
 | 0,_ => by simp only [sumR]; decide
 | n + 1,h => by
   simp only [sumR]
   have h1 :=iO fun k (hk : k < n) => h k (by omega)
   have h2 :=h n (by omega)
   grind
theorem tL {f : Nat → Rat} {i : Nat} : ∀ {n : Nat},i < n → (∀ k,k < n → k ≠ i → f k ≤ 0) → sumR f n ≤ f i
 | 0,h,_ => by omega
 | n + 1,h,h0 => by
   simp only [sumR]
   by_cases hi : i = n
   · subst hi
     have : 0 ≤ sumR (fun k => (-1) * f k + 0 * f k) i :=iO fun k hk => by have :=h0 k (by omega) (by omega); grind
     rw [cN] at this
     grind
   · have h1 :=tL (i :=i) (n :=n) (by omega) fun k hk hne => h0 k (by omega) hne
     have h2 :=h0 n (by omega) (fun e => hi e.symm)
     grind
abbrev Mx :=Nat → Nat → Rat
def Sol (A : Mx) (n : Nat) (x : Nat → Rat) : Prop :=∀ k,k < n → sumR (fun t => A k t * x t) n = A k n
def elimP (A : Mx) (i k : Nat) : Mx :=fun k' t => if k' ≠ i ∧ k' < k ∧ i ≤ t then A k' t - A k' i / A i i * A i t else A k' t
def gj (A : Mx) (n : Nat) : Nat → Mx
 | 0 => A
 | i + 1 => elimP (gj A n i) i n
structure Inv (A : Mx) (n i : Nat) : Prop where
 zero : ∀ k t,k < n → t < i → k ≠ t → A k t = 0
 off : ∀ k t,k < n → i ≤ t → t < n → k ≠ t → A k t ≤ 0
 col : ∀ t,i ≤ t → t < n → 0 < sumR (fun k => if i ≤ k then A k t else 0) n
 rhs : ∀ k,k < n → 0 ≤ A k n
 dpos : ∀ k,k < i → k < n → 0 < A k k
theorem fB {a p : Rat} (ha : a ≤ 0) (hp : 0 < p) : a / p ≤ 0 :=by
 have h1 : 0 ≤ -a :=by grind
 have h2 : 0 ≤ p⁻¹ :=by have :=Rat.inv_pos.2 hp; grind
 have :=Rat.mul_nonneg h1 h2
 rw [Rat.div_def]; grind
theorem vV {a p : Rat} (ha : 0 ≤ a) (hp : 0 < p) : 0 ≤ a / p :=by
 have h2 : 0 ≤ p⁻¹ :=by have :=Rat.inv_pos.2 hp; grind
 have :=Rat.mul_nonneg ha h2
 rw [Rat.div_def]; exact this
theorem DW {a b : Rat} (ha : a ≤ 0) (hb : b ≤ 0) : 0 ≤ a * b :=by
 have :=Rat.mul_nonneg (show 0 ≤ -a by grind) (show 0 ≤ -b by grind)
 grind
theorem yH {a b : Rat} (ha : 0 ≤ a) (hb : b ≤ 0) : a * b ≤ 0 :=by
 have :=Rat.mul_nonneg ha (show 0 ≤ -b by grind)
 grind
theorem lX {A : Mx} {n i : Nat} (h : Inv A n i) (hi : i < n) : 0 < A i i :=by
 have h1 :=h.col i (Nat.le_refl _) hi
 have h2 :=tL (f :=fun k => if i ≤ k then A k i else 0) hi fun k hk hne => by
  split
  · exact h.off k i hk (Nat.le_refl _) hi hne
  · grind
 rw [if_pos (Nat.le_refl _)] at h2
 grind
theorem eG (A : Mx) (i k t : Nat) : elimP A i k i t = A i t :=if_neg (by omega)
theorem cQ {A : Mx} {i n k t : Nat} (hk : k < n) (hne : k ≠ i) (ht : i ≤ t) : elimP A i n k t = A k t - A k i / A i i * A i t :=if_pos ⟨hne,hk,ht⟩
theorem jN {A : Mx} {i n k t : Nat} (ht : t < i) : elimP A i n k t = A k t :=if_neg (by omega)
theorem DX {A : Mx} {n i : Nat} (h : Inv A n i) (hi : i < n) : Inv (elimP A i n) n (i + 1) :=by
 have hp :=lX h hi
 refine ⟨fun k t hk ht hne => ?_,fun k t hk ht htn hne => ?_,fun t ht htn => ?_,fun k hk => ?_,fun k hk hkn => ?_⟩
 · by_cases hti : t = i
   · subst hti
     rw [cQ hk hne (Nat.le_refl _)]
     grind
   · rw [jN (by omega)]
     exact h.zero k t hk (by omega) hne
 · by_cases hki : k = i
   · subst hki
     rw [eG]
     exact h.off k t hk (by omega) htn hne
   · rw [cQ hk hki (by omega)]
     have h1 :=h.off k t hk (by omega) htn hne
     have h2 :=fB (h.off k i hk (Nat.le_refl _) hi hki) hp
     have h3 :=DW h2 (h.off i t hi (by omega) htn (by omega))
     grind
 · have e : sumR (fun k => if i + 1 ≤ k then elimP A i n k t else 0) n = sumR (fun k => 1 * (if i ≤ k then A k t else 0) + (-(A i t / A i i)) * (if i ≤ k then A k i else 0)) n :=by
    refine aR fun k hk => ?_
    by_cases h1 : k < i
    · rw [if_neg (by omega),if_neg (by omega),if_neg (by omega)]; grind
    · by_cases h2 : k = i
      · subst h2
        rw [if_neg (by omega),if_pos (by omega),if_pos (by omega)]; grind
      · rw [if_pos (by omega),if_pos (by omega),if_pos (by omega),cQ hk h2 (by omega)]; grind
   rw [e,cN]
   have h1 :=h.col t (by omega) htn
   have h2 :=h.col i (Nat.le_refl _) hi
   have h3 :=yH (Rat.le_of_lt h2) (fB (h.off i t hi (by omega) htn (by omega)) hp)
   grind
 · by_cases hki : k = i
   · subst hki
     rw [eG]; exact h.rhs k hk
   · rw [cQ hk hki (by omega)]
     have h1 :=h.rhs k hk
     have h2 :=fB (h.off k i hk (Nat.le_refl _) hi hki) hp
     have h3 :=yH (h.rhs i hi) h2
     grind
 · by_cases hki : k = i
   · subst hki
     rw [eG]; exact hp
   · rw [jN (by omega)]
     exact h.dpos k (by omega) hkn
theorem lY {A : Mx} {n : Nat} (h : Inv A n 0) : ∀ i,i ≤ n → Inv (gj A n i) n i
 | 0,_ => h
 | i + 1,hi => DX (lY h i (by omega)) (by omega)
theorem A2 (A : Mx) (n k : Nat) : ∀ i,k ≤ i → gj A n i k k = gj A n k k k
 | 0,h => by have : k = 0 :=by omega
             subst this; rfl
 | i + 1,h => by
   by_cases hk : k = i + 1
   · rw [hk]
   · rw [← A2 A n k i (by omega)]
     show elimP (gj A n i) i n k k = _
     by_cases hki : k = i
     · subst hki; exact eG _ _ _ _
     · exact jN (by omega)
theorem DY {A : Mx} {n i : Nat} {x : Nat → Rat} (hi : i < n) (hp : A i i ≠ 0) (hz : ∀ t,t < i → A i t = 0) : Sol (elimP A i n) n x ↔ Sol A n x :=by
 have row : ∀ k,k < n → k ≠ i → sumR (fun t => elimP A i n k t * x t) n = sumR (fun t => A k t * x t) n - A k i / A i i * sumR (fun t => A i t * x t) n :=by
  intro k hk hne
  have : sumR (fun t => elimP A i n k t * x t) n = sumR (fun t => 1 * (A k t * x t) + (-(A k i / A i i)) * (A i t * x t)) n :=by
   refine aR fun t ht => ?_
   by_cases h : i ≤ t
   · rw [cQ hk hne h]; grind
   · rw [jN (by omega),hz t (by omega)]; grind
  rw [this,cN]; grind
 have rowi : sumR (fun t => elimP A i n i t * x t) n = sumR (fun t => A i t * x t) n :=aR fun t _ => by rw [eG]
 constructor
 · intro h k hk
   have hi' :=h i hi
   rw [rowi,eG] at hi'
   by_cases hne : k = i
   · subst hne; exact hi'
   · have :=h k hk
     rw [row k hk hne,cQ hk hne (by omega),hi'] at this
     grind
 · intro h k hk
   by_cases hne : k = i
   · subst hne; rw [rowi,eG]; exact h k hk
   · rw [row k hk hne,cQ hk hne (by omega),h k hk,h i hi]
theorem DZ {A : Mx} {n : Nat} {x : Nat → Rat} (h : Inv A n 0) : ∀ i,i ≤ n → (Sol (gj A n i) n x ↔ Sol A n x)
 | 0,_ => Iff.rfl
 | i + 1,hi => by
   have hv :=lY h i (by omega)
   have hp :=lX hv (by omega)
   rw [← DZ h i (by omega)]
   exact DY (by omega) (by grind) fun t ht => hv.zero i t (by omega) ht (by omega)
def solx (A : Mx) (n k : Nat) : Rat :=gj A n n k n / gj A n n k k
theorem E0 {A : Mx} {n : Nat} {x : Nat → Rat} (h : Inv A n 0) : Sol A n x ↔ ∀ k,k < n → x k = solx A n k :=by
 have hv :=lY h n (Nat.le_refl _)
 rw [← DZ h n (Nat.le_refl _)]
 have one : ∀ k,k < n → sumR (fun t => gj A n n k t * x t) n = gj A n n k k * x k :=fun k hk =>
  dL hk fun t ht hne => by rw [hv.zero k t hk ht (fun e => hne e.symm)]; grind
 constructor
 · intro hs k hk
   have h1 :=hs k hk
   rw [one k hk] at h1
   have h2 :=hv.dpos k hk hk
   unfold solx
   rw [← h1]; grind
 · intro hs k hk
   have h2 :=hv.dpos k hk hk
   rw [one k hk,hs k hk]
   unfold solx; grind
theorem vW {A : Mx} {n k : Nat} (h : Inv A n 0) (hk : k < n) : 0 ≤ solx A n k :=by
 have hv :=lY h n (Nat.le_refl _)
 exact vV (hv.rhs k hk) (hv.dpos k hk hk)
theorem vX {A : Mx} {n : Nat} (h : Inv A n 0) : Sol A n (solx A n) :=(E0 h).2 fun _ _ => rfl
theorem E3 {A : Mx} {n i : Nat} (h : Inv A n 0) (hi : i < n) : 0 < gj A n i i i :=lX (lY h i (by omega)) hi
end Go.Proofs.YtknbcehhjffndaaGreat

namespace Go.Proofs.YtknbcehhjffndaaGreat
def sgn (j : Nat) : Rat :=if j % 2 = 0 then 1 else -1
theorem E4 (j : Nat) : sgn (j + 1) = - sgn j :=by
 unfold sgn
 by_cases h : j % 2 = 0
 · rw [if_neg (by omega),if_pos h]
 · rw [if_pos (by omega),if_neg h]; decide
def minor (j : Nat) (A : Mx) : Mx :=fun k t => A (k + 1) (if t < j then t else t + 1)
def det : Nat → Mx → Rat
 | 0,_ => 1
 | n + 1,A => sumR (fun j => sgn j * A 0 j * det n (minor j A)) (n + 1)
theorem dW : ∀ (n : Nat) {A B : Mx},(∀ k t,k < n → t < n → A k t = B k t) → det n A = det n B
 | 0,_,_,_ => rfl
 | n + 1,A,B,h => by
   unfold det
   refine aR fun j hj => ?_
   rw [h 0 j (by omega) hj,dW n (A :=minor j A) (B :=minor j B) fun k t hk ht => ?_]
   unfold minor
   split
   · exact h _ _ (by omega) (by omega)
   · exact h _ _ (by omega) (by omega)
def setCol (A : Mx) (c : Nat) (v : Nat → Rat) : Mx :=fun k t => if t = c then v k else A k t
theorem yI (A : Mx) (c : Nat) (v : Nat → Rat) : minor c (setCol A c v) = minor c A :=by
 funext k t
 unfold minor setCol
 split <;> rw [if_neg (by omega)]
theorem vY (A : Mx) (c j : Nat) (v : Nat → Rat) (h : j ≠ c) : minor j (setCol A c v) = setCol (minor j A) (if c < j then c else c - 1) (fun k => v (k + 1)) :=by
 funext k t
 unfold minor setCol
 by_cases h1 : c < j
 · rw [if_pos h1]
   by_cases ht : t < j
   · simp only [if_pos ht]
   · rw [if_neg ht,if_neg (by omega),if_neg (by omega)]
     simp only [if_neg ht]
 · rw [if_neg h1]
   by_cases ht : t < j
   · rw [if_pos ht,if_neg (by omega),if_neg (by omega)]
     simp only [if_pos ht]
   · rw [if_neg ht]
     by_cases h2 : t + 1 = c
     · rw [if_pos h2,if_pos (by omega)]
     · rw [if_neg h2,if_neg (by omega)]
       simp only [if_neg ht]
theorem dX (A : Mx) (c : Nat) (v : Nat → Rat) (k : Nat) : setCol A c v k c = v k :=if_pos rfl
theorem dB (A : Mx) (c : Nat) (v : Nat → Rat) (k : Nat) {t : Nat} (h : t ≠ c) : setCol A c v k t = A k t :=if_neg h
theorem gV : ∀ (n : Nat) (A : Mx) (c : Nat) (u v : Nat → Rat) (a b : Rat),c < n →
  det n (setCol A c fun k => a * u k + b * v k) = a * det n (setCol A c u) + b * det n (setCol A c v)
 | 0,_,c,_,_,_,_,h => by omega
 | n + 1,A,c,u,v,a,b,h => by
   unfold det
   rw [← cN]
   refine aR fun j hj => ?_
   by_cases hc : j = c
   · subst hc
     simp only [yI,dX]
     grind
   · simp only [vY _ _ _ _ hc,dB _ _ _ _ hc]
     rw [gV n (minor j A) (if c < j then c else c - 1) (fun k => u (k + 1)) (fun k => v (k + 1)) a b (by split <;> omega)]
     grind
theorem tM : ∀ (n : Nat) (A : Mx) (c : Nat),c + 1 < n → (∀ k,k < n → A k c = A k (c + 1)) → det n A = 0
 | 0,_,c,h,_ => by omega
 | n + 1,A,c,h,he => by
   unfold det
   rw [vU h fun j hj h1 h2 => ?_]
   · rw [he 0 (by omega),E4,dW n (A :=minor c A) (B :=minor (c + 1) A) fun k t hk ht => ?_]
     · grind
     · unfold minor
       by_cases h1 : t < c
       · rw [if_pos h1,if_pos (by omega)]
       · rw [if_neg h1]
         by_cases h2 : t < c + 1
         · rw [if_pos h2]
           have : t = c :=by omega
           subst this
           exact (he (k + 1) (by omega)).symm
         · rw [if_neg h2]
   · rw [tM n (minor j A) (if c < j then c else c - 1) (by split <;> omega) fun k hk => ?_]
     · grind
     · unfold minor
       by_cases h3 : c < j
       · rw [if_pos h3,if_pos (by omega),if_pos (by omega)]; exact he _ (by omega)
       · rw [if_neg h3,if_neg (by omega),if_neg (by omega)]
         have : c - 1 + 1 = c :=by omega
         rw [this]
         exact he _ (by omega)
theorem fN (A : Mx) (c : Nat) : setCol A c (fun k => A k c) = A :=by
 funext k t
 unfold setCol
 split
 · rename_i h; rw [h]
 · rfl
def swapC (A : Mx) (c : Nat) : Mx :=setCol (setCol A c fun k => A k (c + 1)) (c + 1) fun k => A k c
theorem E5 (n : Nat) (A : Mx) (c : Nat) (h : c + 1 < n) : det n (swapC A c) = - det n A :=by
 have e0 : ∀ (u v : Nat → Rat),(∀ k,u k = v k) → det n (setCol (setCol A c u) (c + 1) v) = 0 :=fun u v huv =>
  tM n _ c h fun k _ => by rw [dX,dB _ _ _ _ (by omega),dX,huv k]
 let p : Nat → Rat :=fun k => A k c
 let q : Nat → Rat :=fun k => A k (c + 1)
 have comm : ∀ (u v : Nat → Rat),setCol (setCol A c u) (c + 1) v = setCol (setCol A (c + 1) v) c u :=fun u v => by
  funext k t
  unfold setCol
  by_cases h1 : t = c + 1
  · subst h1
    rw [if_pos rfl,if_neg (by omega),if_pos rfl]
  · simp only [if_neg h1]
 have h1 :=e0 (fun k => 1 * p k + 1 * q k) (fun k => 1 * p k + 1 * q k) (fun _ => rfl)
 rw [gV n _ (c + 1) p q 1 1 h,comm _ p,comm _ q,gV n _ c p q 1 1 (by omega),gV n _ c p q 1 1 (by omega),← comm,← comm,← comm,← comm] at h1
 have h2 :=e0 p p (fun _ => rfl)
 have h3 :=e0 q q (fun _ => rfl)
 have h4 : setCol (setCol A c p) (c + 1) q = A :=by rw [show setCol A c p = A from fN A c]; exact fN A (c + 1)
 rw [h2,h3,h4] at h1
 show det n (setCol (setCol A c q) (c + 1) p) = _
 grind
theorem yJ : ∀ (m n : Nat) (A : Mx) (c : Nat),c + 1 + m < n → (∀ k,k < n → A k c = A k (c + 1 + m)) → det n A = 0
 | 0,n,A,c,h,he => tM n A c h he
 | m + 1,n,A,c,h,he => by
   have h1 :=E5 n A (c + 1 + m) (by omega)
   have h2 :=yJ m n (swapC A (c + 1 + m)) c (by omega) fun k hk => by
    unfold swapC
    rw [dB _ _ _ _ (by omega),dB _ _ _ _ (by omega),dB _ _ _ _ (by omega),dX]
    rw [he k hk]; congr 1
   rw [h2] at h1
   grind
theorem vZ {n : Nat} {A : Mx} {c d : Nat} (hc : c < n) (hd : d < n) (hne : c ≠ d) (he : ∀ k,k < n → A k c = A k d) : det n A = 0 :=by
 rcases Nat.lt_or_gt_of_ne hne with h | h
 · refine yJ (d - c - 1) n A c (by omega) fun k hk => ?_
   have : c + 1 + (d - c - 1) = d :=by omega
   rw [this]; exact he k hk
 · refine yJ (c - d - 1) n A d (by omega) fun k hk => ?_
   have : d + 1 + (c - d - 1) = c :=by omega
   rw [this]; exact (he k hk).symm
theorem H9 {n : Nat} (A : Mx) {c d : Nat} (hc : c < n) (hd : d < n) (hne : c ≠ d) (a : Rat) : det n (setCol A c fun k => A k c + a * A k d) = det n A :=by
 have h1 :=gV n A c (fun k => A k c) (fun k => A k d) 1 a hc
 have h2 : det n (setCol A c fun k => A k d) = 0 :=vZ hc hd hne fun k _ => by rw [dX,dB _ _ _ _ (fun e => hne e.symm)]
 rw [h2,fN] at h1
 have h3 : (fun k => A k c + a * A k d) = fun k => 1 * A k c + a * A k d :=by funext k; grind
 rw [h3,h1]; grind
theorem KE {A : Mx} {n : Nat} {x : Nat → Rat} (h : Sol A n x) {j : Nat} (hj : j < n) : det n (setCol A j fun k => A k n) = x j * det n A :=by
 have h1 : det n (setCol A j fun k => A k n) = det n (setCol A j fun k => sumR (fun t => A k t * x t) n) :=dW n fun k t hk _ => by
  unfold setCol
  split
  · exact (h k hk).symm
  · rfl
 have h2 : ∀ m,det n (setCol A j fun k => sumR (fun t => A k t * x t) m) = sumR (fun t => x t * det n (setCol A j fun k => A k t)) m :=by
  intro m
  induction m with
  | zero =>
    have :=gV n A j (fun _ => 0) (fun _ => 0) 0 0 hj
    simp only [sumR]
    have e : (fun k : Nat => (0 : Rat) * 0 + 0 * 0) = fun _ => (0 : Rat) :=by funext k; grind
    rw [e] at this
    rw [this]; grind
  | succ m ih =>
    have :=gV n A j (fun k => sumR (fun t => A k t * x t) m) (fun k => A k m) 1 (x m) hj
    have e : (fun k => sumR (fun t => A k t * x t) (m + 1)) = fun k => 1 * sumR (fun t => A k t * x t) m + x m * A k m :=by funext k; simp only [sumR]; grind
    rw [e,this,ih]
    simp only [sumR]; grind
 rw [h1,h2,dL hj fun t ht hne => ?_]
 · rw [fN]
 · rw [vZ hj ht (fun e => hne e.symm) fun k _ => by rw [dX,dB _ _ _ _ hne]]; grind
structure MM (A : Mx) (n : Nat) : Prop where
 off : ∀ k t,k < n → t < n → k ≠ t → A k t ≤ 0
 col : ∀ t,t < n → 0 < sumR (fun k => A k t) n
def schur (A : Mx) : Mx :=fun k t => A (k + 1) (t + 1) - A (k + 1) 0 / A 0 0 * A 0 (t + 1)
theorem p7 (f : Nat → Rat) : ∀ n,sumR f (n + 1) = f 0 + sumR (fun k => f (k + 1)) n
 | 0 => by simp only [sumR]; grind
 | n + 1 => by rw [sumR,p7 f n]; simp only [sumR]; grind
theorem w8 {A : Mx} {n : Nat} (h : MM A (n + 1)) : 0 < A 0 0 :=by
 have h1 :=h.col 0 (by omega)
 have h2 :=tL (f :=fun k => A k 0) (i :=0) (n :=n + 1) (by omega) fun k hk hne => h.off k 0 hk (by omega) hne
 grind
theorem E6 {A : Mx} {n : Nat} (h : MM A (n + 1)) : MM (schur A) n :=by
 have hp :=w8 h
 refine ⟨fun k t hk ht hne => ?_,fun t ht => ?_⟩
 · have h1 :=h.off (k + 1) (t + 1) (by omega) (by omega) (by omega)
   have h2 :=DW (fB (h.off (k + 1) 0 (by omega) (by omega) (by omega)) hp) (h.off 0 (t + 1) (by omega) (by omega) (by omega))
   unfold schur; grind
 · have h1 :=h.col (t + 1) (by omega)
   have h2 :=h.col 0 (by omega)
   rw [p7] at h1 h2
   have e : sumR (fun k => schur A k t) n = 1 * sumR (fun k => A (k + 1) (t + 1)) n + (-(A 0 (t + 1) / A 0 0)) * sumR (fun k => A (k + 1) 0) n :=by
    rw [← cN]
    exact aR fun k _ => by unfold schur; grind
   rw [e]
   have h3 :=yH (Rat.le_of_lt h2) (fB (h.off 0 (t + 1) (by omega) (by omega) (by omega)) hp)
   generalize sumR (fun k => A (k + 1) (t + 1)) n = S at *
   generalize sumR (fun k => A (k + 1) 0) n = T at *
   generalize A 0 (t + 1) = a at *
   generalize A 0 0 = p at *
   have h4 : (p + T) * (a / p) = a + a / p * T :=by grind
   grind
theorem BY {A : Mx} {n : Nat} (hp : A 0 0 ≠ 0) : det (n + 1) A = A 0 0 * det n (schur A) :=by
 let B : Nat → Mx :=fun m k t => if 1 ≤ t ∧ t < m then A k t - A 0 t / A 0 0 * A k 0 else A k t
 have step : ∀ m,m ≤ n + 1 → det (n + 1) (B m) = det (n + 1) A :=by
  intro m hm
  induction m with
  | zero => exact dW _ fun k t _ _ => if_neg (by omega)
  | succ m ih =>
    rw [← ih (by omega)]
    by_cases h0 : m = 0
    · subst h0
      exact dW _ fun k t _ _ => by
       show (if _ then _ else _) = (if _ then _ else _)
       rw [if_neg (by omega),if_neg (by omega)]
    · rw [← H9 (B m) (c :=m) (d :=0) (by omega) (by omega) h0 (-(A 0 m / A 0 0))]
      refine dW _ fun k t _ _ => ?_
      show (if _ then _ else _) = setCol _ _ _ _ _
      by_cases ht : t = m
      · subst ht
        rw [if_pos (by omega),dX]
        show _ = (if _ then _ else _) + _ * (if _ then _ else _)
        rw [if_neg (by omega),if_neg (by omega)]
        grind
      · rw [dB _ _ _ _ ht]
        show _ = (if _ then _ else _)
        by_cases h1 : 1 ≤ t ∧ t < m
        · rw [if_pos (by omega),if_pos h1]
        · rw [if_neg (by omega),if_neg h1]
 rw [← step (n + 1) (Nat.le_refl _)]
 have b0 : ∀ k,B (n + 1) k 0 = A k 0 :=fun k => if_neg (by omega)
 have bt : ∀ k t,t < n → B (n + 1) k (t + 1) = A k (t + 1) - A 0 (t + 1) / A 0 0 * A k 0 :=fun k t ht => if_pos (by omega)
 show sumR (fun j => sgn j * B (n + 1) 0 j * det n (minor j (B (n + 1)))) (n + 1) = A 0 0 * det n (schur A)
 rw [dL (i :=0) (by omega) fun j hj hne => ?_]
 · rw [b0]
   have : sgn 0 = 1 :=rfl
   rw [this,dW n (A :=minor 0 (B (n + 1))) (B :=schur A) fun k t hk ht => ?_]
   · grind
   · unfold minor schur
     rw [if_neg (by omega),bt _ _ ht]
     grind
 · obtain ⟨j,rfl⟩ : ∃ i,j = i + 1 :=⟨j - 1,by omega⟩
   rw [bt 0 j (by omega)]
   have : A 0 (j + 1) - A 0 (j + 1) / A 0 0 * A 0 0 = 0 :=by grind
   rw [this]; grind
theorem E7 : ∀ {n : Nat} {A : Mx},MM A n → 0 < det n A
 | 0,_,_ => by unfold det; decide
 | n + 1,A,h => by
   have hp :=w8 h
   rw [BY (by grind)]
   exact Rat.mul_pos hp (E7 (E6 h))
def intB (N : Nat) (r : Rat) : Prop :=∃ z : Int,r = z ∧ z.natAbs ≤ N
theorem eH {N M : Nat} {r s : Rat} (h1 : intB N r) (h2 : intB M s) : intB (N * M) (r * s) :=by
 obtain ⟨z,rfl,hz⟩ :=h1
 obtain ⟨y,rfl,hy⟩ :=h2
 exact ⟨z * y,by rw [Rat.intCast_mul],by rw [Int.natAbs_mul]; exact Nat.mul_le_mul hz hy⟩
theorem p8 {N M : Nat} {r s : Rat} (h1 : intB N r) (h2 : intB M s) : intB (N + M) (r + s) :=by
 obtain ⟨z,rfl,hz⟩ :=h1
 obtain ⟨y,rfl,hy⟩ :=h2
 exact ⟨z + y,by rw [Rat.intCast_add],by omega⟩
theorem E8 {N : Nat} {r : Rat} (h : intB N r) : intB N (-r) :=by
 obtain ⟨z,rfl,hz⟩ :=h
 exact ⟨-z,by rw [Rat.intCast_neg],by omega⟩
theorem cR {N M : Nat} {r : Rat} (h : intB N r) (hl : N ≤ M) : intB M r :=by
 obtain ⟨z,rfl,hz⟩ :=h
 exact ⟨z,rfl,by omega⟩
theorem E9 (j : Nat) : intB 1 (sgn j) :=by
 unfold sgn
 split
 · exact ⟨1,rfl,by decide⟩
 · exact ⟨-1,rfl,by decide⟩
theorem w9 {f : Nat → Rat} {N : Nat} : ∀ {n : Nat},(∀ k,k < n → intB N (f k)) → intB (n * N) (sumR f n)
 | 0,_ => ⟨0,rfl,by simp⟩
 | n + 1,h => by
   simp only [sumR]
   rw [Nat.add_mul,Nat.one_mul]
   exact p8 (w9 fun k hk => h k (by omega)) (h n (by omega))
def detN : Nat → Nat → Nat
 | 0,_ => 1
 | n + 1,c => (n + 1) * (c * detN n c)
theorem tN : ∀ {n : Nat} {A : Mx} {c : Nat},(∀ k t,k < n → t < n → intB c (A k t)) → intB (detN n c) (det n A)
 | 0,_,_,_ => ⟨1,rfl,by simp [detN]⟩
 | n + 1,A,c,h => by
   unfold det detN
   refine w9 fun j hj => ?_
   have h1 :=eH (eH (E9 j) (h 0 j (by omega) hj)) (tN (n :=n) (A :=minor j A) (c :=c) fun k t hk ht => by
    unfold minor
    split
    · exact h _ _ (by omega) (by omega)
    · exact h _ _ (by omega) (by omega))
   rw [Nat.one_mul] at h1
   exact h1
end Go.Proofs.YtknbcehhjffndaaGreat

namespace Go.Proofs.YtknbcehhjffndaaGreat
def szB (D N : Nat) (r : Rat) : Prop :=0 < D ∧ intB N (r * ((D : Int) : Rat))
theorem EA (r : Rat) : (r.num : Rat) = r * ((r.den : Int) : Rat) :=by
 have h :=Rat.num_divInt_den r
 rw [Rat.divInt_eq_div] at h
 have hd : (((r.den : Int)) : Rat) ≠ 0 :=by
  have :=r.den_pos
  intro e
  have : ((r.den : Int) : Rat) = ((0 : Int) : Rat) :=e
  have :=Rat.intCast_inj.1 this
  omega
 grind
theorem kG {D N : Nat} {r : Rat} (h : szB D N r) : r.num.natAbs ≤ N ∧ r.den ≤ D :=by
 obtain ⟨hD,z,hz,hN⟩ :=h
 have h1 :=EA r
 have h2 : r.num * (D : Int) = z * (r.den : Int) :=by
  have : ((r.num * (D : Int) : Int) : Rat) = ((z * (r.den : Int) : Int) : Rat) :=by
   rw [Rat.intCast_mul,Rat.intCast_mul,h1,← hz]; grind
  exact Rat.intCast_inj.1 this
 have h3 : r.den ∣ r.num.natAbs * D :=⟨z.natAbs,by
  have :=congrArg Int.natAbs h2
  rw [Int.natAbs_mul,Int.natAbs_mul] at this
  simp only [Int.natAbs_natCast] at this
  rw [this,Nat.mul_comm]⟩
 have h4 : r.den ∣ D :=(Nat.Coprime.symm r.reduced).dvd_of_dvd_mul_left h3
 obtain ⟨c,hc⟩ :=h4
 have hdp :=r.den_pos
 have hcp : 0 < c :=by
  rcases Nat.eq_zero_or_pos c with h0 | h0
  · subst h0; omega
  · exact h0
 have h5 : r.num.natAbs * c = z.natAbs :=by
  have :=congrArg Int.natAbs h2
  rw [Int.natAbs_mul,Int.natAbs_mul] at this
  simp only [Int.natAbs_natCast] at this
  rw [hc] at this
  have : r.den * (r.num.natAbs * c) = r.den * z.natAbs :=by rw [Nat.mul_comm r.den z.natAbs,← this]; rw [Nat.mul_left_comm]
  exact Nat.eq_of_mul_eq_mul_left hdp this
 refine ⟨?_,?_⟩
 · have :=Nat.mul_le_mul_left r.num.natAbs hcp
   omega
 · rw [hc]; have :=Nat.mul_le_mul_left r.den hcp; omega
def bt (k : Nat) (z : Int) : Prop :=z.natAbs ≤ 2 ^ k
theorem cI {k m : Nat} {z : Int} (h : bt k z) (hl : k ≤ m) : bt m z :=Nat.le_trans h (Nat.pow_le_pow_right (by decide) hl)
theorem d7 {k m : Nat} {z y : Int} (h1 : bt k z) (h2 : bt m y) : bt (k + m) (z * y) :=by
 unfold bt; rw [Int.natAbs_mul,Nat.pow_add]; exact Nat.mul_le_mul h1 h2
theorem yK {k : Nat} {z y : Int} (h1 : bt k z) (h2 : bt k y) : bt (k + 1) (z + y) :=by
 unfold bt at *; rw [Nat.pow_succ]; omega
theorem KF {k : Nat} {z : Int} (h : bt k z) : bt k (-z) :=by unfold bt at *; omega
theorem nO (k : Nat) : bt k 0 :=by unfold bt; simp
def Stg (A : Mx) (n d a c : Nat) : Prop :=∃ D : Nat,0 < D ∧ D ≤ 2 ^ d ∧ ∀ k,k < n → (∀ t,t < n → intB (2 ^ a) (A k t * ((D : Int) : Rat))) ∧ intB (2 ^ c) (A k n * ((D : Int) : Rat))
theorem EB {A : Mx} {n i d a c : Nat} (h : Stg A n d a c) (hi : i < n) (hp : 0 < A i i) : Stg (elimP A i n) n (d + a) (2 * a + 1) (a + c + 1) :=by
 obtain ⟨D,hD,hDl,hs⟩ :=h
 obtain ⟨p,hpz,hpl⟩ :=(hs i hi).1 i hi
 have hDR : (0 : Rat) < ((D : Int) : Rat) :=by
  have : ((0 : Int) : Rat) < ((D : Int) : Rat) :=Rat.intCast_lt_intCast.2 (by omega)
  exact this
 have hp0 : 0 < p :=by
  have : ((0 : Int) : Rat) < (p : Rat) :=by rw [← hpz]; exact Rat.mul_pos hp hDR
  exact Rat.intCast_lt_intCast.1 this
 have hpn : ((p.natAbs : Int)) = p :=by omega
 have hcast : (((D * p.natAbs : Nat) : Int) : Rat) = ((D : Int) : Rat) * (A i i * ((D : Int) : Rat)) :=by
  rw [hpz,Int.natCast_mul,hpn,Rat.intCast_mul]
 have pr : ∀ {x N},intB (2 ^ N) (x * ((D : Int) : Rat)) → intB (2 ^ (a + N)) (x * (((D * p.natAbs : Nat) : Int) : Rat)) :=by
  intro x N hx
  rw [hcast,hpz,Nat.pow_add]
  have :=eH (⟨p,rfl,hpl⟩ : intB (2 ^ a) (p : Rat)) hx
  have e : x * (((D : Int) : Rat) * (p : Rat)) = (p : Rat) * (x * ((D : Int) : Rat)) :=by grind
  rw [e]; exact this
 have two : ∀ {x y z N},intB (2 ^ N) (x * ((D : Int) : Rat)) → intB (2 ^ a) (y * ((D : Int) : Rat)) → intB (2 ^ N) (z * ((D : Int) : Rat)) → intB (2 ^ (a + N + 1)) ((x - y / A i i * z) * (((D * p.natAbs : Nat) : Int) : Rat)) :=by
  intro x y z N hx hy hz
  have h1 :=pr hx
  have h2 :=E8 (eH hy hz)
  have h3 :=p8 h1 h2
  rw [← Nat.pow_add,← Nat.two_mul,Nat.mul_comm,← Nat.pow_succ] at h3
  have e : (x - y / A i i * z) * (((D * p.natAbs : Nat) : Int) : Rat) = x * (((D * p.natAbs : Nat) : Int) : Rat) + -(y * ((D : Int) : Rat) * (z * ((D : Int) : Rat))) :=by
   rw [hcast]; grind
  rw [e]; exact h3
 refine ⟨D * p.natAbs,Nat.mul_pos hD (by omega),by rw [Nat.pow_add]; exact Nat.mul_le_mul hDl hpl,fun k hk => ⟨fun t ht => ?_,?_⟩⟩
 · have hk1 :=(hs k hk).1
   have e1 : a + a + 1 = 2 * a + 1 :=by omega
   by_cases h : k ≠ i ∧ k < n ∧ i ≤ t
   · rw [cQ h.2.1 h.1 h.2.2,← e1]
     exact two (hk1 t ht) (hk1 i hi) ((hs i hi).1 t ht)
   · have : elimP A i n k t = A k t :=if_neg h
     rw [this,← e1]
     exact cR (pr (hk1 t ht)) (Nat.pow_le_pow_right (by decide) (by omega))
 · have hk2 :=(hs k hk).2
   by_cases h : k ≠ i ∧ k < n ∧ i ≤ n
   · rw [cQ h.2.1 h.1 h.2.2]
     exact two hk2 ((hs k hk).1 i hi) (hs i hi).2
   · have : elimP A i n k n = A k n :=if_neg h
     rw [this]
     exact cR (pr hk2) (Nat.pow_le_pow_right (by decide) (by omega))
def bD (d a : Nat) : Nat → Nat
 | 0 => d
 | i + 1 => bD d a i + (a + 1) * 2 ^ i - 1
def bA (a i : Nat) : Nat :=(a + 1) * 2 ^ i - 1
def bC (a c : Nat) : Nat → Nat
 | 0 => c
 | i + 1 => bA a i + bC a c i + 1
theorem A3 (a i : Nat) : bA a (i + 1) = 2 * bA a i + 1 :=by
 unfold bA
 rw [Nat.pow_succ]
 have : 0 < (a + 1) * 2 ^ i :=Nat.mul_pos (by omega) (Nat.pow_pos (by decide))
 have e : (a + 1) * (2 ^ i * 2) = (a + 1) * 2 ^ i * 2 :=by rw [Nat.mul_assoc]
 omega
theorem EC {A : Mx} {n d a c : Nat} (hv : Inv A n 0) (h : Stg A n d a c) : ∀ i,i ≤ n → Stg (gj A n i) n (bD d a i) (bA a i) (bC a c i)
 | 0,_ => by
   have : bA a 0 = a :=by simp [bA]
   rw [this]; exact h
 | i + 1,hi => by
   have h1 :=EB (EC hv h i (by omega)) (by omega) (E3 hv (by omega))
   have e : bD d a (i + 1) = bD d a i + bA a i :=by
    show bD d a i + (a + 1) * 2 ^ i - 1 = _
    unfold bA
    have : 0 < (a + 1) * 2 ^ i :=Nat.mul_pos (by omega) (Nat.pow_pos (by decide))
    omega
   rw [A3,e]
   exact h1
theorem gW {A : Mx} {n d a c k t : Nat} (h : Stg A n d a c) (hac : a ≤ c) (hk : k < n) (ht : t ≤ n) : bt c (A k t).num ∧ bt d (A k t).den ∧ (t < n → bt a (A k t).num) :=by
 obtain ⟨D,hD,hDl,hs⟩ :=h
 by_cases htn : t < n
 · obtain ⟨h1,h2⟩ :=kG (D :=D) (N :=2 ^ a) (r :=A k t) ⟨hD,(hs k hk).1 t htn⟩
   exact ⟨cI (k :=a) h1 hac,by unfold bt; simp only [Int.natAbs_natCast]; omega,fun _ => h1⟩
 · have : t = n :=by omega
   subst this
   obtain ⟨h1,h2⟩ :=kG (D :=D) (N :=2 ^ c) (r :=A k t) ⟨hD,(hs k hk).2⟩
   exact ⟨h1,by unfold bt; simp only [Int.natAbs_natCast]; omega,fun h => absurd h htn⟩
theorem JK {A : Mx} {n d a c k t i : Nat} (h : Stg A n d a c) (hac : a ≤ c) (hi : i < n) (hp : 0 < A i i) (hk : k < n) (ht : t ≤ n) :
  bt a (A k i / A i i).num ∧ bt a (A k i / A i i).den ∧ bt (a + c) (A k i / A i i * A i t).num ∧ bt (d + a) (A k i / A i i * A i t).den :=by
 obtain ⟨D,hD,hDl,hs⟩ :=h
 obtain ⟨p,hpz,hpl⟩ :=(hs i hi).1 i hi
 have hDR : (0 : Rat) < ((D : Int) : Rat) :=by
  have : ((0 : Int) : Rat) < ((D : Int) : Rat) :=Rat.intCast_lt_intCast.2 (by omega)
  exact this
 have hp0 : 0 < p :=by
  have : ((0 : Int) : Rat) < (p : Rat) :=by rw [← hpz]; exact Rat.mul_pos hp hDR
  exact Rat.intCast_lt_intCast.1 this
 have hpn : ((p.natAbs : Int)) = p :=by omega
 have f1 : A k i / A i i * (((p.natAbs : Nat) : Int) : Rat) = A k i * ((D : Int) : Rat) :=by rw [hpn,← hpz]; grind
 have hit : intB (2 ^ c) (A i t * ((D : Int) : Rat)) :=by
  by_cases htn : t < n
  · exact cR ((hs i hi).1 t htn) (Nat.pow_le_pow_right (by decide) hac)
  · have : t = n :=by omega
    subst this; exact (hs i hi).2
 obtain ⟨h1,h2⟩ :=kG (D :=p.natAbs) (N :=2 ^ a) (r :=A k i / A i i) ⟨by omega,by rw [f1]; exact (hs k hk).1 i hi⟩
 obtain ⟨h3,h4⟩ :=kG (D :=p.natAbs * D) (N :=2 ^ (a + c)) (r :=A k i / A i i * A i t) ⟨Nat.mul_pos (by omega) hD,by
  rw [Int.natCast_mul,Rat.intCast_mul,Nat.pow_add]
  have e : A k i / A i i * A i t * ((((p.natAbs : Nat) : Int) : Rat) * ((D : Int) : Rat)) = A k i / A i i * (((p.natAbs : Nat) : Int) : Rat) * (A i t * ((D : Int) : Rat)) :=by grind
  rw [e,f1]
  exact eH ((hs k hk).1 i hi) hit⟩
 have h5 : p.natAbs * D ≤ 2 ^ (d + a) :=by rw [Nat.pow_add,Nat.mul_comm]; exact Nat.mul_le_mul hDl hpl
 exact ⟨h1,by unfold bt; simp only [Int.natAbs_natCast]; omega,h3,by unfold bt; simp only [Int.natAbs_natCast]; omega⟩
end Go.Proofs.YtknbcehhjffndaaGreat

namespace Go.Proofs.YtknbcehhjffndaaGreat
theorem nP (z : Int) : ab z = (z.natAbs : Int) :=by unfold ab; split <;> omega
theorem MH (k : Nat) : (1048576 : Nat) ^ k = 2 ^ (20 * k) :=by rw [show (1048576 : Nat) = 2 ^ 20 from rfl,← Nat.pow_mul]
theorem fP {k : Nat} {z : Int} (h : bt k z) (hk : k ≤ 1199) : rz z :=by
 unfold rz
 rw [nP]
 have h1 : ∀ m,k < 20 * m → z.natAbs < 1048576 ^ m :=fun m hm => by
  rw [MH]
  exact Nat.lt_of_le_of_lt h (Nat.pow_lt_pow_right (by decide) hm)
 have h1 :=h1 60 (by omega)
 have h2 : ((z.natAbs : Nat) : Int) < (((1048576 : Nat) ^ 60 : Nat) : Int) :=Int.ofNat_lt.2 h1
 rw [Int.natCast_pow] at h2
 exact h2
theorem tO : bt 0 ((0 : Rat).den) :=by show (1 : Nat) ≤ 2 ^ 0; decide
theorem A4 {k m : Nat} {r : Rat} (h1 : bt k r.num) (h2 : bt m r.den) (hk : k ≤ 1199) (hm : m ≤ 1199) : rq r :=⟨fP h1 hk,fP h2 hm⟩
theorem iP {k m k' m' : Nat} {a b : Rat} (h1 : bt k a.num) (h2 : bt m a.den) (h3 : bt k' b.num) (h4 : bt m' b.den) (hk : k + k' ≤ 1199) (hm : m + m' ≤ 1199) : okMul a b :=⟨fP (d7 h1 h3) hk,fP (d7 h2 h4) hm⟩
theorem iQ {k m k' m' : Nat} {a b : Rat} (h1 : bt k a.num) (h2 : bt m a.den) (h3 : bt k' b.num) (h4 : bt m' b.den) (hk : k + m' ≤ 1199) (hm : m + k' ≤ 1199) : okDiv a b :=⟨fP (d7 h1 h4) hk,fP (d7 h2 h3) hm⟩
theorem wA {k m k' m' : Nat} {a b : Rat} (h1 : bt k a.num) (h2 : bt m a.den) (h3 : bt k' b.num) (h4 : bt m' b.den) (hk : k + m' ≤ 1198) (hk' : k' + m ≤ 1198) (hm : m + m' ≤ 1199) : okAdd a b :=by
 have e1 :=d7 h1 h4
 have e2 :=d7 h3 h2
 exact ⟨⟨fP e1 (by omega),fP e2 (by omega),fP (yK (cI e1 hk) (cI e2 hk')) (by omega)⟩,fP (d7 h2 h4) hm⟩
theorem p9 {k m k' m' : Nat} {a b : Rat} (h1 : bt k a.num) (h2 : bt m a.den) (h3 : bt k' b.num) (h4 : bt m' b.den) (hk : k + m' ≤ 1198) (hk' : k' + m ≤ 1198) (hm : m + m' ≤ 1199) : okSub a b :=by
 have e1 :=d7 h1 h4
 have e2 :=d7 (KF h3) h2
 exact ⟨⟨fP e1 (by omega),fP e2 (by omega),fP (yK (cI e1 hk) (cI e2 hk')) (by omega)⟩,fP (d7 h2 h4) hm⟩
structure Fit (A : Mx) (n : Nat) : Prop where
 piv : ∀ i,i < n → gj A n i i i ≠ 0
 ent : ∀ i k t,i ≤ n → k < n → t ≤ n → rq (gj A n i k t)
 div : ∀ i k,i < n → k < n → k ≠ i → okDiv (gj A n i k i) (gj A n i i i)
 mul : ∀ i k t,i < n → k < n → k ≠ i → i ≤ t → t ≤ n → okMul (gj A n i k i / gj A n i i i) (gj A n i i t)
 sub : ∀ i k t,i < n → k < n → k ≠ i → i ≤ t → t ≤ n → okSub (gj A n i k t) (gj A n i k i / gj A n i i i * gj A n i i t)
 fin : ∀ k,k < n → okDiv (gj A n n k n) (gj A n n k k)
 dpos : ∀ k,k < n → gj A n n k k ≠ 0
theorem bts : (∀ i,i ≤ 5 → bD 0 10 i ≤ 336 ∧ bA 10 i ≤ 351 ∧ bC 10 50 i ≤ 391 ∧ bA 10 i ≤ bC 10 50 i) ∧ bD 0 10 6 ≤ 687 ∧ bA 10 6 ≤ 703 ∧ bC 10 50 6 ≤ 743 :=by decide
theorem BZ {A : Mx} {i n : Nat} (h : ∀ k,k < n → k ≠ i → A k i = 0) : elimP A i n = A :=by
 funext k t
 by_cases hc : k ≠ i ∧ k < n ∧ i ≤ t
 · rw [cQ hc.2.1 hc.1 hc.2.2,h k hc.2.1 hc.1]; grind
 · exact if_neg hc
def col6 (A : Mx) (n : Nat) : Prop :=n ≤ 6 ∨ n = 7 ∧ (∀ k,k < 6 → A k 6 = 0) ∧ (∀ t,t < 6 → A 6 t = 0)
theorem tP {A : Mx} (h : ∀ k,k < 6 → A k 6 = 0) (h2 : ∀ t,t < 6 → A 6 t = 0) : ∀ i,i ≤ 6 → (∀ k,k < 6 → gj A 7 i k 6 = 0) ∧ (∀ t,t < 6 → gj A 7 i 6 t = 0)
 | 0,_ => ⟨h,h2⟩
 | i + 1,hi => by
   obtain ⟨h3,h4⟩ :=tP h h2 i (by omega)
   refine ⟨fun k hk => ?_,fun t ht => ?_⟩
   · show elimP (gj A 7 i) i 7 k 6 = 0
     by_cases hc : k ≠ i ∧ k < 7 ∧ i ≤ 6
     · rw [cQ hc.2.1 hc.1 hc.2.2,h3 k hk,h3 i (by omega)]; grind
     · rw [show elimP (gj A 7 i) i 7 k 6 = gj A 7 i k 6 from if_neg hc]; exact h3 k hk
   · show elimP (gj A 7 i) i 7 6 t = 0
     by_cases hc : 6 ≠ i ∧ 6 < 7 ∧ i ≤ t
     · rw [cQ hc.2.1 hc.1 hc.2.2,h4 t ht,h4 i (by omega)]; grind
     · rw [show elimP (gj A 7 i) i 7 6 t = gj A 7 i 6 t from if_neg hc]; exact h4 t ht
theorem A5 {A : Mx} (h : ∀ k,k < 6 → A k 6 = 0) (h2 : ∀ t,t < 6 → A 6 t = 0) (t : Nat) : ∀ i,i ≤ 7 → gj A 7 i 6 t = A 6 t
 | 0,_ => rfl
 | i + 1,hi => by
   rw [← A5 h h2 t i (by omega)]
   show elimP (gj A 7 i) i 7 6 t = _
   by_cases hc : 6 ≠ i ∧ 6 < 7 ∧ i ≤ t
   · rw [cQ hc.2.1 hc.1 hc.2.2,(tP h h2 i (by omega)).2 i (by omega)]; grind
   · exact if_neg hc
theorem KG {A : Mx} {n : Nat} (hv : Inv A n 0) (hs : Stg A n 0 10 50) (h6 : col6 A n) : Fit A n :=by
 have hn7 : n ≤ 7 :=by rcases h6 with h | h <;> omega
 have hst :=EC hv hs
 have hpv : ∀ i,i < n → 0 < gj A n i i i :=fun i hi => E3 hv hi
 have hzero : ∀ i,6 ≤ i → i < n → ∀ k,k < n → k ≠ i → gj A n i k i = 0 :=fun i h1 h2 k hk hne => by
  rcases h6 with h | ⟨rfl,h3,h4⟩
  · omega
  · have : i = 6 :=by omega
    subst this
    exact (tP h3 h4 6 (by omega)).1 k (by omega)
 have h76 : n = 7 → gj A n 7 = gj A n 6 :=fun e => by
  subst e
  exact BZ fun k hk hne => hzero 6 (by omega) (by omega) k hk hne
 have num : ∀ i k t,i ≤ n → k < n → t ≤ n → bt 743 (gj A n i k t).num ∧ bt 687 (gj A n i k t).den :=by
  intro i k t hi hk ht
  have low : ∀ i,i ≤ 6 → i ≤ n → bt 743 (gj A n i k t).num ∧ bt 687 (gj A n i k t).den :=fun i hi6 hin => by
   by_cases h5 : i ≤ 5
   · obtain ⟨b1,b2,b3,b4⟩ :=bts.1 i h5
     obtain ⟨c1,c2,_⟩ :=gW (hst i hin) b4 hk ht
     exact ⟨cI c1 (by omega),cI c2 (by omega)⟩
   · have : i = 6 :=by omega
     subst this
     obtain ⟨c1,c2,_⟩ :=gW (hst 6 hin) (by decide) hk ht
     exact ⟨cI c1 bts.2.2.2,cI c2 bts.2.1⟩
  by_cases h7 : i ≤ 6
  · exact low i h7 hi
  · have e1 : i = 7 :=by omega
    have e2 : n = 7 :=by omega
    rw [e1,h76 e2]
    exact low 6 (by omega) (by omega)
 have z0 : ∀ i k,i < n → 6 ≤ i → k < n → k ≠ i → gj A n i k i / gj A n i i i = 0 :=fun i k hi h6 hk hne => by
  rw [hzero i h6 hi k hk hne]; grind
 refine ⟨fun i hi => by have :=hpv i hi; grind,fun i k t hi hk ht => ?_,fun i k hi hk hne => ?_,fun i k t hi hk hne hit ht => ?_,fun i k t hi hk hne hit ht => ?_,fun k hk => ?_,fun k hk => ?_⟩
 · obtain ⟨c1,c2⟩ :=num i k t hi hk ht
   exact A4 c1 c2 (by omega) (by omega)
 · by_cases h5 : i ≤ 5
   · obtain ⟨b1,b2,b3,b4⟩ :=bts.1 i h5
     obtain ⟨c1,c2,c3⟩ :=gW (hst i (by omega)) b4 hk (Nat.le_of_lt hi)
     obtain ⟨d1,d2,d3⟩ :=gW (hst i (by omega)) b4 hi (Nat.le_of_lt hi)
     exact iQ (c3 hi) c2 (d3 hi) d2 (by omega) (by omega)
   · rw [hzero i (by omega) hi k hk hne]
     obtain ⟨c1,c2⟩ :=num i i i (by omega) hi (by omega)
     exact iQ (k :=0) (m :=0) (nO _) tO c1 c2 (by omega) (by omega)
 · by_cases h5 : i ≤ 5
   · obtain ⟨b1,b2,b3,b4⟩ :=bts.1 i h5
     obtain ⟨c1,c2,c3⟩ :=gW (hst i (by omega)) b4 hi ht
     obtain ⟨f1,f2,_,_⟩ :=JK (t :=t) (hst i (by omega)) b4 hi (hpv i hi) hk ht
     exact iP f1 f2 c1 c2 (by omega) (by omega)
   · rw [z0 i k hi (by omega) hk hne]
     obtain ⟨c1,c2⟩ :=num i i t (by omega) hi ht
     exact iP (k :=0) (m :=0) (nO _) tO c1 c2 (by omega) (by omega)
 · by_cases h5 : i ≤ 5
   · obtain ⟨b1,b2,b3,b4⟩ :=bts.1 i h5
     obtain ⟨c1,c2,c3⟩ :=gW (hst i (by omega)) b4 hk ht
     obtain ⟨_,_,f3,f4⟩ :=JK (t :=t) (hst i (by omega)) b4 hi (hpv i hi) hk ht
     exact p9 c1 c2 f3 f4 (by omega) (by omega) (by omega)
   · rw [z0 i k hi (by omega) hk hne]
     have : (0 : Rat) * gj A n i i t = 0 :=by grind
     rw [this]
     obtain ⟨c1,c2⟩ :=num i k t (by omega) hk ht
     exact p9 (k' :=0) (m' :=0) c1 c2 (nO _) tO (by omega) (by omega) (by omega)
 · obtain ⟨c1,c2⟩ :=num n k n (by omega) hk (by omega)
   rw [A2 A n k n (by omega)]
   by_cases h5 : k ≤ 5
   · obtain ⟨b1,b2,b3,b4⟩ :=bts.1 k h5
     obtain ⟨d1,d2,d3⟩ :=gW (hst k (by omega)) b4 hk (Nat.le_of_lt hk)
     exact iQ c1 c2 (d3 hk) d2 (by omega) (by omega)
   · have e2 : n = 7 :=by rcases h6 with h | h <;> omega
     subst e2
     have e1 : k = 6 :=by omega
     subst e1
     obtain ⟨_,h3,h4⟩ : 7 = 7 ∧ (∀ k,k < 6 → A k 6 = 0) ∧ (∀ t,t < 6 → A 6 t = 0) :=by
      rcases h6 with h | h
      · omega
      · exact h
     rw [A5 h3 h4 6 6 (by omega)]
     obtain ⟨d1,d2,d3⟩ :=gW hs (by decide) (k :=6) (t :=6) (by omega) (by omega)
     exact iQ c1 c2 (d3 (by omega)) d2 (by omega) (by omega)
 · have :=(lY hv n (Nat.le_refl _)).dpos k hk hk
   grind
end Go.Proofs.YtknbcehhjffndaaGreat

