/-
  Lemmas for the statement at the top.
-/
import Derived.Test.YtndiamkmcoghdaaYdP8
import Init
import Derived.Test.YtndiamkmcoghdaaYdFw5
set_option linter.all false
namespace Go.Proofs.Ytndiamkmcoghdaa
open Go.RowKit Go.Ab
attribute [local irreducible] AWP Go.Ab.Sub Means MeansH CallK CallG CallT CallGT
theorem dq_pos {p q : Int} (h : 0 < q) : dq p q = p / q ∧ dr p q = p % q :=by
 unfold dq dr
 have e1 : sg q = 1 :=by rcases sg_cases q with h' | h' | h' <;> omega
 have e2 : ab q = q :=by unfold ab; rw [if_neg (by omega)]
 rw [e1,e2,Int.one_mul,Int.one_mul]; exact ⟨rfl,rfl⟩
theorem cmpI_one {a b : Int} (h : a < b) : cmpI a b = -1 :=by unfold cmpI; rw [if_pos h]
theorem cmpI_two {a b : Int} (h : b < a) : cmpI a b = 1 :=by unfold cmpI; rw [if_neg (by omega),if_pos h]
theorem cmp_one {p q r s : Int} (hq : 0 < q) (hs : 0 < s) (h : p / q ≠ r / s) : cmpI (p * s) (r * q) = cmpI (p / q) (r / s) :=by
 have a0 :=Int.mul_ediv_add_emod p q
 have a1 :=Int.emod_nonneg p (show q ≠ 0 by omega)
 have a2 :=Int.emod_lt_of_pos p hq
 have b0 :=Int.mul_ediv_add_emod r s
 have b1 :=Int.emod_nonneg r (show s ≠ 0 by omega)
 have b2 :=Int.emod_lt_of_pos r hs
 generalize p / q = x at *
 generalize r / s = y at *
 generalize p % q = u at *
 generalize r % s = v at *
 subst a0 b0
 have hqs : 0 < q * s :=Int.mul_pos hq hs
 have e : (q * x + u) * s - (s * y + v) * q = q * s * (x - y) + (u * s - v * q) :=by grind
 have u1 : u * s ≤ (q - 1) * s :=Int.mul_le_mul_of_nonneg_right (by omega) (by omega)
 have u0 : 0 ≤ u * s :=Int.mul_nonneg a1 (by omega)
 have v1 : v * q ≤ (s - 1) * q :=Int.mul_le_mul_of_nonneg_right (by omega) (by omega)
 have v0 : 0 ≤ v * q :=Int.mul_nonneg b1 (by omega)
 have e1 : (q - 1) * s = q * s - s :=by grind
 have e2 : (s - 1) * q = q * s - q :=by grind
 rcases Int.lt_or_gt_of_ne h with h | h
 · rw [cmpI_one h,cmpI_one]
   have : q * s * (x - y) ≤ q * s * (-1) :=Int.mul_le_mul_of_nonneg_left (by omega) (by omega)
   omega
 · rw [cmpI_two h,cmpI_two]
   have : q * s * 1 ≤ q * s * (x - y) :=Int.mul_le_mul_of_nonneg_left (by omega) (by omega)
   omega
theorem cmpI_swap (a b : Int) : cmpI a b = -cmpI b a :=by unfold cmpI; split <;> split <;> (try split) <;> omega
theorem cmpI_of_sub {a b c d : Int} (h : a - b = c - d) : cmpI a b = cmpI c d :=by rw [← cmpI_sg,← cmpI_sg,h]
theorem cmp_two {p q r s : Int} (h : p / q = r / s) : cmpI (p * s) (r * q) = cmpI (p % q * s) (r % s * q) :=by
 have a0 :=Int.mul_ediv_add_emod p q
 have b0 :=Int.mul_ediv_add_emod r s
 rw [h] at a0
 apply cmpI_of_sub
 generalize r / s = y at *
 generalize p % q = u at *
 generalize r % s = v at *
 subst a0 b0
 grind
theorem cmp_zero {u v q s : Int} (hq : 0 < q) (hs : 0 < s) (hu : 0 ≤ u) (hv : 0 ≤ v) (h : u = 0 ∨ v = 0) : cmpI (u * s) (v * q) = sg u - sg v :=by
 rcases h with h | h <;> subst h
 · rw [Int.zero_mul,← cmpI_sg,Int.zero_sub,sg_neg,sg_mul]
   have : sg q = 1 :=by rcases sg_cases q with h' | h' | h' <;> omega
   rw [this,Int.mul_one]
   show _ = (0 : Int) - _
   omega
 · rw [Int.zero_mul,← cmpI_sg,Int.sub_zero,sg_mul]
   have : sg s = 1 :=by rcases sg_cases s with h' | h' | h' <;> omega
   rw [this,Int.mul_one]
   show _ = _ - (0 : Int)
   omega
theorem rz_mono {a b : Int} (h : ab a ≤ ab b) (hb : rz b) : rz a :=by unfold rz at *; omega
theorem rz_mod {p q : Int} (hq : 0 < q) (h : rz q) : rz (p % q) :=by
 have a1 :=Int.emod_nonneg p (show q ≠ 0 by omega)
 have a2 :=Int.emod_lt_of_pos p hq
 refine rz_mono ?_ h
 unfold ab; split <;> split <;> omega
theorem rz_div {p q : Int} (hq : 0 < q) (h : rz p) : rz (p / q) :=by
 have :=dq_bd (z :=p) (w :=q) (by omega)
 rw [(dq_pos hq).1] at this
 exact rz_mono this h
set_option maxHeartbeats 4000000 in
set_option maxRecDepth 20000 in
theorem Compare_f (a b c d : Int) (hab : rf a b) (hcd : rf c d) : Means false Try.prog 20 [frZ a b,frZ c d] (ii (cmpI (a * d) (c * b))) :=by
 have hb0 :=hab.2.2.1
 have hd0 :=hcd.2.2.1
 refine means_fn false 78 [.tmp 4] Try.func20 rfl rfl rfl (by simp) (by decide) rfl fun X hX => ?_
 (repeat (refine awp_stepG [0,1,2,3,4,5,6,7,8,9,10,11,13,14,16,24,52,58] hX mixed rfl ?_; (simp [go_sem]; try (refine ⟨by kernel_rfl,?_⟩))))
 first | refine callKa (Right_t a b hab) ?_ | refine callTa (Right_t a b hab) ?_
 try (simp [go_sem]; try (refine ⟨by kernel_rfl,?_⟩))
 first | refine callGa (fun hg => Right_t c d hcd) ?_ | refine callGTa (fun hg => Right_t c d hcd) ?_
 try (simp [go_sem]; try (refine ⟨by kernel_rfl,?_⟩))
 refine awp_cond (b :=false) (by simp [go_sem]) (fun h => by cases h) (fun _ => ?_)
 (repeat (first | refine awp_seq ?_ | refine awp_block ?_ | ((first | refine awp_runG [0,1,2,3,4,5,6,7,8,9,10,11,13,14,16,24,52,58] hX ?_ | refine awp_skip ?_ | refine awp_exit ?_); (simp [go_sem]; try (refine ⟨by kernel_rfl,?_⟩)))))
 refine awp_drawnA [0,1,2,3,4,5,6,7,8,9,10,11,13,14,16,24,52,58] 8 4 hX mixed ?_; (simp [go_sem]; try (refine ⟨by kernel_rfl,?_⟩))
 (repeat (refine awp_stepG [0,1,2,3,4,5,6,7,8,9,10,11,13,14,16,24,52,58] hX mixed rfl ?_; (simp [go_sem]; try (refine ⟨by kernel_rfl,?_⟩))))
 refine awp_loop (fun x : Int × Int × Int × Int × Int => ⟨mkE [(5,.el 0 2 0 0),(6,.el 1 2 0 0),(7,.el 2 2 0 0),(8,.el 3 2 0 0),(9,ii x.2.2.2.2)],[.row ⟨46,2,[bigZ x.1]⟩,.row ⟨46,2,[bigZ x.2.1]⟩,.row ⟨46,2,[bigZ x.2.2.1]⟩,.row ⟨46,2,[bigZ x.2.2.2.1]⟩]⟩)
  (fun x => rz x.1 ∧ rz x.2.1 ∧ rz x.2.2.1 ∧ rz x.2.2.2.1 ∧ 0 < x.2.1 ∧ 0 < x.2.2.2.1 ∧ (x.2.2.2.2 = 1 ∨ x.2.2.2.2 = -1) ∧ x.2.2.2.2 * cmpI (x.1 * x.2.2.2.1) (x.2.2.1 * x.2.1) = cmpI (a * d) (c * b)) (fun x => x.2.1.toNat) (a,b,c,d,1) ?_ ?_ ?_
 · refine sub_of _ [.old 2 ⟨46,2,[bigZ a]⟩,.old 3 ⟨46,2,[bigZ b]⟩,.old 4 ⟨46,2,[bigZ c]⟩,.old 5 ⟨46,2,[bigZ d]⟩] (by simp [go_sem]) ?_
   simp [go_sem]
 · exact ⟨hab.1,hab.2.1,hcd.1,hcd.2.1,hb0,hd0,.inl rfl,by simp⟩
 · rintro ⟨p,q,r,s,e⟩ ⟨zp,zq,zr,zs,hq,hs,he,hE⟩
   simp only [] at zp zq zr zs hq hs he hE
   have hu0 :=Int.emod_nonneg p (show q ≠ 0 by omega)
   have hu1 :=Int.emod_lt_of_pos p hq
   have hv0 :=Int.emod_nonneg r (show s ≠ 0 by omega)
   have hv1 :=Int.emod_lt_of_pos r hs
   have zx :=rz_div hq zp
   have zy :=rz_div hs zr
   have zu :=rz_mod (p :=p) hq zq
   have zv :=rz_mod (p :=r) hs zs
   have c1 :=cmpI_bd (p / q) (r / s)
   have c2 :=cmpI_zero (p / q) (r / s)
   have s1 :=sg_bd (p % q)
   have s2 :=sg_bd (r % s)
   (repeat (refine awp_stepG [0,1,2,3,4,5,6,7,8,9,10,11,13,14,16,24,52,58] hX mixed rfl ?_; (simp [go_sem]; try (refine ⟨by kernel_rfl,?_⟩))))
   first | refine callKa (Div_ok zp zq (by omega) (dq_pos hq).1 (dq_pos hq).2) ?_ | refine callTa (Div_ok zp zq (by omega) (dq_pos hq).1 (dq_pos hq).2) ?_
   try (simp [go_sem]; try (refine ⟨by kernel_rfl,?_⟩))
   (repeat (refine awp_stepG [0,1,2,3,4,5,6,7,8,9,10,11,13,14,16,24,52,58] hX mixed rfl ?_; (simp [go_sem]; try (refine ⟨by kernel_rfl,?_⟩))))
   first | refine callKa (Div_ok zr zs (by omega) (dq_pos hs).1 (dq_pos hs).2) ?_ | refine callTa (Div_ok zr zs (by omega) (dq_pos hs).1 (dq_pos hs).2) ?_
   try (simp [go_sem]; try (refine ⟨by kernel_rfl,?_⟩))
   (repeat (refine awp_stepG [0,1,2,3,4,5,6,7,8,9,10,11,13,14,16,24,52,58] hX mixed rfl ?_; (simp [go_sem]; try (refine ⟨by kernel_rfl,?_⟩))))
   first | refine callKa (Compare_m _ _ zx zy) ?_ | refine callTa (Compare_m _ _ zx zy) ?_
   try (simp [go_sem]; try (refine ⟨by kernel_rfl,?_⟩))
   (repeat (refine awp_stepG [0,1,2,3,4,5,6,7,8,9,10,11,13,14,16,24,52,58] hX mixed rfl ?_; (simp [go_sem]; try (refine ⟨by kernel_rfl,?_⟩))))
   by_cases hxy : p / q = r / s
   · have hc0 : cmpI (p / q) (r / s) = 0 :=c2.2 hxy
     refine awp_cond (b :=false) (by simp [go_sem,hc0]) (fun h => by cases h) (fun _ => ?_)
     (repeat (refine awp_stepG [0,1,2,3,4,5,6,7,8,9,10,11,13,14,16,24,52,58] hX mixed rfl ?_; (simp [go_sem]; try (refine ⟨by kernel_rfl,?_⟩))))
     have sgu : sg (p % q) = 0 ↔ p % q = 0 :=by rcases sg_cases (p % q) with h | h | h <;> omega
     have sgv : sg (r % s) = 0 ↔ r % s = 0 :=by rcases sg_cases (r % s) with h | h | h <;> omega
     rw [cmp_two hxy] at hE
     by_cases huv : p % q = 0 ∨ r % s = 0
     · refine awp_cond (b :=true) (by simp [go_sem,sgu,sgv,huv]) (fun _ => ?_) (fun h => by cases h)
       rw [cmp_zero hq hs hu0 hv0 huv] at hE
       have w1 :=w64 (x :=sg (p % q) - sg (r % s)) (by omega) (by omega)
       have w2 :=w64 (x :=e * (sg (p % q) - sg (r % s))) (by rcases he with rfl | rfl <;> omega) (by rcases he with rfl | rfl <;> omega)
       rw [hE] at w2
       (repeat (refine awp_stepG [0,1,2,3,4,5,6,7,8,9,10,11,13,14,16,24,52,58] hX mixed rfl ?_; (simp [go_sem,w1,hE,w2]; try (refine ⟨by kernel_rfl,?_⟩))))
     · refine awp_cond (b :=false) (by simp [go_sem,sgu,sgv]; omega) (fun h => by cases h) (fun _ => ?_)
       have w1 :=w64 (x :=-e) (by omega) (by omega)
       (repeat (refine awp_stepG [0,1,2,3,4,5,6,7,8,9,10,11,13,14,16,24,52,58] hX mixed rfl ?_; (simp [go_sem,w1]; try (refine ⟨by kernel_rfl,?_⟩))))
       refine ⟨q,p % q,s,r % s,-e,⟨zq,zu,zs,zv,by omega,by omega,by omega,?_⟩,by omega,?_⟩
       · rw [← hE,cmpI_swap (q * (r % s)),Int.mul_comm s,Int.mul_comm q]
         grind
       · refine sub_of _ [.old 0 ⟨46,2,[bigZ q]⟩,.old 1 ⟨46,2,[bigZ (p % q)]⟩,.old 2 ⟨46,2,[bigZ s]⟩,.old 3 ⟨46,2,[bigZ (r % s)]⟩] (by simp [go_sem]) ?_
         simp [go_sem]
   · have hc0 : ¬ cmpI (p / q) (r / s) = 0 :=fun h => hxy (c2.1 h)
     refine awp_cond (b :=true) (by simp [go_sem,hc0]) (fun _ => ?_) (fun h => by cases h)
     rw [cmp_one hq hs hxy] at hE
     have w1 :=w64 (x :=e * cmpI (p / q) (r / s)) (by rcases he with rfl | rfl <;> omega) (by rcases he with rfl | rfl <;> omega)
     rw [hE] at w1
     (repeat (refine awp_stepG [0,1,2,3,4,5,6,7,8,9,10,11,13,14,16,24,52,58] hX mixed rfl ?_; (simp [go_sem,hE,w1]; try (refine ⟨by kernel_rfl,?_⟩))))
end Go.Proofs.Ytndiamkmcoghdaa

namespace Go.Proofs.Ytndiamkmcoghdaa
open Go.RowKit Go.Ab
attribute [local irreducible] AWP Go.Ab.Sub Means MeansH CallK CallG CallT CallGT
noncomputable instance (p q : Int) : Decidable (rf p q) :=Classical.propDecidable _
theorem isF_iff {p q : Int} (hp : rz p) (hq : rz q) : isF (sg p) (dg (ab p)) (sg q) (dg (ab q)) ↔ rf p q :=by
 unfold isF
 rw [zv_bigZ,zv_bigZ]
 exact ⟨fun h => h.2.2,fun h => ⟨isR_of hp,isR_of hq,h⟩⟩
set_option maxHeartbeats 4000000 in
theorem Floor_f (a b : Int) (h : rf a b) : Means false Try.prog 50 [frZ a b] (bigZ (a / b)) :=by
 have hb :=h.2.2.1
 refine means_fn false 20 [.cell 2 46] Try.func50 rfl rfl rfl (by simp) (by decide) rfl fun X hX => ?_
 (repeat (refine awp_stepG [0,1,2,3,8] hX mixed rfl ?_; (simp [go_sem]; try (refine ⟨by kernel_rfl,?_⟩))))
 first | refine callKa (Right_t a b h) ?_ | refine callTa (Right_t a b h) ?_
 try (simp [go_sem]; try (refine ⟨by kernel_rfl,?_⟩))
 refine awp_cond (b :=false) (by simp [go_sem]) (fun h => by cases h) (fun _ => ?_)
 (repeat (refine awp_stepG [0,1,2,3,8] hX mixed rfl ?_; (simp [go_sem]; try (refine ⟨by kernel_rfl,?_⟩))))
 first | refine callKa (Div_ok h.1 h.2.1 (by omega) (dq_pos hb).1 (dq_pos hb).2) ?_ | refine callTa (Div_ok h.1 h.2.1 (by omega) (dq_pos hb).1 (dq_pos hb).2) ?_
 try (simp [go_sem]; try (refine ⟨by kernel_rfl,?_⟩))
 (repeat (refine awp_stepG [0,1,2,3,8] hX mixed rfl ?_; (simp [go_sem]; try (refine ⟨by kernel_rfl,?_⟩))))
end Go.Proofs.Ytndiamkmcoghdaa

namespace Go.Proofs.Ytndiamkmcoghdaa
open Go.RowKit Go.Ab
attribute [local irreducible] AWP Go.Ab.Sub Means MeansH CallK CallG CallT CallGT
end Go.Proofs.Ytndiamkmcoghdaa

namespace Go.Proofs.Ytndiamkmcoghdaa
open Go.RowKit Go.Ab
attribute [local irreducible] AWP Go.Ab.Sub Means MeansH CallK CallG CallT CallGT CallU
abbrev frq (r : Rat) : AV :=frZ r.num r.den
def rq (r : Rat) : Prop :=rz r.num ∧ rz r.den
theorem rf_q {r : Rat} (h : rq r) : rf r.num r.den :=⟨h.1,h.2,by have :=r.den_pos; omega,by have :=r.reduced; simpa [Int.gcd] using this⟩
theorem num_den (r : Rat) : (r.num : Rat) = r * (r.den : Int) :=by
 have h :=Rat.num_divInt_den r
 rw [Rat.divInt_eq_div] at h
 have hd : (((r.den : Int)) : Rat) ≠ 0 :=by
  have :=r.den_pos
  intro e
  have : ((r.den : Int) : Rat) = ((0 : Int) : Rat) :=e
  have :=Rat.intCast_inj.1 this
  omega
 grind
theorem den_ne (r : Rat) : (((r.den : Int)) : Rat) ≠ 0 :=by
 have :=r.den_pos
 intro e
 have : ((r.den : Int) : Rat) = ((0 : Int) : Rat) :=e
 have :=Rat.intCast_inj.1 this
 omega
theorem np_rat {p q : Int} {r : Rat} (hq : q ≠ 0) (h : r * (q : Rat) = p) : np p q = r.num ∧ nq p q = (r.den : Int) :=by
 obtain ⟨a1,a2,a3,_⟩ :=low_spec (p :=p) hq
 refine low_uniq a1 a2 (by have :=r.den_pos; omega) (by have :=r.reduced; simpa [Int.gcd] using this) ?_
 have h1 :=num_den r
 have h2 : p * (r.den : Int) = r.num * q :=by
  have : ((p * (r.den : Int) : Int) : Rat) = ((r.num * q : Int) : Rat) :=by
   rw [Rat.intCast_mul,Rat.intCast_mul,h1,← h]; grind
  exact Rat.intCast_inj.1 this
 have key : np p q * (r.den : Int) * q = r.num * nq p q * q :=by
  have e1 : np p q * (r.den : Int) * q = (np p q * q) * (r.den : Int) :=by grind
  have e2 : r.num * nq p q * q = (r.num * q) * nq p q :=by grind
  rw [e1,e2,a3,← h2]; grind
 exact Int.eq_of_mul_eq_mul_right hq key
theorem low_rq {p q : Int} {r : Rat} (hq : q ≠ 0) (h : r * (q : Rat) = p) (hp : rz p) (hz : rz q) : rq r :=by
 obtain ⟨h1,h2⟩ :=np_rat hq h
 obtain ⟨_,_,_,h4,h5,_⟩ :=low_spec (p :=p) hq
 refine ⟨?_,?_⟩
 · rw [← h1]; unfold rz at *; omega
 · rw [← h2]
   unfold rz at *
   have : ab (nq p q) = nq p q :=by
    have :=r.den_pos
    unfold ab; rw [if_neg (by omega)]
   omega
abbrev okMul (a b : Rat) : Prop :=rz (a.num * b.num) ∧ rz (a.den * b.den)
abbrev okAdd (a b : Rat) : Prop :=sumP a.num b.den b.num a.den ∧ rz (a.den * b.den)
abbrev okSub (a b : Rat) : Prop :=sumP a.num b.den (-b.num) a.den ∧ rz (a.den * b.den)
abbrev okDiv (a b : Rat) : Prop :=rz (a.num * b.den) ∧ rz (a.den * b.num)
theorem dd_ne (a b : Rat) : (a.den : Int) * b.den ≠ 0 :=Int.mul_ne_zero (by have :=a.den_pos; omega) (by have :=b.den_pos; omega)
theorem add_rat (a b : Rat) : (a + b) * ((((a.den : Int) * b.den : Int)) : Rat) = ((a.num * b.den + b.num * a.den : Int) : Rat) :=by
 rw [Rat.intCast_mul,Rat.intCast_add,Rat.intCast_mul,Rat.intCast_mul,num_den a,num_den b]; grind
theorem sub_rat (a b : Rat) : (a - b) * ((((a.den : Int) * b.den : Int)) : Rat) = ((a.num * b.den + -b.num * a.den : Int) : Rat) :=by
 rw [Rat.intCast_mul,Rat.intCast_add,Rat.intCast_mul,Rat.intCast_mul,Rat.intCast_neg,num_den a,num_den b]; grind
theorem mul_rat (a b : Rat) : (a * b) * ((((a.den : Int) * b.den : Int)) : Rat) = ((a.num * b.num : Int) : Rat) :=by
 rw [Rat.intCast_mul,Rat.intCast_mul,num_den a,num_den b]; grind
theorem num_ne {b : Rat} (h : b ≠ 0) : b.num ≠ 0 :=fun e => h (by
 have :=num_den b
 rw [e] at this
 have h2 :=den_ne b
 have h3 : ((0 : Int) : Rat) = 0 :=rfl
 rw [h3] at this
 grind)
theorem div_rat (a b : Rat) (h : b ≠ 0) : (a / b) * ((((a.den : Int) * b.num : Int)) : Rat) = ((a.num * b.den : Int) : Rat) :=by
 rw [Rat.intCast_mul,Rat.intCast_mul,num_den a,num_den b]; grind
theorem add_rq {a b : Rat} (h : okAdd a b) : rq (a + b) :=low_rq (dd_ne a b) (add_rat a b) h.1.2.2 h.2
theorem sub_rq {a b : Rat} (h : okSub a b) : rq (a - b) :=low_rq (dd_ne a b) (sub_rat a b) h.1.2.2 h.2
theorem mul_rq {a b : Rat} (h : okMul a b) : rq (a * b) :=low_rq (dd_ne a b) (mul_rat a b) h.1 h.2
theorem dn_ne (a : Rat) {b : Rat} (h : b ≠ 0) : (a.den : Int) * b.num ≠ 0 :=Int.mul_ne_zero (by have :=a.den_pos; omega) (num_ne h)
theorem div_rq {a b : Rat} (hb : b ≠ 0) (h : okDiv a b) : rq (a / b) :=low_rq (dn_ne a hb) (div_rat a b hb) h.1 h.2
noncomputable def qv (ok : Prop) (r : Rat) : AV :=@ite _ ok (Classical.propDecidable ok) (.tup [frq r,ii 0]) (.tup [frZ 0 0,ii 6])
theorem qv_t {ok : Prop} {r : Rat} (h : ok) : qv ok r = .tup [frq r,ii 0] :=if_pos h
theorem qv_f {ok : Prop} {r : Rat} (h : ¬ ok) : qv ok r = .tup [frZ 0 0,ii 6] :=if_neg h
theorem Add_q {a b : Rat} (ha : rq a) (hb : rq b) : Means false Try.prog 42 [frq a,frq b] (qv (okAdd a b) (a + b)) :=by
 have :=Add_f a.num a.den b.num b.den (rf_q ha) (rf_q hb)
 obtain ⟨h1,h2⟩ :=np_rat (dd_ne a b) (add_rat a b)
 by_cases h : okAdd a b
 · rw [resF_t h,h1,h2] at this
   rw [qv_t h]; exact this
 · rw [resF_f h] at this
   rw [qv_f h]; exact this
theorem Sub_q {a b : Rat} (ha : rq a) (hb : rq b) : Means false Try.prog 19 [frq a,frq b] (qv (okSub a b) (a - b)) :=by
 have :=Sub_f a.num a.den b.num b.den (rf_q ha) (rf_q hb)
 obtain ⟨h1,h2⟩ :=np_rat (dd_ne a b) (sub_rat a b)
 by_cases h : okSub a b
 · rw [resF_t h,h1,h2] at this
   rw [qv_t h]; exact this
 · rw [resF_f h] at this
   rw [qv_f h]; exact this
theorem Sub_qt {a b : Rat} (ha : rq a) (hb : rq b) (h : okSub a b) : Means false Try.prog 19 [frq a,frq b] (.tup [frq (a - b),ii 0]) :=by
 have :=Sub_q ha hb
 rwa [qv_t h] at this
theorem Mul_q {a b : Rat} (ha : rq a) (hb : rq b) : Means false Try.prog 61 [frq a,frq b] (qv (okMul a b) (a * b)) :=by
 have :=Mul_f a.num a.den b.num b.den (rf_q ha) (rf_q hb)
 obtain ⟨h1,h2⟩ :=np_rat (dd_ne a b) (mul_rat a b)
 by_cases h : okMul a b
 · rw [resF_t h,h1,h2] at this
   rw [qv_t h]; exact this
 · rw [resF_f h] at this
   rw [qv_f h]; exact this
theorem Mul_qt {a b : Rat} (ha : rq a) (hb : rq b) (h : okMul a b) : Means false Try.prog 61 [frq a,frq b] (.tup [frq (a * b),ii 0]) :=by
 have :=Mul_q ha hb
 rwa [qv_t h] at this
theorem Div_q {a b : Rat} (ha : rq a) (hb : rq b) (h0 : b ≠ 0) : Means false Try.prog 83 [frq a,frq b] (qv (okDiv a b) (a / b)) :=by
 have :=Div_f a.num a.den b.num b.den (rf_q ha) (rf_q hb) (num_ne h0)
 obtain ⟨h1,h2⟩ :=np_rat (dn_ne a h0) (div_rat a b h0)
 by_cases h : okDiv a b
 · rw [resF_t h,h1,h2] at this
   rw [qv_t h]; exact this
 · rw [resF_f h] at this
   rw [qv_f h]; exact this
theorem Div_qt {a b : Rat} (ha : rq a) (hb : rq b) (h0 : b ≠ 0) (h : okDiv a b) : Means false Try.prog 83 [frq a,frq b] (.tup [frq (a / b),ii 0]) :=by
 have :=Div_q ha hb h0
 rwa [qv_t h] at this
theorem ofq {p q : Int} (h0 : q ≠ 0) : ((p : Rat) / (q : Rat)) * (q : Rat) = (p : Rat) :=by
 have : (q : Rat) ≠ 0 :=fun e => h0 (Rat.intCast_inj.1 (show (q : Rat) = ((0 : Int) : Rat) from e))
 grind
theorem of_rq {p q : Int} (hp : -9223372036854775808 ≤ p ∧ p ≤ 9223372036854775807) (hq : -9223372036854775808 ≤ q ∧ q ≤ 9223372036854775807) (h0 : q ≠ 0) : rq ((p : Rat) / (q : Rat)) :=low_rq h0 (ofq h0) (rz_i hp) (rz_i hq)
theorem Of_q (p q : Int) (hp : -9223372036854775808 ≤ p ∧ p ≤ 9223372036854775807) (hq : -9223372036854775808 ≤ q ∧ q ≤ 9223372036854775807) (h0 : q ≠ 0) : Means false Try.prog 18 [ii p,ii q] (.tup [frq ((p : Rat) / (q : Rat)),ii 0]) :=by
 have :=Of_f p q hp hq h0
 obtain ⟨h1,h2⟩ :=np_rat (r :=(p : Rat) / (q : Rat)) h0 (ofq h0)
 rwa [h1,h2] at this
end Go.Proofs.Ytndiamkmcoghdaa

namespace Go.Proofs.Ytndiamkmcoghdaa
open Go.RowKit Go.Ab
attribute [local irreducible] AWP Go.Ab.Sub Means MeansH CallK CallG CallT CallGT CallU
abbrev calC (e : Int) : Cell :=.row ⟨66,1,[.agg [ii e]]⟩
def kp (c e : Int) : Int :=if c = 0 then e else c
theorem keep_m (c e : Int) (s1 : Int) (L1 : List Int) (s2 : Int) (L2 : List Int) : MeansH Try.prog 60 [calC c] [.el 0 1 0 0,frac4 s1 L1 s2 L2,ii e] (frac4 s1 L1 s2 L2) [calC (kp c e)] :=by
 refine meansH_fn 1 17 [.cell 6 48] Try.func60 rfl rfl rfl (by simp) (by decide) rfl fun X hX => ?_
 (repeat (refine awp_stepH [0,1,2,4,6,11,1000000] hX mixed rfl ?_; (simp [go_sem]; try (refine ⟨by kernel_rfl,?_⟩))))
 refine awp_cond (b :=decide (c = 0)) (by simp [go_sem]) (fun hb => ?_) (fun hb => ?_)
 · simp only [decide_eq_true_eq] at hb
   have e1 : kp c e = e :=if_pos hb
   rw [e1]
   (repeat (refine awp_stepH [0,1,2,4,6,11,1000000] hX mixed rfl ?_; (simp [go_sem]; try (refine ⟨by kernel_rfl,?_⟩))))
   refine awp_ret ?_; (try simp only [thenQ,blkQ,loopQ]); refine retH_ret [(1000000,.ow 0)] [.old 0 ⟨66,1,[.agg [ii e]]⟩] ?_
   simp [go_sem]
 · simp only [decide_eq_false_iff_not] at hb
   have e1 : kp c e = c :=if_neg hb
   rw [e1]
   (repeat (refine awp_stepH [0,1,2,4,6,11,1000000] hX mixed rfl ?_; (simp [go_sem]; try (refine ⟨by kernel_rfl,?_⟩))))
   refine awp_ret ?_; (try simp only [thenQ,blkQ,loopQ]); refine retH_ret [(1000000,.ow 0)] [.old 0 ⟨66,1,[.agg [ii c]]⟩] ?_
   simp [go_sem]
theorem of_c (c : Int) {p q s1 s2 e : Int} {L1 L2 : List Int} (h : Means false Try.prog 18 [ii p,ii q] (.tup [frac4 s1 L1 s2 L2,ii e])) : MeansH Try.prog 34 [calC c] [.el 0 1 0 0,ii p,ii q] (frac4 s1 L1 s2 L2) [calC (kp c e)] :=by
 have c1 :=keep_m c e s1 L1 s2 L2
 refine meansH_fn 1 14 [.cell 6 48] Try.func34 rfl rfl rfl (by simp) (by decide) rfl fun X hX => ?_
 (repeat (refine awp_stepH [0,1,2,6,1000000] hX mixed rfl ?_; (simp [go_sem]; try (refine ⟨by kernel_rfl,?_⟩))))
 first | refine callKa (h) ?_ | refine callTa (h) ?_
 try (simp [go_sem]; try (refine ⟨by kernel_rfl,?_⟩))
 first | refine callH_intro [0] (c1) (by simp [go_sem]) ?_ | refine callTQ_intro [0] (c1) (by simp [go_sem]) ?_ | refine callTE_intro [0] (c1) (by simp [go_sem]) ?_
 try (simp [go_sem]; try (refine ⟨by kernel_rfl,?_⟩))
 refine awp_ret ?_; (try simp only [thenQ,blkQ,loopQ]); refine retH_ret [(1000000,.ow 0)] [.old 0 ⟨66,1,[.agg [ii (kp c e)]]⟩] ?_
 simp [go_sem]
theorem add_c (c : Int) {s1 s2 t1 t2 r1 r2 e : Int} {L1 L2 M1 M2 N1 N2 : List Int} (h : Means false Try.prog 42 [frac4 s1 L1 s2 L2,frac4 t1 M1 t2 M2] (.tup [frac4 r1 N1 r2 N2,ii e])) : MeansH Try.prog 39 [calC c] [.el 0 1 0 0,frac4 s1 L1 s2 L2,frac4 t1 M1 t2 M2] (frac4 r1 N1 r2 N2) [calC (kp c e)] :=by
 have c1 :=keep_m c e r1 N1 r2 N2
 refine meansH_fn 1 14 [.cell 6 48] Try.func39 rfl rfl rfl (by simp) (by decide) rfl fun X hX => ?_
 (repeat (refine awp_stepH [0,1,2,4,5,6,1000000] hX mixed rfl ?_; (simp [go_sem]; try (refine ⟨by kernel_rfl,?_⟩))))
 first | refine callKa (h) ?_ | refine callTa (h) ?_
 try (simp [go_sem]; try (refine ⟨by kernel_rfl,?_⟩))
 first | refine callH_intro [0] (c1) (by simp [go_sem]) ?_ | refine callTQ_intro [0] (c1) (by simp [go_sem]) ?_ | refine callTE_intro [0] (c1) (by simp [go_sem]) ?_
 try (simp [go_sem]; try (refine ⟨by kernel_rfl,?_⟩))
 refine awp_ret ?_; (try simp only [thenQ,blkQ,loopQ]); refine retH_ret [(1000000,.ow 0)] [.old 0 ⟨66,1,[.agg [ii (kp c e)]]⟩] ?_
 simp [go_sem]
theorem sub_c (c : Int) {s1 s2 t1 t2 r1 r2 e : Int} {L1 L2 M1 M2 N1 N2 : List Int} (h : Means false Try.prog 19 [frac4 s1 L1 s2 L2,frac4 t1 M1 t2 M2] (.tup [frac4 r1 N1 r2 N2,ii e])) : MeansH Try.prog 51 [calC c] [.el 0 1 0 0,frac4 s1 L1 s2 L2,frac4 t1 M1 t2 M2] (frac4 r1 N1 r2 N2) [calC (kp c e)] :=by
 have c1 :=keep_m c e r1 N1 r2 N2
 refine meansH_fn 1 14 [.cell 6 48] Try.func51 rfl rfl rfl (by simp) (by decide) rfl fun X hX => ?_
 (repeat (refine awp_stepH [0,1,2,4,5,6,1000000] hX mixed rfl ?_; (simp [go_sem]; try (refine ⟨by kernel_rfl,?_⟩))))
 first | refine callKa (h) ?_ | refine callTa (h) ?_
 try (simp [go_sem]; try (refine ⟨by kernel_rfl,?_⟩))
 first | refine callH_intro [0] (c1) (by simp [go_sem]) ?_ | refine callTQ_intro [0] (c1) (by simp [go_sem]) ?_ | refine callTE_intro [0] (c1) (by simp [go_sem]) ?_
 try (simp [go_sem]; try (refine ⟨by kernel_rfl,?_⟩))
 refine awp_ret ?_; (try simp only [thenQ,blkQ,loopQ]); refine retH_ret [(1000000,.ow 0)] [.old 0 ⟨66,1,[.agg [ii (kp c e)]]⟩] ?_
 simp [go_sem]
theorem mul_c (c : Int) {s1 s2 t1 t2 r1 r2 e : Int} {L1 L2 M1 M2 N1 N2 : List Int} (h : Means false Try.prog 61 [frac4 s1 L1 s2 L2,frac4 t1 M1 t2 M2] (.tup [frac4 r1 N1 r2 N2,ii e])) : MeansH Try.prog 33 [calC c] [.el 0 1 0 0,frac4 s1 L1 s2 L2,frac4 t1 M1 t2 M2] (frac4 r1 N1 r2 N2) [calC (kp c e)] :=by
 have c1 :=keep_m c e r1 N1 r2 N2
 refine meansH_fn 1 14 [.cell 6 48] Try.func33 rfl rfl rfl (by simp) (by decide) rfl fun X hX => ?_
 (repeat (refine awp_stepH [0,1,2,4,5,6,1000000] hX mixed rfl ?_; (simp [go_sem]; try (refine ⟨by kernel_rfl,?_⟩))))
 first | refine callKa (h) ?_ | refine callTa (h) ?_
 try (simp [go_sem]; try (refine ⟨by kernel_rfl,?_⟩))
 first | refine callH_intro [0] (c1) (by simp [go_sem]) ?_ | refine callTQ_intro [0] (c1) (by simp [go_sem]) ?_ | refine callTE_intro [0] (c1) (by simp [go_sem]) ?_
 try (simp [go_sem]; try (refine ⟨by kernel_rfl,?_⟩))
 refine awp_ret ?_; (try simp only [thenQ,blkQ,loopQ]); refine retH_ret [(1000000,.ow 0)] [.old 0 ⟨66,1,[.agg [ii (kp c e)]]⟩] ?_
 simp [go_sem]
theorem div_c (c : Int) {s1 s2 t1 t2 r1 r2 e : Int} {L1 L2 M1 M2 N1 N2 : List Int} (h : Means false Try.prog 83 [frac4 s1 L1 s2 L2,frac4 t1 M1 t2 M2] (.tup [frac4 r1 N1 r2 N2,ii e])) : MeansH Try.prog 59 [calC c] [.el 0 1 0 0,frac4 s1 L1 s2 L2,frac4 t1 M1 t2 M2] (frac4 r1 N1 r2 N2) [calC (kp c e)] :=by
 have c1 :=keep_m c e r1 N1 r2 N2
 refine meansH_fn 1 14 [.cell 6 48] Try.func59 rfl rfl rfl (by simp) (by decide) rfl fun X hX => ?_
 (repeat (refine awp_stepH [0,1,2,4,5,6,1000000] hX mixed rfl ?_; (simp [go_sem]; try (refine ⟨by kernel_rfl,?_⟩))))
 first | refine callKa (h) ?_ | refine callTa (h) ?_
 try (simp [go_sem]; try (refine ⟨by kernel_rfl,?_⟩))
 first | refine callH_intro [0] (c1) (by simp [go_sem]) ?_ | refine callTQ_intro [0] (c1) (by simp [go_sem]) ?_ | refine callTE_intro [0] (c1) (by simp [go_sem]) ?_
 try (simp [go_sem]; try (refine ⟨by kernel_rfl,?_⟩))
 refine awp_ret ?_; (try simp only [thenQ,blkQ,loopQ]); refine retH_ret [(1000000,.ow 0)] [.old 0 ⟨66,1,[.agg [ii (kp c e)]]⟩] ?_
 simp [go_sem]
end Go.Proofs.Ytndiamkmcoghdaa

namespace Go.Proofs.Ytndiamkmcoghdaa
def sumR (f : Nat → Rat) : Nat → Rat
 | 0 => 0
 | n + 1 => sumR f n + f n
theorem sumR_congr {f g : Nat → Rat} : ∀ {n : Nat},(∀ k,k < n → f k = g k) → sumR f n = sumR g n
 | 0,_ => rfl
 | n + 1,h => by simp only [sumR]; rw [sumR_congr fun k hk => h k (by omega),h n (by omega)]
theorem sumR_lin (f g : Nat → Rat) (a b : Rat) : ∀ n,sumR (fun k => a * f k + b * g k) n = a * sumR f n + b * sumR g n
 | 0 => by simp only [sumR]; grind
 | n + 1 => by simp only [sumR]; rw [sumR_lin f g a b n]; grind
theorem sumR_zero {f : Nat → Rat} : ∀ {n : Nat},(∀ k,k < n → f k = 0) → sumR f n = 0
 | 0,_ => rfl
 | n + 1,h => by simp only [sumR]; rw [sumR_zero fun k hk => h k (by omega),h n (by omega)]; grind
theorem sumR_one {f : Nat → Rat} {i : Nat} : ∀ {n : Nat},i < n → (∀ k,k < n → k ≠ i → f k = 0) → sumR f n = f i
 | 0,h,_ => by omega
 | n + 1,h,h0 => by
   simp only [sumR]
   by_cases hi : i = n
   · subst hi
     rw [sumR_zero fun k hk => h0 k (by omega) (by omega)]; grind
   · rw [sumR_one (i :=i) (n :=n) (by omega) fun k hk hne => h0 k (by omega) hne,h0 n (by omega) (fun e => hi e.symm)]; grind
theorem sumR_two {f : Nat → Rat} {i : Nat} : ∀ {n : Nat},i + 1 < n → (∀ k,k < n → k ≠ i → k ≠ i + 1 → f k = 0) → sumR f n = f i + f (i + 1)
 | 0,h,_ => by omega
 | n + 1,h,h0 => by
   simp only [sumR]
   by_cases hi : i + 1 = n
   · subst hi
     rw [sumR_one (i :=i) (n :=i + 1) (by omega) fun k hk hne => h0 k (by omega) hne (by omega)]
   · rw [sumR_two (i :=i) (n :=n) (by omega) fun k hk h1 h2 => h0 k (by omega) h1 h2,h0 n (by omega) (by omega) (by omega)]; grind
theorem sumR_nonneg {f : Nat → Rat} : ∀ {n : Nat},(∀ k,k < n → 0 ≤ f k) → 0 ≤ sumR f n
 | 0,_ => by simp only [sumR]; decide
 | n + 1,h => by
   simp only [sumR]
   have h1 :=sumR_nonneg fun k (hk : k < n) => h k (by omega)
   have h2 :=h n (by omega)
   grind
theorem sumR_le {f : Nat → Rat} {i : Nat} : ∀ {n : Nat},i < n → (∀ k,k < n → k ≠ i → f k ≤ 0) → sumR f n ≤ f i
 | 0,h,_ => by omega
 | n + 1,h,h0 => by
   simp only [sumR]
   by_cases hi : i = n
   · subst hi
     have : 0 ≤ sumR (fun k => (-1) * f k + 0 * f k) i :=sumR_nonneg fun k hk => by have :=h0 k (by omega) (by omega); grind
     rw [sumR_lin] at this
     grind
   · have h1 :=sumR_le (i :=i) (n :=n) (by omega) fun k hk hne => h0 k (by omega) hne
     have h2 :=h0 n (by omega) (fun e => hi e.symm)
     grind
abbrev Mx :=Nat → Nat → Rat
def Sol (A : Mx) (n : Nat) (x : Nat → Rat) : Prop :=∀ k,k < n → sumR (fun t => A k t * x t) n = A k n
def elimP (A : Mx) (i k : Nat) : Mx :=fun k' t => if k' ≠ i ∧ k' < k ∧ i ≤ t then A k' t - A k' i / A i i * A i t else A k' t
def gj (A : Mx) (n : Nat) : Nat → Mx
 | 0 => A
 | i + 1 => elimP (gj A n i) i n
structure Inv (A : Mx) (n i : Nat) : Prop where
 zero : ∀ k t,k < n → t < i → k ≠ t → A k t = 0
 off : ∀ k t,k < n → i ≤ t → t < n → k ≠ t → A k t ≤ 0
 col : ∀ t,i ≤ t → t < n → 0 < sumR (fun k => if i ≤ k then A k t else 0) n
 rhs : ∀ k,k < n → 0 ≤ A k n
 dpos : ∀ k,k < i → k < n → 0 < A k k
theorem div_nonpos {a p : Rat} (ha : a ≤ 0) (hp : 0 < p) : a / p ≤ 0 :=by
 have h1 : 0 ≤ -a :=by grind
 have h2 : 0 ≤ p⁻¹ :=by have :=Rat.inv_pos.2 hp; grind
 have :=Rat.mul_nonneg h1 h2
 rw [Rat.div_def]; grind
theorem div_nonneg' {a p : Rat} (ha : 0 ≤ a) (hp : 0 < p) : 0 ≤ a / p :=by
 have h2 : 0 ≤ p⁻¹ :=by have :=Rat.inv_pos.2 hp; grind
 have :=Rat.mul_nonneg ha h2
 rw [Rat.div_def]; exact this
theorem mul_np {a b : Rat} (ha : a ≤ 0) (hb : b ≤ 0) : 0 ≤ a * b :=by
 have :=Rat.mul_nonneg (show 0 ≤ -a by grind) (show 0 ≤ -b by grind)
 grind
theorem mul_pn {a b : Rat} (ha : 0 ≤ a) (hb : b ≤ 0) : a * b ≤ 0 :=by
 have :=Rat.mul_nonneg ha (show 0 ≤ -b by grind)
 grind
theorem pivot_pos {A : Mx} {n i : Nat} (h : Inv A n i) (hi : i < n) : 0 < A i i :=by
 have h1 :=h.col i (Nat.le_refl _) hi
 have h2 :=sumR_le (f :=fun k => if i ≤ k then A k i else 0) hi fun k hk hne => by
  split
  · exact h.off k i hk (Nat.le_refl _) hi hne
  · grind
 rw [if_pos (Nat.le_refl _)] at h2
 grind
theorem elim_row (A : Mx) (i k t : Nat) : elimP A i k i t = A i t :=if_neg (by omega)
theorem elim_at {A : Mx} {i n k t : Nat} (hk : k < n) (hne : k ≠ i) (ht : i ≤ t) : elimP A i n k t = A k t - A k i / A i i * A i t :=if_pos ⟨hne,hk,ht⟩
theorem elim_left {A : Mx} {i n k t : Nat} (ht : t < i) : elimP A i n k t = A k t :=if_neg (by omega)
theorem inv_step {A : Mx} {n i : Nat} (h : Inv A n i) (hi : i < n) : Inv (elimP A i n) n (i + 1) :=by
 have hp :=pivot_pos h hi
 refine ⟨fun k t hk ht hne => ?_,fun k t hk ht htn hne => ?_,fun t ht htn => ?_,fun k hk => ?_,fun k hk hkn => ?_⟩
 · by_cases hti : t = i
   · subst hti
     rw [elim_at hk hne (Nat.le_refl _)]
     grind
   · rw [elim_left (by omega)]
     exact h.zero k t hk (by omega) hne
 · by_cases hki : k = i
   · subst hki
     rw [elim_row]
     exact h.off k t hk (by omega) htn hne
   · rw [elim_at hk hki (by omega)]
     have h1 :=h.off k t hk (by omega) htn hne
     have h2 :=div_nonpos (h.off k i hk (Nat.le_refl _) hi hki) hp
     have h3 :=mul_np h2 (h.off i t hi (by omega) htn (by omega))
     grind
 · have e : sumR (fun k => if i + 1 ≤ k then elimP A i n k t else 0) n = sumR (fun k => 1 * (if i ≤ k then A k t else 0) + (-(A i t / A i i)) * (if i ≤ k then A k i else 0)) n :=by
    refine sumR_congr fun k hk => ?_
    by_cases h1 : k < i
    · rw [if_neg (by omega),if_neg (by omega),if_neg (by omega)]; grind
    · by_cases h2 : k = i
      · subst h2
        rw [if_neg (by omega),if_pos (by omega),if_pos (by omega)]; grind
      · rw [if_pos (by omega),if_pos (by omega),if_pos (by omega),elim_at hk h2 (by omega)]; grind
   rw [e,sumR_lin]
   have h1 :=h.col t (by omega) htn
   have h2 :=h.col i (Nat.le_refl _) hi
   have h3 :=mul_pn (Rat.le_of_lt h2) (div_nonpos (h.off i t hi (by omega) htn (by omega)) hp)
   grind
 · by_cases hki : k = i
   · subst hki
     rw [elim_row]; exact h.rhs k hk
   · rw [elim_at hk hki (by omega)]
     have h1 :=h.rhs k hk
     have h2 :=div_nonpos (h.off k i hk (Nat.le_refl _) hi hki) hp
     have h3 :=mul_pn (h.rhs i hi) h2
     grind
 · by_cases hki : k = i
   · subst hki
     rw [elim_row]; exact hp
   · rw [elim_left (by omega)]
     exact h.dpos k (by omega) hkn
theorem gj_inv {A : Mx} {n : Nat} (h : Inv A n 0) : ∀ i,i ≤ n → Inv (gj A n i) n i
 | 0,_ => h
 | i + 1,hi => inv_step (gj_inv h i (by omega)) (by omega)
theorem gj_diag (A : Mx) (n k : Nat) : ∀ i,k ≤ i → gj A n i k k = gj A n k k k
 | 0,h => by have : k = 0 :=by omega
             subst this; rfl
 | i + 1,h => by
   by_cases hk : k = i + 1
   · rw [hk]
   · rw [← gj_diag A n k i (by omega)]
     show elimP (gj A n i) i n k k = _
     by_cases hki : k = i
     · subst hki; exact elim_row _ _ _ _
     · exact elim_left (by omega)
theorem sol_step {A : Mx} {n i : Nat} {x : Nat → Rat} (hi : i < n) (hp : A i i ≠ 0) (hz : ∀ t,t < i → A i t = 0) : Sol (elimP A i n) n x ↔ Sol A n x :=by
 have row : ∀ k,k < n → k ≠ i → sumR (fun t => elimP A i n k t * x t) n = sumR (fun t => A k t * x t) n - A k i / A i i * sumR (fun t => A i t * x t) n :=by
  intro k hk hne
  have : sumR (fun t => elimP A i n k t * x t) n = sumR (fun t => 1 * (A k t * x t) + (-(A k i / A i i)) * (A i t * x t)) n :=by
   refine sumR_congr fun t ht => ?_
   by_cases h : i ≤ t
   · rw [elim_at hk hne h]; grind
   · rw [elim_left (by omega),hz t (by omega)]; grind
  rw [this,sumR_lin]; grind
 have rowi : sumR (fun t => elimP A i n i t * x t) n = sumR (fun t => A i t * x t) n :=sumR_congr fun t _ => by rw [elim_row]
 constructor
 · intro h k hk
   have hi' :=h i hi
   rw [rowi,elim_row] at hi'
   by_cases hne : k = i
   · subst hne; exact hi'
   · have :=h k hk
     rw [row k hk hne,elim_at hk hne (by omega),hi'] at this
     grind
 · intro h k hk
   by_cases hne : k = i
   · subst hne; rw [rowi,elim_row]; exact h k hk
   · rw [row k hk hne,elim_at hk hne (by omega),h k hk,h i hi]
theorem sol_gj {A : Mx} {n : Nat} {x : Nat → Rat} (h : Inv A n 0) : ∀ i,i ≤ n → (Sol (gj A n i) n x ↔ Sol A n x)
 | 0,_ => Iff.rfl
 | i + 1,hi => by
   have hv :=gj_inv h i (by omega)
   have hp :=pivot_pos hv (by omega)
   rw [← sol_gj h i (by omega)]
   exact sol_step (by omega) (by grind) fun t ht => hv.zero i t (by omega) ht (by omega)
def solx (A : Mx) (n k : Nat) : Rat :=gj A n n k n / gj A n n k k
theorem solx_iff {A : Mx} {n : Nat} {x : Nat → Rat} (h : Inv A n 0) : Sol A n x ↔ ∀ k,k < n → x k = solx A n k :=by
 have hv :=gj_inv h n (Nat.le_refl _)
 rw [← sol_gj h n (Nat.le_refl _)]
 have one : ∀ k,k < n → sumR (fun t => gj A n n k t * x t) n = gj A n n k k * x k :=fun k hk =>
  sumR_one hk fun t ht hne => by rw [hv.zero k t hk ht (fun e => hne e.symm)]; grind
 constructor
 · intro hs k hk
   have h1 :=hs k hk
   rw [one k hk] at h1
   have h2 :=hv.dpos k hk hk
   unfold solx
   rw [← h1]; grind
 · intro hs k hk
   have h2 :=hv.dpos k hk hk
   rw [one k hk,hs k hk]
   unfold solx; grind
theorem solx_nonneg {A : Mx} {n k : Nat} (h : Inv A n 0) (hk : k < n) : 0 ≤ solx A n k :=by
 have hv :=gj_inv h n (Nat.le_refl _)
 exact div_nonneg' (hv.rhs k hk) (hv.dpos k hk hk)
theorem solx_sol {A : Mx} {n : Nat} (h : Inv A n 0) : Sol A n (solx A n) :=(solx_iff h).2 fun _ _ => rfl
theorem gj_piv {A : Mx} {n i : Nat} (h : Inv A n 0) (hi : i < n) : 0 < gj A n i i i :=pivot_pos (gj_inv h i (by omega)) hi
end Go.Proofs.Ytndiamkmcoghdaa

namespace Go.Proofs.Ytndiamkmcoghdaa
def sgn (j : Nat) : Rat :=if j % 2 = 0 then 1 else -1
theorem sgn_succ (j : Nat) : sgn (j + 1) = - sgn j :=by
 unfold sgn
 by_cases h : j % 2 = 0
 · rw [if_neg (by omega),if_pos h]
 · rw [if_pos (by omega),if_neg h]; decide
def minor (j : Nat) (A : Mx) : Mx :=fun k t => A (k + 1) (if t < j then t else t + 1)
def det : Nat → Mx → Rat
 | 0,_ => 1
 | n + 1,A => sumR (fun j => sgn j * A 0 j * det n (minor j A)) (n + 1)
theorem det_congr : ∀ (n : Nat) {A B : Mx},(∀ k t,k < n → t < n → A k t = B k t) → det n A = det n B
 | 0,_,_,_ => rfl
 | n + 1,A,B,h => by
   unfold det
   refine sumR_congr fun j hj => ?_
   rw [h 0 j (by omega) hj,det_congr n (A :=minor j A) (B :=minor j B) fun k t hk ht => ?_]
   unfold minor
   split
   · exact h _ _ (by omega) (by omega)
   · exact h _ _ (by omega) (by omega)
def setCol (A : Mx) (c : Nat) (v : Nat → Rat) : Mx :=fun k t => if t = c then v k else A k t
theorem minor_same (A : Mx) (c : Nat) (v : Nat → Rat) : minor c (setCol A c v) = minor c A :=by
 funext k t
 unfold minor setCol
 split <;> rw [if_neg (by omega)]
theorem minor_other (A : Mx) (c j : Nat) (v : Nat → Rat) (h : j ≠ c) : minor j (setCol A c v) = setCol (minor j A) (if c < j then c else c - 1) (fun k => v (k + 1)) :=by
 funext k t
 unfold minor setCol
 by_cases h1 : c < j
 · rw [if_pos h1]
   by_cases ht : t < j
   · simp only [if_pos ht]
   · rw [if_neg ht,if_neg (by omega),if_neg (by omega)]
     simp only [if_neg ht]
 · rw [if_neg h1]
   by_cases ht : t < j
   · rw [if_pos ht,if_neg (by omega),if_neg (by omega)]
     simp only [if_pos ht]
   · rw [if_neg ht]
     by_cases h2 : t + 1 = c
     · rw [if_pos h2,if_pos (by omega)]
     · rw [if_neg h2,if_neg (by omega)]
       simp only [if_neg ht]
theorem setCol_at (A : Mx) (c : Nat) (v : Nat → Rat) (k : Nat) : setCol A c v k c = v k :=if_pos rfl
theorem setCol_ne (A : Mx) (c : Nat) (v : Nat → Rat) (k : Nat) {t : Nat} (h : t ≠ c) : setCol A c v k t = A k t :=if_neg h
theorem det_lin : ∀ (n : Nat) (A : Mx) (c : Nat) (u v : Nat → Rat) (a b : Rat),c < n →
  det n (setCol A c fun k => a * u k + b * v k) = a * det n (setCol A c u) + b * det n (setCol A c v)
 | 0,_,c,_,_,_,_,h => by omega
 | n + 1,A,c,u,v,a,b,h => by
   unfold det
   rw [← sumR_lin]
   refine sumR_congr fun j hj => ?_
   by_cases hc : j = c
   · subst hc
     simp only [minor_same,setCol_at]
     grind
   · simp only [minor_other _ _ _ _ hc,setCol_ne _ _ _ _ hc]
     rw [det_lin n (minor j A) (if c < j then c else c - 1) (fun k => u (k + 1)) (fun k => v (k + 1)) a b (by split <;> omega)]
     grind
theorem det_adj : ∀ (n : Nat) (A : Mx) (c : Nat),c + 1 < n → (∀ k,k < n → A k c = A k (c + 1)) → det n A = 0
 | 0,_,c,h,_ => by omega
 | n + 1,A,c,h,he => by
   unfold det
   rw [sumR_two h fun j hj h1 h2 => ?_]
   · rw [he 0 (by omega),sgn_succ,det_congr n (A :=minor c A) (B :=minor (c + 1) A) fun k t hk ht => ?_]
     · grind
     · unfold minor
       by_cases h1 : t < c
       · rw [if_pos h1,if_pos (by omega)]
       · rw [if_neg h1]
         by_cases h2 : t < c + 1
         · rw [if_pos h2]
           have : t = c :=by omega
           subst this
           exact (he (k + 1) (by omega)).symm
         · rw [if_neg h2]
   · rw [det_adj n (minor j A) (if c < j then c else c - 1) (by split <;> omega) fun k hk => ?_]
     · grind
     · unfold minor
       by_cases h3 : c < j
       · rw [if_pos h3,if_pos (by omega),if_pos (by omega)]; exact he _ (by omega)
       · rw [if_neg h3,if_neg (by omega),if_neg (by omega)]
         have : c - 1 + 1 = c :=by omega
         rw [this]
         exact he _ (by omega)
theorem setCol_self (A : Mx) (c : Nat) : setCol A c (fun k => A k c) = A :=by
 funext k t
 unfold setCol
 split
 · rename_i h; rw [h]
 · rfl
def swapC (A : Mx) (c : Nat) : Mx :=setCol (setCol A c fun k => A k (c + 1)) (c + 1) fun k => A k c
theorem det_swap (n : Nat) (A : Mx) (c : Nat) (h : c + 1 < n) : det n (swapC A c) = - det n A :=by
 have e0 : ∀ (u v : Nat → Rat),(∀ k,u k = v k) → det n (setCol (setCol A c u) (c + 1) v) = 0 :=fun u v huv =>
  det_adj n _ c h fun k _ => by rw [setCol_at,setCol_ne _ _ _ _ (by omega),setCol_at,huv k]
 let p : Nat → Rat :=fun k => A k c
 let q : Nat → Rat :=fun k => A k (c + 1)
 have comm : ∀ (u v : Nat → Rat),setCol (setCol A c u) (c + 1) v = setCol (setCol A (c + 1) v) c u :=fun u v => by
  funext k t
  unfold setCol
  by_cases h1 : t = c + 1
  · subst h1
    rw [if_pos rfl,if_neg (by omega),if_pos rfl]
  · simp only [if_neg h1]
 have h1 :=e0 (fun k => 1 * p k + 1 * q k) (fun k => 1 * p k + 1 * q k) (fun _ => rfl)
 rw [det_lin n _ (c + 1) p q 1 1 h,comm _ p,comm _ q,det_lin n _ c p q 1 1 (by omega),det_lin n _ c p q 1 1 (by omega),← comm,← comm,← comm,← comm] at h1
 have h2 :=e0 p p (fun _ => rfl)
 have h3 :=e0 q q (fun _ => rfl)
 have h4 : setCol (setCol A c p) (c + 1) q = A :=by rw [show setCol A c p = A from setCol_self A c]; exact setCol_self A (c + 1)
 rw [h2,h3,h4] at h1
 show det n (setCol (setCol A c q) (c + 1) p) = _
 grind
theorem det_eq : ∀ (m n : Nat) (A : Mx) (c : Nat),c + 1 + m < n → (∀ k,k < n → A k c = A k (c + 1 + m)) → det n A = 0
 | 0,n,A,c,h,he => det_adj n A c h he
 | m + 1,n,A,c,h,he => by
   have h1 :=det_swap n A (c + 1 + m) (by omega)
   have h2 :=det_eq m n (swapC A (c + 1 + m)) c (by omega) fun k hk => by
    unfold swapC
    rw [setCol_ne _ _ _ _ (by omega),setCol_ne _ _ _ _ (by omega),setCol_ne _ _ _ _ (by omega),setCol_at]
    rw [he k hk]; congr 1
   rw [h2] at h1
   grind
theorem det_same {n : Nat} {A : Mx} {c d : Nat} (hc : c < n) (hd : d < n) (hne : c ≠ d) (he : ∀ k,k < n → A k c = A k d) : det n A = 0 :=by
 rcases Nat.lt_or_gt_of_ne hne with h | h
 · refine det_eq (d - c - 1) n A c (by omega) fun k hk => ?_
   have : c + 1 + (d - c - 1) = d :=by omega
   rw [this]; exact he k hk
 · refine det_eq (c - d - 1) n A d (by omega) fun k hk => ?_
   have : d + 1 + (c - d - 1) = c :=by omega
   rw [this]; exact (he k hk).symm
theorem det_add {n : Nat} (A : Mx) {c d : Nat} (hc : c < n) (hd : d < n) (hne : c ≠ d) (a : Rat) : det n (setCol A c fun k => A k c + a * A k d) = det n A :=by
 have h1 :=det_lin n A c (fun k => A k c) (fun k => A k d) 1 a hc
 have h2 : det n (setCol A c fun k => A k d) = 0 :=det_same hc hd hne fun k _ => by rw [setCol_at,setCol_ne _ _ _ _ (fun e => hne e.symm)]
 rw [h2,setCol_self] at h1
 have h3 : (fun k => A k c + a * A k d) = fun k => 1 * A k c + a * A k d :=by funext k; grind
 rw [h3,h1]; grind
theorem cramer {A : Mx} {n : Nat} {x : Nat → Rat} (h : Sol A n x) {j : Nat} (hj : j < n) : det n (setCol A j fun k => A k n) = x j * det n A :=by
 have h1 : det n (setCol A j fun k => A k n) = det n (setCol A j fun k => sumR (fun t => A k t * x t) n) :=det_congr n fun k t hk _ => by
  unfold setCol
  split
  · exact (h k hk).symm
  · rfl
 have h2 : ∀ m,det n (setCol A j fun k => sumR (fun t => A k t * x t) m) = sumR (fun t => x t * det n (setCol A j fun k => A k t)) m :=by
  intro m
  induction m with
  | zero =>
    have :=det_lin n A j (fun _ => 0) (fun _ => 0) 0 0 hj
    simp only [sumR]
    have e : (fun k : Nat => (0 : Rat) * 0 + 0 * 0) = fun _ => (0 : Rat) :=by funext k; grind
    rw [e] at this
    rw [this]; grind
  | succ m ih =>
    have :=det_lin n A j (fun k => sumR (fun t => A k t * x t) m) (fun k => A k m) 1 (x m) hj
    have e : (fun k => sumR (fun t => A k t * x t) (m + 1)) = fun k => 1 * sumR (fun t => A k t * x t) m + x m * A k m :=by funext k; simp only [sumR]; grind
    rw [e,this,ih]
    simp only [sumR]; grind
 rw [h1,h2,sumR_one hj fun t ht hne => ?_]
 · rw [setCol_self]
 · rw [det_same hj ht (fun e => hne e.symm) fun k _ => by rw [setCol_at,setCol_ne _ _ _ _ hne]]; grind
structure MM (A : Mx) (n : Nat) : Prop where
 off : ∀ k t,k < n → t < n → k ≠ t → A k t ≤ 0
 col : ∀ t,t < n → 0 < sumR (fun k => A k t) n
def schur (A : Mx) : Mx :=fun k t => A (k + 1) (t + 1) - A (k + 1) 0 / A 0 0 * A 0 (t + 1)
theorem sumR_first (f : Nat → Rat) : ∀ n,sumR f (n + 1) = f 0 + sumR (fun k => f (k + 1)) n
 | 0 => by simp only [sumR]; grind
 | n + 1 => by rw [sumR,sumR_first f n]; simp only [sumR]; grind
theorem mm_pivot {A : Mx} {n : Nat} (h : MM A (n + 1)) : 0 < A 0 0 :=by
 have h1 :=h.col 0 (by omega)
 have h2 :=sumR_le (f :=fun k => A k 0) (i :=0) (n :=n + 1) (by omega) fun k hk hne => h.off k 0 hk (by omega) hne
 grind
theorem mm_schur {A : Mx} {n : Nat} (h : MM A (n + 1)) : MM (schur A) n :=by
 have hp :=mm_pivot h
 refine ⟨fun k t hk ht hne => ?_,fun t ht => ?_⟩
 · have h1 :=h.off (k + 1) (t + 1) (by omega) (by omega) (by omega)
   have h2 :=mul_np (div_nonpos (h.off (k + 1) 0 (by omega) (by omega) (by omega)) hp) (h.off 0 (t + 1) (by omega) (by omega) (by omega))
   unfold schur; grind
 · have h1 :=h.col (t + 1) (by omega)
   have h2 :=h.col 0 (by omega)
   rw [sumR_first] at h1 h2
   have e : sumR (fun k => schur A k t) n = 1 * sumR (fun k => A (k + 1) (t + 1)) n + (-(A 0 (t + 1) / A 0 0)) * sumR (fun k => A (k + 1) 0) n :=by
    rw [← sumR_lin]
    exact sumR_congr fun k _ => by unfold schur; grind
   rw [e]
   have h3 :=mul_pn (Rat.le_of_lt h2) (div_nonpos (h.off 0 (t + 1) (by omega) (by omega) (by omega)) hp)
   generalize sumR (fun k => A (k + 1) (t + 1)) n = S at *
   generalize sumR (fun k => A (k + 1) 0) n = T at *
   generalize A 0 (t + 1) = a at *
   generalize A 0 0 = p at *
   have h4 : (p + T) * (a / p) = a + a / p * T :=by grind
   grind
theorem det_schur {A : Mx} {n : Nat} (hp : A 0 0 ≠ 0) : det (n + 1) A = A 0 0 * det n (schur A) :=by
 let B : Nat → Mx :=fun m k t => if 1 ≤ t ∧ t < m then A k t - A 0 t / A 0 0 * A k 0 else A k t
 have step : ∀ m,m ≤ n + 1 → det (n + 1) (B m) = det (n + 1) A :=by
  intro m hm
  induction m with
  | zero => exact det_congr _ fun k t _ _ => if_neg (by omega)
  | succ m ih =>
    rw [← ih (by omega)]
    by_cases h0 : m = 0
    · subst h0
      exact det_congr _ fun k t _ _ => by
       show (if _ then _ else _) = (if _ then _ else _)
       rw [if_neg (by omega),if_neg (by omega)]
    · rw [← det_add (B m) (c :=m) (d :=0) (by omega) (by omega) h0 (-(A 0 m / A 0 0))]
      refine det_congr _ fun k t _ _ => ?_
      show (if _ then _ else _) = setCol _ _ _ _ _
      by_cases ht : t = m
      · subst ht
        rw [if_pos (by omega),setCol_at]
        show _ = (if _ then _ else _) + _ * (if _ then _ else _)
        rw [if_neg (by omega),if_neg (by omega)]
        grind
      · rw [setCol_ne _ _ _ _ ht]
        show _ = (if _ then _ else _)
        by_cases h1 : 1 ≤ t ∧ t < m
        · rw [if_pos (by omega),if_pos h1]
        · rw [if_neg (by omega),if_neg h1]
 rw [← step (n + 1) (Nat.le_refl _)]
 have b0 : ∀ k,B (n + 1) k 0 = A k 0 :=fun k => if_neg (by omega)
 have bt : ∀ k t,t < n → B (n + 1) k (t + 1) = A k (t + 1) - A 0 (t + 1) / A 0 0 * A k 0 :=fun k t ht => if_pos (by omega)
 show sumR (fun j => sgn j * B (n + 1) 0 j * det n (minor j (B (n + 1)))) (n + 1) = A 0 0 * det n (schur A)
 rw [sumR_one (i :=0) (by omega) fun j hj hne => ?_]
 · rw [b0]
   have : sgn 0 = 1 :=rfl
   rw [this,det_congr n (A :=minor 0 (B (n + 1))) (B :=schur A) fun k t hk ht => ?_]
   · grind
   · unfold minor schur
     rw [if_neg (by omega),bt _ _ ht]
     grind
 · obtain ⟨j,rfl⟩ : ∃ i,j = i + 1 :=⟨j - 1,by omega⟩
   rw [bt 0 j (by omega)]
   have : A 0 (j + 1) - A 0 (j + 1) / A 0 0 * A 0 0 = 0 :=by grind
   rw [this]; grind
theorem mm_det : ∀ {n : Nat} {A : Mx},MM A n → 0 < det n A
 | 0,_,_ => by unfold det; decide
 | n + 1,A,h => by
   have hp :=mm_pivot h
   rw [det_schur (by grind)]
   exact Rat.mul_pos hp (mm_det (mm_schur h))
def intB (N : Nat) (r : Rat) : Prop :=∃ z : Int,r = z ∧ z.natAbs ≤ N
theorem intB_mul {N M : Nat} {r s : Rat} (h1 : intB N r) (h2 : intB M s) : intB (N * M) (r * s) :=by
 obtain ⟨z,rfl,hz⟩ :=h1
 obtain ⟨y,rfl,hy⟩ :=h2
 exact ⟨z * y,by rw [Rat.intCast_mul],by rw [Int.natAbs_mul]; exact Nat.mul_le_mul hz hy⟩
theorem intB_add {N M : Nat} {r s : Rat} (h1 : intB N r) (h2 : intB M s) : intB (N + M) (r + s) :=by
 obtain ⟨z,rfl,hz⟩ :=h1
 obtain ⟨y,rfl,hy⟩ :=h2
 exact ⟨z + y,by rw [Rat.intCast_add],by omega⟩
theorem intB_neg {N : Nat} {r : Rat} (h : intB N r) : intB N (-r) :=by
 obtain ⟨z,rfl,hz⟩ :=h
 exact ⟨-z,by rw [Rat.intCast_neg],by omega⟩
theorem intB_mono {N M : Nat} {r : Rat} (h : intB N r) (hl : N ≤ M) : intB M r :=by
 obtain ⟨z,rfl,hz⟩ :=h
 exact ⟨z,rfl,by omega⟩
theorem intB_sgn (j : Nat) : intB 1 (sgn j) :=by
 unfold sgn
 split
 · exact ⟨1,rfl,by decide⟩
 · exact ⟨-1,rfl,by decide⟩
theorem intB_sum {f : Nat → Rat} {N : Nat} : ∀ {n : Nat},(∀ k,k < n → intB N (f k)) → intB (n * N) (sumR f n)
 | 0,_ => ⟨0,rfl,by simp⟩
 | n + 1,h => by
   simp only [sumR]
   rw [Nat.add_mul,Nat.one_mul]
   exact intB_add (intB_sum fun k hk => h k (by omega)) (h n (by omega))
def detN : Nat → Nat → Nat
 | 0,_ => 1
 | n + 1,c => (n + 1) * (c * detN n c)
theorem det_int : ∀ {n : Nat} {A : Mx} {c : Nat},(∀ k t,k < n → t < n → intB c (A k t)) → intB (detN n c) (det n A)
 | 0,_,_,_ => ⟨1,rfl,by simp [detN]⟩
 | n + 1,A,c,h => by
   unfold det detN
   refine intB_sum fun j hj => ?_
   have h1 :=intB_mul (intB_mul (intB_sgn j) (h 0 j (by omega) hj)) (det_int (n :=n) (A :=minor j A) (c :=c) fun k t hk ht => by
    unfold minor
    split
    · exact h _ _ (by omega) (by omega)
    · exact h _ _ (by omega) (by omega))
   rw [Nat.one_mul] at h1
   exact h1
end Go.Proofs.Ytndiamkmcoghdaa

namespace Go.Proofs.Ytndiamkmcoghdaa
def szB (D N : Nat) (r : Rat) : Prop :=0 < D ∧ intB N (r * ((D : Int) : Rat))
theorem num_den' (r : Rat) : (r.num : Rat) = r * ((r.den : Int) : Rat) :=by
 have h :=Rat.num_divInt_den r
 rw [Rat.divInt_eq_div] at h
 have hd : (((r.den : Int)) : Rat) ≠ 0 :=by
  have :=r.den_pos
  intro e
  have : ((r.den : Int) : Rat) = ((0 : Int) : Rat) :=e
  have :=Rat.intCast_inj.1 this
  omega
 grind
theorem sz_num {D N : Nat} {r : Rat} (h : szB D N r) : r.num.natAbs ≤ N ∧ r.den ≤ D :=by
 obtain ⟨hD,z,hz,hN⟩ :=h
 have h1 :=num_den' r
 have h2 : r.num * (D : Int) = z * (r.den : Int) :=by
  have : ((r.num * (D : Int) : Int) : Rat) = ((z * (r.den : Int) : Int) : Rat) :=by
   rw [Rat.intCast_mul,Rat.intCast_mul,h1,← hz]; grind
  exact Rat.intCast_inj.1 this
 have h3 : r.den ∣ r.num.natAbs * D :=⟨z.natAbs,by
  have :=congrArg Int.natAbs h2
  rw [Int.natAbs_mul,Int.natAbs_mul] at this
  simp only [Int.natAbs_natCast] at this
  rw [this,Nat.mul_comm]⟩
 have h4 : r.den ∣ D :=(Nat.Coprime.symm r.reduced).dvd_of_dvd_mul_left h3
 obtain ⟨c,hc⟩ :=h4
 have hdp :=r.den_pos
 have hcp : 0 < c :=by
  rcases Nat.eq_zero_or_pos c with h0 | h0
  · subst h0; omega
  · exact h0
 have h5 : r.num.natAbs * c = z.natAbs :=by
  have :=congrArg Int.natAbs h2
  rw [Int.natAbs_mul,Int.natAbs_mul] at this
  simp only [Int.natAbs_natCast] at this
  rw [hc] at this
  have : r.den * (r.num.natAbs * c) = r.den * z.natAbs :=by rw [Nat.mul_comm r.den z.natAbs,← this]; rw [Nat.mul_left_comm]
  exact Nat.eq_of_mul_eq_mul_left hdp this
 refine ⟨?_,?_⟩
 · have :=Nat.mul_le_mul_left r.num.natAbs hcp
   omega
 · rw [hc]; have :=Nat.mul_le_mul_left r.den hcp; omega
def bt (k : Nat) (z : Int) : Prop :=z.natAbs ≤ 2 ^ k
theorem bt_mono {k m : Nat} {z : Int} (h : bt k z) (hl : k ≤ m) : bt m z :=Nat.le_trans h (Nat.pow_le_pow_right (by decide) hl)
theorem bt_mul {k m : Nat} {z y : Int} (h1 : bt k z) (h2 : bt m y) : bt (k + m) (z * y) :=by
 unfold bt; rw [Int.natAbs_mul,Nat.pow_add]; exact Nat.mul_le_mul h1 h2
theorem bt_add {k : Nat} {z y : Int} (h1 : bt k z) (h2 : bt k y) : bt (k + 1) (z + y) :=by
 unfold bt at *; rw [Nat.pow_succ]; omega
theorem bt_neg {k : Nat} {z : Int} (h : bt k z) : bt k (-z) :=by unfold bt at *; omega
theorem bt_zero (k : Nat) : bt k 0 :=by unfold bt; simp
def Stg (A : Mx) (n d a c : Nat) : Prop :=∃ D : Nat,0 < D ∧ D ≤ 2 ^ d ∧ ∀ k,k < n → (∀ t,t < n → intB (2 ^ a) (A k t * ((D : Int) : Rat))) ∧ intB (2 ^ c) (A k n * ((D : Int) : Rat))
theorem stg_step {A : Mx} {n i d a c : Nat} (h : Stg A n d a c) (hi : i < n) (hp : 0 < A i i) : Stg (elimP A i n) n (d + a) (2 * a + 1) (a + c + 1) :=by
 obtain ⟨D,hD,hDl,hs⟩ :=h
 obtain ⟨p,hpz,hpl⟩ :=(hs i hi).1 i hi
 have hDR : (0 : Rat) < ((D : Int) : Rat) :=by
  have : ((0 : Int) : Rat) < ((D : Int) : Rat) :=Rat.intCast_lt_intCast.2 (by omega)
  exact this
 have hp0 : 0 < p :=by
  have : ((0 : Int) : Rat) < (p : Rat) :=by rw [← hpz]; exact Rat.mul_pos hp hDR
  exact Rat.intCast_lt_intCast.1 this
 have hpn : ((p.natAbs : Int)) = p :=by omega
 have hcast : (((D * p.natAbs : Nat) : Int) : Rat) = ((D : Int) : Rat) * (A i i * ((D : Int) : Rat)) :=by
  rw [hpz,Int.natCast_mul,hpn,Rat.intCast_mul]
 have pr : ∀ {x N},intB (2 ^ N) (x * ((D : Int) : Rat)) → intB (2 ^ (a + N)) (x * (((D * p.natAbs : Nat) : Int) : Rat)) :=by
  intro x N hx
  rw [hcast,hpz,Nat.pow_add]
  have :=intB_mul (⟨p,rfl,hpl⟩ : intB (2 ^ a) (p : Rat)) hx
  have e : x * (((D : Int) : Rat) * (p : Rat)) = (p : Rat) * (x * ((D : Int) : Rat)) :=by grind
  rw [e]; exact this
 have two : ∀ {x y z N},intB (2 ^ N) (x * ((D : Int) : Rat)) → intB (2 ^ a) (y * ((D : Int) : Rat)) → intB (2 ^ N) (z * ((D : Int) : Rat)) → intB (2 ^ (a + N + 1)) ((x - y / A i i * z) * (((D * p.natAbs : Nat) : Int) : Rat)) :=by
  intro x y z N hx hy hz
  have h1 :=pr hx
  have h2 :=intB_neg (intB_mul hy hz)
  have h3 :=intB_add h1 h2
  rw [← Nat.pow_add,← Nat.two_mul,Nat.mul_comm,← Nat.pow_succ] at h3
  have e : (x - y / A i i * z) * (((D * p.natAbs : Nat) : Int) : Rat) = x * (((D * p.natAbs : Nat) : Int) : Rat) + -(y * ((D : Int) : Rat) * (z * ((D : Int) : Rat))) :=by
   rw [hcast]; grind
  rw [e]; exact h3
 refine ⟨D * p.natAbs,Nat.mul_pos hD (by omega),by rw [Nat.pow_add]; exact Nat.mul_le_mul hDl hpl,fun k hk => ⟨fun t ht => ?_,?_⟩⟩
 · have hk1 :=(hs k hk).1
   have e1 : a + a + 1 = 2 * a + 1 :=by omega
   by_cases h : k ≠ i ∧ k < n ∧ i ≤ t
   · rw [elim_at h.2.1 h.1 h.2.2,← e1]
     exact two (hk1 t ht) (hk1 i hi) ((hs i hi).1 t ht)
   · have : elimP A i n k t = A k t :=if_neg h
     rw [this,← e1]
     exact intB_mono (pr (hk1 t ht)) (Nat.pow_le_pow_right (by decide) (by omega))
 · have hk2 :=(hs k hk).2
   by_cases h : k ≠ i ∧ k < n ∧ i ≤ n
   · rw [elim_at h.2.1 h.1 h.2.2]
     exact two hk2 ((hs k hk).1 i hi) (hs i hi).2
   · have : elimP A i n k n = A k n :=if_neg h
     rw [this]
     exact intB_mono (pr hk2) (Nat.pow_le_pow_right (by decide) (by omega))
def bD (d a : Nat) : Nat → Nat
 | 0 => d
 | i + 1 => bD d a i + (a + 1) * 2 ^ i - 1
def bA (a i : Nat) : Nat :=(a + 1) * 2 ^ i - 1
def bC (a c : Nat) : Nat → Nat
 | 0 => c
 | i + 1 => bA a i + bC a c i + 1
theorem bA_succ (a i : Nat) : bA a (i + 1) = 2 * bA a i + 1 :=by
 unfold bA
 rw [Nat.pow_succ]
 have : 0 < (a + 1) * 2 ^ i :=Nat.mul_pos (by omega) (Nat.pow_pos (by decide))
 have e : (a + 1) * (2 ^ i * 2) = (a + 1) * 2 ^ i * 2 :=by rw [Nat.mul_assoc]
 omega
theorem stg_gj {A : Mx} {n d a c : Nat} (hv : Inv A n 0) (h : Stg A n d a c) : ∀ i,i ≤ n → Stg (gj A n i) n (bD d a i) (bA a i) (bC a c i)
 | 0,_ => by
   have : bA a 0 = a :=by simp [bA]
   rw [this]; exact h
 | i + 1,hi => by
   have h1 :=stg_step (stg_gj hv h i (by omega)) (by omega) (gj_piv hv (by omega))
   have e : bD d a (i + 1) = bD d a i + bA a i :=by
    show bD d a i + (a + 1) * 2 ^ i - 1 = _
    unfold bA
    have : 0 < (a + 1) * 2 ^ i :=Nat.mul_pos (by omega) (Nat.pow_pos (by decide))
    omega
   rw [bA_succ,e]
   exact h1
theorem stg_sz {A : Mx} {n d a c k t : Nat} (h : Stg A n d a c) (hac : a ≤ c) (hk : k < n) (ht : t ≤ n) : bt c (A k t).num ∧ bt d (A k t).den ∧ (t < n → bt a (A k t).num) :=by
 obtain ⟨D,hD,hDl,hs⟩ :=h
 by_cases htn : t < n
 · obtain ⟨h1,h2⟩ :=sz_num (D :=D) (N :=2 ^ a) (r :=A k t) ⟨hD,(hs k hk).1 t htn⟩
   exact ⟨bt_mono (k :=a) h1 hac,by unfold bt; simp only [Int.natAbs_natCast]; omega,fun _ => h1⟩
 · have : t = n :=by omega
   subst this
   obtain ⟨h1,h2⟩ :=sz_num (D :=D) (N :=2 ^ c) (r :=A k t) ⟨hD,(hs k hk).2⟩
   exact ⟨h1,by unfold bt; simp only [Int.natAbs_natCast]; omega,fun h => absurd h htn⟩
theorem stg_f {A : Mx} {n d a c k t i : Nat} (h : Stg A n d a c) (hac : a ≤ c) (hi : i < n) (hp : 0 < A i i) (hk : k < n) (ht : t ≤ n) :
  bt a (A k i / A i i).num ∧ bt a (A k i / A i i).den ∧ bt (a + c) (A k i / A i i * A i t).num ∧ bt (d + a) (A k i / A i i * A i t).den :=by
 obtain ⟨D,hD,hDl,hs⟩ :=h
 obtain ⟨p,hpz,hpl⟩ :=(hs i hi).1 i hi
 have hDR : (0 : Rat) < ((D : Int) : Rat) :=by
  have : ((0 : Int) : Rat) < ((D : Int) : Rat) :=Rat.intCast_lt_intCast.2 (by omega)
  exact this
 have hp0 : 0 < p :=by
  have : ((0 : Int) : Rat) < (p : Rat) :=by rw [← hpz]; exact Rat.mul_pos hp hDR
  exact Rat.intCast_lt_intCast.1 this
 have hpn : ((p.natAbs : Int)) = p :=by omega
 have f1 : A k i / A i i * (((p.natAbs : Nat) : Int) : Rat) = A k i * ((D : Int) : Rat) :=by rw [hpn,← hpz]; grind
 have hit : intB (2 ^ c) (A i t * ((D : Int) : Rat)) :=by
  by_cases htn : t < n
  · exact intB_mono ((hs i hi).1 t htn) (Nat.pow_le_pow_right (by decide) hac)
  · have : t = n :=by omega
    subst this; exact (hs i hi).2
 obtain ⟨h1,h2⟩ :=sz_num (D :=p.natAbs) (N :=2 ^ a) (r :=A k i / A i i) ⟨by omega,by rw [f1]; exact (hs k hk).1 i hi⟩
 obtain ⟨h3,h4⟩ :=sz_num (D :=p.natAbs * D) (N :=2 ^ (a + c)) (r :=A k i / A i i * A i t) ⟨Nat.mul_pos (by omega) hD,by
  rw [Int.natCast_mul,Rat.intCast_mul,Nat.pow_add]
  have e : A k i / A i i * A i t * ((((p.natAbs : Nat) : Int) : Rat) * ((D : Int) : Rat)) = A k i / A i i * (((p.natAbs : Nat) : Int) : Rat) * (A i t * ((D : Int) : Rat)) :=by grind
  rw [e,f1]
  exact intB_mul ((hs k hk).1 i hi) hit⟩
 have h5 : p.natAbs * D ≤ 2 ^ (d + a) :=by rw [Nat.pow_add,Nat.mul_comm]; exact Nat.mul_le_mul hDl hpl
 exact ⟨h1,by unfold bt; simp only [Int.natAbs_natCast]; omega,h3,by unfold bt; simp only [Int.natAbs_natCast]; omega⟩
end Go.Proofs.Ytndiamkmcoghdaa

namespace Go.Proofs.Ytndiamkmcoghdaa
theorem ab_natQ (z : Int) : ab z = (z.natAbs : Int) :=by unfold ab; split <;> omega
theorem pow20 (k : Nat) : (1048576 : Nat) ^ k = 2 ^ (20 * k) :=by rw [show (1048576 : Nat) = 2 ^ 20 from rfl,← Nat.pow_mul]
theorem rz_bt {k : Nat} {z : Int} (h : bt k z) (hk : k ≤ 1199) : rz z :=by
 unfold rz
 rw [ab_natQ]
 have h1 : ∀ m,k < 20 * m → z.natAbs < 1048576 ^ m :=fun m hm => by
  rw [pow20]
  exact Nat.lt_of_le_of_lt h (Nat.pow_lt_pow_right (by decide) hm)
 have h1 :=h1 60 (by omega)
 have h2 : ((z.natAbs : Nat) : Int) < (((1048576 : Nat) ^ 60 : Nat) : Int) :=Int.ofNat_lt.2 h1
 rw [Int.natCast_pow] at h2
 exact h2
theorem bt_one : bt 0 ((0 : Rat).den) :=by show (1 : Nat) ≤ 2 ^ 0; decide
theorem rq_bt {k m : Nat} {r : Rat} (h1 : bt k r.num) (h2 : bt m r.den) (hk : k ≤ 1199) (hm : m ≤ 1199) : rq r :=⟨rz_bt h1 hk,rz_bt h2 hm⟩
theorem okMul_bt {k m k' m' : Nat} {a b : Rat} (h1 : bt k a.num) (h2 : bt m a.den) (h3 : bt k' b.num) (h4 : bt m' b.den) (hk : k + k' ≤ 1199) (hm : m + m' ≤ 1199) : okMul a b :=⟨rz_bt (bt_mul h1 h3) hk,rz_bt (bt_mul h2 h4) hm⟩
theorem okDiv_bt {k m k' m' : Nat} {a b : Rat} (h1 : bt k a.num) (h2 : bt m a.den) (h3 : bt k' b.num) (h4 : bt m' b.den) (hk : k + m' ≤ 1199) (hm : m + k' ≤ 1199) : okDiv a b :=⟨rz_bt (bt_mul h1 h4) hk,rz_bt (bt_mul h2 h3) hm⟩
theorem okAdd_bt {k m k' m' : Nat} {a b : Rat} (h1 : bt k a.num) (h2 : bt m a.den) (h3 : bt k' b.num) (h4 : bt m' b.den) (hk : k + m' ≤ 1198) (hk' : k' + m ≤ 1198) (hm : m + m' ≤ 1199) : okAdd a b :=by
 have e1 :=bt_mul h1 h4
 have e2 :=bt_mul h3 h2
 exact ⟨⟨rz_bt e1 (by omega),rz_bt e2 (by omega),rz_bt (bt_add (bt_mono e1 hk) (bt_mono e2 hk')) (by omega)⟩,rz_bt (bt_mul h2 h4) hm⟩
theorem okSub_bt {k m k' m' : Nat} {a b : Rat} (h1 : bt k a.num) (h2 : bt m a.den) (h3 : bt k' b.num) (h4 : bt m' b.den) (hk : k + m' ≤ 1198) (hk' : k' + m ≤ 1198) (hm : m + m' ≤ 1199) : okSub a b :=by
 have e1 :=bt_mul h1 h4
 have e2 :=bt_mul (bt_neg h3) h2
 exact ⟨⟨rz_bt e1 (by omega),rz_bt e2 (by omega),rz_bt (bt_add (bt_mono e1 hk) (bt_mono e2 hk')) (by omega)⟩,rz_bt (bt_mul h2 h4) hm⟩
structure Fit (A : Mx) (n : Nat) : Prop where
 piv : ∀ i,i < n → gj A n i i i ≠ 0
 ent : ∀ i k t,i ≤ n → k < n → t ≤ n → rq (gj A n i k t)
 div : ∀ i k,i < n → k < n → k ≠ i → okDiv (gj A n i k i) (gj A n i i i)
 mul : ∀ i k t,i < n → k < n → k ≠ i → i ≤ t → t ≤ n → okMul (gj A n i k i / gj A n i i i) (gj A n i i t)
 sub : ∀ i k t,i < n → k < n → k ≠ i → i ≤ t → t ≤ n → okSub (gj A n i k t) (gj A n i k i / gj A n i i i * gj A n i i t)
 fin : ∀ k,k < n → okDiv (gj A n n k n) (gj A n n k k)
 dpos : ∀ k,k < n → gj A n n k k ≠ 0
theorem bts : (∀ i,i ≤ 5 → bD 0 10 i ≤ 336 ∧ bA 10 i ≤ 351 ∧ bC 10 50 i ≤ 391 ∧ bA 10 i ≤ bC 10 50 i) ∧ bD 0 10 6 ≤ 687 ∧ bA 10 6 ≤ 703 ∧ bC 10 50 6 ≤ 743 :=by decide
theorem elim_none {A : Mx} {i n : Nat} (h : ∀ k,k < n → k ≠ i → A k i = 0) : elimP A i n = A :=by
 funext k t
 by_cases hc : k ≠ i ∧ k < n ∧ i ≤ t
 · rw [elim_at hc.2.1 hc.1 hc.2.2,h k hc.2.1 hc.1]; grind
 · exact if_neg hc
def col6 (A : Mx) (n : Nat) : Prop :=n ≤ 6 ∨ n = 7 ∧ (∀ k,k < 6 → A k 6 = 0) ∧ (∀ t,t < 6 → A 6 t = 0)
theorem gj_col6 {A : Mx} (h : ∀ k,k < 6 → A k 6 = 0) (h2 : ∀ t,t < 6 → A 6 t = 0) : ∀ i,i ≤ 6 → (∀ k,k < 6 → gj A 7 i k 6 = 0) ∧ (∀ t,t < 6 → gj A 7 i 6 t = 0)
 | 0,_ => ⟨h,h2⟩
 | i + 1,hi => by
   obtain ⟨h3,h4⟩ :=gj_col6 h h2 i (by omega)
   refine ⟨fun k hk => ?_,fun t ht => ?_⟩
   · show elimP (gj A 7 i) i 7 k 6 = 0
     by_cases hc : k ≠ i ∧ k < 7 ∧ i ≤ 6
     · rw [elim_at hc.2.1 hc.1 hc.2.2,h3 k hk,h3 i (by omega)]; grind
     · rw [show elimP (gj A 7 i) i 7 k 6 = gj A 7 i k 6 from if_neg hc]; exact h3 k hk
   · show elimP (gj A 7 i) i 7 6 t = 0
     by_cases hc : 6 ≠ i ∧ 6 < 7 ∧ i ≤ t
     · rw [elim_at hc.2.1 hc.1 hc.2.2,h4 t ht,h4 i (by omega)]; grind
     · rw [show elimP (gj A 7 i) i 7 6 t = gj A 7 i 6 t from if_neg hc]; exact h4 t ht
theorem gj_row6 {A : Mx} (h : ∀ k,k < 6 → A k 6 = 0) (h2 : ∀ t,t < 6 → A 6 t = 0) (t : Nat) : ∀ i,i ≤ 7 → gj A 7 i 6 t = A 6 t
 | 0,_ => rfl
 | i + 1,hi => by
   rw [← gj_row6 h h2 t i (by omega)]
   show elimP (gj A 7 i) i 7 6 t = _
   by_cases hc : 6 ≠ i ∧ 6 < 7 ∧ i ≤ t
   · rw [elim_at hc.2.1 hc.1 hc.2.2,(gj_col6 h h2 i (by omega)).2 i (by omega)]; grind
   · exact if_neg hc
theorem fit_of {A : Mx} {n : Nat} (hv : Inv A n 0) (hs : Stg A n 0 10 50) (h6 : col6 A n) : Fit A n :=by
 have hn7 : n ≤ 7 :=by rcases h6 with h | h <;> omega
 have hst :=stg_gj hv hs
 have hpv : ∀ i,i < n → 0 < gj A n i i i :=fun i hi => gj_piv hv hi
 have hzero : ∀ i,6 ≤ i → i < n → ∀ k,k < n → k ≠ i → gj A n i k i = 0 :=fun i h1 h2 k hk hne => by
  rcases h6 with h | ⟨rfl,h3,h4⟩
  · omega
  · have : i = 6 :=by omega
    subst this
    exact (gj_col6 h3 h4 6 (by omega)).1 k (by omega)
 have h76 : n = 7 → gj A n 7 = gj A n 6 :=fun e => by
  subst e
  exact elim_none fun k hk hne => hzero 6 (by omega) (by omega) k hk hne
 have num : ∀ i k t,i ≤ n → k < n → t ≤ n → bt 743 (gj A n i k t).num ∧ bt 687 (gj A n i k t).den :=by
  intro i k t hi hk ht
  have low : ∀ i,i ≤ 6 → i ≤ n → bt 743 (gj A n i k t).num ∧ bt 687 (gj A n i k t).den :=fun i hi6 hin => by
   by_cases h5 : i ≤ 5
   · obtain ⟨b1,b2,b3,b4⟩ :=bts.1 i h5
     obtain ⟨c1,c2,_⟩ :=stg_sz (hst i hin) b4 hk ht
     exact ⟨bt_mono c1 (by omega),bt_mono c2 (by omega)⟩
   · have : i = 6 :=by omega
     subst this
     obtain ⟨c1,c2,_⟩ :=stg_sz (hst 6 hin) (by decide) hk ht
     exact ⟨bt_mono c1 bts.2.2.2,bt_mono c2 bts.2.1⟩
  by_cases h7 : i ≤ 6
  · exact low i h7 hi
  · have e1 : i = 7 :=by omega
    have e2 : n = 7 :=by omega
    rw [e1,h76 e2]
    exact low 6 (by omega) (by omega)
 have z0 : ∀ i k,i < n → 6 ≤ i → k < n → k ≠ i → gj A n i k i / gj A n i i i = 0 :=fun i k hi h6 hk hne => by
  rw [hzero i h6 hi k hk hne]; grind
 refine ⟨fun i hi => by have :=hpv i hi; grind,fun i k t hi hk ht => ?_,fun i k hi hk hne => ?_,fun i k t hi hk hne hit ht => ?_,fun i k t hi hk hne hit ht => ?_,fun k hk => ?_,fun k hk => ?_⟩
 · obtain ⟨c1,c2⟩ :=num i k t hi hk ht
   exact rq_bt c1 c2 (by omega) (by omega)
 · by_cases h5 : i ≤ 5
   · obtain ⟨b1,b2,b3,b4⟩ :=bts.1 i h5
     obtain ⟨c1,c2,c3⟩ :=stg_sz (hst i (by omega)) b4 hk (Nat.le_of_lt hi)
     obtain ⟨d1,d2,d3⟩ :=stg_sz (hst i (by omega)) b4 hi (Nat.le_of_lt hi)
     exact okDiv_bt (c3 hi) c2 (d3 hi) d2 (by omega) (by omega)
   · rw [hzero i (by omega) hi k hk hne]
     obtain ⟨c1,c2⟩ :=num i i i (by omega) hi (by omega)
     exact okDiv_bt (k :=0) (m :=0) (bt_zero _) bt_one c1 c2 (by omega) (by omega)
 · by_cases h5 : i ≤ 5
   · obtain ⟨b1,b2,b3,b4⟩ :=bts.1 i h5
     obtain ⟨c1,c2,c3⟩ :=stg_sz (hst i (by omega)) b4 hi ht
     obtain ⟨f1,f2,_,_⟩ :=stg_f (t :=t) (hst i (by omega)) b4 hi (hpv i hi) hk ht
     exact okMul_bt f1 f2 c1 c2 (by omega) (by omega)
   · rw [z0 i k hi (by omega) hk hne]
     obtain ⟨c1,c2⟩ :=num i i t (by omega) hi ht
     exact okMul_bt (k :=0) (m :=0) (bt_zero _) bt_one c1 c2 (by omega) (by omega)
 · by_cases h5 : i ≤ 5
   · obtain ⟨b1,b2,b3,b4⟩ :=bts.1 i h5
     obtain ⟨c1,c2,c3⟩ :=stg_sz (hst i (by omega)) b4 hk ht
     obtain ⟨_,_,f3,f4⟩ :=stg_f (t :=t) (hst i (by omega)) b4 hi (hpv i hi) hk ht
     exact okSub_bt c1 c2 f3 f4 (by omega) (by omega) (by omega)
   · rw [z0 i k hi (by omega) hk hne]
     have : (0 : Rat) * gj A n i i t = 0 :=by grind
     rw [this]
     obtain ⟨c1,c2⟩ :=num i k t (by omega) hk ht
     exact okSub_bt (k' :=0) (m' :=0) c1 c2 (bt_zero _) bt_one (by omega) (by omega) (by omega)
 · obtain ⟨c1,c2⟩ :=num n k n (by omega) hk (by omega)
   rw [gj_diag A n k n (by omega)]
   by_cases h5 : k ≤ 5
   · obtain ⟨b1,b2,b3,b4⟩ :=bts.1 k h5
     obtain ⟨d1,d2,d3⟩ :=stg_sz (hst k (by omega)) b4 hk (Nat.le_of_lt hk)
     exact okDiv_bt c1 c2 (d3 hk) d2 (by omega) (by omega)
   · have e2 : n = 7 :=by rcases h6 with h | h <;> omega
     subst e2
     have e1 : k = 6 :=by omega
     subst e1
     obtain ⟨_,h3,h4⟩ : 7 = 7 ∧ (∀ k,k < 6 → A k 6 = 0) ∧ (∀ t,t < 6 → A 6 t = 0) :=by
      rcases h6 with h | h
      · omega
      · exact h
     rw [gj_row6 h3 h4 6 6 (by omega)]
     obtain ⟨d1,d2,d3⟩ :=stg_sz hs (by decide) (k :=6) (t :=6) (by omega) (by omega)
     exact okDiv_bt c1 c2 (d3 (by omega)) d2 (by omega) (by omega)
 · have :=(gj_inv hv n (Nat.le_refl _)).dpos k hk hk
   grind
end Go.Proofs.Ytndiamkmcoghdaa

namespace Go.Ab
open Go.RowKit
def mapT (φ : Nat → Nat) (t : TagT) : TagT :=⟨t.t.map φ,t.w.map φ,t.e⟩
theorem noMeet_map (φ : Nat → Nat) {a b : TagT} (h : noMeetT (mapT φ a) (mapT φ b) = true) : noMeetT a b = true :=by
 unfold noMeetT mapT at *
 simp only [Bool.and_eq_true,List.all_eq_true,List.mem_map,forall_exists_index,and_imp,forall_apply_eq_imp_iff₂,Bool.not_eq_true',List.contains_eq_mem,decide_eq_false_iff_not] at h ⊢
 exact ⟨⟨h.1.1,fun x hx hm => h.1.2 x hx ⟨x,hm,rfl⟩⟩,fun x hx hm => h.2 x hx ⟨x,hm,rfl⟩⟩
theorem drawOK_map {ops : Array Oper} {ts : List TagT} (φ : Nat → Nat) (ts' : List TagT) (h : ts.map (mapT φ) = ts') (hd : drawOK ops (meetT ts') = true) : drawOK ops (meetT ts) = true :=by
 subst h
 have hg : ∀ i,(ts.map (mapT φ)).getD i default = mapT φ (ts.getD i default) :=by
  intro i
  rw [List.getD_eq_getElem?_getD,List.getD_eq_getElem?_getD,List.getElem?_map]
  cases ts[i]? <;> rfl
 unfold drawOK at *
 simp only [List.all_eq_true,Bool.and_eq_true,Bool.or_eq_true] at hd ⊢
 intro p hp
 refine ⟨(hd p hp).1,fun q hq => ?_⟩
 rcases (hd p hp).2 q hq with h1 | h1
 · exact .inl h1
 · refine .inr ⟨h1.1,?_⟩
   have h2 :=h1.2
   unfold meetT at *
   rw [hg,hg] at h2
   exact noMeet_map φ h2
def phi (a b x : Nat) : Nat :=if x < a then x else if x < b then a else a + 1 + (x - b)
theorem drawOK_phi {ops : Array Oper} {ts : List TagT} (a b : Nat) (hd : drawOK ops (meetT (ts.map (mapT (phi a b)))) = true) : drawOK ops (meetT ts) = true :=drawOK_map (phi a b) _ rfl hd
theorem newIds_self (a : Nat) : newIds a a = [] :=by unfold newIds; rw [Nat.sub_self]; rfl
theorem newIds_one (a : Nat) : newIds a (a + 1) = [a] :=by unfold newIds; rw [Nat.add_sub_cancel_left]; rfl
theorem upN_range (n : Nat) : upN (List.range n) n = id :=by
 funext i
 unfold upN
 by_cases h : i < n
 · rw [if_pos (by simpa using h),List.getD_eq_getElem?_getD,List.getElem?_range h]; rfl
 · rw [if_neg (by simpa using h),List.length_range]
   show n + (i - n) = i
   omega
theorem renB_idQ (e : AV) : renB id e = e :=by cases e <;> rfl
theorem mapB_id (l : List AV) : l.map (renB id) = l :=by rw [show renB id = id from funext renB_idQ,List.map_id]
theorem ren_idQ (e : AV) : ren id e = e :=by
 induction e using AV.zone.induct with
 | case4 f a b => simp only [ren,mapB_id]
 | case5 g y ih => simp only [ren,ih]
 | case6 es => simp only [ren,mapB_id]
 | case7 es => simp only [ren,mapB_id]
 | case1 i => rfl
 | case2 a b c d => rfl
 | case3 a b c d => rfl
 | case8 e h1 h2 h3 h4 h5 h6 h7 =>
   cases e <;> first | rfl | exact (h1 _ rfl).elim | exact (h2 _ _ _ _ rfl).elim | exact (h3 _ _ _ _ rfl).elim | exact (h4 _ _ _ rfl).elim | exact (h5 _ _ rfl).elim | exact (h6 _ rfl).elim | exact (h7 _ rfl).elim
theorem renF_idQ (e : AV) : renF id e = e :=by
 cases e with
 | agg cs => simp only [renF,mapB_id]
 | _ => rfl
theorem renCell_id (c : Cell) : renCell id c = c :=by
 cases c with
 | row o =>
   have : renEs id o.es = o.es :=by
    unfold renEs
    rw [show renF id = id from funext renF_idQ,List.map_id]
    cases zoneEs o.es <;> rfl
   simp only [renCell,this]
 | _ => rfl
theorem okCells_self : ∀ (H G : List Cell) (b : Nat),(∀ i c,H[i]? = some c → G[b + i]? = some c) → okCells id G ((List.range H.length).map (· + b)) H
 | [],G,b,_ => trivial
 | c :: H,G,b,h => by
   rw [List.length_cons,List.range_succ_eq_map,List.map_cons,List.map_map]
   refine ⟨by rw [renCell_id]; simpa using h 0 c rfl,?_⟩
   have :=okCells_self H G (b + 1) fun i d hi => by
    have :=h (i + 1) d (by simpa using hi)
    rw [← this]; congr 1; omega
   have e : List.map ((fun x => x + b) ∘ Nat.succ) (List.range H.length) = List.map (fun x => x + (b + 1)) (List.range H.length) :=List.map_congr_left fun x _ => by simp only [Function.comp_apply]; omega
   rw [e]; exact this
theorem okCells_range (H : List Cell) : okCells id H (List.range H.length) H :=by
 have :=okCells_self H H 0 fun i c h => by rw [Nat.zero_add]; exact h
 simpa using this
theorem okArgs_self {m : Nat} : ∀ {al : List AV},(∀ e ∈ al,e.idLt m) → okArgs id m al al
 | [],_ => trivial
 | a :: al,h => ⟨⟨.inl (ren_idQ a).symm,h a (by simp)⟩,okArgs_self fun e he => h e (List.mem_cons_of_mem _ he)⟩
theorem callHC_self {H : List Cell} {args : List AV} (ho : okRowIds H.length H) (ha : ∀ e ∈ args,e.idLt H.length) : CallHC H args (List.range H.length) H args :=by
 unfold CallHC
 rw [upN_range]
 exact ⟨List.nodup_range,fun c hc => by simpa using hc,okCells_range H,ho,okArgs_self ha⟩
theorem after_all (H H' : List Cell) (hl : H.length ≤ H'.length) : heapAfter H (List.range H.length) H' = H' :=by
 have hlen : (heapAfter H (List.range H.length) H').length = H'.length :=by rw [after_len,List.length_range]; omega
 apply List.ext_getElem?
 intro i
 by_cases hi : i < H'.length
 · have h1 :=after_get (Hc :=H) (ps :=List.range H.length) (H' :=H') List.nodup_range (fun c hc => by simpa using hc) (by simpa using hl) (List.getElem?_eq_getElem hi)
   rw [upN_range,renCell_id] at h1
   rw [List.getElem?_eq_getElem hi]; exact h1
 · rw [List.getElem?_eq_none (by omega),List.getElem?_eq_none (by omega)]
theorem callH_all {P : Program} {f : FuncId} {args : List AV} {b ok : Bool} {H : List Cell} {raw : List AV} {s : Bool} {k : Bool → AV → List Cell → Prop} {largs : List AV} {r : AV} {H' : List Cell} (h : MeansH P f H largs r H') (hr : raw = largs) (ho : okRowIds H.length H) (ha : ∀ e ∈ largs,e.idLt H.length) (hl : H.length ≤ H'.length) (hk : k true r H') : CallK P f args b ok H raw false s k :=by
 subst hr
 refine .inr (.inl ⟨rfl,List.range H.length,H,raw,r,H',h,callHC_self ho ha,?_⟩)
 rw [upN_range,ren_idQ,after_all H H' hl]; exact hk
theorem callX_all {P : Program} {f : FuncId} {args : List AV} {b ok : Bool} {c0 : Cell} {R : List Cell} {raw : List AV} {s : Bool} {k : Bool → AV → List Cell → Prop} {largs : List AV} {c0' : Cell} {o : Ob} (h : MeansX P f 1 (c0 :: R) largs (.ow 1) [c0',.row o]) (hr : raw = largs) (ho : okRowIds (R.length + 1) (c0 :: R)) (ha : ∀ e ∈ largs,e.idLt (R.length + 1)) (hz0 : renCell (upN [0] (R.length + 1)) c0' = c0') (hz : zoneEs o.es = true)
  (hk : ∀ D : List Cell,D.length = R.length → k true (.ow (R.length + 1)) (c0' :: (D ++ [.row o]))) : CallK P f args b ok (c0 :: R) raw false s k :=by
 subst hr
 have e0 : List.range (c0 :: R).length = [0] ++ (List.range R.length).map (· + 1) :=by rw [List.length_cons,List.range_succ_eq_map]; rfl
 have hc :=callHC_self (H :=c0 :: R) (args :=raw) ho ha
 rw [e0] at hc
 refine .inr (.inr (.inr (.inl ⟨rfl,[0],(List.range R.length).map (· + 1),c0 :: R,raw,.ow 1,[c0',.row o],h,hc,?_⟩)))
 have e1 : ren (upN [0] (c0 :: R).length) (.ow 1) = .ow (R.length + 1) :=by
  simp only [ren,upN,List.length_cons,List.length_nil]
  rw [if_neg (by omega)]
 have e2 : ∀ D : List Cell,D.length = R.length + 1 → ∃ D',D'.length = R.length ∧ heapAfter D [0] [c0',.row o] = c0' :: (D' ++ [.row o]) :=by
  intro D hD
  match D,hD with
  | d :: D',hD =>
    refine ⟨D',by simpa using hD,?_⟩
    simp only [heapAfter,setAll,List.map_cons,List.map_nil,List.length_cons,List.length_nil,List.drop_succ_cons,List.drop_zero,List.set_cons_zero,List.cons_append]
    have hD2 : D'.length + 1 = R.length + 1 :=by simpa using hD
    rw [hD2,hz0]
    have : renCell (upN [0] (R.length + 1)) (.row o) = .row o :=by simp only [renCell,renEs,hz,cond_true]
    rw [this]
 obtain ⟨D',h1,h2⟩ :=e2 (killH (c0 :: R) ((List.range R.length).map (· + 1))) (by rw [killH_len]; rfl)
 rw [e1,h2]
 exact hk D' h1
theorem sub_trans {X : Ctx} {a b c : St} (h1 : Sub X a b) (h2 : Sub X b c) : Sub X a c :=fun t w hr => h1 t w (h2 t w hr)
theorem nodup_shift {l : List Nat} {q b n : Nat} (h1 : l.Nodup) (h2 : q ∉ l) (h3 : ∀ x ∈ l,x < b ∨ b + n ≤ x) (h4 : q < b ∨ b + n ≤ q) : (l ++ q :: (List.range n).map fun k => k + b).Nodup :=by
 rw [List.nodup_append]
 refine ⟨h1,?_,?_⟩
 · rw [List.nodup_cons]
   refine ⟨fun hm => ?_,?_⟩
   · obtain ⟨k,hk,e⟩ :=List.mem_map.1 hm
     have : k < n :=by simpa using hk
     omega
   · refine List.pairwise_map.2 (List.Pairwise.imp (fun {x y} (h : x ≠ y) (e : x + b = y + b) => h (by omega)) List.nodup_range)
 · intro a ha c hc e
   subst e
   rcases List.mem_cons.1 hc with rfl | hm
   · exact h2 ha
   · obtain ⟨k,hk,e⟩ :=List.mem_map.1 hm
     have : k < n :=by simpa using hk
     have :=h3 a ha
     omega
theorem okS_mat {H : List Cell} (HS0 : List Src) (q : Nat) (f : Nat → Nat) {E1 E2 k2 : Nat} (M : List (List AV))
  (hq : H[q]? = some (.row ⟨E1,1,(List.range M.length).map fun k => AV.ow (f k)⟩))
  (hf : ∀ j es,M[j]? = some es → H[f j]? = some (.row ⟨E2,k2,es⟩) ∧ zoneEs es = true)
  (h0 : okS0 (HS0 ++ .old q ⟨E1,1,outN (HS0.length + 1) M.length⟩ :: matS f E2 k2 0 M) H HS0)
  (hn : (HS0.filterMap Src.rid ++ q :: (List.range M.length).map f).Nodup) :
  okS (HS0 ++ .old q ⟨E1,1,outN (HS0.length + 1) M.length⟩ :: matS f E2 k2 0 M) H (HS0 ++ .old q ⟨E1,1,outN (HS0.length + 1) M.length⟩ :: matS f E2 k2 0 M) :=by
 refine okS_of (fun s hs => ?_) ?_
 · rcases List.mem_append.1 hs with hs | hs
   · exact okS0_mem h0 s hs
   · rcases List.mem_cons.1 hs with rfl | hs
     · show okR _ _ _ _
       rw [hq]
       refine ⟨⟨rfl,rfl⟩,.inr ?_⟩
       refine okEs_names f (fun k => k + (HS0.length + 1)) _ fun j hj => ?_
       have hj' : j < M.length :=by simpa using hj
       refine ⟨⟨E2,k2,M[j]⟩,?_⟩
       rw [List.getElem?_append_right (by omega)]
       have : j + (HS0.length + 1) - HS0.length = j + 1 :=by omega
       rw [this,List.getElem?_cons_succ,matS_get,List.getElem?_eq_getElem hj',Nat.zero_add]; rfl
     · obtain ⟨j,hj,rfl⟩ :=List.getElem_of_mem hs
       rw [matS_len] at hj
       have hg : (matS f E2 k2 0 M)[j]? = some (.old (f j) ⟨E2,k2,M[j]⟩) :=by rw [matS_get,List.getElem?_eq_getElem hj,Nat.zero_add]; rfl
       have he : (matS f E2 k2 0 M)[j]'(by rw [matS_len]; exact hj) = .old (f j) ⟨E2,k2,M[j]⟩ :=by
        rw [List.getElem?_eq_getElem (by rw [matS_len]; exact hj)] at hg
        exact Option.some.inj hg
       rw [he]
       obtain ⟨h1,h2⟩ :=hf j M[j] (List.getElem?_eq_getElem hj)
       show okR _ _ _ _
       rw [h1]
       exact ⟨⟨rfl,rfl⟩,.inl ⟨rfl,h2⟩⟩
 · rw [List.filterMap_append,List.filterMap_cons]
   simp only [Src.rid]
   rw [matS_rid]
   simpa using hn
theorem sub_m3 {X : Ctx} {env : Nat → AV} (L : List (Nat × AV)) (s0 s1 : Src) (a b : Cell) {E1 E2 k2 : Nat} (M : List (List AV)) (T : List Cell) (n : Nat) (hn : M.length = n) (hz : ∀ es ∈ M,zoneEs es = true)
  (h0 : okS0 (s0 :: s1 :: .old 2 ⟨E1,1,outN 3 n⟩ :: matS (fun k => k + 3) E2 k2 0 M) (a :: b :: .row ⟨E1,1,outN 3 n⟩ :: (matC E2 k2 M ++ T)) [s0,s1])
  (hd : ([s0,s1].filterMap Src.rid).Nodup) (hi : ∀ x ∈ [s0,s1].filterMap Src.rid,x < 2 ∨ n + 3 ≤ x)
  (hL : okL (s0 :: s1 :: .old 2 ⟨E1,1,outN 3 n⟩ :: matS (fun k => k + 3) E2 k2 0 M) ⟨env,a :: b :: .row ⟨E1,1,outN 3 n⟩ :: (matC E2 k2 M ++ T)⟩ L) :
  Sub X ⟨mkE L,s0.cell :: s1.cell :: .row ⟨E1,1,outN 3 n⟩ :: matC E2 k2 M⟩ ⟨env,a :: b :: .row ⟨E1,1,outN 3 n⟩ :: (matC E2 k2 M ++ T)⟩ :=by
 subst hn
 exact sub_mat (st :=⟨env,a :: b :: .row ⟨E1,1,outN 3 M.length⟩ :: (matC E2 k2 M ++ T)⟩) L [s0,s1] 2 (fun k => k + 3) M rfl (fun j es h => ⟨by
   show (matC E2 k2 M ++ T)[j]? = _
   rw [List.getElem?_append_left (by rw [matC_len]; exact (List.getElem?_eq_some_iff.1 h).1)]
   exact matC_get h,hz es (List.mem_of_getElem? h)⟩) h0
  (nodup_shift hd (fun h => by have :=hi _ h; omega) (fun x hx => by have :=hi x hx; omega) (by omega)) hL
theorem sub_m3s {X : Ctx} {env : Nat → AV} (L : List (Nat × AV)) (s0 s1 : Src) (a b c : Cell) {E1 E2 k2 : Nat} (M : List (List AV)) (es : List AV) (c0 c1 : Cell) (n : Nat) (hn : M.length = n) (hz : ∀ es ∈ M,zoneEs es = true) (hz2 : zoneEs es = true)
  (h0 : okS0 (s0 :: s1 :: .old (n + 6) ⟨E1,1,outN 3 (n + 1)⟩ :: matS (fun k => if k < n then k + 3 else n + 4) E2 k2 0 (M ++ [es])) (a :: b :: c :: (matC E2 k2 M ++ [c0,.row ⟨E2,k2,es⟩,c1,.row ⟨E1,1,outN 3 n ++ [.ow (n + 4)]⟩])) [s0,s1])
  (hd : ([s0,s1].filterMap Src.rid).Nodup) (hi : ∀ x ∈ [s0,s1].filterMap Src.rid,x < 2)
  (hL : okL (s0 :: s1 :: .old (n + 6) ⟨E1,1,outN 3 (n + 1)⟩ :: matS (fun k => if k < n then k + 3 else n + 4) E2 k2 0 (M ++ [es])) ⟨env,a :: b :: c :: (matC E2 k2 M ++ [c0,.row ⟨E2,k2,es⟩,c1,.row ⟨E1,1,outN 3 n ++ [.ow (n + 4)]⟩])⟩ L) :
  Sub X ⟨mkE L,s0.cell :: s1.cell :: .row ⟨E1,1,outN 3 (n + 1)⟩ :: matC E2 k2 (M ++ [es])⟩ ⟨env,a :: b :: c :: (matC E2 k2 M ++ [c0,.row ⟨E2,k2,es⟩,c1,.row ⟨E1,1,outN 3 n ++ [.ow (n + 4)]⟩])⟩ :=by
 subst hn
 have hl : (M ++ [es]).length = M.length + 1 :=by simp
 have hr : (List.range (M.length + 1)).map (fun k => AV.ow (if k < M.length then k + 3 else M.length + 4)) = outN 3 M.length ++ [.ow (M.length + 4)] :=by
  rw [List.range_succ,List.map_append]
  congr 1
  · exact List.map_congr_left fun k hk => by
     have : k < M.length :=by simpa using hk
     rw [if_pos this]
  · simp
 have h :=sub_mat (X :=X) (st :=⟨env,a :: b :: c :: (matC E2 k2 M ++ [c0,.row ⟨E2,k2,es⟩,c1,.row ⟨E1,1,outN 3 M.length ++ [.ow (M.length + 4)]⟩])⟩) (E1 :=E1) (E2 :=E2) (k2 :=k2) L [s0,s1] (M.length + 6) (fun k => if k < M.length then k + 3 else M.length + 4) (M ++ [es]) (by
   show (matC E2 k2 M ++ [c0,.row ⟨E2,k2,es⟩,c1,.row ⟨E1,1,outN 3 M.length ++ [.ow (M.length + 4)]⟩])[M.length + 3]? = _
   rw [List.getElem?_append_right (by rw [matC_len]; omega),matC_len,Nat.add_sub_cancel_left,hl,hr]
   rfl) (fun j es' hj => ?_) (by rw [hl]; exact h0) ?_ (by rw [hl]; exact hL)
 · rw [hl] at h; exact h
 · by_cases hjm : j < M.length
   · simp only [if_pos hjm]
     show (matC E2 k2 M ++ [c0,.row ⟨E2,k2,es⟩,c1,.row ⟨E1,1,outN 3 M.length ++ [.ow (M.length + 4)]⟩])[j]? = _ ∧ _
     rw [List.getElem?_append_left hjm] at hj
     rw [List.getElem?_append_left (by rw [matC_len]; exact hjm)]
     exact ⟨matC_get hj,hz es' (List.mem_of_getElem? hj)⟩
   · have hjl :=(List.getElem?_eq_some_iff.1 hj).1
     have : j = M.length :=by simp at hjl; omega
     subst this
     simp only [if_neg hjm]
     show (matC E2 k2 M ++ [c0,.row ⟨E2,k2,es⟩,c1,.row ⟨E1,1,outN 3 M.length ++ [.ow (M.length + 4)]⟩])[M.length + 1]? = _ ∧ _
     rw [List.getElem?_append_right (by omega),Nat.sub_self] at hj
     simp at hj
     subst hj
     rw [List.getElem?_append_right (by rw [matC_len]; omega),matC_len,Nat.add_sub_cancel_left]
     exact ⟨rfl,hz2⟩
 · rw [hl,List.nodup_append]
   refine ⟨hd,?_,?_⟩
   · rw [List.nodup_cons]
     refine ⟨fun hm => ?_,?_⟩
     · obtain ⟨k,hk,e⟩ :=List.mem_map.1 hm
       have : k < M.length + 1 :=by simpa using hk
       split at e <;> omega
     · refine List.pairwise_map.2 (List.Pairwise.imp_of_mem (fun {x y} hx hy (h : x ≠ y) e => ?_) List.nodup_range)
       have hx' : x < M.length + 1 :=by simpa using hx
       have hy' : y < M.length + 1 :=by simpa using hy
       split at e <;> split at e <;> omega
   · intro u hu v hv e
     subst e
     have :=hi u hu
     rcases List.mem_cons.1 hv with rfl | hm
     · omega
     · obtain ⟨k,hk,e⟩ :=List.mem_map.1 hm
       split at e <;> omega
attribute [go_sem] newIds_one newIds_self
end Go.Ab

