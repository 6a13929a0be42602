/-
  Lemmas for the statement at the top.
-/
import Derived.Test.YthibhamepjhfjaaGreatDoorTeP15
import Derived.Test.YthibhamepjhfjaaGreatDoorTeP10
import Derived.Test.YthibhamepjhfjaaGreatDoorTeP14
import Derived.Test.YthibhamepjhfjaaGreatDoorTeP12
set_option linter.all false
namespace Go.Proofs.YthibhamepjhfjaaGreatDoor
open Go.RowKit Go.Ab
def q15x0 : List Nat :=[0,2,3,4,5,6,7,8,9,10,11,12,13,15,18,26,35,36,37,38,56,92,108,114,115,116,117]
def q15x1 : List Nat :=[0,1,2,3,4,5,6,7,8,9,10,12,13,15,34,43]
def q15x2 : List Nat :=[0,1,4,5,6,7,8,9,10,11,12,17,27,28,29,30,53]
attribute [go_sem] q15x0 q15x1 q15x2
attribute [local irreducible] AWP Go.Ab.Sub Means MeansH CallK CallG CallT CallGT CallU
set_option maxHeartbeats 4000000 in
set_option maxRecDepth 20000 in
theorem AE : ∀ (n : Nat) (p q r s : Int),q.toNat + s.toNat ≤ n → rz p → rz q → rz r → rz s → 0 < q → 0 < s → Means false Tryz.prog 82 [bigZ p,bigZ q,bigZ r,bigZ s] (ii (cmpI (p * s) (r * q)))
 | 0,p,q,r,s,hn,_,_,_,_,hq,hs => by omega
 | n + 1,p,q,r,s,hn,zp,zq,zr,zs,hq,hs => by
   have hu0 :=Int.emod_nonneg p (show q ≠ 0 by omega)
   have hu1 :=Int.emod_lt_of_pos p hq
   have hv0 :=Int.emod_nonneg r (show s ≠ 0 by omega)
   have hv1 :=Int.emod_lt_of_pos r hs
   have zx :=tW hq zp
   have zy :=tW hs zr
   have zu :=tV (p :=p) hq zq
   have zv :=tV (p :=r) hs zs
   have c2 :=jD (p / q) (r / s)
   have s1 :=fC (p % q)
   have s2 :=fC (r % s)
   have d1 :=dB zp zq (by omega) (cG hq).1 (cG hq).2
   have d2 :=dB zr zs (by omega) (cG hs).1 (cG hs).2
   have d3 :=fD _ _ zx zy
   have ih :=AE n s (r % s) q (p % q)
   have sgu : sg (p % q) = 0 ↔ p % q = 0 :=by rcases aE (p % q) with h | h | h <;> omega
   have sgv : sg (r % s) = 0 ↔ r % s = 0 :=by rcases aE (r % s) with h | h | h <;> omega
   by_cases hxy : p / q = r / s
   · have hc0 : cmpI (p / q) (r / s) = 0 :=c2.2 hxy
     have ct :=A8 hxy
     have cz :=fun h => wR hq hs hu0 hv0 h
     rw [ct]
     rw [hc0] at d3
     generalize p / q = x at *
     generalize r / s = y at *
     generalize p % q = u at *
     generalize r % s = v at *
     refine aF false 54 [.tmp 8] Tryz.func82 rfl rfl rfl (by simp) (by decide) rfl fun X hX => ?_
     (repeat (refine a7 q15x1 hX mixed rfl ?_;simp [go_sem];try refine ⟨by kernel_rfl,?_⟩))
     first | refine a8 (d1) ?_ | refine aA (d1) ?_
     try (simp [go_sem];try refine ⟨by kernel_rfl,?_⟩)
     (repeat (refine a7 q15x1 hX mixed rfl ?_;simp [go_sem];try refine ⟨by kernel_rfl,?_⟩))
     first | refine a8 (d2) ?_ | refine aA (d2) ?_
     try (simp [go_sem];try refine ⟨by kernel_rfl,?_⟩)
     (repeat (refine a7 q15x1 hX mixed rfl ?_;simp [go_sem];try refine ⟨by kernel_rfl,?_⟩))
     first | refine a8 (d3) ?_ | refine aA (d3) ?_
     try (simp [go_sem];try refine ⟨by kernel_rfl,?_⟩)
     (repeat (refine a7 q15x1 hX mixed rfl ?_;simp [go_sem];try refine ⟨by kernel_rfl,?_⟩))
     refine aC (by simp [go_sem]) ?_
     (repeat (refine a7 q15x1 hX mixed rfl ?_;simp [go_sem];try refine ⟨by kernel_rfl,?_⟩))
     by_cases huv : u = 0 ∨ v = 0
     · refine aK (by simp [go_sem,sgu,sgv,huv]) ?_
       rw [cz huv]
       have w1 :=w64 (x :=sg u - sg v) (by omega) (by omega)
       (repeat (refine a7 q15x1 hX mixed rfl ?_;simp [go_sem,w1];try refine ⟨by kernel_rfl,?_⟩))
     · refine aC (by simp [go_sem,sgu,sgv]; omega) ?_
       have hE : cmpI (u * s) (v * q) = cmpI (s * u) (q * v) :=by rw [Int.mul_comm u s,Int.mul_comm v q]
       rw [hE]
       (repeat (refine a7 q15x1 hX mixed rfl ?_;simp [go_sem];try refine ⟨by kernel_rfl,?_⟩))
       first | refine a8 (ih (by omega) zs zv zq zu (by omega) (by omega)) ?_ | refine aA (ih (by omega) zs zv zq zu (by omega) (by omega)) ?_
       try (simp [go_sem];try refine ⟨by kernel_rfl,?_⟩)
       (repeat (refine a7 q15x1 hX mixed rfl ?_;simp [go_sem];try refine ⟨by kernel_rfl,?_⟩))
   · have hc0 : ¬ cmpI (p / q) (r / s) = 0 :=fun h => hxy (c2.1 h)
     rw [A7 hq hs hxy]
     refine aF false 54 [.tmp 8] Tryz.func82 rfl rfl rfl (by simp) (by decide) rfl fun X hX => ?_
     (repeat (refine a7 q15x1 hX mixed rfl ?_;simp [go_sem];try refine ⟨by kernel_rfl,?_⟩))
     first | refine a8 (d1) ?_ | refine aA (d1) ?_
     try (simp [go_sem];try refine ⟨by kernel_rfl,?_⟩)
     (repeat (refine a7 q15x1 hX mixed rfl ?_;simp [go_sem];try refine ⟨by kernel_rfl,?_⟩))
     first | refine a8 (d2) ?_ | refine aA (d2) ?_
     try (simp [go_sem];try refine ⟨by kernel_rfl,?_⟩)
     (repeat (refine a7 q15x1 hX mixed rfl ?_;simp [go_sem];try refine ⟨by kernel_rfl,?_⟩))
     first | refine a8 (d3) ?_ | refine aA (d3) ?_
     try (simp [go_sem];try refine ⟨by kernel_rfl,?_⟩)
     (repeat (refine a7 q15x1 hX mixed rfl ?_;simp [go_sem];try refine ⟨by kernel_rfl,?_⟩))
     refine aK (by simp [go_sem,hc0]) ?_
     (repeat (refine a7 q15x1 hX mixed rfl ?_;simp [go_sem];try refine ⟨by kernel_rfl,?_⟩))
set_option maxHeartbeats 4000000 in
theorem x9 (a b c d : Int) (hab : rf a b) (hcd : rf c d) : Means false Tryz.prog 48 [frZ a b,frZ c d] (ii (cmpI (a * d) (c * b))) :=by
 have hb :=AE _ a b c d (Nat.le_refl _) hab.1 hab.2.1 hcd.1 hcd.2.1 hab.2.2.1 hcd.2.2.1
 refine aF false 22 [.tmp 4] Tryz.func48 rfl rfl rfl (by simp) (by decide) rfl fun X hX => ?_
 (repeat (refine a7 [0,1,2,3,4,12] hX mixed rfl ?_;simp [go_sem];try refine ⟨by kernel_rfl,?_⟩))
 first | refine a8 (bI a b hab) ?_ | refine aA (bI a b hab) ?_
 try (simp [go_sem];try refine ⟨by kernel_rfl,?_⟩)
 first | refine aP (fun hg => bI c d hcd) ?_ | refine aM (fun hg => bI c d hcd) ?_
 try (simp [go_sem];try refine ⟨by kernel_rfl,?_⟩)
 refine aC (by simp [go_sem]) ?_
 (repeat (refine a7 [0,1,2,3,4,12] hX mixed rfl ?_;simp [go_sem];try refine ⟨by kernel_rfl,?_⟩))
 first | refine a8 (hb) ?_ | refine aA (hb) ?_
 try (simp [go_sem];try refine ⟨by kernel_rfl,?_⟩)
 (repeat (refine a7 [0,1,2,3,4,12] hX mixed rfl ?_;simp [go_sem];try refine ⟨by kernel_rfl,?_⟩))
set_option maxHeartbeats 4000000 in
theorem uH (a b : Int) (h : rf a b) : Means false Tryz.prog 50 [frZ a b] (bigZ (a / b)) :=by
 have hb :=h.2.2.1
 refine aF false 20 [.cell 2 39] Tryz.func50 rfl rfl rfl (by simp) (by decide) rfl fun X hX => ?_
 (repeat (refine a7 [0,1,2,3,8] hX mixed rfl ?_;simp [go_sem];try refine ⟨by kernel_rfl,?_⟩))
 first | refine a8 (bI a b h) ?_ | refine aA (bI a b h) ?_
 try (simp [go_sem];try refine ⟨by kernel_rfl,?_⟩)
 refine aC (by simp [go_sem]) ?_
 (repeat (refine a7 [0,1,2,3,8] hX mixed rfl ?_;simp [go_sem];try refine ⟨by kernel_rfl,?_⟩))
 first | refine a8 (dB h.1 h.2.1 (by omega) (cG hb).1 (cG hb).2) ?_ | refine aA (dB h.1 h.2.1 (by omega) (cG hb).1 (cG hb).2) ?_
 try (simp [go_sem];try refine ⟨by kernel_rfl,?_⟩)
 (repeat (refine a7 [0,1,2,3,8] hX mixed rfl ?_;simp [go_sem];try refine ⟨by kernel_rfl,?_⟩))
end Go.Proofs.YthibhamepjhfjaaGreatDoor

namespace Go.Proofs.YthibhamepjhfjaaGreatDoor
open Go.RowKit Go.Ab
attribute [local irreducible] AWP Go.Ab.Sub Means MeansH CallK CallG CallT CallGT CallU
end Go.Proofs.YthibhamepjhfjaaGreatDoor

namespace Go.Proofs.YthibhamepjhfjaaGreatDoor
open Go.RowKit Go.Ab
attribute [local irreducible] AWP Go.Ab.Sub Means MeansH CallK CallG CallT CallGT CallU
theorem FD (s1 : Int) (a : List Int) (t1 : Int) (b : List Int) (s2 : Int) (c : List Int) (t2 : Int) (d : List Int) (ha : a.length ≤ 100000) (hb : b.length ≤ 100000) (hc : c.length ≤ 100000) (hd : d.length ≤ 100000) (h : ¬ (isF s1 a t1 b ∧ isF s2 c t2 d)) : Means false Tryz.prog 60 [frac4 s1 a t1 b,frac4 s2 c t2 d] (.tup [frZ 0 0,ii 1]) :=by
 have r1 :=j2 s1 a (by omega) t1 b (by omega)
 have r2 :=j2 s2 c (by omega) t2 d (by omega)
 obtain ⟨x,hx⟩ : ∃ x,decide (isF s1 a t1 b) = x :=⟨_,rfl⟩
 obtain ⟨y,hy⟩ : ∃ y,decide (isF s2 c t2 d) = y :=⟨_,rfl⟩
 have hxy : (!x || !y) = true :=by
  rw [← hx,← hy]; simp; grind
 rw [hx] at r1
 rw [hy] at r2
 refine aF false 46 [.cell 4 41,.tmp 5] Tryz.func60 rfl rfl rfl (by simp) (by decide) rfl fun X hX => ?_
 (repeat (refine a7 [0,1,2,3,4,5,6,7,8,9,17] hX mixed rfl ?_;simp [go_sem];try refine ⟨by kernel_rfl,?_⟩))
 first | refine a8 (r1) ?_ | refine aA (r1) ?_
 try (simp [go_sem];try refine ⟨by kernel_rfl,?_⟩)
 first | refine aP (fun hg => r2) ?_ | refine aM (fun hg => r2) ?_
 try (simp [go_sem];try refine ⟨by kernel_rfl,?_⟩)
 refine aK (by simpa [go_sem] using hxy) ?_
 (repeat (refine a7 [0,1,2,3,4,5,6,7,8,9,17] hX mixed rfl ?_;simp [go_sem];try refine ⟨by kernel_rfl,?_⟩))
end Go.Proofs.YthibhamepjhfjaaGreatDoor

namespace Go.Proofs.YthibhamepjhfjaaGreatDoor
open Go.RowKit Go.Ab
attribute [local irreducible] AWP Go.Ab.Sub Means MeansH MeansX CallK CallG CallT CallGT CallU
def fl (r : Rat) : Int :=r.num / (r.den : Int)
def rs (r : Rat) : Rat :=r - ((fl r : Int) : Rat)
theorem wU (r : Rat) : (0 : Rat) < ((r.den : Int) : Rat) :=Rat.intCast_pos.2 (by have :=r.den_pos; omega)
theorem IB (r : Rat) : ((fl r : Int) : Rat) ≤ r :=by
 have hd : 0 < (r.den : Int) :=by have :=r.den_pos; omega
 have h1 : fl r * (r.den : Int) ≤ r.num :=Int.ediv_mul_le _ (by omega)
 have h2 : ((fl r * (r.den : Int) : Int) : Rat) ≤ ((r.num : Int) : Rat) :=Rat.intCast_le_intCast.2 h1
 rw [Rat.intCast_mul,cQ r] at h2
 exact Rat.le_of_mul_le_mul_right h2 (wU r)
theorem LB (r : Rat) : r < ((fl r : Int) : Rat) + 1 :=by
 have hd : 0 < (r.den : Int) :=by have :=r.den_pos; omega
 have h1 : r.num < (fl r + 1) * (r.den : Int) :=Int.lt_ediv_add_one_mul_self _ hd
 have h2 : ((r.num : Int) : Rat) < (((fl r + 1) * (r.den : Int) : Int) : Rat) :=Rat.intCast_lt_intCast.2 h1
 rw [Rat.intCast_mul,cQ r,Rat.intCast_add] at h2
 have h3 :=Rat.lt_of_mul_lt_mul_right h2 (Rat.le_of_lt (wU r))
 simpa using h3
theorem C9 (r : Rat) : 0 ≤ rs r :=by have :=IB r; unfold rs; grind
theorem LC (r : Rat) : rs r < 1 :=by have :=LB r; unfold rs; grind
theorem qK {r : Rat} {B : Int} (h0 : 0 ≤ r) (h1 : r ≤ ((B : Int) : Rat)) : 0 ≤ fl r ∧ fl r ≤ B :=by
 refine ⟨?_,?_⟩
 · unfold fl
   exact Int.ediv_nonneg (Rat.num_nonneg.2 h0) (by omega)
 · have h2 : ((fl r : Int) : Rat) ≤ ((B : Int) : Rat) :=by have :=IB r; grind
   exact Rat.intCast_le_intCast.1 h2
theorem nY {r : Rat} (hq : rq r) (h0 : 0 ≤ r) : okSub r ((fl r : Int) : Rat) :=by
 have hd : 0 < (r.den : Int) :=by have :=r.den_pos; omega
 have hn :=Rat.num_nonneg.2 h0
 have h1 : fl r * (r.den : Int) ≤ r.num :=Int.ediv_mul_le _ (by omega)
 have h2 : 0 ≤ fl r :=Int.ediv_nonneg hn (by omega)
 have h3 : 0 ≤ fl r * (r.den : Int) :=Int.mul_nonneg h2 (by omega)
 have h4 : ((((fl r : Int) : Rat).den : Nat) : Int) = 1 :=by rw [Rat.den_intCast]; rfl
 obtain ⟨z1,z2⟩ :=hq
 unfold okSub sumP
 rw [h4,Rat.num_intCast,Int.mul_one,Int.mul_one]
 have e : -fl r * (r.den : Int) = -(fl r * (r.den : Int)) :=Int.neg_mul _ _
 rw [e]
 generalize fl r * (r.den : Int) = y at *
 refine ⟨⟨z1,?_,?_⟩,z2⟩
 all_goals
  unfold rz ab at *
  repeat' split
  all_goals (try omega)
  all_goals (repeat' split at z1)
  all_goals (try omega)
def rsum (ks : List Rat) (i : Nat) : Rat :=sumR (fun t => rs (ks.getD t 0)) i
theorem fW (ks : List Rat) (i : Nat) : rsum ks (i + 1) = rsum ks i + rs (ks.getD i 0) :=rfl
theorem s7 (ks : List Rat) : ∀ i,0 ≤ rsum ks i ∧ rsum ks i ≤ ((i : Int) : Rat)
 | 0 => ⟨by show (0 : Rat) ≤ 0; grind,by show (0 : Rat) ≤ _; simp⟩
 | i + 1 => by
   obtain ⟨h1,h2⟩ :=s7 ks i
   have h3 :=C9 (ks.getD i 0)
   have h4 :=LC (ks.getD i 0)
   rw [fW]
   refine ⟨by grind,?_⟩
   have : (((i + 1 : Nat) : Int) : Rat) = ((i : Int) : Rat) + 1 :=by
    rw [show ((i + 1 : Nat) : Int) = (i : Int) + 1 by omega,Rat.intCast_add]; rfl
   rw [this]; grind
def okS (ks : List Rat) (i : Nat) : Prop :=∀ j,j < i → okAdd (rsum ks j) (rs (ks.getD j 0))
noncomputable def svF (ks : List Rat) (i : Nat) : Fr :=@ite _ (okS ks i) (Classical.propDecidable _) (frR (rsum ks i)) ⟨sg 0,dg (ab 0),sg 0,dg (ab 0)⟩
noncomputable def ev (ks : List Rat) (i : Nat) : Int :=@ite _ (okS ks i) (Classical.propDecidable _) 0 6
theorem CT (ks : List Rat) : okS ks 0 :=fun j hj => by omega
theorem HB {ks : List Rat} {i : Nat} (h : okS ks (i + 1)) : okS ks i :=fun j hj => h j (by omega)
theorem yR {r : Rat} (hq : rq r) (h0 : 0 ≤ r) : rq (rs r) :=DM (nY hq h0)
theorem LD : rq 0 :=⟨jK (by decide),jK (by decide)⟩
theorem mR {ks : List Rat} : ∀ {i : Nat},okS ks i → rq (rsum ks i)
 | 0,_ => LD
 | i + 1,h => by rw [fW]; exact JZ (h i (by omega))
theorem LE (c : Int) {r : Rat} (hq : rq r) (h0 : 0 ≤ r) (h1 : fl r ≤ 4503599627370496) : MeansH Tryz.prog 43 [calC c] [.el 0 1 0 0,frq r,frq ((fl r : Int) : Rat)] (frq (rs r)) [calC c] :=by
 have h2 : 0 ≤ fl r :=Int.ediv_nonneg (Rat.num_nonneg.2 h0) (by omega)
 have :=I1 c (DK hq (jL (p :=fl r) (q :=1) (by omega) (by decide) (by decide)) (by rw [mL]; exact nY hq h0))
 have e : kp c 0 = c :=by unfold kp; split <;> simp_all
 rw [e,mL] at this
 exact this
theorem HC (c : Int) {p : Int} (hp : -9223372036854775808 ≤ p ∧ p ≤ 9223372036854775807) : MeansH Tryz.prog 33 [calC c] [.el 0 1 0 0,ii p,ii 1] (frq ((p : Int) : Rat)) [calC c] :=by
 have :=KO c (KP p 1 hp (by decide) (by decide))
 have e : kp c 0 = c :=by unfold kp; split <;> simp_all
 rw [e,mL] at this
 exact this
theorem LF {ks : List Rat} {i : Nat} (hq : rq (ks.getD i 0)) (h0 : 0 ≤ ks.getD i 0) : MeansH Tryz.prog 44 [calC (ev ks i)] [.el 0 1 0 0,fv (svF ks i),frq (rs (ks.getD i 0))] (fv (svF ks (i + 1))) [calC (ev ks (i + 1))] :=by
 have hr :=yR hq h0
 by_cases h : okS ks i
 · have e1 : svF ks i = frR (rsum ks i) :=if_pos h
   have e2 : ev ks i = 0 :=if_pos h
   have hs :=mR h
   have ha :=I9 hs hr
   by_cases h2 : okAdd (rsum ks i) (rs (ks.getD i 0))
   · have h3 : okS ks (i + 1) :=fun j hj => by
      by_cases e : j = i
      · subst e; exact h2
      · exact h j (by omega)
     have e3 : svF ks (i + 1) = frR (rsum ks (i + 1)) :=if_pos h3
     have e4 : ev ks (i + 1) = 0 :=if_pos h3
     rw [gX h2] at ha
     rw [e1,e2,e3,e4,fW]
     exact AD 0 ha
   · have h3 : ¬ okS ks (i + 1) :=fun e => h2 (e i (by omega))
     have e3 : svF ks (i + 1) = ⟨sg 0,dg (ab 0),sg 0,dg (ab 0)⟩ :=if_neg h3
     have e4 : ev ks (i + 1) = 6 :=if_neg h3
     rw [qA h2] at ha
     rw [e1,e2,e3,e4]
     exact AD 0 ha
 · have h3 : ¬ okS ks (i + 1) :=fun e => h (HB e)
   have e1 : svF ks i = ⟨sg 0,dg (ab 0),sg 0,dg (ab 0)⟩ :=if_neg h
   have e2 : ev ks i = 6 :=if_neg h
   have e3 : svF ks (i + 1) = ⟨sg 0,dg (ab 0),sg 0,dg (ab 0)⟩ :=if_neg h3
   have e4 : ev ks (i + 1) = 6 :=if_neg h3
   rw [e1,e2,e3,e4]
   have hn : ¬ (isF (sg 0) (dg (ab 0)) (sg 0) (dg (ab 0)) ∧ isF (sg (rs (ks.getD i 0)).num) (dg (ab (rs (ks.getD i 0)).num)) (sg ((rs (ks.getD i 0)).den : Int)) (dg (ab ((rs (ks.getD i 0)).den : Int)))) :=fun e => by
    have :=e.1
    rw [AA (jK (by decide)) (jK (by decide))] at this
    exact absurd this.2.2.1 (by decide)
   exact AD 6 (FD _ _ _ _ _ _ _ _ (by decide) (by decide) (by have :=(aR 60).2 hr.1; omega) (by have :=(aR 60).2 hr.2; omega) hn)
end Go.Proofs.YthibhamepjhfjaaGreatDoor

namespace Go.Proofs.YthibhamepjhfjaaGreatDoor
open Go.RowKit Go.Ab
attribute [local irreducible] AWP Go.Ab.Sub Means MeansH MeansX CallK CallG CallT CallGT CallU
def most : Rat :=((4503599627370496 : Int) : Rat)
def cArg (ks : List Rat) (T : List AV) : Prop :=T ≠ [] ∨ ∃ k ∈ ks,k < 0 ∨ most < k
def coinL (ks : List Rat) : List Int :=bumps (ks.map fl) ((srt (B.kf (ks.map rs)) (idxI ks.length)).take (fl (rsum ks ks.length)).toNat)
noncomputable def coinV (ks : List Rat) (T : List AV) : AV :=
 @ite _ ((ks.length + T.length = 0 ∨ 12 < ks.length + T.length) ∨ cArg ks T) (Classical.propDecidable _) (.tup [.sl [],ii 1]) (@ite _ (okS ks ks.length) (Classical.propDecidable _) (if rsum ks ks.length = ((fl (rsum ks ks.length) : Int) : Rat) then .tup [il (coinL ks),ii 0] else .tup [.sl [],ii 1]) (.tup [.sl [],ii 6]))
def tailOk (T : List AV) : Prop :=T = [] ∨ ∃ x T',T = fv x :: T' ∧ Means false Tryz.prog 41 [fv x] (bb false)
def okTo (ks : List Rat) (i : Nat) : Prop :=∀ k,k < i → 0 ≤ ks.getD k 0 ∧ ks.getD k 0 ≤ most
theorem qJ {ks : List Rat} {i : Nat} {f : Rat} (h : okTo ks i) (hf : ks.getD i 0 = f) (h0 : 0 ≤ f) (h1 : f ≤ most) : okTo ks (i + 1) :=fun k hk => by
 by_cases e : k = i
 · subst e; rw [hf]; exact ⟨h0,h1⟩
 · exact h k (by omega)
def restA (ks : List Rat) (i : Nat) : List AV :=(List.range i).map fun k => frq (rs (ks.getD k 0))
def outA (ks : List Rat) (i : Nat) : List AV :=(List.range i).map fun k => ii (fl (ks.getD k 0))
def ordA (i : Nat) : List AV :=(List.range i).map fun k : Nat => ii (k : Int)
theorem nZ (ks : List Rat) (i : Nat) : restA ks (i + 1) = restA ks i ++ [frq (rs (ks.getD i 0))] :=by unfold restA; rw [List.range_succ,List.map_append]; rfl
theorem qL (ks : List Rat) (i : Nat) : outA ks (i + 1) = outA ks i ++ [ii (fl (ks.getD i 0))] :=by unfold outA; rw [List.range_succ,List.map_append]; rfl
theorem CA (i : Nat) : ordA (i + 1) = ordA i ++ [ii (i : Int)] :=by unfold ordA; rw [List.range_succ,List.map_append]; rfl
theorem qM (ks : List Rat) (i : Nat) : (restA ks i).length = i :=by simp [restA]
theorem uI (ks : List Rat) (i : Nat) : (outA ks i).length = i :=by simp [outA]
theorem FE (i : Nat) : (ordA i).length = i :=by simp [ordA]
theorem pX {α β : Type} (ks : List α) (d : α) (f : α → β) : (List.range ks.length).map (fun k => f (ks.getD k d)) = ks.map f :=by
 apply List.ext_getElem
 · simp
 · intro i h1 h2
   have : i < ks.length :=by simpa using h2
   simp [List.getD_eq_getElem?_getD,List.getElem?_eq_getElem this]
theorem o5 (ks : List Rat) : restA ks ks.length = (ks.map rs).map frq :=by
 rw [List.map_map]; exact pX ks 0 fun r => frq (rs r)
theorem qN (ks : List Rat) : outA ks ks.length = (ks.map fl).map ii :=by
 rw [List.map_map]; exact pX ks 0 fun r => ii (fl r)
theorem CB (n : Nat) : ordA n = (idxI n).map ii :=by unfold ordA idxI; rw [List.map_map]; rfl
theorem f7 {n : Nat} {f : Nat → AV} (h : ∀ k,zoneEs [f k] = true) : zoneEs ((List.range n).map f) = true :=by
 unfold zoneEs
 rw [List.all_eq_true]
 intro e he
 obtain ⟨k,_,rfl⟩ :=List.mem_map.1 he
 have :=h k
 unfold zoneEs at this
 rw [List.all_eq_true] at this
 exact this _ (by simp)
theorem gG (ks : List Rat) (i : Nat) : zoneEs (restA ks i) = true :=f7 fun _ => rfl
theorem iZ (ks : List Rat) (i : Nat) : zoneEs (outA ks i) = true :=f7 fun _ => rfl
theorem rS (i : Nat) : zoneEs (ordA i) = true :=f7 fun _ => rfl
theorem CS {A B : List AV} {v : AV} {k : Nat} (h : A[k]? = some v) : nth (A ++ B) k = v :=f6 (by
 rw [List.getElem?_append_left (by rcases Nat.lt_or_ge k A.length with h2 | h2; exact h2; rw [List.getElem?_eq_none h2] at h; cases h)]; exact h)
theorem s6 {A B : List AV} {v : AV} {k : Nat} (h : A.length = k) : nth (A ++ v :: B) k = v :=f6 (by
 rw [List.getElem?_append_right (by omega),h,Nat.sub_self]; rfl)
set_option maxHeartbeats 8000000 in
set_option maxRecDepth 20000 in
theorem yT (ks : List Rat) (T : List AV) (hq : ∀ k ∈ ks,rq k) (hT : tailOk T) (hl : ks.length + T.length ≤ 100000) : Means false Tryz.prog 12 [.sl (ks.map frq ++ T)] (coinV ks T) :=by
 obtain ⟨V,hV⟩ : ∃ V,coinV ks T = V :=⟨_,rfl⟩
 have hzr : svF ks 0 = frR 0 :=if_pos (CT ks)
 have hev : ev ks 0 = 0 :=if_pos (CT ks)
 have k0 :=HC 0 (p :=0) (by decide)
 have k1 :=HC 0 (p :=4503599627370496) (by decide)
 have hmr : ((4503599627370496 : Int) : Rat) = most :=rfl
 have hz0 : (((0 : Int)) : Rat) = 0 :=rfl
 have hmq : rq most :=by
  have :=jL (p :=4503599627370496) (q :=1) (by decide) (by decide) (by decide)
  rwa [mL] at this
 rw [hz0] at k0
 rw [hmr] at k1
 obtain ⟨mr,hmr2⟩ : ∃ m,most = m :=⟨_,rfl⟩
 obtain ⟨zr,hzr2⟩ : ∃ z : Rat,0 = z :=⟨_,rfl⟩
 rw [hmr2] at k1 hmq
 rw [hzr2] at k0 hzr
 have hzq : rq zr :=hzr2 ▸ LD
 rw [hV]
 refine aF false 128 [.tmp 2,.tmp 3] Tryz.func12 rfl rfl rfl (by simp) (by decide) rfl fun X hX => ?_
 (repeat (refine a7 q15x0 hX mixed rfl ?_;simp [go_sem];try refine ⟨by kernel_rfl,?_⟩))
 by_cases hlen : ks.length + T.length = 0 ∨ 12 < ks.length + T.length
 · have e : V = .tup [.sl [],ii 1] :=by rw [← hV]; exact if_pos (.inl hlen)
   rw [e]
   refine aK (by simp [go_sem]; omega) ?_
   (repeat (refine a7 q15x0 hX mixed rfl ?_;simp [go_sem];try refine ⟨by kernel_rfl,?_⟩))
 refine aC (by simp [go_sem]; omega) ?_
 (repeat (refine a7 q15x0 hX mixed rfl ?_;simp [go_sem];try refine ⟨by kernel_rfl,?_⟩))
 first | refine aL [0] (k0) (by simp [go_sem]) ?_ | refine aJ [0] (k0) (by simp [go_sem]) ?_ | refine aI [0] (k0) (by simp [go_sem]) ?_
 try (simp [go_sem];try refine ⟨by kernel_rfl,?_⟩)
 first | refine aL [0] (k0) (by simp [go_sem]) ?_ | refine aJ [0] (k0) (by simp [go_sem]) ?_ | refine aI [0] (k0) (by simp [go_sem]) ?_
 try (simp [go_sem];try refine ⟨by kernel_rfl,?_⟩)
 first | refine aL [0] (k1) (by simp [go_sem]) ?_ | refine aJ [0] (k1) (by simp [go_sem]) ?_ | refine aI [0] (k1) (by simp [go_sem]) ?_
 try (simp [go_sem];try refine ⟨by kernel_rfl,?_⟩)
 (repeat (refine a7 q15x0 hX mixed rfl ?_;simp [go_sem];try refine ⟨by kernel_rfl,?_⟩))
 refine aH (fun i : Nat => ⟨mkE [(0,.sl (ks.map frq ++ T)),(4,.el 0 1 0 0),(5,.el 1 4 0 0),(6,.el 2 4 0 0),(7,.el 3 4 0 0),(8,.ow 6),(9,.ow 7),(10,.el 4 1 0 0),(35,.sl (ks.map frq ++ T)),(36,ii (ks.length + T.length : Nat)),(37,ii i)],[calC (ev ks i),.row ⟨41,4,[fv (svF ks i)]⟩,.row ⟨41,4,[frq zr]⟩,.row ⟨41,4,[frq mr]⟩,.row ⟨24,1,[.ow 5]⟩,.row ⟨41,4,restA ks i⟩,.row ⟨3,1,outA ks i⟩,.row ⟨3,1,ordA i⟩]⟩) (fun i => i ≤ ks.length ∧ okTo ks i) (fun i => ks.length + T.length - i) 0 ?_ ?_ ?_
 · rw [hzr,hev]
   refine aG _ [.old 0 ⟨56,1,[.agg [ii 0]]⟩,.old 1 ⟨41,4,[frq zr]⟩,.old 2 ⟨41,4,[frq zr]⟩,.old 3 ⟨41,4,[frq mr]⟩,.old 4 ⟨24,1,[.ow 5]⟩,.birth 41 4,.birth 3 1,.birth 3 1] (by simp [go_sem]) ?_
   simp [go_sem]
 · exact ⟨by omega,fun k hk => by omega⟩
 · rintro i ⟨hi,hp⟩
   have hn0 : ks.length + T.length ≤ 12 :=by omega
   have wi :=w64 (x :=(i : Int) + 1) (by omega) (by omega)
   (repeat (refine a7 q15x0 hX mixed rfl ?_;simp [go_sem];try refine ⟨by kernel_rfl,?_⟩))
   refine aB (b :=decide (i < ks.length + T.length)) (by simp [go_sem]; try omega) (fun hb => ?_) (fun hb => ?_)
   · simp only [decide_eq_true_eq] at hb
     by_cases hik : i < ks.length
     · have hgi : ks.getD i 0 = ks[i] :=by rw [List.getD_eq_getElem?_getD,List.getElem?_eq_getElem hik]; rfl
       have hfq : rq (ks.getD i 0) :=by rw [hgi]; exact hq _ (List.getElem_mem hik)
       have q1 : nth (ks.map frq ++ T) i = frq (ks.getD i 0) :=CS (by simp [hik])
       have hil : (i : Int) < (ks.length : Int) + (T.length : Int) :=by omega
       have r1 :=bG _ _ (dL hfq)
       have m1 :=eX hfq hzq
       have m2 :=eX hfq hmq
       have z1 :=tS (ks.getD i 0) zr
       have z2 :=mQ (ks.getD i 0) mr
       have hmem : ks.getD i 0 ∈ ks :=by rw [hgi]; exact List.getElem_mem hik
       obtain ⟨F0,hF0⟩ : ∃ F,svF ks i = F :=⟨_,rfl⟩
       obtain ⟨e0,he0⟩ : ∃ e,ev ks i = e :=⟨_,rfl⟩
       have k5 :=fun h => LF (ks :=ks) (i :=i) hfq h
       have hrs :=nZ ks i
       have hos :=qL ks i
       have hds :=CA i
       have hrl :=qM ks i
       have hol :=uI ks i
       have hdl :=FE i
       have hrz :=gG ks i
       have hoz :=iZ ks i
       have hdz :=rS i
       obtain ⟨f,hf⟩ : ∃ f,ks.getD i 0 = f :=⟨_,rfl⟩
       obtain ⟨RA,hRA⟩ : ∃ e,restA ks i = e :=⟨_,rfl⟩
       obtain ⟨OA,hOA⟩ : ∃ e,outA ks i = e :=⟨_,rfl⟩
       obtain ⟨DA,hDA⟩ : ∃ e,ordA i = e :=⟨_,rfl⟩
       rw [hf] at hfq q1 r1 m1 m2 z1 z2 hmem hrs hos k5
       rw [hF0,he0] at k5 ⊢
       rw [hRA] at hrs hrl hrz ⊢
       rw [hOA] at hos hoz hol ⊢
       rw [hDA] at hds hdz hdl ⊢
       (repeat (refine a7 q15x0 hX mixed rfl ?_;simp [go_sem,hil,q1];try refine ⟨by kernel_rfl,?_⟩))
       first | refine a8 (r1) ?_ | refine aA (r1) ?_
       try (simp [go_sem,hil,q1];try refine ⟨by kernel_rfl,?_⟩)
       first | refine aP (fun hg => m1) ?_ | refine aM (fun hg => m1) ?_
       try (simp [go_sem,hil,q1];try refine ⟨by kernel_rfl,?_⟩)
       first | refine aP (fun hg => m2) ?_ | refine aM (fun hg => m2) ?_
       try (simp [go_sem,hil,q1];try refine ⟨by kernel_rfl,?_⟩)
       refine aB (b :=decide (f < zr ∨ mr < f)) (by simp [go_sem,z1,z2]; try grind) (fun hd => ?_) (fun hd => ?_)
       · simp only [decide_eq_true_eq] at hd
         have e : V = .tup [.sl [],ii 1] :=by rw [← hV]; exact if_pos (.inr (.inr ⟨f,hmem,by rw [hmr2,hzr2]; exact hd⟩))
         rw [e]
         (repeat (refine a7 q15x0 hX mixed rfl ?_;simp [go_sem];try refine ⟨by kernel_rfl,?_⟩))
       · simp only [decide_eq_false_iff_not,not_or] at hd
         have hf0 : 0 ≤ f :=by rw [hzr2]; exact Rat.not_lt.1 hd.1
         have hfm : f ≤ most :=by rw [hmr2]; exact Rat.not_lt.1 hd.2
         obtain ⟨b1,b2⟩ :=qK (B :=4503599627370496) hf0 hfm
         have c1 :=AC f.num f.den (dL hfq)
         have c2 :=IC (z :=fl f) (by omega)
         have k3 :=HC e0 (p :=fl f) (by omega)
         have k4 :=LE e0 hfq hf0 b2
         have k5 :=k5 hf0
         obtain ⟨F1,hF1⟩ : ∃ F,svF ks (i + 1) = F :=⟨_,rfl⟩
         obtain ⟨e1,he1⟩ : ∃ e,ev ks (i + 1) = e :=⟨_,rfl⟩
         rw [hF1,he1] at k5
         have hrn : nth (RA ++ [frq (rs f)]) i = frq (rs f) :=s6 hrl
         have hri : (i : Int) < (RA.length : Int) + 1 :=by omega
         have hri2 : i < RA.length + 1 :=by omega
         (repeat (refine a7 q15x0 hX mixed rfl ?_;simp [go_sem,hil,q1];try refine ⟨by kernel_rfl,?_⟩))
         first | refine a8 (c1) ?_ | refine aA (c1) ?_
         try (simp [go_sem];try refine ⟨by kernel_rfl,?_⟩)
         first | refine a8 (c2) ?_ | refine aA (c2) ?_
         try (simp [go_sem];try refine ⟨by kernel_rfl,?_⟩)
         (repeat (refine a7 q15x0 hX mixed rfl ?_;simp [go_sem];try refine ⟨by kernel_rfl,?_⟩))
         (repeat refine And.intro (by first | omega | (unfold maxLen;omega) | kernel_rfl | (constructor <;> first | omega | (unfold maxLen;omega)) | grind) ?_)
         (repeat (refine a7 q15x0 hX mixed rfl ?_;simp [go_sem,hil,q1];try refine ⟨by kernel_rfl,?_⟩))
         first | refine aL [0] (k3) (by simp [go_sem]) ?_ | refine aJ [0] (k3) (by simp [go_sem]) ?_ | refine aI [0] (k3) (by simp [go_sem]) ?_
         try (simp [go_sem];try refine ⟨by kernel_rfl,?_⟩)
         first | refine aL [0] (k4) (by simp [go_sem]) ?_ | refine aJ [0] (k4) (by simp [go_sem]) ?_ | refine aI [0] (k4) (by simp [go_sem]) ?_
         try (simp [go_sem];try refine ⟨by kernel_rfl,?_⟩)
         (repeat refine And.intro (by first | omega | (unfold maxLen;omega) | kernel_rfl | (constructor <;> first | omega | (unfold maxLen;omega)) | grind) ?_)
         (repeat (refine a7 q15x0 hX mixed rfl ?_;simp [go_sem,hrn,hri,hri2];try refine ⟨by kernel_rfl,?_⟩))
         first | refine aL [0] (k5) (by simp [go_sem]) ?_ | refine aJ [0] (k5) (by simp [go_sem]) ?_ | refine aI [0] (k5) (by simp [go_sem]) ?_
         try (simp [go_sem];try refine ⟨by kernel_rfl,?_⟩)
         (repeat refine And.intro (by first | omega | (unfold maxLen;omega) | kernel_rfl | (constructor <;> first | omega | (unfold maxLen;omega)) | grind) ?_)
         (repeat (refine a7 q15x0 hX mixed rfl ?_;simp [go_sem,wi];try refine ⟨by kernel_rfl,?_⟩))
         refine ⟨i + 1,⟨by omega,qJ hp hf hf0 hfm⟩,by omega,?_⟩
         · rw [hF1,he1,hrs,hos,hds]
           refine aG _ [.old 0 ⟨56,1,[.agg [ii e1]]⟩,.old 1 ⟨41,4,[fv F1]⟩,.old 2 ⟨41,4,[frq zr]⟩,.old 3 ⟨41,4,[frq mr]⟩,.old 4 ⟨24,1,[.ow 5]⟩,.old 14 ⟨41,4,RA ++ [frq (rs f)]⟩,.old 10 ⟨3,1,OA ++ [ii (fl f)]⟩,.old 12 ⟨3,1,DA ++ [ii (i : Int)]⟩] (by simp [go_sem,hrz,hoz,hdz]) ?_
           simp [go_sem]
     · have hin : i = ks.length :=by omega
       rcases hT with rfl | ⟨x,T',rfl,hx⟩
       · simp at hb; omega
       · have q1 : nth (ks.map frq ++ fv x :: T') i = fv x :=s6 (by simp [hin])
         have hil : (i : Int) < (ks.length : Int) + ((T'.length : Int) + 1) :=by simp at hb; omega
         have e : V = .tup [.sl [],ii 1] :=by rw [← hV]; exact if_pos (.inr (.inl (by simp)))
         (repeat (refine a7 q15x0 hX mixed rfl ?_;simp [go_sem,hil,q1];try refine ⟨by kernel_rfl,?_⟩))
         first | refine a8 (hx) ?_ | refine aA (hx) ?_
         try (simp [go_sem,hil,q1];try refine ⟨by kernel_rfl,?_⟩)
         try first | refine cR rfl ?_ | refine cJ rfl ?_
         try (simp [go_sem,hil,q1];try refine ⟨by kernel_rfl,?_⟩)
         try first | refine cR rfl ?_ | refine cJ rfl ?_
         try (simp [go_sem,hil,q1];try refine ⟨by kernel_rfl,?_⟩)
         refine aK (by simp [go_sem]) ?_
         rw [e]
         (repeat (refine a7 q15x0 hX mixed rfl ?_;simp [go_sem];try refine ⟨by kernel_rfl,?_⟩))
   · simp only [decide_eq_false_iff_not] at hb
     have hin : i = ks.length :=by omega
     have hT0 : T = [] :=List.eq_nil_of_length_eq_zero (by omega)
     subst hin hT0
     have hcB : ¬ ((ks.length + ([] : List AV).length = 0 ∨ 12 < ks.length + ([] : List AV).length) ∨ cArg ks []) :=fun h => by
      rcases h with h | h | ⟨k,hk,h⟩
      · exact hlen h
      · exact h rfl
      · obtain ⟨j,hj,rfl⟩ :=List.getElem_of_mem hk
        have :=hp j hj
        rw [List.getD_eq_getElem?_getD,List.getElem?_eq_getElem hj] at this
        have h1 : 0 ≤ ks[j] :=this.1
        have h2 : ks[j] ≤ most :=this.2
        rcases h with h | h
        · exact absurd h (Rat.not_lt.2 h1)
        · exact absurd h (Rat.not_lt.2 h2)
     by_cases hs : okS ks ks.length
     · have e1 : svF ks ks.length = frR (rsum ks ks.length) :=if_pos hs
       have e2 : ev ks ks.length = 0 :=if_pos hs
       have hsq :=mR hs
       obtain ⟨b1,b2⟩ :=s7 ks ks.length
       obtain ⟨b3,b4⟩ :=qK (B :=(ks.length : Int)) b1 b2
       have hV2 : V = if rsum ks ks.length = ((fl (rsum ks ks.length) : Int) : Rat) then .tup [il (coinL ks),ii 0] else .tup [.sl [],ii 1] :=by
        rw [← hV]; unfold coinV; rw [if_neg hcB,if_pos hs]
       have hcl : coinL ks = bumps (ks.map fl) ((srt (B.kf (ks.map rs)) (idxI ks.length)).take (fl (rsum ks ks.length)).toNat) :=rfl
       have c1 :=AC (rsum ks ks.length).num (rsum ks ks.length).den (dL hsq)
       have c2 :=IC (z :=fl (rsum ks ks.length)) (by omega)
       have k3 :=HC 0 (p :=fl (rsum ks ks.length)) (by omega)
       have hlq : rq ((fl (rsum ks ks.length) : Int) : Rat) :=by
        have :=jL (p :=fl (rsum ks ks.length)) (q :=1) (by omega) (by decide) (by decide)
        rwa [mL] at this
       have m1 :=eX hsq hlq
       have z1 :=tT (rsum ks ks.length) ((fl (rsum ks ks.length) : Int) : Rat)
       have hrz :=gG ks ks.length
       have hoz :=iZ ks ks.length
       have hdz :=rS ks.length
       have hrf : restA ks ks.length = (ks.map rs).map frq :=o5 ks
       have hof :=qN ks
       have hdf :=CB ks.length
       have hfq : ∀ v ∈ ks.map fl,0 ≤ v ∧ v ≤ 4503599627370496 :=fun v hv => by
        obtain ⟨k,hk,rfl⟩ :=List.mem_map.1 hv
        obtain ⟨j,hj,rfl⟩ :=List.getElem_of_mem hk
        have :=hp j hj
        rw [List.getD_eq_getElem?_getD,List.getElem?_eq_getElem hj] at this
        exact qK this.1 this.2
       have hrl : (ks.map rs).length = ks.length :=by simp
       have hS :=B.sortS_m (idxI ks.length) (ks.map rs) (gH _) (fun i j hi hj hij => FF _ i j hi hj hij) (fun x hx => by rw [hrl]; exact gY.1 hx) (by rw [kB]; omega) (by rw [hrl]; omega) (fun r hr => by
        obtain ⟨k,hk,rfl⟩ :=List.mem_map.1 hr
        obtain ⟨j,hj,rfl⟩ :=List.getElem_of_mem hk
        have :=hp j hj
        rw [List.getD_eq_getElem?_getD,List.getElem?_eq_getElem hj] at this
        exact yR (hq _ hk) this.1)
       obtain ⟨O,hO⟩ : ∃ O,srt (B.kf (ks.map rs)) (idxI ks.length) = O :=⟨_,rfl⟩
       rw [hO] at hS hcl
       have hOl : O.length = ks.length :=by rw [← hO,s8,kB]
       have hOm : ∀ x ∈ O,0 ≤ x ∧ x < ks.length :=fun x hx => by
        rw [← hO] at hx
        exact gY.1 ((eY _ _).mem_iff.1 hx)
       have hQl : (ks.map fl).length = ks.length :=by simp
       obtain ⟨m,hm⟩ : ∃ m : Nat,(m : Int) = fl (rsum ks ks.length) :=⟨(fl (rsum ks ks.length)).toNat,by omega⟩
       have hmt : (fl (rsum ks ks.length)).toNat = m :=by omega
       rw [hmt] at hcl
       rw [← hm] at c2 k3 m1 z1 hV2 b3 b4
       have c1 : Means false Tryz.prog 24 [frq (rsum ks ks.length)] (bigZ (m : Int)) :=by rw [hm]; exact c1
       rw [e1,e2,hrf,hof,hdf]
       rw [hrf] at hrz
       rw [hof] at hoz
       rw [hdf] at hdz
       generalize ks.map rs = R at *
       generalize ks.map fl = Q at *
       generalize idxI ks.length = I at *
       generalize rsum ks ks.length = su at *
       (repeat (refine a7 q15x0 hX mixed rfl ?_;simp [go_sem];try refine ⟨by kernel_rfl,?_⟩))
       refine aC (by simp [go_sem]) ?_
       (repeat (refine a7 q15x0 hX mixed rfl ?_;simp [go_sem];try refine ⟨by kernel_rfl,?_⟩))
       first | refine a8 (c1) ?_ | refine aA (c1) ?_
       try (simp [go_sem];try refine ⟨by kernel_rfl,?_⟩)
       first | refine a8 (c2) ?_ | refine aA (c2) ?_
       try (simp [go_sem];try refine ⟨by kernel_rfl,?_⟩)
       (repeat (refine a7 q15x0 hX mixed rfl ?_;simp [go_sem];try refine ⟨by kernel_rfl,?_⟩))
       first | refine aL [0] (k3) (by simp [go_sem]) ?_ | refine aJ [0] (k3) (by simp [go_sem]) ?_ | refine aI [0] (k3) (by simp [go_sem]) ?_
       try (simp [go_sem];try refine ⟨by kernel_rfl,?_⟩)
       (repeat (refine a7 q15x0 hX mixed rfl ?_;simp [go_sem];try refine ⟨by kernel_rfl,?_⟩))
       first | refine a8 (m1) ?_ | refine aA (m1) ?_
       try (simp [go_sem];try refine ⟨by kernel_rfl,?_⟩)
       refine aB (b :=!decide (su = (((m : Nat) : Int) : Rat))) (by simp [go_sem,z1,bne]; try grind) (fun hd => ?_) (fun hd => ?_)
       · have e : V = .tup [.sl [],ii 1] :=by rw [hV2]; exact if_neg (by simpa using hd)
         rw [e]
         (repeat (refine a7 q15x0 hX mixed rfl ?_;simp [go_sem];try refine ⟨by kernel_rfl,?_⟩))
       simp only [Bool.not_eq_false',decide_eq_true_eq] at hd
       have e : V = .tup [il (coinL ks),ii 0] :=by rw [hV2]; exact if_pos hd
       refine eO (aG [(8,.ow 2),(9,.ow 1),(10,.el 0 1 0 0),(15,ii (m : Int))] [.old 4 ⟨24,1,[.sl (R.map frq)]⟩,.old 7 ⟨3,1,I.map ii⟩,.old 6 ⟨3,1,Q.map ii⟩] (by simp [go_sem,hrz]) (by simp [go_sem])) ?_
       simp only [List.map_cons,List.map_nil,Src.cell]
       have hmO : m ≤ O.length :=by omega
       have hmO2 : (m : Int) ≤ (O.length : Int) :=by omega
       (repeat (refine a7 q15x0 hX mixed rfl ?_;simp [go_sem];try refine ⟨by kernel_rfl,?_⟩))
       first | refine aL [1,0] (hS) (by simp [go_sem]) ?_ | refine aJ [1,0] (hS) (by simp [go_sem]) ?_ | refine aI [1,0] (hS) (by simp [go_sem]) ?_
       try (simp [go_sem];try refine ⟨by kernel_rfl,?_⟩)
       (repeat (refine a7 q15x0 hX mixed rfl ?_;simp [go_sem,hmO,hmO2];try refine ⟨by kernel_rfl,?_⟩))
       refine aH (fun j : Nat => ⟨mkE [(8,.ow 0),(114,.wn 1 1 0 m),(115,ii m),(116,ii j)],[rowI (bumps Q (O.take j)),rowI O]⟩) (fun j => j ≤ m) (fun j => m - j) 0 ?_ ?_ ?_
       · refine aG _ [.old 2 ⟨3,1,Q.map ii⟩,.old 1 ⟨3,1,O.map ii⟩] (by simp [go_sem,bumps]) ?_
         simp [go_sem,bumps]
       · omega
       · intro j hj
         have hbl :=j0 (O.take j) Q
         (repeat (refine a7 q15x0 hX mixed rfl ?_;simp [go_sem];try refine ⟨by kernel_rfl,?_⟩))
         refine aB (b :=decide (j < m)) (by simp [go_sem]) (fun hc => ?_) (fun hc => ?_)
         · simp at hc
           have hjO : j < O.length :=by omega
           have hx :=hOm O[j] (List.getElem_mem hjO)
           have hbs :=o6 (L :=Q) hjO
           obtain ⟨p,hp⟩ : ∃ p : Nat,O[j] = (p : Int) :=⟨O[j].toNat,by omega⟩
           obtain ⟨B,hB⟩ : ∃ B,bumps Q (O.take j) = B :=⟨_,rfl⟩
           rw [hp] at hx hbs
           have hbd :=o7 (O.take j) hfq
           rw [hB] at hbl hbs hbd ⊢
           have hpB : p < B.length :=by omega
           have hbd : 0 ≤ B[p] ∧ B[p] ≤ 4503599627370496 + 12 :=by
            have :=hbd B[p] (List.getElem_mem _)
            rw [List.length_take] at this
            omega
           have hbe : bump B (p : Int) = B.set p (B[p] + 1) :=by
            unfold bump
            rw [Int.toNat_natCast,List.getD_eq_getElem?_getD,List.getElem?_eq_getElem hpB]; rfl
           (repeat (refine a7 q15x0 hX mixed rfl ?_;simp [go_sem,hc,hjO,hp,hpB]; (try simp (disch :=omega) only [w64,td,tm]);try refine ⟨by kernel_rfl,?_⟩))
           (repeat refine And.intro (by first | omega | (unfold maxLen;omega) | kernel_rfl | (constructor <;> first | omega | (unfold maxLen;omega)) | grind) ?_)
           (repeat (refine a7 q15x0 hX mixed rfl ?_;simp [go_sem,hc,hjO,hp,hpB]; (try simp (disch :=omega) only [w64,td,tm]);try refine ⟨by kernel_rfl,?_⟩))
           refine ⟨j + 1,by omega,by omega,?_⟩
           rw [hbs,hbe]
           refine aG _ [.old 0 ⟨3,1,(B.set p (B[p] + 1)).map ii⟩,.old 1 ⟨3,1,O.map ii⟩] (by simp [go_sem]) ?_
           simp [go_sem]
           try omega
         · have : j = m :=by simp at hc; omega
           subst this
           (repeat (refine a7 q15x0 hX mixed rfl ?_;simp [go_sem];try refine ⟨by kernel_rfl,?_⟩))
           rw [e,hcl]
           (repeat (refine a7 q15x0 hX mixed rfl ?_;simp [go_sem];try refine ⟨by kernel_rfl,?_⟩))
     · have e2 : ev ks ks.length = 6 :=if_neg hs
       have e : V = .tup [.sl [],ii 6] :=by
        rw [← hV]; unfold coinV
        rw [if_neg (hcB),if_neg hs]
       rw [e2,e]
       (repeat (refine a7 q15x0 hX mixed rfl ?_;simp [go_sem];try refine ⟨by kernel_rfl,?_⟩))
       refine aK (by simp [go_sem]) ?_
       (repeat (refine a7 q15x0 hX mixed rfl ?_;simp [go_sem];try refine ⟨by kernel_rfl,?_⟩))
end Go.Proofs.YthibhamepjhfjaaGreatDoor

namespace Go.Proofs.YthibhamepjhfjaaGreatDoor
open Go.RowKit Go.Ab
attribute [local irreducible] AWP Go.Ab.Sub Means MeansH MeansX CallK CallG CallT CallGT CallU
def allQ (own : List Int) (S : List (List Int)) : List Rat :=(List.range own.length).map (allX own S)
def keptQ (own : List Int) (S : List (List Int)) : List Rat :=(List.range own.length).map (keptX own S)
theorem CX (own : List Int) (S : List (List Int)) : (allQ own S).length = own.length :=by simp [allQ]
theorem B2 (own : List Int) (S : List (List Int)) : (keptQ own S).length = own.length :=by simp [keptQ]
theorem AF {own : List Int} {S : List (List Int)} {k : Nat} (h : k < own.length) : (allQ own S).getD k 0 = allX own S k :=by
 simp [allQ,List.getD_eq_getElem?_getD,h]
theorem FG {own : List Int} {S : List (List Int)} {k : Nat} (h : k < own.length) : (keptQ own S).getD k 0 = keptX own S k :=by
 simp [keptQ,List.getD_eq_getElem?_getD,h]
variable {own : List Int} {S : List (List Int)}
abbrev partR (S : List (List Int)) (k : Nat) : Rat :=((1000 - sumI (S.getD k []) : Int) : Rat) / ((1000 : Int) : Rat)
theorem HD (h : PV own S) {i : Nat} (hi : i < own.length) : 0 < 1000 - sumI (S.getD i []) ∧ 1000 - sumI (S.getD i []) ≤ 1000 :=by
 have hS : i < S.length :=by rw [h.len]; exact hi
 have hg : S.getD i [] = S[i] :=by rw [List.getD_eq_getElem?_getD,List.getElem?_eq_getElem hS]; rfl
 have hpr :=dN h.toPR (List.getElem_mem hS)
 have hsb :=eP S[i] S[i].length hpr.2
 rw [List.take_length] at hsb
 have hlt :=h.lt S[i] (List.getElem_mem hS)
 rw [hg]; omega
theorem AG (h : PV own S) {i : Nat} (hi : i < own.length) : bt 10 (partR S i).num ∧ bt 10 (partR S i).den :=by
 have :=HD h hi
 exact F4 (by decide) (jE (by omega)) (jE (by decide))
theorem DP (h : PV own S) (h6 : own.length ≤ 6) {k : Nat} (hk : k < own.length) : okMul (allX own S k) (partR S k) :=by
 obtain ⟨h1,h2⟩ :=yK h h6 hk
 obtain ⟨h3,h4⟩ :=AG h hk
 exact f0 h1 h2 h3 h4 (by omega) (by omega)
theorem HE (h : PV own S) (h6 : own.length ≤ 6) {k : Nat} (hk : k < own.length) : bt 320 (keptX own S k).num ∧ bt 80 (keptX own S k).den :=by
 obtain ⟨h1,h2⟩ :=yK h h6 hk
 obtain ⟨h3,h4⟩ :=AG h hk
 exact yL h1 h2 h3 h4
theorem FH (h : PV own S) (h6 : own.length ≤ 6) : Fit (poolM own S) own.length :=IT (pS h) (EU h.toPR) (.inl h6)
theorem kD {k m : Nat} {r : Rat} (h : bt k r.num ∧ bt m r.den) (hk : k ≤ 1199) (hm : m ≤ 1199) : rq r :=hI h.1 h.2 hk hm
theorem gZ (h : PV own S) (h6 : own.length ≤ 6) : ∀ x ∈ allQ own S,bt 310 x.num ∧ bt 70 x.den :=fun x hx => by
 obtain ⟨k,hk,rfl⟩ :=List.mem_map.1 hx
 exact yK h h6 (by simpa using hk)
theorem j1 (h : PV own S) (h6 : own.length ≤ 6) : ∀ x ∈ keptQ own S,bt 320 x.num ∧ bt 80 x.den :=fun x hx => by
 obtain ⟨k,hk,rfl⟩ :=List.mem_map.1 hx
 exact HE h h6 (by simpa using hk)
theorem mU (h : PV own S) (h6 : own.length ≤ 6) : Means false Tryz.prog 10 [il own,ill S] (.tup [fql (allQ own S),fql (keptQ own S),ii 0]) :=by
 have :=H5 own S h (FH h h6) fun k hk => DP h h6 hk
 have e1 : (allQ own S).map frq = allL own S :=by unfold allQ; rw [List.map_map]; rfl
 have e2 : (keptQ own S).map frq = keptL own S :=by unfold keptQ; rw [List.map_map]; rfl
 unfold fql
 rw [e1,e2]; exact this
theorem qO (own : List Int) (S : List (List Int)) (hl : own.length ≤ 9223372036854775807) (hS : S.length ≤ 9223372036854775807) (hr : ∀ l ∈ S,l.length ≤ 9223372036854775807) (hb : badP own S ≠ 0) : Means false Tryz.prog 10 [il own,ill S] (.tup [.sl [],.sl [],ii (badP own S)]) :=by
 have c1 :=fE own S hl hS hr
 generalize badP own S = e at *
 refine aF false 60 [.tmp 4,.tmp 5,.tmp 6] Tryz.func10 rfl rfl rfl (by simp) (by decide) rfl fun X hX => ?_
 (repeat (refine a7 q15x2 hX mixed rfl ?_;simp [go_sem];try refine ⟨by kernel_rfl,?_⟩))
 first | refine a8 (c1) ?_ | refine aA (c1) ?_
 try (simp [go_sem];try refine ⟨by kernel_rfl,?_⟩)
 (repeat (refine a7 q15x2 hX mixed rfl ?_;simp [go_sem];try refine ⟨by kernel_rfl,?_⟩))
 refine aK (by simp [go_sem,hb]) ?_
 (repeat (refine a7 q15x2 hX mixed rfl ?_;simp [go_sem];try refine ⟨by kernel_rfl,?_⟩))
theorem CC (h : PV own S) : chkQ own S (allQ own S) (keptQ own S) :=fun i hi => by
 rw [AF hi,FG hi]
 refine ⟨?_,rfl⟩
 rw [EV h hi]
 unfold psum
 congr 1
 exact b8 fun t ht => by rw [AF ht]; rfl
theorem ID {r : Rat} {m : Nat} (h0 : 0 ≤ r) (hm : bt m r.den) : bt m (rs r).num ∧ bt m (rs r).den :=by
 have hd : 0 < (r.den : Int) :=by have :=r.den_pos; omega
 have e : rs r * ((r.den : Int) : Rat) = ((r.num % (r.den : Int) : Int) : Rat) :=by
  have h1 : (r.num % (r.den : Int) : Int) = r.num - fl r * (r.den : Int) :=by unfold fl; rw [Int.emod_def,Int.mul_comm]
  rw [h1,Rat.intCast_sub,Rat.intCast_mul,cQ r]
  unfold rs; grind
 refine tU (by omega) e ?_ hm
 have h1 :=Int.emod_nonneg r.num (show (r.den : Int) ≠ 0 by omega)
 have h2 :=Int.emod_lt_of_pos r.num hd
 unfold bt at *
 omega
theorem AH {ks : List Rat} {m : Nat} (h : ∀ k ∈ ks,0 ≤ k ∧ bt m k.den) : ∀ i,i ≤ ks.length → bt ((m + 1) * i) (rsum ks i).num ∧ bt (m * i) (rsum ks i).den
 | 0,_ => ⟨by show bt _ ((0 : Rat)).num; unfold bt; simp,by show bt _ ((((0 : Rat)).den : Nat) : Int); unfold bt; simp⟩
 | i + 1,hi => by
   obtain ⟨h1,h2⟩ :=AH h i (by omega)
   have hg : ks.getD i 0 = ks[i] :=by rw [List.getD_eq_getElem?_getD,List.getElem?_eq_getElem (by omega)]; rfl
   obtain ⟨h3,h4⟩ :=h ks[i] (List.getElem_mem _)
   obtain ⟨h5,h6⟩ :=ID h3 h4
   rw [fW,hg]
   have :=F3 (c :=(m + 1) * i + m) h1 h2 h5 h6 (by omega) (by rw [Nat.add_mul]; omega)
   refine ⟨?_,?_⟩
   · have e : (m + 1) * i + m + 1 = (m + 1) * (i + 1) :=by rw [Nat.mul_add]; omega
     rw [← e]; exact this.1
   · rw [Nat.mul_add,Nat.mul_one]; exact this.2
theorem LG {ks : List Rat} (h : ∀ k ∈ ks,0 ≤ k ∧ bt 80 k.den) (hl : ks.length ≤ 7) : okS ks ks.length :=fun j hj => by
 obtain ⟨h1,h2⟩ :=AH h j (by omega)
 have hg : ks.getD j 0 = ks[j] :=by rw [List.getD_eq_getElem?_getD,List.getElem?_eq_getElem (by omega)]; rfl
 obtain ⟨h3,h4⟩ :=h ks[j] (List.getElem_mem _)
 obtain ⟨h5,h6⟩ :=ID h3 h4
 rw [hg]
 exact oC h1 h2 h5 h6 (by omega) (by omega) (by omega)
theorem AI {ks : List Rat} (h : ∀ k ∈ ks,(0 ≤ k ∧ k ≤ most) ∧ bt 320 k.num ∧ bt 80 k.den) (h0 : 0 < ks.length) (hl : ks.length ≤ 7) (hs : rsum ks ks.length = ((fl (rsum ks ks.length) : Int) : Rat)) : Means false Tryz.prog 12 [fql ks] (.tup [il (coinL ks),ii 0]) :=by
 have hc :=yT ks [] (fun k hk => kD (h k hk).2 (by omega) (by omega)) (.inl rfl) (by simp; omega)
 rw [List.append_nil] at hc
 have e : coinV ks [] = .tup [il (coinL ks),ii 0] :=by
  unfold coinV
  rw [if_neg,if_pos (LG (fun k hk => ⟨(h k hk).1.1,(h k hk).2.2⟩) hl),if_pos hs]
  rintro (h1 | h1 | ⟨k,hk,h1 | h1⟩)
  · simp only [List.length_nil] at h1; omega
  · exact h1 rfl
  · exact absurd h1 (Rat.not_lt.2 (h k hk).1.1)
  · exact absurd h1 (Rat.not_lt.2 (h k hk).1.2)
 rwa [e] at hc
end Go.Proofs.YthibhamepjhfjaaGreatDoor

namespace Go.Proofs.YthibhamepjhfjaaGreatDoor
open Go.RowKit Go.Ab
theorem l5 (f g : Nat → Rat) (n : Nat) : sumR (fun k => f k + g k) n = sumR f n + sumR g n :=by
 have :=cS f g 1 1 n
 have e : (fun k => f k + g k) = fun k => 1 * f k + 1 * g k :=by funext k; grind
 rw [e,this]; grind
theorem l6 (f : Nat → Rat) (c : Rat) (n : Nat) : sumR (fun k => c * f k) n = c * sumR f n :=by
 have :=cS f (fun _ => 0) c 0 n
 have e : (fun k => c * f k) = fun k => c * f k + 0 * 0 :=by funext k; grind
 rw [e,this]; grind
variable {own : List Int} {S : List (List Int)}
theorem rT {f : Nat → Rat} : ∀ {n : Nat} {k : Nat},k < n → (∀ j,j < n → 0 ≤ f j) → f k ≤ sumR f n
 | n + 1,k,hk,h => by
   simp only [sumR]
   by_cases e : k = n
   · subst e
     have :=i6 (f :=f) (n :=k) fun j hj => h j (by omega)
     grind
   · have :=rT (f :=f) (n :=n) (k :=k) (by omega) fun j hj => h j (by omega)
     have :=h n (by omega)
     grind
end Go.Proofs.YthibhamepjhfjaaGreatDoor

namespace Go.Proofs.YthibhamepjhfjaaGreatDoor
open Go.RowKit Go.Ab
variable {own : List Int} {S : List (List Int)}
theorem K4 (h : PV own S) {k : Nat} (hk : k < own.length) : sumR (fun j => ((sO S k j : Int) : Rat)) own.length < 1000 :=by
 obtain ⟨l,hl,_,hs⟩ :=zU h.toPR hk
 rw [hs]
 have :=h.lt l hl
 have : ((sumI l : Int) : Rat) < ((1000 : Int) : Rat) :=Rat.intCast_lt_intCast.2 this
 exact this
end Go.Proofs.YthibhamepjhfjaaGreatDoor

