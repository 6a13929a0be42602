/-
  Lemmas for the statement at the top.
-/
import Derived.Test.YtknbcehhjffndaaGreatYeP13
import Derived.Test.YtknbcehhjffndaaGreatYeP11
import Derived.Test.YtknbcehhjffndaaGreatYeP12
set_option linter.all false
namespace Go.Ab
def q10x0 : List Nat :=[0,1,4,5,6,7,8,9,10,11,12,14,15,22,25,33,43,52,53,54,55,67]
def q10x1 : List Nat :=[0,2,3,4,5,6,8,10,11,12,13,14,19,20,21,22,30,79]
def q10x2 : List Nat :=[0,2,3,4,5,7,8,11,12,15,16,17,18,19,45]
def q10x3 : List Nat :=[0,1,2,3,4,6,8,9,10,11,25]
def q10x4 : List Nat :=[0,1,4,5,6,8,9,10,11,12,20]
def q10x5 : List Nat :=[0,1,4,5,7,8,9,10,11]
def q10x6 : List Nat :=[0,1,4,5,9,23]
attribute [go_sem] q10x0 q10x1 q10x2 q10x3 q10x4 q10x5 q10x6
end Go.Ab
namespace Go.Proofs.YtknbcehhjffndaaGreat
open Go.RowKit Go.Ab
attribute [local irreducible] AWP Go.Ab.Sub Means MeansH MeansX CallK CallG CallT CallGT CallU
def allQ (own : List Int) (S : List (List Int)) : List Rat :=(List.range own.length).map (allX own S)
def keptQ (own : List Int) (S : List (List Int)) : List Rat :=(List.range own.length).map (keptX own S)
theorem jS (own : List Int) (S : List (List Int)) : (keptQ own S).length = own.length :=by simp [keptQ]
theorem wK {own : List Int} {S : List (List Int)} {k : Nat} (h : k < own.length) : (keptQ own S).getD k 0 = keptX own S k :=by
 simp [keptQ,List.getD_eq_getElem?_getD,h]
variable {own : List Int} {S : List (List Int)}
abbrev partR (S : List (List Int)) (k : Nat) : Rat :=((1000 - sumI (S.getD k []) : Int) : Rat) / ((1000 : Int) : Rat)
theorem AE (h : PV own S) {i : Nat} (hi : i < own.length) : 0 < 1000 - sumI (S.getD i []) ∧ 1000 - sumI (S.getD i []) ≤ 1000 :=by
 have hS : i < S.length :=by rw [h.len]; exact hi
 have hg : S.getD i [] = S[i] :=by rw [List.getD_eq_getElem?_getD,List.getElem?_eq_getElem hS]; rfl
 have hpr :=iU h.toPR (List.getElem_mem hS)
 have hsb :=fQ S[i] S[i].length hpr.2
 rw [List.take_length] at hsb
 have hlt :=h.lt S[i] (List.getElem_mem hS)
 rw [hg]; omega
theorem AF (h : PV own S) {i : Nat} (hi : i < own.length) : bt 10 (partR S i).num ∧ bt 10 (partR S i).den :=by
 have :=AE h hi
 exact MJ (by decide) (AG (by omega)) (AG (by decide))
theorem EK (h : PV own S) (h6 : own.length ≤ 6) {k : Nat} (hk : k < own.length) : okMul (allX own S k) (partR S k) :=by
 obtain ⟨h1,h2⟩ :=EL h h6 hk
 obtain ⟨h3,h4⟩ :=AF h hk
 exact iP h1 h2 h3 h4 (by omega) (by omega)
theorem HG (h : PV own S) (h6 : own.length ≤ 6) {k : Nat} (hk : k < own.length) : bt 320 (keptX own S k).num ∧ bt 80 (keptX own S k).den :=by
 obtain ⟨h1,h2⟩ :=EL h h6 hk
 obtain ⟨h3,h4⟩ :=AF h hk
 exact EM h1 h2 h3 h4
theorem EN (h : PV own S) (h6 : own.length ≤ 6) : Fit (poolM own S) own.length :=KG (l5 h) (EO h.toPR) (.inl h6)
theorem JN {k m : Nat} {r : Rat} (h : bt k r.num ∧ bt m r.den) (hk : k ≤ 1199) (hm : m ≤ 1199) : rq r :=A4 h.1 h.2 hk hm
theorem rT (h : PV own S) (h6 : own.length ≤ 6) : ∀ x ∈ keptQ own S,bt 320 x.num ∧ bt 80 x.den :=fun x hx => by
 obtain ⟨k,hk,rfl⟩ :=List.mem_map.1 hx
 exact HG h h6 (by simpa using hk)
theorem HH (h : PV own S) (h6 : own.length ≤ 6) : Means false Tryz.prog 16 [il own,ill S] (.tup [fql (allQ own S),fql (keptQ own S),ii 0]) :=by
 have :=HI own S h (EN h h6) fun k hk => EK h h6 hk
 have e1 : (allQ own S).map frq = allL own S :=by unfold allQ; rw [List.map_map]; rfl
 have e2 : (keptQ own S).map frq = keptL own S :=by unfold keptQ; rw [List.map_map]; rfl
 unfold fql
 rw [e1,e2]; exact this
theorem JO {r : Rat} {m : Nat} (h0 : 0 ≤ r) (hm : bt m r.den) : bt m (rs r).num ∧ bt m (rs r).den :=by
 have hd : 0 < (r.den : Int) :=by have :=r.den_pos; omega
 have e : rs r * ((r.den : Int) : Rat) = ((r.num % (r.den : Int) : Int) : Rat) :=by
  have h1 : (r.num % (r.den : Int) : Int) = r.num - fl r * (r.den : Int) :=by unfold fl; rw [Int.emod_def,Int.mul_comm]
  rw [h1,Rat.intCast_sub,Rat.intCast_mul,cH r]
  unfold rs; grind
 refine tY (by omega) e ?_ hm
 have h1 :=Int.emod_nonneg r.num (show (r.den : Int) ≠ 0 by omega)
 have h2 :=Int.emod_lt_of_pos r.num hd
 unfold bt at *
 omega
theorem AH {ks : List Rat} {m : Nat} (h : ∀ k ∈ ks,0 ≤ k ∧ bt m k.den) : ∀ i,i ≤ ks.length → bt ((m + 1) * i) (rsum ks i).num ∧ bt (m * i) (rsum ks i).den
 | 0,_ => ⟨by show bt _ ((0 : Rat)).num; unfold bt; simp,by show bt _ ((((0 : Rat)).den : Nat) : Int); unfold bt; simp⟩
 | i + 1,hi => by
   obtain ⟨h1,h2⟩ :=AH h i (by omega)
   have hg : ks.getD i 0 = ks[i] :=by rw [List.getD_eq_getElem?_getD,List.getElem?_eq_getElem (by omega)]; rfl
   obtain ⟨h3,h4⟩ :=h ks[i] (List.getElem_mem _)
   obtain ⟨h5,h6⟩ :=JO h3 h4
   rw [eW,hg]
   have :=KM (c :=(m + 1) * i + m) h1 h2 h5 h6 (by omega) (by rw [Nat.add_mul]; omega)
   refine ⟨?_,?_⟩
   · have e : (m + 1) * i + m + 1 = (m + 1) * (i + 1) :=by rw [Nat.mul_add]; omega
     rw [← e]; exact this.1
   · rw [Nat.mul_add,Nat.mul_one]; exact this.2
theorem JP {ks : List Rat} (h : ∀ k ∈ ks,0 ≤ k ∧ bt 80 k.den) (hl : ks.length ≤ 7) : okS ks ks.length :=fun j hj => by
 obtain ⟨h1,h2⟩ :=AH h j (by omega)
 have hg : ks.getD j 0 = ks[j] :=by rw [List.getD_eq_getElem?_getD,List.getElem?_eq_getElem (by omega)]; rfl
 obtain ⟨h3,h4⟩ :=h ks[j] (List.getElem_mem _)
 obtain ⟨h5,h6⟩ :=JO h3 h4
 rw [hg]
 exact wA h1 h2 h5 h6 (by omega) (by omega) (by omega)
theorem HJ {ks : List Rat} (h : ∀ k ∈ ks,(0 ≤ k ∧ k ≤ most) ∧ bt 320 k.num ∧ bt 80 k.den) (h0 : 0 < ks.length) (hl : ks.length ≤ 7) (hs : rsum ks ks.length = ((fl (rsum ks ks.length) : Int) : Rat)) : Means false Tryz.prog 17 [fql ks] (.tup [il (coinL ks),ii 0]) :=by
 have hc :=HK ks [] (fun k hk => JN (h k hk).2 (by omega) (by omega)) (.inl rfl) (by simp; omega)
 rw [List.append_nil] at hc
 have e : coinV ks [] = .tup [il (coinL ks),ii 0] :=by
  unfold coinV
  rw [if_neg,if_pos (JP (fun k hk => ⟨(h k hk).1.1,(h k hk).2.2⟩) hl),if_pos hs]
  rintro (h1 | h1 | ⟨k,hk,h1 | h1⟩)
  · simp only [List.length_nil] at h1; omega
  · exact h1 rfl
  · exact absurd h1 (Rat.not_lt.2 (h k hk).1.1)
  · exact absurd h1 (Rat.not_lt.2 (h k hk).1.2)
 rwa [e] at hc
end Go.Proofs.YtknbcehhjffndaaGreat

namespace Go.Proofs.YtknbcehhjffndaaGreat
open Go.RowKit Go.Ab
theorem HL {z : Int} (h : 0 ≤ z) : (0 : Rat) ≤ (z : Rat) :=show ((0 : Int) : Rat) ≤ _ from Rat.intCast_le_intCast.2 h
theorem fD (f g : Nat → Rat) (n : Nat) : sumR (fun k => f k + g k) n = sumR f n + sumR g n :=by
 have :=cN f g 1 1 n
 have e : (fun k => f k + g k) = fun k => 1 * f k + 1 * g k :=by funext k; grind
 rw [e,this]; grind
theorem fE (f : Nat → Rat) (c : Rat) (n : Nat) : sumR (fun k => c * f k) n = c * sumR f n :=by
 have :=cN f (fun _ => 0) c 0 n
 have e : (fun k => c * f k) = fun k => c * f k + 0 * 0 :=by funext k; grind
 rw [e,this]; grind
theorem rU (f : Nat → Nat → Rat) (n : Nat) : ∀ m,sumR (fun i => sumR (fun t => f i t) m) n = sumR (fun t => sumR (fun i => f i t) n) m
 | 0 => by simp only [sumR]; exact jM fun _ _ => rfl
 | m + 1 => by
   simp only [sumR]
   rw [fD,rU f n m]
variable {own : List Int} {S : List (List Int)}
theorem HM (h : PV own S) {t : Nat} (ht : t < own.length) : keptX own S t = allX own S t - sumR (fun i => allX own S t * (((sO S t i : Int) : Rat) / 1000)) own.length :=by
 obtain ⟨l,hl,hS,hs⟩ :=tZ h.toPR ht
 have hg : S.getD t [] = l :=by rw [List.getD_eq_getElem?_getD,hS]; rfl
 have e : sumR (fun i => allX own S t * (((sO S t i : Int) : Rat) / 1000)) own.length = allX own S t * (((sumI l : Int) : Rat) / 1000) :=by
  rw [← hs]
  have e2 : (fun i => allX own S t * (((sO S t i : Int) : Rat) / 1000)) = fun i => (allX own S t / 1000) * ((sO S t i : Int) : Rat) :=by funext i; grind
  rw [e2,fE]; grind
 unfold keptX
 rw [e,hg,Rat.intCast_sub]
 have : ((1000 : Int) : Rat) = 1000 :=rfl
 rw [this]; grind
theorem pF (h : PV own S) : sumR (keptX own S) own.length = ((sumI own : Int) : Rat) :=by
 have e1 : sumR (keptX own S) own.length = sumR (fun t => allX own S t + (-1) * sumR (fun i => allX own S t * (((sO S t i : Int) : Rat) / 1000)) own.length) own.length :=aR fun t ht => by rw [HM h ht]; grind
 have e2 : sumR (allX own S) own.length = sumR (fun i => ((wO own i : Int) : Rat) + sumR (fun t => allX own S t * (((sO S t i : Int) : Rat) / 1000)) own.length) own.length :=aR fun i hi => EP h hi
 rw [fD,HN,rU] at e2
 rw [e1,fD,fE,e2]; grind
theorem iW (h : PV own S) {k : Nat} (hk : k < own.length) : 0 ≤ keptX own S k :=by
 have h1 :=yN h hk
 have h2 :=AE h hk
 unfold keptX
 refine Rat.mul_nonneg h1 ?_
 have h3 : (0 : Rat) ≤ ((1000 - sumI (S.getD k []) : Int) : Rat) :=HL (by omega)
 have h4 : ((1000 : Int) : Rat) = 1000 :=rfl
 rw [h4]
 grind
theorem m6 {f : Nat → Rat} : ∀ {n : Nat} {k : Nat},k < n → (∀ j,j < n → 0 ≤ f j) → f k ≤ sumR f n
 | n + 1,k,hk,h => by
   simp only [sumR]
   by_cases e : k = n
   · subst e
     have :=iO (f :=f) (n :=k) fun j hj => h j (by omega)
     grind
   · have :=m6 (f :=f) (n :=n) (k :=k) (by omega) fun j hj => h j (by omega)
     have :=h n (by omega)
     grind
theorem AI {B : Int} (hB : 0 ≤ B) : ∀ (l : List Int),(∀ x ∈ l,0 ≤ x ∧ x ≤ B) → 0 ≤ sumI l ∧ sumI l ≤ B * l.length
 | [],_ => by simp [sumI]
 | x :: l,h => by
   have h1 :=h x (by simp)
   have h2 :=AI hB l fun y hy => h y (by simp [hy])
   simp only [sumI,List.length_cons]
   have : B * ((l.length + 1 : Nat) : Int) = B * l.length + B :=by rw [Int.natCast_add,Int.mul_add]; simp
   omega
theorem KN (h : PV own S) (h6 : own.length ≤ 6) : 0 ≤ sumI own ∧ sumI own ≤ 6597069766656 :=by
 have :=AI (B :=1099511627776) (by decide) own fun x hx => by
  obtain ⟨k,hk,rfl⟩ :=List.getElem_of_mem hx
  have :=h.w k hk
  rwa [show wO own k = own[k] from bF hk] at this
 omega
theorem rV (h : PV own S) (h6 : own.length ≤ 6) {k : Nat} (hk : k < own.length) : keptX own S k ≤ ((6597069766656 : Int) : Rat) :=by
 have h1 :=m6 (f :=keptX own S) hk fun j hj => iW h hj
 rw [pF h] at h1
 have h2 : ((sumI own : Int) : Rat) ≤ ((6597069766656 : Int) : Rat) :=Rat.intCast_le_intCast.2 (KN h h6).2
 grind
theorem yO (z : Int) : fl ((z : Int) : Rat) = z :=by
 unfold fl; rw [Rat.num_intCast,Rat.den_intCast]; simp
theorem AJ (ks : List Rat) : ∀ n,rsum ks n = sumR (fun t => ks.getD t 0) n - sumR (fun t => ((fl (ks.getD t 0) : Int) : Rat)) n
 | 0 => by show (0 : Rat) = 0 - 0; grind
 | n + 1 => by rw [eW,AJ ks n]; simp only [sumR]; unfold rs; grind
theorem EQ (ks : List Rat) : sumR (fun t => ((fl (ks.getD t 0) : Int) : Rat)) ks.length = ((sumI (ks.map fl) : Int) : Rat) :=by
 have :=gG (f :=fun t => fl (ks.getD t 0)) (l :=ks.map fl) (fun j hj => by
  rw [List.length_map] at hj
  simp [List.getD_eq_getElem?_getD,hj]) ks.length (by simp)
 rw [this,List.take_of_length_le (by simp)]
theorem wL {ks : List Rat} {Z : Int} (h : sumR (fun t => ks.getD t 0) ks.length = ((Z : Int) : Rat)) : rsum ks ks.length = ((Z - sumI (ks.map fl) : Int) : Rat) :=by
 rw [AJ,h,EQ,Rat.intCast_sub]
theorem pG (l : List Int) : sumI l = sumL l :=by
 induction l with
 | nil => rfl
 | cons x l ih => simp only [sumI,bW,ih]
theorem C2 {ks : List Rat} {m : Nat} (hs : rsum ks ks.length = (((m : Nat) : Int) : Rat)) : (coinL ks).length = ks.length ∧ sumI (coinL ks) = sumI (ks.map fl) + m ∧
  ∀ (i : Nat) (hi : i < ks.length) (hi' : i < (coinL ks).length),(coinL ks)[i] = fl ks[i] ∨ ((coinL ks)[i] = fl ks[i] + 1 ∧ 0 < rs ks[i]) :=by
 have hml : m ≤ ks.length :=by
  have :=(l6 ks ks.length).2
  rw [hs] at this
  have :=Rat.intCast_le_intCast.1 this
  omega
 have hm : (fl (rsum ks ks.length)).toNat = m :=by rw [hs,yO]; simp
 obtain ⟨O,hO⟩ : ∃ O,srt (B.kf (ks.map rs)) (idxI ks.length) = O :=⟨_,rfl⟩
 have hc : coinL ks = bumps (ks.map fl) (O.take m) :=by unfold coinL; rw [hm,hO]
 have hp : O.Perm (idxI ks.length) :=by rw [← hO]; exact dN _ _
 have hOn : O.Nodup :=hp.nodup_iff.2 (dZ _)
 have hOm : ∀ x ∈ O,0 ≤ x ∧ x < ks.length :=fun x hx => fF.1 (hp.mem_iff.1 hx)
 have hOl : O.length = ks.length :=by rw [hp.length_eq,iX]
 rw [hc]
 refine ⟨by rw [eX,List.length_map],?_,fun i hi hi' => ?_⟩
 · rw [pG,pG,rW _ _ fun x hx => by rw [List.length_map]; exact hOm x (List.mem_of_mem_take hx),List.length_take]
   omega
 · have hi2 : i < (ks.map fl).length :=by simpa using hi
   rw [wM _ _ i hi2 hi' (hOn.sublist (List.take_sublist _ _)) fun x hx => (hOm x (List.mem_of_mem_take hx)).1,List.getElem_map]
   by_cases hio : (i : Int) ∈ O.take m
   · rw [if_pos hio]
     refine .inr ⟨rfl,?_⟩
     let RI : List Int :=(ks.map rs).map fun r => (r * (cden (ks.map rs) : Rat)).num
     have hRl : RI.length = ks.length :=by simp [RI]
     have hk : ∀ x : Int,kR RI x = B.kf (ks.map rs) x :=fun x => by
      unfold kR B.kf
      by_cases hx : x.toNat < ks.length
      · simp [RI,List.getD_eq_getElem?_getD,hx]
      · rw [List.getD_eq_getElem?_getD,List.getElem?_eq_none (by omega),List.getD_eq_getElem?_getD,List.getElem?_eq_none (by rw [List.length_map]; omega)]
        show (0 : Int) = ((0 : Rat) * _).num
        rw [Rat.zero_mul]; rfl
     have hkf : kR RI = B.kf (ks.map rs) :=funext hk
     have hD :=pH (ks.map rs)
     have hDR : (0 : Rat) < (cden (ks.map rs) : Rat) :=Rat.intCast_pos.2 hD
     have hcast : ∀ r ∈ ks.map rs,(((r * (cden (ks.map rs) : Rat)).num : Int) : Rat) = r * (cden (ks.map rs) : Rat) :=fun r hr => by
      obtain ⟨z,hz⟩ :=pI _ r hr
      rw [hz,Rat.num_intCast]
     have hRb : ∀ r ∈ RI,0 ≤ r ∧ r < cden (ks.map rs) :=fun r hr => by
      obtain ⟨q,hq,rfl⟩ :=List.mem_map.1 hr
      have hcq :=hcast q hq
      obtain ⟨k,_,rfl⟩ :=List.mem_map.1 hq
      have h1 :=m7 k
      have h2 :=JQ k
      constructor
      · refine Rat.intCast_le_intCast.1 ?_
        rw [hcq]
        exact Rat.mul_nonneg h1 (Rat.le_of_lt hDR)
      · refine Rat.intCast_lt_intCast.1 ?_
        rw [hcq]
        have :=Rat.mul_lt_mul_of_pos_right h2 hDR
        rwa [Rat.one_mul] at this
     have hsum : sumL RI = cden (ks.map rs) * m :=by
      have e1 :=gG (f :=fun t => RI.getD t 0) (l :=RI) (fun j _ => rfl) RI.length (Nat.le_refl _)
      rw [List.take_length,hRl] at e1
      have e2 : sumR (fun t => ((RI.getD t 0 : Int) : Rat)) ks.length = sumR (fun t => (cden (ks.map rs) : Rat) * rs (ks.getD t 0)) ks.length :=aR fun t ht => by
       have hmem : rs ks[t] ∈ ks.map rs :=List.mem_map.2 ⟨_,List.getElem_mem ht,rfl⟩
       have h3 : RI.getD t 0 = (rs ks[t] * (cden (ks.map rs) : Rat)).num :=by simp [RI,List.getD_eq_getElem?_getD,ht]
       rw [h3,hcast _ hmem,nR ht,Rat.mul_comm]
      rw [e2,fE] at e1
      have e3 : sumR (fun t => rs (ks.getD t 0)) ks.length = rsum ks ks.length :=rfl
      rw [e3,hs,← Rat.intCast_mul] at e1
      rw [← pG]
      exact (Rat.intCast_inj.1 e1).symm
     have hx :=ER (R :=RI) (x :=(i : Int)) hD hRb hsum (by rw [hkf,hRl,hO]; exact hio)
     rw [hk] at hx
     have h0 :=B.kf_eq (ks.map rs) (i : Int)
     rw [Int.toNat_natCast] at h0
     have h4 : (ks.map rs).getD i 0 = rs ks[i] :=by simp [List.getD_eq_getElem?_getD,hi]
     rw [h4] at h0
     have h5 : (0 : Rat) < ((B.kf (ks.map rs) (i : Int) : Int) : Rat) :=Rat.intCast_pos.2 hx
     rw [h0] at h5
     have h6 :=m7 ks[i]
     rcases Rat.le_iff_lt_or_eq.1 h6 with h7 | h7
     · exact h7
     · rw [← h7,Rat.zero_mul] at h5
       exact absurd h5 (by decide)
   · rw [if_neg hio]
     exact .inl (by omega)
end Go.Proofs.YtknbcehhjffndaaGreat

namespace Go.Proofs.YtknbcehhjffndaaGreat
open Go.RowKit Go.Ab
attribute [local irreducible] AWP Go.Ab.Sub Means MeansH CallK CallG CallT CallGT
theorem AK (L : List Int) (hl : L.length ≤ 400) (hb : ∀ x ∈ L,-1125899906842624 ≤ x ∧ x ≤ 1125899906842624) : Means true Tryz.prog 58 [il L] (ii (sumL L)) :=by
 have bd : ∀ k,k ≤ L.length → -(k * 1125899906842624 : Int) ≤ sumL (L.take k) ∧ sumL (L.take k) ≤ k * 1125899906842624 :=by
  intro k
  induction k with
  | zero => intro _; simp
  | succ k ih =>
    intro hk
    have :=ih (by omega)
    have h2 :=hb L[k] (List.getElem_mem (by omega))
    rw [m8 (by omega)]
    push_cast
    omega
 refine aB true 18 [.tmp 2] Tryz.func58 rfl rfl rfl (by simp) (by decide) rfl fun X hX => ?_
 (repeat (refine a6 [0,2,3,4,8] hX a7 rfl ?_; (simp [go_sem])))
 refine aF (fun n : Nat => ⟨mkE [(0,il L),(3,ii (sumL (L.take n))),(4,ii n)],[]⟩) (fun n => n ≤ L.length) (fun n => L.length - n) 0 ?_ ?_ ?_
 · refine aA _ [] (by simp [go_sem]) ?_
   simp [go_sem]
 · omega
 · intro n hn
   (repeat (refine a6 [0,2,3,4,8] hX a7 rfl ?_; (simp [go_sem])))
   refine a8 (b :=decide (n < L.length)) (by simp [go_sem]) (fun hc => ?_) (fun hc => ?_)
   · simp at hc
     have e :=m8 hc
     have h1 :=bd (n + 1) (by omega)
     push_cast at h1
     rw [e] at h1
     (repeat (refine a6 [0,2,3,4,8] hX a7 rfl ?_; (simp [go_sem,hc]; (try simp (disch :=omega) only [w64,td,tm]))))
     refine ⟨n + 1,by omega,by omega,?_⟩
     rw [e]
     refine aA _ [] (by simp [go_sem]) ?_
     simp [go_sem]
   · have : n = L.length :=by simp at hc; omega
     subst this
     rw [List.take_length]
     (repeat (refine a6 [0,2,3,4,8] hX a7 rfl ?_; (simp [go_sem])))
theorem wN (C : List Int) (hl : C.length ≤ 9223372036854775807) (h : Int) : Means true Tryz.prog 57 [il C,ii h] (bb (rightC C h)) :=by
 refine aB true 35 [.tmp 4] Tryz.func57 rfl rfl rfl (by simp) (by decide) rfl fun X hX => ?_
 (repeat (refine a6 q10x6 hX a7 rfl ?_; (simp [go_sem])))
 refine aF (fun n : Nat => ⟨mkE [(0,il C),(1,ii h),(5,ii n)],[]⟩) (fun n => n ≤ C.length ∧ okC' (C.take n) = true) (fun n => C.length - n) 0 ?_ ?_ ?_
 · refine aA _ [] (by simp [go_sem]) ?_
   simp [go_sem]
 · simp [okC']
 · rintro n ⟨hn,hk⟩
   (repeat (refine a6 q10x6 hX a7 rfl ?_; (simp [go_sem])))
   refine a8 (b :=decide (n < C.length)) (by simp [go_sem]) (fun hc => ?_) (fun hc => ?_)
   · simp at hc
     (repeat (refine a6 q10x6 hX a7 rfl ?_; (simp [go_sem,hc])))
     refine a8 (b :=!inC C[n]) (by simp [go_sem,inC]; rw [Bool.eq_iff_iff]; simp; try omega) (fun hd => ?_) (fun hd => ?_)
     · have e : rightC C h = false :=by rw [rightC,AM hc (by simpa using hd)]; rfl
       rw [e]
       (repeat (refine a6 q10x6 hX a7 rfl ?_; (simp [go_sem])))
     · (repeat (refine a6 q10x6 hX a7 rfl ?_; (simp [go_sem]; (try simp (disch :=omega) only [w64,td,tm]))))
       refine ⟨n + 1,⟨by omega,wP hc hk (by simpa using hd)⟩,by omega,?_⟩
       refine aA _ [] (by simp [go_sem]) ?_
       simp [go_sem]
   · have : n = C.length :=by simp at hc; omega
     subst this
     rw [List.take_length] at hk
     have e : rightC C h = okH C h :=by rw [rightC,hk]; rfl
     rw [e]
     (repeat (refine a6 q10x6 hX a7 rfl ?_; (simp [go_sem])))
     simp [okH]
theorem HO (C : List Int) (hl : C.length ≤ 400) (h : Int) : Means true Tryz.prog 55 [il C,ii h] (.tup [ii (if okC' C then sumL C else 0),bb (rightC C h)]) :=by
 refine aB true 37 [.tmp 4,.tmp 5] Tryz.func55 rfl rfl rfl (by simp) (by decide) rfl fun X hX => ?_
 (repeat (refine a6 q10x4 hX a7 rfl ?_; (simp [go_sem])))
 refine aF (fun n : Nat => ⟨mkE [(0,il C),(1,ii h),(6,ii (sumL (C.take n))),(9,il C),(10,ii C.length),(11,ii n)],[]⟩) (fun n => n ≤ C.length ∧ okC' (C.take n) = true) (fun n => C.length - n) 0 ?_ ?_ ?_
 · refine aA _ [] (by simp [go_sem]) ?_
   simp [go_sem]
 · simp [okC']
 · rintro n ⟨hn,hk⟩
   (repeat (refine a6 q10x4 hX a7 rfl ?_; (simp [go_sem])))
   refine a8 (b :=decide (n < C.length)) (by simp [go_sem]) (fun hc => ?_) (fun hc => ?_)
   · simp at hc
     (repeat (refine a6 q10x4 hX a7 rfl ?_; (simp [go_sem,hc])))
     refine a8 (b :=!inC C[n]) (by simp [go_sem,inC]; rw [Bool.eq_iff_iff]; simp; try omega) (fun hd => ?_) (fun hd => ?_)
     · have e0 :=AM hc (by simpa using hd)
       have e : rightC C h = false :=by rw [rightC,e0]; rfl
       rw [e,if_neg (by rw [e0]; simp)]
       (repeat (refine a6 q10x4 hX a7 rfl ?_; (simp [go_sem])))
     · have hk1 :=wP hc hk (by simpa using hd)
       have h1 :=m9 hk1
       have e :=m8 hc
       rw [List.length_take] at h1
       rw [e] at h1
       (repeat (refine a6 q10x4 hX a7 rfl ?_; (simp [go_sem,hc]; (try simp (disch :=omega) only [w64,td,tm]))))
       refine ⟨n + 1,⟨by omega,hk1⟩,by omega,?_⟩
       rw [e]
       refine aA _ [] (by simp [go_sem]) ?_
       simp [go_sem]
   · have : n = C.length :=by simp at hc; omega
     subst this
     rw [List.take_length] at hk ⊢
     have e : rightC C h = okH C h :=by rw [rightC,hk]; rfl
     rw [e,if_pos hk]
     (repeat (refine a6 q10x4 hX a7 rfl ?_; (simp [go_sem])))
     simp [okH]
theorem wQ (C : List Int) (hl : C.length ≤ 400) (hok : okC' C = true) (l : Int) (hb : 0 ≤ l ∧ l ≤ 1099511627776) : Means true Tryz.prog 56 [il C,ii l] (ii (fill C l)) :=by
 refine aB true 21 [.tmp 4] Tryz.func56 rfl rfl rfl (by simp) (by decide) rfl fun X hX => ?_
 (repeat (refine a6 q10x5 hX a7 rfl ?_; (simp [go_sem])))
 refine aF (fun n : Nat => ⟨mkE [(0,il C),(1,ii l),(5,ii (fill (C.take n) l)),(8,il C),(9,ii C.length),(10,ii n)],[]⟩) (fun n => n ≤ C.length) (fun n => C.length - n) 0 ?_ ?_ ?_
 · refine aA _ [] (by simp [go_sem,fill]) ?_
   simp [go_sem,fill]
 · omega
 · intro n hn
   (repeat (refine a6 q10x5 hX a7 rfl ?_; (simp [go_sem])))
   refine a8 (b :=decide (n < C.length)) (by simp [go_sem]) (fun hc => ?_) (fun hc => ?_)
   · simp at hc
     have e :=rX hc l
     have h1 :=u5 hb (pJ hok (n + 1))
     rw [List.length_take,e] at h1
     (repeat (refine a6 q10x5 hX a7 rfl ?_; (simp [go_sem,hc]; (try simp (disch :=omega) only [w64,td,tm]))))
     refine ⟨n + 1,by omega,by omega,?_⟩
     rw [e]
     refine aA _ [] (by simp [go_sem]) ?_
     simp [go_sem]
   · have : n = C.length :=by simp at hc; omega
     subst this
     rw [List.take_length]
     (repeat (refine a6 q10x5 hX a7 rfl ?_; (simp [go_sem])))
set_option maxHeartbeats 4000000 in
set_option maxRecDepth 20000 in
theorem HP (C : List Int) (hl : C.length ≤ 400) (h : Int) : Means true Tryz.prog 22 [il C,ii h] (.tup [il (if rightC C h then share C h else []),ii (if rightC C h then 0 else 1)]) :=by
 have ht :=HO C hl h
 cases hr : rightC C h with
 | false =>
   rw [hr] at ht
   rw [if_neg (by simp),if_neg (by simp)]
   refine aB true 78 [.tmp 4,.tmp 5] Tryz.func22 rfl rfl rfl (by simp) (by decide) rfl fun X hX => ?_
   (repeat (refine a6 q10x0 hX a7 rfl ?_; (simp [go_sem])))
   refine a9 (ht) ?_
   try (simp [go_sem])
   (repeat (refine a6 q10x0 hX a7 rfl ?_; (simp [go_sem])))
   refine a8 (b :=true) (by simp [go_sem]) (fun _ => ?_) (fun h => by cases h)
   (repeat (refine a6 q10x0 hX a7 rfl ?_; (simp [go_sem])))
 | true =>
   have hr2 :=hr
   simp only [rightC,okH,Bool.and_eq_true,decide_eq_true_eq] at hr2
   obtain ⟨hok,⟨_,hh0⟩,hh1⟩ :=hr2
   rw [hr,if_pos hok] at ht
   rw [if_pos rfl,if_pos rfl]
   have hsb :=m9 hok
   by_cases hs : sumL C ≤ h
   · have e : share C h = C :=if_pos hs
     rw [e]
     refine aB true 78 [.tmp 4,.tmp 5] Tryz.func22 rfl rfl rfl (by simp) (by decide) rfl fun X hX => ?_
     (repeat (refine a6 q10x0 hX a7 rfl ?_; (simp [go_sem])))
     refine a9 (ht) ?_
     try (simp [go_sem])
     (repeat (refine a6 q10x0 hX a7 rfl ?_; (simp [go_sem])))
     refine a8 (b :=false) (by simp [go_sem]) (fun h => by cases h) (fun _ => ?_)
     (repeat (refine a6 q10x0 hX a7 rfl ?_; (simp [go_sem])))
     refine a8 (b :=true) (by simp [go_sem,hs]) (fun _ => ?_) (fun h => by cases h)
     (repeat (refine a6 q10x0 hX a7 rfl ?_; (simp [go_sem])))
     refine aG [] (A9 C (by omega)) (by simp [go_sem]) ?_
     try (simp [go_sem])
     (repeat (refine a6 q10x0 hX a7 rfl ?_; (simp [go_sem])))
   · refine aB true 78 [.tmp 4,.tmp 5] Tryz.func22 rfl rfl rfl (by simp) (by decide) rfl fun X hX => ?_
     (repeat (refine a6 q10x0 hX a7 rfl ?_; (simp [go_sem])))
     refine a9 (ht) ?_
     try (simp [go_sem])
     (repeat (refine a6 q10x0 hX a7 rfl ?_; (simp [go_sem])))
     refine a8 (b :=false) (by simp [go_sem]) (fun h => by cases h) (fun _ => ?_)
     (repeat (refine a6 q10x0 hX a7 rfl ?_; (simp [go_sem])))
     refine a8 (b :=false) (by simp [go_sem]; omega) (fun h => by cases h) (fun _ => ?_)
     (repeat (refine a6 q10x0 hX a7 rfl ?_; (simp [go_sem])))
     refine aF (fun x : Int × Int => ⟨mkE [(0,il C),(1,ii h),(8,ii x.1),(9,ii x.2)],[]⟩) (fun x => 0 ≤ x.1 ∧ x.1 ≤ x.2 ∧ x.2 ≤ 1099511627776 ∧ fill C x.1 ≤ h ∧ (x.2 < 1099511627776 → h < fill C (x.2 + 1))) (fun x => (x.2 - x.1).toNat) (0,1099511627776) ?_ ?_ ?_
     · refine aA _ [] (by simp [go_sem]) ?_
       simp [go_sem]
     · exact ⟨by omega,by omega,by omega,by rw [gH hok]; omega,fun hx => absurd hx (by omega)⟩
     · rintro ⟨lo,hi⟩ ⟨h1,h2,h3,h4,h5⟩
       simp only [] at h1 h2 h3 h4 h5
       (repeat (refine a6 q10x0 hX a7 rfl ?_; (simp [go_sem])))
       refine a8 (b :=decide (lo < hi)) (by simp [go_sem]) (fun hc => ?_) (fun hc => ?_)
       · simp at hc
         have hm : lo < (lo + hi + 1) / 2 ∧ (lo + hi + 1) / 2 ≤ hi :=by omega
         have htd : (lo + hi + 1).tdiv 2 = (lo + hi + 1) / 2 :=Int.tdiv_eq_ediv_of_nonneg (by omega)
         obtain ⟨m,hme⟩ : ∃ m,(lo + hi + 1) / 2 = m :=⟨_,rfl⟩
         rw [hme] at hm htd
         (repeat (refine a6 q10x0 hX a7 rfl ?_; (simp [go_sem,htd,hme]; (try simp (disch :=omega) only [w64,td,tm]))))
         try (simp [go_sem,htd,hme])
         refine a9 (wQ C hl hok m (by omega)) ?_
         try (simp [go_sem])
         refine a8 (b :=decide (fill C m ≤ h)) (by simp [go_sem]) (fun hd => ?_) (fun hd => ?_)
         · simp at hd
           (repeat (refine a6 q10x0 hX a7 rfl ?_; (simp [go_sem]; (try simp (disch :=omega) only [w64,td,tm]))))
           refine ⟨m,hi,⟨by omega,by omega,h3,hd,h5⟩,by omega,?_⟩
           refine aA _ [] (by simp [go_sem]) ?_
           simp [go_sem]
         · simp at hd
           (repeat (refine a6 q10x0 hX a7 rfl ?_; (simp [go_sem]; (try simp (disch :=omega) only [w64,td,tm]))))
           refine ⟨lo,m - 1,⟨h1,by omega,by omega,h4,fun _ => by rw [show m - 1 + 1 = m by omega]; omega⟩,by omega,?_⟩
           refine aA _ [] (by simp [go_sem]) ?_
           simp [go_sem]
       · have hlh : lo = hi :=by simp at hc; omega
         subst hlh
         have hlt : lo < 1099511627776 :=by
          rcases Int.lt_or_le lo 1099511627776 with q | q
          · exact q
          · exfalso
            have : fill C lo = sumL C :=iY fun c hc => by have :=hI hok hc; omega
            omega
         have hlv : isLv C h lo :=⟨h1,h4,h5 hlt⟩
         have e : share C h = shr lo (h - fill C lo) C :=by rw [share,if_neg hs,yP hlv]
         have hle :=mA hlv
         have hfb :=u5 (C :=C) ⟨h1,by omega⟩ hok
         rw [e]
         obtain ⟨q,hq⟩ : ∃ q,h - fill C lo = q :=⟨_,rfl⟩
         rw [hq] at hle ⊢
         have hqb : 0 ≤ q ∧ q ≤ 1125899906842624 :=by omega
         have hwq :=w64 (x :=q) (by omega) (by omega)
         (repeat (refine a6 q10x0 hX a7 rfl ?_; (simp [go_sem])))
         refine a9 (wQ C hl hok lo ⟨h1,by omega⟩) ?_
         try (simp [go_sem,hq,hwq])
         (repeat (refine a6 q10x0 hX a7 rfl ?_; (simp [go_sem,hq,hwq])))
         refine aF (fun k : Nat => ⟨mkE [(8,ii lo),(11,ii (leftA lo q (C.take k))),(12,.ow 0),(52,il C),(53,ii C.length),(54,ii k)],[rowI (shr lo q (C.take k))]⟩) (fun k => k ≤ C.length) (fun k => C.length - k) 0 ?_ ?_ ?_
         · refine aA _ [.birth 3 1] (by simp [go_sem,shr,leftA]) ?_
           simp [go_sem,shr,leftA]
         · omega
         · intro k hk
           have hll :=fR lo (C.take k) q
           rw [List.length_take] at hll
           have hlb :=l7 lo (C.take k) q hqb.1
           (repeat (refine a6 q10x0 hX a7 rfl ?_; (simp [go_sem])))
           refine a8 (b :=decide (k < C.length)) (by simp [go_sem]) (fun hc => ?_) (fun hc => ?_)
           · simp at hc
             have es :=wR (l :=lo) (left :=q) hc
             have el :=pK (l :=lo) (left :=q) hc
             have hcr :=hI hok (List.getElem_mem hc)
             (repeat (refine a6 q10x0 hX a7 rfl ?_; (simp [go_sem,hc])))
             refine a8 (b :=decide (lo < C[k] ∧ 0 < leftA lo q (C.take k))) (by simp [go_sem]) (fun hd => ?_) (fun hd => ?_)
             · simp only [decide_eq_true_eq] at hd
               have e1 : share1 lo (leftA lo q (C.take k)) C[k] = min C[k] lo + 1 :=by rw [share1,if_pos hd]; omega
               rw [if_pos hd] at el
               rw [e1] at es
               (repeat (refine a6 q10x0 hX a7 rfl ?_; (simp [go_sem]; (try simp (disch :=omega) only [w64,td,tm]))))
               (repeat refine And.intro (by first | omega | (unfold maxLen; omega) | kernel_rfl | (refine ⟨by first | omega | (unfold maxLen; omega),by first | omega | (unfold maxLen; omega)⟩) | grind) ?_)
               (repeat (refine a6 q10x0 hX a7 rfl ?_; (simp [go_sem]; (try simp (disch :=omega) only [w64,td,tm]))))
               refine ⟨k + 1,by omega,by omega,?_⟩
               rw [es,el]
               refine aA _ [.old 2 ⟨3,1,(shr lo q (C.take k) ++ [min C[k] lo + 1]).map ii⟩] (by simp [go_sem]) ?_
               simp [go_sem]
             · simp only [decide_eq_false_iff_not] at hd
               have e1 : share1 lo (leftA lo q (C.take k)) C[k] = min C[k] lo :=by rw [share1,if_neg hd]
               rw [if_neg hd] at el
               rw [e1] at es
               (repeat (refine a6 q10x0 hX a7 rfl ?_; (simp [go_sem]; (try simp (disch :=omega) only [w64,td,tm]))))
               (repeat refine And.intro (by first | omega | (unfold maxLen; omega) | kernel_rfl | (refine ⟨by first | omega | (unfold maxLen; omega),by first | omega | (unfold maxLen; omega)⟩) | grind) ?_)
               (repeat (refine a6 q10x0 hX a7 rfl ?_; (simp [go_sem]; (try simp (disch :=omega) only [w64,td,tm]))))
               refine ⟨k + 1,by omega,by omega,?_⟩
               rw [es,el,Int.sub_zero]
               refine aA _ [.old 2 ⟨3,1,(shr lo q (C.take k) ++ [min C[k] lo]).map ii⟩] (by simp [go_sem]) ?_
               simp [go_sem]
           · have : k = C.length :=by simp at hc; omega
             subst this
             rw [List.take_length]
             (repeat (refine a6 q10x0 hX a7 rfl ?_; (simp [go_sem])))
end Go.Proofs.YtknbcehhjffndaaGreat

namespace Go.Proofs.YtknbcehhjffndaaGreat
theorem ES {C : List Int} {h : Int} (hok : okC' C = true) (hh : 0 ≤ h) : ∀ n : Nat,h < fill C n → ∃ l,isLv C h l
 | 0,hn => by rw [Int.natCast_zero,gH hok] at hn; omega
 | n + 1,hn => by
   by_cases h1 : h < fill C n
   · exact ES hok hh n h1
   · exact ⟨n,⟨by omega,by omega,by simpa using hn⟩⟩
theorem JR {C : List Int} {h : Int} (hok : okC' C = true) (hh : 0 ≤ h) (hs : ¬ sumL C ≤ h) : ∃ l,isLv C h l :=by
 refine ES hok hh 1099511627776 ?_
 rw [iY fun c hc => by have :=hI hok hc; omega]; omega
theorem dC {C : List Int} {h : Int} (hok : okC' C = true) (hh : 0 ≤ h) : (sumL C ≤ h ∧ share C h = C) ∨ (¬ sumL C ≤ h ∧ ∃ l,isLv C h l ∧ share C h = shr l (h - fill C l) C) :=by
 by_cases hs : sumL C ≤ h
 · exact .inl ⟨hs,if_pos hs⟩
 · obtain ⟨l,hl⟩ :=JR hok hh hs
   exact .inr ⟨hs,l,hl,by rw [share,if_neg hs,yP hl]⟩
theorem rY {C : List Int} {h : Int} (hok : okC' C = true) (hh : 0 ≤ h) : (share C h).length = C.length :=by
 rcases dC hok hh with ⟨_,e⟩ | ⟨_,l,_,e⟩
 · rw [e]
 · rw [e,fR]
theorem C3 {C : List Int} {h : Int} (hok : okC' C = true) (hh : 0 ≤ h) : sumL (share C h) = min h (sumL C) :=by
 rcases dC hok hh with ⟨hs,e⟩ | ⟨hs,l,hl,e⟩
 · rw [e]; omega
 · have :=mA hl
   rw [e,nS l C _ this.1 (by omega)]; omega
theorem yQ (l : Int) : ∀ (C : List Int) (q : Int) (i : Nat) (h : i < C.length) (h' : i < (shr l q C).length),(shr l q C)[i] = share1 l (leftA l q (C.take i)) C[i]
 | c :: C,q,0,_,_ => by
   simp only [shr,List.take_zero,leftA,share1,List.getElem_cons_zero]
   split <;> rfl
 | c :: C,q,i + 1,h,h' => by
   have h2 : i < C.length :=by simpa using h
   simp only [List.take_succ_cons,leftA,List.getElem_cons_succ]
   by_cases hc : l < c ∧ 0 < q
   · have e : shr l q (c :: C) = (l + 1) :: shr l (q - 1) C :=by rw [shr,if_pos hc]
     rw [if_pos hc]
     simp only [e,List.getElem_cons_succ]
     exact yQ l C (q - 1) i h2 (by rw [fR]; exact h2)
   · have e : shr l q (c :: C) = min c l :: shr l q C :=by rw [shr,if_neg hc]
     rw [if_neg hc]
     simp only [e,List.getElem_cons_succ]
     exact yQ l C q i h2 (by rw [fR]; exact h2)
theorem ET {C : List Int} {h : Int} (hok : okC' C = true) (hh : 0 ≤ h) {i : Nat} (hi : i < C.length) (hi' : i < (share C h).length) : 0 ≤ (share C h)[i] ∧ (share C h)[i] ≤ C[i] :=by
 have hc :=hI hok (List.getElem_mem hi)
 rcases dC hok hh with ⟨hs,e⟩ | ⟨hs,l,hl,e⟩
 · simp only [e]; omega
 · have h0 :=hl.low
   simp only [e]
   rw [yQ l C _ i hi]
   unfold share1; split <;> omega
theorem wS (l : Int) : ∀ C : List Int,shr l 0 C = C.map fun c => min c l
 | [] => rfl
 | c :: C => by rw [shr,if_neg (by omega),wS l C]; rfl
theorem AN (l : Int) : ∀ C : List Int,fill C l ≤ sumL C
 | [] => Int.le_refl _
 | c :: C => by have :=AN l C; rw [bU,bW]; omega
end Go.Proofs.YtknbcehhjffndaaGreat

namespace Go.Proofs.YtknbcehhjffndaaGreat
open Go.RowKit Go.Ab
structure Fd where
 holds : Int
 reserve : Int
 income : Int
 claims : List (Int × Int)
 cedes : List Int
abbrev dF : Fd :=⟨0,0,0,[],[]⟩
abbrev cl (c : Int × Int) : AV :=.agg [ii c.1,ii c.2]
abbrev awl (l : List (Int × Int)) : AV :=.sl (l.map cl)
abbrev fo (f : Fd) : AV :=.agg [ii f.holds,ii f.reserve,ii f.income,awl f.claims,il f.cedes]
@[go_sem] theorem nth_cl {L : List (Int × Int)} {k : Nat} (h : k < L.length) : nth (L.map cl) k = cl L[k] :=eC cl h
@[go_sem] theorem nth_fo {L : List Fd} {k : Nat} (h : k < L.length) : nth (L.map fo) k = fo L[k] :=eC fo h
@[go_sem] theorem nth_awl {L : List (List (Int × Int))} {k : Nat} (h : k < L.length) : nth (L.map awl) k = awl L[k] :=eC awl h
def amt (n : Int) : Bool :=decide (0 ≤ n) && decide (n ≤ 1099511627776)
theorem i4 {n : Int} (h : amt n = true) : 0 ≤ n ∧ n ≤ 1099511627776 :=by simpa [amt] using h
def nums (cs : List (Int × Int)) : List Int :=cs.map (·.2)
theorem l8 (cs : List (Int × Int)) : (nums cs).length = cs.length :=by simp [nums]
theorem gI {cs : List (Int × Int)} {k : Nat} (h : k < cs.length) : nums (cs.take (k + 1)) = nums (cs.take k) ++ [cs[k].2] :=by
 unfold nums; rw [List.take_succ_eq_append_getElem h,List.map_append]; rfl
theorem wT (a b : List Int) : sumI (a ++ b) = sumI a + sumI b :=by
 induction a with
 | nil => simp [sumI]
 | cons x a ih => simp only [List.cons_append,sumI,ih]; omega
theorem jT {l : List Int} {k : Nat} (h : k < l.length) : sumI (l.take (k + 1)) = sumI (l.take k) + l[k] :=by rw [List.take_succ_eq_append_getElem h,cG]
theorem u6 {l : List Int} (h : ∀ x ∈ l,0 ≤ x) : 0 ≤ sumI l :=by
 induction l with
 | nil => simp [sumI]
 | cons x l ih =>
   have h1 :=h x (by simp)
   have h2 :=ih fun y hy => h y (by simp [hy])
   simp only [sumI]; omega
def okCl (cs : List (Int × Int)) : Bool :=(nums cs).all amt && decide (sumI (nums cs) ≤ 1099511627776)
theorem pL {cs : List (Int × Int)} (h : okCl cs = true) {x : Int} (hx : x ∈ nums cs) : 0 ≤ x ∧ x ≤ 1099511627776 :=by
 simp only [okCl,Bool.and_eq_true,List.all_eq_true] at h
 exact i4 (h.1 x hx)
theorem jU {cs : List (Int × Int)} (h : okCl cs = true) : 0 ≤ sumI (nums cs) ∧ sumI (nums cs) ≤ 1099511627776 :=by
 refine ⟨u6 fun x hx => (pL h hx).1,?_⟩
 simp only [okCl,Bool.and_eq_true,decide_eq_true_eq] at h
 exact h.2
theorem rZ {cs : List (Int × Int)} {k : Nat} (hk : k < cs.length) (h : okCl (cs.take k) = true) (h1 : amt cs[k].2 = true) (h2 : amt (sumI (nums (cs.take k)) + cs[k].2) = true) : okCl (cs.take (k + 1)) = true :=by
 simp only [okCl,Bool.and_eq_true,decide_eq_true_eq] at h ⊢
 rw [gI hk,List.all_append,cG]
 exact ⟨by simp [h.1,h1],(i4 h2).2⟩
theorem wU {cs : List (Int × Int)} {k : Nat} (hk : k < cs.length) (h1 : amt cs[k].2 = false) : okCl cs = false :=by
 have : (nums cs).all amt = false :=List.all_eq_false.2 ⟨cs[k].2,List.mem_map.2 ⟨cs[k],List.getElem_mem hk,rfl⟩,by simp [h1]⟩
 simp [okCl,this]
theorem wV {cs : List (Int × Int)} {k : Nat} (hk : k < cs.length) (h : okCl (cs.take k) = true) (h1 : amt cs[k].2 = true) (h2 : amt (sumI (nums (cs.take k)) + cs[k].2) = false) : okCl cs = false :=by
 cases hc : okCl cs with
 | false => rfl
 | true =>
   have hb :=jU hc
   have h0 :=jU h
   have h3 :=i4 h1
   have e : nums cs = nums (cs.take (k + 1)) ++ nums (cs.drop (k + 1)) :=by unfold nums; rw [← List.map_append,List.take_append_drop]
   have hd : 0 ≤ sumI (nums (cs.drop (k + 1))) :=u6 fun x hx => (pL hc (by rw [e]; exact List.mem_append_right _ hx)).1
   rw [e,wT,gI hk,cG] at hb
   have : ¬ (0 ≤ sumI (nums (cs.take k)) + cs[k].2 ∧ sumI (nums (cs.take k)) + cs[k].2 ≤ 1099511627776) :=by
    intro hh
    rw [amt] at h2
    simp [hh.1,hh.2] at h2
   omega
def inS (c : Int) : Bool :=decide (0 ≤ c) && decide (c < 1000)
theorem u7 {c : Int} (h : inS c = true) : 0 ≤ c ∧ c < 1000 :=by simpa [inS] using h
def okS1 (l : List Int) : Bool :=l.all inS
theorem C4 {l : List Int} {k : Nat} (hk : k < l.length) (h : okS1 (l.take k) = true) (h1 : inS l[k] = true) : okS1 (l.take (k + 1)) = true :=by
 unfold okS1 at *
 rw [List.take_succ_eq_append_getElem hk,List.all_append,h]; simp [h1]
theorem HR {l : List Int} {k : Nat} (hk : k < l.length) (h1 : inS l[k] = false) : okS1 l = false :=List.all_eq_false.2 ⟨l[k],List.getElem_mem hk,by simp [h1]⟩
theorem HT {l : List Int} (h : okS1 l = true) : 0 ≤ sumI l ∧ sumI l ≤ 1000 * l.length :=by
 induction l with
 | nil => simp [sumI]
 | cons x l ih =>
   simp only [okS1,List.all_cons,Bool.and_eq_true] at h
   have h1 :=u7 h.1
   have h2 :=ih h.2
   simp only [sumI,List.length_cons]; omega
def okP (n i : Nat) (f : Fd) : Bool :=okS1 f.cedes && okCl f.claims && amt f.holds && amt f.reserve && amt f.income && decide (f.cedes.length = n) && decide (f.cedes.getD i 0 = 0) && decide (sumI f.cedes < 1000)
def manyC (F : List Fd) : Nat :=(F.map fun f => f.claims.length).sum
theorem i5 {F : List Fd} {k : Nat} (h : k < F.length) : manyC (F.take (k + 1)) = manyC (F.take k) + F[k].claims.length :=by
 unfold manyC; rw [List.take_succ_eq_append_getElem h,List.map_append,List.sum_append]; simp
def okUp (F : List Fd) (k : Nat) : Prop :=∀ i (h : i < F.length),i < k → okP F.length i F[i] = true
instance (F : List Fd) (k : Nat) : Decidable (okUp F k) :=Nat.decidableBallLT _ _
def rightV (F : List Fd) : Bool :=decide (okUp F F.length) && decide (0 < F.length) && decide (F.length ≤ 12) && decide (manyC F ≤ 400)
theorem s6 {F : List Fd} {k : Nat} (hk : k < F.length) (h : okUp F k) (h1 : okP F.length k F[k] = true) : okUp F (k + 1) :=fun i hi hik => by
 by_cases e : i = k
 · subst e; exact h1
 · exact h i hi (by omega)
theorem wW {F : List Fd} {k : Nat} (hk : k < F.length) (h1 : okP F.length k F[k] = false) : rightV F = false :=by
 have : ¬ okUp F F.length :=fun h => by
  have :=h k hk hk
  rw [h1] at this; cases this
 simp [rightV,this]
theorem s7 {F : List Fd} (h : okUp F F.length) : rightV F = (decide (0 < F.length) && decide (F.length ≤ 12) && decide (manyC F ≤ 400)) :=by simp [rightV,h]
def ownL (F : List Fd) : List Int :=F.map fun f => sumI (nums f.claims)
def cedL (F : List Fd) : List (List Int) :=F.map (·.cedes)
theorem bK (F : List Fd) : (ownL F).length = F.length :=by simp [ownL]
theorem iZ (F : List Fd) : (cedL F).length = F.length :=by simp [cedL]
structure OkP (n i : Nat) (f : Fd) : Prop where
 ced : okS1 f.cedes = true
 cla : okCl f.claims = true
 hol : 0 ≤ f.holds ∧ f.holds ≤ 1099511627776
 res : 0 ≤ f.reserve ∧ f.reserve ≤ 1099511627776
 inc : 0 ≤ f.income ∧ f.income ≤ 1099511627776
 len : f.cedes.length = n
 self : f.cedes.getD i 0 = 0
 lt : sumI f.cedes < 1000
theorem HU {n i : Nat} {f : Fd} (h : okP n i f = true) : OkP n i f :=by
 simp only [okP,Bool.and_eq_true,decide_eq_true_eq] at h
 obtain ⟨⟨⟨⟨⟨⟨⟨h1,h2⟩,h3⟩,h4⟩,h5⟩,h6⟩,h7⟩,h8⟩ :=h
 exact ⟨h1,h2,i4 h3,i4 h4,i4 h5,h6,h7,h8⟩
structure RV (F : List Fd) : Prop where
 at' : ∀ i (h : i < F.length),OkP F.length i F[i]
 pos : 0 < F.length
 most : F.length ≤ 12
 many : manyC F ≤ 400
theorem s8 {F : List Fd} (h : rightV F = true) : RV F :=by
 simp only [rightV,Bool.and_eq_true,decide_eq_true_eq] at h
 exact ⟨fun i hi => HU (h.1.1.1 i hi hi),h.1.1.2,h.1.2,h.2⟩
theorem KO {l : List Int} (h : okS1 l = true) (j : Nat) : 0 ≤ l.getD j 0 ∧ l.getD j 0 ≤ 1000 :=by
 by_cases hj : j < l.length
 · have :=u7 (List.all_eq_true.1 h l[j] (List.getElem_mem hj))
   rw [bF hj]; omega
 · rw [List.getD_eq_getElem?_getD,List.getElem?_eq_none (by omega)]; simp
theorem EU {F : List Fd} (h : RV F) : PV (ownL F) (cedL F) :=by
 have hO : ∀ k (hk : k < F.length),wO (ownL F) k = sumI (nums F[k].claims) :=fun k hk => by
  unfold wO; rw [bF (by rw [bK]; exact hk)]; simp [ownL]
 have hS : ∀ i (hi : i < F.length) (j : Nat),sO (cedL F) i j = F[i].cedes.getD j 0 :=fun i hi j => by
  unfold sO
  rw [List.getD_eq_getElem?_getD (l :=cedL F),List.getElem?_eq_getElem (by rw [iZ]; exact hi)]
  simp [cedL]
 refine ⟨⟨?_,?_,?_,?_,?_,?_,?_⟩,?_⟩
 · rw [bK]; exact h.pos
 · rw [bK]; exact h.most
 · rw [bK,iZ]
 · intro k hk
   rw [bK] at hk
   rw [hO k hk]
   exact jU (h.at' k hk).cla
 · intro l hl
   obtain ⟨f,hf,rfl⟩ :=List.mem_map.1 hl
   obtain ⟨i,hi,rfl⟩ :=List.getElem_of_mem hf
   rw [bK]; exact (h.at' i hi).len
 · intro i j hi _
   rw [bK] at hi
   rw [hS i hi]
   exact KO (h.at' i hi).ced j
 · intro i hi
   rw [bK] at hi
   rw [hS i hi]
   exact (h.at' i hi).self
 · intro l hl
   obtain ⟨f,hf,rfl⟩ :=List.mem_map.1 hl
   obtain ⟨i,hi,rfl⟩ :=List.getElem_of_mem hf
   exact (h.at' i hi).lt
def owedL (F : List Fd) : List Int :=coinL (keptQ (ownL F) (cedL F))
def fewV (F : List Fd) : Bool :=(F.all fun f => decide (f.claims.length ≤ 8) && decide (f.cedes.length ≤ 14)) && decide (F.length ≤ 5)
theorem fG {F : List Fd} (h : fewV F = true) {f : Fd} (hf : f ∈ F) : f.claims.length ≤ 8 ∧ f.cedes.length ≤ 14 :=by
 simp only [fewV,Bool.and_eq_true,List.all_eq_true,decide_eq_true_eq] at h
 exact h.1 f hf
theorem mS {F : List Fd} (h : fewV F = true) : F.length ≤ 5 :=by
 simp only [fewV,Bool.and_eq_true,decide_eq_true_eq] at h
 exact h.2
abbrev freeV (f : Fd) : Int :=f.income + f.holds
abbrev payV (f : Fd) (q : Int) : Int :=min q (freeV f + f.reserve)
def outF (f : Fd) (q : Int) : Fd :=⟨freeV f - min q (min (freeV f + f.reserve) (freeV f)),f.reserve - (min q (freeV f + f.reserve) - min q (min (freeV f + f.reserve) (freeV f))),0,[],f.cedes⟩
def outK (F : List Fd) (o : List Int) (k : Nat) : List Fd :=(List.range k).map fun i => outF (F.getD i dF) (o.getD i 0)
def paidK (F : List Fd) (o : List Int) (k : Nat) : Int :=sumI ((List.range k).map fun i => payV (F.getD i dF) (o.getD i 0))
def asksK (F : List Fd) (k : Nat) : List Int :=(F.take k).flatMap fun f => nums f.claims
theorem u9 {F : List Fd} {k : Nat} (h : k < F.length) : F.getD k dF = F[k] :=by rw [List.getD_eq_getElem?_getD,List.getElem?_eq_getElem h]; rfl
theorem s9 {F : List Fd} {o : List Int} {k : Nat} (h : k < F.length) (ho : k < o.length) : outK F o (k + 1) = outK F o k ++ [outF F[k] o[k]] :=by
 unfold outK; rw [List.range_succ,List.map_append,← u9 h,← bF ho]; rfl
theorem i6 {F : List Fd} {o : List Int} {k : Nat} (h : k < F.length) (ho : k < o.length) : paidK F o (k + 1) = paidK F o k + payV F[k] o[k] :=by
 unfold paidK; rw [List.range_succ,List.map_append,List.map_cons,List.map_nil,cG,u9 h,bF ho]
theorem d9 {F : List Fd} {k : Nat} (h : k < F.length) : asksK F (k + 1) = asksK F k ++ nums F[k].claims :=by
 unfold asksK; rw [List.take_succ_eq_append_getElem h,List.flatMap_append]; simp
def asksJ (F : List Fd) (k j : Nat) : List Int :=asksK F k ++ nums ((F.getD k dF).claims.take j)
theorem AO (F : List Fd) (k : Nat) : asksJ F k 0 = asksK F k :=by simp [asksJ,nums]
theorem pM {F : List Fd} {k j : Nat} (h : k < F.length) (hj : j < F[k].claims.length) : asksJ F k (j + 1) = asksJ F k j ++ [F[k].claims[j].2] :=by
 unfold asksJ; rw [u9 h,gI hj,List.append_assoc]
theorem sA {F : List Fd} {k : Nat} (h : k < F.length) : asksJ F k F[k].claims.length = asksK F (k + 1) :=by
 unfold asksJ; rw [u9 h,List.take_length,d9 h]
theorem sB {F : List Fd} {k j : Nat} (h : k < F.length) (hj : j ≤ F[k].claims.length) : (asksJ F k j).length = (asksK F k).length + j :=by
 unfold asksJ; rw [u9 h,List.length_append,l8,List.length_take]; omega
theorem EV (l : List Int) : zoneEs (l.map ii) = true :=e8 _ _ fun _ => rfl
theorem jV (F : List Fd) : ∀ k,k ≤ F.length → (asksK F k).length = manyC (F.take k)
 | 0,_ => by simp [asksK,manyC]
 | k + 1,h => by rw [d9 (by omega),List.length_append,jV F k (by omega),i5 (by omega),l8]
@[simp] theorem pN (F : List Fd) (o : List Int) (k : Nat) : (outK F o k).length = k :=by simp [outK]
def awK (F : List Fd) (G : List Int) (i j : Nat) : List (Int × Int) :=(List.range j).map fun t => (((F.getD i dF).claims.getD t (0,0)).1,G.getD ((asksK F i).length + t) 0)
def awAll (F : List Fd) (G : List Int) (i : Nat) : List (List (Int × Int)) :=(List.range i).map fun k => awK F G k (F.getD k dF).claims.length
@[simp] theorem uA (F : List Fd) (G : List Int) (i j : Nat) : (awK F G i j).length = j :=by simp [awK]
@[simp] theorem sC (F : List Fd) (G : List Int) (i : Nat) : (awAll F G i).length = i :=by simp [awAll]
theorem wX {F : List Fd} {G : List Int} {i j : Nat} (h : i < F.length) (hj : j < F[i].claims.length) (hg : (asksK F i).length + j < G.length) : awK F G i (j + 1) = awK F G i j ++ [(F[i].claims[j].1,G[(asksK F i).length + j])] :=by
 unfold awK
 rw [List.range_succ,List.map_append,List.map_cons,List.map_nil,u9 h,bF hg]
 congr 3
 rw [List.getD_eq_getElem?_getD,List.getElem?_eq_getElem hj]; rfl
theorem pO {F : List Fd} {G : List Int} {i : Nat} (h : i < F.length) : awAll F G (i + 1) = awAll F G i ++ [awK F G i F[i].claims.length] :=by
 unfold awAll; rw [List.range_succ,List.map_append,List.map_cons,List.map_nil,u9 h]
end Go.Proofs.YtknbcehhjffndaaGreat

namespace Go.Proofs.YtknbcehhjffndaaGreat
open Go.RowKit Go.Ab
attribute [local irreducible] AWP Go.Ab.Sub Means MeansH CallK CallG CallT CallGT CallU
theorem eY (n : Int) : Means true Tryz.prog 25 [ii n] (bb (amt n)) :=by
 refine aB true 9 [.tmp 2] Tryz.func25 rfl rfl rfl (by simp) (by decide) rfl fun X hX => ?_
 (repeat (refine a6 [0,2] hX a7 rfl ?_; (simp [go_sem])))
 try simp [amt]
set_option maxHeartbeats 2000000 in
set_option maxRecDepth 20000 in
theorem JS (f : Fd) (hl : f.claims.length ≤ 9223372036854775807) : Means true Tryz.prog 15 [fo f] (.tup [ii (if okCl f.claims then sumI (nums f.claims) else 0),bb (okCl f.claims)]) :=by
 obtain ⟨h,r,i,C,S⟩ :=f
 simp only at hl ⊢
 refine aB true 32 [.tmp 2,.tmp 3] Tryz.func15 rfl rfl rfl (by simp) (by decide) rfl fun X hX => ?_
 (repeat (refine a6 q10x3 hX a7 rfl ?_; (simp [go_sem])))
 refine aF (fun k : Nat => ⟨mkE [(2,ii 0),(3,bb false),(4,ii (sumI (nums (C.take k)))),(8,awl C),(9,ii C.length),(10,ii k)],[]⟩) (fun k => k ≤ C.length ∧ okCl (C.take k) = true) (fun k => C.length - k) 0 ?_ ?_ ?_
 · refine aA _ [] (by simp [go_sem]) ?_
   simp [go_sem,nums,sumI]
 · exact ⟨Nat.zero_le _,by simp [okCl,nums,sumI]⟩
 · rintro k ⟨hk,hok⟩
   (repeat (refine a6 q10x3 hX a7 rfl ?_; (simp [go_sem])))
   refine a8 (b :=decide (k < C.length)) (by simp [go_sem]) (fun hb => ?_) (fun hb => ?_)
   · simp at hb
     have hn :=jU hok
     by_cases ha : amt C[k].2 = true
     · have hc :=i4 ha
       have hw :=w64 (x :=sumI (nums (C.take k)) + C[k].2) (by omega) (by omega)
       (repeat (refine a6 q10x3 hX a7 rfl ?_; (simp [go_sem,hb,hw])))
       refine a9 (eY C[k].2) ?_
       try (simp [go_sem,ha,hw])
       refine aJ (fun hg => eY (sumI (nums (C.take k)) + C[k].2)) ?_
       try (simp [go_sem,ha,hw])
       by_cases ha2 : amt (sumI (nums (C.take k)) + C[k].2) = true
       · refine a8 (b :=false) (by simp [go_sem,ha,ha2]) (fun h => by cases h) (fun _ => ?_)
         (repeat (refine a6 q10x3 hX a7 rfl ?_; (simp [go_sem,hb,hw]; (try simp (disch :=omega) only [w64,td,tm]))))
         refine ⟨k + 1,⟨by omega,rZ hb hok ha ha2⟩,by omega,?_⟩
         refine aA _ [] (by simp [go_sem]) ?_
         simp [go_sem,gI hb,cG,hw]
       · have ha2 : amt (sumI (nums (C.take k)) + C[k].2) = false :=by simpa using ha2
         refine a8 (b :=true) (by simp [go_sem,ha,ha2]) (fun _ => ?_) (fun h => by cases h)
         (repeat (refine a6 q10x3 hX a7 rfl ?_; (simp [go_sem])))
         simp [wV hb hok ha ha2]
     · have ha : amt C[k].2 = false :=by simpa using ha
       (repeat (refine a6 q10x3 hX a7 rfl ?_; (simp [go_sem,hb])))
       refine a9 (eY C[k].2) ?_
       try (simp [go_sem,ha])
       first | refine cB rfl ?_ | refine bY rfl ?_
       try (simp [go_sem,ha])
       refine a8 (b :=true) (by simp [go_sem,ha]) (fun _ => ?_) (fun h => by cases h)
       (repeat (refine a6 q10x3 hX a7 rfl ?_; (simp [go_sem])))
       simp [wU hb ha]
   · have hkl : k = C.length :=by simp at hb; omega
     subst hkl
     rw [List.take_length] at hok ⊢
     (repeat (refine a6 q10x3 hX a7 rfl ?_; (simp [go_sem])))
     simp [hok]
theorem jW {F : List Fd} (h : fewV F = true) : ∀ k,k ≤ F.length → manyC (F.take k) ≤ 8 * k
 | 0,_ => by simp [manyC]
 | k + 1,hk => by
   rw [i5 (by omega)]
   have :=jW h k (by omega)
   have :=(fG h (List.getElem_mem (show k < F.length by omega))).1
   omega
theorem EW (l : List Int) {k : Nat} (h : l.length ≤ k) : nth (l.map ii) k = .bad :=by
 unfold nth; rw [List.getD_eq_getElem?_getD,List.getElem?_eq_none (by simpa using h)]; rfl
set_option maxHeartbeats 8000000 in
set_option maxRecDepth 20000 in
theorem l9 (F : List Fd) (hf : fewV F = true) : Means true Tryz.prog 10 [.sl (F.map fo)] (bb (rightV F)) :=by
 have h5 :=mS hf
 refine aB true 98 [.tmp 2] Tryz.func10 rfl rfl rfl (by simp) (by decide) rfl fun X hX => ?_
 (repeat (refine a6 q10x1 hX a7 rfl ?_; (simp [go_sem])))
 refine aF (fun k : Nat => ⟨mkE [(0,.sl (F.map fo)),(2,bb false),(3,ii (manyC (F.take k))),(11,.sl (F.map fo)),(12,ii F.length),(13,ii k)],[]⟩) (fun k => k ≤ F.length ∧ okUp F k) (fun k => F.length - k) 0 ?_ ?_ ?_
 · refine aA _ [] (by simp [go_sem]) ?_
   simp [go_sem,manyC]
 · exact ⟨Nat.zero_le _,fun i _ h => absurd h (Nat.not_lt_zero _)⟩
 · rintro k ⟨hk,hok⟩
   have hm :=jW hf k hk
   (repeat (refine a6 q10x1 hX a7 rfl ?_; (simp [go_sem])))
   refine a8 (b :=decide (k < F.length)) (by simp [go_sem]) (fun hb => ?_) (fun hb => ?_)
   · simp at hb
     obtain ⟨hcl,hce⟩ :=fG hf (List.getElem_mem hb)
     have hon :=JS F[k] (by omega)
     have hmk :=i5 hb
     have hno :=fun h1 => wW (k :=k) hb h1
     have hye :=fun h1 => s6 (k :=k) hb hok h1
     rw [okP] at hno hye
     (repeat (refine a6 q10x1 hX a7 rfl ?_; (simp [go_sem,hb])))
     generalize F[k] = f at *
     obtain ⟨h,r,i,C,S⟩ :=f
     simp only at hcl hce hno hye hmk hon ⊢
     refine aF (fun j : Nat => ⟨mkE [(0,.sl (F.map fo)),(2,bb false),(3,ii (manyC (F.take k))),(11,.sl (F.map fo)),(12,ii F.length),(13,ii k),(4,ii k),(5,.el 0 5 0 0),(6,ii (sumI (S.take j))),(19,il S),(20,ii S.length),(21,ii j)],[.row ⟨39,5,[fo ⟨h,r,i,C,S⟩]⟩]⟩) (fun j => j ≤ S.length ∧ okS1 (S.take j) = true) (fun j => S.length - j) 0 ?_ ?_ ?_
     · refine aA _ [.old 0 ⟨39,5,[fo ⟨h,r,i,C,S⟩]⟩] (by simp [go_sem]) ?_
       simp [go_sem,sumI]
     · exact ⟨Nat.zero_le _,by simp [okS1]⟩
     · rintro j ⟨hj,hos⟩
       have hsb :=HT hos
       rw [List.length_take] at hsb
       (repeat (refine a6 q10x1 hX a7 rfl ?_; (simp [go_sem])))
       refine a8 (b :=decide (j < S.length)) (by simp [go_sem]) (fun hc => ?_) (fun hc => ?_)
       · simp at hc
         (repeat (refine a6 q10x1 hX a7 rfl ?_; (simp [go_sem,hc])))
         by_cases hs : inS S[j] = true
         · have hs2 :=u7 hs
           refine a8 (b :=false) (by simp [go_sem]; omega) (fun h => by cases h) (fun _ => ?_)
           have hw :=w64 (x :=sumI (S.take j) + S[j]) (by omega) (by omega)
           (repeat (refine a6 q10x1 hX a7 rfl ?_; (simp [go_sem,hc,hw]; (try simp (disch :=omega) only [w64,td,tm]))))
           refine ⟨j + 1,⟨by omega,C4 hc hos hs⟩,by omega,?_⟩
           refine aA _ [.old 0 ⟨39,5,[fo ⟨h,r,i,C,S⟩]⟩] (by simp [go_sem]) ?_
           simp [go_sem,jT hc,hw]
         · have hs : inS S[j] = false :=by simpa using hs
           refine a8 (b :=true) (by simp [inS] at hs; simp [go_sem]; omega) (fun _ => ?_) (fun h => by cases h)
           (repeat (refine a6 q10x1 hX a7 rfl ?_; (simp [go_sem])))
           have hS0 :=HR hc hs
           rw [hno (by simp [hS0])]
       · have hjl : j = S.length :=by simp at hc; omega
         subst hjl
         rw [List.take_length] at hos hsb ⊢
         simp only [hos,Bool.true_and] at hno hye
         (repeat (refine a6 q10x1 hX a7 rfl ?_; (simp [go_sem])))
         refine a9 (hon) ?_
         try (simp [go_sem])
         (repeat (refine a6 q10x1 hX a7 rfl ?_; (simp [go_sem])))
         refine aJ (fun hg => eY h) ?_
         try (simp [go_sem])
         refine aJ (fun hg => eY r) ?_
         try (simp [go_sem])
         refine aJ (fun hg => eY i) ?_
         by_cases hkS : k < S.length
         · have hgk : S.getD k 0 = S[k] :=bF hkS
           rw [hgk] at hno hye
           try (simp [go_sem,hkS])
           (repeat refine And.intro (by first | omega | (unfold maxLen; omega) | kernel_rfl | (refine ⟨by first | omega | (unfold maxLen; omega),by first | omega | (unfold maxLen; omega)⟩) | grind) ?_)
           have key : (!okCl C || !amt h || !amt r || !amt i || !decide ((S.length : Int) = F.length) || !decide (S[k] = 0) || decide (1000 ≤ sumI S)) = !(okCl C && amt h && amt r && amt i && decide (S.length = F.length) && decide (S[k] = 0) && decide (sumI S < 1000)) :=by
            rw [show decide ((S.length : Int) = F.length) = decide (S.length = F.length) by rw [decide_eq_decide]; omega,show decide (1000 ≤ sumI S) = !decide (sumI S < 1000) by rw [← decide_not,decide_eq_decide]; omega]
            simp only [Bool.not_and]
           cases hB : (okCl C && amt h && amt r && amt i && decide (S.length = F.length) && decide (S[k] = 0) && decide (sumI S < 1000)) with
           | false =>
             rw [hB] at key
             refine a8 (b :=true) (by rw [← show (!false) = true from rfl,← key]; simp [go_sem]) (fun _ => ?_) (fun h => by cases h)
             rw [hno hB]
             (repeat (refine a6 q10x1 hX a7 rfl ?_; (simp [go_sem])))
           | true =>
             rw [hB] at key
             refine a8 (b :=false) (by rw [← show (!true) = false from rfl,← key]; simp [go_sem]) (fun h => by cases h) (fun _ => ?_)
             have hw :=w64 (x :=(manyC (F.take k) : Int) + C.length) (by omega) (by omega)
             (repeat (refine a6 q10x1 hX a7 rfl ?_; (simp [go_sem,hw]; (try simp (disch :=omega) only [w64,td,tm]))))
             refine ⟨k + 1,⟨by omega,hye hB⟩,by omega,?_⟩
             refine aA _ [] (by simp [go_sem]) ?_
             simp [go_sem,hmk,hw]
         · have hno' :=EW S (k :=k) (by omega)
           have hSn : ¬ (S.length : Int) = F.length :=by omega
           have hSn2 : ¬ S.length = F.length :=by omega
           have hR :=hno (by simp [hSn2])
           try (simp [go_sem,hkS,hno',hSn])
           (repeat refine And.intro (by first | omega | (unfold maxLen; omega) | kernel_rfl | (refine ⟨by first | omega | (unfold maxLen; omega),by first | omega | (unfold maxLen; omega)⟩) | grind) ?_)
           refine a8 (b :=true) (by simp [go_sem]) (fun _ => ?_) (fun h => by cases h)
           rw [hR]
           (repeat (refine a6 q10x1 hX a7 rfl ?_; (simp [go_sem])))
   · have hkl : k = F.length :=by simp at hb; omega
     subst hkl
     rw [List.take_length] at hm ⊢
     (repeat (refine a6 q10x1 hX a7 rfl ?_; (simp [go_sem])))
     rw [s7 hok]
     have a1 : decide ((F.length : Int) ≤ 12) = decide (F.length ≤ 12) :=by rw [decide_eq_decide]; omega
     have a2 : decide ((manyC F : Int) ≤ 400) = decide (manyC F ≤ 400) :=by rw [decide_eq_decide]; omega
     rw [a1,a2]
end Go.Proofs.YtknbcehhjffndaaGreat

namespace Go.Proofs.YtknbcehhjffndaaGreat
open Go.RowKit Go.Ab
structure CoinsOk (own : List Int) (S : List (List Int)) : Prop where
 len : (coinL (keptQ own S)).length = own.length
 sum : sumI (coinL (keptQ own S)) = sumI own
 one : ∀ (i : Nat) (hi : i < own.length) (hi' : i < (coinL (keptQ own S)).length),(coinL (keptQ own S))[i] = fl (keptX own S i) ∨ ((coinL (keptQ own S))[i] = fl (keptX own S i) + 1 ∧ 0 < rs (keptX own S i))
 bd : ∀ x ∈ coinL (keptQ own S),0 ≤ x ∧ x ≤ 6597069766657
theorem wY {own : List Int} {S : List (List Int)} (hv : PV own S) (h6 : own.length ≤ 6) : CoinsOk own S ∧ Means false Tryz.prog 17 [fql (keptQ own S)] (.tup [il (coinL (keptQ own S)),ii 0]) :=by
 have hsum : sumR (fun t => (keptQ own S).getD t 0) (keptQ own S).length = ((sumI own : Int) : Rat) :=by
  rw [jS,← pF hv]
  exact aR fun t ht => wK ht
 have hri :=wL hsum
 have hkb :=rT hv h6
 have hKl : (keptQ own S).length = own.length :=jS _ _
 have hK0 : ∀ x ∈ keptQ own S,0 ≤ x ∧ x ≤ ((6597069766656 : Int) : Rat) :=fun x hx => by
  obtain ⟨k,hk,rfl⟩ :=List.mem_map.1 hx
  have hk : k < own.length :=by simpa using hk
  exact ⟨iW hv hk,rV hv h6 hk⟩
 have hmost : ((6597069766656 : Int) : Rat) ≤ most :=Rat.intCast_le_intCast.2 (by decide)
 have hnn : 0 ≤ sumI own - sumI ((keptQ own S).map fl) :=by
  have :=(l6 (keptQ own S) (keptQ own S).length).1
  rw [hri] at this
  exact Rat.intCast_le_intCast.1 (show ((0 : Int) : Rat) ≤ _ from this)
 obtain ⟨m,hm⟩ : ∃ m : Nat,(m : Int) = sumI own - sumI ((keptQ own S).map fl) :=⟨(sumI own - sumI ((keptQ own S).map fl)).toNat,by omega⟩
 rw [← hm] at hri
 have c2 :=HJ (ks :=keptQ own S) (fun k hk => ⟨⟨(hK0 k hk).1,Rat.le_trans (hK0 k hk).2 hmost⟩,hkb k hk⟩) (by rw [hKl]; exact hv.pos) (by rw [hKl]; omega) (by rw [hri,yO])
 obtain ⟨s1,s2,s3⟩ :=C2 hri
 refine ⟨⟨by omega,by omega,fun i hi hi' => ?_,fun x hx => ?_⟩,c2⟩
 · have :=s3 i (by omega) hi'
   rwa [show (keptQ own S)[i]'(by omega) = keptX own S i by simp [keptQ]] at this
 · obtain ⟨k,hk,rfl⟩ :=List.getElem_of_mem hx
   have h1 :=s3 k (by omega) hk
   have h2 :=hK0 _ (List.getElem_mem (show k < (keptQ own S).length by omega))
   have h3 :=pP h2.1 h2.2
   omega
attribute [-simp] List.map_take
attribute [local irreducible] AWP Go.Ab.Sub Means MeansH CallK CallG CallT CallGT CallU
variable {F : List Fd}
theorem JT (h : RV F) (h5 : F.length ≤ 5) : CoinsOk (ownL F) (cedL F) :=(wY (EU h) (by rw [bK]; omega)).1
theorem mB {k : Nat} (h : k < F.length) : (ownL F).take (k + 1) = (ownL F).take k ++ [sumI (nums F[k].claims)] :=by
 rw [List.take_succ_eq_append_getElem (by rw [bK]; exact h)]; simp [ownL]
theorem sD {k : Nat} (h : k < F.length) : (cedL F).take (k + 1) = (cedL F).take k ++ [F[k].cedes] :=by
 rw [List.take_succ_eq_append_getElem (by rw [iZ]; exact h)]; simp [cedL]
theorem wZ (F : List Fd) (hf : fewV F = true) (hr : rightV F = false) : Means false Tryz.prog 6 [.sl (F.map fo)] (.tup [.sl [],ii 1]) :=by
 have c1 :=l9 F hf
 refine aB false 51 [.tmp 2,.tmp 3] Tryz.func6 rfl rfl rfl (by simp) (by decide) rfl fun X hX => ?_
 (repeat (refine a6 q10x2 hX a7 rfl ?_; (simp [go_sem]; try (refine ⟨by kernel_rfl,?_⟩))))
 first | refine a9 (c1) ?_ | refine aE (c1) ?_
 try (simp [go_sem]; try (refine ⟨by kernel_rfl,?_⟩))
 refine a8 (b :=true) (by simp [go_sem,hr]) (fun _ => ?_) (fun h => by cases h)
 (repeat (refine a6 q10x2 hX a7 rfl ?_; (simp [go_sem]; try (refine ⟨by kernel_rfl,?_⟩))))
set_option maxHeartbeats 4000000 in
set_option maxRecDepth 20000 in
theorem yR (F : List Fd) (hf : fewV F = true) (hr : rightV F = true) : Means false Tryz.prog 6 [.sl (F.map fo)] (.tup [il (owedL F),ii 0]) :=by
 have c1 :=l9 F hf
 have h5 :=mS hf
 have hv :=s8 hr
 have hp :=EU hv
 have c2 :=HH hp (by rw [bK]; omega)
 have c3 :=(wY hp (by rw [bK]; omega)).2
 have hoL :=bK F
 have hcL :=iZ F
 refine aB false 51 [.tmp 2,.tmp 3] Tryz.func6 rfl rfl rfl (by simp) (by decide) rfl fun X hX => ?_
 (repeat (refine a6 q10x2 hX a7 rfl ?_; (simp [go_sem]; try (refine ⟨by kernel_rfl,?_⟩))))
 first | refine a9 (c1) ?_ | refine aE (c1) ?_
 try (simp [go_sem]; try (refine ⟨by kernel_rfl,?_⟩))
 refine a8 (b :=false) (by simp [go_sem,hr]) (fun h => by cases h) (fun _ => ?_)
 (repeat (refine a6 q10x2 hX a7 rfl ?_; (simp [go_sem]; try (refine ⟨by kernel_rfl,?_⟩))))
 refine aF (fun k : Nat => ⟨mkE [(16,.sl (F.map fo)),(17,ii F.length),(18,ii k),(4,.ow 0),(5,.ow 1)],[.row ⟨3,1,((ownL F).take k).map ii⟩,.row ⟨25,1,((cedL F).take k).map il⟩]⟩) (fun k => k ≤ F.length) (fun k => F.length - k) 0 ?_ ?_ ?_
 · refine aA _ [.birth 3 1,.birth 25 1] (by simp [go_sem]) ?_
   simp [go_sem]
 · omega
 · intro k hk
   have l1 : ((ownL F).take k).length = k :=by rw [List.length_take]; omega
   have l2 : ((cedL F).take k).length = k :=by rw [List.length_take]; omega
   (repeat (refine a6 q10x2 hX a7 rfl ?_; (simp [go_sem]; try (refine ⟨by kernel_rfl,?_⟩))))
   refine a8 (b :=decide (k < F.length)) (by simp [go_sem]) (fun hb => ?_) (fun hb => ?_)
   · simp at hb
     have hon :=JS F[k] (by have :=(fG hf (List.getElem_mem hb)).1; omega)
     rw [(hv.at' k hb).cla] at hon
     have e1 :=mB hb
     have e2 :=sD hb
     (repeat (refine a6 q10x2 hX a7 rfl ?_; (simp [go_sem,hb]; try (refine ⟨by kernel_rfl,?_⟩))))
     generalize F[k] = f at *
     obtain ⟨h,r,i,C,S⟩ :=f
     simp only [if_true] at hon e1 e2 ⊢
     first | refine a9 (hon) ?_ | refine aE (hon) ?_
     try (simp [go_sem]; try (refine ⟨by kernel_rfl,?_⟩))
     (repeat (first | refine eA ?_ | refine eV ?_ | ((first | refine gC q10x2 hX ?_ | refine gD ?_ | refine gE ?_); (simp [go_sem,l1,l2]; try (refine ⟨by kernel_rfl,?_⟩)))))
     refine oW [0,2,3,4,5,7,8,11,12,15,16,17,18,19,45] 4 hX a7 ?_; (simp [go_sem,l1,l2]; try (refine ⟨by kernel_rfl,?_⟩))
     (repeat refine And.intro (by first | omega | (unfold maxLen; omega) | kernel_rfl | (refine ⟨by first | omega | (unfold maxLen; omega),by first | omega | (unfold maxLen; omega)⟩) | grind) ?_)
     refine ⟨⟨by kernel_rfl,by kernel_rfl⟩,?_⟩
     (repeat (refine a6 q10x2 hX a7 rfl ?_; (simp [go_sem]; (try simp (disch :=omega) only [w64,td,tm]); try (refine ⟨by kernel_rfl,?_⟩))))
     refine ⟨k + 1,by omega,by omega,?_⟩
     refine aA _ [.old 4 ⟨3,1,((ownL F).take (k + 1)).map ii⟩,.old 6 ⟨25,1,((cedL F).take (k + 1)).map il⟩] (by simp [go_sem,e1,e2]) ?_
     simp [go_sem]
   · have hkl : k = F.length :=by simp at hb; omega
     subst hkl
     rw [List.take_of_length_le (by omega),List.take_of_length_le (by omega)]
     (repeat (refine a6 q10x2 hX a7 rfl ?_; (simp [go_sem]; try (refine ⟨by kernel_rfl,?_⟩))))
     refine dO (c2) rfl rfl ?_
     try (simp [go_sem]; try (refine ⟨by kernel_rfl,?_⟩))
     (repeat (refine a6 q10x2 hX a7 rfl ?_; (simp [go_sem]; try (refine ⟨by kernel_rfl,?_⟩))))
     refine a8 (b :=false) (by simp [go_sem]) (fun h => by cases h) (fun _ => ?_)
     (repeat (refine a6 q10x2 hX a7 rfl ?_; (simp [go_sem]; try (refine ⟨by kernel_rfl,?_⟩))))
     first | refine a9 (c3) ?_ | refine aE (c3) ?_
     try (simp [go_sem]; try (refine ⟨by kernel_rfl,?_⟩))
     (repeat (refine a6 q10x2 hX a7 rfl ?_; (simp [go_sem]; try (refine ⟨by kernel_rfl,?_⟩))))
     try rfl
end Go.Proofs.YtknbcehhjffndaaGreat

