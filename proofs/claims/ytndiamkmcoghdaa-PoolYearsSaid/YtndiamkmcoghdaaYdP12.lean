/-
  Lemmas for the statement at the top.
-/
import Derived.Test.YtndiamkmcoghdaaYdP11
import Derived.Test.YtndiamkmcoghdaaYdP9
set_option linter.all false
namespace Go.Proofs.Ytndiamkmcoghdaa
open Go.RowKit Go.Ab
theorem cast_nn {z : Int} (h : 0 ≤ z) : (0 : Rat) ≤ (z : Rat) :=show ((0 : Int) : Rat) ≤ _ from Rat.intCast_le_intCast.2 h
theorem sumR_add (f g : Nat → Rat) (n : Nat) : sumR (fun k => f k + g k) n = sumR f n + sumR g n :=by
 have :=sumR_lin f g 1 1 n
 have e : (fun k => f k + g k) = fun k => 1 * f k + 1 * g k :=by funext k; grind
 rw [e,this]; grind
theorem sumR_mul (f : Nat → Rat) (c : Rat) (n : Nat) : sumR (fun k => c * f k) n = c * sumR f n :=by
 have :=sumR_lin f (fun _ => 0) c 0 n
 have e : (fun k => c * f k) = fun k => c * f k + 0 * 0 :=by funext k; grind
 rw [e,this]; grind
theorem sumR_swap (f : Nat → Nat → Rat) (n : Nat) : ∀ m,sumR (fun i => sumR (fun t => f i t) m) n = sumR (fun t => sumR (fun i => f i t) n) m
 | 0 => by simp only [sumR]; exact sumR_zero fun _ _ => rfl
 | m + 1 => by
   simp only [sumR]
   rw [sumR_add,sumR_swap f n m]
variable {own : List Int} {S : List (List Int)}
theorem kept_eq (h : PV own S) {t : Nat} (ht : t < own.length) : keptX own S t = allX own S t - sumR (fun i => allX own S t * (((sO S t i : Int) : Rat) / 1000)) own.length :=by
 obtain ⟨l,hl,hS,hs⟩ :=row_sum h.toPR ht
 have hg : S.getD t [] = l :=by rw [List.getD_eq_getElem?_getD,hS]; rfl
 have e : sumR (fun i => allX own S t * (((sO S t i : Int) : Rat) / 1000)) own.length = allX own S t * (((sumI l : Int) : Rat) / 1000) :=by
  rw [← hs]
  have e2 : (fun i => allX own S t * (((sO S t i : Int) : Rat) / 1000)) = fun i => (allX own S t / 1000) * ((sO S t i : Int) : Rat) :=by funext i; grind
  rw [e2,sumR_mul]; grind
 unfold keptX
 rw [e,hg,Rat.intCast_sub]
 have : ((1000 : Int) : Rat) = 1000 :=rfl
 rw [this]; grind
theorem kept_sum (h : PV own S) : sumR (keptX own S) own.length = ((sumI own : Int) : Rat) :=by
 have e1 : sumR (keptX own S) own.length = sumR (fun t => allX own S t + (-1) * sumR (fun i => allX own S t * (((sO S t i : Int) : Rat) / 1000)) own.length) own.length :=sumR_congr fun t ht => by rw [kept_eq h ht]; grind
 have e2 : sumR (allX own S) own.length = sumR (fun i => ((wO own i : Int) : Rat) + sumR (fun t => allX own S t * (((sO S t i : Int) : Rat) / 1000)) own.length) own.length :=sumR_congr fun i hi => all_eq h hi
 rw [sumR_add,own_sum,sumR_swap] at e2
 rw [e1,sumR_add,sumR_mul,e2]; grind
theorem kept_nonneg (h : PV own S) {k : Nat} (hk : k < own.length) : 0 ≤ keptX own S k :=by
 have h1 :=all_nonneg h hk
 have h2 :=part_bd h hk
 unfold keptX
 refine Rat.mul_nonneg h1 ?_
 have h3 : (0 : Rat) ≤ ((1000 - sumI (S.getD k []) : Int) : Rat) :=cast_nn (by omega)
 have h4 : ((1000 : Int) : Rat) = 1000 :=rfl
 rw [h4]
 grind
theorem sumR_item {f : Nat → Rat} : ∀ {n : Nat} {k : Nat},k < n → (∀ j,j < n → 0 ≤ f j) → f k ≤ sumR f n
 | n + 1,k,hk,h => by
   simp only [sumR]
   by_cases e : k = n
   · subst e
     have :=sumR_nonneg (f :=f) (n :=k) fun j hj => h j (by omega)
     grind
   · have :=sumR_item (f :=f) (n :=n) (k :=k) (by omega) fun j hj => h j (by omega)
     have :=h n (by omega)
     grind
theorem sumI_bd {B : Int} (hB : 0 ≤ B) : ∀ (l : List Int),(∀ x ∈ l,0 ≤ x ∧ x ≤ B) → 0 ≤ sumI l ∧ sumI l ≤ B * l.length
 | [],_ => by simp [sumI]
 | x :: l,h => by
   have h1 :=h x (by simp)
   have h2 :=sumI_bd hB l fun y hy => h y (by simp [hy])
   simp only [sumI,List.length_cons]
   have : B * ((l.length + 1 : Nat) : Int) = B * l.length + B :=by rw [Int.natCast_add,Int.mul_add]; simp
   omega
theorem own_bd (h : PV own S) (h6 : own.length ≤ 6) : 0 ≤ sumI own ∧ sumI own ≤ 6597069766656 :=by
 have :=sumI_bd (B :=1099511627776) (by decide) own fun x hx => by
  obtain ⟨k,hk,rfl⟩ :=List.getElem_of_mem hx
  have :=h.w k hk
  rwa [show wO own k = own[k] from getD_at hk] at this
 omega
theorem kept_most (h : PV own S) (h6 : own.length ≤ 6) {k : Nat} (hk : k < own.length) : keptX own S k ≤ ((6597069766656 : Int) : Rat) :=by
 have h1 :=sumR_item (f :=keptX own S) hk fun j hj => kept_nonneg h hj
 rw [kept_sum h] at h1
 have h2 : ((sumI own : Int) : Rat) ≤ ((6597069766656 : Int) : Rat) :=Rat.intCast_le_intCast.2 (own_bd h h6).2
 grind
theorem fl_int (z : Int) : fl ((z : Int) : Rat) = z :=by
 unfold fl; rw [Rat.num_intCast,Rat.den_intCast]; simp
theorem rsum_eq (ks : List Rat) : ∀ n,rsum ks n = sumR (fun t => ks.getD t 0) n - sumR (fun t => ((fl (ks.getD t 0) : Int) : Rat)) n
 | 0 => by show (0 : Rat) = 0 - 0; grind
 | n + 1 => by rw [rsum_succ,rsum_eq ks n]; simp only [sumR]; unfold rs; grind
theorem sumI_map (ks : List Rat) : sumR (fun t => ((fl (ks.getD t 0) : Int) : Rat)) ks.length = ((sumI (ks.map fl) : Int) : Rat) :=by
 have :=sumR_list (f :=fun t => fl (ks.getD t 0)) (l :=ks.map fl) (fun j hj => by
  rw [List.length_map] at hj
  simp [List.getD_eq_getElem?_getD,hj]) ks.length (by simp)
 rw [this,List.take_of_length_le (by simp)]
theorem rsum_int {ks : List Rat} {Z : Int} (h : sumR (fun t => ks.getD t 0) ks.length = ((Z : Int) : Rat)) : rsum ks ks.length = ((Z - sumI (ks.map fl) : Int) : Rat) :=by
 rw [rsum_eq,h,sumI_map,Rat.intCast_sub]
theorem sumI_L (l : List Int) : sumI l = sumL l :=by
 induction l with
 | nil => rfl
 | cons x l ih => simp only [sumI,sumL_cons,ih]
theorem coin_spec {ks : List Rat} {m : Nat} (hs : rsum ks ks.length = (((m : Nat) : Int) : Rat)) : (coinL ks).length = ks.length ∧ sumI (coinL ks) = sumI (ks.map fl) + m ∧
  ∀ (i : Nat) (hi : i < ks.length) (hi' : i < (coinL ks).length),(coinL ks)[i] = fl ks[i] ∨ ((coinL ks)[i] = fl ks[i] + 1 ∧ 0 < rs ks[i]) :=by
 have hml : m ≤ ks.length :=by
  have :=(rsum_bd ks ks.length).2
  rw [hs] at this
  have :=Rat.intCast_le_intCast.1 this
  omega
 have hm : (fl (rsum ks ks.length)).toNat = m :=by rw [hs,fl_int]; simp
 obtain ⟨O,hO⟩ : ∃ O,srt (B.kf (ks.map rs)) (idxI ks.length) = O :=⟨_,rfl⟩
 have hc : coinL ks = bumps (ks.map fl) (O.take m) :=by unfold coinL; rw [hm,hO]
 have hp : O.Perm (idxI ks.length) :=by rw [← hO]; exact srt_perm _ _
 have hOn : O.Nodup :=hp.nodup_iff.2 (idxI_nodup _)
 have hOm : ∀ x ∈ O,0 ≤ x ∧ x < ks.length :=fun x hx => idxI_mem.1 (hp.mem_iff.1 hx)
 have hOl : O.length = ks.length :=by rw [hp.length_eq,idxI_len]
 rw [hc]
 refine ⟨by rw [bumps_len,List.length_map],?_,fun i hi hi' => ?_⟩
 · rw [sumI_L,sumI_L,bumps_sum _ _ fun x hx => by rw [List.length_map]; exact hOm x (List.mem_of_mem_take hx),List.length_take]
   omega
 · have hi2 : i < (ks.map fl).length :=by simpa using hi
   rw [bumps_at _ _ i hi2 hi' (hOn.sublist (List.take_sublist _ _)) fun x hx => (hOm x (List.mem_of_mem_take hx)).1,List.getElem_map]
   by_cases hio : (i : Int) ∈ O.take m
   · rw [if_pos hio]
     refine .inr ⟨rfl,?_⟩
     let RI : List Int :=(ks.map rs).map fun r => (r * (cden (ks.map rs) : Rat)).num
     have hRl : RI.length = ks.length :=by simp [RI]
     have hk : ∀ x : Int,kR RI x = B.kf (ks.map rs) x :=fun x => by
      unfold kR B.kf
      by_cases hx : x.toNat < ks.length
      · simp [RI,List.getD_eq_getElem?_getD,hx]
      · rw [List.getD_eq_getElem?_getD,List.getElem?_eq_none (by omega),List.getD_eq_getElem?_getD,List.getElem?_eq_none (by rw [List.length_map]; omega)]
        show (0 : Int) = ((0 : Rat) * _).num
        rw [Rat.zero_mul]; rfl
     have hkf : kR RI = B.kf (ks.map rs) :=funext hk
     have hD :=cden_pos (ks.map rs)
     have hDR : (0 : Rat) < (cden (ks.map rs) : Rat) :=Rat.intCast_pos.2 hD
     have hcast : ∀ r ∈ ks.map rs,(((r * (cden (ks.map rs) : Rat)).num : Int) : Rat) = r * (cden (ks.map rs) : Rat) :=fun r hr => by
      obtain ⟨z,hz⟩ :=cden_int _ r hr
      rw [hz,Rat.num_intCast]
     have hRb : ∀ r ∈ RI,0 ≤ r ∧ r < cden (ks.map rs) :=fun r hr => by
      obtain ⟨q,hq,rfl⟩ :=List.mem_map.1 hr
      have hcq :=hcast q hq
      obtain ⟨k,_,rfl⟩ :=List.mem_map.1 hq
      have h1 :=rs_nonneg k
      have h2 :=rs_lt k
      constructor
      · refine Rat.intCast_le_intCast.1 ?_
        rw [hcq]
        exact Rat.mul_nonneg h1 (Rat.le_of_lt hDR)
      · refine Rat.intCast_lt_intCast.1 ?_
        rw [hcq]
        have :=Rat.mul_lt_mul_of_pos_right h2 hDR
        rwa [Rat.one_mul] at this
     have hsum : sumL RI = cden (ks.map rs) * m :=by
      have e1 :=sumR_list (f :=fun t => RI.getD t 0) (l :=RI) (fun j _ => rfl) RI.length (Nat.le_refl _)
      rw [List.take_length,hRl] at e1
      have e2 : sumR (fun t => ((RI.getD t 0 : Int) : Rat)) ks.length = sumR (fun t => (cden (ks.map rs) : Rat) * rs (ks.getD t 0)) ks.length :=sumR_congr fun t ht => by
       have hmem : rs ks[t] ∈ ks.map rs :=List.mem_map.2 ⟨_,List.getElem_mem ht,rfl⟩
       have h3 : RI.getD t 0 = (rs ks[t] * (cden (ks.map rs) : Rat)).num :=by simp [RI,List.getD_eq_getElem?_getD,ht]
       rw [h3,hcast _ hmem,getQ_lt ht,Rat.mul_comm]
      rw [e2,sumR_mul] at e1
      have e3 : sumR (fun t => rs (ks.getD t 0)) ks.length = rsum ks ks.length :=rfl
      rw [e3,hs,← Rat.intCast_mul] at e1
      rw [← sumI_L]
      exact (Rat.intCast_inj.1 e1).symm
     have hx :=more_pos (R :=RI) (x :=(i : Int)) hD hRb hsum (by rw [hkf,hRl,hO]; exact hio)
     rw [hk] at hx
     have h0 :=B.kf_eq (ks.map rs) (i : Int)
     rw [Int.toNat_natCast] at h0
     have h4 : (ks.map rs).getD i 0 = rs ks[i] :=by simp [List.getD_eq_getElem?_getD,hi]
     rw [h4] at h0
     have h5 : (0 : Rat) < ((B.kf (ks.map rs) (i : Int) : Int) : Rat) :=Rat.intCast_pos.2 hx
     rw [h0] at h5
     have h6 :=rs_nonneg ks[i]
     rcases Rat.le_iff_lt_or_eq.1 h6 with h7 | h7
     · exact h7
     · rw [← h7,Rat.zero_mul] at h5
       exact absurd h5 (by decide)
   · rw [if_neg hio]
     exact .inl (by omega)
end Go.Proofs.Ytndiamkmcoghdaa

namespace Go.Proofs.Ytndiamkmcoghdaa
open Go.RowKit Go.Ab
attribute [local irreducible] AWP Go.Ab.Sub Means MeansH CallK CallG CallT CallGT
theorem total_m (C : List Int) (hl : C.length ≤ 400) (h : Int) : Means true Try.prog 54 [il C,ii h] (.tup [ii (if okC' C then sumL C else 0),bb (rightC C h)]) :=by
 refine means_fn true 37 [.tmp 4,.tmp 5] Try.func54 rfl rfl rfl (by simp) (by decide) rfl fun X hX => ?_
 (repeat (refine awp_stepG [0,1,4,5,6,8,9,10,11,12,20] hX mixed rfl ?_; (simp [go_sem]; try (refine ⟨by kernel_rfl,?_⟩))))
 refine awp_loop (fun n : Nat => ⟨mkE [(0,il C),(1,ii h),(6,ii (sumL (C.take n))),(9,il C),(10,ii C.length),(11,ii n)],[]⟩) (fun n => n ≤ C.length ∧ okC' (C.take n) = true) (fun n => C.length - n) 0 ?_ ?_ ?_
 · refine sub_of _ [] (by simp [go_sem]) ?_
   simp [go_sem]
 · simp [okC']
 · rintro n ⟨hn,hk⟩
   (repeat (refine awp_stepG [0,1,4,5,6,8,9,10,11,12,20] hX mixed rfl ?_; (simp [go_sem]; try (refine ⟨by kernel_rfl,?_⟩))))
   refine awp_cond (b :=decide (n < C.length)) (by simp [go_sem]) (fun hc => ?_) (fun hc => ?_)
   · simp at hc
     (repeat (refine awp_stepG [0,1,4,5,6,8,9,10,11,12,20] hX mixed rfl ?_; (simp [go_sem,hc]; try (refine ⟨by kernel_rfl,?_⟩))))
     refine awp_cond (b :=!inC C[n]) (by simp [go_sem,inC]; rw [Bool.eq_iff_iff]; simp; try omega) (fun hd => ?_) (fun hd => ?_)
     · have e0 :=okC_bad hc (by simpa using hd)
       have e : rightC C h = false :=by rw [rightC,e0]; rfl
       rw [e,if_neg (by rw [e0]; simp)]
       (repeat (refine awp_stepG [0,1,4,5,6,8,9,10,11,12,20] hX mixed rfl ?_; (simp [go_sem]; try (refine ⟨by kernel_rfl,?_⟩))))
     · have hk1 :=okC_succ hc hk (by simpa using hd)
       have h1 :=sum_bd hk1
       have e :=sumL_succ hc
       rw [List.length_take] at h1
       rw [e] at h1
       (repeat (refine awp_stepG [0,1,4,5,6,8,9,10,11,12,20] hX mixed rfl ?_; (simp [go_sem,hc]; (try simp (disch :=omega) only [w64,td,tm]); try (refine ⟨by kernel_rfl,?_⟩))))
       refine ⟨n + 1,⟨by omega,hk1⟩,by omega,?_⟩
       rw [e]
       refine sub_of _ [] (by simp [go_sem]) ?_
       simp [go_sem]
   · have : n = C.length :=by simp at hc; omega
     subst this
     rw [List.take_length] at hk ⊢
     have e : rightC C h = okH C h :=by rw [rightC,hk]; rfl
     rw [e,if_pos hk]
     (repeat (refine awp_stepG [0,1,4,5,6,8,9,10,11,12,20] hX mixed rfl ?_; (simp [go_sem]; try (refine ⟨by kernel_rfl,?_⟩))))
     simp [okH]
theorem filled_m (C : List Int) (hl : C.length ≤ 400) (hok : okC' C = true) (l : Int) (hb : 0 ≤ l ∧ l ≤ 1099511627776) : Means true Try.prog 55 [il C,ii l] (ii (fill C l)) :=by
 refine means_fn true 21 [.tmp 4] Try.func55 rfl rfl rfl (by simp) (by decide) rfl fun X hX => ?_
 (repeat (refine awp_stepG [0,1,4,5,7,8,9,10,11] hX mixed rfl ?_; (simp [go_sem]; try (refine ⟨by kernel_rfl,?_⟩))))
 refine awp_loop (fun n : Nat => ⟨mkE [(0,il C),(1,ii l),(5,ii (fill (C.take n) l)),(8,il C),(9,ii C.length),(10,ii n)],[]⟩) (fun n => n ≤ C.length) (fun n => C.length - n) 0 ?_ ?_ ?_
 · refine sub_of _ [] (by simp [go_sem,fill]) ?_
   simp [go_sem,fill]
 · omega
 · intro n hn
   (repeat (refine awp_stepG [0,1,4,5,7,8,9,10,11] hX mixed rfl ?_; (simp [go_sem]; try (refine ⟨by kernel_rfl,?_⟩))))
   refine awp_cond (b :=decide (n < C.length)) (by simp [go_sem]) (fun hc => ?_) (fun hc => ?_)
   · simp at hc
     have e :=fill_succ hc l
     have h1 :=fill_bd hb (okC_take hok (n + 1))
     rw [List.length_take,e] at h1
     (repeat (refine awp_stepG [0,1,4,5,7,8,9,10,11] hX mixed rfl ?_; (simp [go_sem,hc]; (try simp (disch :=omega) only [w64,td,tm]); try (refine ⟨by kernel_rfl,?_⟩))))
     refine ⟨n + 1,by omega,by omega,?_⟩
     rw [e]
     refine sub_of _ [] (by simp [go_sem]) ?_
     simp [go_sem]
   · have : n = C.length :=by simp at hc; omega
     subst this
     rw [List.take_length]
     (repeat (refine awp_stepG [0,1,4,5,7,8,9,10,11] hX mixed rfl ?_; (simp [go_sem]; try (refine ⟨by kernel_rfl,?_⟩))))
set_option maxHeartbeats 4000000 in
set_option maxRecDepth 20000 in
theorem share_m (C : List Int) (hl : C.length ≤ 400) (h : Int) : Means true Try.prog 28 [il C,ii h] (.tup [il (if rightC C h then share C h else []),ii (if rightC C h then 0 else 1)]) :=by
 have ht :=total_m C hl h
 cases hr : rightC C h with
 | false =>
   rw [hr] at ht
   rw [if_neg (by simp),if_neg (by simp)]
   refine means_fn true 78 [.tmp 4,.tmp 5] Try.func28 rfl rfl rfl (by simp) (by decide) rfl fun X hX => ?_
   (repeat (refine awp_stepG [0,1,4,5,6,7,8,9,10,11,12,14,15,22,25,33,43,52,53,54,55,67] hX mixed rfl ?_; (simp [go_sem]; try (refine ⟨by kernel_rfl,?_⟩))))
   first | refine callKa (ht) ?_ | refine callTa (ht) ?_
   try (simp [go_sem]; try (refine ⟨by kernel_rfl,?_⟩))
   (repeat (refine awp_stepG [0,1,4,5,6,7,8,9,10,11,12,14,15,22,25,33,43,52,53,54,55,67] hX mixed rfl ?_; (simp [go_sem]; try (refine ⟨by kernel_rfl,?_⟩))))
   refine awp_cond (b :=true) (by simp [go_sem]) (fun _ => ?_) (fun h => by cases h)
   (repeat (refine awp_stepG [0,1,4,5,6,7,8,9,10,11,12,14,15,22,25,33,43,52,53,54,55,67] hX mixed rfl ?_; (simp [go_sem]; try (refine ⟨by kernel_rfl,?_⟩))))
 | true =>
   have hr2 :=hr
   simp only [rightC,okH,Bool.and_eq_true,decide_eq_true_eq] at hr2
   obtain ⟨hok,⟨_,hh0⟩,hh1⟩ :=hr2
   rw [hr,if_pos hok] at ht
   rw [if_pos rfl,if_pos rfl]
   have hsb :=sum_bd hok
   by_cases hs : sumL C ≤ h
   · have e : share C h = C :=if_pos hs
     rw [e]
     refine means_fn true 78 [.tmp 4,.tmp 5] Try.func28 rfl rfl rfl (by simp) (by decide) rfl fun X hX => ?_
     (repeat (refine awp_stepG [0,1,4,5,6,7,8,9,10,11,12,14,15,22,25,33,43,52,53,54,55,67] hX mixed rfl ?_; (simp [go_sem]; try (refine ⟨by kernel_rfl,?_⟩))))
     first | refine callKa (ht) ?_ | refine callTa (ht) ?_
     try (simp [go_sem]; try (refine ⟨by kernel_rfl,?_⟩))
     (repeat (refine awp_stepG [0,1,4,5,6,7,8,9,10,11,12,14,15,22,25,33,43,52,53,54,55,67] hX mixed rfl ?_; (simp [go_sem]; try (refine ⟨by kernel_rfl,?_⟩))))
     refine awp_cond (b :=false) (by simp [go_sem]) (fun h => by cases h) (fun _ => ?_)
     (repeat (refine awp_stepG [0,1,4,5,6,7,8,9,10,11,12,14,15,22,25,33,43,52,53,54,55,67] hX mixed rfl ?_; (simp [go_sem]; try (refine ⟨by kernel_rfl,?_⟩))))
     refine awp_cond (b :=true) (by simp [go_sem,hs]) (fun _ => ?_) (fun h => by cases h)
     (repeat (refine awp_stepG [0,1,4,5,6,7,8,9,10,11,12,14,15,22,25,33,43,52,53,54,55,67] hX mixed rfl ?_; (simp [go_sem]; try (refine ⟨by kernel_rfl,?_⟩))))
     first | refine callH_intro [] (clone_h C (by omega)) (by simp [go_sem]) ?_ | refine callTQ_intro [] (clone_h C (by omega)) (by simp [go_sem]) ?_ | refine callTE_intro [] (clone_h C (by omega)) (by simp [go_sem]) ?_
     try (simp [go_sem]; try (refine ⟨by kernel_rfl,?_⟩))
     (repeat (refine awp_stepG [0,1,4,5,6,7,8,9,10,11,12,14,15,22,25,33,43,52,53,54,55,67] hX mixed rfl ?_; (simp [go_sem]; try (refine ⟨by kernel_rfl,?_⟩))))
   · refine means_fn true 78 [.tmp 4,.tmp 5] Try.func28 rfl rfl rfl (by simp) (by decide) rfl fun X hX => ?_
     (repeat (refine awp_stepG [0,1,4,5,6,7,8,9,10,11,12,14,15,22,25,33,43,52,53,54,55,67] hX mixed rfl ?_; (simp [go_sem]; try (refine ⟨by kernel_rfl,?_⟩))))
     first | refine callKa (ht) ?_ | refine callTa (ht) ?_
     try (simp [go_sem]; try (refine ⟨by kernel_rfl,?_⟩))
     (repeat (refine awp_stepG [0,1,4,5,6,7,8,9,10,11,12,14,15,22,25,33,43,52,53,54,55,67] hX mixed rfl ?_; (simp [go_sem]; try (refine ⟨by kernel_rfl,?_⟩))))
     refine awp_cond (b :=false) (by simp [go_sem]) (fun h => by cases h) (fun _ => ?_)
     (repeat (refine awp_stepG [0,1,4,5,6,7,8,9,10,11,12,14,15,22,25,33,43,52,53,54,55,67] hX mixed rfl ?_; (simp [go_sem]; try (refine ⟨by kernel_rfl,?_⟩))))
     refine awp_cond (b :=false) (by simp [go_sem]; omega) (fun h => by cases h) (fun _ => ?_)
     (repeat (refine awp_stepG [0,1,4,5,6,7,8,9,10,11,12,14,15,22,25,33,43,52,53,54,55,67] hX mixed rfl ?_; (simp [go_sem]; try (refine ⟨by kernel_rfl,?_⟩))))
     refine awp_loop (fun x : Int × Int => ⟨mkE [(0,il C),(1,ii h),(8,ii x.1),(9,ii x.2)],[]⟩) (fun x => 0 ≤ x.1 ∧ x.1 ≤ x.2 ∧ x.2 ≤ 1099511627776 ∧ fill C x.1 ≤ h ∧ (x.2 < 1099511627776 → h < fill C (x.2 + 1))) (fun x => (x.2 - x.1).toNat) (0,1099511627776) ?_ ?_ ?_
     · refine sub_of _ [] (by simp [go_sem]) ?_
       simp [go_sem]
     · exact ⟨by omega,by omega,by omega,by rw [fill_zero hok]; omega,fun hx => absurd hx (by omega)⟩
     · rintro ⟨lo,hi⟩ ⟨h1,h2,h3,h4,h5⟩
       simp only [] at h1 h2 h3 h4 h5
       (repeat (refine awp_stepG [0,1,4,5,6,7,8,9,10,11,12,14,15,22,25,33,43,52,53,54,55,67] hX mixed rfl ?_; (simp [go_sem]; try (refine ⟨by kernel_rfl,?_⟩))))
       refine awp_cond (b :=decide (lo < hi)) (by simp [go_sem]) (fun hc => ?_) (fun hc => ?_)
       · simp at hc
         have hm : lo < (lo + hi + 1) / 2 ∧ (lo + hi + 1) / 2 ≤ hi :=by omega
         have htd : (lo + hi + 1).tdiv 2 = (lo + hi + 1) / 2 :=Int.tdiv_eq_ediv_of_nonneg (by omega)
         obtain ⟨m,hme⟩ : ∃ m,(lo + hi + 1) / 2 = m :=⟨_,rfl⟩
         rw [hme] at hm htd
         (repeat (refine awp_stepG [0,1,4,5,6,7,8,9,10,11,12,14,15,22,25,33,43,52,53,54,55,67] hX mixed rfl ?_; (simp [go_sem,htd,hme]; (try simp (disch :=omega) only [w64,td,tm]); try (refine ⟨by kernel_rfl,?_⟩))))
         try (simp [go_sem,htd,hme]; try (refine ⟨by kernel_rfl,?_⟩))
         first | refine callKa (filled_m C hl hok m (by omega)) ?_ | refine callTa (filled_m C hl hok m (by omega)) ?_
         try (simp [go_sem]; try (refine ⟨by kernel_rfl,?_⟩))
         refine awp_cond (b :=decide (fill C m ≤ h)) (by simp [go_sem]) (fun hd => ?_) (fun hd => ?_)
         · simp at hd
           (repeat (refine awp_stepG [0,1,4,5,6,7,8,9,10,11,12,14,15,22,25,33,43,52,53,54,55,67] hX mixed rfl ?_; (simp [go_sem]; (try simp (disch :=omega) only [w64,td,tm]); try (refine ⟨by kernel_rfl,?_⟩))))
           refine ⟨m,hi,⟨by omega,by omega,h3,hd,h5⟩,by omega,?_⟩
           refine sub_of _ [] (by simp [go_sem]) ?_
           simp [go_sem]
         · simp at hd
           (repeat (refine awp_stepG [0,1,4,5,6,7,8,9,10,11,12,14,15,22,25,33,43,52,53,54,55,67] hX mixed rfl ?_; (simp [go_sem]; (try simp (disch :=omega) only [w64,td,tm]); try (refine ⟨by kernel_rfl,?_⟩))))
           refine ⟨lo,m - 1,⟨h1,by omega,by omega,h4,fun _ => by rw [show m - 1 + 1 = m by omega]; omega⟩,by omega,?_⟩
           refine sub_of _ [] (by simp [go_sem]) ?_
           simp [go_sem]
       · have hlh : lo = hi :=by simp at hc; omega
         subst hlh
         have hlt : lo < 1099511627776 :=by
          rcases Int.lt_or_le lo 1099511627776 with q | q
          · exact q
          · exfalso
            have : fill C lo = sumL C :=fill_top fun c hc => by have :=okC_mem hok hc; omega
            omega
         have hlv : isLv C h lo :=⟨h1,h4,h5 hlt⟩
         have e : share C h = shr lo (h - fill C lo) C :=by rw [share,if_neg hs,lvl_eq hlv]
         have hle :=isLv_left hlv
         have hfb :=fill_bd (C :=C) ⟨h1,by omega⟩ hok
         rw [e]
         obtain ⟨q,hq⟩ : ∃ q,h - fill C lo = q :=⟨_,rfl⟩
         rw [hq] at hle ⊢
         have hqb : 0 ≤ q ∧ q ≤ 1125899906842624 :=by omega
         have hwq :=w64 (x :=q) (by omega) (by omega)
         (repeat (refine awp_stepG [0,1,4,5,6,7,8,9,10,11,12,14,15,22,25,33,43,52,53,54,55,67] hX mixed rfl ?_; (simp [go_sem]; try (refine ⟨by kernel_rfl,?_⟩))))
         first | refine callKa (filled_m C hl hok lo ⟨h1,by omega⟩) ?_ | refine callTa (filled_m C hl hok lo ⟨h1,by omega⟩) ?_
         try (simp [go_sem,hq,hwq]; try (refine ⟨by kernel_rfl,?_⟩))
         (repeat (refine awp_stepG [0,1,4,5,6,7,8,9,10,11,12,14,15,22,25,33,43,52,53,54,55,67] hX mixed rfl ?_; (simp [go_sem,hq,hwq]; try (refine ⟨by kernel_rfl,?_⟩))))
         refine awp_loop (fun k : Nat => ⟨mkE [(8,ii lo),(11,ii (leftA lo q (C.take k))),(12,.ow 0),(52,il C),(53,ii C.length),(54,ii k)],[rowI (shr lo q (C.take k))]⟩) (fun k => k ≤ C.length) (fun k => C.length - k) 0 ?_ ?_ ?_
         · refine sub_of _ [.birth 3 1] (by simp [go_sem,shr,leftA]) ?_
           simp [go_sem,shr,leftA]
         · omega
         · intro k hk
           have hll :=shr_len lo (C.take k) q
           rw [List.length_take] at hll
           have hlb :=leftA_bd lo (C.take k) q hqb.1
           (repeat (refine awp_stepG [0,1,4,5,6,7,8,9,10,11,12,14,15,22,25,33,43,52,53,54,55,67] hX mixed rfl ?_; (simp [go_sem]; try (refine ⟨by kernel_rfl,?_⟩))))
           refine awp_cond (b :=decide (k < C.length)) (by simp [go_sem]) (fun hc => ?_) (fun hc => ?_)
           · simp at hc
             have es :=shr_succ (l :=lo) (left :=q) hc
             have el :=leftA_succ (l :=lo) (left :=q) hc
             have hcr :=okC_mem hok (List.getElem_mem hc)
             (repeat (refine awp_stepG [0,1,4,5,6,7,8,9,10,11,12,14,15,22,25,33,43,52,53,54,55,67] hX mixed rfl ?_; (simp [go_sem,hc]; try (refine ⟨by kernel_rfl,?_⟩))))
             refine awp_cond (b :=decide (lo < C[k] ∧ 0 < leftA lo q (C.take k))) (by simp [go_sem]) (fun hd => ?_) (fun hd => ?_)
             · simp only [decide_eq_true_eq] at hd
               have e1 : share1 lo (leftA lo q (C.take k)) C[k] = min C[k] lo + 1 :=by rw [share1,if_pos hd]; omega
               rw [if_pos hd] at el
               rw [e1] at es
               (repeat (refine awp_stepG [0,1,4,5,6,7,8,9,10,11,12,14,15,22,25,33,43,52,53,54,55,67] hX mixed rfl ?_; (simp [go_sem]; (try simp (disch :=omega) only [w64,td,tm]); try (refine ⟨by kernel_rfl,?_⟩))))
               (repeat refine And.intro (by first | omega | (unfold maxLen; omega) | kernel_rfl | (refine ⟨by first | omega | (unfold maxLen; omega),by first | omega | (unfold maxLen; omega)⟩) | grind) ?_)
               (repeat (refine awp_stepG [0,1,4,5,6,7,8,9,10,11,12,14,15,22,25,33,43,52,53,54,55,67] hX mixed rfl ?_; (simp [go_sem]; (try simp (disch :=omega) only [w64,td,tm]); try (refine ⟨by kernel_rfl,?_⟩))))
               refine ⟨k + 1,by omega,by omega,?_⟩
               rw [es,el]
               refine sub_of _ [.old 2 ⟨3,1,(shr lo q (C.take k) ++ [min C[k] lo + 1]).map ii⟩] (by simp [go_sem]) ?_
               simp [go_sem]
             · simp only [decide_eq_false_iff_not] at hd
               have e1 : share1 lo (leftA lo q (C.take k)) C[k] = min C[k] lo :=by rw [share1,if_neg hd]
               rw [if_neg hd] at el
               rw [e1] at es
               (repeat (refine awp_stepG [0,1,4,5,6,7,8,9,10,11,12,14,15,22,25,33,43,52,53,54,55,67] hX mixed rfl ?_; (simp [go_sem]; (try simp (disch :=omega) only [w64,td,tm]); try (refine ⟨by kernel_rfl,?_⟩))))
               (repeat refine And.intro (by first | omega | (unfold maxLen; omega) | kernel_rfl | (refine ⟨by first | omega | (unfold maxLen; omega),by first | omega | (unfold maxLen; omega)⟩) | grind) ?_)
               (repeat (refine awp_stepG [0,1,4,5,6,7,8,9,10,11,12,14,15,22,25,33,43,52,53,54,55,67] hX mixed rfl ?_; (simp [go_sem]; (try simp (disch :=omega) only [w64,td,tm]); try (refine ⟨by kernel_rfl,?_⟩))))
               refine ⟨k + 1,by omega,by omega,?_⟩
               rw [es,el,Int.sub_zero]
               refine sub_of _ [.old 2 ⟨3,1,(shr lo q (C.take k) ++ [min C[k] lo]).map ii⟩] (by simp [go_sem]) ?_
               simp [go_sem]
           · have : k = C.length :=by simp at hc; omega
             subst this
             rw [List.take_length]
             (repeat (refine awp_stepG [0,1,4,5,6,7,8,9,10,11,12,14,15,22,25,33,43,52,53,54,55,67] hX mixed rfl ?_; (simp [go_sem]; try (refine ⟨by kernel_rfl,?_⟩))))
end Go.Proofs.Ytndiamkmcoghdaa

namespace Go.Proofs.Ytndiamkmcoghdaa
theorem lv_ex' {C : List Int} {h : Int} (hok : okC' C = true) (hh : 0 ≤ h) : ∀ n : Nat,h < fill C n → ∃ l,isLv C h l
 | 0,hn => by rw [Int.natCast_zero,fill_zero hok] at hn; omega
 | n + 1,hn => by
   by_cases h1 : h < fill C n
   · exact lv_ex' hok hh n h1
   · exact ⟨n,⟨by omega,by omega,by simpa using hn⟩⟩
theorem lv_ex {C : List Int} {h : Int} (hok : okC' C = true) (hh : 0 ≤ h) (hs : ¬ sumL C ≤ h) : ∃ l,isLv C h l :=by
 refine lv_ex' hok hh 1099511627776 ?_
 rw [fill_top fun c hc => by have :=okC_mem hok hc; omega]; omega
theorem share_cases {C : List Int} {h : Int} (hok : okC' C = true) (hh : 0 ≤ h) : (sumL C ≤ h ∧ share C h = C) ∨ (¬ sumL C ≤ h ∧ ∃ l,isLv C h l ∧ share C h = shr l (h - fill C l) C) :=by
 by_cases hs : sumL C ≤ h
 · exact .inl ⟨hs,if_pos hs⟩
 · obtain ⟨l,hl⟩ :=lv_ex hok hh hs
   exact .inr ⟨hs,l,hl,by rw [share,if_neg hs,lvl_eq hl]⟩
theorem share_len {C : List Int} {h : Int} (hok : okC' C = true) (hh : 0 ≤ h) : (share C h).length = C.length :=by
 rcases share_cases hok hh with ⟨_,e⟩ | ⟨_,l,_,e⟩
 · rw [e]
 · rw [e,shr_len]
theorem share_sum {C : List Int} {h : Int} (hok : okC' C = true) (hh : 0 ≤ h) : sumL (share C h) = min h (sumL C) :=by
 rcases share_cases hok hh with ⟨hs,e⟩ | ⟨hs,l,hl,e⟩
 · rw [e]; omega
 · have :=isLv_left hl
   rw [e,shr_sum l C _ this.1 (by omega)]; omega
theorem shr_at (l : Int) : ∀ (C : List Int) (q : Int) (i : Nat) (h : i < C.length) (h' : i < (shr l q C).length),(shr l q C)[i] = share1 l (leftA l q (C.take i)) C[i]
 | c :: C,q,0,_,_ => by
   simp only [shr,List.take_zero,leftA,share1,List.getElem_cons_zero]
   split <;> rfl
 | c :: C,q,i + 1,h,h' => by
   have h2 : i < C.length :=by simpa using h
   simp only [List.take_succ_cons,leftA,List.getElem_cons_succ]
   by_cases hc : l < c ∧ 0 < q
   · have e : shr l q (c :: C) = (l + 1) :: shr l (q - 1) C :=by rw [shr,if_pos hc]
     rw [if_pos hc]
     simp only [e,List.getElem_cons_succ]
     exact shr_at l C (q - 1) i h2 (by rw [shr_len]; exact h2)
   · have e : shr l q (c :: C) = min c l :: shr l q C :=by rw [shr,if_neg hc]
     rw [if_neg hc]
     simp only [e,List.getElem_cons_succ]
     exact shr_at l C q i h2 (by rw [shr_len]; exact h2)
theorem share_in {C : List Int} {h : Int} (hok : okC' C = true) (hh : 0 ≤ h) {i : Nat} (hi : i < C.length) (hi' : i < (share C h).length) : 0 ≤ (share C h)[i] ∧ (share C h)[i] ≤ C[i] :=by
 have hc :=okC_mem hok (List.getElem_mem hi)
 rcases share_cases hok hh with ⟨hs,e⟩ | ⟨hs,l,hl,e⟩
 · simp only [e]; omega
 · have h0 :=hl.low
   simp only [e]
   rw [shr_at l C _ i hi]
   unfold share1; split <;> omega
end Go.Proofs.Ytndiamkmcoghdaa

namespace Go.Proofs.Ytndiamkmcoghdaa
open Go.RowKit Go.Ab
structure Fd where
 holds : Int
 reserve : Int
 income : Int
 claims : List (Int × Int)
 cedes : List Int
abbrev dF : Fd :=⟨0,0,0,[],[]⟩
abbrev cl (c : Int × Int) : AV :=.agg [ii c.1,ii c.2]
abbrev awl (l : List (Int × Int)) : AV :=.sl (l.map cl)
abbrev fo (f : Fd) : AV :=.agg [ii f.holds,ii f.reserve,ii f.income,awl f.claims,il f.cedes]
@[go_sem] theorem nth_cl {L : List (Int × Int)} {k : Nat} (h : k < L.length) : nth (L.map cl) k = cl L[k] :=nth_map cl h
@[go_sem] theorem nth_fo {L : List Fd} {k : Nat} (h : k < L.length) : nth (L.map fo) k = fo L[k] :=nth_map fo h
@[go_sem] theorem nth_awl {L : List (List (Int × Int))} {k : Nat} (h : k < L.length) : nth (L.map awl) k = awl L[k] :=nth_map awl h
def amt (n : Int) : Bool :=decide (0 ≤ n) && decide (n ≤ 1099511627776)
theorem amt_bd {n : Int} (h : amt n = true) : 0 ≤ n ∧ n ≤ 1099511627776 :=by simpa [amt] using h
def nums (cs : List (Int × Int)) : List Int :=cs.map (·.2)
theorem nums_len (cs : List (Int × Int)) : (nums cs).length = cs.length :=by simp [nums]
theorem nums_next {cs : List (Int × Int)} {k : Nat} (h : k < cs.length) : nums (cs.take (k + 1)) = nums (cs.take k) ++ [cs[k].2] :=by
 unfold nums; rw [List.take_succ_eq_append_getElem h,List.map_append]; rfl
theorem sumI_app (a b : List Int) : sumI (a ++ b) = sumI a + sumI b :=by
 induction a with
 | nil => simp [sumI]
 | cons x a ih => simp only [List.cons_append,sumI,ih]; omega
theorem sumI_next {l : List Int} {k : Nat} (h : k < l.length) : sumI (l.take (k + 1)) = sumI (l.take k) + l[k] :=by rw [List.take_succ_eq_append_getElem h,sumI_snoc]
theorem sumI_nn {l : List Int} (h : ∀ x ∈ l,0 ≤ x) : 0 ≤ sumI l :=by
 induction l with
 | nil => simp [sumI]
 | cons x l ih =>
   have h1 :=h x (by simp)
   have h2 :=ih fun y hy => h y (by simp [hy])
   simp only [sumI]; omega
def okCl (cs : List (Int × Int)) : Bool :=(nums cs).all amt && decide (sumI (nums cs) ≤ 1099511627776)
theorem okCl_mem {cs : List (Int × Int)} (h : okCl cs = true) {x : Int} (hx : x ∈ nums cs) : 0 ≤ x ∧ x ≤ 1099511627776 :=by
 simp only [okCl,Bool.and_eq_true,List.all_eq_true] at h
 exact amt_bd (h.1 x hx)
theorem okCl_bd {cs : List (Int × Int)} (h : okCl cs = true) : 0 ≤ sumI (nums cs) ∧ sumI (nums cs) ≤ 1099511627776 :=by
 refine ⟨sumI_nn fun x hx => (okCl_mem h hx).1,?_⟩
 simp only [okCl,Bool.and_eq_true,decide_eq_true_eq] at h
 exact h.2
theorem okCl_next {cs : List (Int × Int)} {k : Nat} (hk : k < cs.length) (h : okCl (cs.take k) = true) (h1 : amt cs[k].2 = true) (h2 : amt (sumI (nums (cs.take k)) + cs[k].2) = true) : okCl (cs.take (k + 1)) = true :=by
 simp only [okCl,Bool.and_eq_true,decide_eq_true_eq] at h ⊢
 rw [nums_next hk,List.all_append,sumI_snoc]
 exact ⟨by simp [h.1,h1],(amt_bd h2).2⟩
theorem okCl_no1 {cs : List (Int × Int)} {k : Nat} (hk : k < cs.length) (h1 : amt cs[k].2 = false) : okCl cs = false :=by
 have : (nums cs).all amt = false :=List.all_eq_false.2 ⟨cs[k].2,List.mem_map.2 ⟨cs[k],List.getElem_mem hk,rfl⟩,by simp [h1]⟩
 simp [okCl,this]
theorem okCl_no2 {cs : List (Int × Int)} {k : Nat} (hk : k < cs.length) (h : okCl (cs.take k) = true) (h1 : amt cs[k].2 = true) (h2 : amt (sumI (nums (cs.take k)) + cs[k].2) = false) : okCl cs = false :=by
 cases hc : okCl cs with
 | false => rfl
 | true =>
   have hb :=okCl_bd hc
   have h0 :=okCl_bd h
   have h3 :=amt_bd h1
   have e : nums cs = nums (cs.take (k + 1)) ++ nums (cs.drop (k + 1)) :=by unfold nums; rw [← List.map_append,List.take_append_drop]
   have hd : 0 ≤ sumI (nums (cs.drop (k + 1))) :=sumI_nn fun x hx => (okCl_mem hc (by rw [e]; exact List.mem_append_right _ hx)).1
   rw [e,sumI_app,nums_next hk,sumI_snoc] at hb
   have : ¬ (0 ≤ sumI (nums (cs.take k)) + cs[k].2 ∧ sumI (nums (cs.take k)) + cs[k].2 ≤ 1099511627776) :=by
    intro hh
    rw [amt] at h2
    simp [hh.1,hh.2] at h2
   omega
def inS (c : Int) : Bool :=decide (0 ≤ c) && decide (c < 1000)
theorem inS_bd {c : Int} (h : inS c = true) : 0 ≤ c ∧ c < 1000 :=by simpa [inS] using h
def okS1 (l : List Int) : Bool :=l.all inS
theorem okS1_next {l : List Int} {k : Nat} (hk : k < l.length) (h : okS1 (l.take k) = true) (h1 : inS l[k] = true) : okS1 (l.take (k + 1)) = true :=by
 unfold okS1 at *
 rw [List.take_succ_eq_append_getElem hk,List.all_append,h]; simp [h1]
theorem okS1_no {l : List Int} {k : Nat} (hk : k < l.length) (h1 : inS l[k] = false) : okS1 l = false :=List.all_eq_false.2 ⟨l[k],List.getElem_mem hk,by simp [h1]⟩
theorem okS1_bd {l : List Int} (h : okS1 l = true) : 0 ≤ sumI l ∧ sumI l ≤ 1000 * l.length :=by
 induction l with
 | nil => simp [sumI]
 | cons x l ih =>
   simp only [okS1,List.all_cons,Bool.and_eq_true] at h
   have h1 :=inS_bd h.1
   have h2 :=ih h.2
   simp only [sumI,List.length_cons]; omega
def okP (n i : Nat) (f : Fd) : Bool :=okS1 f.cedes && okCl f.claims && amt f.holds && amt f.reserve && amt f.income && decide (f.cedes.length = n) && decide (f.cedes.getD i 0 = 0) && decide (sumI f.cedes < 1000)
def manyC (F : List Fd) : Nat :=(F.map fun f => f.claims.length).sum
theorem manyC_next {F : List Fd} {k : Nat} (h : k < F.length) : manyC (F.take (k + 1)) = manyC (F.take k) + F[k].claims.length :=by
 unfold manyC; rw [List.take_succ_eq_append_getElem h,List.map_append,List.sum_append]; simp
def okUp (F : List Fd) (k : Nat) : Prop :=∀ i (h : i < F.length),i < k → okP F.length i F[i] = true
instance (F : List Fd) (k : Nat) : Decidable (okUp F k) :=Nat.decidableBallLT _ _
def rightV (F : List Fd) : Bool :=decide (okUp F F.length) && decide (0 < F.length) && decide (F.length ≤ 12) && decide (manyC F ≤ 400)
theorem okUp_next {F : List Fd} {k : Nat} (hk : k < F.length) (h : okUp F k) (h1 : okP F.length k F[k] = true) : okUp F (k + 1) :=fun i hi hik => by
 by_cases e : i = k
 · subst e; exact h1
 · exact h i hi (by omega)
theorem right_no {F : List Fd} {k : Nat} (hk : k < F.length) (h1 : okP F.length k F[k] = false) : rightV F = false :=by
 have : ¬ okUp F F.length :=fun h => by
  have :=h k hk hk
  rw [h1] at this; cases this
 simp [rightV,this]
theorem right_yes {F : List Fd} (h : okUp F F.length) : rightV F = (decide (0 < F.length) && decide (F.length ≤ 12) && decide (manyC F ≤ 400)) :=by simp [rightV,h]
def ownL (F : List Fd) : List Int :=F.map fun f => sumI (nums f.claims)
def cedL (F : List Fd) : List (List Int) :=F.map (·.cedes)
theorem ownL_len (F : List Fd) : (ownL F).length = F.length :=by simp [ownL]
theorem cedL_len (F : List Fd) : (cedL F).length = F.length :=by simp [cedL]
structure OkP (n i : Nat) (f : Fd) : Prop where
 ced : okS1 f.cedes = true
 cla : okCl f.claims = true
 hol : 0 ≤ f.holds ∧ f.holds ≤ 1099511627776
 res : 0 ≤ f.reserve ∧ f.reserve ≤ 1099511627776
 inc : 0 ≤ f.income ∧ f.income ≤ 1099511627776
 len : f.cedes.length = n
 self : f.cedes.getD i 0 = 0
 lt : sumI f.cedes < 1000
theorem okP_iff {n i : Nat} {f : Fd} (h : okP n i f = true) : OkP n i f :=by
 simp only [okP,Bool.and_eq_true,decide_eq_true_eq] at h
 obtain ⟨⟨⟨⟨⟨⟨⟨h1,h2⟩,h3⟩,h4⟩,h5⟩,h6⟩,h7⟩,h8⟩ :=h
 exact ⟨h1,h2,amt_bd h3,amt_bd h4,amt_bd h5,h6,h7,h8⟩
structure RV (F : List Fd) : Prop where
 at' : ∀ i (h : i < F.length),OkP F.length i F[i]
 pos : 0 < F.length
 most : F.length ≤ 12
 many : manyC F ≤ 400
theorem rv_of {F : List Fd} (h : rightV F = true) : RV F :=by
 simp only [rightV,Bool.and_eq_true,decide_eq_true_eq] at h
 exact ⟨fun i hi => okP_iff (h.1.1.1 i hi hi),h.1.1.2,h.1.2,h.2⟩
theorem inS_at {l : List Int} (h : okS1 l = true) (j : Nat) : 0 ≤ l.getD j 0 ∧ l.getD j 0 ≤ 1000 :=by
 by_cases hj : j < l.length
 · have :=inS_bd (List.all_eq_true.1 h l[j] (List.getElem_mem hj))
   rw [getD_at hj]; omega
 · rw [List.getD_eq_getElem?_getD,List.getElem?_eq_none (by omega)]; simp
theorem pv_of {F : List Fd} (h : RV F) : PV (ownL F) (cedL F) :=by
 have hO : ∀ k (hk : k < F.length),wO (ownL F) k = sumI (nums F[k].claims) :=fun k hk => by
  unfold wO; rw [getD_at (by rw [ownL_len]; exact hk)]; simp [ownL]
 have hS : ∀ i (hi : i < F.length) (j : Nat),sO (cedL F) i j = F[i].cedes.getD j 0 :=fun i hi j => by
  unfold sO
  rw [List.getD_eq_getElem?_getD (l :=cedL F),List.getElem?_eq_getElem (by rw [cedL_len]; exact hi)]
  simp [cedL]
 refine ⟨⟨?_,?_,?_,?_,?_,?_,?_⟩,?_⟩
 · rw [ownL_len]; exact h.pos
 · rw [ownL_len]; exact h.most
 · rw [ownL_len,cedL_len]
 · intro k hk
   rw [ownL_len] at hk
   rw [hO k hk]
   exact okCl_bd (h.at' k hk).cla
 · intro l hl
   obtain ⟨f,hf,rfl⟩ :=List.mem_map.1 hl
   obtain ⟨i,hi,rfl⟩ :=List.getElem_of_mem hf
   rw [ownL_len]; exact (h.at' i hi).len
 · intro i j hi _
   rw [ownL_len] at hi
   rw [hS i hi]
   exact inS_at (h.at' i hi).ced j
 · intro i hi
   rw [ownL_len] at hi
   rw [hS i hi]
   exact (h.at' i hi).self
 · intro l hl
   obtain ⟨f,hf,rfl⟩ :=List.mem_map.1 hl
   obtain ⟨i,hi,rfl⟩ :=List.getElem_of_mem hf
   exact (h.at' i hi).lt
def owedL (F : List Fd) : List Int :=coinL (keptQ (ownL F) (cedL F))
def fewV (F : List Fd) : Bool :=(F.all fun f => decide (f.claims.length ≤ 8) && decide (f.cedes.length ≤ 14)) && decide (F.length ≤ 5)
theorem few_at {F : List Fd} (h : fewV F = true) {f : Fd} (hf : f ∈ F) : f.claims.length ≤ 8 ∧ f.cedes.length ≤ 14 :=by
 simp only [fewV,Bool.and_eq_true,List.all_eq_true,decide_eq_true_eq] at h
 exact h.1 f hf
theorem few_5 {F : List Fd} (h : fewV F = true) : F.length ≤ 5 :=by
 simp only [fewV,Bool.and_eq_true,decide_eq_true_eq] at h
 exact h.2
abbrev freeV (f : Fd) : Int :=f.income + f.holds
abbrev payV (f : Fd) (q : Int) : Int :=min q (freeV f + f.reserve)
def outF (f : Fd) (q : Int) : Fd :=⟨freeV f - min q (min (freeV f + f.reserve) (freeV f)),f.reserve - (min q (freeV f + f.reserve) - min q (min (freeV f + f.reserve) (freeV f))),0,[],f.cedes⟩
def outK (F : List Fd) (o : List Int) (k : Nat) : List Fd :=(List.range k).map fun i => outF (F.getD i dF) (o.getD i 0)
def paidK (F : List Fd) (o : List Int) (k : Nat) : Int :=sumI ((List.range k).map fun i => payV (F.getD i dF) (o.getD i 0))
def asksK (F : List Fd) (k : Nat) : List Int :=(F.take k).flatMap fun f => nums f.claims
theorem getF {F : List Fd} {k : Nat} (h : k < F.length) : F.getD k dF = F[k] :=by rw [List.getD_eq_getElem?_getD,List.getElem?_eq_getElem h]; rfl
theorem outK_next {F : List Fd} {o : List Int} {k : Nat} (h : k < F.length) (ho : k < o.length) : outK F o (k + 1) = outK F o k ++ [outF F[k] o[k]] :=by
 unfold outK; rw [List.range_succ,List.map_append,← getF h,← getD_at ho]; rfl
theorem paidK_next {F : List Fd} {o : List Int} {k : Nat} (h : k < F.length) (ho : k < o.length) : paidK F o (k + 1) = paidK F o k + payV F[k] o[k] :=by
 unfold paidK; rw [List.range_succ,List.map_append,List.map_cons,List.map_nil,sumI_snoc,getF h,getD_at ho]
theorem asksK_next {F : List Fd} {k : Nat} (h : k < F.length) : asksK F (k + 1) = asksK F k ++ nums F[k].claims :=by
 unfold asksK; rw [List.take_succ_eq_append_getElem h,List.flatMap_append]; simp
def asksJ (F : List Fd) (k j : Nat) : List Int :=asksK F k ++ nums ((F.getD k dF).claims.take j)
theorem asksJ_0 (F : List Fd) (k : Nat) : asksJ F k 0 = asksK F k :=by simp [asksJ,nums]
theorem asksJ_next {F : List Fd} {k j : Nat} (h : k < F.length) (hj : j < F[k].claims.length) : asksJ F k (j + 1) = asksJ F k j ++ [F[k].claims[j].2] :=by
 unfold asksJ; rw [getF h,nums_next hj,List.append_assoc]
theorem asksJ_all {F : List Fd} {k : Nat} (h : k < F.length) : asksJ F k F[k].claims.length = asksK F (k + 1) :=by
 unfold asksJ; rw [getF h,List.take_length,asksK_next h]
theorem asksJ_len {F : List Fd} {k j : Nat} (h : k < F.length) (hj : j ≤ F[k].claims.length) : (asksJ F k j).length = (asksK F k).length + j :=by
 unfold asksJ; rw [getF h,List.length_append,nums_len,List.length_take]; omega
theorem zoneI (l : List Int) : zoneEs (l.map ii) = true :=zoneEs_map _ _ fun _ => rfl
theorem asksK_len (F : List Fd) : ∀ k,k ≤ F.length → (asksK F k).length = manyC (F.take k)
 | 0,_ => by simp [asksK,manyC]
 | k + 1,h => by rw [asksK_next (by omega),List.length_append,asksK_len F k (by omega),manyC_next (by omega),nums_len]
@[simp] theorem outK_len (F : List Fd) (o : List Int) (k : Nat) : (outK F o k).length = k :=by simp [outK]
def awK (F : List Fd) (G : List Int) (i j : Nat) : List (Int × Int) :=(List.range j).map fun t => (((F.getD i dF).claims.getD t (0,0)).1,G.getD ((asksK F i).length + t) 0)
def awAll (F : List Fd) (G : List Int) (i : Nat) : List (List (Int × Int)) :=(List.range i).map fun k => awK F G k (F.getD k dF).claims.length
@[simp] theorem awK_len (F : List Fd) (G : List Int) (i j : Nat) : (awK F G i j).length = j :=by simp [awK]
@[simp] theorem awAll_len (F : List Fd) (G : List Int) (i : Nat) : (awAll F G i).length = i :=by simp [awAll]
theorem awK_next {F : List Fd} {G : List Int} {i j : Nat} (h : i < F.length) (hj : j < F[i].claims.length) (hg : (asksK F i).length + j < G.length) : awK F G i (j + 1) = awK F G i j ++ [(F[i].claims[j].1,G[(asksK F i).length + j])] :=by
 unfold awK
 rw [List.range_succ,List.map_append,List.map_cons,List.map_nil,getF h,getD_at hg]
 congr 3
 rw [List.getD_eq_getElem?_getD,List.getElem?_eq_getElem hj]; rfl
theorem awAll_next {F : List Fd} {G : List Int} {i : Nat} (h : i < F.length) : awAll F G (i + 1) = awAll F G i ++ [awK F G i F[i].claims.length] :=by
 unfold awAll; rw [List.range_succ,List.map_append,List.map_cons,List.map_nil,getF h]
end Go.Proofs.Ytndiamkmcoghdaa

namespace Go.Proofs.Ytndiamkmcoghdaa
open Go.RowKit Go.Ab
attribute [local irreducible] AWP Go.Ab.Sub Means MeansH CallK CallG CallT CallGT CallU
theorem pamount_m (n : Int) : Means true Try.prog 25 [ii n] (bb (amt n)) :=by
 refine means_fn true 9 [.tmp 2] Try.func25 rfl rfl rfl (by simp) (by decide) rfl fun X hX => ?_
 (repeat (refine awp_stepG [0,2] hX mixed rfl ?_; (simp [go_sem]; try (refine ⟨by kernel_rfl,?_⟩))))
 try simp [amt]
set_option maxHeartbeats 2000000 in
set_option maxRecDepth 20000 in
theorem own_m (f : Fd) (hl : f.claims.length ≤ 9223372036854775807) : Means true Try.prog 24 [fo f] (.tup [ii (if okCl f.claims then sumI (nums f.claims) else 0),bb (okCl f.claims)]) :=by
 obtain ⟨h,r,i,C,S⟩ :=f
 simp only at hl ⊢
 refine means_fn true 32 [.tmp 2,.tmp 3] Try.func24 rfl rfl rfl (by simp) (by decide) rfl fun X hX => ?_
 (repeat (refine awp_stepG [0,1,2,3,4,6,8,9,10,11,25] hX mixed rfl ?_; (simp [go_sem]; try (refine ⟨by kernel_rfl,?_⟩))))
 refine awp_loop (fun k : Nat => ⟨mkE [(2,ii 0),(3,bb false),(4,ii (sumI (nums (C.take k)))),(8,awl C),(9,ii C.length),(10,ii k)],[]⟩) (fun k => k ≤ C.length ∧ okCl (C.take k) = true) (fun k => C.length - k) 0 ?_ ?_ ?_
 · refine sub_of _ [] (by simp [go_sem]) ?_
   simp [go_sem,nums,sumI]
 · exact ⟨Nat.zero_le _,by simp [okCl,nums,sumI]⟩
 · rintro k ⟨hk,hok⟩
   (repeat (refine awp_stepG [0,1,2,3,4,6,8,9,10,11,25] hX mixed rfl ?_; (simp [go_sem]; try (refine ⟨by kernel_rfl,?_⟩))))
   refine awp_cond (b :=decide (k < C.length)) (by simp [go_sem]) (fun hb => ?_) (fun hb => ?_)
   · simp at hb
     have hn :=okCl_bd hok
     by_cases ha : amt C[k].2 = true
     · have hc :=amt_bd ha
       have hw :=w64 (x :=sumI (nums (C.take k)) + C[k].2) (by omega) (by omega)
       (repeat (refine awp_stepG [0,1,2,3,4,6,8,9,10,11,25] hX mixed rfl ?_; (simp [go_sem,hb,hw]; try (refine ⟨by kernel_rfl,?_⟩))))
       first | refine callKa (pamount_m C[k].2) ?_ | refine callTa (pamount_m C[k].2) ?_
       try (simp [go_sem,ha,hw]; try (refine ⟨by kernel_rfl,?_⟩))
       first | refine callGa (fun hg => pamount_m (sumI (nums (C.take k)) + C[k].2)) ?_ | refine callGTa (fun hg => pamount_m (sumI (nums (C.take k)) + C[k].2)) ?_
       try (simp [go_sem,ha,hw]; try (refine ⟨by kernel_rfl,?_⟩))
       by_cases ha2 : amt (sumI (nums (C.take k)) + C[k].2) = true
       · refine awp_cond (b :=false) (by simp [go_sem,ha,ha2]) (fun h => by cases h) (fun _ => ?_)
         (repeat (refine awp_stepG [0,1,2,3,4,6,8,9,10,11,25] hX mixed rfl ?_; (simp [go_sem,hb,hw]; (try simp (disch :=omega) only [w64,td,tm]); try (refine ⟨by kernel_rfl,?_⟩))))
         refine ⟨k + 1,⟨by omega,okCl_next hb hok ha ha2⟩,by omega,?_⟩
         refine sub_of _ [] (by simp [go_sem]) ?_
         simp [go_sem,nums_next hb,sumI_snoc,hw]
       · have ha2 : amt (sumI (nums (C.take k)) + C[k].2) = false :=by simpa using ha2
         refine awp_cond (b :=true) (by simp [go_sem,ha,ha2]) (fun _ => ?_) (fun h => by cases h)
         (repeat (refine awp_stepG [0,1,2,3,4,6,8,9,10,11,25] hX mixed rfl ?_; (simp [go_sem]; try (refine ⟨by kernel_rfl,?_⟩))))
         simp [okCl_no2 hb hok ha ha2]
     · have ha : amt C[k].2 = false :=by simpa using ha
       (repeat (refine awp_stepG [0,1,2,3,4,6,8,9,10,11,25] hX mixed rfl ?_; (simp [go_sem,hb]; try (refine ⟨by kernel_rfl,?_⟩))))
       first | refine callKa (pamount_m C[k].2) ?_ | refine callTa (pamount_m C[k].2) ?_
       try (simp [go_sem,ha]; try (refine ⟨by kernel_rfl,?_⟩))
       first | refine callG_skip rfl ?_ | refine callGT_skip rfl ?_
       try (simp [go_sem,ha]; try (refine ⟨by kernel_rfl,?_⟩))
       refine awp_cond (b :=true) (by simp [go_sem,ha]) (fun _ => ?_) (fun h => by cases h)
       (repeat (refine awp_stepG [0,1,2,3,4,6,8,9,10,11,25] hX mixed rfl ?_; (simp [go_sem]; try (refine ⟨by kernel_rfl,?_⟩))))
       simp [okCl_no1 hb ha]
   · have hkl : k = C.length :=by simp at hb; omega
     subst hkl
     rw [List.take_length] at hok ⊢
     (repeat (refine awp_stepG [0,1,2,3,4,6,8,9,10,11,25] hX mixed rfl ?_; (simp [go_sem]; try (refine ⟨by kernel_rfl,?_⟩))))
     simp [hok]
theorem many_bd {F : List Fd} (h : fewV F = true) : ∀ k,k ≤ F.length → manyC (F.take k) ≤ 8 * k
 | 0,_ => by simp [manyC]
 | k + 1,hk => by
   rw [manyC_next (by omega)]
   have :=many_bd h k (by omega)
   have :=(few_at h (List.getElem_mem (show k < F.length by omega))).1
   omega
theorem nth_outI (l : List Int) {k : Nat} (h : l.length ≤ k) : nth (l.map ii) k = .bad :=by
 unfold nth; rw [List.getD_eq_getElem?_getD,List.getElem?_eq_none (by simpa using h)]; rfl
set_option maxHeartbeats 8000000 in
set_option maxRecDepth 20000 in
theorem pright_m (F : List Fd) (hf : fewV F = true) : Means true Try.prog 9 [.sl (F.map fo)] (bb (rightV F)) :=by
 have h5 :=few_5 hf
 refine means_fn true 98 [.tmp 2] Try.func9 rfl rfl rfl (by simp) (by decide) rfl fun X hX => ?_
 (repeat (refine awp_stepG [0,2,3,4,5,6,8,10,11,12,13,14,19,20,21,22,30,79] hX mixed rfl ?_; (simp [go_sem]; try (refine ⟨by kernel_rfl,?_⟩))))
 refine awp_loop (fun k : Nat => ⟨mkE [(0,.sl (F.map fo)),(2,bb false),(3,ii (manyC (F.take k))),(11,.sl (F.map fo)),(12,ii F.length),(13,ii k)],[]⟩) (fun k => k ≤ F.length ∧ okUp F k) (fun k => F.length - k) 0 ?_ ?_ ?_
 · refine sub_of _ [] (by simp [go_sem]) ?_
   simp [go_sem,manyC]
 · exact ⟨Nat.zero_le _,fun i _ h => absurd h (Nat.not_lt_zero _)⟩
 · rintro k ⟨hk,hok⟩
   have hm :=many_bd hf k hk
   (repeat (refine awp_stepG [0,2,3,4,5,6,8,10,11,12,13,14,19,20,21,22,30,79] hX mixed rfl ?_; (simp [go_sem]; try (refine ⟨by kernel_rfl,?_⟩))))
   refine awp_cond (b :=decide (k < F.length)) (by simp [go_sem]) (fun hb => ?_) (fun hb => ?_)
   · simp at hb
     obtain ⟨hcl,hce⟩ :=few_at hf (List.getElem_mem hb)
     have hon :=own_m F[k] (by omega)
     have hmk :=manyC_next hb
     have hno :=fun h1 => right_no (k :=k) hb h1
     have hye :=fun h1 => okUp_next (k :=k) hb hok h1
     rw [okP] at hno hye
     (repeat (refine awp_stepG [0,2,3,4,5,6,8,10,11,12,13,14,19,20,21,22,30,79] hX mixed rfl ?_; (simp [go_sem,hb]; try (refine ⟨by kernel_rfl,?_⟩))))
     generalize F[k] = f at *
     obtain ⟨h,r,i,C,S⟩ :=f
     simp only at hcl hce hno hye hmk hon ⊢
     refine awp_loop (fun j : Nat => ⟨mkE [(0,.sl (F.map fo)),(2,bb false),(3,ii (manyC (F.take k))),(11,.sl (F.map fo)),(12,ii F.length),(13,ii k),(4,ii k),(5,.el 0 5 0 0),(6,ii (sumI (S.take j))),(19,il S),(20,ii S.length),(21,ii j)],[.row ⟨36,5,[fo ⟨h,r,i,C,S⟩]⟩]⟩) (fun j => j ≤ S.length ∧ okS1 (S.take j) = true) (fun j => S.length - j) 0 ?_ ?_ ?_
     · refine sub_of _ [.old 0 ⟨36,5,[fo ⟨h,r,i,C,S⟩]⟩] (by simp [go_sem]) ?_
       simp [go_sem,sumI]
     · exact ⟨Nat.zero_le _,by simp [okS1]⟩
     · rintro j ⟨hj,hos⟩
       have hsb :=okS1_bd hos
       rw [List.length_take] at hsb
       (repeat (refine awp_stepG [0,2,3,4,5,6,8,10,11,12,13,14,19,20,21,22,30,79] hX mixed rfl ?_; (simp [go_sem]; try (refine ⟨by kernel_rfl,?_⟩))))
       refine awp_cond (b :=decide (j < S.length)) (by simp [go_sem]) (fun hc => ?_) (fun hc => ?_)
       · simp at hc
         (repeat (refine awp_stepG [0,2,3,4,5,6,8,10,11,12,13,14,19,20,21,22,30,79] hX mixed rfl ?_; (simp [go_sem,hc]; try (refine ⟨by kernel_rfl,?_⟩))))
         by_cases hs : inS S[j] = true
         · have hs2 :=inS_bd hs
           refine awp_cond (b :=false) (by simp [go_sem]; omega) (fun h => by cases h) (fun _ => ?_)
           have hw :=w64 (x :=sumI (S.take j) + S[j]) (by omega) (by omega)
           (repeat (refine awp_stepG [0,2,3,4,5,6,8,10,11,12,13,14,19,20,21,22,30,79] hX mixed rfl ?_; (simp [go_sem,hc,hw]; (try simp (disch :=omega) only [w64,td,tm]); try (refine ⟨by kernel_rfl,?_⟩))))
           refine ⟨j + 1,⟨by omega,okS1_next hc hos hs⟩,by omega,?_⟩
           refine sub_of _ [.old 0 ⟨36,5,[fo ⟨h,r,i,C,S⟩]⟩] (by simp [go_sem]) ?_
           simp [go_sem,sumI_next hc,hw]
         · have hs : inS S[j] = false :=by simpa using hs
           refine awp_cond (b :=true) (by simp [inS] at hs; simp [go_sem]; omega) (fun _ => ?_) (fun h => by cases h)
           (repeat (refine awp_stepG [0,2,3,4,5,6,8,10,11,12,13,14,19,20,21,22,30,79] hX mixed rfl ?_; (simp [go_sem]; try (refine ⟨by kernel_rfl,?_⟩))))
           have hS0 :=okS1_no hc hs
           rw [hno (by simp [hS0])]
       · have hjl : j = S.length :=by simp at hc; omega
         subst hjl
         rw [List.take_length] at hos hsb ⊢
         simp only [hos,Bool.true_and] at hno hye
         (repeat (refine awp_stepG [0,2,3,4,5,6,8,10,11,12,13,14,19,20,21,22,30,79] hX mixed rfl ?_; (simp [go_sem]; try (refine ⟨by kernel_rfl,?_⟩))))
         first | refine callKa (hon) ?_ | refine callTa (hon) ?_
         try (simp [go_sem]; try (refine ⟨by kernel_rfl,?_⟩))
         (repeat (refine awp_stepG [0,2,3,4,5,6,8,10,11,12,13,14,19,20,21,22,30,79] hX mixed rfl ?_; (simp [go_sem]; try (refine ⟨by kernel_rfl,?_⟩))))
         first | refine callGa (fun hg => pamount_m h) ?_ | refine callGTa (fun hg => pamount_m h) ?_
         try (simp [go_sem]; try (refine ⟨by kernel_rfl,?_⟩))
         first | refine callGa (fun hg => pamount_m r) ?_ | refine callGTa (fun hg => pamount_m r) ?_
         try (simp [go_sem]; try (refine ⟨by kernel_rfl,?_⟩))
         first | refine callGa (fun hg => pamount_m i) ?_ | refine callGTa (fun hg => pamount_m i) ?_
         by_cases hkS : k < S.length
         · have hgk : S.getD k 0 = S[k] :=getD_at hkS
           rw [hgk] at hno hye
           try (simp [go_sem,hkS]; try (refine ⟨by kernel_rfl,?_⟩))
           (repeat refine And.intro (by first | omega | (unfold maxLen; omega) | kernel_rfl | (refine ⟨by first | omega | (unfold maxLen; omega),by first | omega | (unfold maxLen; omega)⟩) | grind) ?_)
           have key : (!okCl C || !amt h || !amt r || !amt i || !decide ((S.length : Int) = F.length) || !decide (S[k] = 0) || decide (1000 ≤ sumI S)) = !(okCl C && amt h && amt r && amt i && decide (S.length = F.length) && decide (S[k] = 0) && decide (sumI S < 1000)) :=by
            rw [show decide ((S.length : Int) = F.length) = decide (S.length = F.length) by rw [decide_eq_decide]; omega,show decide (1000 ≤ sumI S) = !decide (sumI S < 1000) by rw [← decide_not,decide_eq_decide]; omega]
            simp only [Bool.not_and]
           cases hB : (okCl C && amt h && amt r && amt i && decide (S.length = F.length) && decide (S[k] = 0) && decide (sumI S < 1000)) with
           | false =>
             rw [hB] at key
             refine awp_cond (b :=true) (by rw [← show (!false) = true from rfl,← key]; simp [go_sem]) (fun _ => ?_) (fun h => by cases h)
             rw [hno hB]
             (repeat (refine awp_stepG [0,2,3,4,5,6,8,10,11,12,13,14,19,20,21,22,30,79] hX mixed rfl ?_; (simp [go_sem]; try (refine ⟨by kernel_rfl,?_⟩))))
           | true =>
             rw [hB] at key
             refine awp_cond (b :=false) (by rw [← show (!true) = false from rfl,← key]; simp [go_sem]) (fun h => by cases h) (fun _ => ?_)
             have hw :=w64 (x :=(manyC (F.take k) : Int) + C.length) (by omega) (by omega)
             (repeat (refine awp_stepG [0,2,3,4,5,6,8,10,11,12,13,14,19,20,21,22,30,79] hX mixed rfl ?_; (simp [go_sem,hw]; (try simp (disch :=omega) only [w64,td,tm]); try (refine ⟨by kernel_rfl,?_⟩))))
             refine ⟨k + 1,⟨by omega,hye hB⟩,by omega,?_⟩
             refine sub_of _ [] (by simp [go_sem]) ?_
             simp [go_sem,hmk,hw]
         · have hno' :=nth_outI S (k :=k) (by omega)
           have hSn : ¬ (S.length : Int) = F.length :=by omega
           have hSn2 : ¬ S.length = F.length :=by omega
           have hR :=hno (by simp [hSn2])
           try (simp [go_sem,hkS,hno',hSn]; try (refine ⟨by kernel_rfl,?_⟩))
           (repeat refine And.intro (by first | omega | (unfold maxLen; omega) | kernel_rfl | (refine ⟨by first | omega | (unfold maxLen; omega),by first | omega | (unfold maxLen; omega)⟩) | grind) ?_)
           refine awp_cond (b :=true) (by simp [go_sem]) (fun _ => ?_) (fun h => by cases h)
           rw [hR]
           (repeat (refine awp_stepG [0,2,3,4,5,6,8,10,11,12,13,14,19,20,21,22,30,79] hX mixed rfl ?_; (simp [go_sem]; try (refine ⟨by kernel_rfl,?_⟩))))
   · have hkl : k = F.length :=by simp at hb; omega
     subst hkl
     rw [List.take_length] at hm ⊢
     (repeat (refine awp_stepG [0,2,3,4,5,6,8,10,11,12,13,14,19,20,21,22,30,79] hX mixed rfl ?_; (simp [go_sem]; try (refine ⟨by kernel_rfl,?_⟩))))
     rw [right_yes hok]
     have a1 : decide ((F.length : Int) ≤ 12) = decide (F.length ≤ 12) :=by rw [decide_eq_decide]; omega
     have a2 : decide ((manyC F : Int) ≤ 400) = decide (manyC F ≤ 400) :=by rw [decide_eq_decide]; omega
     rw [a1,a2]
end Go.Proofs.Ytndiamkmcoghdaa

namespace Go.Ab
open Go.RowKit
section
variable {P : Program} {M : Nat → Prop} {loc : Nat → Value} {w : World}
theorem NmOK.none {X : Ctx} {st : St} {a : Act} {C : Nat → Prop} (h : R X st a w) (hC : ∀ c,¬ C c) : NmOK st.heap.length st C :=by
 obtain ⟨M,loc,hr⟩ :=h
 refine ⟨fun s id hid => ⟨(idLt_iff _ _).1 (hr.ids s) id hid,hC _⟩,fun i o ho e he id hid => ?_,fun c hc => absurd hc (hC c),fun c hc => absurd hc (hC c),Nat.le_refl _⟩
 obtain ⟨xs,_,g2⟩ :=(hr.obj i o ho).own
 obtain ⟨j,hj,rfl⟩ :=List.getElem_of_mem he
 obtain ⟨x,_,hx⟩ :=g2 j _ (List.getElem?_eq_getElem hj)
 exact ⟨(idLt_iff _ _).1 hx.2.1 id hid,hC _⟩
def okId (H : List Cell) (T : List Nat) (L0 id : Nat) : Prop :=id ∈ T ∨ id < L0 ∨ ∃ j ∈ T,∃ o,H[j]? = some (.row o) ∧ id ∈ cellIds (.row o)
theorem okId.congr {H H1 : List Cell} {T : List Nat} {L0 id : Nat} (h : okId H T L0 id) (hh : ∀ i ∈ T,H1[i]? = H[i]?) : okId H1 T L0 id :=by
 rcases h with h | h | ⟨j,hj,o,ho,h⟩
 · exact .inl h
 · exact .inr (.inl h)
 · exact .inr (.inr ⟨j,hj,o,(hh j hj).trans ho,h⟩)
theorem NmOK.okId {L0 : Nat} {st : St} {C : Nat → Prop} {T : List Nat} (h : NmOK L0 st C) (ht : ∀ {id},id ∈ T → id < st.heap.length ∧ ¬ C id) {id : Nat} (hi : okId st.heap T L0 id) : id < st.heap.length ∧ ¬ C id :=by
 rcases hi with hi | hi | ⟨j,_,o,ho,hi⟩
 · exact ht hi
 · exact ⟨Nat.lt_of_lt_of_le hi h.len,fun e => by have :=h.low _ e; omega⟩
 · have hm : ∃ e ∈ o.es.flatMap AV.flat,id ∈ e.ids :=by
    cases hz : zoneEs o.es with
    | true => rw [cellIds_zone hz] at hi; cases hi
    | false =>
      have hi2 : id ∈ (bif zoneEs o.es then [] else (o.es.flatMap AV.flat).flatMap AV.ids) :=hi
      rw [hz] at hi2
      simpa using hi2
   obtain ⟨e,he,hid⟩ :=hm
   exact h.row j o ho e he id hid
def StepV (P : Program) (n L0 : Nat) (o : Oper) (t : TagU) (st st' : St) : Prop :=
 (∀ d,o.dst = some d → d < n) ∧ o.guard = none ∧ t.t = tch (ev st.env) o.op ∧
 ((∃ r,DoesX P st.heap (ev st.env) o.op r ∧ (∀ id ∈ r.ids,id ∈ t.t ∨ id < L0) ∧ st' = ⟨putE st.env o.dst r,st.heap⟩ ∧ t.w = [] ∧ t.nw = false) ∨
  (∃ p r upd nw,effA P st.heap (ev st.env) o.op = some (p,r,setU st.heap upd ++ nw) ∧ p ∧ r.effR = true ∧ (∀ id ∈ r.ids,id ∈ t.t ∨ id < L0 ∨ (id = st.heap.length ∧ nw ≠ [])) ∧ nw.length ≤ 1 ∧
     (∀ H1 : List Cell,H1.length = st.heap.length → (∀ id ∈ t.t,H1[id]? = st.heap[id]?) → effA P H1 (ev st.env) o.op = some (p,r,setU H1 upd ++ nw)) ∧
     (∀ q ∈ upd,q.1 ∈ t.w ∧ q.1 ∈ t.t ∧ ∀ id ∈ cellIds q.2,okId st.heap t.t L0 id) ∧ (∀ c ∈ nw,t.c ∈ t.w ∧ ∀ id ∈ cellIds c,okId st.heap t.t L0 id) ∧ t.nw = !nw.isEmpty ∧ (∀ id ∈ t.w,id ∈ t.t ∨ (id = t.c ∧ t.nw = true)) ∧
     st' = ⟨putE st.env o.dst (plc st.heap.length t.c r),setU st.heap (upd ++ nw.map fun c => (t.c,c))⟩) ∨
  (∃ ob,NewC P st.heap (ev st.env) o.op ob ∧ t.w = [t.c] ∧ t.nw = true ∧ st' = ⟨putE st.env o.dst (.ow t.c),setU st.heap [(t.c,.row ob)]⟩))
theorem StepV.nm {n L0 : Nat} {o : Oper} {t : TagU} {st st' : St} {C : Nat → Prop} (h : StepV P n L0 o t st st') (hn : NmOK L0 st C) (hC : t.nw = true → C t.c) : NmOK L0 st' (fun c => C c ∧ (t.nw = true → c ≠ t.c)) :=by
 obtain ⟨hd,hg,htt,hs⟩ :=h
 have htc : ∀ {id},id ∈ t.t → id < st.heap.length ∧ ¬ C id :=fun {id} hid => hn.tch (by rw [← htt]; exact hid)
 have hok : ∀ id,(id ∈ t.t ∨ id < L0) → id < st.heap.length ∧ ¬ C id :=fun id hid => by
  rcases hid with q | q
  · exact htc q
  · exact ⟨Nat.lt_of_lt_of_le q hn.len,fun e => by have :=hn.low _ e; omega⟩
 have putEnv : ∀ (r : AV) (N : Nat),st.heap.length = N → (∀ id ∈ r.ids,id < st.heap.length ∧ ¬ (C id ∧ (t.nw = true → id ≠ t.c))) → ∀ s,∀ id ∈ (putE st.env o.dst r s).ids,id < N ∧ ¬ (C id ∧ (t.nw = true → id ≠ t.c)) :=fun r N hN hr s id hid => by
  have old : id ∈ (st.env s).ids → id < N ∧ ¬ (C id ∧ (t.nw = true → id ≠ t.c)) :=fun hid => by
   obtain ⟨q1,q2⟩ :=hn.env s id hid
   exact ⟨hN ▸ q1,fun e => q2 e.1⟩
  cases hdd : o.dst with
  | none => rw [hdd] at hid; exact old hid
  | some d =>
    rw [hdd] at hid
    simp only [putE,upd] at hid
    split at hid
    · obtain ⟨q1,q2⟩ :=hr id hid
      exact ⟨hN ▸ q1,q2⟩
    · exact old hid
 rcases hs with ⟨r,hdo,hi,rfl,e1,e2⟩ | ⟨p,r,upd,nw,he,hp,hf,hri,hnl,hloc,hupd,hnw,hnwb,htw,rfl⟩ | ⟨ob,hnc,htw,hnwb,rfl⟩
 · refine ⟨putEnv r _ rfl fun id hid => ?_,fun i ob ho e he id hid => ⟨(hn.row i ob ho e he id hid).1,fun q => (hn.row i ob ho e he id hid).2 q.1⟩,fun c q => hn.dead c q.1,fun c q => hn.low c q.1,hn.len⟩
   obtain ⟨q1,q2⟩ :=hok id (hi id hid)
   exact ⟨q1,fun e => q2 e.1⟩
 · have hlen : (setU st.heap (upd ++ nw.map fun c => (t.c,c))).length = st.heap.length :=setU_len _ _
   refine ⟨putEnv _ _ hlen.symm fun id hid => ?_,fun i ob ho e he id hid => ?_,fun c q => ?_,fun c q => hn.low c q.1,by rw [hlen]; exact hn.len⟩
   · rcases plc_ids hf hid with q | ⟨q,qn⟩
     · cases hb : t.nw with
       | true =>
         have hcC :=hC hb
         exact ⟨by rw [q]; exact (List.getElem?_eq_some_iff.1 (hn.dead _ hcC)).1,fun e => e.2 rfl q⟩
       | false =>
         have hne : nw = [] :=by rw [hb] at hnwb; simpa using hnwb.symm
         by_cases hL : ∀ id ∈ r.ids,id ≠ st.heap.length
         · rw [plc_same hL] at hid
           rcases hri id hid with q2 | q2 | ⟨_,q2⟩
           · obtain ⟨g1,g2⟩ :=hok id (.inl q2); exact ⟨g1,fun e => g2 e.1⟩
           · obtain ⟨g1,g2⟩ :=hok id (.inr q2); exact ⟨g1,fun e => g2 e.1⟩
           · exact absurd hne q2
         · exfalso
           apply hL
           intro id2 h2 e2
           rcases hri id2 h2 with q2 | q2 | ⟨_,q2⟩
           · have :=(htc q2).1; omega
           · have :=hn.len; omega
           · exact q2 hne
     · rcases hri id q with q2 | q2 | ⟨q2,_⟩
       · obtain ⟨g1,g2⟩ :=hok id (.inl q2); exact ⟨g1,fun e => g2 e.1⟩
       · obtain ⟨g1,g2⟩ :=hok id (.inr q2); exact ⟨g1,fun e => g2 e.1⟩
       · exact absurd q2 qn
   · show id < (setU st.heap (upd ++ nw.map fun c => (t.c,c))).length ∧ _
     rw [hlen]
     rcases setU_cell _ _ _ _ ho with q | ⟨q,hq,hq2⟩
     · obtain ⟨g1,g2⟩ :=hn.row i ob q e he id hid
       exact ⟨g1,fun e => g2 e.1⟩
     · have hid2 : id ∈ cellIds q.2 :=by rw [hq2]; exact cellIds_spec he hid
       have : okId st.heap t.t L0 id :=by
        rcases List.mem_append.1 hq with hq | hq
        · exact (hupd q hq).2.2 id hid2
        · obtain ⟨c,hc,rfl⟩ :=List.mem_map.1 hq
          exact (hnw c hc).2 id hid2
       obtain ⟨g1,g2⟩ :=hn.okId htc this
       exact ⟨g1,fun e => g2 e.1⟩
   · show (setU st.heap (upd ++ nw.map fun c => (t.c,c)))[c]? = some .dead
     rw [setU_out _ _ _ fun x hx e => ?_]
     · exact hn.dead c q.1
     · rcases List.mem_append.1 hx with hx | hx
       · exact (htc (hupd x hx).2.1).2 (by rw [e]; exact q.1)
       · obtain ⟨c2,hc2,rfl⟩ :=List.mem_map.1 hx
         refine q.2 ?_ e.symm
         rw [hnwb]
         cases nw with
         | nil => cases hc2
         | cons _ _ => rfl
 · have hz : zoneEs ob.es = true :=by obtain ⟨_,_,_,_,_,_,_,_,_,h4,_⟩ :=hnc; exact h4
   have hcC :=hC hnwb
   have hcl : t.c < st.heap.length :=(List.getElem?_eq_some_iff.1 (hn.dead _ hcC)).1
   have hlen : (setU st.heap [(t.c,.row ob)]).length = st.heap.length :=setU_len _ _
   refine ⟨putEnv _ _ hlen.symm fun id hid => ?_,fun i o2 ho e he id hid => ?_,fun c q => ?_,fun c q => hn.low c q.1,by rw [hlen]; exact hn.len⟩
   · simp only [AV.ids,List.mem_singleton] at hid
     rw [hid]
     exact ⟨hcl,fun e => e.2 hnwb rfl⟩
   · show id < (setU st.heap [(t.c,.row ob)]).length ∧ _
     rw [hlen]
     rcases setU_cell _ _ _ _ ho with q | ⟨q,hq,hq2⟩
     · obtain ⟨g1,g2⟩ :=hn.row i o2 q e he id hid
       exact ⟨g1,fun e => g2 e.1⟩
     · simp at hq
       rw [hq] at hq2
       have hq3 : Cell.row ob = Cell.row o2 :=hq2
       have hid2 : id ∈ cellIds (.row ob) :=by rw [hq3]; exact cellIds_spec he hid
       rw [cellIds_zone hz] at hid2; cases hid2
   · show (setU st.heap [(t.c,.row ob)])[c]? = some .dead
     rw [setU_out _ _ _ fun x hx e => ?_]
     · exact hn.dead c q.1
     · simp at hx
       rw [hx] at e
       exact q.2 hnwb e.symm
def runV (P : Program) (n L0 : Nat) : List Oper → Bool → Nat → List TagU → (St → List TagU → Prop) → St → Prop
 | [],_,_,acc,K,st => K st acc
 | _ :: _,false,_,_,_,_ => False
 | o :: l,true,k,acc,K,st => dOK n o.dst ∧ o.guard = none ∧
   match isCall o.op with
   | true => match tgt (ev st.env) (argsOf o.op).1 with
     | some (f,first,cap) => callable P f = true ∧
       CallU P f (first ++ (argsOf o.op).2.map (fun x => argA st.heap (ev st.env x)) ++ cap) ((argsOf o.op).2.any fun x => (ev st.env x).isOw) ((first ++ (argsOf o.op).2.map (fun x => argA st.heap (ev st.env x)) ++ cap).all AV.argOK)
        st.heap.length (first ++ (argsOf o.op).2.map (ev st.env) ++ cap)
        (fun z r => runV P n L0 l z k (acc ++ [⟨tch (ev st.env) o.op,[],L0 + k,false⟩]) K ⟨putE st.env o.dst r,st.heap⟩)
        (fun z ob => runV P n L0 l z (k + 1) (acc ++ [⟨tch (ev st.env) o.op,[L0 + k],L0 + k,true⟩]) K ⟨putE st.env o.dst (.ow (L0 + k)),st.heap.set (L0 + k) (.row ob)⟩)
     | none => False
   | false => match isEff o.op with
     | true => match effA P st.heap (ev st.env) o.op with
       | some (p,r,H) => p ∧ r.effR = true ∧ (∀ id ∈ r.ids,id ∈ tch (ev st.env) o.op ∨ id < L0 ∨ (id = st.heap.length ∧ (H.length != st.heap.length) = true)) ∧
         (∀ i ∈ wrOf (ev st.env) o.op,∀ id ∈ cellIds (H.getD i .dead),okId st.heap (tch (ev st.env) o.op) L0 id) ∧ (∀ c ∈ H.drop st.heap.length,∀ id ∈ cellIds c,okId st.heap (tch (ev st.env) o.op) L0 id) ∧
         runV P n L0 l true (bif H.length != st.heap.length then k + 1 else k) (acc ++ [⟨tch (ev st.env) o.op,wrOf (ev st.env) o.op ++ (bif H.length != st.heap.length then [L0 + k] else []),L0 + k,H.length != st.heap.length⟩]) K
          ⟨putE st.env o.dst (plc st.heap.length (L0 + k) r),placeU st.heap.length (L0 + k) H⟩
       | none => False
     | false => match doF P false st.heap (ev st.env) o.op with
       | some (p,r,_) => p ∧ (∀ id ∈ r.ids,id ∈ tch (ev st.env) o.op ∨ id < L0) ∧ runV P n L0 l true k (acc ++ [⟨tch (ev st.env) o.op,[],L0 + k,false⟩]) K ⟨putE st.env o.dst r,st.heap⟩
       | none => False
def BarK (P : Program) (X : Ctx) (N : Nat) (rest : List Oper) (K : St → List TagU → Prop) (s : St) (ts : List TagU) : Prop :=∃ s2 : St,Sub X s2 s ∧ runV P N s2.heap.length rest true 0 ts K s2
theorem BarK_congr {P : Program} {X : Ctx} {N : Nat} {rest : List Oper} {K : St → List TagU → Prop} {s s' : St} {ts ts' : List TagU} (h : s = s') (ht : ts = ts') : BarK P X N rest K s ts = BarK P X N rest K s' ts' :=by rw [h,ht]
attribute [congr] BarK_congr
end
attribute [go_sem] runV okId
end Go.Ab

namespace Go.Proofs.Ytndiamkmcoghdaa
open Go.RowKit Go.Ab
structure CoinsOk (own : List Int) (S : List (List Int)) : Prop where
 len : (coinL (keptQ own S)).length = own.length
 sum : sumI (coinL (keptQ own S)) = sumI own
 one : ∀ (i : Nat) (hi : i < own.length) (hi' : i < (coinL (keptQ own S)).length),(coinL (keptQ own S))[i] = fl (keptX own S i) ∨ ((coinL (keptQ own S))[i] = fl (keptX own S i) + 1 ∧ 0 < rs (keptX own S i))
 bd : ∀ x ∈ coinL (keptQ own S),0 ≤ x ∧ x ≤ 6597069766657
theorem coins_go {own : List Int} {S : List (List Int)} (hv : PV own S) (h6 : own.length ≤ 6) : CoinsOk own S ∧ Means false Try.prog 26 [fql (keptQ own S)] (.tup [il (coinL (keptQ own S)),ii 0]) :=by
 have hsum : sumR (fun t => (keptQ own S).getD t 0) (keptQ own S).length = ((sumI own : Int) : Rat) :=by
  rw [keptQ_len,← kept_sum hv]
  exact sumR_congr fun t ht => keptQ_at ht
 have hri :=rsum_int hsum
 have hkb :=keptQ_mem hv h6
 have hKl : (keptQ own S).length = own.length :=keptQ_len _ _
 have hK0 : ∀ x ∈ keptQ own S,0 ≤ x ∧ x ≤ ((6597069766656 : Int) : Rat) :=fun x hx => by
  obtain ⟨k,hk,rfl⟩ :=List.mem_map.1 hx
  have hk : k < own.length :=by simpa using hk
  exact ⟨kept_nonneg hv hk,kept_most hv h6 hk⟩
 have hmost : ((6597069766656 : Int) : Rat) ≤ most :=Rat.intCast_le_intCast.2 (by decide)
 have hnn : 0 ≤ sumI own - sumI ((keptQ own S).map fl) :=by
  have :=(rsum_bd (keptQ own S) (keptQ own S).length).1
  rw [hri] at this
  exact Rat.intCast_le_intCast.1 (show ((0 : Int) : Rat) ≤ _ from this)
 obtain ⟨m,hm⟩ : ∃ m : Nat,(m : Int) = sumI own - sumI ((keptQ own S).map fl) :=⟨(sumI own - sumI ((keptQ own S).map fl)).toNat,by omega⟩
 rw [← hm] at hri
 have c2 :=Coins_t (ks :=keptQ own S) (fun k hk => ⟨⟨(hK0 k hk).1,Rat.le_trans (hK0 k hk).2 hmost⟩,hkb k hk⟩) (by rw [hKl]; exact hv.pos) (by rw [hKl]; omega) (by rw [hri,fl_int])
 obtain ⟨s1,s2,s3⟩ :=coin_spec hri
 refine ⟨⟨by omega,by omega,fun i hi hi' => ?_,fun x hx => ?_⟩,c2⟩
 · have :=s3 i (by omega) hi'
   rwa [show (keptQ own S)[i]'(by omega) = keptX own S i by simp [keptQ]] at this
 · obtain ⟨k,hk,rfl⟩ :=List.getElem_of_mem hx
   have h1 :=s3 k (by omega) hk
   have h2 :=hK0 _ (List.getElem_mem (show k < (keptQ own S).length by omega))
   have h3 :=fl_bd h2.1 h2.2
   omega
attribute [-simp] List.map_take
attribute [local irreducible] AWP Go.Ab.Sub Means MeansH CallK CallG CallT CallGT CallU
variable {F : List Fd}
theorem owned (h : RV F) (h5 : F.length ≤ 5) : CoinsOk (ownL F) (cedL F) :=(coins_go (pv_of h) (by rw [ownL_len]; omega)).1
theorem ownL_next {k : Nat} (h : k < F.length) : (ownL F).take (k + 1) = (ownL F).take k ++ [sumI (nums F[k].claims)] :=by
 rw [List.take_succ_eq_append_getElem (by rw [ownL_len]; exact h)]; simp [ownL]
theorem cedL_next {k : Nat} (h : k < F.length) : (cedL F).take (k + 1) = (cedL F).take k ++ [F[k].cedes] :=by
 rw [List.take_succ_eq_append_getElem (by rw [cedL_len]; exact h)]; simp [cedL]
set_option maxHeartbeats 4000000 in
set_option maxRecDepth 20000 in
theorem owed_m (F : List Fd) (hf : fewV F = true) (hr : rightV F = true) : Means false Try.prog 10 [.sl (F.map fo)] (.tup [il (owedL F),ii 0]) :=by
 have c1 :=pright_m F hf
 have h5 :=few_5 hf
 have hv :=rv_of hr
 have hp :=pv_of hv
 have c2 :=Solve_q hp (by rw [ownL_len]; omega)
 have c3 :=(coins_go hp (by rw [ownL_len]; omega)).2
 have hoL :=ownL_len F
 have hcL :=cedL_len F
 refine means_fn false 51 [.tmp 2,.tmp 3] Try.func10 rfl rfl rfl (by simp) (by decide) rfl fun X hX => ?_
 (repeat (refine awp_stepG [0,2,3,4,5,7,8,11,12,15,16,17,18,19,45] hX mixed rfl ?_; (simp [go_sem]; try (refine ⟨by kernel_rfl,?_⟩))))
 first | refine callKa (c1) ?_ | refine callTa (c1) ?_
 try (simp [go_sem]; try (refine ⟨by kernel_rfl,?_⟩))
 refine awp_cond (b :=false) (by simp [go_sem,hr]) (fun h => by cases h) (fun _ => ?_)
 (repeat (refine awp_stepG [0,2,3,4,5,7,8,11,12,15,16,17,18,19,45] hX mixed rfl ?_; (simp [go_sem]; try (refine ⟨by kernel_rfl,?_⟩))))
 refine awp_loop (fun k : Nat => ⟨mkE [(16,.sl (F.map fo)),(17,ii F.length),(18,ii k),(4,.ow 0),(5,.ow 1)],[.row ⟨3,1,((ownL F).take k).map ii⟩,.row ⟨25,1,((cedL F).take k).map il⟩]⟩) (fun k => k ≤ F.length) (fun k => F.length - k) 0 ?_ ?_ ?_
 · refine sub_of _ [.birth 3 1,.birth 25 1] (by simp [go_sem]) ?_
   simp [go_sem]
 · omega
 · intro k hk
   have l1 : ((ownL F).take k).length = k :=by rw [List.length_take]; omega
   have l2 : ((cedL F).take k).length = k :=by rw [List.length_take]; omega
   (repeat (refine awp_stepG [0,2,3,4,5,7,8,11,12,15,16,17,18,19,45] hX mixed rfl ?_; (simp [go_sem]; try (refine ⟨by kernel_rfl,?_⟩))))
   refine awp_cond (b :=decide (k < F.length)) (by simp [go_sem]) (fun hb => ?_) (fun hb => ?_)
   · simp at hb
     have hon :=own_m F[k] (by have :=(few_at hf (List.getElem_mem hb)).1; omega)
     rw [(hv.at' k hb).cla] at hon
     have e1 :=ownL_next hb
     have e2 :=cedL_next hb
     (repeat (refine awp_stepG [0,2,3,4,5,7,8,11,12,15,16,17,18,19,45] hX mixed rfl ?_; (simp [go_sem,hb]; try (refine ⟨by kernel_rfl,?_⟩))))
     generalize F[k] = f at *
     obtain ⟨h,r,i,C,S⟩ :=f
     simp only [if_true] at hon e1 e2 ⊢
     first | refine callKa (hon) ?_ | refine callTa (hon) ?_
     try (simp [go_sem]; try (refine ⟨by kernel_rfl,?_⟩))
     (repeat (first | refine awp_seq ?_ | refine awp_block ?_ | ((first | refine awp_runG [0,2,3,4,5,7,8,11,12,15,16,17,18,19,45] hX ?_ | refine awp_skip ?_ | refine awp_exit ?_); (simp [go_sem,l1,l2]; try (refine ⟨by kernel_rfl,?_⟩)))))
     refine awp_drawUG [0,2,3,4,5,7,8,11,12,15,16,17,18,19,45] 4 hX mixed ?_; (simp [go_sem,l1,l2]; try (refine ⟨by kernel_rfl,?_⟩))
     (repeat refine And.intro (by first | omega | (unfold maxLen; omega) | kernel_rfl | (refine ⟨by first | omega | (unfold maxLen; omega),by first | omega | (unfold maxLen; omega)⟩) | grind) ?_)
     refine ⟨⟨by kernel_rfl,by kernel_rfl⟩,?_⟩
     (repeat (refine awp_stepG [0,2,3,4,5,7,8,11,12,15,16,17,18,19,45] hX mixed rfl ?_; (simp [go_sem]; (try simp (disch :=omega) only [w64,td,tm]); try (refine ⟨by kernel_rfl,?_⟩))))
     refine ⟨k + 1,by omega,by omega,?_⟩
     refine sub_of _ [.old 4 ⟨3,1,((ownL F).take (k + 1)).map ii⟩,.old 6 ⟨25,1,((cedL F).take (k + 1)).map il⟩] (by simp [go_sem,e1,e2]) ?_
     simp [go_sem]
   · have hkl : k = F.length :=by simp at hb; omega
     subst hkl
     rw [List.take_of_length_le (by omega),List.take_of_length_le (by omega)]
     (repeat (refine awp_stepG [0,2,3,4,5,7,8,11,12,15,16,17,18,19,45] hX mixed rfl ?_; (simp [go_sem]; try (refine ⟨by kernel_rfl,?_⟩))))
     refine callKk_intro (c2) rfl rfl ?_
     try (simp [go_sem]; try (refine ⟨by kernel_rfl,?_⟩))
     (repeat (refine awp_stepG [0,2,3,4,5,7,8,11,12,15,16,17,18,19,45] hX mixed rfl ?_; (simp [go_sem]; try (refine ⟨by kernel_rfl,?_⟩))))
     refine awp_cond (b :=false) (by simp [go_sem]) (fun h => by cases h) (fun _ => ?_)
     (repeat (refine awp_stepG [0,2,3,4,5,7,8,11,12,15,16,17,18,19,45] hX mixed rfl ?_; (simp [go_sem]; try (refine ⟨by kernel_rfl,?_⟩))))
     first | refine callKa (c3) ?_ | refine callTa (c3) ?_
     try (simp [go_sem]; try (refine ⟨by kernel_rfl,?_⟩))
     (repeat (refine awp_stepG [0,2,3,4,5,7,8,11,12,15,16,17,18,19,45] hX mixed rfl ?_; (simp [go_sem]; try (refine ⟨by kernel_rfl,?_⟩))))
     try rfl
end Go.Proofs.Ytndiamkmcoghdaa

