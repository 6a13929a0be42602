/-
  Lemmas for the statement at the top.
-/
import Derived.Test.YtndiamkmcoghdaaYdP14
import Derived.Test.YtndiamkmcoghdaaRows
import Derived.Test.YtndiamkmcoghdaaYdP12
import Derived.Test.YtndiamkmcoghdaaYdFw5
set_option linter.all false
namespace Go.Proofs.Ytndiamkmcoghdaa
open Go.RowKit Go.Ab
theorem sum_abs {l : List Int} {B : Int} (h : ∀ x ∈ l,-B ≤ x ∧ x ≤ B) : ∀ k,k ≤ l.length → -(B * k) ≤ sumI (l.take k) ∧ sumI (l.take k) ≤ B * k
 | 0,_ => by simp [sumI]
 | k + 1,hk => by
   rw [sumI_next (show k < l.length by omega)]
   have :=sum_abs h k (by omega)
   have :=h l[k] (List.getElem_mem (by omega))
   rw [show ((k + 1 : Nat) : Int) = (k : Int) + 1 by omega,Int.mul_add,Int.mul_one]
   omega
attribute [-simp] List.map_take
attribute [local irreducible] AWP Go.Ab.Sub Means MeansH CallK CallG CallT CallGT CallU
set_option maxHeartbeats 32000000 in
set_option maxRecDepth 20000 in
theorem poolYears_m (F : List Fd) (hl0 : F.length ≤ maxLen) (P : List Int) (hP0 : P.length ≤ maxLen) (b : Int) (yr : Int) (hyr : 0 ≤ yr ∧ yr ≤ 255) : Means false Try.prog 6 [.sl (F.map fo),il P,ii b,.v (.int .u8 yr)] (bb true) :=by
 have hl : F.length ≤ 9223372036854775807 :=by unfold maxLen at hl0; omega
 have hP : P.length ≤ 9223372036854775807 :=by unfold maxLen at hP0; omega
 have c0 :=psmall_m
 have c1 :=pfew_m F hl
 refine means_fn false 179 [.tmp 8] Try.func6 rfl rfl rfl (by simp) (by decide) rfl fun X hX => ?_
 (repeat (refine awp_stepG [0,1,2,3,8,9,10,11,12,13,14,15,16,17,18,19,20,21,22,23,24,25,26,48,57,68,77,91,98,112,127,143,147,156] hX mixed rfl ?_; (simp [go_sem]; try (refine ⟨by kernel_rfl,?_⟩))))
 first | refine callKa (c0) ?_ | refine callTa (c0) ?_
 try (simp [go_sem]; try (refine ⟨by kernel_rfl,?_⟩))
 (repeat (refine awp_stepG [0,1,2,3,8,9,10,11,12,13,14,15,16,17,18,19,20,21,22,23,24,25,26,48,57,68,77,91,98,112,127,143,147,156] hX mixed rfl ?_; (simp [go_sem]; try (refine ⟨by kernel_rfl,?_⟩))))
 first | refine callKa (c1) ?_ | refine callTa (c1) ?_
 try (simp [go_sem]; try (refine ⟨by kernel_rfl,?_⟩))
 first | refine callGa (fun hg => pright_m F (by simpa using hg)) ?_ | refine callGTa (fun hg => pright_m F (by simpa using hg)) ?_
 try (simp [go_sem]; try (refine ⟨by kernel_rfl,?_⟩))
 refine awp_cond (b :=!fewV F || !rightV F || decide (12 < (P.length : Int)) || decide (b < 0) || decide (1000000 < b)) (by simp [go_sem]) (fun hb => ?_) (fun hb => ?_)
 · (repeat (refine awp_stepG [0,1,2,3,8,9,10,11,12,13,14,15,16,17,18,19,20,21,22,23,24,25,26,48,57,68,77,91,98,112,127,143,147,156] hX mixed rfl ?_; (simp [go_sem]; try (refine ⟨by kernel_rfl,?_⟩))))
 · simp only [Bool.or_eq_false_iff,Bool.not_eq_false',decide_eq_false_iff_not] at hb
   obtain ⟨⟨⟨⟨hf,hr⟩,hp12⟩,hb0⟩,hb6⟩ :=hb
   have h5 :=few_5 hf
   have hv :=rv_of hr
   have hpos :=hv.pos
   have d0 :=phasV_m F (by omega) hv.am
   obtain ⟨s,hs⟩ : ∃ s,b * (P.length : Int) = s :=⟨_,rfl⟩
   have hsb : 0 ≤ s ∧ s ≤ 12000000 :=by
    rw [← hs]
    have h1 :=Int.mul_nonneg (show 0 ≤ b by omega) (show (0 : Int) ≤ P.length by omega)
    have h2 : b * (P.length : Int) ≤ 1000000 * (P.length : Int) :=Int.mul_le_mul_of_nonneg_right (by omega) (by omega)
    omega
   have ws :=w64 (x :=s) (by omega) (by omega)
   have hp5 : 0 ≤ yr % 5 ∧ yr % 5 ≤ 4 :=by omega
   have htm : yr.tmod 5 = yr % 5 :=Int.tmod_eq_emod_of_nonneg (by omega)
   have hw8 : IntKind.u8.wrap (yr % 5) = yr % 5 :=by unfold IntKind.wrap; simp [IntKind.bits,IntKind.signed]; omega
   have hw9 :=w64 (x :=yr % 5) (by omega) (by omega)
   obtain ⟨Y,hY⟩ : ∃ Y : Nat,yr % 5 = Y :=⟨(yr % 5).toNat,by omega⟩
   rw [hY] at hp5 htm hw8 hw9
   (repeat (refine awp_stepG [0,1,2,3,8,9,10,11,12,13,14,15,16,17,18,19,20,21,22,23,24,25,26,48,57,68,77,91,98,112,127,143,147,156] hX mixed rfl ?_; (simp [go_sem]; try (refine ⟨by kernel_rfl,?_⟩))))
   first | refine callKa (d0) ?_ | refine callTa (d0) ?_
   try (simp [go_sem]; try (refine ⟨by kernel_rfl,?_⟩))
   (repeat (refine awp_stepG [0,1,2,3,8,9,10,11,12,13,14,15,16,17,18,19,20,21,22,23,24,25,26,48,57,68,77,91,98,112,127,143,147,156] hX mixed rfl ?_; (simp [go_sem]; try (refine ⟨by kernel_rfl,?_⟩))))
   refine awp_loop (fun y : Nat => ⟨mkE [(0,.sl (F.map fo)),(1,il P),(2,ii b),(3,.v (.int .u8 yr)),(8,bb false),(9,bb true),(10,.sl ((nowY F s y).map fo)),(11,ii (hadY F s y)),(12,ii (paidY F s y)),(13,ii ((y : Int) * s)),(14,ii y)],[]⟩) (fun y => y ≤ Y ∧ goodY F s y) (fun y => Y - y) 0 ?_ ?_ ?_
   · refine sub_of _ [] (by simp [go_sem]) ?_
     simp [go_sem,nowY,hadY,paidY]
   · exact ⟨Nat.zero_le _,fun t h => absurd h (Nat.not_lt_zero _)⟩
   · rintro y ⟨hy,hgood⟩
     have hok :=years_ok (s :=s) hf hr y hgood
     have hnl :=nowY_len (F :=F) (s :=s) y
     (repeat (refine awp_stepG [0,1,2,3,8,9,10,11,12,13,14,15,16,17,18,19,20,21,22,23,24,25,26,48,57,68,77,91,98,112,127,143,147,156] hX mixed rfl ?_; (simp [go_sem,htm,hw8,hw9]; try (refine ⟨by kernel_rfl,?_⟩))))
     refine awp_cond (b :=decide (y < Y)) (by simp [go_sem,htm,hw8,hw9]) (fun hc => ?_) (fun hc => ?_)
     · simp at hc
       have hys : 0 ≤ (y : Int) * s ∧ (y : Int) * s ≤ 4 * 12000000 :=by
        have h1 :=Int.mul_nonneg (show (0 : Int) ≤ y by omega) hsb.1
        have h2 : (y : Int) * s ≤ 4 * s :=Int.mul_le_mul_of_nonneg_right (by omega) hsb.1
        omega
       have cr :=round_m P hP b ((y : Int) * s)
       cases hR : rightP P b with
       | false =>
         rw [hR,if_neg (by simp),if_neg (by simp)] at cr
         (repeat (refine awp_stepG [0,1,2,3,8,9,10,11,12,13,14,15,16,17,18,19,20,21,22,23,24,25,26,48,57,68,77,91,98,112,127,143,147,156] hX mixed rfl ?_; (simp [go_sem]; try (refine ⟨by kernel_rfl,?_⟩))))
         first | refine callKa (cr) ?_ | refine callTa (cr) ?_
         try (simp [go_sem]; try (refine ⟨by kernel_rfl,?_⟩))
         (repeat (refine awp_stepG [0,1,2,3,8,9,10,11,12,13,14,15,16,17,18,19,20,21,22,23,24,25,26,48,57,68,77,91,98,112,127,143,147,156] hX mixed rfl ?_; (simp [go_sem]; try (refine ⟨by kernel_rfl,?_⟩))))
         refine awp_cond (b :=true) (by simp [go_sem]) (fun _ => ?_) (fun h => by cases h)
         (repeat (refine awp_stepG [0,1,2,3,8,9,10,11,12,13,14,15,16,17,18,19,20,21,22,23,24,25,26,48,57,68,77,91,98,112,127,143,147,156] hX mixed rfl ?_; (simp [go_sem]; try (refine ⟨by kernel_rfl,?_⟩))))
       | true =>
         have R :=right_RP hR
         have hfe :=pw_fairE R (n :=s) (m :=(y : Int) * s) hsb.1 hys.1 (by omega)
         have hfs :=pfair_sum R (n :=s) (m :=(y : Int) * s) hsb.1 hys.1
         have hfb :=pfair_bd R (n :=s) (m :=(y : Int) * s) hsb.1 hys.1
         have hfl :=fair_len s (wts P) ((y : Int) * s)
         rw [wts_len] at hfl
         rw [hs,hR,if_pos ⟨rfl,hfe⟩,if_pos rfl,hfe] at cr
         generalize fair s (wts P) ((y : Int) * s) = L at *
         have hsa :=sum_abs (B :=60000000) (l :=L) fun x hx => by have :=hfb x hx; omega
         (repeat (refine awp_stepG [0,1,2,3,8,9,10,11,12,13,14,15,16,17,18,19,20,21,22,23,24,25,26,48,57,68,77,91,98,112,127,143,147,156] hX mixed rfl ?_; (simp [go_sem]; try (refine ⟨by kernel_rfl,?_⟩))))
         first | refine callKa (cr) ?_ | refine callTa (cr) ?_
         try (simp [go_sem]; try (refine ⟨by kernel_rfl,?_⟩))
         (repeat (refine awp_stepG [0,1,2,3,8,9,10,11,12,13,14,15,16,17,18,19,20,21,22,23,24,25,26,48,57,68,77,91,98,112,127,143,147,156] hX mixed rfl ?_; (simp [go_sem]; try (refine ⟨by kernel_rfl,?_⟩))))
         refine awp_cond (b :=false) (by simp [go_sem]) (fun h => by cases h) (fun _ => ?_)
         (repeat (refine awp_stepG [0,1,2,3,8,9,10,11,12,13,14,15,16,17,18,19,20,21,22,23,24,25,26,48,57,68,77,91,98,112,127,143,147,156] hX mixed rfl ?_; (simp [go_sem]; try (refine ⟨by kernel_rfl,?_⟩))))
         refine awp_loop (fun k : Nat => ⟨mkE [(0,.sl (F.map fo)),(1,il P),(2,ii b),(3,.v (.int .u8 yr)),(8,bb false),(9,bb true),(10,.sl ((nowY F s y).map fo)),(11,ii (hadY F s y)),(12,ii (paidY F s y)),(13,ii ((y : Int) * s)),(14,ii y),(15,il L),(17,ii (sumI (L.take k))),(18,ii k)],[]⟩) (fun k => k ≤ L.length) (fun k => L.length - k) 0 ?_ ?_ ?_
         · refine sub_of _ [] (by simp [go_sem]) ?_
           simp [go_sem,sumI]
         · omega
         · intro k hk
           have hs1 :=hsa k hk
           (repeat (refine awp_stepG [0,1,2,3,8,9,10,11,12,13,14,15,16,17,18,19,20,21,22,23,24,25,26,48,57,68,77,91,98,112,127,143,147,156] hX mixed rfl ?_; (simp [go_sem]; try (refine ⟨by kernel_rfl,?_⟩))))
           refine awp_cond (b :=decide (k < L.length)) (by simp [go_sem]) (fun hd => ?_) (fun hd => ?_)
           · simp at hd
             have hs2 :=hsa (k + 1) (by omega)
             have n1 :=sumI_next hd
             rw [n1] at hs2
             have w1 :=w64 (x :=sumI (L.take k) + L[k]) (by omega) (by omega)
             (repeat (refine awp_stepG [0,1,2,3,8,9,10,11,12,13,14,15,16,17,18,19,20,21,22,23,24,25,26,48,57,68,77,91,98,112,127,143,147,156] hX mixed rfl ?_; (simp [go_sem,hd,w1]; (try simp (disch :=omega) only [w64,td,tm]); try (refine ⟨by kernel_rfl,?_⟩))))
             refine ⟨k + 1,by omega,by omega,?_⟩
             rw [n1]
             refine sub_of _ [] (by simp [go_sem]) ?_
             simp [go_sem]
           · have hkl : k = L.length :=by simp at hd; omega
             subst hkl
             rw [List.take_length,hfs]
             clear hs1 hsa hfb hfs cr
             have hw13 :=w64 (x :=(y : Int) * s + s) (by omega) (by omega)
             (repeat (refine awp_stepG [0,1,2,3,8,9,10,11,12,13,14,15,16,17,18,19,20,21,22,23,24,25,26,48,57,68,77,91,98,112,127,143,147,156] hX mixed rfl ?_; (simp [go_sem,hs,ws]; try (refine ⟨by kernel_rfl,?_⟩))))
             refine awp_cond (b :=false) (by simp [go_sem]) (fun h => by cases h) (fun _ => ?_)
             (repeat (refine awp_stepG [0,1,2,3,8,9,10,11,12,13,14,15,16,17,18,19,20,21,22,23,24,25,26,48,57,68,77,91,98,112,127,143,147,156] hX mixed rfl ?_; (simp [go_sem,hw13]; try (refine ⟨by kernel_rfl,?_⟩))))
             have hnx :=next_few (s :=s) hf y
             have hXl : (nextY F s y).length = F.length :=by simp
             have eN : nowY F s (y + 1) = outK (nextY F s y) (owedL (nextY F s y)) (nextY F s y).length :=rfl
             have eP : paidY F s (y + 1) = paidY F s y + sumI (gets (nextY F s y)) :=rfl
             have eH : hadY F s (y + 1) = hadY F s y - ((nowY F s y).getD 0 dF).income + s :=rfl
             have hgn :=fun h => goodY_next (y :=y) hgood h
             have hyo :=fun h => years_ok (s :=s) hf hr (y + 1) (hgn h)
             have hN0 :=hok.am ((nowY F s y).getD 0 dF) (by rw [getF (show 0 < (nowY F s y).length by omega)]; exact List.getElem_mem _)
             have hhb :=has_bd hok.am (nowY F s y).length (Nat.le_refl _)
             rw [show ((nowY F s y).map hasF).take (nowY F s y).length = (nowY F s y).map hasF from List.take_of_length_le (by simp)] at hhb
             have hhb2 : 0 ≤ hasV (nowY F s y) ∧ hasV (nowY F s y) ≤ 9895604649984 * (nowY F s y).length :=hhb
             have hhe :=hok.eq
             have hpd :=hok.pd
             have hXe : nextY F s y = nextK F (nowY F s y) s F.length :=rfl
             clear hhb hok
             generalize nowY F s y = N at *
             generalize hadY F s y = H at *
             generalize paidY F s y = p at *
             have hi0 :=hN0.i
             have wH1 :=w64 (x :=H - (N.getD 0 dF).income) (by omega) (by omega)
             have wH2 :=w64 (x :=H - (N.getD 0 dF).income + s) (by omega) (by omega)
             refine awp_loop (fun k : Nat => ⟨mkE [(0,.sl (F.map fo)),(1,il P),(2,ii b),(3,.v (.int .u8 yr)),(8,bb false),(9,bb true),(10,.sl (N.map fo)),(11,ii (if k = 0 then H else hadY F s (y + 1))),(12,ii p),(13,ii ((y : Int) * s + s)),(14,ii y),(17,ii s),(19,.ow 0),(20,ii k)],[.row ⟨36,5,(nextK F N s k).map fo⟩]⟩) (fun k => k ≤ F.length) (fun k => F.length - k) 0 ?_ ?_ ?_
             · refine sub_of _ [.birth 36 5] (by simp [go_sem]) ?_
               simp [go_sem,nextK]
             · omega
             · intro k hk
               have lk :=nextK_len F N s k
               (repeat (refine awp_stepG [0,1,2,3,8,9,10,11,12,13,14,15,16,17,18,19,20,21,22,23,24,25,26,48,57,68,77,91,98,112,127,143,147,156] hX mixed rfl ?_; (simp [go_sem,hnl]; try (refine ⟨by kernel_rfl,?_⟩))))
               refine awp_cond (b :=decide (k < F.length)) (by simp [go_sem,hnl]) (fun he => ?_) (fun he => ?_)
               · simp at he
                 have hkN : k < N.length :=by omega
                 have n2 :=nextK_next (s :=s) he hkN
                 (repeat (refine awp_stepG [0,1,2,3,8,9,10,11,12,13,14,15,16,17,18,19,20,21,22,23,24,25,26,48,57,68,77,91,98,112,127,143,147,156] hX mixed rfl ?_; (simp [go_sem,he,hkN]; try (refine ⟨by kernel_rfl,?_⟩))))
                 refine awp_cut ⟨mkE [(0,.sl (F.map fo)),(1,il P),(2,ii b),(3,.v (.int .u8 yr)),(8,bb false),(9,bb true),(10,.sl (N.map fo)),(11,ii (hadY F s (y + 1))),(12,ii p),(13,ii ((y : Int) * s + s)),(14,ii y),(17,ii s),(19,.ow 0),(20,ii k),(21,.el 1 5 0 0)],[.row ⟨36,5,(nextK F N s k).map fo⟩,.row ⟨36,5,[fo (nxt k F[k] N[k] s)]⟩]⟩ ?_ ?_
                 · by_cases hk0 : k = 0
                   · subst hk0
                     have eI : (N.getD 0 dF).income = N[0].income :=by rw [getF hkN]
                     rw [eI] at wH1 wH2 eH
                     refine awp_cond (b :=true) (by simp [go_sem]) (fun _ => ?_) (fun h => by cases h)
                     (repeat (refine awp_stepG [0,1,2,3,8,9,10,11,12,13,14,15,16,17,18,19,20,21,22,23,24,25,26,48,57,68,77,91,98,112,127,143,147,156] hX mixed rfl ?_; (simp [go_sem,wH1,wH2]; try (refine ⟨by kernel_rfl,?_⟩))))
                     rw [eH]
                     refine sub_of _ [.old 0 ⟨36,5,(nextK F N s 0).map fo⟩,.old 1 ⟨36,5,[fo (nxt 0 F[0] N[0] s)]⟩] (by simp [go_sem,zone_fo,nxt]) ?_
                     simp [go_sem]
                   · refine awp_cond (b :=false) (by simp [go_sem,hk0]) (fun h => by cases h) (fun _ => ?_)
                     (repeat (refine awp_stepG [0,1,2,3,8,9,10,11,12,13,14,15,16,17,18,19,20,21,22,23,24,25,26,48,57,68,77,91,98,112,127,143,147,156] hX mixed rfl ?_; (simp [go_sem]; try (refine ⟨by kernel_rfl,?_⟩))))
                     refine sub_of _ [.old 0 ⟨36,5,(nextK F N s k).map fo⟩,.old 1 ⟨36,5,[fo (nxt k F[k] N[k] s)]⟩] (by simp [go_sem,zone_fo,nxt,hk0]) ?_
                     simp [go_sem,hk0]
                 (simp [go_sem]; try (refine ⟨by kernel_rfl,?_⟩))
                 (repeat (refine awp_stepG [0,1,2,3,8,9,10,11,12,13,14,15,16,17,18,19,20,21,22,23,24,25,26,48,57,68,77,91,98,112,127,143,147,156] hX mixed rfl ?_; (simp [go_sem,lk]; (try simp (disch :=omega) only [w64,td,tm]); try (refine ⟨by kernel_rfl,?_⟩))))
                 (repeat refine And.intro (by first | omega | (unfold maxLen; omega) | kernel_rfl | (refine ⟨by first | omega | (unfold maxLen; omega),by first | omega | (unfold maxLen; omega)⟩) | grind) ?_)
                 (repeat (refine awp_stepG [0,1,2,3,8,9,10,11,12,13,14,15,16,17,18,19,20,21,22,23,24,25,26,48,57,68,77,91,98,112,127,143,147,156] hX mixed rfl ?_; (simp [go_sem,lk]; (try simp (disch :=omega) only [w64,td,tm]); try (refine ⟨by kernel_rfl,?_⟩))))
                 refine ⟨k + 1,by omega,by omega,?_⟩
                 rw [n2]
                 refine sub_of _ [.old 3 ⟨36,5,(nextK F N s k ++ [nxt k F[k] N[k] s]).map fo⟩] (by simp [go_sem,zone_fo]) ?_
                 simp [go_sem]
               · have hkl : k = F.length :=by simp at he; omega
                 subst hkl
                 rw [if_neg (by omega),← hXe]
                 generalize nextY F s y = X1 at *
                 refine awp_sub (st0 :=⟨mkE [(0,.sl (F.map fo)),(1,il P),(2,ii b),(3,.v (.int .u8 yr)),(8,bb false),(9,bb true),(11,ii (hadY F s (y + 1))),(12,ii p),(13,ii ((y : Int) * s + s)),(14,ii y),(19,.sl (X1.map fo))],[]⟩) ?_ ?_
                 · have zX :=zone_fo X1
                   refine sub_of _ [] (by simp [go_sem]) ?_
                   simp [go_sem,zX]
                 have q1 :=pright_m X1 hnx
                 cases hRX : rightV X1 with
                 | false =>
                   rw [hRX] at q1
                   (repeat (refine awp_stepG [0,1,2,3,8,9,10,11,12,13,14,15,16,17,18,19,20,21,22,23,24,25,26,48,57,68,77,91,98,112,127,143,147,156] hX mixed rfl ?_; (simp [go_sem]; try (refine ⟨by kernel_rfl,?_⟩))))
                   first | refine callKa (q1) ?_ | refine callTa (q1) ?_
                   try (simp [go_sem]; try (refine ⟨by kernel_rfl,?_⟩))
                   refine awp_cond (b :=true) (by simp [go_sem]) (fun _ => ?_) (fun h => by cases h)
                   (repeat (refine awp_stepG [0,1,2,3,8,9,10,11,12,13,14,15,16,17,18,19,20,21,22,23,24,25,26,48,57,68,77,91,98,112,127,143,147,156] hX mixed rfl ?_; (simp [go_sem]; try (refine ⟨by kernel_rfl,?_⟩))))
                 | true =>
                   rw [hRX] at q1
                   have hvX :=rv_of hRX
                   have q2 :=year_m X1 hnx hRX
                   have hYX :=year_ok hnx hRX
                   have hgd :=hgn hRX
                   have hfin :=hyo hRX
                   generalize owedL X1 = o at *
                   generalize gets X1 = G at *
                   have q3 :=formed_m X1 o G (by omega) hvX hYX.ol fun x hx => (hYX.ob x hx).1
                   have hgb : ∀ x ∈ G,0 ≤ x ∧ x ≤ 6597069766657 :=fun x hx => by
                    obtain ⟨t,ht,rfl⟩ :=List.getElem_of_mem hx
                    have h1 :=hYX.gb t ht (by rw [← hYX.gl]; exact ht)
                    have h2 :=asks_mem hvX (List.getElem_mem (show t < (asksK X1 X1.length).length by rw [← hYX.gl]; exact ht))
                    omega
                   have sg :=sum_bd40 hgb
                   have hgl :=hYX.gl
                   have hal :=hYX.al
                   have l2 :=awAll_len X1 G X1.length
                   clear hhb2 hhe hN0 hi0 wH1 wH2 hgn hyo hXe
                   (repeat (refine awp_stepG [0,1,2,3,8,9,10,11,12,13,14,15,16,17,18,19,20,21,22,23,24,25,26,48,57,68,77,91,98,112,127,143,147,156] hX mixed rfl ?_; (simp [go_sem]; try (refine ⟨by kernel_rfl,?_⟩))))
                   first | refine callKa (q1) ?_ | refine callTa (q1) ?_
                   try (simp [go_sem]; try (refine ⟨by kernel_rfl,?_⟩))
                   refine awp_cond (b :=false) (by simp [go_sem]) (fun h => by cases h) (fun _ => ?_)
                   (repeat (refine awp_stepG [0,1,2,3,8,9,10,11,12,13,14,15,16,17,18,19,20,21,22,23,24,25,26,48,57,68,77,91,98,112,127,143,147,156] hX mixed rfl ?_; (simp [go_sem]; try (refine ⟨by kernel_rfl,?_⟩))))
                   first | refine callKa (q2) ?_ | refine callTa (q2) ?_
                   try (simp [go_sem]; try (refine ⟨by kernel_rfl,?_⟩))
                   (repeat (refine awp_stepG [0,1,2,3,8,9,10,11,12,13,14,15,16,17,18,19,20,21,22,23,24,25,26,48,57,68,77,91,98,112,127,143,147,156] hX mixed rfl ?_; (simp [go_sem]; try (refine ⟨by kernel_rfl,?_⟩))))
                   first | refine callGa (fun hg => q3) ?_ | refine callGTa (fun hg => q3) ?_
                   try (simp [go_sem]; try (refine ⟨by kernel_rfl,?_⟩))
                   refine awp_cond (b :=false) (by simp [go_sem]) (fun h => by cases h) (fun _ => ?_)
                   (repeat (refine awp_stepG [0,1,2,3,8,9,10,11,12,13,14,15,16,17,18,19,20,21,22,23,24,25,26,48,57,68,77,91,98,112,127,143,147,156] hX mixed rfl ?_; (simp [go_sem]; try (refine ⟨by kernel_rfl,?_⟩))))
                   refine awp_loop (fun i : Nat => ⟨mkE [(0,.sl (F.map fo)),(1,il P),(2,ii b),(3,.v (.int .u8 yr)),(8,bb false),(9,bb true),(11,ii (hadY F s (y + 1))),(12,ii (p + sumI (G.take (asksK X1 i).length))),(13,ii ((y : Int) * s + s)),(14,ii y),(22,.sl ((outK X1 o X1.length).map fo)),(23,.sl ((awAll X1 G X1.length).map awl)),(25,ii i)],[]⟩) (fun i => i ≤ X1.length) (fun i => X1.length - i) 0 ?_ ?_ ?_
                   · refine sub_of _ [] (by simp [go_sem]) ?_
                     simp [go_sem,asksK,sumI]
                   · omega
                   · intro i hi
                     have hoi :=off_le hi
                     (repeat (refine awp_stepG [0,1,2,3,8,9,10,11,12,13,14,15,16,17,18,19,20,21,22,23,24,25,26,48,57,68,77,91,98,112,127,143,147,156] hX mixed rfl ?_; (simp [go_sem,l2]; try (refine ⟨by kernel_rfl,?_⟩))))
                     refine awp_cond (b :=decide (i < X1.length)) (by simp [go_sem]) (fun hb2 => ?_) (fun hb2 => ?_)
                     · simp at hb2
                       have a2 : i < (awAll X1 G X1.length).length :=by omega
                       have e2 :=aw_get (F :=X1) (G :=G) hb2 hb2 a2
                       have n3 :=off_next hb2
                       have hoi2 :=off_le (F :=X1) (i :=i + 1) (by omega)
                       (repeat (refine awp_stepG [0,1,2,3,8,9,10,11,12,13,14,15,16,17,18,19,20,21,22,23,24,25,26,48,57,68,77,91,98,112,127,143,147,156] hX mixed rfl ?_; (simp [go_sem]; try (refine ⟨by kernel_rfl,?_⟩))))
                       refine awp_loop (fun j : Nat => ⟨mkE [(0,.sl (F.map fo)),(1,il P),(2,ii b),(3,.v (.int .u8 yr)),(8,bb false),(9,bb true),(11,ii (hadY F s (y + 1))),(12,ii (p + sumI (G.take ((asksK X1 i).length + j)))),(13,ii ((y : Int) * s + s)),(14,ii y),(22,.sl ((outK X1 o X1.length).map fo)),(23,.sl ((awAll X1 G X1.length).map awl)),(25,ii i),(26,ii j)],[]⟩) (fun j => j ≤ X1[i].claims.length) (fun j => X1[i].claims.length - j) 0 ?_ ?_ ?_
                       · refine sub_of _ [] (by simp [go_sem]) ?_
                         simp [go_sem]
                       · omega
                       · intro j hj
                         have l3 :=awK_len X1 G i X1[i].claims.length
                         have sg1 :=sg ((asksK X1 i).length + j) (by omega)
                         (repeat (refine awp_stepG [0,1,2,3,8,9,10,11,12,13,14,15,16,17,18,19,20,21,22,23,24,25,26,48,57,68,77,91,98,112,127,143,147,156] hX mixed rfl ?_; (simp [go_sem,hb2,a2,e2,l3]; try (refine ⟨by kernel_rfl,?_⟩))))
                         refine awp_cond (b :=decide (j < X1[i].claims.length)) (by simp [go_sem]) (fun hc3 => ?_) (fun hc3 => ?_)
                         · simp at hc3
                           have hg : (asksK X1 i).length + j < G.length :=by omega
                           have a3 : j < (awK X1 G i X1[i].claims.length).length :=by omega
                           have e3 :=awK_get (F :=X1) (G :=G) hb2 hc3 hc3 hg a3
                           have n4 :=sumI_next hg
                           have sg2 :=sg ((asksK X1 i).length + j + 1) (by omega)
                           rw [n4] at sg2
                           have w4 :=w64 (x :=p + sumI (G.take ((asksK X1 i).length + j)) + G[(asksK X1 i).length + j]) (by omega) (by omega)
                           (repeat (refine awp_stepG [0,1,2,3,8,9,10,11,12,13,14,15,16,17,18,19,20,21,22,23,24,25,26,48,57,68,77,91,98,112,127,143,147,156] hX mixed rfl ?_; (simp [go_sem,hb2,a2,e2,l3,a3,e3,hc3,w4]; (try simp (disch :=omega) only [w64,td,tm]); try (refine ⟨by kernel_rfl,?_⟩))))
                           refine ⟨j + 1,by omega,by omega,?_⟩
                           rw [← Nat.add_assoc,n4,← Int.add_assoc]
                           refine sub_of _ [] (by simp [go_sem]) ?_
                           simp [go_sem]
                         · have hjl : j = X1[i].claims.length :=by simp at hc3; omega
                           subst hjl
                           (repeat (refine awp_stepG [0,1,2,3,8,9,10,11,12,13,14,15,16,17,18,19,20,21,22,23,24,25,26,48,57,68,77,91,98,112,127,143,147,156] hX mixed rfl ?_; (simp [go_sem]; (try simp (disch :=omega) only [w64,td,tm]); try (refine ⟨by kernel_rfl,?_⟩))))
                           refine ⟨i + 1,by omega,by omega,?_⟩
                           rw [n3]
                           refine sub_of _ [] (by simp [go_sem]) ?_
                           simp [go_sem]
                     · have hil : i = X1.length :=by simp at hb2; omega
                       subst hil
                       have t3 : G.take (asksK X1 X1.length).length = G :=List.take_of_length_le (by omega)
                       have em : ((y + 1 : Nat) : Int) * s = (y : Int) * s + s :=by rw [show ((y + 1 : Nat) : Int) = (y : Int) + 1 by omega,Int.add_mul,Int.one_mul]
                       rw [t3]
                       (repeat (refine awp_stepG [0,1,2,3,8,9,10,11,12,13,14,15,16,17,18,19,20,21,22,23,24,25,26,48,57,68,77,91,98,112,127,143,147,156] hX mixed rfl ?_; (simp [go_sem]; (try simp (disch :=omega) only [w64,td,tm]); try (refine ⟨by kernel_rfl,?_⟩))))
                       refine ⟨y + 1,⟨by omega,hgd⟩,by omega,?_⟩
                       rw [eN,eP,em]
                       refine sub_of _ [] (by simp [go_sem]) ?_
                       simp [go_sem]
     · have hyY : y = Y :=by simp at hc; omega
       subst hyY
       have d1 :=phasV_m (nowY F s y) (by omega) hok.am
       have hhb :=has_bd hok.am (nowY F s y).length (Nat.le_refl _)
       rw [show ((nowY F s y).map hasF).take (nowY F s y).length = (nowY F s y).map hasF from List.take_of_length_le (by simp)] at hhb
       have hhb2 : 0 ≤ hasV (nowY F s y) ∧ hasV (nowY F s y) ≤ 9895604649984 * (nowY F s y).length :=hhb
       have hhe :=hok.eq
       have hpd :=hok.pd
       have w5 :=w64 (x :=hasV (nowY F s y) + paidY F s y) (by omega) (by omega)
       (repeat (refine awp_stepG [0,1,2,3,8,9,10,11,12,13,14,15,16,17,18,19,20,21,22,23,24,25,26,48,57,68,77,91,98,112,127,143,147,156] hX mixed rfl ?_; (simp [go_sem]; try (refine ⟨by kernel_rfl,?_⟩))))
       first | refine callGa (fun hg => d1) ?_ | refine callGTa (fun hg => d1) ?_
       try (simp [go_sem,w5]; try (refine ⟨by kernel_rfl,?_⟩))
       rw [decide_eq_true hhe]
       (repeat (refine awp_stepG [0,1,2,3,8,9,10,11,12,13,14,15,16,17,18,19,20,21,22,23,24,25,26,48,57,68,77,91,98,112,127,143,147,156] hX mixed rfl ?_; (simp [go_sem]; try (refine ⟨by kernel_rfl,?_⟩))))
end Go.Proofs.Ytndiamkmcoghdaa

namespace Go.Proofs.Ytndiamkmcoghdaa
open Go.ChangeShapes Go.WideShapes Go.ChangeAt Go.RowKit Go.Ab
theorem Try.own : ownKnob Try.prog.godebug = none :=by kernel_rfl
theorem Try.laidOut : laidOutB Try.prog = true :=by kernel_rfl
set_option maxRecDepth 100000 in
theorem rep_is {H : Type} {enc : TypeId × Value → H} {W : World} {base : Nat} {v : Value} {d : DataW H} {p : List MemPlace} {M : Nat → Prop} {r : Go.Reach} {b0 : Nat} (hM : ∀ b,b < W.heap.size → M b)
  (hval : Value.okWide Try.prog W r b0 25 v) (h : DataW.Trod enc Try.prog W base (fun _ => true) true 25 v d p) : ∃ L : List Int,L.length ≤ maxLen ∧ RepZ W M v (.sl (L.map ii)) :=
 rep_sliceV ii 1 (by decide) (fun _ => rfl) Try.underlying25 (by kernel_rfl) hM (el_int Try.underlying3) hval h
theorem el_aw {H : Type} {enc : TypeId × Value → H} {W : World} {base : Nat} {M : Nat → Prop} : ∀ n cs y,DataW.trod enc Try.prog W base (fun _ => true) true n 38 cs = some y → cs.length = 2 → ∃ x : Int × Int,∀ (j : Nat) (c : Value) (z : AV),cs[j]? = some c → (cl x).flat[j]? = some z → RepZ W M c z :=by
 intro n cs y h hl
 match cs,hl with
 | [c0,c1],_ =>
   obtain ⟨n0,y0,h0⟩ :=field_cell (c :=c0) Try.underlying38 h (i :=0) rfl (by kernel_rfl) rfl
   obtain ⟨n1,y1,h1⟩ :=field_cell (c :=c1) Try.underlying38 h (i :=1) rfl (by kernel_rfl) rfl
   obtain ⟨a,rfl⟩ :=cells_of_one Try.underlying3 h0
   obtain ⟨b,rfl⟩ :=cells_of_one Try.underlying3 h1
   refine ⟨(a,b),fun j x z hx hz => ?_⟩
   match j with
   | 0 => simp [AV.flat_agg] at hx hz; subst hx; subst hz; exact .v _
   | 1 => simp [AV.flat_agg] at hx hz; subst hx; subst hz; exact .v _
   | j + 2 => simp at hx
set_option maxRecDepth 100000 in
theorem el_fd {H : Type} {enc : TypeId × Value → H} {W : World} {base : Nat} {M : Nat → Prop} (hM : ∀ b,b < W.heap.size → M b) : ∀ n cs y,DataW.trod enc Try.prog W base (fun _ => true) true n 36 cs = some y → cs.length = 5 → ∃ x : Fd,∀ (j : Nat) (c : Value) (z : AV),cs[j]? = some c → (fo x).flat[j]? = some z → RepZ W M c z :=by
 intro n cs y h hl
 match cs,hl with
 | [c0,c1,c2,c3,c4],_ =>
   obtain ⟨n0,y0,h0⟩ :=field_cell (c :=c0) Try.underlying36 h (i :=0) rfl (by kernel_rfl) rfl
   obtain ⟨n1,y1,h1⟩ :=field_cell (c :=c1) Try.underlying36 h (i :=1) rfl (by kernel_rfl) rfl
   obtain ⟨n2,y2,h2⟩ :=field_cell (c :=c2) Try.underlying36 h (i :=2) rfl (by kernel_rfl) rfl
   obtain ⟨n3,y3,h3⟩ :=field_cell (c :=c3) Try.underlying36 h (i :=3) rfl (by kernel_rfl) rfl
   obtain ⟨n4,y4,h4⟩ :=field_cell (c :=c4) Try.underlying36 h (i :=4) rfl (by kernel_rfl) rfl
   obtain ⟨a,rfl⟩ :=cells_of_one Try.underlying3 h0
   obtain ⟨b,rfl⟩ :=cells_of_one Try.underlying3 h1
   obtain ⟨c,rfl⟩ :=cells_of_one Try.underlying3 h2
   obtain ⟨v3,hv3,C,_,hr3⟩ :=rep_slice (M :=M) cl 2 (by decide) (fun _ => rfl) Try.underlying34 (by kernel_rfl) hM el_aw h3
   obtain ⟨v4,hv4,S,_,hr4⟩ :=rep_slice (M :=M) ii 1 (by decide) (fun _ => rfl) Try.underlying25 (by kernel_rfl) hM (el_int Try.underlying3) h4
   have e3 : v3 = c3 :=by simpa using hv3.symm
   have e4 : v4 = c4 :=by simpa using hv4.symm
   subst e3; subst e4
   refine ⟨⟨a,b,c,C,S⟩,fun j x z hx hz => ?_⟩
   match j with
   | 0 => simp [AV.flat_agg] at hx hz; subst hx; subst hz; exact .v _
   | 1 => simp [AV.flat_agg] at hx hz; subst hx; subst hz; exact .v _
   | 2 => simp [AV.flat_agg] at hx hz; subst hx; subst hz; exact .v _
   | 3 => simp [AV.flat_agg] at hx hz; subst hx; subst hz; exact hr3
   | 4 => simp [AV.flat_agg] at hx hz; subst hx; subst hz; exact hr4
   | j + 5 => simp at hx
set_option maxRecDepth 100000 in
theorem rep_fds {H : Type} {enc : TypeId × Value → H} {W : World} {base : Nat} {v : Value} {d : DataW H} {p : List MemPlace} {M : Nat → Prop} {r : Go.Reach} {b0 : Nat} (hM : ∀ b,b < W.heap.size → M b)
  (hval : Value.okWide Try.prog W r b0 22 v) (h : DataW.Trod enc Try.prog W base (fun _ => true) true 22 v d p) : ∃ L : List Fd,L.length ≤ maxLen ∧ RepZ W M v (.sl (L.map fo)) :=
 rep_sliceV fo 5 (by decide) (fun _ => rfl) Try.underlying22 (by kernel_rfl) hM (el_fd hM) hval h
end Go.Proofs.Ytndiamkmcoghdaa

