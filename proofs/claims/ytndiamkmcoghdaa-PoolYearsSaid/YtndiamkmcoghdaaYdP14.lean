/-
  Lemmas for the statement at the top.
-/
import Derived.Test.YtndiamkmcoghdaaYdP13
import Derived.Test.YtndiamkmcoghdaaYdP9
set_option linter.all false
namespace Go.Proofs.Ytndiamkmcoghdaa
open Go.RowKit Go.Ab
attribute [local irreducible] AWP Go.Ab.Sub Means MeansH CallK CallG CallT CallGT CallU
theorem mb {a b A B : Int} (h1 : 0 ≤ a ∧ a ≤ A) (h2 : 0 ≤ b ∧ b ≤ B) : 0 ≤ a * b ∧ a * b ≤ A * B :=
 ⟨Int.mul_nonneg h1.1 h2.1,Int.mul_le_mul h1.2 h2.2 h2.1 (by omega)⟩
set_option maxHeartbeats 8000000 in
set_option maxRecDepth 20000 in
theorem next_m (W H : List Int) (t s : Int) (hl : W.length ≤ 60) (hH : H.length = W.length) (hw : ∀ i,i < W.length → 0 ≤ gt W i ∧ gt W i ≤ 65536) (hh : ∀ i,i < W.length → 0 ≤ gt H i ∧ gt H i ≤ 65536)
  (ht : 0 ≤ t ∧ t ≤ 65537) (hs : 0 ≤ s ∧ s ≤ 65536) : Means true Try.prog 92 [il W,il H,ii t,ii s] (ii (bst W H t s W.length)) :=by
 refine means_fn true 54 [.tmp 8] Try.func92 rfl rfl rfl (by simp) (by decide) rfl fun X hX => ?_
 (repeat (refine awp_stepG [0,1,2,3,8,9,10,11,12,13,14,15,28,50] hX mixed rfl ?_; (simp [go_sem]; try (refine ⟨by kernel_rfl,?_⟩))))
 refine awp_loop (fun k : Nat => ⟨mkE [(0,il W),(1,il H),(2,ii t),(3,ii s),(9,ii (bst W H t s k)),(12,il W),(13,ii W.length),(14,ii k)],[]⟩) (fun k => k ≤ W.length) (fun k => W.length - k) 0 ?_ ?_ ?_
 · refine sub_of _ [] (by simp [go_sem]) ?_
   simp [go_sem,bst]
 · omega
 · intro k hk
   have hbl :=bst_lt W H t s k
   have hbs : bst W H t s (k + 1) = if t * gt W k ≤ gt H k * s then bst W H t s k else if bst W H t s k < 0 ∨ gt W (bst W H t s k).toNat * (gt H k + 1) < gt W k * (gt H (bst W H t s k).toNat + 1) then k else bst W H t s k :=rfl
   (repeat (refine awp_stepG [0,1,2,3,8,9,10,11,12,13,14,15,28,50] hX mixed rfl ?_; (simp [go_sem]; try (refine ⟨by kernel_rfl,?_⟩))))
   refine awp_cond (b :=decide (k < W.length)) (by simp [go_sem]) (fun hc => ?_) (fun hc => ?_)
   · simp at hc
     have hkH : k < H.length :=by omega
     have hwk :=hw k hc
     have hhk :=hh k hc
     have c1 :=mb hhk hs
     have c2 :=mb ht hwk
     have wk :=w64 (x :=(k : Int) + 1) (by omega) (by omega)
     have gH :=gt_at hkH
     have gW :=gt_at hc
     rw [gH] at hbs hhk c1
     rw [gW] at hbs hwk c2
     obtain ⟨x,hx⟩ : ∃ x,W[k] = x :=⟨_,rfl⟩
     obtain ⟨y,hy⟩ : ∃ y,H[k] = y :=⟨_,rfl⟩
     rw [hx] at hbs hwk c2
     rw [hy] at hbs hhk c1
     have w1 :=w64 (x :=y * s) (by omega) (by omega)
     have w2 :=w64 (x :=t * x) (by omega) (by omega)
     (repeat (refine awp_stepG [0,1,2,3,8,9,10,11,12,13,14,15,28,50] hX mixed rfl ?_; (simp [go_sem,hc,hkH,hx,hy,w1,w2]; try (refine ⟨by kernel_rfl,?_⟩))))
     refine awp_cond (b :=decide (t * x ≤ y * s)) (by simp [go_sem,hc,hkH,hx,hy,w1,w2]) (fun hd => ?_) (fun hd => ?_)
     · simp only [decide_eq_true_eq] at hd
       rw [if_pos hd] at hbs
       (repeat (refine awp_stepG [0,1,2,3,8,9,10,11,12,13,14,15,28,50] hX mixed rfl ?_; (simp [go_sem,wk]; try (refine ⟨by kernel_rfl,?_⟩))))
       refine ⟨k + 1,by omega,by omega,?_⟩
       rw [hbs]
       refine sub_of _ [] (by simp [go_sem]) ?_
       simp [go_sem]
     · simp only [decide_eq_false_iff_not] at hd
       rw [if_neg hd] at hbs
       by_cases hneg : bst W H t s k < 0
       · rw [if_pos (.inl hneg)] at hbs
         have e : bst W H t s k = -1 :=by omega
         rw [e]
         have h0W : 0 < W.length :=by omega
         have h0H : 0 < H.length :=by omega
         (repeat (refine awp_stepG [0,1,2,3,8,9,10,11,12,13,14,15,28,50] hX mixed rfl ?_; (simp [go_sem,hc,hkH,hx,hy,h0W,h0H]; try (refine ⟨by kernel_rfl,?_⟩))))
         refine awp_cond (b :=true) (by simp [go_sem]) (fun _ => ?_) (fun h => by cases h)
         (repeat (refine awp_stepG [0,1,2,3,8,9,10,11,12,13,14,15,28,50] hX mixed rfl ?_; (simp [go_sem,wk]; try (refine ⟨by kernel_rfl,?_⟩))))
         refine ⟨k + 1,by omega,by omega,?_⟩
         rw [hbs]
         refine sub_of _ [] (by simp [go_sem]) ?_
         simp [go_sem]
       · obtain ⟨p,hp⟩ : ∃ p : Nat,bst W H t s k = (p : Int) :=⟨(bst W H t s k).toNat,by omega⟩
         rw [hp] at hbs hbl ⊢
         rw [Int.toNat_natCast] at hbs
         have hpW : p < W.length :=by omega
         have hpH : p < H.length :=by omega
         have hwp :=hw p hpW
         have hhp :=hh p hpW
         rw [gt_at hpW] at hbs hwp
         rw [gt_at hpH] at hbs hhp
         obtain ⟨u,hu⟩ : ∃ u,W[p] = u :=⟨_,rfl⟩
         obtain ⟨v,hv⟩ : ∃ v,H[p] = v :=⟨_,rfl⟩
         rw [hu] at hbs hwp
         rw [hv] at hbs hhp
         have c3 :=mb (a :=x) (b :=v + 1) (A :=65536) (B :=65537) hwk (by omega)
         have c4 :=mb (a :=u) (b :=y + 1) (A :=65536) (B :=65537) hwp (by omega)
         have w3 :=w64 (x :=v + 1) (by omega) (by omega)
         have w4 :=w64 (x :=y + 1) (by omega) (by omega)
         have w5 :=w64 (x :=x * (v + 1)) (by omega) (by omega)
         have w6 :=w64 (x :=u * (y + 1)) (by omega) (by omega)
         have hpn : ¬ (p : Int) < 0 :=by omega
         (repeat (refine awp_stepG [0,1,2,3,8,9,10,11,12,13,14,15,28,50] hX mixed rfl ?_; (simp [go_sem,hc,hkH,hpW,hpH,hx,hy,hu,hv,w3,w4,w5,w6,hpn]; try (refine ⟨by kernel_rfl,?_⟩))))
         refine awp_cond (b :=decide (u * (y + 1) < x * (v + 1))) (by simp [go_sem,hc,hkH,hpW,hpH,hx,hy,hu,hv,w3,w4,w5,w6,hpn]) (fun hf => ?_) (fun hf => ?_)
         · simp only [decide_eq_true_eq] at hf
           rw [if_pos (.inr hf)] at hbs
           (repeat (refine awp_stepG [0,1,2,3,8,9,10,11,12,13,14,15,28,50] hX mixed rfl ?_; (simp [go_sem,wk]; try (refine ⟨by kernel_rfl,?_⟩))))
           refine ⟨k + 1,by omega,by omega,?_⟩
           rw [hbs]
           refine sub_of _ [] (by simp [go_sem]) ?_
           simp [go_sem]
         · simp only [decide_eq_false_iff_not] at hf
           rw [if_neg (by omega)] at hbs
           (repeat (refine awp_stepG [0,1,2,3,8,9,10,11,12,13,14,15,28,50] hX mixed rfl ?_; (simp [go_sem,wk]; try (refine ⟨by kernel_rfl,?_⟩))))
           refine ⟨k + 1,by omega,by omega,?_⟩
           rw [hbs]
           refine sub_of _ [] (by simp [go_sem]) ?_
           simp [go_sem]
   · have : k = W.length :=by simp at hc; omega
     subst this
     (repeat (refine awp_stepG [0,1,2,3,8,9,10,11,12,13,14,15,28,50] hX mixed rfl ?_; (simp [go_sem]; try (refine ⟨by kernel_rfl,?_⟩))))
set_option maxHeartbeats 16000000 in
set_option maxRecDepth 20000 in
theorem given_ok (W : List Int) (n : Int) (hl : W.length ≤ 9223372036854775807) (he : givenE W n = 0) : Means true Try.prog 78 [il W,ii n] (.tup [il (given W n),ii 0]) :=by
 obtain ⟨hok,hse,hs0,hs1,hn0,hn1,hn⟩ :=givenE_zero he
 have hl60 :=okW_len hok
 have hsm :=wsum_m W hl
 rw [hse] at hsm
 have hgv :=fun t => giv_ok (gt_W hok) hs0 t
 have hgl :=fun t => giv_len W t
 have hgb :=fun t i (h : i < W.length) => giv_le hok hs0 t h
 have hWb :=fun i (h : i < W.length) => W_le hok h
 have hW0 :=gt_W hok
 have hgn :=fun i (h : i < W.length) => given_bd (n :=n) hok hs0 hn0 h
 have hA :=given_len W n
 have hat :=fun i h h' h2 => given_at (W :=W) (n :=n) (i :=i) h h' h2
 have htm : n.tmod (sumL W) = n % sumL W :=Int.tmod_eq_emod_of_nonneg hn0
 have htd : n.tdiv (sumL W) = n / sumL W :=Int.tdiv_eq_ediv_of_nonneg hn0
 have hm0 :=Int.emod_nonneg n (show sumL W ≠ 0 by omega)
 have hm1 :=Int.emod_lt_of_pos n hs0
 have hd0 :=Int.ediv_nonneg hn0 (show 0 ≤ sumL W by omega)
 have hd1 :=Int.ediv_le_self (sumL W) hn0
 obtain ⟨T,hT⟩ : ∃ T : Nat,(T : Int) = n % sumL W :=⟨(n % sumL W).toNat,by omega⟩
 have hTt : (n % sumL W).toNat = T :=by omega
 rw [hTt] at hat
 have hnx :=fun t (ht : t ≤ 65536) => next_m W (giv W t) ((t : Int) + 1) (sumL W) hl60 (hgl t) (fun i hi => ⟨hW0 i,Int.le_trans (hWb i hi) hs1⟩) (fun i hi => by have :=hgb t i hi; omega) (by omega) (by omega)
 have hgs : ∀ t b,bst W (giv W t) ((t : Int) + 1) (sumL W) W.length = (b : Nat) → giv W (t + 1) = (giv W t).set b (gt (giv W t) b + 1) :=fun t b hb => by simp only [giv]; rw [hb,Int.toNat_natCast]
 have hz : giv W 0 = List.replicate W.length 0 :=rfl
 generalize hAe : given W n = A at *
 generalize sumL W = s at *
 have hww :=w64 (x :=(W.length : Int)) (by omega) (by omega)
 refine means_fn true 62 [.tmp 4,.tmp 5] Try.func78 rfl rfl rfl (by simp) (by decide) rfl fun X hX => ?_
 (repeat (refine awp_stepG [0,1,4,5,6,7,8,9,10,19,21,29,42,43,44,45] hX mixed rfl ?_; (simp [go_sem]; try (refine ⟨by kernel_rfl,?_⟩))))
 first | refine callKa (hsm) ?_ | refine callTa (hsm) ?_
 try (simp [go_sem]; try (refine ⟨by kernel_rfl,?_⟩))
 (repeat (refine awp_stepG [0,1,4,5,6,7,8,9,10,19,21,29,42,43,44,45] hX mixed rfl ?_; (simp [go_sem]; try (refine ⟨by kernel_rfl,?_⟩))))
 first | refine callGa (fun hg => amount_m n) ?_ | refine callGTa (fun hg => amount_m n) ?_
 try (simp [go_sem]; try (refine ⟨by kernel_rfl,?_⟩))
 have hsn : s ≠ 0 :=by omega
 refine awp_cond (b :=false) (by simp [go_sem,hsn,hn]) (fun h => by cases h) (fun _ => ?_)
 (repeat (refine awp_stepG [0,1,4,5,6,7,8,9,10,19,21,29,42,43,44,45] hX mixed rfl ?_; (simp [go_sem]; try (refine ⟨by kernel_rfl,?_⟩))))
 refine awp_cond (b :=false) (by simp [go_sem]; try omega) (fun h => by cases h) (fun _ => ?_)
 (repeat (refine awp_stepG [0,1,4,5,6,7,8,9,10,19,21,29,42,43,44,45] hX mixed rfl ?_; (simp [go_sem]; try (refine ⟨by kernel_rfl,?_⟩))))
 (repeat refine And.intro (by first | omega | (unfold maxLen; omega) | kernel_rfl | (refine ⟨by first | omega | (unfold maxLen; omega),by first | omega | (unfold maxLen; omega)⟩) | grind) ?_)
 (repeat (refine awp_stepG [0,1,4,5,6,7,8,9,10,19,21,29,42,43,44,45] hX mixed rfl ?_; (simp [go_sem]; try (refine ⟨by kernel_rfl,?_⟩))))
 refine awp_loop (fun t : Nat => ⟨mkE [(0,il W),(1,ii n),(6,ii s),(7,.ow 0),(8,ii ((t : Int) + 1))],[rowI (giv W t)]⟩) (fun t => t ≤ T) (fun t => T - t) 0 ?_ ?_ ?_
 · rw [hz]
   refine sub_of _ [.old 0 ⟨3,1,(List.replicate W.length (0 : Int)).map ii⟩] ?_ ?_
   · simp [go_sem,List.map_replicate]
   · simp [go_sem]
 · omega
 · intro t ht
   have hgt :=hgl t
   have wr :=w64 (x :=n % s) (by omega) (by omega)
   (repeat (refine awp_stepG [0,1,4,5,6,7,8,9,10,19,21,29,42,43,44,45] hX mixed rfl ?_; (simp [go_sem,hsn,htm,wr]; try (refine ⟨by kernel_rfl,?_⟩))))
   refine awp_cond (b :=decide (t < T)) (by simp [go_sem,hsn,htm,wr]; try omega) (fun hc => ?_) (fun hc => ?_)
   · simp at hc
     obtain ⟨ok,b,hb,hbe⟩ :=hgv t
     have hx :=hnx t (by omega)
     rw [hbe] at hx
     have hst :=hgs t b hbe
     have hbg : b < (giv W t).length :=by omega
     have hbb :=hgb t b hb
     rw [gt_at hbg] at hst hbb
     clear hgs hnx hgv hgb hat ok
     obtain ⟨v,hv⟩ : ∃ v,(giv W t)[b] = v :=⟨_,rfl⟩
     rw [hv] at hst hbb
     generalize giv W t = G at *
     have wv :=w64 (x :=v + 1) (by omega) (by omega)
     have wt :=w64 (x :=(t : Int) + 1 + 1) (by omega) (by omega)
     (repeat (refine awp_stepG [0,1,4,5,6,7,8,9,10,19,21,29,42,43,44,45] hX mixed rfl ?_; (simp [go_sem]; try (refine ⟨by kernel_rfl,?_⟩))))
     first | refine callKa (hx) ?_ | refine callTa (hx) ?_
     try (simp [go_sem,hbg,hv,wv]; try (refine ⟨by kernel_rfl,?_⟩))
     try (repeat refine And.intro (by first | omega | (unfold maxLen; omega) | kernel_rfl | (refine ⟨by first | omega | (unfold maxLen; omega),by first | omega | (unfold maxLen; omega)⟩) | grind) ?_)
     try (repeat (refine awp_stepG [0,1,4,5,6,7,8,9,10,19,21,29,42,43,44,45] hX mixed rfl ?_; (simp [go_sem,hbg,hv,wv,wt]; try (refine ⟨by kernel_rfl,?_⟩))))
     refine ⟨t + 1,by omega,by omega,?_⟩
     rw [hst]
     refine sub_of _ [.old 0 ⟨3,1,(G.set b (v + 1)).map ii⟩] (by simp [go_sem]) ?_
     simp [go_sem]
   · have htT : t = T :=by simp at hc; omega
     subst htT
     have hgT :=hgb t
     clear hgs hnx hgv hgb
     generalize giv W t = G at *
     have hAG : A.length = G.length :=by omega
     have mz :=mix_zero A G
     have mf :=mix_full hAG
     (repeat (refine awp_stepG [0,1,4,5,6,7,8,9,10,19,21,29,42,43,44,45] hX mixed rfl ?_; (simp [go_sem]; try (refine ⟨by kernel_rfl,?_⟩))))
     refine awp_loop (fun k : Nat => ⟨mkE [(0,il W),(1,ii n),(6,ii s),(7,.ow 0),(42,il W),(43,ii W.length),(44,ii k)],[rowI (mixL A G k)]⟩) (fun k => k ≤ W.length) (fun k => W.length - k) 0 ?_ ?_ ?_
     · rw [mz]
       refine sub_of _ [.old 0 ⟨3,1,G.map ii⟩] (by simp [go_sem]) ?_
       simp [go_sem]
     · omega
     · intro k hk
       have ml :=mix_len hAG (k :=k) (by omega)
       (repeat (refine awp_stepG [0,1,4,5,6,7,8,9,10,19,21,29,42,43,44,45] hX mixed rfl ?_; (simp [go_sem]; try (refine ⟨by kernel_rfl,?_⟩))))
       refine awp_cond (b :=decide (k < W.length)) (by simp [go_sem]) (fun hd => ?_) (fun hd => ?_)
       · simp at hd
         have ms :=mix_set hAG (k :=k) (by omega)
         have hkm : k < (mixL A G k).length :=by omega
         have ma :=mix_at hAG (k :=k) (by omega) hkm
         have ha :=hat k hd (by omega) (by omega)
         have hkb :=hgn k hd
         have hGk :=hgT k hd
         have hWk :=hW0 k
         rw [gt_at (by omega),gt_at hd] at hkb
         rw [gt_at (by omega)] at hGk
         rw [ha] at ms hkb
         obtain ⟨g,hg⟩ : ∃ g,G[k]'(by omega) = g :=⟨_,rfl⟩
         obtain ⟨w,hw⟩ : ∃ w,W[k] = w :=⟨_,rfl⟩
         rw [hg] at ma ms hkb hGk
         rw [hw] at ms hkb
         clear ha hat hg ml
         generalize mixL A G k = R at *
         have w1 :=w64 (x :=n / s) (by omega) (by omega)
         have w2 :=w64 (x :=n / s * w) (by omega) (by omega)
         have w3 :=w64 (x :=g + n / s * w) (by omega) (by omega)
         have w4 :=w64 (x :=(k : Int) + 1) (by omega) (by omega)
         (repeat (refine awp_stepG [0,1,4,5,6,7,8,9,10,19,21,29,42,43,44,45] hX mixed rfl ?_; (simp [go_sem,hd,hkm,ma,hw,hsn,htd,w1,w2,w3,w4]; try (refine ⟨by kernel_rfl,?_⟩))))
         try (repeat refine And.intro (by first | omega | (unfold maxLen; omega) | kernel_rfl | (refine ⟨by first | omega | (unfold maxLen; omega),by first | omega | (unfold maxLen; omega)⟩) | grind) ?_)
         try (repeat (refine awp_stepG [0,1,4,5,6,7,8,9,10,19,21,29,42,43,44,45] hX mixed rfl ?_; (simp [go_sem,hd,hkm,ma,hw,hsn,htd,w1,w2,w3,w4]; try (refine ⟨by kernel_rfl,?_⟩))))
         refine ⟨k + 1,by omega,by omega,?_⟩
         rw [← ms]
         refine sub_of _ [.old 0 ⟨3,1,(R.set k (g + n / s * w)).map ii⟩] (by simp [go_sem]) ?_
         simp [go_sem]
       · have e : mixL A G k = A :=by
          have : k = A.length :=by simp at hd; omega
          rw [this]; exact mf
         rw [e]
         (repeat (refine awp_stepG [0,1,4,5,6,7,8,9,10,19,21,29,42,43,44,45] hX mixed rfl ?_; (simp [go_sem]; try (refine ⟨by kernel_rfl,?_⟩))))
set_option maxHeartbeats 16000000 in
set_option maxRecDepth 20000 in
theorem given_h (W : List Int) (n : Int) (hl : W.length ≤ 9223372036854775807) (he : givenE W n = 0) : MeansH Try.prog 78 [] [il W,ii n] (.tup [.ow 0,ii 0]) [rowI (given W n)] :=by
 obtain ⟨hok,hse,hs0,hs1,hn0,hn1,hn⟩ :=givenE_zero he
 have hl60 :=okW_len hok
 have hsm :=wsum_m W hl
 rw [hse] at hsm
 have hgv :=fun t => giv_ok (gt_W hok) hs0 t
 have hgl :=fun t => giv_len W t
 have hgb :=fun t i (h : i < W.length) => giv_le hok hs0 t h
 have hWb :=fun i (h : i < W.length) => W_le hok h
 have hW0 :=gt_W hok
 have hgn :=fun i (h : i < W.length) => given_bd (n :=n) hok hs0 hn0 h
 have hA :=given_len W n
 have hat :=fun i h h' h2 => given_at (W :=W) (n :=n) (i :=i) h h' h2
 have htm : n.tmod (sumL W) = n % sumL W :=Int.tmod_eq_emod_of_nonneg hn0
 have htd : n.tdiv (sumL W) = n / sumL W :=Int.tdiv_eq_ediv_of_nonneg hn0
 have hm0 :=Int.emod_nonneg n (show sumL W ≠ 0 by omega)
 have hm1 :=Int.emod_lt_of_pos n hs0
 have hd0 :=Int.ediv_nonneg hn0 (show 0 ≤ sumL W by omega)
 have hd1 :=Int.ediv_le_self (sumL W) hn0
 obtain ⟨T,hT⟩ : ∃ T : Nat,(T : Int) = n % sumL W :=⟨(n % sumL W).toNat,by omega⟩
 have hTt : (n % sumL W).toNat = T :=by omega
 rw [hTt] at hat
 have hnx :=fun t (ht : t ≤ 65536) => next_m W (giv W t) ((t : Int) + 1) (sumL W) hl60 (hgl t) (fun i hi => ⟨hW0 i,Int.le_trans (hWb i hi) hs1⟩) (fun i hi => by have :=hgb t i hi; omega) (by omega) (by omega)
 have hgs : ∀ t b,bst W (giv W t) ((t : Int) + 1) (sumL W) W.length = (b : Nat) → giv W (t + 1) = (giv W t).set b (gt (giv W t) b + 1) :=fun t b hb => by simp only [giv]; rw [hb,Int.toNat_natCast]
 have hz : giv W 0 = List.replicate W.length 0 :=rfl
 generalize hAe : given W n = A at *
 generalize sumL W = s at *
 have hww :=w64 (x :=(W.length : Int)) (by omega) (by omega)
 refine meansH_fn 0 62 [.tmp 4,.tmp 5] Try.func78 rfl rfl rfl (by simp) (by decide) rfl fun X hX => ?_
 (repeat (refine awp_stepH [0,1,4,5,6,7,8,9,10,19,21,29,42,43,44,45] hX mixed rfl ?_; (simp [go_sem]; try (refine ⟨by kernel_rfl,?_⟩))))
 first | refine callKa (hsm) ?_ | refine callTa (hsm) ?_
 try (simp [go_sem]; try (refine ⟨by kernel_rfl,?_⟩))
 (repeat (refine awp_stepH [0,1,4,5,6,7,8,9,10,19,21,29,42,43,44,45] hX mixed rfl ?_; (simp [go_sem]; try (refine ⟨by kernel_rfl,?_⟩))))
 first | refine callGa (fun hg => amount_m n) ?_ | refine callGTa (fun hg => amount_m n) ?_
 try (simp [go_sem]; try (refine ⟨by kernel_rfl,?_⟩))
 have hsn : s ≠ 0 :=by omega
 refine awp_cond (b :=false) (by simp [go_sem,hsn,hn]) (fun h => by cases h) (fun _ => ?_)
 (repeat (refine awp_stepH [0,1,4,5,6,7,8,9,10,19,21,29,42,43,44,45] hX mixed rfl ?_; (simp [go_sem]; try (refine ⟨by kernel_rfl,?_⟩))))
 refine awp_cond (b :=false) (by simp [go_sem]; try omega) (fun h => by cases h) (fun _ => ?_)
 (repeat (refine awp_stepH [0,1,4,5,6,7,8,9,10,19,21,29,42,43,44,45] hX mixed rfl ?_; (simp [go_sem]; try (refine ⟨by kernel_rfl,?_⟩))))
 (repeat refine And.intro (by first | omega | (unfold maxLen; omega) | kernel_rfl | (refine ⟨by first | omega | (unfold maxLen; omega),by first | omega | (unfold maxLen; omega)⟩) | grind) ?_)
 (repeat (refine awp_stepH [0,1,4,5,6,7,8,9,10,19,21,29,42,43,44,45] hX mixed rfl ?_; (simp [go_sem]; try (refine ⟨by kernel_rfl,?_⟩))))
 refine awp_loop (fun t : Nat => ⟨mkE [(0,il W),(1,ii n),(6,ii s),(7,.ow 0),(8,ii ((t : Int) + 1))],[rowI (giv W t)]⟩) (fun t => t ≤ T) (fun t => T - t) 0 ?_ ?_ ?_
 · rw [hz]
   refine sub_of _ [.old 0 ⟨3,1,(List.replicate W.length (0 : Int)).map ii⟩] ?_ ?_
   · simp [go_sem,List.map_replicate]
   · simp [go_sem]
 · omega
 · intro t ht
   have hgt :=hgl t
   have wr :=w64 (x :=n % s) (by omega) (by omega)
   (repeat (refine awp_stepH [0,1,4,5,6,7,8,9,10,19,21,29,42,43,44,45] hX mixed rfl ?_; (simp [go_sem,hsn,htm,wr]; try (refine ⟨by kernel_rfl,?_⟩))))
   refine awp_cond (b :=decide (t < T)) (by simp [go_sem,hsn,htm,wr]; try omega) (fun hc => ?_) (fun hc => ?_)
   · simp at hc
     obtain ⟨ok,b,hb,hbe⟩ :=hgv t
     have hx :=hnx t (by omega)
     rw [hbe] at hx
     have hst :=hgs t b hbe
     have hbg : b < (giv W t).length :=by omega
     have hbb :=hgb t b hb
     rw [gt_at hbg] at hst hbb
     clear hgs hnx hgv hgb hat ok
     obtain ⟨v,hv⟩ : ∃ v,(giv W t)[b] = v :=⟨_,rfl⟩
     rw [hv] at hst hbb
     generalize giv W t = G at *
     have wv :=w64 (x :=v + 1) (by omega) (by omega)
     have wt :=w64 (x :=(t : Int) + 1 + 1) (by omega) (by omega)
     (repeat (refine awp_stepH [0,1,4,5,6,7,8,9,10,19,21,29,42,43,44,45] hX mixed rfl ?_; (simp [go_sem]; try (refine ⟨by kernel_rfl,?_⟩))))
     first | refine callKa (hx) ?_ | refine callTa (hx) ?_
     try (simp [go_sem,hbg,hv,wv]; try (refine ⟨by kernel_rfl,?_⟩))
     try (repeat refine And.intro (by first | omega | (unfold maxLen; omega) | kernel_rfl | (refine ⟨by first | omega | (unfold maxLen; omega),by first | omega | (unfold maxLen; omega)⟩) | grind) ?_)
     try (repeat (refine awp_stepH [0,1,4,5,6,7,8,9,10,19,21,29,42,43,44,45] hX mixed rfl ?_; (simp [go_sem,hbg,hv,wv,wt]; try (refine ⟨by kernel_rfl,?_⟩))))
     refine ⟨t + 1,by omega,by omega,?_⟩
     rw [hst]
     refine sub_of _ [.old 0 ⟨3,1,(G.set b (v + 1)).map ii⟩] (by simp [go_sem]) ?_
     simp [go_sem]
   · have htT : t = T :=by simp at hc; omega
     subst htT
     have hgT :=hgb t
     clear hgs hnx hgv hgb
     generalize giv W t = G at *
     have hAG : A.length = G.length :=by omega
     have mz :=mix_zero A G
     have mf :=mix_full hAG
     (repeat (refine awp_stepH [0,1,4,5,6,7,8,9,10,19,21,29,42,43,44,45] hX mixed rfl ?_; (simp [go_sem]; try (refine ⟨by kernel_rfl,?_⟩))))
     refine awp_loop (fun k : Nat => ⟨mkE [(0,il W),(1,ii n),(6,ii s),(7,.ow 0),(42,il W),(43,ii W.length),(44,ii k)],[rowI (mixL A G k)]⟩) (fun k => k ≤ W.length) (fun k => W.length - k) 0 ?_ ?_ ?_
     · rw [mz]
       refine sub_of _ [.old 0 ⟨3,1,G.map ii⟩] (by simp [go_sem]) ?_
       simp [go_sem]
     · omega
     · intro k hk
       have ml :=mix_len hAG (k :=k) (by omega)
       (repeat (refine awp_stepH [0,1,4,5,6,7,8,9,10,19,21,29,42,43,44,45] hX mixed rfl ?_; (simp [go_sem]; try (refine ⟨by kernel_rfl,?_⟩))))
       refine awp_cond (b :=decide (k < W.length)) (by simp [go_sem]) (fun hd => ?_) (fun hd => ?_)
       · simp at hd
         have ms :=mix_set hAG (k :=k) (by omega)
         have hkm : k < (mixL A G k).length :=by omega
         have ma :=mix_at hAG (k :=k) (by omega) hkm
         have ha :=hat k hd (by omega) (by omega)
         have hkb :=hgn k hd
         have hGk :=hgT k hd
         have hWk :=hW0 k
         rw [gt_at (by omega),gt_at hd] at hkb
         rw [gt_at (by omega)] at hGk
         rw [ha] at ms hkb
         obtain ⟨g,hg⟩ : ∃ g,G[k]'(by omega) = g :=⟨_,rfl⟩
         obtain ⟨w,hw⟩ : ∃ w,W[k] = w :=⟨_,rfl⟩
         rw [hg] at ma ms hkb hGk
         rw [hw] at ms hkb
         clear ha hat hg ml
         generalize mixL A G k = R at *
         have w1 :=w64 (x :=n / s) (by omega) (by omega)
         have w2 :=w64 (x :=n / s * w) (by omega) (by omega)
         have w3 :=w64 (x :=g + n / s * w) (by omega) (by omega)
         have w4 :=w64 (x :=(k : Int) + 1) (by omega) (by omega)
         (repeat (refine awp_stepH [0,1,4,5,6,7,8,9,10,19,21,29,42,43,44,45] hX mixed rfl ?_; (simp [go_sem,hd,hkm,ma,hw,hsn,htd,w1,w2,w3,w4]; try (refine ⟨by kernel_rfl,?_⟩))))
         try (repeat refine And.intro (by first | omega | (unfold maxLen; omega) | kernel_rfl | (refine ⟨by first | omega | (unfold maxLen; omega),by first | omega | (unfold maxLen; omega)⟩) | grind) ?_)
         try (repeat (refine awp_stepH [0,1,4,5,6,7,8,9,10,19,21,29,42,43,44,45] hX mixed rfl ?_; (simp [go_sem,hd,hkm,ma,hw,hsn,htd,w1,w2,w3,w4]; try (refine ⟨by kernel_rfl,?_⟩))))
         refine ⟨k + 1,by omega,by omega,?_⟩
         rw [← ms]
         refine sub_of _ [.old 0 ⟨3,1,(R.set k (g + n / s * w)).map ii⟩] (by simp [go_sem]) ?_
         simp [go_sem]
       · have e : mixL A G k = A :=by
          have : k = A.length :=by simp at hd; omega
          rw [this]; exact mf
         rw [e]
         (repeat (refine awp_stepH [0,1,4,5,6,7,8,9,10,19,21,29,42,43,44,45] hX mixed rfl ?_; (simp [go_sem]; try (refine ⟨by kernel_rfl,?_⟩))))
         refine awp_ret ?_; (try simp only [thenQ,blkQ,loopQ]); refine retH_ret [(4,.ow 0),(5,ii 0)] [.old 0 ⟨3,1,A.map ii⟩] ?_
         simp [go_sem]
theorem given_no (W : List Int) (n : Int) (hl : W.length ≤ 9223372036854775807) (he : givenE W n ≠ 0) : Means true Try.prog 78 [il W,ii n] (.tup [il [],ii (givenE W n)]) :=by
 have hsm :=wsum_m W hl
 unfold givenE at he ⊢
 generalize wsum W = s at *
 by_cases h1 : s = 0 ∨ isAm n = false
 · rw [if_pos h1]
   refine means_fn true 62 [.tmp 4,.tmp 5] Try.func78 rfl rfl rfl (by simp) (by decide) rfl fun X hX => ?_
   (repeat (refine awp_stepG [0,1,4,5,6,7,8,9,10,19,21,29,42,43,44,45] hX mixed rfl ?_; (simp [go_sem]; try (refine ⟨by kernel_rfl,?_⟩))))
   first | refine callKa (hsm) ?_ | refine callTa (hsm) ?_
   try (simp [go_sem]; try (refine ⟨by kernel_rfl,?_⟩))
   (repeat (refine awp_stepG [0,1,4,5,6,7,8,9,10,19,21,29,42,43,44,45] hX mixed rfl ?_; (simp [go_sem]; try (refine ⟨by kernel_rfl,?_⟩))))
   first | refine callGa (fun hg => amount_m n) ?_ | refine callGTa (fun hg => amount_m n) ?_
   try (simp [go_sem]; try (refine ⟨by kernel_rfl,?_⟩))
   refine awp_cond (b :=true) (by rcases h1 with h1 | h1 <;> simp [go_sem,h1]) (fun _ => ?_) (fun h => by cases h)
   (repeat (refine awp_stepG [0,1,4,5,6,7,8,9,10,19,21,29,42,43,44,45] hX mixed rfl ?_; (simp [go_sem]; try (refine ⟨by kernel_rfl,?_⟩))))
 · rw [if_neg h1] at he ⊢
   have h2 : 65536 < s :=Classical.byContradiction fun q => he (if_neg q)
   rw [if_pos h2]
   have hn : isAm n = true :=by cases q : isAm n with
    | true => rfl
    | false => exact absurd (.inr q) h1
   refine means_fn true 62 [.tmp 4,.tmp 5] Try.func78 rfl rfl rfl (by simp) (by decide) rfl fun X hX => ?_
   (repeat (refine awp_stepG [0,1,4,5,6,7,8,9,10,19,21,29,42,43,44,45] hX mixed rfl ?_; (simp [go_sem]; try (refine ⟨by kernel_rfl,?_⟩))))
   first | refine callKa (hsm) ?_ | refine callTa (hsm) ?_
   try (simp [go_sem]; try (refine ⟨by kernel_rfl,?_⟩))
   (repeat (refine awp_stepG [0,1,4,5,6,7,8,9,10,19,21,29,42,43,44,45] hX mixed rfl ?_; (simp [go_sem]; try (refine ⟨by kernel_rfl,?_⟩))))
   first | refine callGa (fun hg => amount_m n) ?_ | refine callGTa (fun hg => amount_m n) ?_
   try (simp [go_sem]; try (refine ⟨by kernel_rfl,?_⟩))
   have hs : s ≠ 0 :=by omega
   refine awp_cond (b :=false) (by simp [go_sem,hs,hn]) (fun h => by cases h) (fun _ => ?_)
   (repeat (refine awp_stepG [0,1,4,5,6,7,8,9,10,19,21,29,42,43,44,45] hX mixed rfl ?_; (simp [go_sem]; try (refine ⟨by kernel_rfl,?_⟩))))
   refine awp_cond (b :=true) (by simp [go_sem,h2]) (fun _ => ?_) (fun h => by cases h)
   (repeat (refine awp_stepG [0,1,4,5,6,7,8,9,10,19,21,29,42,43,44,45] hX mixed rfl ?_; (simp [go_sem]; try (refine ⟨by kernel_rfl,?_⟩))))
theorem sgiven_m (W : List Int) (n : Int) (hl : W.length ≤ 9223372036854775807) : Means true Try.prog 78 [il W,ii n] (.tup [il (if givenE W n = 0 then given W n else []),ii (givenE W n)]) :=by
 by_cases h : givenE W n = 0
 · rw [if_pos h,h]; exact given_ok W n hl h
 · rw [if_neg h]; exact given_no W n hl h
end Go.Proofs.Ytndiamkmcoghdaa

namespace Go.Proofs.Ytndiamkmcoghdaa
open Go.RowKit Go.Ab
attribute [local irreducible] AWP Go.Ab.Sub Means MeansH CallK CallG CallT CallGT CallU
set_option maxHeartbeats 16000000 in
set_option maxRecDepth 20000 in
theorem fair_m (n : Int) (W : List Int) (b : Int) (hl : W.length ≤ 9223372036854775807) : Means true Try.prog 47 [ii n,il W,ii b] (.tup [il (if fairE n W b = 0 then fair n W b else []),ii (fairE n W b)]) :=by
 by_cases hA : isAm n = false ∨ isAm b = false
 · have e : fairE n W b = 1 :=if_pos hA
   rw [e,if_neg (by decide)]
   refine means_fn true 57 [.tmp 6,.tmp 7] Try.func47 rfl rfl rfl (by simp) (by decide) rfl fun X hX => ?_
   (repeat (refine awp_stepG [0,1,2,6,7,8,9,10,11,19,27,38,41,42,43] hX mixed rfl ?_; (simp [go_sem]; try (refine ⟨by kernel_rfl,?_⟩))))
   first | refine callKa (amount_m n) ?_ | refine callTa (amount_m n) ?_
   try (simp [go_sem]; try (refine ⟨by kernel_rfl,?_⟩))
   first | refine callGa (fun hg => amount_m b) ?_ | refine callGTa (fun hg => amount_m b) ?_
   try (simp [go_sem]; try (refine ⟨by kernel_rfl,?_⟩))
   refine awp_cond (b :=true) (by rcases hA with h | h <;> simp [go_sem,h]) (fun _ => ?_) (fun h => by cases h)
   (repeat (refine awp_stepG [0,1,2,6,7,8,9,10,11,19,27,38,41,42,43] hX mixed rfl ?_; (simp [go_sem]; try (refine ⟨by kernel_rfl,?_⟩))))
 · have hn : isAm n = true :=by cases q : isAm n with
    | true => rfl
    | false => exact absurd (.inl q) hA
   have hb : isAm b = true :=by cases q : isAm b with
    | true => rfl
    | false => exact absurd (.inr q) hA
   have hn2 : 0 ≤ n ∧ n ≤ 1099511627776 :=by simpa [isAm] using hn
   have hb2 : 0 ≤ b ∧ b ≤ 1099511627776 :=by simpa [isAm] using hb
   by_cases h1 : givenE W b = 0
   · have c1 :=sgiven_m W b hl
     rw [if_pos h1,h1] at c1
     have e : fairE n W b = givenE W (b + n) :=by unfold fairE; rw [if_neg hA,if_neg (by rw [h1]; simp)]
     have ws :=w64 (x :=b + n) (by omega) (by omega)
     by_cases h2 : givenE W (b + n) = 0
     · rw [e,h2,if_pos rfl]
       have c2 :=given_h W (b + n) hl h2
       obtain ⟨hok,_,hs0,_,hm0,_,_⟩ :=givenE_zero h2
       have hF :=fair_len n W b
       have hA2 :=given_len W (b + n)
       have hB2 :=given_len W b
       have hat :=fun i h h1 h2 => fair_at (n :=n) (W :=W) (b :=b) (i :=i) h h1 h2
       have hb1 :=fun i (h : i < W.length) => given_bd (n :=b + n) hok hs0 (by omega) h
       have hb3 :=fun i (h : i < W.length) => given_bd (n :=b) hok hs0 hb2.1 h
       have hl60 :=okW_len hok
       clear e h1 h2 hA
       generalize fair n W b = F at *
       generalize given W (b + n) = A at *
       generalize given W b = B at *
       have hFA : F.length = A.length :=by omega
       have mz :=mix_zero F A
       have mf :=mix_full hFA
       refine means_fn true 57 [.tmp 6,.tmp 7] Try.func47 rfl rfl rfl (by simp) (by decide) rfl fun X hX => ?_
       (repeat (refine awp_stepG [0,1,2,6,7,8,9,10,11,19,27,38,41,42,43] hX mixed rfl ?_; (simp [go_sem]; try (refine ⟨by kernel_rfl,?_⟩))))
       first | refine callKa (amount_m n) ?_ | refine callTa (amount_m n) ?_
       try (simp [go_sem]; try (refine ⟨by kernel_rfl,?_⟩))
       first | refine callGa (fun hg => amount_m b) ?_ | refine callGTa (fun hg => amount_m b) ?_
       try (simp [go_sem]; try (refine ⟨by kernel_rfl,?_⟩))
       refine awp_cond (b :=false) (by simp [go_sem,hn,hb]) (fun h => by cases h) (fun _ => ?_)
       (repeat (refine awp_stepG [0,1,2,6,7,8,9,10,11,19,27,38,41,42,43] hX mixed rfl ?_; (simp [go_sem]; try (refine ⟨by kernel_rfl,?_⟩))))
       first | refine callKa (c1) ?_ | refine callTa (c1) ?_
       try (simp [go_sem]; try (refine ⟨by kernel_rfl,?_⟩))
       (repeat (refine awp_stepG [0,1,2,6,7,8,9,10,11,19,27,38,41,42,43] hX mixed rfl ?_; (simp [go_sem]; try (refine ⟨by kernel_rfl,?_⟩))))
       refine awp_cond (b :=false) (by simp [go_sem]) (fun h => by cases h) (fun _ => ?_)
       (repeat (refine awp_stepG [0,1,2,6,7,8,9,10,11,19,27,38,41,42,43] hX mixed rfl ?_; (simp [go_sem,ws]; try (refine ⟨by kernel_rfl,?_⟩))))
       first | refine callH_intro [] (c2) (by simp [go_sem]) ?_ | refine callTQ_intro [] (c2) (by simp [go_sem]) ?_ | refine callTE_intro [] (c2) (by simp [go_sem]) ?_
       try (simp [go_sem]; try (refine ⟨by kernel_rfl,?_⟩))
       (repeat (refine awp_stepG [0,1,2,6,7,8,9,10,11,19,27,38,41,42,43] hX mixed rfl ?_; (simp [go_sem]; try (refine ⟨by kernel_rfl,?_⟩))))
       refine awp_cond (b :=false) (by simp [go_sem]) (fun h => by cases h) (fun _ => ?_)
       (repeat (refine awp_stepG [0,1,2,6,7,8,9,10,11,19,27,38,41,42,43] hX mixed rfl ?_; (simp [go_sem,hA2]; try (refine ⟨by kernel_rfl,?_⟩))))
       refine awp_loop (fun k : Nat => ⟨mkE [(8,il B),(10,.ow 0),(41,ii W.length),(42,ii k)],[rowI (mixL F A k)]⟩) (fun k => k ≤ W.length) (fun k => W.length - k) 0 ?_ ?_ ?_
       · rw [mz]
         refine sub_of _ [.old 0 ⟨3,1,A.map ii⟩] (by simp [go_sem]) ?_
         simp [go_sem,hA2]
       · omega
       · intro k hk
         have ml :=mix_len hFA (k :=k) (by omega)
         have ml2 : (mixL F A k).length = W.length :=by omega
         (repeat (refine awp_stepG [0,1,2,6,7,8,9,10,11,19,27,38,41,42,43] hX mixed rfl ?_; (simp [go_sem,ml2]; try (refine ⟨by kernel_rfl,?_⟩))))
         refine awp_cond (b :=decide (k < W.length)) (by simp [go_sem,ml2]) (fun hd => ?_) (fun hd => ?_)
         · simp at hd
           have ms :=mix_set hFA (k :=k) (by omega)
           have hkm : k < (mixL F A k).length :=by omega
           have ma :=mix_at hFA (k :=k) (by omega) hkm
           have ha :=hat k (by omega) (by omega) (by omega)
           have q1 :=hb1 k hd
           have q2 :=hb3 k hd
           rw [gt_at (by omega)] at q1 q2
           rw [ha] at ms
           have hkB : k < B.length :=by omega
           obtain ⟨x,hx⟩ : ∃ x,A[k]'(by omega) = x :=⟨_,rfl⟩
           obtain ⟨y,hy⟩ : ∃ y,B[k] = y :=⟨_,rfl⟩
           rw [hx] at ma ms q1
           rw [hy] at ms q2
           clear ha hat hx
           generalize hM : mixL F A k = R at *
           have w1 :=w64 (x :=x - y) (by omega) (by omega)
           have w2 :=w64 (x :=(k : Int) + 1) (by omega) (by omega)
           (repeat (refine awp_stepG [0,1,2,6,7,8,9,10,11,19,27,38,41,42,43] hX mixed rfl ?_; (simp [go_sem,hkm,ma,hkB,hy,w1,w2]; try (refine ⟨by kernel_rfl,?_⟩))))
           try (repeat refine And.intro (by first | omega | (unfold maxLen; omega) | kernel_rfl | (refine ⟨by first | omega | (unfold maxLen; omega),by first | omega | (unfold maxLen; omega)⟩) | grind) ?_)
           try (repeat (refine awp_stepG [0,1,2,6,7,8,9,10,11,19,27,38,41,42,43] hX mixed rfl ?_; (simp [go_sem,hkm,ma,hkB,hy,w1,w2]; try (refine ⟨by kernel_rfl,?_⟩))))
           refine ⟨k + 1,by omega,by omega,?_⟩
           rw [← ms]
           refine sub_of _ [.old 0 ⟨3,1,(R.set k (x - y)).map ii⟩] (by simp [go_sem]) ?_
           simp [go_sem]
         · have e : mixL F A k = F :=by
            have : k = F.length :=by simp at hd; omega
            rw [this]; exact mf
           rw [e]
           (repeat (refine awp_stepG [0,1,2,6,7,8,9,10,11,19,27,38,41,42,43] hX mixed rfl ?_; (simp [go_sem]; try (refine ⟨by kernel_rfl,?_⟩))))
     · rw [e,if_neg h2]
       have c2 :=given_no W (b + n) hl h2
       have hB2 :=given_len W b
       generalize givenE W (b + n) = E at *
       generalize given W b = B at *
       refine means_fn true 57 [.tmp 6,.tmp 7] Try.func47 rfl rfl rfl (by simp) (by decide) rfl fun X hX => ?_
       (repeat (refine awp_stepG [0,1,2,6,7,8,9,10,11,19,27,38,41,42,43] hX mixed rfl ?_; (simp [go_sem]; try (refine ⟨by kernel_rfl,?_⟩))))
       first | refine callKa (amount_m n) ?_ | refine callTa (amount_m n) ?_
       try (simp [go_sem]; try (refine ⟨by kernel_rfl,?_⟩))
       first | refine callGa (fun hg => amount_m b) ?_ | refine callGTa (fun hg => amount_m b) ?_
       try (simp [go_sem]; try (refine ⟨by kernel_rfl,?_⟩))
       refine awp_cond (b :=false) (by simp [go_sem,hn,hb]) (fun h => by cases h) (fun _ => ?_)
       (repeat (refine awp_stepG [0,1,2,6,7,8,9,10,11,19,27,38,41,42,43] hX mixed rfl ?_; (simp [go_sem]; try (refine ⟨by kernel_rfl,?_⟩))))
       first | refine callKa (c1) ?_ | refine callTa (c1) ?_
       try (simp [go_sem]; try (refine ⟨by kernel_rfl,?_⟩))
       (repeat (refine awp_stepG [0,1,2,6,7,8,9,10,11,19,27,38,41,42,43] hX mixed rfl ?_; (simp [go_sem]; try (refine ⟨by kernel_rfl,?_⟩))))
       refine awp_cond (b :=false) (by simp [go_sem]) (fun h => by cases h) (fun _ => ?_)
       (repeat (refine awp_stepG [0,1,2,6,7,8,9,10,11,19,27,38,41,42,43] hX mixed rfl ?_; (simp [go_sem,ws]; try (refine ⟨by kernel_rfl,?_⟩))))
       first | refine callKa (c2) ?_ | refine callTa (c2) ?_
       try (simp [go_sem]; try (refine ⟨by kernel_rfl,?_⟩))
       (repeat (refine awp_stepG [0,1,2,6,7,8,9,10,11,19,27,38,41,42,43] hX mixed rfl ?_; (simp [go_sem]; try (refine ⟨by kernel_rfl,?_⟩))))
       refine awp_cond (b :=true) (by simp [go_sem,h2]) (fun _ => ?_) (fun h => by cases h)
       (repeat (refine awp_stepG [0,1,2,6,7,8,9,10,11,19,27,38,41,42,43] hX mixed rfl ?_; (simp [go_sem]; try (refine ⟨by kernel_rfl,?_⟩))))
   · have e : fairE n W b = givenE W b :=by unfold fairE; rw [if_neg hA,if_pos h1]
     rw [e,if_neg h1]
     have c1 :=given_no W b hl h1
     generalize givenE W b = E at *
     refine means_fn true 57 [.tmp 6,.tmp 7] Try.func47 rfl rfl rfl (by simp) (by decide) rfl fun X hX => ?_
     (repeat (refine awp_stepG [0,1,2,6,7,8,9,10,11,19,27,38,41,42,43] hX mixed rfl ?_; (simp [go_sem]; try (refine ⟨by kernel_rfl,?_⟩))))
     first | refine callKa (amount_m n) ?_ | refine callTa (amount_m n) ?_
     try (simp [go_sem]; try (refine ⟨by kernel_rfl,?_⟩))
     first | refine callGa (fun hg => amount_m b) ?_ | refine callGTa (fun hg => amount_m b) ?_
     try (simp [go_sem]; try (refine ⟨by kernel_rfl,?_⟩))
     refine awp_cond (b :=false) (by simp [go_sem,hn,hb]) (fun h => by cases h) (fun _ => ?_)
     (repeat (refine awp_stepG [0,1,2,6,7,8,9,10,11,19,27,38,41,42,43] hX mixed rfl ?_; (simp [go_sem]; try (refine ⟨by kernel_rfl,?_⟩))))
     first | refine callKa (c1) ?_ | refine callTa (c1) ?_
     try (simp [go_sem]; try (refine ⟨by kernel_rfl,?_⟩))
     (repeat (refine awp_stepG [0,1,2,6,7,8,9,10,11,19,27,38,41,42,43] hX mixed rfl ?_; (simp [go_sem]; try (refine ⟨by kernel_rfl,?_⟩))))
     refine awp_cond (b :=true) (by simp [go_sem,h1]) (fun _ => ?_) (fun h => by cases h)
     (repeat (refine awp_stepG [0,1,2,6,7,8,9,10,11,19,27,38,41,42,43] hX mixed rfl ?_; (simp [go_sem]; try (refine ⟨by kernel_rfl,?_⟩))))
end Go.Proofs.Ytndiamkmcoghdaa

namespace Go.Proofs.Ytndiamkmcoghdaa
open Go.RowKit Go.Ab
attribute [local irreducible] AWP Go.Ab.Sub Means MeansH CallK CallG CallT CallGT CallU
theorem min_m (L : List Int) (hl : L.length ≤ 9223372036854775807) (h0 : 0 < L.length) : Means true Try.prog 75 [il L] (ii (mnL L)) :=by
 refine means_fn true 25 [.tmp 2] Try.func75 rfl rfl rfl (by simp) (by decide) rfl fun X hX => ?_
 (repeat (refine awp_stepG [0,2,3,4,7,15] hX mixed rfl ?_; (simp [go_sem,h0]; try (refine ⟨by kernel_rfl,?_⟩))))
 refine awp_cond (b :=false) (by simp [go_sem]; try omega) (fun hb => by cases hb) (fun _ => ?_)
 (repeat (refine awp_stepG [0,2,3,4,7,15] hX mixed rfl ?_; (simp [go_sem,h0]; try (refine ⟨by kernel_rfl,?_⟩))))
 refine awp_loop (fun k : Nat => ⟨mkE [(0,il L),(3,ii (mnL (L.take k))),(4,ii k)],[]⟩) (fun k => 1 ≤ k ∧ k ≤ L.length) (fun k => L.length - k) 1 ?_ ?_ ?_
 · have e : mnL (L.take 1) = L[0] :=by cases L with
    | nil => simp at h0
    | cons x l => rfl
   rw [e]
   refine sub_of _ [] (by simp [go_sem]) ?_
   simp [go_sem]
 · omega
 · rintro k ⟨h1,h2⟩
   (repeat (refine awp_stepG [0,2,3,4,7,15] hX mixed rfl ?_; (simp [go_sem]; try (refine ⟨by kernel_rfl,?_⟩))))
   refine awp_cond (b :=decide (k < L.length)) (by simp [go_sem]) (fun hc => ?_) (fun hc => ?_)
   · simp at hc
     have e :=mnL_succ hc (by omega)
     have wk :=w64 (x :=(k : Int) + 1) (by omega) (by omega)
     (repeat (refine awp_stepG [0,2,3,4,7,15] hX mixed rfl ?_; (simp [go_sem,hc,wk]; try (refine ⟨by kernel_rfl,?_⟩))))
     refine ⟨k + 1,by omega,by omega,?_⟩
     rw [e]
     refine sub_of _ [] (by simp [go_sem]) ?_
     simp [go_sem]
   · have : k = L.length :=by simp at hc; omega
     subst this
     rw [List.take_length]
     (repeat (refine awp_stepG [0,2,3,4,7,15] hX mixed rfl ?_; (simp [go_sem]; try (refine ⟨by kernel_rfl,?_⟩))))
theorem max_m (L : List Int) (hl : L.length ≤ 9223372036854775807) (h0 : 0 < L.length) : Means true Try.prog 76 [il L] (ii (mxLP L)) :=by
 refine means_fn true 25 [.tmp 2] Try.func76 rfl rfl rfl (by simp) (by decide) rfl fun X hX => ?_
 (repeat (refine awp_stepG [0,2,3,4,7,15] hX mixed rfl ?_; (simp [go_sem,h0]; try (refine ⟨by kernel_rfl,?_⟩))))
 refine awp_cond (b :=false) (by simp [go_sem]; try omega) (fun hb => by cases hb) (fun _ => ?_)
 (repeat (refine awp_stepG [0,2,3,4,7,15] hX mixed rfl ?_; (simp [go_sem,h0]; try (refine ⟨by kernel_rfl,?_⟩))))
 refine awp_loop (fun k : Nat => ⟨mkE [(0,il L),(3,ii (mxLP (L.take k))),(4,ii k)],[]⟩) (fun k => 1 ≤ k ∧ k ≤ L.length) (fun k => L.length - k) 1 ?_ ?_ ?_
 · have e : mxLP (L.take 1) = L[0] :=by cases L with
    | nil => simp at h0
    | cons x l => rfl
   rw [e]
   refine sub_of _ [] (by simp [go_sem]) ?_
   simp [go_sem]
 · omega
 · rintro k ⟨h1,h2⟩
   (repeat (refine awp_stepG [0,2,3,4,7,15] hX mixed rfl ?_; (simp [go_sem]; try (refine ⟨by kernel_rfl,?_⟩))))
   refine awp_cond (b :=decide (k < L.length)) (by simp [go_sem]) (fun hc => ?_) (fun hc => ?_)
   · simp at hc
     have e :=mxLP_succ hc (by omega)
     have wk :=w64 (x :=(k : Int) + 1) (by omega) (by omega)
     (repeat (refine awp_stepG [0,2,3,4,7,15] hX mixed rfl ?_; (simp [go_sem,hc,wk]; try (refine ⟨by kernel_rfl,?_⟩))))
     refine ⟨k + 1,by omega,by omega,?_⟩
     rw [e]
     refine sub_of _ [] (by simp [go_sem]) ?_
     simp [go_sem]
   · have : k = L.length :=by simp at hc; omega
     subst this
     rw [List.take_length]
     (repeat (refine awp_stepG [0,2,3,4,7,15] hX mixed rfl ?_; (simp [go_sem]; try (refine ⟨by kernel_rfl,?_⟩))))
set_option maxHeartbeats 4000000 in
set_option maxRecDepth 20000 in
theorem weigh_m (C : List Int) (hl : C.length ≤ 9223372036854775807) (b : Int) : Means true Try.prog 46 [il C,ii b] (.tup [il (if rightP C b then wts C else []),ii (if rightP C b then sumL (wts C) else 0),ii (if rightP C b then b * C.length else 0),bb (rightP C b)]) :=by
 cases hr : rightP C b with
 | false =>
   rw [if_neg (by simp),if_neg (by simp),if_neg (by simp)]
   by_cases h0 : C.length = 0
   · have hC : C = [] :=List.length_eq_zero_iff.1 h0
     subst hC
     refine means_fn true 60 [.tmp 4,.tmp 5,.tmp 6,.tmp 7] Try.func46 rfl rfl rfl (by simp) (by decide) rfl fun X hX => ?_
     (repeat (refine awp_stepG [0,1,4,5,6,7,8,10,38,39,40,41,42] hX mixed rfl ?_; (simp [go_sem]; try (refine ⟨by kernel_rfl,?_⟩))))
     first | refine callG_skip rfl ?_ | refine callGT_skip rfl ?_
     try (simp [go_sem]; try (refine ⟨by kernel_rfl,?_⟩))
     first | refine callG_skip rfl ?_ | refine callGT_skip rfl ?_
     try (simp [go_sem]; try (refine ⟨by kernel_rfl,?_⟩))
     refine awp_cond (b :=true) (by simp [go_sem]) (fun _ => ?_) (fun h => by cases h)
     (repeat (refine awp_stepG [0,1,4,5,6,7,8,10,38,39,40,41,42] hX mixed rfl ?_; (simp [go_sem]; try (refine ⟨by kernel_rfl,?_⟩))))
   · have hp : 0 < C.length :=by omega
     have c1 :=min_m C hl hp
     have c2 :=max_m C hl hp
     have hmm :=all_mm hp
     have htd : Int.tdiv 1099511627776 (C.length : Int) = 1099511627776 / (C.length : Int) :=Int.tdiv_eq_ediv_of_nonneg (by omega)
     have hd0 :=Int.ediv_nonneg (a :=1099511627776) (b :=(C.length : Int)) (by omega) (by omega)
     have hd1 :=Int.ediv_le_self (C.length : Int) (show (0 : Int) ≤ 1099511627776 by omega)
     have w1 :=w64 (x :=1099511627776 / (C.length : Int)) (by omega) (by omega)
     have hn0 : ¬ (C.length : Int) = 0 :=by omega
     have fin : (decide ((60 : Int) < C.length) || (decide (b < 0) || (decide (1099511627776 / (C.length : Int) < b) || (decide (mnL C < 0) || decide (1000 < mxLP C))))) = true :=by
      rw [hmm]
      simp only [rightP,okB] at hr
      rw [Bool.eq_false_iff] at hr
      refine Classical.byContradiction fun q => hr ?_
      simp at q ⊢
      exact ⟨⟨⟨⟨by omega,q.1⟩,q.2.1⟩,q.2.2.1⟩,q.2.2.2⟩
     refine means_fn true 60 [.tmp 4,.tmp 5,.tmp 6,.tmp 7] Try.func46 rfl rfl rfl (by simp) (by decide) rfl fun X hX => ?_
     (repeat (refine awp_stepG [0,1,4,5,6,7,8,10,38,39,40,41,42] hX mixed rfl ?_; (simp [go_sem,htd,w1,hn0,h0]; try (refine ⟨by kernel_rfl,?_⟩))))
     first | refine callGa (fun hg => c1) ?_ | refine callGTa (fun hg => c1) ?_
     try (simp [go_sem,hn0,h0]; try (refine ⟨by kernel_rfl,?_⟩))
     first | refine callGa (fun hg => c2) ?_ | refine callGTa (fun hg => c2) ?_
     try (simp [go_sem,hn0,h0]; try (refine ⟨by kernel_rfl,?_⟩))
     try (repeat refine And.intro (by first | omega | (unfold maxLen; omega) | kernel_rfl | (refine ⟨by first | omega | (unfold maxLen; omega),by first | omega | (unfold maxLen; omega)⟩) | grind) ?_)
     refine awp_cond (b :=true) (by simp [go_sem,hn0,h0,Bool.or_assoc]; simpa using fin) (fun _ => ?_) (fun h => by cases h)
     (repeat (refine awp_stepG [0,1,4,5,6,7,8,10,38,39,40,41,42] hX mixed rfl ?_; (simp [go_sem]; try (refine ⟨by kernel_rfl,?_⟩))))
 | true =>
   rw [if_pos rfl,if_pos rfl,if_pos rfl]
   have R :=right_RP hr
   have hp : 0 < C.length :=by have :=R.len; omega
   have h0 : ¬ C.length = 0 :=by omega
   have c1 :=min_m C hl hp
   have c2 :=max_m C hl hp
   have hmm :=all_mm hp
   have htd : Int.tdiv 1099511627776 (C.length : Int) = 1099511627776 / (C.length : Int) :=Int.tdiv_eq_ediv_of_nonneg (by omega)
   have hd0 :=Int.ediv_nonneg (a :=1099511627776) (b :=(C.length : Int)) (by omega) (by omega)
   have hd1 :=Int.ediv_le_self (C.length : Int) (show (0 : Int) ≤ 1099511627776 by omega)
   have w1 :=w64 (x :=1099511627776 / (C.length : Int)) (by omega) (by omega)
   have hn0 : ¬ (C.length : Int) = 0 :=by omega
   have fin : (decide ((60 : Int) < C.length) || (decide (b < 0) || (decide (1099511627776 / (C.length : Int) < b) || (decide (mnL C < 0) || decide (1000 < mxLP C))))) = false :=by
    rw [hmm]
    simp only [rightP,okB,Bool.and_eq_true,decide_eq_true_eq] at hr
    obtain ⟨⟨⟨⟨r1,r2⟩,r3⟩,r4⟩,r5⟩ :=hr
    rw [r5]
    simp
    omega
   have hsb :=fun k => (wts_bd (C :=C.take k) (List.all_eq_true.2 fun x hx => List.all_eq_true.1 R.all x (List.mem_of_mem_take hx)))
   have hcb :=R.coin
   have wcc :=w64 (x :=b * C.length) (by omega) (by omega)
   have hlen :=R.len
   refine means_fn true 60 [.tmp 4,.tmp 5,.tmp 6,.tmp 7] Try.func46 rfl rfl rfl (by simp) (by decide) rfl fun X hX => ?_
   (repeat (refine awp_stepG [0,1,4,5,6,7,8,10,38,39,40,41,42] hX mixed rfl ?_; (simp [go_sem,htd,w1,hn0,h0]; try (refine ⟨by kernel_rfl,?_⟩))))
   first | refine callGa (fun hg => c1) ?_ | refine callGTa (fun hg => c1) ?_
   try (simp [go_sem,hn0,h0]; try (refine ⟨by kernel_rfl,?_⟩))
   first | refine callGa (fun hg => c2) ?_ | refine callGTa (fun hg => c2) ?_
   try (simp [go_sem,hn0,h0]; try (refine ⟨by kernel_rfl,?_⟩))
   try (repeat refine And.intro (by first | omega | (unfold maxLen; omega) | kernel_rfl | (refine ⟨by first | omega | (unfold maxLen; omega),by first | omega | (unfold maxLen; omega)⟩) | grind) ?_)
   refine awp_cond (b :=false) (by simp [go_sem,hn0,h0,Bool.or_assoc]; simpa using fin) (fun h => by cases h) (fun _ => ?_)
   (repeat (refine awp_stepG [0,1,4,5,6,7,8,10,38,39,40,41,42] hX mixed rfl ?_; (simp [go_sem]; try (refine ⟨by kernel_rfl,?_⟩))))
   refine awp_loop (fun k : Nat => ⟨mkE [(1,ii b),(4,.ow 0),(5,ii (sumL (wts (C.take k)))),(8,ii C.length),(39,il C),(40,ii C.length),(41,ii k)],[rowI (wts (C.take k))]⟩) (fun k => k ≤ C.length) (fun k => C.length - k) 0 ?_ ?_ ?_
   · refine sub_of _ [.birth 3 1] (by simp [go_sem,wts]) ?_
     simp [go_sem,wts]
   · omega
   · intro k hk
     have hll : (wts (C.take k)).length = k :=by rw [wts_len,List.length_take]; omega
     have hb1 :=hsb k
     have hlt : (C.take k).length = k :=by rw [List.length_take]; omega
     rw [hlt] at hb1
     (repeat (refine awp_stepG [0,1,4,5,6,7,8,10,38,39,40,41,42] hX mixed rfl ?_; (simp [go_sem]; try (refine ⟨by kernel_rfl,?_⟩))))
     refine awp_cond (b :=decide (k < C.length)) (by simp [go_sem]) (fun hc => ?_) (fun hc => ?_)
     · simp at hc
       have hs :=wts_succ hc
       have hcr :=R.mem hc
       have hss : sumL (wts (C.take (k + 1))) = sumL (wts (C.take k)) + (C[k] + 1) :=by rw [hs,sumL_app]; simp
       clear hsb
       obtain ⟨c,hce⟩ : ∃ c,C[k] = c :=⟨_,rfl⟩
       rw [hce] at hcr hs hss
       generalize wts (C.take k) = D at *
       have w2 :=w64 (x :=c + 1) (by omega) (by omega)
       have w3 :=w64 (x :=sumL D + (c + 1)) (by omega) (by omega)
       have w4 :=w64 (x :=(k : Int) + 1) (by omega) (by omega)
       (repeat (refine awp_stepG [0,1,4,5,6,7,8,10,38,39,40,41,42] hX mixed rfl ?_; (simp [go_sem,hc,hce,w2,hll]; try (refine ⟨by kernel_rfl,?_⟩))))
       try (repeat refine And.intro (by first | omega | (unfold maxLen; omega) | kernel_rfl | (refine ⟨by first | omega | (unfold maxLen; omega),by first | omega | (unfold maxLen; omega)⟩) | grind) ?_)
       try (repeat (refine awp_stepG [0,1,4,5,6,7,8,10,38,39,40,41,42] hX mixed rfl ?_; (simp [go_sem,hc,hce,w2,w3,w4,hll]; try (refine ⟨by kernel_rfl,?_⟩))))
       refine ⟨k + 1,by omega,by omega,?_⟩
       rw [hss,hs]
       refine sub_of _ [.old 2 ⟨3,1,(D ++ [c + 1]).map ii⟩] (by simp [go_sem]) ?_
       simp [go_sem]
       try omega
     · have : k = C.length :=by simp at hc; omega
       subst this
       rw [List.take_length]
       (repeat (refine awp_stepG [0,1,4,5,6,7,8,10,38,39,40,41,42] hX mixed rfl ?_; (simp [go_sem,wcc]; try (refine ⟨by kernel_rfl,?_⟩))))
end Go.Proofs.Ytndiamkmcoghdaa

namespace Go.Proofs.Ytndiamkmcoghdaa
open Go.RowKit Go.Ab
attribute [local irreducible] AWP Go.Ab.Sub Means MeansH CallK CallG CallT CallGT CallU
theorem round_m (C : List Int) (hl : C.length ≤ 9223372036854775807) (b f : Int) : Means false Try.prog 22 [il C,ii b,ii f] (.tup [il (if rightP C b = true ∧ fairE (b * C.length) (wts C) f = 0 then fair (b * C.length) (wts C) f else []),ii (if rightP C b then fairE (b * C.length) (wts C) f else 1)]) :=by
 have hw :=weigh_m C hl b
 cases hr : rightP C b with
 | false =>
   rw [hr] at hw
   rw [if_neg (by simp),if_neg (by simp)]
   rw [if_neg (by simp),if_neg (by simp),if_neg (by simp)] at hw
   refine means_fn false 28 [.tmp 6,.tmp 7] Try.func22 rfl rfl rfl (by simp) (by decide) rfl fun X hX => ?_
   (repeat (refine awp_stepG [0,1,2,6,7,8,10,11,21] hX mixed rfl ?_; (simp [go_sem]; try (refine ⟨by kernel_rfl,?_⟩))))
   first | refine callKa (hw) ?_ | refine callTa (hw) ?_
   try (simp [go_sem]; try (refine ⟨by kernel_rfl,?_⟩))
   (repeat (refine awp_stepG [0,1,2,6,7,8,10,11,21] hX mixed rfl ?_; (simp [go_sem]; try (refine ⟨by kernel_rfl,?_⟩))))
   refine awp_cond (b :=true) (by simp [go_sem]) (fun _ => ?_) (fun h => by cases h)
   (repeat (refine awp_stepG [0,1,2,6,7,8,10,11,21] hX mixed rfl ?_; (simp [go_sem]; try (refine ⟨by kernel_rfl,?_⟩))))
 | true =>
   rw [hr] at hw
   rw [if_pos rfl,if_pos rfl,if_pos rfl] at hw
   have cf :=fair_m (b * C.length) (wts C) f (by rw [wts_len]; exact hl)
   have e : (if true = true ∧ fairE (b * C.length) (wts C) f = 0 then fair (b * C.length) (wts C) f else []) = (if fairE (b * C.length) (wts C) f = 0 then fair (b * C.length) (wts C) f else []) :=by
    by_cases q : fairE (b * C.length) (wts C) f = 0
    · rw [if_pos ⟨rfl,q⟩,if_pos q]
    · rw [if_neg (fun r => q r.2),if_neg q]
   rw [if_pos rfl,e]
   clear e
   generalize (if fairE (b * C.length) (wts C) f = 0 then fair (b * C.length) (wts C) f else []) = A at *
   generalize fairE (b * C.length) (wts C) f = E at *
   generalize b * (C.length : Int) = c at *
   generalize sumL (wts C) = S at *
   generalize wts C = W at *
   refine means_fn false 28 [.tmp 6,.tmp 7] Try.func22 rfl rfl rfl (by simp) (by decide) rfl fun X hX => ?_
   (repeat (refine awp_stepG [0,1,2,6,7,8,10,11,21] hX mixed rfl ?_; (simp [go_sem]; try (refine ⟨by kernel_rfl,?_⟩))))
   first | refine callKa (hw) ?_ | refine callTa (hw) ?_
   try (simp [go_sem]; try (refine ⟨by kernel_rfl,?_⟩))
   (repeat (refine awp_stepG [0,1,2,6,7,8,10,11,21] hX mixed rfl ?_; (simp [go_sem]; try (refine ⟨by kernel_rfl,?_⟩))))
   refine awp_cond (b :=false) (by simp [go_sem]) (fun h => by cases h) (fun _ => ?_)
   (repeat (refine awp_stepG [0,1,2,6,7,8,10,11,21] hX mixed rfl ?_; (simp [go_sem]; try (refine ⟨by kernel_rfl,?_⟩))))
   first | refine callKa (cf) ?_ | refine callTa (cf) ?_
   try (simp [go_sem]; try (refine ⟨by kernel_rfl,?_⟩))
   (repeat (refine awp_stepG [0,1,2,6,7,8,10,11,21] hX mixed rfl ?_; (simp [go_sem]; try (refine ⟨by kernel_rfl,?_⟩))))
end Go.Proofs.Ytndiamkmcoghdaa

namespace Go.Proofs.Ytndiamkmcoghdaa
open Go.RowKit Go.Ab
theorem pw_ok {C : List Int} {b : Int} (R : RP C b) : okW (wts C) = true ∧ wsum (wts C) = sumL (wts C) ∧ 0 < sumL (wts C) :=by
 have hs :=R.sum
 have hl :=R.len
 have hok : okW (wts C) = true :=by
  simp only [okW,Bool.and_eq_true,List.all_eq_true,decide_eq_true_eq]
  refine ⟨fun x hx => ?_,by rw [wts_len]; omega⟩
  obtain ⟨i,hi,rfl⟩ :=List.getElem_of_mem hx
  rw [wts_at (by rw [wts_len] at hi; exact hi),inW_iff]
  have :=R.mem (i :=i) (by rw [wts_len] at hi; exact hi)
  omega
 exact ⟨hok,by unfold wsum; rw [if_pos hok],by omega⟩
theorem pw_givenE {C : List Int} {b : Int} (R : RP C b) {n : Int} (hn : 0 ≤ n ∧ n ≤ 1099511627776) : givenE (wts C) n = 0 :=by
 obtain ⟨h1,h2,h3⟩ :=pw_ok R
 have :=R.sum
 unfold givenE
 rw [if_neg (by rintro (q | q)
                · omega
                · simp [isAm,hn.1,hn.2] at q),if_neg (by omega)]
theorem pw_fairE {C : List Int} {b : Int} (R : RP C b) {n m : Int} (hn : 0 ≤ n) (hm : 0 ≤ m) (h : m + n ≤ 1099511627776) : fairE n (wts C) m = 0 :=by
 unfold fairE
 rw [if_neg (by simp [isAm]; omega),if_neg (by rw [pw_givenE R (n :=m) (by omega)]; simp),pw_givenE R (n :=m + n) (by omega)]
theorem psumN_add (f g : Nat → Int) : ∀ n : Nat,sumN n (fun i => f i + g i) = sumN n f + sumN n g
 | 0 => by simp [sumN]
 | n + 1 => by simp only [sumN]; rw [psumN_add f g n]; omega
theorem pgiven_sum {W : List Int} {n : Int} (hok : okW W = true) (hs : 0 < sumL W) (hn : 0 ≤ n) : sumL (given W n) = n :=by
 have ok :=(giv_ok (gt_W hok) hs (n % sumL W).toNat).1
 have h1 :=Int.emod_nonneg n (show sumL W ≠ 0 by omega)
 have h6 :=Int.mul_ediv_add_emod n (sumL W)
 rw [sumL_N,given_len,sumN_congr (g :=fun i => gt (giv W (n % sumL W).toNat) i + n / sumL W * gt W i) fun i hi => given_gt hi,psumN_add,sumN_mul,ok.sum,← sumL_N,Int.mul_comm (n / sumL W)]
 omega
theorem zip_sub : ∀ {A B : List Int},A.length = B.length → sumL (List.zipWith (fun x y => x - y) A B) = sumL A - sumL B
 | [],[],_ => rfl
 | a :: A,b :: B,h => by
   simp only [List.length_cons] at h
   simp only [List.zipWith_cons_cons,sumL_cons,zip_sub (A :=A) (B :=B) (by omega)]; omega
theorem pfair_sum {C : List Int} {b : Int} (R : RP C b) {n m : Int} (hn : 0 ≤ n) (hm : 0 ≤ m) : sumI (fair n (wts C) m) = n :=by
 obtain ⟨h1,_,h3⟩ :=pw_ok R
 rw [sumI_L]
 unfold fair
 rw [zip_sub (by rw [given_len,given_len]),pgiven_sum h1 h3 (by omega),pgiven_sum h1 h3 hm]; omega
theorem pfair_bd {C : List Int} {b : Int} (R : RP C b) {n m : Int} (hn : 0 ≤ n) (hm : 0 ≤ m) : ∀ x ∈ fair n (wts C) m,-(m + n) ≤ x ∧ x ≤ m + n :=fun x hx => by
 obtain ⟨h1,_,h3⟩ :=pw_ok R
 obtain ⟨i,hi,rfl⟩ :=List.getElem_of_mem hx
 have hl : i < (wts C).length :=by rw [fair_len] at hi; exact hi
 rw [fair_at hi (by rw [given_len]; exact hl) (by rw [given_len]; exact hl)]
 have a :=given_bd (n :=m + n) h1 h3 (by omega) hl
 have c :=given_bd (n :=m) h1 h3 hm hl
 rw [gt_at (by rw [given_len]; exact hl)] at a c
 omega
def nxt (i : Nat) (f x : Fd) (s : Int) : Fd :=⟨x.holds,x.reserve,if i = 0 then s else x.income,f.claims,x.cedes⟩
def nextK (F N : List Fd) (s : Int) (k : Nat) : List Fd :=(List.range k).map fun i => nxt i (F.getD i dF) (N.getD i dF) s
@[simp] theorem nextK_len (F N : List Fd) (s : Int) (k : Nat) : (nextK F N s k).length = k :=by simp [nextK]
theorem nextK_next {F N : List Fd} {s : Int} {k : Nat} (h : k < F.length) (h' : k < N.length) : nextK F N s (k + 1) = nextK F N s k ++ [nxt k F[k] N[k] s] :=by
 unfold nextK; rw [List.range_succ,List.map_append,← getF h,← getF h']; rfl
noncomputable def yearL (X : List Fd) : List Fd :=outK X (owedL X) X.length
noncomputable def nowY (F : List Fd) (s : Int) : Nat → List Fd
 | 0 => F
 | y + 1 => yearL (nextK F (nowY F s y) s F.length)
noncomputable abbrev nextY (F : List Fd) (s : Int) (y : Nat) : List Fd :=nextK F (nowY F s y) s F.length
noncomputable def paidY (F : List Fd) (s : Int) : Nat → Int
 | 0 => 0
 | y + 1 => paidY F s y + sumI (gets (nextY F s y))
noncomputable def hadY (F : List Fd) (s : Int) : Nat → Int
 | 0 => hasV F
 | y + 1 => hadY F s y - ((nowY F s y).getD 0 dF).income + s
def goodY (F : List Fd) (s : Int) (y : Nat) : Prop :=∀ t,t < y → rightV (nextY F s t) = true
variable {F : List Fd} {s : Int}
theorem goodY_next {y : Nat} (h : goodY F s y) (h1 : rightV (nextY F s y) = true) : goodY F s (y + 1) :=fun t ht => by
 by_cases e : t = y
 · subst e; exact h1
 · exact h t (by omega)
theorem nowY_len (y : Nat) : (nowY F s y).length = F.length :=by
 cases y with
 | zero => rfl
 | succ y => simp [nowY,yearL]
theorem nowY_ced : ∀ (y i : Nat),i < F.length → ((nowY F s y).getD i dF).cedes = (F.getD i dF).cedes
 | 0,_,_ => rfl
 | y + 1,i,hi => by
   have hn : i < (nextK F (nowY F s y) s F.length).length :=by simpa using hi
   show ((outK (nextY F s y) (owedL (nextY F s y)) (nextY F s y).length).getD i dF).cedes = _
   rw [List.getD_eq_getElem?_getD,List.getElem?_eq_getElem (by simpa using hi)]
   simp only [outK,List.getElem_map,List.getElem_range,Option.getD_some]
   show (outF _ _).cedes = _
   rw [show ∀ f q,(outF f q).cedes = f.cedes from fun _ _ => rfl,getF hn]
   simp only [nextK,List.getElem_map,List.getElem_range]
   exact nowY_ced y i hi
theorem next_few (hf : fewV F = true) (y : Nat) : fewV (nextY F s y) = true :=by
 simp only [fewV,Bool.and_eq_true,List.all_eq_true,decide_eq_true_eq]
 refine ⟨fun f hm => ?_,by simpa using few_5 hf⟩
 obtain ⟨i,hi,rfl⟩ :=List.mem_map.1 hm
 have hi : i < F.length :=by simpa using hi
 have h :=few_at hf (List.getElem_mem hi)
 simp only [nxt]
 rw [nowY_ced y i hi,getF hi]
 exact h
theorem next_sum {N : List Fd} (hN : N.length = F.length) : ∀ k,k ≤ F.length → sumI ((nextK F N s k).map hasF) = sumI ((N.map hasF).take k) + if k = 0 then 0 else s - (N.getD 0 dF).income
 | 0,_ => by simp [nextK,sumI]
 | k + 1,hk => by
   have h1 : k < F.length :=by omega
   have h2 : k < N.length :=by omega
   rw [nextK_next h1 h2,List.map_append,List.map_cons,List.map_nil,sumI_snoc,next_sum hN k (by omega),sumI_next (show k < (N.map hasF).length by simpa using h2),List.getElem_map]
   by_cases h0 : k = 0
   · subst h0
     have e : N.getD 0 dF = N[0] :=getF h2
     rw [e]
     simp only [if_true,nxt,hasF]
     rw [if_neg (by omega)]; omega
   · simp only [if_neg h0,nxt,hasF]
     rw [if_neg (by omega)]; omega
structure YearsOk (F : List Fd) (s : Int) (y : Nat) : Prop where
 am : ∀ f ∈ nowY F s y,AmF f
 eq : hasV (nowY F s y) + paidY F s y = hadY F s y
 pd : 0 ≤ paidY F s y ∧ paidY F s y ≤ 16492674416640 * y
theorem years_ok (hf : fewV F = true) (hr : rightV F = true) : ∀ y,goodY F s y → YearsOk F s y
 | 0,_ => ⟨(rv_of hr).am,by simp [nowY,paidY,hadY],by simp [paidY]⟩
 | y + 1,h => by
   obtain ⟨am,eq,pd⟩ :=years_ok hf hr y fun t ht => h t (by omega)
   have h1 :=h y (by omega)
   have hv :=rv_of h1
   have hY :=year_ok (next_few (s :=s) hf y) h1
   have hl : (nextY F s y).length = F.length :=by simp
   have hpb :=paid_bd hv hY.ol (fun x hx => (hY.ob x hx).1) _ (Nat.le_refl _)
   have h5 :=few_5 hf
   have hpos :=(rv_of hr).pos
   have hleft :=has_left (F :=nextY F s y) hY.ol
   have hN :=nowY_len (F :=F) (s :=s) y
   have hs :=next_sum (F :=F) (s :=s) hN F.length (Nat.le_refl _)
   rw [if_neg (by omega),List.take_of_length_le (by simp; omega)] at hs
   have hs2 : hasV (nextY F s y) = hasV (nowY F s y) + (s - ((nowY F s y).getD 0 dF).income) :=hs
   have hg :=hY.gs
   refine ⟨?_,?_,?_⟩
   · exact outs_am hv hY.ol fun x hx => (hY.ob x hx).1
   · show hasV (outK (nextY F s y) (owedL (nextY F s y)) (nextY F s y).length) + (paidY F s y + sumI (gets (nextY F s y))) = hadY F s y - ((nowY F s y).getD 0 dF).income + s
     rw [hleft,hg,hs2,← eq]; omega
   · show 0 ≤ paidY F s y + sumI (gets (nextY F s y)) ∧ paidY F s y + sumI (gets (nextY F s y)) ≤ _
     rw [hg]
     rw [hl] at hpb ⊢
     omega
end Go.Proofs.Ytndiamkmcoghdaa

