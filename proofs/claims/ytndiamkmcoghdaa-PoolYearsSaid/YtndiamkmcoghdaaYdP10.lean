/-
  Lemmas for the statement at the top.
-/
import Derived.Test.YtndiamkmcoghdaaYdP9
set_option linter.all false
namespace Go.Proofs.Ytndiamkmcoghdaa
open Go.RowKit Go.Ab
attribute [local irreducible] AWP Go.Ab.Sub Means MeansH MeansX CallK CallG CallT CallGT CallU
theorem mulq_c {a b : Rat} (ha : rq a) (hb : rq b) (h : okMul a b) : MeansH Try.prog 33 [calC 0] [.el 0 1 0 0,frq a,frq b] (frq (a * b)) [calC 0] :=mul_c 0 (Mul_qt ha hb h)
theorem subq_c {a b : Rat} (ha : rq a) (hb : rq b) (h : okSub a b) : MeansH Try.prog 51 [calC 0] [.el 0 1 0 0,frq a,frq b] (frq (a - b)) [calC 0] :=sub_c 0 (Sub_qt ha hb h)
theorem divq_c {a b : Rat} (ha : rq a) (hb : rq b) (h0 : b ≠ 0) (h : okDiv a b) : MeansH Try.prog 59 [calC 0] [.el 0 1 0 0,frq a,frq b] (frq (a / b)) [calC 0] :=div_c 0 (Div_qt ha hb h0 h)
theorem ofq_c {p q : Int} (hp : -9223372036854775808 ≤ p ∧ p ≤ 9223372036854775807) (hq : -9223372036854775808 ≤ q ∧ q ≤ 9223372036854775807) (h0 : q ≠ 0) : MeansH Try.prog 34 [calC 0] [.el 0 1 0 0,ii p,ii q] (frq ((p : Rat) / (q : Rat))) [calC 0] :=of_c 0 (Of_q p q hp hq h0)
def rowL (A : Mx) (n k : Nat) : List AV :=(List.range (n + 1)).map fun t => frq (A k t)
def mxL (A : Mx) (n : Nat) : List (List AV) :=(List.range n).map fun k => rowL A n k
theorem rowL_len (A : Mx) (n k : Nat) : (rowL A n k).length = n + 1 :=by simp [rowL]
theorem mxL_len (A : Mx) (n : Nat) : (mxL A n).length = n :=by simp [mxL]
theorem rowL_nth {A : Mx} {n k t : Nat} (h : t ≤ n) : nth (rowL A n k) t = frq (A k t) :=nth_some (by
 have : t < n + 1 :=by omega
 simp [rowL,this])
theorem mxL_get {A : Mx} {n k : Nat} (h : k < n) : (mxL A n)[k]? = some (rowL A n k) :=by simp [mxL,h]
theorem rowL_congr {A B : Mx} {n k : Nat} (h : ∀ t,t ≤ n → A k t = B k t) : rowL A n k = rowL B n k :=List.map_congr_left fun t ht => by rw [h t (by simp at ht; omega)]
theorem mxL_congr {A B : Mx} {n : Nat} (h : ∀ k t,k < n → t ≤ n → A k t = B k t) : mxL A n = mxL B n :=List.map_congr_left fun k hk => rowL_congr fun t ht => h k t (by simpa using hk) ht
theorem rowL_zone (A : Mx) (n k : Nat) : zoneEs (rowL A n k) = true :=by
 unfold zoneEs rowL
 rw [List.all_eq_true]
 intro e he
 obtain ⟨t,_,rfl⟩ :=List.mem_map.1 he
 rfl
def updM (A : Mx) (k j : Nat) (x : Rat) : Mx :=fun k' t => if k' = k ∧ t = j then x else A k' t
theorem mxL_set {A : Mx} {n k j : Nat} (x : Rat) (hk : k < n) (hj : j ≤ n) : (mxL A n).set k ((rowL A n k).set j (frq x)) = mxL (updM A k j x) n :=by
 apply List.ext_getElem?
 intro q
 rw [List.getElem?_set]
 by_cases hq : k = q
 · subst hq
   rw [if_pos rfl,if_pos (by rw [mxL_len]; exact hk),mxL_get hk]
   congr 1
   apply List.ext_getElem?
   intro t
   rw [List.getElem?_set]
   by_cases ht : j = t
   · subst ht
     rw [if_pos rfl,if_pos (by rw [rowL_len]; omega)]
     have : j < n + 1 :=by omega
     simp [rowL,updM,this]
   · rw [if_neg ht]
     unfold rowL
     rw [List.getElem?_map,List.getElem?_map]
     cases h : (List.range (n + 1))[t]? with
     | none => rfl
     | some y =>
       have : y = t :=by
        have :=List.getElem?_eq_some_iff.1 h
        simpa using this.2.symm
       subst this
       simp only [Option.map_some,updM]
       rw [if_neg (by omega)]
 · rw [if_neg hq]
   unfold mxL
   rw [List.getElem?_map,List.getElem?_map]
   cases h : (List.range n)[q]? with
   | none => rfl
   | some y =>
     have : y = q :=by
      have :=List.getElem?_eq_some_iff.1 h
      simpa using this.2.symm
     subst this
     simp only [Option.map_some]
     congr 1
     exact rowL_congr fun t _ => by unfold updM; rw [if_neg (by omega)]
def elimJ (A : Mx) (i k j : Nat) : Mx :=fun k' t => if (k' ≠ i ∧ k' < k ∧ i ≤ t) ∨ (k' = k ∧ i ≤ t ∧ t < j) then A k' t - A k' i / A i i * A i t else A k' t
theorem elimJ_0 (A : Mx) (i k : Nat) : elimJ A i k i = elimP A i k :=by
 funext k' t
 unfold elimJ elimP
 by_cases h : k' ≠ i ∧ k' < k ∧ i ≤ t
 · rw [if_pos (.inl h),if_pos h]
 · rw [if_neg (by omega),if_neg h]
theorem elimJ_step (A : Mx) (i k j : Nat) (hij : i ≤ j) : updM (elimJ A i k j) k j (A k j - A k i / A i i * A i j) = elimJ A i k (j + 1) :=by
 funext k' t
 unfold updM elimJ
 by_cases h : k' = k ∧ t = j
 · obtain ⟨rfl,rfl⟩ :=h
   rw [if_pos ⟨rfl,rfl⟩,if_pos (.inr ⟨rfl,hij,by omega⟩)]
 · rw [if_neg h]
   by_cases h2 : (k' ≠ i ∧ k' < k ∧ i ≤ t) ∨ (k' = k ∧ i ≤ t ∧ t < j)
   · rw [if_pos h2,if_pos (by omega)]
   · rw [if_neg h2,if_neg (by omega)]
theorem elimJ_end (A : Mx) (n i k : Nat) (hne : k ≠ i) : mxL (elimJ A i k (n + 1)) n = mxL (elimP A i (k + 1)) n :=mxL_congr fun k' t hk ht => by
 unfold elimJ elimP
 by_cases h2 : (k' ≠ i ∧ k' < k ∧ i ≤ t) ∨ (k' = k ∧ i ≤ t ∧ t < n + 1)
 · rw [if_pos h2,if_pos (by omega)]
 · rw [if_neg h2,if_neg (by omega)]
theorem elimJ_k {A : Mx} {i k j t : Nat} (h : j ≤ t) : elimJ A i k j k t = A k t :=if_neg (by omega)
theorem elimJ_i {A : Mx} {i k j t : Nat} (h : k ≠ i) : elimJ A i k j i t = A i t :=if_neg (by omega)
theorem elimP_skip (A : Mx) (i : Nat) : elimP A i (i + 1) = elimP A i i :=by
 funext k' t
 unfold elimP
 by_cases h : k' ≠ i ∧ k' < i ∧ i ≤ t
 · rw [if_pos h,if_pos (by omega)]
 · rw [if_neg h,if_neg (by omega)]
theorem elimP_k {A : Mx} {i k t : Nat} : elimP A i k k t = A k t :=if_neg (by omega)
theorem elimP_0 (A : Mx) (i : Nat) : elimP A i 0 = A :=by
 funext k' t
 exact if_neg (by omega)
abbrev mxC (A : Mx) (n : Nat) : List Cell :=matC 48 4 (mxL A n)
abbrev outC (b n : Nat) : Cell :=.row ⟨41,1,outN b n⟩
theorem mxL_zone {A : Mx} {n j : Nat} {es : List AV} (h : (mxL A n)[j]? = some es) : zoneEs es = true :=by
 obtain ⟨h1,rfl⟩ :=List.getElem?_eq_some_iff.1 h
 have : (mxL A n)[j] = rowL A n j :=by
  have h2 :=mxL_get (A :=A) (n :=n) (k :=j) (by rw [mxL_len] at h1; exact h1)
  rw [List.getElem?_eq_getElem h1] at h2
  exact Option.some.inj h2
 rw [this]; exact rowL_zone _ _ _
theorem nodup_mx {l : List Nat} {q b n : Nat} (h1 : l.Nodup) (h2 : q ∉ l) (h3 : ∀ x ∈ l,x < b ∨ b + n ≤ x) (h4 : q < b ∨ b + n ≤ q) : (l ++ q :: (List.range n).map fun k => k + b).Nodup :=by
 rw [List.nodup_append]
 refine ⟨h1,?_,?_⟩
 · rw [List.nodup_cons]
   refine ⟨fun hm => ?_,?_⟩
   · obtain ⟨k,hk,e⟩ :=List.mem_map.1 hm
     have : k < n :=by simpa using hk
     omega
   · refine List.pairwise_map.2 (List.Pairwise.imp (fun {x y} (h : x ≠ y) (e : x + b = y + b) => h (by omega)) List.nodup_range)
 · intro a ha c hc e
   subst e
   rcases List.mem_cons.1 hc with rfl | hm
   · exact h2 ha
   · obtain ⟨k,hk,e⟩ :=List.mem_map.1 hm
     have : k < n :=by simpa using hk
     have :=h3 a ha
     omega
theorem sub_mxd {X : Ctx} {env : Nat → AV} (L : List (Nat × AV)) (c1 : Cell) (B : Mx) (n : Nat)
  (hL : okL ([.old 0 ⟨66,1,[.agg [ii 0]]⟩,.gone 0] ++ .old 2 ⟨41,1,outN 3 n⟩ :: matS (fun k => k + 3) 48 4 0 (mxL B n)) ⟨env,calC 0 :: c1 :: outC 3 n :: mxC B n⟩ L) :
  Go.Ab.Sub X ⟨mkE L,calC 0 :: .dead :: outC 3 n :: mxC B n⟩ ⟨env,calC 0 :: c1 :: outC 3 n :: mxC B n⟩ :=by
 have :=sub_mat (X :=X) (st :=⟨env,calC 0 :: c1 :: outC 3 n :: mxC B n⟩) L [.old 0 ⟨66,1,[.agg [ii 0]]⟩,.gone 0] 2 (fun k => k + 3) (E1 :=41) (E2 :=48) (k2 :=4) (mxL B n) (by simp [outN,mxL_len]) (fun j es h => ⟨matC_get h,mxL_zone h⟩) (by simp [okS0,okS1,go_sem]) (nodup_mx (by simp [Src.rid,List.filterMap_cons]) (by simp [Src.rid,List.filterMap_cons]) (by simp [Src.rid,List.filterMap_cons]) (by simp)) (by simpa only [mxL_len,List.length_cons,List.length_nil] using hL)
 simpa only [mxL_len,List.length_cons,List.length_nil,List.map_cons,List.map_nil,Src.cell,List.cons_append,List.nil_append] using this
set_option maxHeartbeats 8000000 in
set_option maxRecDepth 20000 in
theorem elim_m (A : Mx) (n : Nat) (hn : n ≤ 1000) (hF : Fit A n) : MeansX Try.prog 31 1 (calC 0 :: outC 2 n :: mxC A n) [.el 0 1 0 0,.ow 1] (.ow 1) [calC 0,.row ⟨48,4,(List.range n).map fun k => frq (solx A n k)⟩] :=by
 refine meansX_fn 1 99 [.tmp 4] Try.func31 rfl rfl rfl (by simp) (by decide) (by simp) fun X hX => ?_
 refine awp_sub (sub_mat [(0,.el 0 1 0 0),(1,.ow 2),(1000000,.ow 0)] [.old 0 ⟨66,1,[.agg [ii 0]]⟩,.gone 0] 1 (fun k => k + 2) (E1 :=41) (E2 :=48) (k2 :=4) (mxL A n) (by simp [outN,mxL_len]) (fun j es h => ⟨matC_get h,mxL_zone h⟩) (by simp [okS0,okS1,go_sem]) (nodup_mx (by simp [Src.rid,List.filterMap_cons]) (by simp [Src.rid,List.filterMap_cons]) (by simp [Src.rid,List.filterMap_cons]) (by simp)) (by simp [go_sem])) ?_
 simp only [mxL_len,List.length_cons,List.length_nil,List.map_cons,List.map_nil,Src.cell,List.cons_append,List.nil_append]
 (repeat (refine awp_stepH [0,1,4,5,6,7,8,9,10,11,14,15,16,18,19,20,24,44,74,75,76,1000000] hX mixed rfl ?_; (simp [go_sem]; try (refine ⟨by kernel_rfl,?_⟩))))
 simp only [outN_len]
 refine awp_loop (fun i : Nat => ⟨mkE [(0,.el 0 1 0 0),(1,.ow 2),(5,ii n),(14,ii n),(15,ii i),(1000000,.ow 0)],calC 0 :: .dead :: outC 3 n :: mxC (gj A n i) n⟩) (fun i => i ≤ n) (fun i => n - i) 0 ?_ ?_ ?_
 · exact sub_same _ _ rfl (by simp [go_sem])
 · omega
 · intro i hi
   (repeat (refine awp_stepH [0,1,4,5,6,7,8,9,10,11,14,15,16,18,19,20,24,44,74,75,76,1000000] hX mixed rfl ?_; (simp [go_sem]; try (refine ⟨by kernel_rfl,?_⟩))))
   refine awp_cond (b :=decide (i < n)) (by simp [go_sem]) (fun hb => ?_) (fun hb => ?_)
   · simp at hb
     have wi :=w64 (x :=(i : Int) + 1) (by omega) (by omega)
     (repeat (refine awp_stepH [0,1,4,5,6,7,8,9,10,11,14,15,16,18,19,20,24,44,74,75,76,1000000] hX mixed rfl ?_; (simp [go_sem]; try (refine ⟨by kernel_rfl,?_⟩))))
     refine awp_loop (fun k : Nat => ⟨mkE [(0,.el 0 1 0 0),(1,.ow 2),(5,ii n),(6,ii i),(14,ii n),(15,ii i),(18,ii n),(19,ii k),(1000000,.ow 0)],calC 0 :: .dead :: outC 3 n :: mxC (elimP (gj A n i) i k) n⟩) (fun k => k ≤ n) (fun k => n - k) 0 ?_ ?_ ?_
     · exact sub_same _ _ (by rw [elimP_0]) (by simp [go_sem])
     · omega
     · intro k hk
       (repeat (refine awp_stepH [0,1,4,5,6,7,8,9,10,11,14,15,16,18,19,20,24,44,74,75,76,1000000] hX mixed rfl ?_; (simp [go_sem]; try (refine ⟨by kernel_rfl,?_⟩))))
       refine awp_cond (b :=decide (k < n)) (by simp [go_sem]) (fun hc => ?_) (fun hc => ?_)
       · simp at hc
         have wk :=w64 (x :=(k : Int) + 1) (by omega) (by omega)
         (repeat (refine awp_stepH [0,1,4,5,6,7,8,9,10,11,14,15,16,18,19,20,24,44,74,75,76,1000000] hX mixed rfl ?_; (simp [go_sem]; try (refine ⟨by kernel_rfl,?_⟩))))
         refine awp_cond (b :=decide (k = i)) (by simp [go_sem]; try omega) (fun hd => ?_) (fun hd => ?_)
         · simp only [decide_eq_true_eq] at hd
           (repeat (refine awp_stepH [0,1,4,5,6,7,8,9,10,11,14,15,16,18,19,20,24,44,74,75,76,1000000] hX mixed rfl ?_; (simp [go_sem,wk]; try (refine ⟨by kernel_rfl,?_⟩))))
           refine ⟨k + 1,by omega,by omega,sub_same _ _ (by rw [hd,elimP_skip]) (by simp [go_sem])⟩
         · simp only [decide_eq_false_iff_not] at hd
           have hF1 :=hF.div i k hb hc hd
           have hp :=hF.piv i hb
           have e1 :=hF.ent i k i hi hc hi
           have e2 :=hF.ent i i i hi hb hi
           have q1 :=nth_outN (b :=3) hc
           have q2 :=nth_outN (b :=3) hb
           have g1 :=matC_get (E :=48) (k :=4) (mxL_get (A :=elimP (gj A n i) i k) hc)
           have g2 :=matC_get (E :=48) (k :=4) (mxL_get (A :=elimP (gj A n i) i k) hb)
           have r1 :=rowL_nth (A :=elimP (gj A n i) i k) (k :=k) hi
           have r2 :=rowL_nth (A :=elimP (gj A n i) i k) (k :=i) hi
           rw [elimP_k] at r1
           rw [elim_row] at r2
           have c1 :=divq_c e1 e2 hp hF1
           have hin : i < n + 1 :=by omega
           have hBl : (mxC (elimP (gj A n i) i k) n).length = n :=by rw [matC_len,mxL_len]
           (repeat (refine awp_stepH [0,1,4,5,6,7,8,9,10,11,14,15,16,18,19,20,24,44,74,75,76,1000000] hX mixed rfl ?_; (simp [go_sem,q1,q2,g1,g2,hb,hc,r1,r2,outN_len,rowL_len,hin]; try (refine ⟨by kernel_rfl,?_⟩))))
           (repeat refine And.intro (by first | omega | (unfold maxLen; omega) | kernel_rfl | (refine ⟨by first | omega | (unfold maxLen; omega),by first | omega | (unfold maxLen; omega)⟩) | grind) ?_)
           first | refine callH_intro [0] (c1) (by simp [go_sem]) ?_ | refine callTQ_intro [0] (c1) (by simp [go_sem]) ?_ | refine callTE_intro [0] (c1) (by simp [go_sem]) ?_
           (simp [go_sem])
           refine ⟨drawOK_phi 3 (n + 3) (by rw [hBl]; simp [mapT,phi,newIds_self,hb,hc]; kernel_rfl),?_⟩
           have hfb : ∀ x : Cell,(mxC (elimP (gj A n i) i k) n ++ [x])[n]? = some x :=fun x => by rw [List.getElem?_append_right (by omega),hBl,Nat.sub_self]; rfl
           refine awp_sub (sub_mat [(0,.el 0 1 0 0),(1,.ow 2),(5,ii n),(6,ii i),(7,ii k),(8,.el 1 4 0 0),(14,ii n),(15,ii i),(18,ii n),(19,ii k),(1000000,.ow 0)] [.old 0 ⟨66,1,[.agg [ii 0]]⟩,.old (n + 3) ⟨48,4,[frq (gj A n i k i / gj A n i i i)]⟩] 2 (fun k => k + 3) (E1 :=41) (E2 :=48) (k2 :=4) (mxL (elimP (gj A n i) i k) n) (by simp [outN,mxL_len]) (fun j es h => ⟨?_,mxL_zone h⟩) (by simp [go_sem,hfb]) (nodup_mx (by simp [Src.rid,List.filterMap_cons]) (by simp [Src.rid,List.filterMap_cons]) (by simp [Src.rid,List.filterMap_cons,mxL_len]; try omega) (by simp)) (by simp [go_sem,hBl])) ?_
           · show (mxC (elimP (gj A n i) i k) n ++ _)[j]? = _
             rw [List.getElem?_append_left (by have :=(List.getElem?_eq_some_iff.1 h).1; rw [mxL_len] at this; omega)]
             exact matC_get h
           simp only [mxL_len,List.length_cons,List.length_nil,List.map_cons,List.map_nil,Src.cell,List.cons_append,List.nil_append]
           clear hBl hfb r1 r2 g1 g2
           obtain ⟨f,hf⟩ : ∃ f,gj A n i k i / gj A n i i i = f :=⟨_,rfl⟩
           have hfq : rq f :=by rw [← hf]; exact div_rq hp hF1
           have hFm :=fun t h1 h2 => hF.mul i k t hb hc hd h1 h2
           have hFs :=fun t h1 h2 => hF.sub i k t hb hc hd h1 h2
           have hstep :=elimJ_step (gj A n i) i k
           rw [hf] at hFm hFs hstep ⊢
           rw [← elimJ_0 (gj A n i) i k]
           (repeat (refine awp_stepH [0,1,4,5,6,7,8,9,10,11,14,15,16,18,19,20,24,44,74,75,76,1000000] hX mixed rfl ?_; (simp [go_sem]; try (refine ⟨by kernel_rfl,?_⟩))))
           refine awp_loop (fun j : Nat => ⟨mkE [(0,.el 0 1 0 0),(1,.ow 2),(5,ii n),(6,ii i),(7,ii k),(8,.el 1 4 0 0),(9,ii j),(14,ii n),(15,ii i),(18,ii n),(19,ii k),(1000000,.ow 0)],calC 0 :: .row ⟨48,4,[frq f]⟩ :: outC 3 n :: mxC (elimJ (gj A n i) i k j) n⟩) (fun j => i ≤ j ∧ j ≤ n + 1) (fun j => n + 1 - j) i ?_ ?_ ?_
           · exact sub_same _ _ rfl (by simp [go_sem])
           · omega
           · rintro j ⟨hij,hj⟩
             have wj :=w64 (x :=(j : Int) + 1) (by omega) (by omega)
             (repeat (refine awp_stepH [0,1,4,5,6,7,8,9,10,11,14,15,16,18,19,20,24,44,74,75,76,1000000] hX mixed rfl ?_; (simp [go_sem]; try (refine ⟨by kernel_rfl,?_⟩))))
             refine awp_cond (b :=decide (j ≤ n)) (by simp [go_sem]) (fun he => ?_) (fun he => ?_)
             · simp only [decide_eq_true_eq] at he
               have g1 :=matC_get (E :=48) (k :=4) (mxL_get (A :=elimJ (gj A n i) i k j) hc)
               have g2 :=matC_get (E :=48) (k :=4) (mxL_get (A :=elimJ (gj A n i) i k j) hb)
               have r1 :=rowL_nth (A :=elimJ (gj A n i) i k j) (k :=k) he
               have r2 :=rowL_nth (A :=elimJ (gj A n i) i k j) (k :=i) he
               rw [elimJ_k (Nat.le_refl _)] at r1
               rw [elimJ_i hd] at r2
               have x1 :=hF.ent i k j hi hc he
               have x2 :=hF.ent i i j hi hb he
               have c2 :=mulq_c hfq x2 (hFm j hij he)
               have c3 :=subq_c x1 (mul_rq (hFm j hij he)) (hFs j hij he)
               have hjn : j < n + 1 :=by omega
               have hBl : (mxC (elimJ (gj A n i) i k j) n).length = n :=by rw [matC_len,mxL_len]
               have hset :=mxL_set (A :=elimJ (gj A n i) i k j) (n :=n) (gj A n i k j - f * gj A n i i j) hc he
               rw [hstep j hij] at hset
               (repeat (refine awp_stepH [0,1,4,5,6,7,8,9,10,11,14,15,16,18,19,20,24,44,74,75,76,1000000] hX mixed rfl ?_; (simp [go_sem,q1,q2,g1,g2,hb,hc,r1,r2,outN_len,rowL_len,hjn]; try (refine ⟨by kernel_rfl,?_⟩))))
               (repeat refine And.intro (by first | omega | (unfold maxLen; omega) | kernel_rfl | (refine ⟨by first | omega | (unfold maxLen; omega),by first | omega | (unfold maxLen; omega)⟩) | grind) ?_)
               first | refine callH_intro [0] (c2) (by simp [go_sem]) ?_ | refine callTQ_intro [0] (c2) (by simp [go_sem]) ?_ | refine callTE_intro [0] (c2) (by simp [go_sem]) ?_
               (simp [go_sem,q1,q2,g1,g2,hb,hc,r1,r2,outN_len,rowL_len,hjn])
               (repeat refine And.intro (by first | omega | (unfold maxLen; omega) | kernel_rfl | (refine ⟨by first | omega | (unfold maxLen; omega),by first | omega | (unfold maxLen; omega)⟩) | grind) ?_)
               first | refine callH_intro [0] (c3) (by simp [go_sem]) ?_ | refine callTQ_intro [0] (c3) (by simp [go_sem]) ?_ | refine callTE_intro [0] (c3) (by simp [go_sem]) ?_
               (simp [go_sem,q1,q2,g1,g2,hb,hc,r1,r2,outN_len,rowL_len,hjn])
               (repeat refine And.intro (by first | omega | (unfold maxLen; omega) | (refine ⟨by omega,by omega⟩)) ?_)
               refine ⟨drawOK_phi 3 (n + 3) (by simp [mapT,phi,newIds_self,hb,hc,hBl]; kernel_rfl),?_⟩
               (repeat (refine awp_stepH [0,1,4,5,6,7,8,9,10,11,14,15,16,18,19,20,24,44,74,75,76,1000000] hX mixed rfl ?_; (simp [go_sem,wj]; try (refine ⟨by kernel_rfl,?_⟩))))
               refine ⟨j + 1,⟨by omega,by omega⟩,by omega,?_⟩
               exact sub_same _ _ (by dsimp only [mxC]; rw [← hset,← matC_set]) (by simp [go_sem])
             · simp only [decide_eq_false_iff_not] at he
               have hjn : j = n + 1 :=by omega
               subst hjn
               (repeat (refine awp_stepH [0,1,4,5,6,7,8,9,10,11,14,15,16,18,19,20,24,44,74,75,76,1000000] hX mixed rfl ?_; (simp [go_sem,wk]; try (refine ⟨by kernel_rfl,?_⟩))))
               refine ⟨k + 1,by omega,by omega,?_⟩
               rw [mxC,← elimJ_end (gj A n i) n i k hd]
               exact sub_mxd _ _ _ _ (by simp [go_sem])
       · simp only [decide_eq_false_iff_not] at hc
         have hkn : k = n :=by omega
         subst hkn
         (repeat (refine awp_stepH [0,1,4,5,6,7,8,9,10,11,14,15,16,18,19,20,24,44,74,75,76,1000000] hX mixed rfl ?_; (simp [go_sem,wi]; try (refine ⟨by kernel_rfl,?_⟩))))
         exact ⟨i + 1,by omega,by omega,sub_same _ _ rfl (by simp [go_sem])⟩
   · simp only [decide_eq_false_iff_not] at hb
     have hin : i = n :=by omega
     subst hin
     (repeat (refine awp_stepH [0,1,4,5,6,7,8,9,10,11,14,15,16,18,19,20,24,44,74,75,76,1000000] hX mixed rfl ?_; (simp [go_sem]; try (refine ⟨by kernel_rfl,?_⟩))))
     refine awp_loop (fun k : Nat => ⟨mkE [(0,.el 0 1 0 0),(1,.ow 2),(5,ii i),(10,.ow 1),(74,ii i),(75,ii k),(1000000,.ow 0)],calC 0 :: .row ⟨48,4,(List.range k).map fun k => frq (solx A i k)⟩ :: outC 3 i :: mxC (gj A i i) i⟩) (fun k => k ≤ i) (fun k => i - k) 0 ?_ ?_ ?_
     · have :=sub_mat (X :=X) (st :=⟨mkE [(0,AV.el 0 1 0 0),(1,AV.ow 2),(5,ii i),(10,.nil),(74,ii i),(75,ii 0),(1000000,AV.ow 0)],calC 0 :: .dead :: outC 3 i :: mxC (gj A i i) i⟩) [(0,.el 0 1 0 0),(1,.ow 2),(5,ii i),(10,.ow 1),(74,ii i),(75,ii 0),(1000000,.ow 0)] [.old 0 ⟨66,1,[.agg [ii 0]]⟩,.birth 48 4] 2 (fun k => k + 3) (E1 :=41) (E2 :=48) (k2 :=4) (mxL (gj A i i) i) (by simp [outN,mxL_len]) (fun j es h => ⟨matC_get h,mxL_zone h⟩) (by simp [okS0,okS1,go_sem]) (nodup_mx (by simp [Src.rid,List.filterMap_cons]) (by simp [Src.rid,List.filterMap_cons]) (by simp [Src.rid,List.filterMap_cons]) (by simp)) (by simp [go_sem])
       simp only [mxL_len,List.length_cons,List.length_nil,List.map_cons,List.map_nil,Src.cell,List.cons_append,List.nil_append] at this
       exact sub_trans this (sub_same _ _ rfl (by simp [go_sem]))
     · omega
     · intro k hk
       (repeat (refine awp_stepH [0,1,4,5,6,7,8,9,10,11,14,15,16,18,19,20,24,44,74,75,76,1000000] hX mixed rfl ?_; (simp [go_sem]; try (refine ⟨by kernel_rfl,?_⟩))))
       refine awp_cond (b :=decide (k < i)) (by simp [go_sem]) (fun hc => ?_) (fun hc => ?_)
       · simp only [decide_eq_true_eq] at hc
         have q1 :=nth_outN (b :=3) hc
         have g1 :=matC_get (E :=48) (k :=4) (mxL_get (A :=gj A i i) hc)
         have r1 :=rowL_nth (A :=gj A i i) (k :=k) (Nat.le_refl i)
         have r2 :=rowL_nth (A :=gj A i i) (k :=k) (Nat.le_of_lt hc)
         have e1 :=hF.ent i k i (Nat.le_refl _) hc (Nat.le_refl _)
         have e2 :=hF.ent i k k (Nat.le_refl _) hc (Nat.le_of_lt hc)
         have c1 :=divq_c e1 e2 (hF.dpos k hc) (hF.fin k hc)
         have hki : k < i + 1 :=by omega
         have hBl : (mxC (gj A i i) i).length = i :=by rw [matC_len,mxL_len]
         have wk :=w64 (x :=(k : Int) + 1) (by omega) (by omega)
         (repeat (refine awp_stepH [0,1,4,5,6,7,8,9,10,11,14,15,16,18,19,20,24,44,74,75,76,1000000] hX mixed rfl ?_; (simp [go_sem,q1,g1,hc,r1,r2,outN_len,rowL_len,hki]; try (refine ⟨by kernel_rfl,?_⟩))))
         (repeat refine And.intro (by first | omega | (unfold maxLen; omega) | kernel_rfl | (refine ⟨by first | omega | (unfold maxLen; omega),by first | omega | (unfold maxLen; omega)⟩) | grind) ?_)
         first | refine callH_intro [0] (c1) (by simp [go_sem]) ?_ | refine callTQ_intro [0] (c1) (by simp [go_sem]) ?_ | refine callTE_intro [0] (c1) (by simp [go_sem]) ?_
         (simp [go_sem,q1,g1,hc,r1,r2,outN_len,rowL_len,hki])
         (repeat refine And.intro (by first | omega | (unfold maxLen; omega) | (refine ⟨by omega,by omega⟩)) ?_)
         refine ⟨drawOK_phi 3 (i + 3) (by simp [mapT,phi,newIds_self,hc,hBl]; kernel_rfl),?_⟩
         (repeat (refine awp_stepH [0,1,4,5,6,7,8,9,10,11,14,15,16,18,19,20,24,44,74,75,76,1000000] hX mixed rfl ?_; (simp [go_sem,wk]; try (refine ⟨by kernel_rfl,?_⟩))))
         refine ⟨k + 1,by omega,by omega,?_⟩
         have hfb : ∀ x y : Cell,(mxC (gj A i i) i ++ [x,y])[i + 1]? = some y :=fun x y => by
          rw [List.getElem?_append_right (by omega),hBl,Nat.add_sub_cancel_left]; rfl
         have hsn : (List.range (k + 1)).map (fun k => frq (solx A i k)) = (List.range k).map (fun k => frq (solx A i k)) ++ [frq (solx A i k)] :=by rw [List.range_succ,List.map_append]; rfl
         have hsx : solx A i k = gj A i i k i / gj A i i k k :=rfl
         rw [hsn,hsx]
         refine sub_trans ?_ (sub_same [(0,.el 0 1 0 0),(1,.ow 2),(5,ii i),(10,.ow (i + 4)),(74,ii i),(75,ii ((k + 1 : Nat) : Int)),(1000000,.ow 0)] _ rfl (by simp [go_sem,hBl]))
         have :=sub_mat (X :=X) (st :=⟨mkE [(0,.el 0 1 0 0),(1,.ow 2),(5,ii i),(10,.ow (i + 4)),(74,ii i),(75,ii ((k + 1 : Nat) : Int)),(1000000,.ow 0)],calC 0 :: .dead :: outC 3 i :: (mxC (gj A i i) i ++ [.row ⟨48,4,[frq (gj A i i k i / gj A i i k k)]⟩,.row ⟨48,4,(List.range k).map (fun k => frq (solx A i k)) ++ [frq (gj A i i k i / gj A i i k k)]⟩])⟩) [(0,.el 0 1 0 0),(1,.ow 2),(5,ii i),(10,.ow 1),(74,ii i),(75,ii ((k + 1 : Nat) : Int)),(1000000,.ow 0)] [.old 0 ⟨66,1,[.agg [ii 0]]⟩,.old (i + 4) ⟨48,4,(List.range k).map (fun k => frq (solx A i k)) ++ [frq (gj A i i k i / gj A i i k k)]⟩] 2 (fun k => k + 3) (E1 :=41) (E2 :=48) (k2 :=4) (mxL (gj A i i) i) (by simp [outN,mxL_len]) (fun j es h => ⟨by
          show (mxC (gj A i i) i ++ _)[j]? = _
          rw [List.getElem?_append_left (by have :=(List.getElem?_eq_some_iff.1 h).1; rw [mxL_len] at this; omega)]
          exact matC_get h,mxL_zone h⟩) (by simp [go_sem,hfb]) (nodup_mx (by simp [Src.rid,List.filterMap_cons]) (by simp [Src.rid,List.filterMap_cons]) (by simp [Src.rid,List.filterMap_cons,mxL_len]; try omega) (by simp)) (by simp [go_sem])
         simpa only [mxL_len,List.length_cons,List.length_nil,List.map_cons,List.map_nil,Src.cell,List.cons_append,List.nil_append] using this
       · simp only [decide_eq_false_iff_not] at hc
         have hki : k = i :=by omega
         subst hki
         (repeat (refine awp_stepH [0,1,4,5,6,7,8,9,10,11,14,15,16,18,19,20,24,44,74,75,76,1000000] hX mixed rfl ?_; (simp [go_sem]; try (refine ⟨by kernel_rfl,?_⟩))))
         refine awp_ret ?_; (try simp only [thenQ,blkQ,loopQ]); refine retH_ret [(4,.ow 1),(1000000,.ow 0)] [.old 0 ⟨66,1,[.agg [ii 0]]⟩,.old 1 ⟨48,4,(List.range k).map fun q => frq (solx A k q)⟩] ?_
         simp [go_sem]
end Go.Proofs.Ytndiamkmcoghdaa

namespace Go.Proofs.Ytndiamkmcoghdaa
def wO (own : List Int) (k : Nat) : Int :=own.getD k 0
def sO (S : List (List Int)) (i j : Nat) : Int :=(S.getD i []).getD j 0
def sumI : List Int → Int
 | [] => 0
 | x :: l => x + sumI l
theorem sumI_snoc (l : List Int) (x : Int) : sumI (l ++ [x]) = sumI l + x :=by
 induction l with
 | nil => simp [sumI]
 | cons y l ih => simp only [List.cons_append,sumI,ih]; omega
structure PR (own : List Int) (S : List (List Int)) : Prop where
 pos : 0 < own.length
 most : own.length ≤ 12
 len : S.length = own.length
 w : ∀ k,k < own.length → 0 ≤ wO own k ∧ wO own k ≤ 1099511627776
 row : ∀ l ∈ S,l.length = own.length
 s : ∀ i j,i < own.length → j < own.length → 0 ≤ sO S i j ∧ sO S i j ≤ 1000
 d : ∀ i,i < own.length → sO S i i = 0
structure PV (own : List Int) (S : List (List Int)) : Prop extends PR own S where
 lt : ∀ l ∈ S,sumI l < 1000
def poolM (own : List Int) (S : List (List Int)) : Mx :=fun k t => if t = own.length then ((wO own k * 1000 : Int) : Rat) else if k = t then 1000 else ((-(sO S t k) : Int) : Rat)
theorem getD_at {l : List Int} {j : Nat} (h : j < l.length) : l.getD j 0 = l[j] :=by
 rw [List.getD_eq_getElem?_getD,List.getElem?_eq_getElem h]; rfl
theorem sumR_list {f : Nat → Int} {l : List Int} (h : ∀ j,j < l.length → f j = l.getD j 0) : ∀ m,m ≤ l.length → sumR (fun j => ((f j : Int) : Rat)) m = ((sumI (l.take m) : Int) : Rat)
 | 0,_ => by simp [sumR,sumI]
 | m + 1,hm => by
   have hml : m < l.length :=by omega
   rw [List.take_succ_eq_append_getElem hml,sumI_snoc,Rat.intCast_add,← sumR_list h m (by omega)]
   simp only [sumR]
   rw [h m hml,getD_at hml]
theorem row_sum {own : List Int} {S : List (List Int)} (h : PR own S) {t : Nat} (ht : t < own.length) : ∃ l,l ∈ S ∧ S[t]? = some l ∧ sumR (fun k => ((sO S t k : Int) : Rat)) own.length = ((sumI l : Int) : Rat) :=by
 have hS : t < S.length :=by rw [h.len]; exact ht
 refine ⟨S[t],List.getElem_mem hS,List.getElem?_eq_getElem hS,?_⟩
 have hl :=h.row S[t] (List.getElem_mem hS)
 have :=sumR_list (f :=fun k => sO S t k) (l :=S[t]) (fun j _ => by
  unfold sO
  rw [List.getD_eq_getElem?_getD (l :=S),List.getElem?_eq_getElem hS]; rfl) S[t].length (Nat.le_refl _)
 rw [List.take_length,hl] at this
 exact this
theorem own_sum (own : List Int) : sumR (fun k => ((wO own k : Int) : Rat)) own.length = ((sumI own : Int) : Rat) :=by
 have :=sumR_list (f :=fun k => wO own k) (l :=own) (fun j _ => rfl) own.length (Nat.le_refl _)
 rwa [List.take_length] at this
variable {own : List Int} {S : List (List Int)}
theorem pool_in {k t : Nat} (ht : t < own.length) : poolM own S k t = if k = t then 1000 else ((-(sO S t k) : Int) : Rat) :=if_neg (by omega)
theorem pool_rhs (k : Nat) : poolM own S k own.length = ((wO own k * 1000 : Int) : Rat) :=if_pos rfl
theorem pool_split (h : PR own S) {k t : Nat} (ht : t < own.length) : poolM own S k t = 1 * (if k = t then 1000 else 0) + (-1) * ((sO S t k : Int) : Rat) :=by
 rw [pool_in ht]
 by_cases hk : k = t
 · subst hk
   rw [if_pos rfl,if_pos rfl,h.d k ht]
   show (1000 : Rat) = 1 * 1000 + -1 * ((0 : Int) : Rat)
   have : ((0 : Int) : Rat) = 0 :=rfl
   rw [this]; grind
 · rw [if_neg hk,if_neg hk,Rat.intCast_neg]; grind
theorem pool_col (h : PV own S) {t : Nat} (ht : t < own.length) : 0 < sumR (fun k => poolM own S k t) own.length :=by
 obtain ⟨l,hl,_,hs⟩ :=row_sum h.toPR ht
 have e : sumR (fun k => poolM own S k t) own.length = sumR (fun k => 1 * (if k = t then 1000 else 0) + (-1) * ((sO S t k : Int) : Rat)) own.length :=sumR_congr fun k _ => pool_split h.toPR ht
 rw [e,sumR_lin,hs,sumR_one (i :=t) ht fun k _ hne => if_neg hne,if_pos rfl]
 have h1 :=h.lt l hl
 have h2 : ((sumI l : Int) : Rat) < ((1000 : Int) : Rat) :=Rat.intCast_lt_intCast.2 h1
 have h3 : ((1000 : Int) : Rat) = 1000 :=rfl
 grind
theorem pool_off (h : PR own S) {k t : Nat} (hk : k < own.length) (ht : t < own.length) (hne : k ≠ t) : poolM own S k t ≤ 0 :=by
 rw [pool_in ht,if_neg hne]
 have :=(h.s t k ht hk).1
 have h2 : ((-(sO S t k) : Int) : Rat) ≤ ((0 : Int) : Rat) :=Rat.intCast_le_intCast.2 (by omega)
 exact h2
theorem pool_inv (h : PV own S) : Inv (poolM own S) own.length 0 :=by
 refine ⟨fun k t _ ht _ => by omega,fun k t hk _ ht hne => pool_off h.toPR hk ht hne,fun t _ ht => ?_,fun k hk => ?_,fun k hk _ => by omega⟩
 · have : sumR (fun k => if 0 ≤ k then poolM own S k t else 0) own.length = sumR (fun k => poolM own S k t) own.length :=sumR_congr fun k _ => if_pos (by omega)
   rw [this]; exact pool_col h ht
 · rw [pool_rhs]
   have :=(h.w k hk).1
   have h2 : ((0 : Int) : Rat) ≤ ((wO own k * 1000 : Int) : Rat) :=Rat.intCast_le_intCast.2 (by omega)
   exact h2
theorem pool_mm (h : PV own S) : MM (poolM own S) own.length :=⟨fun k t hk ht hne => pool_off h.toPR hk ht hne,fun t ht => pool_col h ht⟩
theorem pool_int (h : PR own S) {k t : Nat} (hk : k < own.length) (ht : t < own.length) : intB 1000 (poolM own S k t) :=by
 rw [pool_in ht]
 have :=h.s t k ht hk
 split
 · exact ⟨1000,rfl,by decide⟩
 · exact ⟨_,rfl,by omega⟩
theorem pool_irhs (h : PR own S) {k : Nat} (hk : k < own.length) : intB (2 ^ 50) (poolM own S k own.length) :=by
 rw [pool_rhs]
 have :=h.w k hk
 exact ⟨_,rfl,by
  have : (2 : Nat) ^ 50 = 1125899906842624 :=by decide
  omega⟩
theorem pool_stg (h : PR own S) : Stg (poolM own S) own.length 0 10 50 :=by
 refine ⟨1,by decide,by decide,fun k hk => ⟨fun t ht => ?_,?_⟩⟩
 · have e : poolM own S k t * (((1 : Nat) : Int) : Rat) = poolM own S k t :=by
    have : (((1 : Nat) : Int) : Rat) = 1 :=rfl
    rw [this]; grind
   rw [e]
   exact intB_mono (pool_int h hk ht) (by decide)
 · have e : poolM own S k own.length * (((1 : Nat) : Int) : Rat) = poolM own S k own.length :=by
    have : (((1 : Nat) : Int) : Rat) = 1 :=rfl
    rw [this]; grind
   rw [e]
   exact pool_irhs h hk
def allX (own : List Int) (S : List (List Int)) (k : Nat) : Rat :=solx (poolM own S) own.length k
theorem all_nonneg (h : PV own S) {k : Nat} (hk : k < own.length) : 0 ≤ allX own S k :=solx_nonneg (pool_inv h) hk
theorem sum_rows (x : Nat → Rat) (h : PR own S) {i : Nat} (hi : i < own.length) : sumR (fun t => poolM own S i t * x t) own.length = 1000 * x i - sumR (fun t => x t * ((sO S t i : Int) : Rat)) own.length :=by
 have e : sumR (fun t => poolM own S i t * x t) own.length = sumR (fun t => 1 * (if i = t then 1000 * x t else 0) + (-1) * (x t * ((sO S t i : Int) : Rat))) own.length :=sumR_congr fun t ht => by
  rw [pool_split h ht]
  by_cases hit : i = t
  · rw [if_pos hit,if_pos hit]; grind
  · rw [if_neg hit,if_neg hit]; grind
 rw [e,sumR_lin,sumR_one (i :=i) hi fun k _ hne => if_neg (fun e => hne e.symm),if_pos rfl]
 grind
theorem sol_words (x : Nat → Rat) (h : PR own S) : Sol (poolM own S) own.length x ↔ ∀ i,i < own.length → x i = ((wO own i : Int) : Rat) + sumR (fun t => x t * (((sO S t i : Int) : Rat) / 1000)) own.length :=by
 have key : ∀ i,sumR (fun t => x t * (((sO S t i : Int) : Rat) / 1000)) own.length = sumR (fun t => x t * ((sO S t i : Int) : Rat)) own.length / 1000 :=fun i => by
  have :=sumR_lin (fun t => x t * ((sO S t i : Int) : Rat)) (fun _ => 0) (1 / 1000) 0 own.length
  have e : (fun t => x t * (((sO S t i : Int) : Rat) / 1000)) = fun k => 1 / 1000 * (x k * ((sO S k i : Int) : Rat)) + 0 * 0 :=by funext t; grind
  rw [e,this]; grind
 constructor
 · intro hs i hi
   have :=hs i hi
   rw [sum_rows x h hi,pool_rhs,Rat.intCast_mul] at this
   rw [key]
   have h3 : ((1000 : Int) : Rat) = 1000 :=rfl
   rw [h3] at this
   grind
 · intro hs i hi
   have :=hs i hi
   rw [key] at this
   rw [sum_rows x h hi,pool_rhs,Rat.intCast_mul]
   have h3 : ((1000 : Int) : Rat) = 1000 :=rfl
   rw [h3]
   grind
theorem all_eq (h : PV own S) {i : Nat} (hi : i < own.length) : allX own S i = ((wO own i : Int) : Rat) + sumR (fun t => allX own S t * (((sO S t i : Int) : Rat) / 1000)) own.length :=
 (sol_words _ h.toPR).1 (solx_sol (pool_inv h)) i hi
theorem detN_mono {c : Nat} (hc : 1 ≤ c) : ∀ {n m : Nat},n ≤ m → detN n c ≤ detN m c
 | n,0,h => by have : n = 0 :=by omega
               subst this; exact Nat.le_refl _
 | n,m + 1,h => by
   by_cases he : n = m + 1
   · subst he; exact Nat.le_refl _
   · have h1 :=detN_mono hc (n :=n) (m :=m) (by omega)
     refine Nat.le_trans h1 ?_
     show detN m c ≤ (m + 1) * (c * detN m c)
     have h2 : 1 * detN m c ≤ c * detN m c :=Nat.mul_le_mul_right _ hc
     have h3 : 1 * (c * detN m c) ≤ (m + 1) * (c * detN m c) :=Nat.mul_le_mul_right _ (by omega)
     omega
theorem all_sz (h : PV own S) (h6 : own.length ≤ 6) {k : Nat} (hk : k < own.length) : bt 310 (allX own S k).num ∧ bt 70 (allX own S k).den :=by
 have hpos :=mm_det (pool_mm h)
 obtain ⟨z,hz,hzl⟩ :=det_int (n :=own.length) (A :=poolM own S) (c :=1000) fun k t hk ht => pool_int h.toPR hk ht
 have hc :=cramer (solx_sol (pool_inv h)) hk
 have hb :=det_int (n :=own.length) (A :=setCol (poolM own S) k fun i => poolM own S i own.length) (c :=2 ^ 50) fun i t hi ht => by
  unfold setCol
  split
  · exact pool_irhs h.toPR hi
  · exact intB_mono (pool_int h.toPR hi ht) (by decide)
 rw [hc] at hb
 have hz0 : 0 < z :=by
  rw [hz] at hpos
  exact Rat.intCast_lt_intCast.1 (show ((0 : Int) : Rat) < (z : Rat) from hpos)
 have hzn : ((z.natAbs : Nat) : Int) = z :=by omega
 obtain ⟨h1,h2⟩ :=sz_num (D :=z.natAbs) (N :=detN own.length (2 ^ 50)) (r :=allX own S k) ⟨by omega,by rw [hzn,← hz]; exact hb⟩
 refine ⟨?_,?_⟩
 · exact Nat.le_trans h1 (Nat.le_trans (detN_mono (by decide) h6) (by decide +kernel))
 · unfold bt
   simp only [Int.natAbs_natCast]
   exact Nat.le_trans h2 (Nat.le_trans hzl (Nat.le_trans (detN_mono (by decide) h6) (by decide +kernel)))
end Go.Proofs.Ytndiamkmcoghdaa

namespace Go.Proofs.Ytndiamkmcoghdaa
open Go.RowKit Go.Ab
attribute [local irreducible] AWP Go.Ab.Sub Means MeansH MeansX CallK CallG CallT CallGT CallU
theorem nthE_I {L : List (Int)} {n : Nat} (h : n < L.length) : nth (L.map ii) n = ii L[n] :=nth_map _ h
theorem indexI_m (f : FuncId) (p : Int → Bool) (L : List (Int)) (hl : L.length ≤ 9223372036854775807)
  (hf : ∀ b ∈ L,Means false Try.prog f [ii b] (bb (p b))) (hcall : callable Try.prog f = true) :
  Means false Try.prog 95 [.sl (L.map ii),.v (.func (.func f) #[] #[])] (ii (if L.findIdx p < L.length then (L.findIdx p : Int) else -1)) :=by
 refine means_fn false 19 [.tmp 4] Try.func95 rfl rfl rfl (by simp) (by decide) rfl fun X hX => ?_
 (repeat (refine awp_stepG [0,1,4,5,7,8,9,16] hX mixed rfl ?_; (simp [go_sem]; try (refine ⟨by kernel_rfl,?_⟩))))
 refine awp_loop (fun n : Nat => ⟨mkE [(0,.sl (L.map ii)),(1,.v (.func (.func f) #[] #[])),(7,ii L.length),(8,ii n)],[]⟩) (fun n => n ≤ L.findIdx p ∧ n ≤ L.length) (fun n => L.length - n) 0 ?_ ?_ ?_
 · refine sub_of _ [] (by simp [go_sem]) ?_
   simp [go_sem]
 · omega
 · rintro n ⟨hn,hn2⟩
   (repeat (refine awp_stepG [0,1,4,5,7,8,9,16] hX mixed rfl ?_; (simp [go_sem]; try (refine ⟨by kernel_rfl,?_⟩))))
   refine awp_cond (b :=decide (n < L.length)) (by simp [go_sem]) (fun hc => ?_) (fun hc => ?_)
   · simp at hc
     have hq :=nthE_I hc
     have wn :=w64 (x :=(n : Int) + 1) (by omega) (by omega)
     (repeat (refine awp_stepG [0,1,4,5,7,8,9,16] hX mixed rfl ?_; (simp [go_sem,hc,hq,hcall]; try (refine ⟨by kernel_rfl,?_⟩))))
     first | refine callKa (hf L[n] (List.getElem_mem hc)) ?_ | refine callTa (hf L[n] (List.getElem_mem hc)) ?_
     try (simp [go_sem]; try (refine ⟨by kernel_rfl,?_⟩))
     refine awp_cond (b :=p L[n]) (by simp [go_sem]) (fun hd => ?_) (fun hd => ?_)
     · have e : L.findIdx p = n :=by
        have h1 : ¬ n < L.findIdx p :=fun h => by have :=List.not_of_lt_findIdx h; rw [hd] at this; simp at this
        omega
       (repeat (refine awp_stepG [0,1,4,5,7,8,9,16] hX mixed rfl ?_; (simp [go_sem,e,hc]; try (refine ⟨by kernel_rfl,?_⟩))))
       try exact ⟨L[n],List.getElem_mem hc,hd⟩
     · have e : n + 1 ≤ L.findIdx p :=by
        by_cases h : L.findIdx p = n
        · have h2 : L.findIdx p < L.length :=by omega
          have :=List.findIdx_getElem (p :=p) (w :=h2)
          simp only [h] at this
          rw [hd] at this; cases this
        · omega
       (repeat (refine awp_stepG [0,1,4,5,7,8,9,16] hX mixed rfl ?_; (simp [go_sem,wn]; try (refine ⟨by kernel_rfl,?_⟩))))
       refine ⟨n + 1,⟨e,by omega⟩,by omega,?_⟩
       refine sub_of _ [] (by simp [go_sem]) ?_
       simp [go_sem]
   · have e : ¬ L.findIdx p < L.length :=by simp at hc; omega
     (repeat (refine awp_stepG [0,1,4,5,7,8,9,16] hX mixed rfl ?_; (simp [go_sem,e]; try (refine ⟨by kernel_rfl,?_⟩))))
     try simpa [List.findIdx_lt_length] using e
theorem any_findI {p : Int → Bool} (L : List (Int)) : decide (L.findIdx p < L.length) = L.any p :=by
 rw [Bool.eq_iff_iff]
 simp [List.findIdx_lt_length]
theorem contI_m (f : FuncId) (p : Int → Bool) (L : List (Int)) (hl : L.length ≤ 9223372036854775807)
  (hf : ∀ b ∈ L,Means false Try.prog f [ii b] (bb (p b))) (hcall : callable Try.prog f = true) :
  Means false Try.prog 81 [.sl (L.map ii),.v (.func (.func f) #[] #[])] (bb (L.any p)) :=by
 have h :=indexI_m f p L hl hf hcall
 rw [← any_findI]
 generalize L.findIdx p = q at *
 refine means_fn false 9 [.tmp 4] Try.func81 rfl rfl rfl (by simp) (by decide) rfl fun X hX => ?_
 (repeat (refine awp_stepG [0,1,4] hX mixed rfl ?_; (simp [go_sem]; try (refine ⟨by kernel_rfl,?_⟩))))
 first | refine callKa (h) ?_ | refine callTa (h) ?_
 try (simp [go_sem]; try (refine ⟨by kernel_rfl,?_⟩))
 by_cases hq : q < L.length
 · (repeat (refine awp_stepG [0,1,4] hX mixed rfl ?_; (simp [go_sem,hq]; try (refine ⟨by kernel_rfl,?_⟩))))
 · (repeat (refine awp_stepG [0,1,4] hX mixed rfl ?_; (simp [go_sem,hq]; try (refine ⟨by kernel_rfl,?_⟩))))
theorem nthE_L {L : List (List Int)} {n : Nat} (h : n < L.length) : nth (L.map il) n = il L[n] :=nth_map _ h
theorem indexL_m (f : FuncId) (p : List Int → Bool) (L : List (List Int)) (hl : L.length ≤ 9223372036854775807)
  (hf : ∀ b ∈ L,Means false Try.prog f [il b] (bb (p b))) (hcall : callable Try.prog f = true) :
  Means false Try.prog 82 [.sl (L.map il),.v (.func (.func f) #[] #[])] (ii (if L.findIdx p < L.length then (L.findIdx p : Int) else -1)) :=by
 refine means_fn false 19 [.tmp 4] Try.func82 rfl rfl rfl (by simp) (by decide) rfl fun X hX => ?_
 (repeat (refine awp_stepG [0,1,4,5,7,8,9,16] hX mixed rfl ?_; (simp [go_sem]; try (refine ⟨by kernel_rfl,?_⟩))))
 refine awp_loop (fun n : Nat => ⟨mkE [(0,.sl (L.map il)),(1,.v (.func (.func f) #[] #[])),(7,ii L.length),(8,ii n)],[]⟩) (fun n => n ≤ L.findIdx p ∧ n ≤ L.length) (fun n => L.length - n) 0 ?_ ?_ ?_
 · refine sub_of _ [] (by simp [go_sem]) ?_
   simp [go_sem]
 · omega
 · rintro n ⟨hn,hn2⟩
   (repeat (refine awp_stepG [0,1,4,5,7,8,9,16] hX mixed rfl ?_; (simp [go_sem]; try (refine ⟨by kernel_rfl,?_⟩))))
   refine awp_cond (b :=decide (n < L.length)) (by simp [go_sem]) (fun hc => ?_) (fun hc => ?_)
   · simp at hc
     have hq :=nthE_L hc
     have wn :=w64 (x :=(n : Int) + 1) (by omega) (by omega)
     (repeat (refine awp_stepG [0,1,4,5,7,8,9,16] hX mixed rfl ?_; (simp [go_sem,hc,hq,hcall]; try (refine ⟨by kernel_rfl,?_⟩))))
     first | refine callKa (hf L[n] (List.getElem_mem hc)) ?_ | refine callTa (hf L[n] (List.getElem_mem hc)) ?_
     try (simp [go_sem]; try (refine ⟨by kernel_rfl,?_⟩))
     refine awp_cond (b :=p L[n]) (by simp [go_sem]) (fun hd => ?_) (fun hd => ?_)
     · have e : L.findIdx p = n :=by
        have h1 : ¬ n < L.findIdx p :=fun h => by have :=List.not_of_lt_findIdx h; rw [hd] at this; simp at this
        omega
       (repeat (refine awp_stepG [0,1,4,5,7,8,9,16] hX mixed rfl ?_; (simp [go_sem,e,hc]; try (refine ⟨by kernel_rfl,?_⟩))))
       try exact ⟨L[n],List.getElem_mem hc,hd⟩
     · have e : n + 1 ≤ L.findIdx p :=by
        by_cases h : L.findIdx p = n
        · have h2 : L.findIdx p < L.length :=by omega
          have :=List.findIdx_getElem (p :=p) (w :=h2)
          simp only [h] at this
          rw [hd] at this; cases this
        · omega
       (repeat (refine awp_stepG [0,1,4,5,7,8,9,16] hX mixed rfl ?_; (simp [go_sem,wn]; try (refine ⟨by kernel_rfl,?_⟩))))
       refine ⟨n + 1,⟨e,by omega⟩,by omega,?_⟩
       refine sub_of _ [] (by simp [go_sem]) ?_
       simp [go_sem]
   · have e : ¬ L.findIdx p < L.length :=by simp at hc; omega
     (repeat (refine awp_stepG [0,1,4,5,7,8,9,16] hX mixed rfl ?_; (simp [go_sem,e]; try (refine ⟨by kernel_rfl,?_⟩))))
     try simpa [List.findIdx_lt_length] using e
theorem any_findL {p : List Int → Bool} (L : List (List Int)) : decide (L.findIdx p < L.length) = L.any p :=by
 rw [Bool.eq_iff_iff]
 simp [List.findIdx_lt_length]
theorem contL_m (f : FuncId) (p : List Int → Bool) (L : List (List Int)) (hl : L.length ≤ 9223372036854775807)
  (hf : ∀ b ∈ L,Means false Try.prog f [il b] (bb (p b))) (hcall : callable Try.prog f = true) :
  Means false Try.prog 57 [.sl (L.map il),.v (.func (.func f) #[] #[])] (bb (L.any p)) :=by
 have h :=indexL_m f p L hl hf hcall
 rw [← any_findL]
 generalize L.findIdx p = q at *
 refine means_fn false 9 [.tmp 4] Try.func57 rfl rfl rfl (by simp) (by decide) rfl fun X hX => ?_
 (repeat (refine awp_stepG [0,1,4] hX mixed rfl ?_; (simp [go_sem]; try (refine ⟨by kernel_rfl,?_⟩))))
 first | refine callKa (h) ?_ | refine callTa (h) ?_
 try (simp [go_sem]; try (refine ⟨by kernel_rfl,?_⟩))
 by_cases hq : q < L.length
 · (repeat (refine awp_stepG [0,1,4] hX mixed rfl ?_; (simp [go_sem,hq]; try (refine ⟨by kernel_rfl,?_⟩))))
 · (repeat (refine awp_stepG [0,1,4] hX mixed rfl ?_; (simp [go_sem,hq]; try (refine ⟨by kernel_rfl,?_⟩))))
structure Fr where
 s1 : Int
 L1 : List Int
 s2 : Int
 L2 : List Int
abbrev fv (x : Fr) : AV :=frac4 x.s1 x.L1 x.s2 x.L2
def wrongS (s : Int) : Bool :=decide (s < 0) || decide (1000 < s)
theorem wrong_m (s : Int) : Means false Try.prog 80 [ii s] (bb (wrongS s)) :=by
 refine means_fn false 9 [.tmp 2] Try.func80 rfl rfl rfl (by simp) (by decide) rfl fun X hX => ?_
 (repeat (refine awp_stepG [0,2] hX mixed rfl ?_; (simp [go_sem]; try (refine ⟨by kernel_rfl,?_⟩))))
 simp [wrongS]
theorem wrong_iff {l : List Int} : l.any wrongS = false ↔ ∀ x ∈ l,0 ≤ x ∧ x ≤ 1000 :=by
 rw [List.any_eq_false]
 constructor
 · intro h x hx
   have :=h x hx
   simp [wrongS] at this
   omega
 · intro h x hx
   have :=h x hx
   simp [wrongS]
   omega
theorem csum_bd : ∀ (l : List Int) (k : Nat),(∀ x ∈ l,0 ≤ x ∧ x ≤ 1000) → 0 ≤ sumI (l.take k) ∧ sumI (l.take k) ≤ 1000 * l.length
 | [],k,_ => by simp [sumI]
 | x :: l,0,_ => by simp [sumI]; omega
 | x :: l,k + 1,h => by
   have h1 :=csum_bd l k fun y hy => h y (List.mem_cons_of_mem _ hy)
   have h2 :=h x (by simp)
   simp only [List.take_succ_cons,sumI,List.length_cons]
   omega
theorem given_m (l : List Int) (hl : l.length ≤ 1000) (h : ∀ x ∈ l,0 ≤ x ∧ x ≤ 1000) : Means false Try.prog 35 [il l] (ii (sumI l)) :=by
 refine means_fn false 17 [.tmp 2] Try.func35 rfl rfl rfl (by simp) (by decide) rfl fun X hX => ?_
 (repeat (refine awp_stepG [0,2,3,5,6,7,8,9] hX mixed rfl ?_; (simp [go_sem]; try (refine ⟨by kernel_rfl,?_⟩))))
 refine awp_loop (fun k : Nat => ⟨mkE [(0,il l),(3,ii (sumI (l.take k))),(6,il l),(7,ii l.length),(8,ii k)],[]⟩) (fun k => k ≤ l.length) (fun k => l.length - k) 0 ?_ ?_ ?_
 · refine sub_of _ [] (by simp [go_sem]) ?_
   simp [go_sem,sumI]
 · omega
 · intro k hk
   (repeat (refine awp_stepG [0,2,3,5,6,7,8,9] hX mixed rfl ?_; (simp [go_sem]; try (refine ⟨by kernel_rfl,?_⟩))))
   refine awp_cond (b :=decide (k < l.length)) (by simp [go_sem]) (fun hb => ?_) (fun hb => ?_)
   · simp only [decide_eq_true_eq] at hb
     have q1 :=nth_ii hb
     have b1 :=csum_bd l k h
     have b2 :=csum_bd l (k + 1) h
     have e : sumI (l.take (k + 1)) = sumI (l.take k) + l[k] :=by rw [List.take_succ_eq_append_getElem hb,sumI_snoc]
     rw [e] at b2
     have w1 :=w64 (x :=sumI (l.take k) + l[k]) (by omega) (by omega)
     have w2 :=w64 (x :=(k : Int) + 1) (by omega) (by omega)
     (repeat (refine awp_stepG [0,2,3,5,6,7,8,9] hX mixed rfl ?_; (simp [go_sem,hb,q1,w1,w2]; try (refine ⟨by kernel_rfl,?_⟩))))
     refine ⟨k + 1,by omega,by omega,?_⟩
     rw [e]
     refine sub_of _ [] (by simp [go_sem]) ?_
     simp [go_sem]
   · simp only [decide_eq_false_iff_not] at hb
     have hk2 : k = l.length :=by omega
     subst hk2
     rw [List.take_length]
     (repeat (refine awp_stepG [0,2,3,5,6,7,8,9] hX mixed rfl ?_; (simp [go_sem]; try (refine ⟨by kernel_rfl,?_⟩))))
def rowOk (own : List Int) (S : List (List Int)) (k : Nat) : Prop :=(0 ≤ wO own k ∧ wO own k ≤ 1099511627776) ∧ (S.getD k []).length = own.length ∧ (∀ x ∈ S.getD k [],0 ≤ x ∧ x ≤ 1000) ∧ sO S k k = 0
theorem PR_iff (own : List Int) (S : List (List Int)) : PR own S ↔ (0 < own.length ∧ own.length ≤ 12 ∧ S.length = own.length) ∧ ∀ k,k < own.length → rowOk own S k :=by
 constructor
 · intro h
   refine ⟨⟨h.pos,h.most,h.len⟩,fun k hk => ?_⟩
   have hS : k < S.length :=by rw [h.len]; exact hk
   have hg : S.getD k [] = S[k] :=by rw [List.getD_eq_getElem?_getD,List.getElem?_eq_getElem hS]; rfl
   refine ⟨h.w k hk,by rw [hg]; exact h.row _ (List.getElem_mem hS),fun x hx => ?_,h.d k hk⟩
   obtain ⟨j,hj,rfl⟩ :=List.getElem_of_mem hx
   have hl :=h.row _ (List.getElem_mem hS)
   have hj' : j < own.length :=by rw [← hl,← hg]; exact hj
   have :=h.s k j hk hj'
   unfold sO at this
   rw [getD_at hj] at this
   exact this
 · rintro ⟨⟨h1,h2,h3⟩,h4⟩
   refine ⟨h1,h2,h3,fun k hk => (h4 k hk).1,fun l hl => ?_,fun i j hi hj => ?_,fun i hi => (h4 i hi).2.2.2⟩
   · obtain ⟨k,hk,rfl⟩ :=List.getElem_of_mem hl
     have hg : S.getD k [] = S[k] :=by rw [List.getD_eq_getElem?_getD,List.getElem?_eq_getElem hk]; rfl
     rw [← hg]
     exact (h4 k (by omega)).2.1
   · obtain ⟨_,h5,h6,_⟩ :=h4 i hi
     have hj' : j < (S.getD i []).length :=by omega
     unfold sO
     rw [getD_at hj']
     exact h6 _ (List.getElem_mem hj')
theorem nth_out {l : List AV} {k : Nat} (h : ¬ k < l.length) : nth l k = .bad :=by
 unfold nth
 rw [List.getD_eq_getElem?_getD,List.getElem?_eq_none (by omega)]; rfl
noncomputable instance (own : List Int) (S : List (List Int)) (k : Nat) : Decidable (rowOk own S k) :=Classical.propDecidable _
noncomputable instance (own : List Int) (S : List (List Int)) : Decidable (PR own S) :=Classical.propDecidable _
noncomputable instance (own : List Int) (S : List (List Int)) : Decidable (PV own S) :=Classical.propDecidable _
abbrev ill (S : List (List Int)) : AV :=.sl (S.map il)
set_option maxHeartbeats 8000000 in
set_option maxRecDepth 20000 in
theorem Right_p (own : List Int) (S : List (List Int)) (hl : own.length ≤ 9223372036854775807) (hS : S.length ≤ 9223372036854775807) (hr : ∀ l ∈ S,l.length ≤ 9223372036854775807) : Means false Try.prog 56 [il own,ill S] (bb (decide (PR own S))) :=by
 by_cases h0 : 0 < own.length ∧ own.length ≤ 12 ∧ S.length = own.length
 · refine means_fn false 61 [.tmp 4] Try.func56 rfl rfl rfl (by simp) (by decide) rfl fun X hX => ?_
   (repeat (refine awp_stepG [0,1,4,5,6,7,8,22,23,24,25,26,59] hX mixed rfl ?_; (simp [go_sem]; try (refine ⟨by kernel_rfl,?_⟩))))
   have h12 : ¬ (12 : Int) < own.length :=by omega
   have hn0 : ¬ own = [] :=by intro e; rw [e] at h0; simp at h0
   refine awp_cond (b :=false) (by simp [go_sem,h0.2.2,h12,hn0]) (fun h => by cases h) (fun _ => ?_)
   (repeat (refine awp_stepG [0,1,4,5,6,7,8,22,23,24,25,26,59] hX mixed rfl ?_; (simp [go_sem]; try (refine ⟨by kernel_rfl,?_⟩))))
   refine awp_loop (fun k : Nat => ⟨mkE [(0,il own),(1,ill S),(5,ii own.length),(23,ill S),(24,ii own.length),(25,ii k)],[]⟩) (fun k => k ≤ own.length ∧ ∀ j,j < k → rowOk own S j) (fun k => own.length - k) 0 ?_ ?_ ?_
   · refine sub_of _ [] (by simp [go_sem]) ?_
     simp [go_sem,h0.2.2]
   · exact ⟨by omega,fun j hj => by omega⟩
   · rintro k ⟨hk,hp⟩
     (repeat (refine awp_stepG [0,1,4,5,6,7,8,22,23,24,25,26,59] hX mixed rfl ?_; (simp [go_sem]; try (refine ⟨by kernel_rfl,?_⟩))))
     refine awp_cond (b :=decide (k < own.length)) (by simp [go_sem]) (fun hb => ?_) (fun hb => ?_)
     · simp only [decide_eq_true_eq] at hb
       have hkS : k < S.length :=by omega
       have q1 :=nth_ii hb
       have q2 :=nthE_L (L :=S) hkS
       have hlk :=hr S[k] (List.getElem_mem hkS)
       have hg : S.getD k [] = S[k] :=by rw [List.getD_eq_getElem?_getD,List.getElem?_eq_getElem hkS]; rfl
       have hro : rowOk own S k ↔ (0 ≤ own[k] ∧ own[k] ≤ 1099511627776) ∧ S[k].length = own.length ∧ S[k].any wrongS = false ∧ sO S k k = 0 :=by
        unfold rowOk
        rw [hg,wrong_iff,show wO own k = own[k] from getD_at hb]
       have hso : ∀ h : k < S[k].length,sO S k k = S[k][k] :=fun h => by unfold sO; rw [hg,getD_at h]
       have wk :=w64 (x :=(k : Int) + 1) (by omega) (by omega)
       by_cases hlen : S[k].length = own.length
       · have hk3 : k < S[k].length :=by omega
         have q3 :=nth_ii hk3
         rw [hso hk3] at hro
         (repeat (refine awp_stepG [0,1,4,5,6,7,8,22,23,24,25,26,59] hX mixed rfl ?_; (simp [go_sem,hb,hkS,q1,q2]; try (refine ⟨by kernel_rfl,?_⟩))))
         first | refine callGa (fun hg => contI_m 80 wrongS S[k] hlk (fun b _ => wrong_m b) (by kernel_rfl)) ?_ | refine callGTa (fun hg => contI_m 80 wrongS S[k] hlk (fun b _ => wrong_m b) (by kernel_rfl)) ?_
         try (simp [go_sem,hb,hkS,q1,q2,hk3,q3]; try (refine ⟨by kernel_rfl,?_⟩))
         refine awp_cond (b :=!(decide (rowOk own S k))) (by simp [go_sem,hro,hlen]; grind) (fun hd => ?_) (fun hd => ?_)
         · have e : ¬ PR own S :=fun h => by
            have :=((PR_iff own S).1 h).2 k hb
            simp [this] at hd
           (repeat (refine awp_stepG [0,1,4,5,6,7,8,22,23,24,25,26,59] hX mixed rfl ?_; (simp [go_sem,e]; try (refine ⟨by kernel_rfl,?_⟩))))
         · simp only [Bool.not_eq_false',decide_eq_true_eq] at hd
           (repeat (refine awp_stepG [0,1,4,5,6,7,8,22,23,24,25,26,59] hX mixed rfl ?_; (simp [go_sem,wk]; try (refine ⟨by kernel_rfl,?_⟩))))
           refine ⟨k + 1,⟨by omega,fun j hj => ?_⟩,by omega,?_⟩
           · by_cases hjk : j = k
             · subst hjk; exact hd
             · exact hp j (by omega)
           · refine sub_of _ [] (by simp [go_sem]) ?_
             simp [go_sem]
       · have hlen2 : ¬ ((S[k].length : Int) = own.length) :=by omega
         have e : ¬ PR own S :=fun h => by
          have :=((PR_iff own S).1 h).2 k hb
          exact hlen (hro.1 this).2.1
         by_cases hk3 : k < S[k].length
         · have q3 :=nth_ii hk3
           (repeat (refine awp_stepG [0,1,4,5,6,7,8,22,23,24,25,26,59] hX mixed rfl ?_; (simp [go_sem,hb,hkS,q1,q2,q3,hlen2]; try (refine ⟨by kernel_rfl,?_⟩))))
           try first | refine callG_skip rfl ?_ | refine callGT_skip rfl ?_
           try (simp [go_sem,hb,hkS,q1,q2,q3,hlen2]; try (refine ⟨by kernel_rfl,?_⟩))
           refine awp_cond (b :=true) (by simp [go_sem,hlen2]) (fun _ => ?_) (fun h => by cases h)
           (repeat (refine awp_stepG [0,1,4,5,6,7,8,22,23,24,25,26,59] hX mixed rfl ?_; (simp [go_sem,e]; try (refine ⟨by kernel_rfl,?_⟩))))
         · have q3 : nth (S[k].map ii) k = .bad :=nth_out (by simpa using hk3)
           (repeat (refine awp_stepG [0,1,4,5,6,7,8,22,23,24,25,26,59] hX mixed rfl ?_; (simp [go_sem,hb,hkS,q1,q2,q3,hlen2]; try (refine ⟨by kernel_rfl,?_⟩))))
           try first | refine callG_skip rfl ?_ | refine callGT_skip rfl ?_
           try (simp [go_sem,hb,hkS,q1,q2,q3,hlen2]; try (refine ⟨by kernel_rfl,?_⟩))
           refine awp_cond (b :=true) (by simp [go_sem,hlen2]) (fun _ => ?_) (fun h => by cases h)
           (repeat (refine awp_stepG [0,1,4,5,6,7,8,22,23,24,25,26,59] hX mixed rfl ?_; (simp [go_sem,e]; try (refine ⟨by kernel_rfl,?_⟩))))
     · simp only [decide_eq_false_iff_not] at hb
       have hk2 : k = own.length :=by omega
       subst hk2
       have e : PR own S :=(PR_iff own S).2 ⟨h0,hp⟩
       (repeat (refine awp_stepG [0,1,4,5,6,7,8,22,23,24,25,26,59] hX mixed rfl ?_; (simp [go_sem,e]; try (refine ⟨by kernel_rfl,?_⟩))))
 · have e : ¬ PR own S :=fun h => h0 ((PR_iff own S).1 h).1
   refine means_fn false 61 [.tmp 4] Try.func56 rfl rfl rfl (by simp) (by decide) rfl fun X hX => ?_
   (repeat (refine awp_stepG [0,1,4,5,6,7,8,22,23,24,25,26,59] hX mixed rfl ?_; (simp [go_sem]; try (refine ⟨by kernel_rfl,?_⟩))))
   refine awp_cond (b :=decide (own = [] ∨ (12 : Int) < own.length ∨ ¬ (S.length : Int) = own.length)) (by simp [go_sem]; grind) (fun _ => ?_) (fun h => ?_)
   · (repeat (refine awp_stepG [0,1,4,5,6,7,8,22,23,24,25,26,59] hX mixed rfl ?_; (simp [go_sem,e]; try (refine ⟨by kernel_rfl,?_⟩))))
   · exfalso
     simp at h
     have : 0 < own.length :=List.length_pos_iff.2 h.1
     omega
end Go.Proofs.Ytndiamkmcoghdaa

namespace Go.Proofs.Ytndiamkmcoghdaa
open Go.RowKit Go.Ab
attribute [local irreducible] AWP Go.Ab.Sub Means MeansH MeansX CallK CallG CallT CallGT CallU
noncomputable def badP (own : List Int) (S : List (List Int)) : Int :=if PR own S then (if PV own S then 0 else 23) else 1
theorem PR_row {own : List Int} {S : List (List Int)} (h : PR own S) {l : List Int} (hl : l ∈ S) : l.length ≤ 12 ∧ ∀ x ∈ l,0 ≤ x ∧ x ≤ 1000 :=by
 obtain ⟨k,hk,rfl⟩ :=List.getElem_of_mem hl
 have hk2 : k < own.length :=by rw [← h.len]; exact hk
 have hr :=((PR_iff own S).1 h).2 k hk2
 have hg : S.getD k [] = S[k] :=by rw [List.getD_eq_getElem?_getD,List.getElem?_eq_getElem hk]; rfl
 rw [← hg]
 exact ⟨by rw [hr.2.1]; exact h.most,hr.2.2.1⟩
theorem PV_any {own : List Int} {S : List (List Int)} (h : PR own S) : S.any (fun l => decide (1000 ≤ sumI l)) = false ↔ PV own S :=by
 rw [List.any_eq_false]
 constructor
 · intro hs
   exact ⟨h,fun l hl => by have :=hs l hl; simp at this; omega⟩
 · intro hv l hl
   have :=hv.lt l hl
   simp; omega
theorem solv1_m (l : List Int) (hl : l.length ≤ 1000) (h : ∀ x ∈ l,0 ≤ x ∧ x ≤ 1000) : Means false Try.prog 58 [il l] (bb (decide (1000 ≤ sumI l))) :=by
 refine means_fn false 6 [.tmp 2] Try.func58 rfl rfl rfl (by simp) (by decide) rfl fun X hX => ?_
 (repeat (refine awp_stepG [0,2] hX mixed rfl ?_; (simp [go_sem]; try (refine ⟨by kernel_rfl,?_⟩))))
 first | refine callKa (given_m l hl h) ?_ | refine callTa (given_m l hl h) ?_
 try (simp [go_sem]; try (refine ⟨by kernel_rfl,?_⟩))
 (repeat (refine awp_stepG [0,2] hX mixed rfl ?_; (simp [go_sem]; try (refine ⟨by kernel_rfl,?_⟩))))
theorem solvable_m (own : List Int) (S : List (List Int)) (hl : own.length ≤ 9223372036854775807) (hS : S.length ≤ 9223372036854775807) (hr : ∀ l ∈ S,l.length ≤ 9223372036854775807) : Means false Try.prog 30 [il own,ill S] (ii (badP own S)) :=by
 refine means_fn false 11 [.tmp 4] Try.func30 rfl rfl rfl (by simp) (by decide) rfl fun X hX => ?_
 (repeat (refine awp_stepG [0,1,4,8,10] hX mixed rfl ?_; (simp [go_sem]; try (refine ⟨by kernel_rfl,?_⟩))))
 first | refine callKa (Right_p own S hl hS hr) ?_ | refine callTa (Right_p own S hl hS hr) ?_
 try (simp [go_sem]; try (refine ⟨by kernel_rfl,?_⟩))
 by_cases h : PR own S
 · refine awp_cond (b :=false) (by simp [go_sem,h]) (fun h => by cases h) (fun _ => ?_)
   (repeat (refine awp_stepG [0,1,4,8,10] hX mixed rfl ?_; (simp [go_sem]; try (refine ⟨by kernel_rfl,?_⟩))))
   first | refine callKa (contL_m 58 (fun l => decide (1000 ≤ sumI l)) S hS (fun l hl => solv1_m l (by have :=(PR_row h hl).1; omega) (PR_row h hl).2) (by kernel_rfl)) ?_ | refine callTa (contL_m 58 (fun l => decide (1000 ≤ sumI l)) S hS (fun l hl => solv1_m l (by have :=(PR_row h hl).1; omega) (PR_row h hl).2) (by kernel_rfl)) ?_
   try (simp [go_sem]; try (refine ⟨by kernel_rfl,?_⟩))
   by_cases hv : PV own S
   · have e : badP own S = 0 :=by unfold badP; rw [if_pos h,if_pos hv]
     rw [e]
     have ha :=(PV_any h).2 hv
     refine awp_cond (b :=false) (by simp [go_sem,ha]) (fun h => by cases h) (fun _ => ?_)
     (repeat (refine awp_stepG [0,1,4,8,10] hX mixed rfl ?_; (simp [go_sem]; try (refine ⟨by kernel_rfl,?_⟩))))
   · have e : badP own S = 23 :=by unfold badP; rw [if_pos h,if_neg hv]
     rw [e]
     have ha : S.any (fun l => decide (1000 ≤ sumI l)) = true :=by
      cases hq : S.any (fun l => decide (1000 ≤ sumI l)) with
      | true => rfl
      | false => exact absurd ((PV_any h).1 hq) hv
     refine awp_cond (b :=true) (by simp [go_sem,ha]) (fun _ => ?_) (fun h => by cases h)
     (repeat (refine awp_stepG [0,1,4,8,10] hX mixed rfl ?_; (simp [go_sem]; try (refine ⟨by kernel_rfl,?_⟩))))
 · have e : badP own S = 1 :=by unfold badP; rw [if_neg h]
   rw [e]
   refine awp_cond (b :=true) (by simp [go_sem,h]) (fun _ => ?_) (fun h => by cases h)
   (repeat (refine awp_stepG [0,1,4,8,10] hX mixed rfl ?_; (simp [go_sem]; try (refine ⟨by kernel_rfl,?_⟩))))
theorem cast1 (z : Int) : ((z : Rat) / ((1 : Int) : Rat)) = (z : Rat) :=by
 have : ((1 : Int) : Rat) = 1 :=rfl
 rw [this]; grind
theorem rq_int {z : Int} (h : -9223372036854775808 ≤ z ∧ z ≤ 9223372036854775807) : rq (z : Rat) :=by
 rw [← cast1]; exact of_rq h (by decide) (by decide)
theorem ofi_c {p : Int} (hp : -9223372036854775808 ≤ p ∧ p ≤ 9223372036854775807) : MeansH Try.prog 34 [calC 0] [.el 0 1 0 0,ii p,ii 1] (frq (p : Rat)) [calC 0] :=by
 have :=ofq_c hp (q :=1) (by decide) (by decide)
 rwa [cast1] at this
theorem muli_c {p q : Int} (hp : 0 ≤ p ∧ p ≤ 1099511627776) (hq : 0 ≤ q ∧ q ≤ 1000) : MeansH Try.prog 33 [calC 0] [.el 0 1 0 0,frq (p : Rat),frq (q : Rat)] (frq ((p * q : Int) : Rat)) [calC 0] :=by
 have :=mulq_c (rq_int (z :=p) (by omega)) (rq_int (z :=q) (by omega)) (by
  refine okMul_bt (k :=40) (m :=0) (k' :=10) (m' :=0) ?_ ?_ ?_ ?_ (by omega) (by omega)
  · rw [Rat.num_intCast]; unfold bt; have : (2 : Nat) ^ 40 = 1099511627776 :=by decide
    omega
  · rw [Rat.den_intCast]; show 1 ≤ 2 ^ 0; decide
  · rw [Rat.num_intCast]; unfold bt; have : (2 : Nat) ^ 10 = 1024 :=by decide
    omega
  · rw [Rat.den_intCast]; show 1 ≤ 2 ^ 0; decide)
 rwa [← Rat.intCast_mul] at this
set_option maxHeartbeats 8000000 in
set_option maxRecDepth 20000 in
theorem rows_m (own : List Int) (S : List (List Int)) (h : PR own S) : MeansH Try.prog 32 [calC 0] [.el 0 1 0 0,il own,ill S] (.ow 1) (calC 0 :: outC 2 own.length :: mxC (poolM own S) own.length) :=by
 have hn :=h.most
 refine meansH_fn 1 58 [.tmp 6] Try.func32 rfl rfl rfl (by simp) (by decide) rfl fun X hX => ?_
 (repeat (refine awp_stepH [0,1,2,6,7,8,9,10,11,13,14,15,18,19,20,32,1000000] hX mixed rfl ?_; (simp [go_sem]; try (refine ⟨by kernel_rfl,?_⟩))))
 refine awp_loop (fun i : Nat => ⟨mkE [(0,.el 0 1 0 0),(1,il own),(2,ill S),(7,.ow 2),(13,ii own.length),(14,ii i),(1000000,.ow 0)],calC 0 :: .dead :: outC 3 i :: matC 48 4 ((mxL (poolM own S) own.length).take i)⟩) (fun i => i ≤ own.length) (fun i => own.length - i) 0 ?_ ?_ ?_
 · refine sub_of _ [.old 0 ⟨66,1,[.agg [ii 0]]⟩,.gone 0,.birth 41 1] (by simp [go_sem]) ?_
   simp [go_sem]
 · omega
 · intro i hi
   (repeat (refine awp_stepH [0,1,2,6,7,8,9,10,11,13,14,15,18,19,20,32,1000000] hX mixed rfl ?_; (simp [go_sem]; try (refine ⟨by kernel_rfl,?_⟩))))
   refine awp_cond (b :=decide (i < own.length)) (by simp [go_sem]) (fun hb => ?_) (fun hb => ?_)
   · simp only [decide_eq_true_eq] at hb
     have hMl : ((mxL (poolM own S) own.length).take i).length = i :=by rw [List.length_take,mxL_len]; omega
     have hMz : ∀ es ∈ (mxL (poolM own S) own.length).take i,zoneEs es = true :=fun es he => by
      obtain ⟨j,hj,rfl⟩ :=List.getElem_of_mem (List.mem_of_mem_take he)
      exact mxL_zone (List.getElem?_eq_getElem hj)
     have hMs : (mxL (poolM own S) own.length).take (i + 1) = (mxL (poolM own S) own.length).take i ++ [rowL (poolM own S) own.length i] :=by
      have hl : i < (mxL (poolM own S) own.length).length :=by rw [mxL_len]; exact hb
      rw [List.take_succ_eq_append_getElem hl]
      have :=mxL_get (A :=poolM own S) hb
      rw [List.getElem?_eq_getElem hl] at this
      rw [Option.some.inj this]
     have hRs : ∀ j,j < own.length + 1 → (rowL (poolM own S) own.length i).take (j + 1) = (rowL (poolM own S) own.length i).take j ++ [frq (poolM own S i j)] :=fun j hj => by
      have hl : j < (rowL (poolM own S) own.length i).length :=by rw [rowL_len]; exact hj
      rw [List.take_succ_eq_append_getElem hl]
      have :=rowL_nth (A :=poolM own S) (n :=own.length) (k :=i) (t :=j) (by omega)
      rw [nth_lt hl] at this
      rw [this]
     have hRl : ∀ j,j ≤ own.length → ((rowL (poolM own S) own.length i).take j).length = j :=fun j hj => by rw [List.length_take,rowL_len]; omega
     have hRz : ∀ j,zoneEs ((rowL (poolM own S) own.length i).take j) = true :=fun j => zoneEs_take j _ (rowL_zone _ _ _)
     have hRe : (rowL (poolM own S) own.length i).take (own.length + 1) = rowL (poolM own S) own.length i :=List.take_of_length_le (by rw [rowL_len]; omega)
     have wi :=w64 (x :=(i : Int) + 1) (by omega) (by omega)
     obtain ⟨M,hM⟩ : ∃ M,(mxL (poolM own S) own.length).take i = M :=⟨_,rfl⟩
     rw [hM] at hMl hMz hMs ⊢
     clear hM
     (repeat (refine awp_stepH [0,1,2,6,7,8,9,10,11,13,14,15,18,19,20,32,1000000] hX mixed rfl ?_; (simp [go_sem]; try (refine ⟨by kernel_rfl,?_⟩))))
     refine awp_loop (fun j : Nat => ⟨mkE [(0,.el 0 1 0 0),(1,il own),(2,ill S),(7,.ow 2),(8,ii i),(9,.ow 1),(13,ii own.length),(14,ii i),(18,ii own.length),(19,ii j),(1000000,.ow 0)],calC 0 :: .row ⟨48,4,(rowL (poolM own S) own.length i).take j⟩ :: outC 3 i :: matC 48 4 M⟩) (fun j => j ≤ own.length) (fun j => own.length - j) 0 ?_ ?_ ?_
     · have :=sub_m3 (X :=X) (env :=mkE [(0,.el 0 1 0 0),(1,il own),(2,ill S),(7,.ow 2),(8,ii i),(9,.nil),(13,ii own.length),(14,ii i),(18,ii own.length),(19,ii (0 : Nat)),(1000000,.ow 0)]) [(0,.el 0 1 0 0),(1,il own),(2,ill S),(7,.ow 2),(8,ii i),(9,.ow 1),(13,ii own.length),(14,ii i),(18,ii own.length),(19,ii (0 : Nat)),(1000000,.ow 0)] (.old 0 ⟨66,1,[.agg [ii 0]]⟩) (.birth 48 4) (calC 0) .dead (E1 :=41) (E2 :=48) (k2 :=4) M [] i hMl hMz (by simp [go_sem]) (by simp [Src.rid,List.filterMap_cons]) (by simp [Src.rid,List.filterMap_cons]) (by simp [go_sem])
       rw [List.append_nil] at this
       exact sub_trans this (sub_same _ _ rfl (by simp [go_sem]))
     · omega
     · intro j hj
       (repeat (refine awp_stepH [0,1,2,6,7,8,9,10,11,13,14,15,18,19,20,32,1000000] hX mixed rfl ?_; (simp [go_sem]; try (refine ⟨by kernel_rfl,?_⟩))))
       refine awp_cond (b :=decide (j < own.length)) (by simp [go_sem]) (fun hc => ?_) (fun hc => ?_)
       · simp only [decide_eq_true_eq] at hc
         have hjS : j < S.length :=by rw [h.len]; exact hc
         have hlr :=h.row S[j] (List.getElem_mem hjS)
         have hij2 : i < S[j].length :=by omega
         have q1 :=nthE_L (L :=S) hjS
         have q2 :=nth_ii hij2
         have hso : sO S j i = S[j][i] :=by
          unfold sO
          rw [List.getD_eq_getElem?_getD (l :=S),List.getElem?_eq_getElem hjS]
          exact getD_at hij2
         have hsb :=h.s j i hc hb
         rw [hso] at hsb
         have hA :=pool_in (S :=S) (k :=i) hc
         rw [hso] at hA
         have wj :=w64 (x :=(j : Int) + 1) (by omega) (by omega)
         have wv :=w64 (x :=-S[j][i]) (by omega) (by omega)
         have wv0 : (0 : Int) - S[j][i] = -S[j][i] :=by omega
         have hRj :=hRs j (by omega)
         have hlj :=hRl j (by omega)
         have hRjz :=hRz j
         generalize (rowL (poolM own S) own.length i).take j = R at *
         generalize hsv : S[j][i] = sv at *
         (repeat (refine awp_stepH [0,1,2,6,7,8,9,10,11,13,14,15,18,19,20,32,1000000] hX mixed rfl ?_; (simp [go_sem,q1,q2,hjS,hij2,wv,wv0]; try (refine ⟨by kernel_rfl,?_⟩))))
         by_cases hij : i = j
         · have hAj : poolM own S i j = ((1000 : Int) : Rat) :=by rw [hA,if_pos hij]; rfl
           refine awp_cond (b :=true) (by simp [go_sem]; try omega) (fun h => ?_) (fun h => by cases h)
           (repeat (refine awp_stepH [0,1,2,6,7,8,9,10,11,13,14,15,18,19,20,32,1000000] hX mixed rfl ?_; (simp [go_sem]; try (refine ⟨by kernel_rfl,?_⟩))))
           have c1 :=ofi_c (p :=1000) (by omega)
           first | refine callH_intro [0] (c1) (by simp [go_sem]) ?_ | refine callTQ_intro [0] (c1) (by simp [go_sem]) ?_ | refine callTE_intro [0] (c1) (by simp [go_sem]) ?_
           try (simp [go_sem,hlj]; try (refine ⟨by kernel_rfl,?_⟩))
           (repeat refine And.intro (by first | omega | (unfold maxLen; omega) | (refine ⟨by omega,by omega⟩)) ?_)
           try (repeat (refine awp_stepH [0,1,2,6,7,8,9,10,11,13,14,15,18,19,20,32,1000000] hX mixed rfl ?_; (simp [go_sem,wj]; try (refine ⟨by kernel_rfl,?_⟩))))
           refine ⟨j + 1,by omega,by omega,?_⟩
           rw [hRj,hAj]
           have hfb : ∀ x y : Cell,(matC 48 4 M ++ [x,y])[i + 1]? = some y :=fun x y => by
            rw [List.getElem?_append_right (by rw [matC_len]; omega),matC_len,hMl,Nat.add_sub_cancel_left]; rfl
           have hMC : (matC 48 4 M).length = i :=by rw [matC_len,hMl]
           refine sub_trans ?_ (sub_same [(0,.el 0 1 0 0),(1,il own),(2,ill S),(7,.ow 2),(8,ii i),(9,.ow (i + 4)),(13,ii own.length),(14,ii i),(18,ii own.length),(19,ii ((j + 1 : Nat) : Int)),(1000000,.ow 0)] _ rfl (by simp [go_sem,hMC]))
           exact sub_m3 _ (.old 0 ⟨66,1,[.agg [ii 0]]⟩) (.old (i + 4) ⟨48,4,R ++ [frq ((1000 : Int) : Rat)]⟩) (calC 0) .dead (E1 :=41) (E2 :=48) (k2 :=4) M _ i hMl hMz (by simp [go_sem,hfb,hRjz]) (by simp [Src.rid,List.filterMap_cons]) (by simp [Src.rid,List.filterMap_cons]) (by simp [go_sem])
         · have hAj : poolM own S i j = ((-sv : Int) : Rat) :=by rw [hA,if_neg hij]
           refine awp_cond (b :=false) (by simp [go_sem]; try omega) (fun h => by cases h) (fun h => ?_)
           (repeat (refine awp_stepH [0,1,2,6,7,8,9,10,11,13,14,15,18,19,20,32,1000000] hX mixed rfl ?_; (simp [go_sem]; try (refine ⟨by kernel_rfl,?_⟩))))
           have c1 :=ofi_c (p :=-sv) (by omega)
           first | refine callH_intro [0] (c1) (by simp [go_sem]) ?_ | refine callTQ_intro [0] (c1) (by simp [go_sem]) ?_ | refine callTE_intro [0] (c1) (by simp [go_sem]) ?_
           try (simp [go_sem,hlj]; try (refine ⟨by kernel_rfl,?_⟩))
           (repeat refine And.intro (by first | omega | (unfold maxLen; omega) | (refine ⟨by omega,by omega⟩)) ?_)
           try (repeat (refine awp_stepH [0,1,2,6,7,8,9,10,11,13,14,15,18,19,20,32,1000000] hX mixed rfl ?_; (simp [go_sem,wj]; try (refine ⟨by kernel_rfl,?_⟩))))
           refine ⟨j + 1,by omega,by omega,?_⟩
           rw [hRj,hAj]
           have hfb : ∀ x y : Cell,(matC 48 4 M ++ [x,y])[i + 1]? = some y :=fun x y => by
            rw [List.getElem?_append_right (by rw [matC_len]; omega),matC_len,hMl,Nat.add_sub_cancel_left]; rfl
           have hMC : (matC 48 4 M).length = i :=by rw [matC_len,hMl]
           refine sub_trans ?_ (sub_same [(0,.el 0 1 0 0),(1,il own),(2,ill S),(7,.ow 2),(8,ii i),(9,.ow (i + 4)),(13,ii own.length),(14,ii i),(18,ii own.length),(19,ii ((j + 1 : Nat) : Int)),(1000000,.ow 0)] _ rfl (by simp [go_sem,hMC]))
           exact sub_m3 _ (.old 0 ⟨66,1,[.agg [ii 0]]⟩) (.old (i + 4) ⟨48,4,R ++ [frq ((-sv : Int) : Rat)]⟩) (calC 0) .dead (E1 :=41) (E2 :=48) (k2 :=4) M _ i hMl hMz (by simp [go_sem,hfb,hRjz]) (by simp [Src.rid,List.filterMap_cons]) (by simp [Src.rid,List.filterMap_cons]) (by simp [go_sem])
       · simp only [decide_eq_false_iff_not] at hc
         have hj2 : j = own.length :=by omega
         subst hj2
         have q1 :=nth_ii hb
         have hw :=h.w i hb
         rw [show wO own i = own[i] from getD_at hb] at hw
         have hA :=pool_rhs (own :=own) (S :=S) i
         rw [show wO own i = own[i] from getD_at hb] at hA
         have hRj :=hRs own.length (by omega)
         have hlj :=hRl own.length (by omega)
         rw [hRe,hA] at hRj
         have hRjz :=hRz own.length
         generalize (rowL (poolM own S) own.length i).take own.length = R at *
         generalize hov : own[i] = ov at *
         have c1 :=ofi_c (p :=ov) (by omega)
         have c2 :=ofi_c (p :=1000) (by omega)
         have c3 :=muli_c (p :=ov) (q :=1000) (by omega) (by omega)
         have hMC : (matC 48 4 M).length = i :=by rw [matC_len,hMl]
         (repeat (refine awp_stepH [0,1,2,6,7,8,9,10,11,13,14,15,18,19,20,32,1000000] hX mixed rfl ?_; (simp [go_sem,q1,hb]; try (refine ⟨by kernel_rfl,?_⟩))))
         first | refine callH_intro [0] (c1) (by simp [go_sem]) ?_ | refine callTQ_intro [0] (c1) (by simp [go_sem]) ?_ | refine callTE_intro [0] (c1) (by simp [go_sem]) ?_
         try (simp [go_sem,hlj]; try (refine ⟨by kernel_rfl,?_⟩))
         first | refine callH_intro [0] (c2) (by simp [go_sem]) ?_ | refine callTQ_intro [0] (c2) (by simp [go_sem]) ?_ | refine callTE_intro [0] (c2) (by simp [go_sem]) ?_
         try (simp [go_sem,hlj]; try (refine ⟨by kernel_rfl,?_⟩))
         first | refine callH_intro [0] (c3) (by simp [go_sem]) ?_ | refine callTQ_intro [0] (c3) (by simp [go_sem]) ?_ | refine callTE_intro [0] (c3) (by simp [go_sem]) ?_
         try (simp [go_sem,hlj]; try (refine ⟨by kernel_rfl,?_⟩))
         (repeat refine And.intro (by first | omega | (unfold maxLen; omega) | (refine ⟨by omega,by omega⟩)) ?_)
         refine And.intro (by rw [outN_len]; exact ⟨by omega,by unfold maxLen; omega⟩) ?_
         try (repeat (refine awp_stepH [0,1,2,6,7,8,9,10,11,13,14,15,18,19,20,32,1000000] hX mixed rfl ?_; (simp [go_sem,wi]; try (refine ⟨by kernel_rfl,?_⟩))))
         refine ⟨i + 1,by omega,by omega,?_⟩
         have hcast : ((ov * 1000 : Int) : Rat) = (ov : Rat) * 1000 :=by rw [Rat.intCast_mul]; rfl
         rw [hMs,hRj,hcast]
         refine sub_trans ?_ (sub_same [(0,.el 0 1 0 0),(1,il own),(2,ill S),(7,.ow (i + 6)),(13,ii own.length),(14,ii ((i + 1 : Nat) : Int)),(1000000,.ow 0)] _ rfl (by simp [go_sem,hMC]))
         rw [hMC]
         exact sub_m3s _ (.old 0 ⟨66,1,[.agg [ii 0]]⟩) (.gone 0) (calC 0) .dead .dead (E1 :=41) (E2 :=48) (k2 :=4) M _ _ _ i hMl hMz (by simp [go_sem,hRjz]) (by simp [go_sem]) (by simp [Src.rid,List.filterMap_cons]) (by simp [Src.rid,List.filterMap_cons]) (by simp [go_sem])
   · simp only [decide_eq_false_iff_not] at hb
     have hi2 : i = own.length :=by omega
     subst hi2
     (repeat (refine awp_stepH [0,1,2,6,7,8,9,10,11,13,14,15,18,19,20,32,1000000] hX mixed rfl ?_; (simp [go_sem]; try (refine ⟨by kernel_rfl,?_⟩))))
     rw [show (mxL (poolM own S) own.length).take own.length = mxL (poolM own S) own.length from List.take_of_length_le (by rw [mxL_len]; exact Nat.le_refl _)]
     refine awp_ret ?_
     refine retH_ret [(6,.ow 1),(1000000,.ow 0)] ([.old 0 ⟨66,1,[.agg [ii 0]]⟩] ++ .old 2 ⟨41,1,outN ([Src.old 0 ⟨66,1,[.agg [ii 0]]⟩].length + 1) (mxL (poolM own S) own.length).length⟩ :: matS (fun k => k + 3) 48 4 0 (mxL (poolM own S) own.length)) ⟨okS_mat _ 2 (fun k => k + 3) _ (by simp [outN,mxL_len]) (fun j es h => ⟨matC_get h,mxL_zone h⟩) (by simp [go_sem]) (nodup_shift (by simp [Src.rid,List.filterMap_cons]) (by simp [Src.rid,List.filterMap_cons]) (by simp [Src.rid,List.filterMap_cons]) (by simp)),by simp [go_sem],by simp [matS_cell,mxL_len,Src.cell],by simp,by simp [go_sem],.inl ?_⟩
     simp [go_sem,matS_cell]
end Go.Proofs.Ytndiamkmcoghdaa

namespace Go.Proofs.Ytndiamkmcoghdaa
open Go.RowKit Go.Ab
attribute [local irreducible] AWP Go.Ab.Sub Means MeansH MeansX CallK CallG CallT CallGT CallU
theorem okRow_mx (A : Mx) (n m : Nat) (h : n + 2 ≤ m) : okRowIds m (calC 0 :: outC 2 n :: mxC A n) :=by
 refine ⟨.inl rfl,.inr fun e he => ?_,?_⟩
 · simp only [outN,List.mem_flatMap,List.mem_map] at he
   obtain ⟨x,⟨k,hk,rfl⟩,he⟩ :=he
   have : k < n :=by simpa using hk
   simp only [AV.flat,List.mem_singleton] at he
   subst he
   show k + 2 < m
   omega
 · have : ∀ M : List (List AV),(∀ es ∈ M,zoneEs es = true) → okRowIds m (matC 48 4 M) :=by
    intro M
    induction M with
    | nil => intro _; trivial
    | cons es M ih => exact fun hz => ⟨.inl (hz es (by simp)),ih fun e he => hz e (List.mem_cons_of_mem _ he)⟩
   exact this _ fun es he => by
    obtain ⟨j,hj,rfl⟩ :=List.getElem_of_mem he
    exact mxL_zone (List.getElem?_eq_getElem hj)
def keptX (own : List Int) (S : List (List Int)) (k : Nat) : Rat :=allX own S k * (((1000 - sumI (S.getD k []) : Int) : Rat) / ((1000 : Int) : Rat))
abbrev allL (own : List Int) (S : List (List Int)) : List AV :=(List.range own.length).map fun k => frq (allX own S k)
abbrev keptL (own : List Int) (S : List (List Int)) : List AV :=(List.range own.length).map fun k => frq (keptX own S k)
theorem allL_zone (own : List Int) (S : List (List Int)) : zoneEs (allL own S) = true :=by
 unfold zoneEs
 rw [List.all_eq_true]
 intro e he
 obtain ⟨k,_,rfl⟩ :=List.mem_map.1 he
 rfl
set_option maxHeartbeats 8000000 in
set_option maxRecDepth 20000 in
theorem Solve_m (own : List Int) (S : List (List Int)) (hv : PV own S) (hF : Fit (poolM own S) own.length) (hk : ∀ k,k < own.length → okMul (allX own S k) (((1000 - sumI (S.getD k []) : Int) : Rat) / ((1000 : Int) : Rat))) :
  Means false Try.prog 16 [il own,ill S] (.tup [.sl (allL own S),.sl (keptL own S),ii 0]) :=by
 have hn :=hv.most
 have hSl :=hv.len
 have hbad : badP own S = 0 :=by unfold badP; rw [if_pos hv.toPR,if_pos hv]
 have c1 :=solvable_m own S (by omega) (by omega) fun l hl => by have :=(PR_row hv.toPR hl).1; omega
 rw [hbad] at c1
 have c2 :=rows_m own S hv.toPR
 have c3 :=elim_m (poolM own S) own.length (by omega) hF
 have hMC : (mxC (poolM own S) own.length).length = own.length :=by rw [matC_len,mxL_len]
 refine means_fn false 60 [.tmp 4,.tmp 5,.tmp 6] Try.func16 rfl rfl rfl (by simp) (by decide) rfl fun X hX => ?_
 (repeat (refine awp_stepG [0,1,4,5,6,7,8,9,10,11,12,17,27,28,29,30,53] hX mixed rfl ?_; (simp [go_sem]; try (refine ⟨by kernel_rfl,?_⟩))))
 first | refine callKa (c1) ?_ | refine callTa (c1) ?_
 try (simp [go_sem]; try (refine ⟨by kernel_rfl,?_⟩))
 (repeat (refine awp_stepG [0,1,4,5,6,7,8,9,10,11,12,17,27,28,29,30,53] hX mixed rfl ?_; (simp [go_sem]; try (refine ⟨by kernel_rfl,?_⟩))))
 refine awp_cond (b :=false) (by simp [go_sem]) (fun h => by cases h) (fun _ => ?_)
 (repeat (refine awp_stepG [0,1,4,5,6,7,8,9,10,11,12,17,27,28,29,30,53] hX mixed rfl ?_; (simp [go_sem]; try (refine ⟨by kernel_rfl,?_⟩))))
 refine callH_all c2 rfl ?_ ?_ ?_ ?_
 · simp [go_sem]
 · simp [go_sem]
 · simp
 try (simp [go_sem]; try (refine ⟨by kernel_rfl,?_⟩))
 refine callX_all (c0 :=calC 0) (R :=outC 2 own.length :: mxC (poolM own S) own.length) c3 rfl (okRow_mx _ _ _ (by rw [List.length_cons,hMC]; omega)) ?_ ?_ (allL_zone own S) fun D hD => ?_
 · simp [go_sem]
 · simp [go_sem]
 try (simp [go_sem]; try (refine ⟨by kernel_rfl,?_⟩))
 refine And.intro (by rw [hD]; simp) ?_
 have hD2 : D.length = own.length + 1 :=by rw [hD,List.length_cons,hMC]
 have hgx : ∀ x : Cell,(D ++ [x])[own.length + 1]? = some x :=fun x => by
  rw [List.getElem?_append_right (by omega),hD2,Nat.sub_self]; rfl
 have hXe : (List.range own.length).map (fun k => frq (solx (poolM own S) own.length k)) = allL own S :=rfl
 rw [hMC,hXe]
 have hz :=allL_zone own S
 refine awp_sub (sub_of [(0,il own),(1,ill S),(8,.el 0 1 0 0),(9,.ow 1)] [.old 0 ⟨66,1,[.agg [ii 0]]⟩,.old (own.length + 2) ⟨48,4,allL own S⟩] (by simp [go_sem,hgx,hz]) (by simp [go_sem])) ?_
 simp only [List.map_cons,List.map_nil,Src.cell]
 clear hgx hD hD2 D c2 c3 hMC hbad c1 hXe
 have hal : (allL own S).length = own.length :=by simp
 have hag : ∀ k,k < own.length → nth (allL own S) k = frq (allX own S k) :=fun k hk => nth_some (by simp [hk])
 have hrx : ∀ k,k < own.length → rq (allX own S k) :=fun k hk => by
  have :=div_rq (hF.dpos k hk) (hF.fin k hk)
  exact this
 obtain ⟨AL,hAL⟩ : ∃ AL,allL own S = AL :=⟨_,rfl⟩
 rw [hAL] at hal hag hz ⊢
 (repeat (refine awp_stepG [0,1,4,5,6,7,8,9,10,11,12,17,27,28,29,30,53] hX mixed rfl ?_; (simp [go_sem]; try (refine ⟨by kernel_rfl,?_⟩))))
 refine awp_loop (fun i : Nat => ⟨mkE [(0,il own),(1,ill S),(8,.el 0 1 0 0),(9,.ow 1),(10,.ow 2),(27,ill S),(28,ii own.length),(29,ii i)],[calC 0,.row ⟨48,4,AL⟩,.row ⟨48,4,(List.range i).map fun k => frq (keptX own S k)⟩]⟩) (fun i => i ≤ own.length) (fun i => own.length - i) 0 ?_ ?_ ?_
 · refine sub_of _ [.old 0 ⟨66,1,[.agg [ii 0]]⟩,.old 1 ⟨48,4,AL⟩,.birth 48 4] (by simp [go_sem,hz]) ?_
   simp [go_sem,hSl]
 · omega
 · intro i hi
   (repeat (refine awp_stepG [0,1,4,5,6,7,8,9,10,11,12,17,27,28,29,30,53] hX mixed rfl ?_; (simp [go_sem]; try (refine ⟨by kernel_rfl,?_⟩))))
   refine awp_cond (b :=decide (i < own.length)) (by simp [go_sem]) (fun hb => ?_) (fun hb => ?_)
   · simp only [decide_eq_true_eq] at hb
     have hbS : i < S.length :=by omega
     have q1 :=nthE_L (L :=S) hbS
     have q2 :=hag i hb
     have hpr :=PR_row hv.toPR (List.getElem_mem hbS)
     have hgv :=given_m S[i] (by omega) hpr.2
     have hsb :=csum_bd S[i] S[i].length hpr.2
     rw [List.take_length] at hsb
     have hlt :=hv.lt S[i] (List.getElem_mem hbS)
     have hgd : S.getD i [] = S[i] :=by rw [List.getD_eq_getElem?_getD,List.getElem?_eq_getElem hbS]; rfl
     have hmk :=hk i hb
     have hkx : keptX own S i = allX own S i * (((1000 - sumI S[i] : Int) : Rat) / ((1000 : Int) : Rat)) :=by unfold keptX; rw [hgd]
     rw [hgd] at hmk
     have c1 :=ofq_c (p :=1000 - sumI S[i]) (q :=1000) (by omega) (by decide) (by decide)
     have c2 :=mulq_c (hrx i hb) (of_rq (p :=1000 - sumI S[i]) (q :=1000) (by omega) (by decide) (by decide)) hmk
     rw [← hkx] at c2
     have hsn : (List.range (i + 1)).map (fun k => frq (keptX own S k)) = (List.range i).map (fun k => frq (keptX own S k)) ++ [frq (keptX own S i)] :=by rw [List.range_succ,List.map_append]; rfl
     have wi :=w64 (x :=(i : Int) + 1) (by omega) (by omega)
     have ws :=w64 (x :=1000 - sumI S[i]) (by omega) (by omega)
     have hail : i < AL.length :=by omega
     (repeat (refine awp_stepG [0,1,4,5,6,7,8,9,10,11,12,17,27,28,29,30,53] hX mixed rfl ?_; (simp [go_sem,q1,q2,hbS,hail]; try (refine ⟨by kernel_rfl,?_⟩))))
     first | refine callKa (hgv) ?_ | refine callTa (hgv) ?_
     try (simp [go_sem,q1,q2,hbS,hail,ws]; try (refine ⟨by kernel_rfl,?_⟩))
     try (repeat refine And.intro (by first | omega | (unfold maxLen; omega) | kernel_rfl | (refine ⟨by first | omega | (unfold maxLen; omega),by first | omega | (unfold maxLen; omega)⟩) | grind) ?_)
     first | refine callH_intro [0] (c1) (by simp [go_sem]) ?_ | refine callTQ_intro [0] (c1) (by simp [go_sem]) ?_ | refine callTE_intro [0] (c1) (by simp [go_sem]) ?_
     try (simp [go_sem,q1,q2,hbS,hail]; try (refine ⟨by kernel_rfl,?_⟩))
     try (repeat refine And.intro (by first | omega | (unfold maxLen; omega) | kernel_rfl | (refine ⟨by first | omega | (unfold maxLen; omega),by first | omega | (unfold maxLen; omega)⟩) | grind) ?_)
     first | refine callH_intro [0] (c2) (by simp [go_sem]) ?_ | refine callTQ_intro [0] (c2) (by simp [go_sem]) ?_ | refine callTE_intro [0] (c2) (by simp [go_sem]) ?_
     try (simp [go_sem,q1,q2,hbS,hail]; try (refine ⟨by kernel_rfl,?_⟩))
     (repeat refine And.intro (by first | omega | (unfold maxLen; omega) | kernel_rfl | (refine ⟨by first | omega | (unfold maxLen; omega),by first | omega | (unfold maxLen; omega)⟩) | grind) ?_)
     try (repeat (refine awp_stepG [0,1,4,5,6,7,8,9,10,11,12,17,27,28,29,30,53] hX mixed rfl ?_; (simp [go_sem,wi]; try (refine ⟨by kernel_rfl,?_⟩))))
     refine ⟨i + 1,by omega,by omega,?_⟩
     rw [hsn]
     refine sub_of _ [.old 0 ⟨66,1,[.agg [ii 0]]⟩,.old 1 ⟨48,4,AL⟩,.old 4 ⟨48,4,(List.range i).map (fun k => frq (keptX own S k)) ++ [frq (keptX own S i)]⟩] (by simp [go_sem,hz]) ?_
     simp [go_sem]
   · simp only [decide_eq_false_iff_not] at hb
     have hin : i = own.length :=by omega
     subst hin
     (repeat (refine awp_stepG [0,1,4,5,6,7,8,9,10,11,12,17,27,28,29,30,53] hX mixed rfl ?_; (simp [go_sem]; try (refine ⟨by kernel_rfl,?_⟩))))
     refine awp_cond (b :=false) (by simp [go_sem]) (fun h => by cases h) (fun _ => ?_)
     have hzk : zoneEs ((List.range own.length).map fun k => frq (keptX own S k)) = true :=by
      unfold zoneEs
      rw [List.all_eq_true]
      intro e he
      obtain ⟨k,_,rfl⟩ :=List.mem_map.1 he
      rfl
     (repeat (refine awp_stepG [0,1,4,5,6,7,8,9,10,11,12,17,27,28,29,30,53] hX mixed rfl ?_; (simp [go_sem,hz,hzk]; try (refine ⟨by kernel_rfl,?_⟩))))
     trace_state
end Go.Proofs.Ytndiamkmcoghdaa

namespace Go.Proofs.Ytndiamkmcoghdaa
open Go.RowKit Go.Ab
attribute [local irreducible] AWP Go.Ab.Sub Means MeansH MeansX CallK CallG CallT CallGT CallU
def cmpR (a b : Rat) : Int :=cmpI (a.num * b.den) (b.num * a.den)
theorem Compare_q {a b : Rat} (ha : rq a) (hb : rq b) : Means false Try.prog 20 [frq a,frq b] (ii (cmpR a b)) :=Compare_f a.num a.den b.num b.den (rf_q ha) (rf_q hb)
theorem cmpR_lt (a b : Rat) : cmpR a b < 0 ↔ a < b :=by
 rw [Rat.lt_iff]
 unfold cmpR cmpI
 split
 · simp; assumption
 · split <;> simp <;> omega
theorem cmpR_gt (a b : Rat) : 0 < cmpR a b ↔ b < a :=by
 rw [Rat.lt_iff]
 unfold cmpR cmpI
 split
 · simp; omega
 · split <;> simp <;> omega
theorem cmpR_eq (a b : Rat) : cmpR a b = 0 ↔ a = b :=by
 have h1 :=cmpR_lt a b
 have h2 :=cmpR_gt a b
 constructor
 · intro h
   have h3 : ¬ a < b :=fun e => by have :=h1.2 e; omega
   have h4 : ¬ b < a :=fun e => by have :=h2.2 e; omega
   grind
 · rintro rfl
   have h3 : ¬ a < a :=by grind
   have h5 : ¬ cmpR a a < 0 :=fun e => h3 (h1.1 e)
   have h6 : ¬ 0 < cmpR a a :=fun e => h3 (h2.1 e)
   omega
theorem low_bt {p q : Int} {r : Rat} {k m : Nat} (hq : q ≠ 0) (h : r * (q : Rat) = p) (hp : bt k p) (hm : bt m q) : bt k r.num ∧ bt m r.den :=by
 obtain ⟨h1,h2⟩ :=np_rat hq h
 obtain ⟨_,_,_,h4,h5,_⟩ :=low_spec (p :=p) hq
 rw [h1] at h4
 rw [h2] at h5
 rw [ab_natQ,ab_natQ] at h4
 rw [ab_natQ] at h5
 unfold bt at *
 refine ⟨by omega,?_⟩
 simp only [Int.natAbs_natCast]
 omega
theorem mul_bt {a b : Rat} {k m k' m' : Nat} (h1 : bt k a.num) (h2 : bt m a.den) (h3 : bt k' b.num) (h4 : bt m' b.den) : bt (k + k') (a * b).num ∧ bt (m + m') (a * b).den :=
 low_bt (dd_ne a b) (mul_rat a b) (bt_mul h1 h3) (bt_mul h2 h4)
theorem add_bt {a b : Rat} {k m k' m' c : Nat} (h1 : bt k a.num) (h2 : bt m a.den) (h3 : bt k' b.num) (h4 : bt m' b.den) (hc1 : k + m' ≤ c) (hc2 : k' + m ≤ c) : bt (c + 1) (a + b).num ∧ bt (m + m') (a + b).den :=
 low_bt (dd_ne a b) (add_rat a b) (bt_add (bt_mono (bt_mul h1 h4) hc1) (bt_mono (bt_mul h3 h2) hc2)) (bt_mul h2 h4)
theorem of_bt {p q : Int} {k m : Nat} (hq : q ≠ 0) (hp : bt k p) (hm : bt m q) : bt k ((p : Rat) / (q : Rat)).num ∧ bt m ((p : Rat) / (q : Rat)).den :=low_bt hq (ofq hq) hp hm
theorem bt_1000 {z : Int} (h : 0 ≤ z ∧ z ≤ 1000) : bt 10 z :=by
 unfold bt
 have : (2 : Nat) ^ 10 = 1024 :=by decide
 omega
def psum (own : List Int) (S : List (List Int)) (xs : List Rat) (i j : Nat) : Rat :=((wO own i : Int) : Rat) + sumR (fun t => xs.getD t 0 * (((sO S t i : Int) : Rat) / ((1000 : Int) : Rat))) j
variable {own : List Int} {S : List (List Int)} {xs : List Rat}
def chkQ (own : List Int) (S : List (List Int)) (xs ys : List Rat) : Prop :=∀ i,i < own.length → psum own S xs i own.length = xs.getD i 0 ∧ xs.getD i 0 * (((1000 - sumI (S.getD i []) : Int) : Rat) / ((1000 : Int) : Rat)) = ys.getD i 0
noncomputable instance (own : List Int) (S : List (List Int)) (xs ys : List Rat) : Decidable (chkQ own S xs ys) :=Classical.propDecidable _
end Go.Proofs.Ytndiamkmcoghdaa

namespace Go.Proofs.Ytndiamkmcoghdaa
open Go.RowKit Go.Ab
attribute [local irreducible] AWP Go.Ab.Sub Means MeansH MeansX CallK CallG CallT CallGT CallU
def frR (r : Rat) : Fr :=⟨sg r.num,dg (ab r.num),sg r.den,dg (ab (r.den : Int))⟩
abbrev fql (xs : List Rat) : AV :=.sl (xs.map frq)
theorem nth_fq {xs : List Rat} {k : Nat} (h : k < xs.length) : nth (xs.map frq) k = frq (xs.getD k 0) :=by
 rw [List.getD_eq_getElem?_getD,List.getElem?_eq_getElem h]
 exact nth_map _ h
end Go.Proofs.Ytndiamkmcoghdaa

