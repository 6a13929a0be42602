/-
  Lemmas for the statement at the top.
-/
import Derived.Test.YtknbcehhjffndaaGreatYeP10
import Derived.Test.YtknbcehhjffndaaGreatYeFw4
import Derived.Test.YtknbcehhjffndaaGreatYeP8
set_option linter.all false
namespace Go.Ab
def q7x0 : List Nat :=[0,1,2,6,7,8,9,10,11,13,14,15,18,19,20,32,1000000]
def q7x1 : List Nat :=[0,1,4,5,6,7,8,9,10,11,12,17,27,28,29,30,53]
def q7x2 : List Nat :=[0,1,2,3,8,9,14,34,1000000,1000001]
def q7x3 : List Nat :=[0,1,4,5,6,7,8,9,19,29]
def q7x4 : List Nat :=[0,1,4,5,6,7,8,12,26]
def q7x5 : List Nat :=[0,1,4,5,6,7,8,22]
def q7x6 : List Nat :=[0,1,4,5,13,22]
def q7x7 : List Nat :=[0,2,3,15]
attribute [go_sem] q7x0 q7x1 q7x2 q7x3 q7x4 q7x5 q7x6 q7x7
end Go.Ab
namespace Go.Proofs.YtknbcehhjffndaaGreat
open Go.RowKit Go.Ab
attribute [local irreducible] AWP Go.Ab.Sub Means MeansH MeansX CallK CallG CallT CallGT CallU
noncomputable def badP (own : List Int) (S : List (List Int)) : Int :=if PR own S then (if PV own S then 0 else 23) else 1
theorem iU {own : List Int} {S : List (List Int)} (h : PR own S) {l : List Int} (hl : l ∈ S) : l.length ≤ 12 ∧ ∀ x ∈ l,0 ≤ x ∧ x ≤ 1000 :=by
 obtain ⟨k,hk,rfl⟩ :=List.getElem_of_mem hl
 have hk2 : k < own.length :=by rw [← h.len]; exact hk
 have hr :=((jD own S).1 h).2 k hk2
 have hg : S.getD k [] = S[k] :=by rw [List.getD_eq_getElem?_getD,List.getElem?_eq_getElem hk]; rfl
 rw [← hg]
 exact ⟨by rw [hr.2.1]; exact h.most,hr.2.2.1⟩
theorem FU {own : List Int} {S : List (List Int)} (h : PR own S) : S.any (fun l => decide (1000 ≤ sumI l)) = false ↔ PV own S :=by
 rw [List.any_eq_false]
 constructor
 · intro hs
   exact ⟨h,fun l hl => by have :=hs l hl; simp at this; omega⟩
 · intro hv l hl
   have :=hv.lt l hl
   simp; omega
theorem II (l : List Int) (hl : l.length ≤ 1000) (h : ∀ x ∈ l,0 ≤ x ∧ x ≤ 1000) : Means false Tryz.prog 62 [il l] (bb (decide (1000 ≤ sumI l))) :=by
 refine aB false 6 [.tmp 2] Tryz.func62 rfl rfl rfl (by simp) (by decide) rfl fun X hX => ?_
 (repeat (refine a6 [0,2] hX a7 rfl ?_; (simp [go_sem])))
 refine a9 (B7 l hl h) ?_
 try (simp [go_sem])
 (repeat (refine a6 [0,2] hX a7 rfl ?_; (simp [go_sem])))
theorem z8 (own : List Int) (S : List (List Int)) (hl : own.length ≤ 9223372036854775807) (hS : S.length ≤ 9223372036854775807) (hr : ∀ l ∈ S,l.length ≤ 9223372036854775807) : Means false Tryz.prog 28 [il own,ill S] (ii (badP own S)) :=by
 refine aB false 11 [.tmp 4] Tryz.func28 rfl rfl rfl (by simp) (by decide) rfl fun X hX => ?_
 (repeat (refine a6 [0,1,4,8,10] hX a7 rfl ?_; (simp [go_sem])))
 refine a9 (IJ own S hl hS hr) ?_
 try (simp [go_sem])
 by_cases h : PR own S
 · refine a8 (b :=false) (by simp [go_sem,h]) (fun h => by cases h) (fun _ => ?_)
   (repeat (refine a6 [0,1,4,8,10] hX a7 rfl ?_; (simp [go_sem])))
   refine a9 (IK 62 (fun l => decide (1000 ≤ sumI l)) S hS (fun l hl => II l (by have :=(iU h hl).1; omega) (iU h hl).2) (by kernel_rfl)) ?_
   try (simp [go_sem])
   by_cases hv : PV own S
   · have e : badP own S = 0 :=by unfold badP; rw [if_pos h,if_pos hv]
     rw [e]
     have ha :=(FU h).2 hv
     refine a8 (b :=false) (by simp [go_sem,ha]) (fun h => by cases h) (fun _ => ?_)
     (repeat (refine a6 [0,1,4,8,10] hX a7 rfl ?_; (simp [go_sem])))
   · have e : badP own S = 23 :=by unfold badP; rw [if_pos h,if_neg hv]
     rw [e]
     have ha : S.any (fun l => decide (1000 ≤ sumI l)) = true :=by
      cases hq : S.any (fun l => decide (1000 ≤ sumI l)) with
      | true => rfl
      | false => exact absurd ((FU h).1 hq) hv
     refine a8 (b :=true) (by simp [go_sem,ha]) (fun _ => ?_) (fun h => by cases h)
     (repeat (refine a6 [0,1,4,8,10] hX a7 rfl ?_; (simp [go_sem])))
 · have e : badP own S = 1 :=by unfold badP; rw [if_neg h]
   rw [e]
   refine a8 (b :=true) (by simp [go_sem,h]) (fun _ => ?_) (fun h => by cases h)
   (repeat (refine a6 [0,1,4,8,10] hX a7 rfl ?_; (simp [go_sem])))
theorem n9 (z : Int) : ((z : Rat) / ((1 : Int) : Rat)) = (z : Rat) :=by
 have : ((1 : Int) : Rat) = 1 :=rfl
 rw [this]; grind
theorem kM {z : Int} (h : -9223372036854775808 ≤ z ∧ z ≤ 9223372036854775807) : rq (z : Rat) :=by
 rw [← n9]; exact rL h (by decide) (by decide)
theorem B8 {p : Int} (hp : -9223372036854775808 ≤ p ∧ p ≤ 9223372036854775807) : MeansH Tryz.prog 32 [calC 0] [.el 0 1 0 0,ii p,ii 1] (frq (p : Rat)) [calC 0] :=by
 have :=K3 hp (q :=1) (by decide) (by decide)
 rwa [n9] at this
theorem LF {p q : Int} (hp : 0 ≤ p ∧ p ≤ 1099511627776) (hq : 0 ≤ q ∧ q ≤ 1000) : MeansH Tryz.prog 31 [calC 0] [.el 0 1 0 0,frq (p : Rat),frq (q : Rat)] (frq ((p * q : Int) : Rat)) [calC 0] :=by
 have :=z9 (kM (z :=p) (by omega)) (kM (z :=q) (by omega)) (by
  refine iP (k :=40) (m :=0) (k' :=10) (m' :=0) ?_ ?_ ?_ ?_ (by omega) (by omega)
  · rw [Rat.num_intCast]; unfold bt; have : (2 : Nat) ^ 40 = 1099511627776 :=by decide
    omega
  · rw [Rat.den_intCast]; show 1 ≤ 2 ^ 0; decide
  · rw [Rat.num_intCast]; unfold bt; have : (2 : Nat) ^ 10 = 1024 :=by decide
    omega
  · rw [Rat.den_intCast]; show 1 ≤ 2 ^ 0; decide)
 rwa [← Rat.intCast_mul] at this
set_option maxHeartbeats 8000000 in
set_option maxRecDepth 20000 in
theorem LG (own : List Int) (S : List (List Int)) (h : PR own S) : MeansH Tryz.prog 30 [calC 0] [.el 0 1 0 0,il own,ill S] (.ow 1) (calC 0 :: outC 2 own.length :: mxC (poolM own S) own.length) :=by
 have hn :=h.most
 refine bI 1 58 [.tmp 6] Tryz.func30 rfl rfl rfl (by simp) (by decide) rfl fun X hX => ?_
 (repeat (refine aC q7x0 hX a7 rfl ?_; (simp [go_sem])))
 refine aF (fun i : Nat => ⟨mkE [(0,.el 0 1 0 0),(1,il own),(2,ill S),(7,.ow 2),(13,ii own.length),(14,ii i),(1000000,.ow 0)],calC 0 :: .dead :: outC 3 i :: matC 62 4 ((mxL (poolM own S) own.length).take i)⟩) (fun i => i ≤ own.length) (fun i => own.length - i) 0 ?_ ?_ ?_
 · refine aA _ [.old 0 ⟨55,1,[.agg [ii 0]]⟩,.gone 0,.birth 43 1] (by simp [go_sem]) ?_
   simp [go_sem]
 · omega
 · intro i hi
   (repeat (refine aC q7x0 hX a7 rfl ?_; (simp [go_sem])))
   refine a8 (b :=decide (i < own.length)) (by simp [go_sem]) (fun hb => ?_) (fun hb => ?_)
   · simp only [decide_eq_true_eq] at hb
     have hMl : ((mxL (poolM own S) own.length).take i).length = i :=by rw [List.length_take,aU]; omega
     have hMz : ∀ es ∈ (mxL (poolM own S) own.length).take i,zoneEs es = true :=fun es he => by
      obtain ⟨j,hj,rfl⟩ :=List.getElem_of_mem (List.mem_of_mem_take he)
      exact cV (List.getElem?_eq_getElem hj)
     have hMs : (mxL (poolM own S) own.length).take (i + 1) = (mxL (poolM own S) own.length).take i ++ [rowL (poolM own S) own.length i] :=by
      have hl : i < (mxL (poolM own S) own.length).length :=by rw [aU]; exact hb
      rw [List.take_succ_eq_append_getElem hl]
      have :=cE (A :=poolM own S) hb
      rw [List.getElem?_eq_getElem hl] at this
      rw [Option.some.inj this]
     have hRs : ∀ j,j < own.length + 1 → (rowL (poolM own S) own.length i).take (j + 1) = (rowL (poolM own S) own.length i).take j ++ [frq (poolM own S i j)] :=fun j hj => by
      have hl : j < (rowL (poolM own S) own.length i).length :=by rw [aS]; exact hj
      rw [List.take_succ_eq_append_getElem hl]
      have :=c6 (A :=poolM own S) (n :=own.length) (k :=i) (t :=j) (by omega)
      rw [qD hl] at this
      rw [this]
     have hRl : ∀ j,j ≤ own.length → ((rowL (poolM own S) own.length i).take j).length = j :=fun j hj => by rw [List.length_take,aS]; omega
     have hRz : ∀ j,zoneEs ((rowL (poolM own S) own.length i).take j) = true :=fun j => mX j _ (mH _ _ _)
     have hRe : (rowL (poolM own S) own.length i).take (own.length + 1) = rowL (poolM own S) own.length i :=List.take_of_length_le (by rw [aS]; omega)
     have wi :=w64 (x :=(i : Int) + 1) (by omega) (by omega)
     obtain ⟨M,hM⟩ : ∃ M,(mxL (poolM own S) own.length).take i = M :=⟨_,rfl⟩
     rw [hM] at hMl hMz hMs ⊢
     clear hM
     (repeat (refine aC q7x0 hX a7 rfl ?_; (simp [go_sem])))
     refine aF (fun j : Nat => ⟨mkE [(0,.el 0 1 0 0),(1,il own),(2,ill S),(7,.ow 2),(8,ii i),(9,.ow 1),(13,ii own.length),(14,ii i),(18,ii own.length),(19,ii j),(1000000,.ow 0)],calC 0 :: .row ⟨62,4,(rowL (poolM own S) own.length i).take j⟩ :: outC 3 i :: matC 62 4 M⟩) (fun j => j ≤ own.length) (fun j => own.length - j) 0 ?_ ?_ ?_
     · have :=mF (X :=X) (env :=mkE [(0,.el 0 1 0 0),(1,il own),(2,ill S),(7,.ow 2),(8,ii i),(9,.nil),(13,ii own.length),(14,ii i),(18,ii own.length),(19,ii (0 : Nat)),(1000000,.ow 0)]) [(0,.el 0 1 0 0),(1,il own),(2,ill S),(7,.ow 2),(8,ii i),(9,.ow 1),(13,ii own.length),(14,ii i),(18,ii own.length),(19,ii (0 : Nat)),(1000000,.ow 0)] (.old 0 ⟨55,1,[.agg [ii 0]]⟩) (.birth 62 4) (calC 0) .dead (E1 :=43) (E2 :=62) (k2 :=4) M [] i hMl hMz (by simp [go_sem]) (by simp [Src.rid,List.filterMap_cons]) (by simp [Src.rid,List.filterMap_cons]) (by simp [go_sem])
       rw [List.append_nil] at this
       exact bQ this (b9 _ _ rfl (by simp [go_sem]))
     · omega
     · intro j hj
       (repeat (refine aC q7x0 hX a7 rfl ?_; (simp [go_sem])))
       refine a8 (b :=decide (j < own.length)) (by simp [go_sem]) (fun hc => ?_) (fun hc => ?_)
       · simp only [decide_eq_true_eq] at hc
         have hjS : j < S.length :=by rw [h.len]; exact hc
         have hlr :=h.row S[j] (List.getElem_mem hjS)
         have hij2 : i < S[j].length :=by omega
         have q1 :=jC (L :=S) hjS
         have q2 :=eM hij2
         have hso : sO S j i = S[j][i] :=by
          unfold sO
          rw [List.getD_eq_getElem?_getD (l :=S),List.getElem?_eq_getElem hjS]
          exact bF hij2
         have hsb :=h.s j i hc hb
         rw [hso] at hsb
         have hA :=o6 (S :=S) (k :=i) hc
         rw [hso] at hA
         have wj :=w64 (x :=(j : Int) + 1) (by omega) (by omega)
         have wv :=w64 (x :=-S[j][i]) (by omega) (by omega)
         have wv0 : (0 : Int) - S[j][i] = -S[j][i] :=by omega
         have hRj :=hRs j (by omega)
         have hlj :=hRl j (by omega)
         have hRjz :=hRz j
         generalize (rowL (poolM own S) own.length i).take j = R at *
         generalize hsv : S[j][i] = sv at *
         (repeat (refine aC q7x0 hX a7 rfl ?_; (simp [go_sem,q1,q2,hjS,hij2,wv,wv0])))
         by_cases hij : i = j
         · have hAj : poolM own S i j = ((1000 : Int) : Rat) :=by rw [hA,if_pos hij]; rfl
           refine a8 (b :=true) (by simp [go_sem]; try omega) (fun h => ?_) (fun h => by cases h)
           (repeat (refine aC q7x0 hX a7 rfl ?_; (simp [go_sem])))
           have c1 :=B8 (p :=1000) (by omega)
           refine aG [0] (c1) (by simp [go_sem]) ?_
           try (simp [go_sem,hlj])
           (repeat refine And.intro (by first | omega | (unfold maxLen; omega) | (refine ⟨by omega,by omega⟩)) ?_)
           try (repeat (refine aC q7x0 hX a7 rfl ?_; (simp [go_sem,wj])))
           refine ⟨j + 1,by omega,by omega,?_⟩
           rw [hRj,hAj]
           have hfb : ∀ x y : Cell,(matC 62 4 M ++ [x,y])[i + 1]? = some y :=fun x y => by
            rw [List.getElem?_append_right (by rw [aY]; omega),aY,hMl,Nat.add_sub_cancel_left]; rfl
           have hMC : (matC 62 4 M).length = i :=by rw [aY,hMl]
           refine bQ ?_ (b9 [(0,.el 0 1 0 0),(1,il own),(2,ill S),(7,.ow 2),(8,ii i),(9,.ow (i + 4)),(13,ii own.length),(14,ii i),(18,ii own.length),(19,ii ((j + 1 : Nat) : Int)),(1000000,.ow 0)] _ rfl (by simp [go_sem,hMC]))
           exact mF _ (.old 0 ⟨55,1,[.agg [ii 0]]⟩) (.old (i + 4) ⟨62,4,R ++ [frq ((1000 : Int) : Rat)]⟩) (calC 0) .dead (E1 :=43) (E2 :=62) (k2 :=4) M _ i hMl hMz (by simp [go_sem,hfb,hRjz]) (by simp [Src.rid,List.filterMap_cons]) (by simp [Src.rid,List.filterMap_cons]) (by simp [go_sem])
         · have hAj : poolM own S i j = ((-sv : Int) : Rat) :=by rw [hA,if_neg hij]
           refine a8 (b :=false) (by simp [go_sem]; try omega) (fun h => by cases h) (fun h => ?_)
           (repeat (refine aC q7x0 hX a7 rfl ?_; (simp [go_sem])))
           have c1 :=B8 (p :=-sv) (by omega)
           refine aG [0] (c1) (by simp [go_sem]) ?_
           try (simp [go_sem,hlj])
           (repeat refine And.intro (by first | omega | (unfold maxLen; omega) | (refine ⟨by omega,by omega⟩)) ?_)
           try (repeat (refine aC q7x0 hX a7 rfl ?_; (simp [go_sem,wj])))
           refine ⟨j + 1,by omega,by omega,?_⟩
           rw [hRj,hAj]
           have hfb : ∀ x y : Cell,(matC 62 4 M ++ [x,y])[i + 1]? = some y :=fun x y => by
            rw [List.getElem?_append_right (by rw [aY]; omega),aY,hMl,Nat.add_sub_cancel_left]; rfl
           have hMC : (matC 62 4 M).length = i :=by rw [aY,hMl]
           refine bQ ?_ (b9 [(0,.el 0 1 0 0),(1,il own),(2,ill S),(7,.ow 2),(8,ii i),(9,.ow (i + 4)),(13,ii own.length),(14,ii i),(18,ii own.length),(19,ii ((j + 1 : Nat) : Int)),(1000000,.ow 0)] _ rfl (by simp [go_sem,hMC]))
           exact mF _ (.old 0 ⟨55,1,[.agg [ii 0]]⟩) (.old (i + 4) ⟨62,4,R ++ [frq ((-sv : Int) : Rat)]⟩) (calC 0) .dead (E1 :=43) (E2 :=62) (k2 :=4) M _ i hMl hMz (by simp [go_sem,hfb,hRjz]) (by simp [Src.rid,List.filterMap_cons]) (by simp [Src.rid,List.filterMap_cons]) (by simp [go_sem])
       · simp only [decide_eq_false_iff_not] at hc
         have hj2 : j = own.length :=by omega
         subst hj2
         have q1 :=eM hb
         have hw :=h.w i hb
         rw [show wO own i = own[i] from bF hb] at hw
         have hA :=jE (own :=own) (S :=S) i
         rw [show wO own i = own[i] from bF hb] at hA
         have hRj :=hRs own.length (by omega)
         have hlj :=hRl own.length (by omega)
         rw [hRe,hA] at hRj
         have hRjz :=hRz own.length
         generalize (rowL (poolM own S) own.length i).take own.length = R at *
         generalize hov : own[i] = ov at *
         have c1 :=B8 (p :=ov) (by omega)
         have c2 :=B8 (p :=1000) (by omega)
         have c3 :=LF (p :=ov) (q :=1000) (by omega) (by omega)
         have hMC : (matC 62 4 M).length = i :=by rw [aY,hMl]
         (repeat (refine aC q7x0 hX a7 rfl ?_; (simp [go_sem,q1,hb])))
         refine aG [0] (c1) (by simp [go_sem]) ?_
         try (simp [go_sem,hlj])
         refine aG [0] (c2) (by simp [go_sem]) ?_
         try (simp [go_sem,hlj])
         refine aG [0] (c3) (by simp [go_sem]) ?_
         try (simp [go_sem,hlj])
         (repeat refine And.intro (by first | omega | (unfold maxLen; omega) | (refine ⟨by omega,by omega⟩)) ?_)
         refine And.intro (by rw [aX]; exact ⟨by omega,by unfold maxLen; omega⟩) ?_
         try (repeat (refine aC q7x0 hX a7 rfl ?_; (simp [go_sem,wi])))
         refine ⟨i + 1,by omega,by omega,?_⟩
         have hcast : ((ov * 1000 : Int) : Rat) = (ov : Rat) * 1000 :=by rw [Rat.intCast_mul]; rfl
         rw [hMs,hRj,hcast]
         refine bQ ?_ (b9 [(0,.el 0 1 0 0),(1,il own),(2,ill S),(7,.ow (i + 6)),(13,ii own.length),(14,ii ((i + 1 : Nat) : Int)),(1000000,.ow 0)] _ rfl (by simp [go_sem,hMC]))
         rw [hMC]
         exact B6 _ (.old 0 ⟨55,1,[.agg [ii 0]]⟩) (.gone 0) (calC 0) .dead .dead (E1 :=43) (E2 :=62) (k2 :=4) M _ _ _ i hMl hMz (by simp [go_sem,hRjz]) (by simp [go_sem]) (by simp [Src.rid,List.filterMap_cons]) (by simp [Src.rid,List.filterMap_cons]) (by simp [go_sem])
   · simp only [decide_eq_false_iff_not] at hb
     have hi2 : i = own.length :=by omega
     subst hi2
     (repeat (refine aC q7x0 hX a7 rfl ?_; (simp [go_sem])))
     rw [show (mxL (poolM own S) own.length).take own.length = mxL (poolM own S) own.length from List.take_of_length_le (by rw [aU]; exact Nat.le_refl _)]
     refine b8 ?_
     refine bH [(6,.ow 1),(1000000,.ow 0)] ([.old 0 ⟨55,1,[.agg [ii 0]]⟩] ++ .old 2 ⟨43,1,outN ([Src.old 0 ⟨55,1,[.agg [ii 0]]⟩].length + 1) (mxL (poolM own S) own.length).length⟩ :: matS (fun k => k + 3) 62 4 0 (mxL (poolM own S) own.length)) ⟨IL _ 2 (fun k => k + 3) _ (by simp [outN,aU]) (fun j es h => ⟨bG h,cV h⟩) (by simp [go_sem]) (nC (by simp [Src.rid,List.filterMap_cons]) (by simp [Src.rid,List.filterMap_cons]) (by simp [Src.rid,List.filterMap_cons]) (by simp)),by simp [go_sem],by simp [jK,aU,Src.cell],by simp,by simp [go_sem],.inl ?_⟩
     simp [go_sem,jK]
end Go.Proofs.YtknbcehhjffndaaGreat

namespace Go.Proofs.YtknbcehhjffndaaGreat
open Go.RowKit Go.Ab
attribute [local irreducible] AWP Go.Ab.Sub Means MeansH MeansX CallK CallG CallT CallGT CallU
theorem FV (A : Mx) (n m : Nat) (h : n + 2 ≤ m) : okRowIds m (calC 0 :: outC 2 n :: mxC A n) :=by
 refine ⟨.inl rfl,.inr fun e he => ?_,?_⟩
 · simp only [outN,List.mem_flatMap,List.mem_map] at he
   obtain ⟨x,⟨k,hk,rfl⟩,he⟩ :=he
   have : k < n :=by simpa using hk
   simp only [AV.flat,List.mem_singleton] at he
   subst he
   show k + 2 < m
   omega
 · have : ∀ M : List (List AV),(∀ es ∈ M,zoneEs es = true) → okRowIds m (matC 62 4 M) :=by
    intro M
    induction M with
    | nil => intro _; trivial
    | cons es M ih => exact fun hz => ⟨.inl (hz es (by simp)),ih fun e he => hz e (List.mem_cons_of_mem _ he)⟩
   exact this _ fun es he => by
    obtain ⟨j,hj,rfl⟩ :=List.getElem_of_mem he
    exact cV (List.getElem?_eq_getElem hj)
def keptX (own : List Int) (S : List (List Int)) (k : Nat) : Rat :=allX own S k * (((1000 - sumI (S.getD k []) : Int) : Rat) / ((1000 : Int) : Rat))
abbrev allL (own : List Int) (S : List (List Int)) : List AV :=(List.range own.length).map fun k => frq (allX own S k)
abbrev keptL (own : List Int) (S : List (List Int)) : List AV :=(List.range own.length).map fun k => frq (keptX own S k)
theorem sU (own : List Int) (S : List (List Int)) : zoneEs (allL own S) = true :=by
 unfold zoneEs
 rw [List.all_eq_true]
 intro e he
 obtain ⟨k,_,rfl⟩ :=List.mem_map.1 he
 rfl
set_option maxHeartbeats 8000000 in
set_option maxRecDepth 20000 in
theorem HI (own : List Int) (S : List (List Int)) (hv : PV own S) (hF : Fit (poolM own S) own.length) (hk : ∀ k,k < own.length → okMul (allX own S k) (((1000 - sumI (S.getD k []) : Int) : Rat) / ((1000 : Int) : Rat))) :
  Means false Tryz.prog 16 [il own,ill S] (.tup [.sl (allL own S),.sl (keptL own S),ii 0]) :=by
 have hn :=hv.most
 have hSl :=hv.len
 have hbad : badP own S = 0 :=by unfold badP; rw [if_pos hv.toPR,if_pos hv]
 have c1 :=z8 own S (by omega) (by omega) fun l hl => by have :=(iU hv.toPR hl).1; omega
 rw [hbad] at c1
 have c2 :=LG own S hv.toPR
 have c3 :=LH (poolM own S) own.length (by omega) hF
 have hMC : (mxC (poolM own S) own.length).length = own.length :=by rw [aY,aU]
 refine aB false 60 [.tmp 4,.tmp 5,.tmp 6] Tryz.func16 rfl rfl rfl (by simp) (by decide) rfl fun X hX => ?_
 (repeat (refine a6 q7x1 hX a7 rfl ?_; (simp [go_sem]; try (refine ⟨by kernel_rfl,?_⟩))))
 first | refine a9 (c1) ?_ | refine aE (c1) ?_
 try (simp [go_sem]; try (refine ⟨by kernel_rfl,?_⟩))
 (repeat (refine a6 q7x1 hX a7 rfl ?_; (simp [go_sem]; try (refine ⟨by kernel_rfl,?_⟩))))
 refine a8 (b :=false) (by simp [go_sem]) (fun h => by cases h) (fun _ => ?_)
 (repeat (refine a6 q7x1 hX a7 rfl ?_; (simp [go_sem]; try (refine ⟨by kernel_rfl,?_⟩))))
 refine CT c2 rfl ?_ ?_ ?_ ?_
 · simp [go_sem]
 · simp [go_sem]
 · simp
 try (simp [go_sem]; try (refine ⟨by kernel_rfl,?_⟩))
 refine CU (c0 :=calC 0) (R :=outC 2 own.length :: mxC (poolM own S) own.length) c3 rfl (FV _ _ _ (by rw [List.length_cons,hMC]; omega)) ?_ ?_ (sU own S) fun D hD => ?_
 · simp [go_sem]
 · simp [go_sem]
 try (simp [go_sem]; try (refine ⟨by kernel_rfl,?_⟩))
 refine And.intro (by rw [hD]; simp) ?_
 have hD2 : D.length = own.length + 1 :=by rw [hD,List.length_cons,hMC]
 have hgx : ∀ x : Cell,(D ++ [x])[own.length + 1]? = some x :=fun x => by
  rw [List.getElem?_append_right (by omega),hD2,Nat.sub_self]; rfl
 have hXe : (List.range own.length).map (fun k => frq (solx (poolM own S) own.length k)) = allL own S :=rfl
 rw [hMC,hXe]
 have hz :=sU own S
 refine eR (aA [(0,il own),(1,ill S),(8,.el 0 1 0 0),(9,.ow 1)] [.old 0 ⟨55,1,[.agg [ii 0]]⟩,.old (own.length + 2) ⟨62,4,allL own S⟩] (by simp [go_sem,hgx,hz]) (by simp [go_sem])) ?_
 simp only [List.map_cons,List.map_nil,Src.cell]
 clear hgx hD hD2 D c2 c3 hMC hbad c1 hXe
 have hal : (allL own S).length = own.length :=by simp
 have hag : ∀ k,k < own.length → nth (allL own S) k = frq (allX own S k) :=fun k hk => f8 (by simp [hk])
 have hrx : ∀ k,k < own.length → rq (allX own S k) :=fun k hk => by
  have :=yG (hF.dpos k hk) (hF.fin k hk)
  exact this
 obtain ⟨AL,hAL⟩ : ∃ AL,allL own S = AL :=⟨_,rfl⟩
 rw [hAL] at hal hag hz ⊢
 (repeat (refine a6 q7x1 hX a7 rfl ?_; (simp [go_sem]; try (refine ⟨by kernel_rfl,?_⟩))))
 refine aF (fun i : Nat => ⟨mkE [(0,il own),(1,ill S),(8,.el 0 1 0 0),(9,.ow 1),(10,.ow 2),(27,ill S),(28,ii own.length),(29,ii i)],[calC 0,.row ⟨62,4,AL⟩,.row ⟨62,4,(List.range i).map fun k => frq (keptX own S k)⟩]⟩) (fun i => i ≤ own.length) (fun i => own.length - i) 0 ?_ ?_ ?_
 · refine aA _ [.old 0 ⟨55,1,[.agg [ii 0]]⟩,.old 1 ⟨62,4,AL⟩,.birth 62 4] (by simp [go_sem,hz]) ?_
   simp [go_sem,hSl]
 · omega
 · intro i hi
   (repeat (refine a6 q7x1 hX a7 rfl ?_; (simp [go_sem]; try (refine ⟨by kernel_rfl,?_⟩))))
   refine a8 (b :=decide (i < own.length)) (by simp [go_sem]) (fun hb => ?_) (fun hb => ?_)
   · simp only [decide_eq_true_eq] at hb
     have hbS : i < S.length :=by omega
     have q1 :=jC (L :=S) hbS
     have q2 :=hag i hb
     have hpr :=iU hv.toPR (List.getElem_mem hbS)
     have hgv :=B7 S[i] (by omega) hpr.2
     have hsb :=fQ S[i] S[i].length hpr.2
     rw [List.take_length] at hsb
     have hlt :=hv.lt S[i] (List.getElem_mem hbS)
     have hgd : S.getD i [] = S[i] :=by rw [List.getD_eq_getElem?_getD,List.getElem?_eq_getElem hbS]; rfl
     have hmk :=hk i hb
     have hkx : keptX own S i = allX own S i * (((1000 - sumI S[i] : Int) : Rat) / ((1000 : Int) : Rat)) :=by unfold keptX; rw [hgd]
     rw [hgd] at hmk
     have c1 :=K3 (p :=1000 - sumI S[i]) (q :=1000) (by omega) (by decide) (by decide)
     have c2 :=z9 (hrx i hb) (rL (p :=1000 - sumI S[i]) (q :=1000) (by omega) (by decide) (by decide)) hmk
     rw [← hkx] at c2
     have hsn : (List.range (i + 1)).map (fun k => frq (keptX own S k)) = (List.range i).map (fun k => frq (keptX own S k)) ++ [frq (keptX own S i)] :=by rw [List.range_succ,List.map_append]; rfl
     have wi :=w64 (x :=(i : Int) + 1) (by omega) (by omega)
     have ws :=w64 (x :=1000 - sumI S[i]) (by omega) (by omega)
     have hail : i < AL.length :=by omega
     (repeat (refine a6 q7x1 hX a7 rfl ?_; (simp [go_sem,q1,q2,hbS,hail]; try (refine ⟨by kernel_rfl,?_⟩))))
     first | refine a9 (hgv) ?_ | refine aE (hgv) ?_
     try (simp [go_sem,q1,q2,hbS,hail,ws]; try (refine ⟨by kernel_rfl,?_⟩))
     try (repeat refine And.intro (by first | omega | (unfold maxLen; omega) | kernel_rfl | (refine ⟨by first | omega | (unfold maxLen; omega),by first | omega | (unfold maxLen; omega)⟩) | grind) ?_)
     first | refine aG [0] (c1) (by simp [go_sem]) ?_ | refine aQ [0] (c1) (by simp [go_sem]) ?_ | refine aO [0] (c1) (by simp [go_sem]) ?_
     try (simp [go_sem,q1,q2,hbS,hail]; try (refine ⟨by kernel_rfl,?_⟩))
     try (repeat refine And.intro (by first | omega | (unfold maxLen; omega) | kernel_rfl | (refine ⟨by first | omega | (unfold maxLen; omega),by first | omega | (unfold maxLen; omega)⟩) | grind) ?_)
     first | refine aG [0] (c2) (by simp [go_sem]) ?_ | refine aQ [0] (c2) (by simp [go_sem]) ?_ | refine aO [0] (c2) (by simp [go_sem]) ?_
     try (simp [go_sem,q1,q2,hbS,hail]; try (refine ⟨by kernel_rfl,?_⟩))
     (repeat refine And.intro (by first | omega | (unfold maxLen; omega) | kernel_rfl | (refine ⟨by first | omega | (unfold maxLen; omega),by first | omega | (unfold maxLen; omega)⟩) | grind) ?_)
     try (repeat (refine a6 q7x1 hX a7 rfl ?_; (simp [go_sem,wi]; try (refine ⟨by kernel_rfl,?_⟩))))
     refine ⟨i + 1,by omega,by omega,?_⟩
     rw [hsn]
     refine aA _ [.old 0 ⟨55,1,[.agg [ii 0]]⟩,.old 1 ⟨62,4,AL⟩,.old 4 ⟨62,4,(List.range i).map (fun k => frq (keptX own S k)) ++ [frq (keptX own S i)]⟩] (by simp [go_sem,hz]) ?_
     simp [go_sem]
   · simp only [decide_eq_false_iff_not] at hb
     have hin : i = own.length :=by omega
     subst hin
     (repeat (refine a6 q7x1 hX a7 rfl ?_; (simp [go_sem]; try (refine ⟨by kernel_rfl,?_⟩))))
     refine a8 (b :=false) (by simp [go_sem]) (fun h => by cases h) (fun _ => ?_)
     have hzk : zoneEs ((List.range own.length).map fun k => frq (keptX own S k)) = true :=by
      unfold zoneEs
      rw [List.all_eq_true]
      intro e he
      obtain ⟨k,_,rfl⟩ :=List.mem_map.1 he
      rfl
     (repeat (refine a6 q7x1 hX a7 rfl ?_; (simp [go_sem,hz,hzk]; try (refine ⟨by kernel_rfl,?_⟩))))
     trace_state
end Go.Proofs.YtknbcehhjffndaaGreat

namespace Go.Proofs.YtknbcehhjffndaaGreat
open Go.RowKit Go.Ab
attribute [local irreducible] AWP Go.Ab.Sub Means MeansH MeansX CallK CallG CallT CallGT CallU
def cmpR (a b : Rat) : Int :=cmpI (a.num * b.den) (b.num * a.den)
theorem jZ {a b : Rat} (ha : rq a) (hb : rq b) : Means false Tryz.prog 35 [frq a,frq b] (ii (cmpR a b)) :=BW a.num a.den b.num b.den (eF ha) (eF hb)
theorem uZ (a b : Rat) : cmpR a b < 0 ↔ a < b :=by
 rw [Rat.lt_iff]
 unfold cmpR cmpI
 split
 · simp; assumption
 · split <;> simp <;> omega
theorem o7 (a b : Rat) : 0 < cmpR a b ↔ b < a :=by
 rw [Rat.lt_iff]
 unfold cmpR cmpI
 split
 · simp; omega
 · split <;> simp <;> omega
theorem IM (a b : Rat) : cmpR a b = 0 ↔ a = b :=by
 have h1 :=uZ a b
 have h2 :=o7 a b
 constructor
 · intro h
   have h3 : ¬ a < b :=fun e => by have :=h1.2 e; omega
   have h4 : ¬ b < a :=fun e => by have :=h2.2 e; omega
   grind
 · rintro rfl
   have h3 : ¬ a < a :=by grind
   have h5 : ¬ cmpR a a < 0 :=fun e => h3 (h1.1 e)
   have h6 : ¬ 0 < cmpR a a :=fun e => h3 (h2.1 e)
   omega
theorem tY {p q : Int} {r : Rat} {k m : Nat} (hq : q ≠ 0) (h : r * (q : Rat) = p) (hp : bt k p) (hm : bt m q) : bt k r.num ∧ bt m r.den :=by
 obtain ⟨h1,h2⟩ :=eL hq h
 obtain ⟨_,_,_,h4,h5,_⟩ :=oZ (p :=p) hq
 rw [h1] at h4
 rw [h2] at h5
 rw [nP,nP] at h4
 rw [nP] at h5
 unfold bt at *
 refine ⟨by omega,?_⟩
 simp only [Int.natAbs_natCast]
 omega
theorem EM {a b : Rat} {k m k' m' : Nat} (h1 : bt k a.num) (h2 : bt m a.den) (h3 : bt k' b.num) (h4 : bt m' b.den) : bt (k + k') (a * b).num ∧ bt (m + m') (a * b).den :=
 tY (iM a b) (nN a b) (d7 h1 h3) (d7 h2 h4)
theorem KM {a b : Rat} {k m k' m' c : Nat} (h1 : bt k a.num) (h2 : bt m a.den) (h3 : bt k' b.num) (h4 : bt m' b.den) (hc1 : k + m' ≤ c) (hc2 : k' + m ≤ c) : bt (c + 1) (a + b).num ∧ bt (m + m') (a + b).den :=
 tY (iM a b) (nM a b) (yK (cI (d7 h1 h4) hc1) (cI (d7 h3 h2) hc2)) (d7 h2 h4)
theorem MJ {p q : Int} {k m : Nat} (hq : q ≠ 0) (hp : bt k p) (hm : bt m q) : bt k ((p : Rat) / (q : Rat)).num ∧ bt m ((p : Rat) / (q : Rat)).den :=tY hq (ofq hq) hp hm
theorem AG {z : Int} (h : 0 ≤ z ∧ z ≤ 1000) : bt 10 z :=by
 unfold bt
 have : (2 : Nat) ^ 10 = 1024 :=by decide
 omega
def psum (own : List Int) (S : List (List Int)) (xs : List Rat) (i j : Nat) : Rat :=((wO own i : Int) : Rat) + sumR (fun t => xs.getD t 0 * (((sO S t i : Int) : Rat) / ((1000 : Int) : Rat))) j
variable {own : List Int} {S : List (List Int)} {xs : List Rat}
def chkQ (own : List Int) (S : List (List Int)) (xs ys : List Rat) : Prop :=∀ i,i < own.length → psum own S xs i own.length = xs.getD i 0 ∧ xs.getD i 0 * (((1000 - sumI (S.getD i []) : Int) : Rat) / ((1000 : Int) : Rat)) = ys.getD i 0
noncomputable instance (own : List Int) (S : List (List Int)) (xs ys : List Rat) : Decidable (chkQ own S xs ys) :=Classical.propDecidable _
end Go.Proofs.YtknbcehhjffndaaGreat

namespace Go.Proofs.YtknbcehhjffndaaGreat
open Go.RowKit Go.Ab
attribute [local irreducible] AWP Go.Ab.Sub Means MeansH MeansX CallK CallG CallT CallGT CallU
def frR (r : Rat) : Fr :=⟨sg r.num,dg (ab r.num),sg r.den,dg (ab (r.den : Int))⟩
abbrev fql (xs : List Rat) : AV :=.sl (xs.map frq)
theorem kN {xs : List Rat} {k : Nat} (h : k < xs.length) : nth (xs.map frq) k = frq (xs.getD k 0) :=by
 rw [List.getD_eq_getElem?_getD,List.getElem?_eq_getElem h]
 exact eC _ h
theorem B9 {xs : List Rat} {k : Nat} (hk : k < xs.length) (h : ∀ x ∈ xs,rq x) : rq (xs.getD k 0) :=by
 rw [List.getD_eq_getElem?_getD,List.getElem?_eq_getElem hk]
 exact h _ (List.getElem_mem hk)
end Go.Proofs.YtknbcehhjffndaaGreat

namespace Go.Proofs.YtknbcehhjffndaaGreat
def bef (K : Int → Int) (x y : Int) : Prop :=K y < K x ∨ (K x = K y ∧ x < y)
instance (K : Int → Int) (x y : Int) : Decidable (bef K x y) :=by unfold bef; infer_instance
theorem sV {K : Int → Int} {x y z : Int} (h1 : bef K x y) (h2 : bef K y z) : bef K x z :=by unfold bef at *; omega
theorem sW {K : Int → Int} {x y : Int} (h : x ≠ y) : bef K x y ∨ bef K y x :=by unfold bef; omega
theorem CV {K : Int → Int} {x y : Int} (h1 : bef K x y) : ¬ bef K y x :=by unfold bef at *; omega
def insB (K : Int → Int) (x : Int) : List Int → List Int
 | [] => [x]
 | y :: l => if bef K x y then x :: y :: l else y :: insB K x l
def srt (K : Int → Int) (l : List Int) : List Int :=l.foldl (fun s x => insB K x s) []
theorem qE (K : Int → Int) (l : List Int) (x : Int) : srt K (l ++ [x]) = insB K x (srt K l) :=by unfold srt; rw [List.foldl_append]; rfl
theorem k6 (K : Int → Int) (x : Int) : ∀ l,(insB K x l).Perm (x :: l)
 | [] => .refl _
 | y :: l => by
   unfold insB
   split
   · exact .refl _
   · exact ((k6 K x l).cons y).trans (.swap x y l)
theorem dN (K : Int → Int) (l : List Int) : (srt K l).Perm l :=by
 have : ∀ k,k ≤ l.length → (srt K (l.take k)).Perm (l.take k) :=by
  intro k
  induction k with
  | zero => intro _; exact .refl _
  | succ k ih =>
    intro hk
    rw [List.take_succ_eq_append_getElem (by omega),qE]
    exact (k6 K _ _).trans (((ih (by omega)).cons _).trans (List.perm_append_singleton _ _).symm)
 have :=this l.length (Nat.le_refl _)
 rwa [List.take_length] at this
theorem nD {K : Int → Int} {x : Int} : ∀ {l : List Int},l.Pairwise (bef K) → x ∉ l → (insB K x l).Pairwise (bef K)
 | [],_,_ => by simp [insB]
 | y :: l,h,hx => by
   rw [List.pairwise_cons] at h
   simp only [List.mem_cons,not_or] at hx
   unfold insB
   split
   · rename_i hb
     refine List.pairwise_cons.2 ⟨fun z hz => ?_,List.pairwise_cons.2 h⟩
     rcases List.mem_cons.1 hz with rfl | hz
     · exact hb
     · exact sV hb (h.1 z hz)
   · rename_i hb
     refine List.pairwise_cons.2 ⟨fun z hz => ?_,nD h.2 hx.2⟩
     rcases List.mem_cons.1 ((k6 K x l).mem_iff.1 hz) with rfl | hz
     · exact (sW hx.1).resolve_left hb
     · exact h.1 z hz
theorem kI {K : Int → Int} {l : List Int} (hn : l.Nodup) : (srt K l).Pairwise (bef K) :=by
 have : ∀ k,k ≤ l.length → (srt K (l.take k)).Pairwise (bef K) :=by
  intro k
  induction k with
  | zero => intro _; exact List.Pairwise.nil
  | succ k ih =>
    intro hk
    have hkl : k < l.length :=by omega
    rw [List.take_succ_eq_append_getElem hkl,qE]
    refine nD (ih (by omega)) fun hm => ?_
    have hm :=(dN K _).mem_iff.1 hm
    obtain ⟨j,hj,e⟩ :=List.mem_take_iff_getElem.1 hm
    have :=(List.getElem_inj hn).1 e
    omega
 have :=this l.length (Nat.le_refl _)
 rwa [List.take_length] at this
theorem v5 (K : Int → Int) (l : List Int) : (srt K l).length = l.length :=(dN K l).length_eq
theorem BA {K : Int → Int} {x : Int} : ∀ {s : List Int} (k : Nat),s.Pairwise (bef K) → k ≤ s.length → (∀ e ∈ s.take k,bef K e x) → (∀ e ∈ s.drop k,bef K x e) → insB K x s = s.take k ++ x :: s.drop k
 | [],k,_,_,_,_ => by simp [insB]
 | y :: s,0,_,_,_,h2 => by
   have :=h2 y (by simp)
   simp [insB,this]
 | y :: s,k + 1,h,hk,h1,h2 => by
   have hy : bef K y x :=h1 y (by simp)
   rw [List.pairwise_cons] at h
   have ih :=BA k h.2 (by simpa using hk) (fun e he => h1 e (by simp [he])) (fun e he => h2 e (by simpa using he))
   unfold insB
   rw [if_neg (CV hy),ih]
   rfl
def r3 (a b c : List Int) : List Int :=a ++ b ++ c
@[simp] theorem r3_len (a b c : List Int) : (r3 a b c).length = a.length + b.length + c.length :=by simp [r3]; omega
def rowX (pre s : List Int) (x : Int) (post : List Int) (k : Nat) : List Int :=pre ++ (s.take k ++ x :: s.drop k) ++ post
theorem FW {pre s : List Int} {x : Int} {post : List Int} {k : Nat} (h : k ≤ s.length) : (rowX pre s x post k).length = pre.length + s.length + 1 + post.length :=by
 simp [rowX]; omega
theorem IN {pre s : List Int} {x : Int} {post : List Int} {k : Nat} (h : k ≤ s.length) (hl : pre.length + k < (rowX pre s x post k).length) : (rowX pre s x post k)[pre.length + k] = x :=by
 simp only [rowX,List.append_assoc]
 rw [List.getElem_append_right (by omega),List.getElem_append_right (by simp; omega)]
 simp [Nat.min_eq_left h]
theorem CW {pre s : List Int} {x : Int} {post : List Int} {k : Nat} (h : k < s.length) (hl : pre.length + k < (rowX pre s x post (k + 1)).length) : (rowX pre s x post (k + 1))[pre.length + k] = s[k] :=by
 simp only [rowX,List.append_assoc]
 rw [List.getElem_append_right (by omega),List.getElem_append_left (by simp; omega)]
 simp
theorem CX {pre s : List Int} {x : Int} {post : List Int} {k : Nat} (h : k < s.length) : ((rowX pre s x post (k + 1)).set (pre.length + (k + 1)) s[k]).set (pre.length + k) x = rowX pre s x post k :=by
 have e1 : s.take (k + 1) = s.take k ++ [s[k]] :=List.take_succ_eq_append_getElem h
 have e2 : s.drop k = s[k] :: s.drop (k + 1) :=List.drop_eq_getElem_cons h
 have hk : (s.take k).length = k :=by simp; omega
 simp only [rowX,e1,e2,List.append_assoc]
 rw [List.set_append_right _ _ (by omega),List.set_append_right _ _ (by omega)]
 congr 1
 rw [show pre.length + (k + 1) - pre.length = k + 1 by omega,show pre.length + k - pre.length = k by omega]
 rw [List.set_append_right _ _ (by omega),List.set_append_right _ _ (by omega),hk]
 congr 1
 simp
 rw [e2]; rfl
end Go.Proofs.YtknbcehhjffndaaGreat

namespace Go.Proofs.YtknbcehhjffndaaGreat
open Go.RowKit Go.Ab
attribute [local irreducible] AWP Go.Ab.Sub Means MeansH CallK CallG CallT CallGT CallU
abbrev rowI (L : List Int) : Cell :=.row ⟨3,1,L.map ii⟩
theorem eP (L : List Int) (hl : L.length ≤ 100000) (ho : okD L) : Means true Tryz.prog 125 [il L] (il (dg (val L))) :=by
 refine aB true 23 [.tmp 2] Tryz.func125 rfl rfl rfl (by simp) (by decide) rfl fun X hX => ?_
 (repeat (refine a6 q7x7 hX a7 rfl ?_; (simp [go_sem])))
 refine aF (fun n : Nat => ⟨mkE [(0,il L),(3,ii n)],[]⟩) (fun n => n ≤ L.length ∧ zeroFrom L n) (fun n => n) L.length ?_ ?_ ?_
 · refine aA _ [] (by simp [go_sem]) ?_
   simp [go_sem]
 · exact ⟨Nat.le_refl _,fun j h h2 => by omega⟩
 · rintro n ⟨hn,hz⟩
   cases n with
   | zero =>
     have hz0 : il (dg (val L)) = il [] :=by rw [jQ ho hn hz (.inl rfl)]; rfl
     rw [hz0]
     clear ho hz hz0
     cases L with
     | nil =>
       (repeat (refine a6 q7x7 hX a7 rfl ?_; (simp [go_sem])))
       refine a8 (b :=false) (by simp [go_sem]) (fun hb => by cases hb) (fun _ => ?_)
       (repeat (refine a6 q7x7 hX a7 rfl ?_; (simp [go_sem])))
     | cons x xs =>
       (repeat (refine a6 q7x7 hX a7 rfl ?_; (simp [go_sem,iT])))
       refine a8 (b :=false) (by simp [go_sem]) (fun hb => by cases hb) (fun _ => ?_)
       (repeat (refine a6 q7x7 hX a7 rfl ?_; (simp [go_sem])))
       (repeat refine And.intro (by first | omega | (unfold maxLen; omega) | kernel_rfl | (refine ⟨by first | omega | (unfold maxLen; omega),by first | omega | (unfold maxLen; omega)⟩) | grind) ?_)
       (repeat (refine a6 q7x7 hX a7 rfl ?_; (simp [go_sem])))
   | succ n =>
     have h1 : n < L.length :=by omega
     (repeat (refine a6 q7x7 hX a7 rfl ?_; (simp [go_sem]; (try simp (disch :=omega) only [w64,td,tm]))))
     (repeat refine And.intro (by first | omega | (unfold maxLen; omega) | kernel_rfl | (refine ⟨by first | omega | (unfold maxLen; omega),by first | omega | (unfold maxLen; omega)⟩) | grind) ?_)
     try (simp [go_sem,h1])
     refine a8 (b :=decide (L[n] = 0)) (by simp [go_sem,h1]; try omega) (fun hb => ?_) (fun hb => ?_)
     · simp at hb
       (repeat (refine a6 q7x7 hX a7 rfl ?_; (simp [go_sem]; (try simp (disch :=omega) only [w64,td,tm]))))
       refine ⟨n,⟨by omega,tV hz h1 hb⟩,by omega,?_⟩
       refine aA _ [] (by simp [go_sem]) ?_
       simp [go_sem]
     · simp at hb
       (repeat (refine a6 q7x7 hX a7 rfl ?_; (simp [go_sem])))
       (repeat refine And.intro (by first | omega | (unfold maxLen; omega) | kernel_rfl | (refine ⟨by first | omega | (unfold maxLen; omega),by first | omega | (unfold maxLen; omega)⟩) | grind) ?_)
       try (simp [go_sem])
       rw [jQ ho hn hz (.inr ⟨h1,hb⟩)]
       refine ⟨⟨⟨by omega,by unfold maxLen; omega⟩,fun a ha => ?_⟩,?_⟩
       · obtain ⟨x,_,rfl⟩ :=List.mem_map.1 (List.mem_of_mem_take ha)
         exact ⟨rfl,rfl⟩
       rw [← List.map_take]
       generalize L.take (n + 1) = D
       (repeat (refine a6 q7x7 hX a7 rfl ?_; (simp [go_sem])))
def dgt (l : List Int) (i : Nat) : Int :=l.getD i 0
theorem i7 {l : List Int} {i : Nat} (h : i < l.length) : dgt l i = l[i] :=by unfold dgt; rw [List.getD_eq_getElem?_getD,List.getElem?_eq_getElem h]; rfl
theorem kO {l : List Int} {i : Nat} (h : l.length ≤ i) : dgt l i = 0 :=by unfold dgt; rw [List.getD_eq_getElem?_getD,List.getElem?_eq_none h]; rfl
theorem cW (l : List Int) (hl : l.length ≤ 100000) (i : Nat) (hi : i ≤ 1000000) : Means true Tryz.prog 126 [il l,ii i] (ii (dgt l i)) :=by
 refine aB true 13 [.tmp 4] Tryz.func126 rfl rfl rfl (by simp) (by decide) rfl fun X hX => ?_
 (repeat (refine a6 [0,1,4,8] hX a7 rfl ?_; (simp [go_sem])))
 refine a8 (b :=decide (i < l.length)) (by simp [go_sem]) (fun hc => ?_) (fun hc => ?_)
 · simp at hc
   rw [i7 hc]
   (repeat (refine a6 [0,1,4,8] hX a7 rfl ?_; (simp [go_sem,hc])))
 · simp at hc
   rw [kO hc]
   (repeat (refine a6 [0,1,4,8] hX a7 rfl ?_; (simp [go_sem])))
theorem nU (s : Int) (L : List Int) (hl : L.length ≤ 100000) (ho : okD L) : Means false Tryz.prog 109 [ii s,il L] (big2 (if val L = 0 then 0 else s) (dg (val L))) :=by
 have hv :=aM ho
 refine aB false 15 [.cell 4 60] Tryz.func109 rfl rfl rfl (by simp) (by decide) rfl fun X hX => ?_
 (repeat (refine a6 [0,1,4,5,10] hX a7 rfl ?_; (simp [go_sem])))
 refine a9 (eP L hl ho) ?_
 try (simp [go_sem])
 by_cases h0 : val L = 0
 · have e : dg (val L) = [] :=c8.2 (by omega)
   rw [e,if_pos h0]
   (repeat (refine a6 [0,1,4,5,10] hX a7 rfl ?_; (simp [go_sem])))
   refine a8 (b :=true) (by simp [go_sem]) (fun _ => ?_) (fun h => by cases h)
   (repeat (refine a6 [0,1,4,5,10] hX a7 rfl ?_; (simp [go_sem])))
 · have e : dg (val L) ≠ [] :=fun h => by have :=c8.1 h; omega
   have e2 : 0 < (dg (val L)).length :=List.length_pos_iff.2 e
   rw [if_neg h0]
   generalize dg (val L) = D at *
   (repeat (refine a6 [0,1,4,5,10] hX a7 rfl ?_; (simp [go_sem])))
   refine a8 (b :=false) (by simp [go_sem,e]) (fun h => by cases h) (fun _ => ?_)
   (repeat (refine a6 [0,1,4,5,10] hX a7 rfl ?_; (simp [go_sem])))
theorem gK : ∀ (n : Nat) (l : List Int),val l = val (l.take n) + 1048576 ^ n * val (l.drop n)
 | 0,l => by simp [val]
 | n + 1,[] => by simp [val]
 | n + 1,x :: l => by
   have ih :=gK n l
   simp only [List.take_succ_cons,List.drop_succ_cons,val]
   rw [ih,Int.pow_succ,Int.mul_add,← Int.mul_assoc,Int.mul_comm 1048576 (1048576 ^ n)]; omega
theorem dP (l : List Int) (n : Nat) : val (l.drop n) = dgt l n + 1048576 * val (l.drop (n + 1)) :=by
 by_cases h : n < l.length
 · rw [List.drop_eq_getElem_cons h,i7 h]; rfl
 · rw [List.drop_of_length_le (by omega),List.drop_of_length_le (by omega),kO (by omega)]; simp [val]
theorem fV {l : List Int} (h : okD l) (n : Nat) : 0 ≤ val (l.take n) ∧ val (l.take n) < 1048576 ^ n :=by
 refine ⟨aM (bB h n),Int.lt_of_lt_of_le (d8 (bB h n)) ?_⟩
 have : ((1048576 ^ (l.take n).length : Nat) : Int) ≤ (1048576 ^ n : Nat) :=by
  have :=Nat.pow_le_pow_right (n :=1048576) (by omega) (show (l.take n).length ≤ n by simp; omega)
  omega
 simpa using this
theorem nE {a b : List Int} (ha : okD a) (hb : okD b) {n : Nat} (h : val (a.drop n) < val (b.drop n)) : val a < val b :=by
 have h1 :=fV ha n
 have h2 :=fV hb n
 have e1 :=gK n a
 have e2 :=gK n b
 have h3 : (1048576 : Int) ^ n * (val (a.drop n) + 1) ≤ 1048576 ^ n * val (b.drop n) :=Int.mul_le_mul_of_nonneg_left (by omega) (by omega)
 rw [Int.mul_add] at h3
 omega
theorem kP {l : List Int} (h : okD l) (i : Nat) : 0 ≤ dgt l i ∧ dgt l i < 1048576 :=by
 by_cases hi : i < l.length
 · rw [i7 hi]; exact b5 h hi
 · rw [kO (by omega)]; decide
set_option maxHeartbeats 4000000 in
theorem uC (a b : List Int) (hla : a.length ≤ 100000) (hlb : b.length ≤ 100000) (ha : okD a) (hb : okD b) : Means true Tryz.prog 114 [il a,il b] (bb (decide (val a < val b))) :=by
 have m1 : max (a.length : Int) b.length = ((max a.length b.length : Nat) : Int) :=by omega
 obtain ⟨N,hN⟩ : ∃ N,max a.length b.length = N :=⟨_,rfl⟩
 rw [hN] at m1
 have hw0 :=w64 (x :=(N : Int) - 1) (by omega) (by omega)
 refine aB true 30 [.tmp 4] Tryz.func114 rfl rfl rfl (by simp) (by decide) rfl fun X hX => ?_
 (repeat (refine a6 q7x6 hX a7 rfl ?_; (simp [go_sem,m1,hw0])))
 refine aF (fun n : Nat => ⟨mkE [(0,il a),(1,il b),(5,ii ((n : Int) - 1))],[]⟩) (fun n => n ≤ N ∧ val (a.drop n) = val (b.drop n)) (fun n => n) N ?_ ?_ ?_
 · refine aA _ [] (by simp [go_sem]) ?_
   simp [go_sem]
 · refine ⟨Nat.le_refl _,?_⟩
   rw [List.drop_of_length_le (by omega),List.drop_of_length_le (by omega)]
 · rintro n ⟨hn,he⟩
   cases n with
   | zero =>
     have e : decide (val a < val b) = false :=by
      simp only [List.drop_zero] at he
      rw [he]; simp
     rw [e]
     (repeat (refine a6 q7x6 hX a7 rfl ?_; (simp [go_sem])))
     refine a8 (b :=false) (by simp [go_sem]) (fun h => by cases h) (fun _ => ?_)
     (repeat (refine a6 q7x6 hX a7 rfl ?_; (simp [go_sem])))
   | succ n =>
     have hn1 : ((n + 1 : Nat) : Int) - 1 = n :=by omega
     have hnn : ¬ (n : Int) < 0 :=by omega
     have d1 :=dP a n
     have d2 :=dP b n
     rw [hn1]
     have hw :=w64 (x :=(n : Int) - 1) (by omega) (by omega)
     (repeat (refine a6 q7x6 hX a7 rfl ?_; (simp [go_sem])))
     refine a8 (b :=true) (by simp [go_sem]; try omega) (fun _ => ?_) (fun h => by cases h)
     (repeat (refine a6 q7x6 hX a7 rfl ?_; (simp [go_sem])))
     refine a9 (cW a hla n (by omega)) ?_
     try (simp [go_sem])
     refine a9 (cW b hlb n (by omega)) ?_
     try (simp [go_sem])
     by_cases hd : dgt a n = dgt b n
     · refine a8 (b :=false) (by simp [go_sem,hd]) (fun h => by cases h) (fun _ => ?_)
       (repeat (refine a6 q7x6 hX a7 rfl ?_; (simp [go_sem,hw])))
       refine ⟨n,⟨by omega,by omega⟩,by omega,?_⟩
       refine aA _ [] (by simp [go_sem]) ?_
       simp [go_sem]
     · have e : decide (val a < val b) = decide (dgt a n < dgt b n) :=by
        rw [decide_eq_decide]
        have b1 :=kP ha n
        have b2 :=kP hb n
        constructor
        · intro h
          rcases Int.lt_trichotomy (dgt a n) (dgt b n) with q | q | q
          · exact q
          · exact absurd q hd
          · have :=nE hb ha (n :=n) (by omega); omega
        · intro h; exact nE ha hb (n :=n) (by omega)
       rw [e]
       refine a8 (b :=true) (by simp [go_sem,hd]) (fun _ => ?_) (fun h => by cases h)
       (repeat (refine a6 q7x6 hX a7 rfl ?_; (simp [go_sem])))
       refine a9 (cW a hla n (by omega)) ?_
       try (simp [go_sem])
       refine a9 (cW b hlb n (by omega)) ?_
       try (simp [go_sem])
       (repeat (refine a6 q7x6 hX a7 rfl ?_; (simp [go_sem])))
set_option maxHeartbeats 4000000 in
set_option maxRecDepth 20000 in
theorem AR (a b : List Int) (hla : a.length ≤ 10000) (hlb : b.length ≤ 10000) (ha : okD a) (hb : okD b) : Means false Tryz.prog 115 [il a,il b] (il (dg (val a + val b))) :=by
 obtain ⟨N,hN⟩ : ∃ N,max a.length b.length = N :=⟨_,rfl⟩
 refine aB false 43 [.tmp 4] Tryz.func115 rfl rfl rfl (by simp) (by decide) rfl fun X hX => ?_
 (repeat (refine a6 q7x5 hX a7 rfl ?_; (simp [go_sem])))
 refine aF (fun x : List Int × Int => ⟨mkE [(0,il a),(1,il b),(5,.ow 0),(6,ii x.2),(7,ii x.1.length)],[rowI x.1]⟩)
  (fun x => okD x.1 ∧ x.1.length ≤ N + 1 ∧ 0 ≤ x.2 ∧ x.2 ≤ 1 ∧ (x.1.length = N + 1 → x.2 = 0) ∧ val x.1 + 1048576 ^ x.1.length * (x.2 + (val (a.drop x.1.length) + val (b.drop x.1.length))) = val a + val b) (fun x => N + 1 - x.1.length) ([],0) ?_ ?_ ?_
 · refine aA _ [.birth 3 1] (by simp [go_sem]) ?_
   simp [go_sem]
 · exact ⟨cJ,by simp,by simp,by simp,by simp,by simp [val]⟩
 · rintro ⟨o,c⟩ ⟨h1,h2,h3,h4,h5,h6⟩
   simp only [] at h1 h2 h3 h4 h5 h6
   (repeat (refine a6 q7x5 hX a7 rfl ?_; (simp [go_sem])))
   refine a8 (b :=decide (o.length < a.length) || decide (o.length < b.length) || decide (0 < c)) (by simp [go_sem]) (fun hc => ?_) (fun hc => ?_)
   · have hc' : o.length < a.length ∨ o.length < b.length ∨ 0 < c :=by simpa [or_assoc] using hc
     have hlt : o.length < N + 1 :=by
      rcases hc' with h | h | h
      · omega
      · omega
      · rcases Nat.lt_or_ge o.length (N + 1) with q | q
        · exact q
        · have :=h5 (by omega); omega
     obtain ⟨n,hn⟩ : ∃ n,o.length = n :=⟨_,rfl⟩
     rw [hn] at h2 h5 h6 hlt ⊢
     have d1 :=kP ha n
     have d2 :=kP hb n
     have v1 :=dP a n
     have v2 :=dP b n
     have z1 : n = N → dgt a n = 0 ∧ dgt b n = 0 :=fun h => ⟨kO (by omega),kO (by omega)⟩
     (repeat (refine a6 q7x5 hX a7 rfl ?_; (simp [go_sem])))
     refine a9 (cW a (by omega) n (by omega)) ?_
     try (simp [go_sem])
     refine a9 (cW b (by omega) n (by omega)) ?_
     try (simp [go_sem])
     obtain ⟨x,hx⟩ : ∃ x,dgt a n + dgt b n + c = x :=⟨_,rfl⟩
     have hwx :=w64 (x :=x) (by omega) (by omega)
     have hwx2 :=w64 (x :=dgt a n + dgt b n) (by omega) (by omega)
     have hm : x.tmod 1048576 = x % 1048576 :=Int.tmod_eq_emod_of_nonneg (by omega)
     have hd : x.tdiv 1048576 = x / 1048576 :=Int.tdiv_eq_ediv_of_nonneg (by omega)
     obtain ⟨r,hr⟩ : ∃ r,x % 1048576 = r :=⟨_,rfl⟩
     obtain ⟨q,hq⟩ : ∃ q,x / 1048576 = q :=⟨_,rfl⟩
     have hrq : x = r + 1048576 * q :=by omega
     have hwr :=w64 (x :=r) (by omega) (by omega)
     have hwq :=w64 (x :=q) (by omega) (by omega)
     have hwn :=w64 (x :=(n : Int) + 1) (by omega) (by omega)
     rw [hr] at hm
     rw [hq] at hd
     (repeat (refine a6 q7x5 hX a7 rfl ?_; (simp [go_sem,hwx2,hx,hwx,hm,hd,hn,hwr,hwq,hwn])))
     try (repeat refine And.intro (by first | omega | (unfold maxLen; omega) | kernel_rfl | (refine ⟨by first | omega | (unfold maxLen; omega),by first | omega | (unfold maxLen; omega)⟩) | grind) ?_)
     try (repeat (refine a6 q7x5 hX a7 rfl ?_; (simp [go_sem,hwx2,hx,hwx,hm,hd,hn,hwr,hwq,hwn])))
     have hlen : (o ++ [r]).length = n + 1 :=by simp [hn]
     refine ⟨o ++ [r],q,⟨eB.2 ⟨h1,aN.2 ⟨by omega,cJ⟩⟩,by omega,by omega,by omega,fun h => ?_,?_⟩,by omega,?_⟩
     · have :=z1 (by omega)
       omega
     · rw [hlen,eD,hn,Int.pow_succ,← h6,v1,v2]
       simp only [val]
       have e : (1048576 : Int) ^ n * 1048576 * (q + (val (a.drop (n + 1)) + val (b.drop (n + 1)))) = 1048576 ^ n * (1048576 * q + (1048576 * val (a.drop (n + 1)) + 1048576 * val (b.drop (n + 1)))) :=by
        rw [Int.mul_assoc]; congr 1; omega
       rw [e,Int.mul_zero,Int.add_zero,Int.add_assoc,← Int.mul_add]
       congr 2; omega
     · rw [hlen]
       refine aA _ [.old 2 ⟨3,1,(o ++ [r]).map ii⟩] (by simp [go_sem]) ?_
       simp [go_sem]
       try omega
   · have hc' : ¬ o.length < a.length ∧ ¬ o.length < b.length ∧ ¬ 0 < c :=by
      simp at hc; omega
     have e : val o = val a + val b :=by
      rw [List.drop_of_length_le (l :=a) (by omega),List.drop_of_length_le (l :=b) (by omega),show c = 0 by omega] at h6
      simpa [val] using h6
     rw [← e]
     (repeat (refine a6 q7x5 hX a7 rfl ?_; (simp [go_sem])))
     refine a9 (eP o (by omega) h1) ?_
     try (simp [go_sem])
     (repeat (refine a6 q7x5 hX a7 rfl ?_; (simp [go_sem])))
set_option maxHeartbeats 4000000 in
set_option maxRecDepth 20000 in
theorem lB (a b : List Int) (hla : a.length ≤ 10000) (hlb : b.length ≤ 10000) (ha : okD a) (hb : okD b) (hle : val b ≤ val a) : Means false Tryz.prog 116 [il a,il b] (il (dg (val a - val b))) :=by
 refine aB false 35 [.tmp 4] Tryz.func116 rfl rfl rfl (by simp) (by decide) rfl fun X hX => ?_
 (repeat (refine a6 q7x4 hX a7 rfl ?_; (simp [go_sem]; try (refine ⟨by kernel_rfl,?_⟩))))
 refine aF (fun x : List Int × Int => ⟨mkE [(0,il a),(1,il b),(5,.ow 0),(6,ii x.2),(7,ii x.1.length)],[rowI x.1]⟩)
  (fun x => okD x.1 ∧ x.1.length ≤ a.length ∧ 0 ≤ x.2 ∧ x.2 ≤ 1 ∧ val x.1 + 1048576 ^ x.1.length * (val (a.drop x.1.length) - val (b.drop x.1.length) - x.2) = val a - val b) (fun x => a.length - x.1.length) ([],0) ?_ ?_ ?_
 · refine aA _ [.birth 3 1] (by simp [go_sem]) ?_
   simp [go_sem]
 · exact ⟨cJ,by simp,by simp,by simp,by simp [val]⟩
 · rintro ⟨o,c⟩ ⟨h1,h2,h3,h4,h6⟩
   simp only [] at h1 h2 h3 h4 h6
   (repeat (refine a6 q7x4 hX a7 rfl ?_; (simp [go_sem]; try (refine ⟨by kernel_rfl,?_⟩))))
   refine a8 (b :=decide (o.length < a.length)) (by simp [go_sem]) (fun hc => ?_) (fun hc => ?_)
   · simp at hc
     obtain ⟨n,hn⟩ : ∃ n,o.length = n :=⟨_,rfl⟩
     rw [hn] at h2 h6 hc ⊢
     have d1 :=b5 ha hc
     have d2 :=kP hb n
     have v1 :=dP a n
     have v2 :=dP b n
     rw [i7 hc] at v1
     have hlen : ∀ r,(o ++ [r]).length = n + 1 :=fun r => by simp [hn]
     have hwn :=w64 (x :=(n : Int) + 1) (by omega) (by omega)
     (repeat (refine a6 q7x4 hX a7 rfl ?_; (simp [go_sem,hc]; try (refine ⟨by kernel_rfl,?_⟩))))
     first | refine a9 (cW b (by omega) n (by omega)) ?_ | refine aE (cW b (by omega) n (by omega)) ?_
     try (simp [go_sem]; try (refine ⟨by kernel_rfl,?_⟩))
     obtain ⟨x,hx⟩ : ∃ x,a[n] - dgt b n - c = x :=⟨_,rfl⟩
     have hwx :=w64 (x :=x) (by omega) (by omega)
     have hwx2 :=w64 (x :=a[n] - dgt b n) (by omega) (by omega)
     have step : ∀ r q : Int,x = r - 1048576 * q → val (o ++ [r]) + 1048576 ^ (n + 1) * (val (a.drop (n + 1)) - val (b.drop (n + 1)) - q) = val a - val b :=fun r q e => by
      rw [eD,hn,Int.pow_succ,← h6,v1,v2]
      simp only [val]
      have e2 : (1048576 : Int) ^ n * 1048576 * (val (a.drop (n + 1)) - val (b.drop (n + 1)) - q) = 1048576 ^ n * (1048576 * val (a.drop (n + 1)) - 1048576 * val (b.drop (n + 1)) - 1048576 * q) :=by
       rw [Int.mul_assoc]; congr 1; omega
      rw [e2,Int.mul_zero,Int.add_zero,Int.add_assoc,← Int.mul_add]
      congr 2; omega
     (repeat (refine a6 q7x4 hX a7 rfl ?_; (simp [go_sem,hwx2,hx,hwx]; try (refine ⟨by kernel_rfl,?_⟩))))
     refine a8 (b :=decide (x < 0)) (by simp [go_sem]) (fun hd => ?_) (fun hd => ?_)
     · simp at hd
       have hwr :=w64 (x :=x + 1048576) (by omega) (by omega)
       (repeat (refine a6 q7x4 hX a7 rfl ?_; (simp [go_sem,hwr,hn,hwn]; try (refine ⟨by kernel_rfl,?_⟩))))
       try (repeat refine And.intro (by first | omega | (unfold maxLen; omega) | kernel_rfl | (refine ⟨by first | omega | (unfold maxLen; omega),by first | omega | (unfold maxLen; omega)⟩) | grind) ?_)
       try (repeat (refine a6 q7x4 hX a7 rfl ?_; (simp [go_sem,hwr,hn,hwn]; try (refine ⟨by kernel_rfl,?_⟩))))
       refine ⟨o ++ [x + 1048576],1,⟨eB.2 ⟨h1,aN.2 ⟨by omega,cJ⟩⟩,by rw [hlen]; omega,by omega,by omega,by rw [hlen]; exact step _ _ (by omega)⟩,by rw [hlen]; omega,?_⟩
       rw [hlen]
       refine aA _ [.old 2 ⟨3,1,(o ++ [x + 1048576]).map ii⟩] (by simp [go_sem]) ?_
       simp [go_sem]
       try omega
     · simp at hd
       (repeat (refine a6 q7x4 hX a7 rfl ?_; (simp [go_sem,hn,hwn]; try (refine ⟨by kernel_rfl,?_⟩))))
       try (repeat refine And.intro (by first | omega | (unfold maxLen; omega) | kernel_rfl | (refine ⟨by first | omega | (unfold maxLen; omega),by first | omega | (unfold maxLen; omega)⟩) | grind) ?_)
       try (repeat (refine a6 q7x4 hX a7 rfl ?_; (simp [go_sem,hn,hwn]; try (refine ⟨by kernel_rfl,?_⟩))))
       refine ⟨o ++ [x],0,⟨eB.2 ⟨h1,aN.2 ⟨by omega,cJ⟩⟩,by rw [hlen]; omega,by omega,by omega,by rw [hlen]; exact step _ _ (by omega)⟩,by rw [hlen]; omega,?_⟩
       rw [hlen]
       refine aA _ [.old 2 ⟨3,1,(o ++ [x]).map ii⟩] (by simp [go_sem]) ?_
       simp [go_sem]
       try omega
   · have hl : o.length = a.length :=by simp at hc; omega
     have e : val o = val a - val b :=by
      rw [List.drop_of_length_le (l :=a) (by omega)] at h6
      have hlt :=d8 h1
      have h0 :=aM h1
      have hb0 :=aM (bM hb o.length)
      have hp :=bR o.length
      simp only [val] at h6
      obtain ⟨t,ht⟩ : ∃ t,val (b.drop o.length) + c = t :=⟨_,rfl⟩
      have e2 : (0 : Int) - val (b.drop o.length) - c = -t :=by omega
      rw [e2,Int.mul_neg] at h6
      rcases Int.lt_or_le 0 t with q | q
      · have :=Int.mul_le_mul_of_nonneg_left (show 1 ≤ t by omega) (show 0 ≤ (1048576 : Int) ^ o.length by omega)
        rw [Int.mul_one] at this; omega
      · have : t = 0 :=by omega
        subst this; simpa using h6
     rw [← e]
     (repeat (refine a6 q7x4 hX a7 rfl ?_; (simp [go_sem]; try (refine ⟨by kernel_rfl,?_⟩))))
     first | refine a9 (eP o (by omega) h1) ?_ | refine aE (eP o (by omega) h1) ?_
     try (simp [go_sem]; try (refine ⟨by kernel_rfl,?_⟩))
     (repeat (refine a6 q7x4 hX a7 rfl ?_; (simp [go_sem]; try (refine ⟨by kernel_rfl,?_⟩))))
theorem BB : ∀ (l : List Int) (j : Nat) (v : Int) (h : j < l.length),val (l.set j v) = val l + 1048576 ^ j * (v - l[j])
 | x :: l,0,v,_ => by simp [val]; omega
 | x :: l,j + 1,v,h => by
   have ih :=BB l j v (by simpa using h)
   simp only [List.set_cons_succ,val,List.getElem_cons_succ]
   rw [ih,Int.pow_succ,Int.mul_comm (1048576 ^ j) 1048576,Int.mul_assoc,Int.mul_add]; omega
theorem xS (b : List Int) (k : Nat) : val (b.take (k + 1)) = val (b.take k) + 1048576 ^ k * dgt b k :=by
 by_cases h : k < b.length
 · rw [List.take_succ_eq_append_getElem h,eD,i7 h,List.length_take,Nat.min_eq_left (by omega)]; simp [val]
 · rw [List.take_of_length_le (by omega),List.take_of_length_le (by omega),kO (by omega)]; simp
theorem FX {l : List Int} (ho : okD l) {n : Nat} (h : val l < 1048576 ^ n) : dgt l n = 0 :=by
 have e :=gK n l
 have h1 :=fV ho n
 have h2 :=aM (bM ho n)
 have hp :=bR n
 have h3 : val (l.drop n) = 0 :=by
  rcases Int.lt_or_le 0 (val (l.drop n)) with q | q
  · have :=Int.mul_le_mul_of_nonneg_left (show 1 ≤ val (l.drop n) by omega) (show 0 ≤ (1048576 : Int) ^ n by omega)
    rw [Int.mul_one] at this; omega
  · omega
 have h4 :=dP l n
 have h5 :=aM (bM ho (n + 1))
 have h6 :=kP ho n
 omega
set_option maxHeartbeats 8000000 in
set_option maxRecDepth 20000 in
theorem pS (a b : List Int) (hla : a.length ≤ 1000) (hlb : b.length ≤ 1000) (ha : okD a) (hb : okD b) : Means false Tryz.prog 110 [il a,il b] (il (dg (val a * val b))) :=by
 obtain ⟨N,hN⟩ : ∃ N,a.length + b.length = N :=⟨_,rfl⟩
 have hNi : (a.length : Int) + b.length = N :=by omega
 have hwN :=w64 (x :=(N : Int)) (by omega) (by omega)
 refine aB false 60 [.tmp 4] Tryz.func110 rfl rfl rfl (by simp) (by decide) rfl fun X hX => ?_
 (repeat (refine a6 q7x3 hX a7 rfl ?_; (simp [go_sem,hNi,hwN]; try (refine ⟨by kernel_rfl,?_⟩))))
 (repeat refine And.intro (by first | omega | (unfold maxLen; omega) | kernel_rfl | (refine ⟨by first | omega | (unfold maxLen; omega),by first | omega | (unfold maxLen; omega)⟩) | grind) ?_)
 (repeat (refine a6 q7x3 hX a7 rfl ?_; (simp [go_sem]; try (refine ⟨by kernel_rfl,?_⟩))))
 refine aF (fun x : Nat × List Int => ⟨mkE [(0,il a),(1,il b),(5,.ow 0),(6,ii x.1)],[rowI x.2]⟩) (fun x => x.1 ≤ a.length ∧ okD x.2 ∧ x.2.length = N ∧ val x.2 = val (a.take x.1) * val b) (fun x => a.length - x.1) (0,List.replicate N 0) ?_ ?_ ?_
 · refine aA _ [.old 0 ⟨3,1,(List.replicate N (0 : Int)).map ii⟩] (by simp [go_sem,List.map_replicate]) ?_
   simp [go_sem,List.map_replicate]
 · exact ⟨by simp,dY N,by simp,by rw [gF]; simp [val]⟩
 · rintro ⟨i,o⟩ ⟨h1,h2,h3,h4⟩
   simp only [] at h1 h2 h3 h4
   (repeat (refine a6 q7x3 hX a7 rfl ?_; (simp [go_sem]; try (refine ⟨by kernel_rfl,?_⟩))))
   refine a8 (b :=decide (i < a.length)) (by simp [go_sem]) (fun hc => ?_) (fun hc => ?_)
   · simp at hc
     have hx :=b5 ha hc
     have hai :=xS a i
     rw [i7 hc] at hai
     have hob : val o < 1048576 ^ (i + b.length) :=by
      have a1 :=fV ha i
      have b1 :=d8 hb
      have b0 :=aM hb
      rw [h4,Int.pow_add]
      have e1 : val (a.take i) * val b ≤ val (a.take i) * 1048576 ^ b.length :=Int.mul_le_mul_of_nonneg_left (by omega) a1.1
      have e2 : val (a.take i) * 1048576 ^ b.length < 1048576 ^ i * 1048576 ^ b.length :=Int.mul_lt_mul_of_pos_right a1.2 (bR _)
      omega
     have hz :=FX h2 hob
     obtain ⟨x,hxe⟩ : ∃ x,a[i] = x :=⟨_,rfl⟩
     rw [hxe] at hx hai
     (repeat (refine a6 q7x3 hX a7 rfl ?_; (simp [go_sem]; try (refine ⟨by kernel_rfl,?_⟩))))
     refine aF (fun z : Nat × List Int × Int => ⟨mkE [(0,il a),(1,il b),(5,.ow 0),(6,ii i),(7,ii z.2.2),(8,ii z.1)],[rowI z.2.1]⟩)
      (fun z => z.1 ≤ b.length + 1 ∧ okD z.2.1 ∧ z.2.1.length = N ∧ 0 ≤ z.2.2 ∧ z.2.2 < 1048576 ∧ (z.1 = b.length + 1 → z.2.2 = 0) ∧ (z.1 ≤ b.length → dgt z.2.1 (i + b.length) = 0) ∧ val z.2.1 + 1048576 ^ (i + z.1) * z.2.2 = val o + 1048576 ^ i * (x * val (b.take z.1))) (fun z => b.length + 1 - z.1) (0,o,0) ?_ ?_ ?_
     · refine aA _ [.old 0 ⟨3,1,o.map ii⟩] (by simp [go_sem]) ?_
       simp [go_sem]
     · exact ⟨by simp,h2,h3,by simp,by simp,by simp,fun _ => hz,by simp [val]⟩
     · rintro ⟨k,p,c⟩ ⟨g1,g2,g3,g4,g5,g6,g7,g8⟩
       simp only [] at g1 g2 g3 g4 g5 g6 g7 g8
       (repeat (refine a6 q7x3 hX a7 rfl ?_; (simp [go_sem]; try (refine ⟨by kernel_rfl,?_⟩))))
       refine a8 (b :=decide (k < b.length) || decide (0 < c)) (by simp [go_sem]) (fun hd => ?_) (fun hd => ?_)
       · have hd' : k < b.length ∨ 0 < c :=by simpa using hd
         have hk : k ≤ b.length :=by
          rcases hd' with h | h
          · omega
          · rcases Nat.lt_or_ge b.length k with q | q
            · have :=g6 (by omega); omega
            · exact q
         obtain ⟨j,hj⟩ : ∃ j,i + k = j :=⟨_,rfl⟩
         have hj' : (i : Int) + k = j :=by omega
         have hjl : j < p.length :=by omega
         have hpj :=b5 g2 hjl
         have hb1 :=kP hb k
         have hbk :=xS b k
         have hpu :=fun v => BB p j v hjl
         have hmb :=kH hx hb1
         have hb0 : k = b.length → dgt b k = 0 ∧ p[j] = 0 :=fun h => ⟨kO (by omega),by have :=g7 hk; rw [show i + b.length = j by omega,i7 hjl] at this; exact this⟩
         obtain ⟨y,hy⟩ : ∃ y,dgt b k = y :=⟨_,rfl⟩
         obtain ⟨w,hw⟩ : ∃ w,p[j] = w :=⟨_,rfl⟩
         obtain ⟨xy,hxy⟩ : ∃ xy,x * y = xy :=⟨_,rfl⟩
         rw [hy] at hb1 hbk hmb hb0
         rw [hw] at hpj hb0
         rw [hxy] at hmb
         simp only [hw] at hpu
         obtain ⟨n,hn⟩ : ∃ n,w + xy + c = n :=⟨_,rfl⟩
         obtain ⟨r,hr⟩ : ∃ r,n % 1048576 = r :=⟨_,rfl⟩
         obtain ⟨q,hq⟩ : ∃ q,n / 1048576 = q :=⟨_,rfl⟩
         have hm : n.tmod 1048576 = r :=by rw [← hr]; exact Int.tmod_eq_emod_of_nonneg (by omega)
         have hdv : n.tdiv 1048576 = q :=by rw [← hq]; exact Int.tdiv_eq_ediv_of_nonneg (by omega)
         have w1 :=w64 (x :=xy) (by omega) (by omega)
         have w2 :=w64 (x :=w + xy) (by omega) (by omega)
         have w3 :=w64 (x :=n) (by omega) (by omega)
         have w4 :=w64 (x :=(j : Int)) (by omega) (by omega)
         have w5 :=w64 (x :=r) (by omega) (by omega)
         have w6 :=w64 (x :=q) (by omega) (by omega)
         have w7 :=w64 (x :=(k : Int) + 1) (by omega) (by omega)
         (repeat (refine a6 q7x3 hX a7 rfl ?_; (simp [go_sem,hj',w4,hjl,hw,hc,hxe]; try (refine ⟨by kernel_rfl,?_⟩))))
         first | refine a9 (cW b (by omega) k (by omega)) ?_ | refine aE (cW b (by omega) k (by omega)) ?_
         try (simp [go_sem,hy,hxy,w1,w2,hn,w3]; try (refine ⟨by kernel_rfl,?_⟩))
         (repeat (refine a6 q7x3 hX a7 rfl ?_; (simp [go_sem,hj',w4,hjl,hw,hc,hxe,hy,hxy,w1,w2,hn,w3,hm,hdv,w5,w6,w7]; try (refine ⟨by kernel_rfl,?_⟩))))
         have hxy0 : y = 0 → xy = 0 :=fun h => by rw [← hxy,h,Int.mul_zero]
         refine ⟨k + 1,p.set j r,q,⟨by omega,gX g2 j ⟨by omega,by omega⟩,by simpa using g3,by omega,by omega,fun h => ?_,fun h => ?_,?_⟩,by omega,?_⟩
         · have :=hb0 (by omega)
           have :=hxy0 this.1
           omega
         · have :=g7 hk
           unfold dgt at this ⊢
           rw [List.getD_eq_getElem?_getD,List.getElem?_set_ne (by omega),← List.getD_eq_getElem?_getD]
           exact this
         · rw [hpu r,hbk,show i + (k + 1) = j + 1 by omega,Int.pow_succ]
           have e1 : (1048576 : Int) ^ j * 1048576 * q = 1048576 ^ j * (1048576 * q) :=by rw [Int.mul_assoc]
           have e2 : (1048576 : Int) ^ i * (x * (val (b.take k) + 1048576 ^ k * y)) = 1048576 ^ i * (x * val (b.take k)) + 1048576 ^ j * xy :=by
            rw [Int.mul_add x,Int.mul_add,← hj,Int.pow_add,← hxy,Int.mul_assoc (1048576 ^ i),Int.mul_left_comm x]
           rw [hj] at g8
           rw [e1,e2,← Int.add_assoc,← g8,Int.add_assoc,← Int.mul_add,Int.add_assoc,← Int.mul_add]
           congr 2; omega
         · refine aA _ [.old 0 ⟨3,1,(p.set j r).map ii⟩] (by simp [go_sem]) ?_
           simp [go_sem]
           try omega
       · have hd' : ¬ k < b.length ∧ ¬ 0 < c :=by simp at hd; omega
         have e0 : b.take k = b :=List.take_of_length_le (by omega)
         have ec : c = 0 :=by omega
         rw [e0,ec,Int.mul_zero,Int.add_zero] at g8
         have hwi :=w64 (x :=(i : Int) + 1) (by omega) (by omega)
         (repeat (refine a6 q7x3 hX a7 rfl ?_; (simp [go_sem,hwi]; try (refine ⟨by kernel_rfl,?_⟩))))
         refine ⟨i + 1,p,⟨by omega,g2,g3,?_⟩,by omega,?_⟩
         · rw [g8,hai,h4,Int.add_mul,Int.mul_assoc]
         · refine aA _ [.old 0 ⟨3,1,p.map ii⟩] (by simp [go_sem]) ?_
           simp [go_sem]
   · have e : a.take i = a :=List.take_of_length_le (by simp at hc; omega)
     rw [e] at h4
     rw [← h4]
     (repeat (refine a6 q7x3 hX a7 rfl ?_; (simp [go_sem]; try (refine ⟨by kernel_rfl,?_⟩))))
     first | refine a9 (eP o (by omega) h2) ?_ | refine aE (eP o (by omega) h2) ?_
     try (simp [go_sem]; try (refine ⟨by kernel_rfl,?_⟩))
     (repeat (refine a6 q7x3 hX a7 rfl ?_; (simp [go_sem]; try (refine ⟨by kernel_rfl,?_⟩))))
end Go.Proofs.YtknbcehhjffndaaGreat

namespace Go.Proofs.YtknbcehhjffndaaGreat
open Go.RowKit Go.Ab
attribute [local irreducible] AWP Go.Ab.Sub Means MeansH CallK CallG CallT CallGT CallU
theorem nR {L : List Rat} {j : Nat} (h : j < L.length) : L.getD j 0 = L[j] :=by rw [List.getD_eq_getElem?_getD,List.getElem?_eq_getElem h]; rfl
def cden : List Rat → Int
 | [] => 1
 | r :: R => r.den * cden R
theorem pH : ∀ R : List Rat,0 < cden R
 | [] => by decide
 | r :: R => Int.mul_pos (by have :=r.den_pos; omega) (pH R)
theorem pI : ∀ (R : List Rat) (r : Rat),r ∈ R → ∃ m : Int,r * (cden R : Rat) = (m : Rat)
 | a :: R,r,h => by
   rcases List.mem_cons.1 h with rfl | h
   · refine ⟨r.num * cden R,?_⟩
     show r * (((r.den : Int) * cden R : Int) : Rat) = _
     rw [Rat.intCast_mul,Rat.intCast_mul,cH r]; grind
   · obtain ⟨m,e⟩ :=pI R r h
     refine ⟨a.den * m,?_⟩
     show r * (((a.den : Int) * cden R : Int) : Rat) = _
     rw [Rat.intCast_mul,Rat.intCast_mul,← e]; grind
namespace B
abbrev bsl (R : List Rat) : AV :=fql R
def okR (R : List Rat) : Prop :=∀ r ∈ R,rq r
def kf (R : List Rat) (x : Int) : Int :=(R.getD x.toNat 0 * (cden R : Rat)).num
theorem kf_eq (R : List Rat) (x : Int) : (kf R x : Rat) = R.getD x.toNat 0 * (cden R : Rat) :=by
 unfold kf
 have : ∃ m : Int,R.getD x.toNat 0 * (cden R : Rat) = (m : Rat) :=by
  by_cases h : x.toNat < R.length
  · rw [nR h]; exact pI R _ (List.getElem_mem h)
  · rw [List.getD_eq_getElem?_getD,List.getElem?_eq_none (by omega)]
    exact ⟨0,by show (0 : Rat) * _ = ((0 : Int) : Rat); rw [Rat.zero_mul]; rfl⟩
 obtain ⟨m,e⟩ :=this
 rw [e,Rat.num_intCast]
theorem kf_lt (R : List Rat) (x y : Int) : kf R x < kf R y ↔ R.getD x.toNat 0 < R.getD y.toNat 0 :=by
 rw [← Rat.intCast_lt_intCast,kf_eq,kf_eq]
 exact Rat.mul_lt_mul_right (by have :=pH R; exact Rat.intCast_pos.2 this)
def cmpC (R : List Rat) (x y : Int) : Int :=cmpR (R.getD y.toNat 0) (R.getD x.toNat 0)
theorem IP (R : List Rat) (x y : Int) : cmpC R x y < 0 ↔ kf R y < kf R x :=by unfold cmpC; rw [uZ,kf_lt]
set_option maxHeartbeats 4000000 in
set_option maxRecDepth 20000 in
theorem MX (R : List Rat) (hok : okR R) (x y : Int) (hx : 0 ≤ x ∧ x < R.length) (hy : 0 ≤ y ∧ y < R.length) : MeansH Tryz.prog 41 [.row ⟨43,1,[bsl R]⟩] [ii x,ii y,.el 0 1 0 0] (ii (cmpC R x y)) [.row ⟨43,1,[bsl R]⟩] :=by
 obtain ⟨i,hi,rfl⟩ : ∃ i,∃ _ : i < R.length,x = (i : Int) :=⟨x.toNat,by omega,by omega⟩
 obtain ⟨j,hj,rfl⟩ : ∃ i,∃ _ : i < R.length,y = (i : Int) :=⟨y.toNat,by omega,by omega⟩
 unfold cmpC
 rw [Int.toNat_natCast,Int.toNat_natCast,nR hi,nR hj]
 have n1 :=kN hi
 have n2 :=kN hj
 have c :=jZ (hok _ (List.getElem_mem hj)) (hok _ (List.getElem_mem hi))
 refine bI 1 15 [.tmp 5] Tryz.func41 rfl rfl rfl (by simp) (by decide) rfl fun X hX => ?_
 (repeat (refine aC [0,1,2,5,1000000] hX a7 rfl ?_; (simp [go_sem,hi,hj,n1,n2]; try (refine ⟨by kernel_rfl,?_⟩))))
 first | refine a9 (c) ?_ | refine aE (c) ?_
 try (simp [go_sem]; try (refine ⟨by kernel_rfl,?_⟩))
 (repeat (refine aC [0,1,2,5,1000000] hX a7 rfl ?_; (simp [go_sem]; try (refine ⟨by kernel_rfl,?_⟩))))
 refine b8 ?_; (try simp only [thenQ,blkQ,loopQ]); refine bH [(5,ii (cmpR R[j] R[i])),(1000000,.ow 0)] [.old 0 ⟨43,1,[bsl R]⟩] ?_
 simp [go_sem]
end B
end Go.Proofs.YtknbcehhjffndaaGreat

namespace Go.Proofs.YtknbcehhjffndaaGreat.B
open Go.RowKit Go.Ab
attribute [local irreducible] AWP Go.Ab.Sub Means MeansH CallK CallG CallT CallGT
abbrev clo : AV :=.fn 41 [] [.el 1 1 0 0]
abbrev sH (D : List Int) (R : List Rat) : List Cell :=[rowI D,.row ⟨43,1,[bsl R]⟩]
theorem FY {K : Int → Int} {pre s : List Int} {x : Int} {post : List Int} {k : Nat} (hs : s.Pairwise (bef K)) (hk : k ≤ s.length) (h1 : ∀ e ∈ s.take k,bef K e x) (h2 : ∀ e ∈ s.drop k,bef K x e) : rowX pre s x post k = r3 pre (insB K x s) post :=by
 rw [BA k hs hk h1 h2]; rfl
set_option maxHeartbeats 4000000 in
set_option maxRecDepth 20000 in
theorem C5 (pre l post : List Int) (R : List Rat) (hn : l.Nodup) (hord : ∀ i j (hi : i < l.length) (hj : j < l.length),i < j → l[i] < l[j]) (hr : ∀ x ∈ l,0 ≤ x ∧ x < R.length) (hb : pre.length + l.length + post.length ≤ 100000) (hR : R.length ≤ 100000) (hok : okR R) :
  MeansH Tryz.prog 105 (sH (r3 pre l post) R) [.ow 0,ii pre.length,ii (pre.length + l.length : Nat),clo] (.tup []) (sH (r3 pre (srt (kf R) l) post) R) :=by
 refine bI 2 53 [] Tryz.func105 rfl rfl rfl (by simp) (by decide) rfl fun X hX => ?_
 (repeat (refine aC q7x2 hX a7 rfl ?_; (simp [go_sem]; (try simp (disch :=omega) only [w64,td,tm]); try (refine ⟨by kernel_rfl,?_⟩))))
 refine aF (fun i : Nat => ⟨mkE [(0,.ow 0),(1,ii pre.length),(2,ii (pre.length + l.length : Nat)),(3,clo),(8,ii (pre.length + i : Nat)),(1000000,.ow 0),(1000001,.ow 1)],sH (r3 pre (srt (kf R) (l.take i)) (l.drop i ++ post)) R⟩) (fun i => i ≤ l.length + (1 - l.length)) (fun i => l.length - i) 1 ?_ ?_ ?_
 · have e : srt (kf R) (l.take 1) ++ l.drop 1 = l :=by
    cases l with
    | nil => rfl
    | cons a l => rfl
   have e2 : r3 pre (srt (kf R) (l.take 1)) (l.drop 1 ++ post) = r3 pre l post :=by unfold r3; rw [← List.append_assoc,List.append_assoc pre,e]
   rw [e2]
   refine aA _ [.old 0 ⟨3,1,(r3 pre l post).map ii⟩,.old 1 ⟨43,1,[bsl R]⟩] (by simp [go_sem]) ?_
   simp [go_sem]
 · omega
 · intro i hi
   (repeat (refine aC q7x2 hX a7 rfl ?_; (simp [go_sem]; (try simp (disch :=omega) only [w64,td,tm]); try (refine ⟨by kernel_rfl,?_⟩))))
   refine a8 (b :=decide (i < l.length)) (by simp [go_sem]; try omega) (fun hc => ?_) (fun hc => ?_)
   · simp at hc
     obtain ⟨s,hs⟩ : ∃ s,srt (kf R) (l.take i) = s :=⟨_,rfl⟩
     have hsl : s.length = i :=by rw [← hs,v5]; simp; omega
     have hnt : (l.take i).Nodup :=hn.sublist (List.take_sublist _ _)
     have hss : s.Pairwise (bef (kf R)) :=by rw [← hs]; exact kI hnt
     have hsm : ∀ e ∈ s,e < l[i] ∧ 0 ≤ e ∧ e < R.length :=fun e he => by
      rw [← hs] at he
      have :=(dN _ _).mem_iff.1 he
      obtain ⟨j,hj,rfl⟩ :=List.mem_take_iff_getElem.1 this
      exact ⟨hord j i (by omega) hc (by omega),hr _ (List.getElem_mem _)⟩
     have hxr :=hr l[i] (List.getElem_mem hc)
     obtain ⟨x,hx⟩ : ∃ x,l[i] = x :=⟨_,rfl⟩
     obtain ⟨po,hpo⟩ : ∃ po,l.drop (i + 1) ++ post = po :=⟨_,rfl⟩
     have hpl : pre.length + s.length + 1 + po.length ≤ 100000 :=by rw [← hpo]; simp; omega
     have e0 : r3 pre s (l.drop i ++ post) = rowX pre s x po s.length :=by
      rw [List.drop_eq_getElem_cons hc,hx,← hpo]
      simp [rowX,r3]
     have e1 : r3 pre (srt (kf R) (l.take (i + 1))) (l.drop (i + 1) ++ post) = r3 pre (insB (kf R) x s) po :=by
      rw [List.take_succ_eq_append_getElem hc,qE,hs,hx,hpo]
     have e2 : i = s.length :=hsl.symm
     rw [hx] at hsm hxr
     rw [hs,e0]
     (repeat (refine aC q7x2 hX a7 rfl ?_; (simp [go_sem]; try (refine ⟨by kernel_rfl,?_⟩))))
     refine aF (fun k : Nat => ⟨mkE [(0,.ow 0),(1,ii pre.length),(2,ii (pre.length + l.length : Nat)),(3,clo),(8,ii (pre.length + i : Nat)),(9,ii (pre.length + k : Nat)),(1000000,.ow 0),(1000001,.ow 1)],sH (rowX pre s x po k) R⟩) (fun k => k ≤ s.length ∧ ∀ e ∈ s.drop k,bef (kf R) x e) (fun k => k) s.length ?_ ?_ ?_
     · refine aA _ [.old 0 ⟨3,1,(rowX pre s x po s.length).map ii⟩,.old 1 ⟨43,1,[bsl R]⟩] (by simp [go_sem]) ?_
       simp [go_sem,e2]
     · simp
     · rintro k ⟨hk,hd⟩
       have hlen :=FW (pre :=pre) (x :=x) (post :=po) hk
       have done : (∀ e ∈ s.take k,bef (kf R) e x) → rowX pre s x po k = r3 pre (srt (kf R) (l.take (i + 1))) (l.drop (i + 1) ++ post) :=fun h1 => by rw [e1,FY hss hk h1 hd]
       cases k with
       | zero =>
         have hdone :=done (by simp)
         have hi0 : pre.length < (rowX pre s x po 0).length :=by omega
         have hi1 : pre.length - 1 < (rowX pre s x po 0).length :=by omega
         have hwz : IntKind.i64.wrap ((pre.length : Int) - 1) = (pre.length : Int) - 1 :=w64 (by omega) (by omega)
         have htz : ((pre.length : Int) - 1).toNat = pre.length - 1 :=by omega
         generalize rowX pre s x po 0 = D1 at *
         (repeat (refine aC q7x2 hX a7 rfl ?_; (simp [go_sem,hi0,hi1,hwz,htz]; try (refine ⟨by kernel_rfl,?_⟩))))
         first | refine cB rfl ?_ | refine bY rfl ?_
         try (simp [go_sem]; try (refine ⟨by kernel_rfl,?_⟩))
         refine a8 (b :=false) (by simp [go_sem]) (fun h => by cases h) (fun _ => ?_)
         (repeat (refine aC q7x2 hX a7 rfl ?_; (simp [go_sem]; (try simp (disch :=omega) only [w64,td,tm]); try (refine ⟨by kernel_rfl,?_⟩))))
         refine ⟨i + 1,by omega,by omega,?_⟩
         rw [← hdone]
         refine aA _ [.old 0 ⟨3,1,D1.map ii⟩,.old 1 ⟨43,1,[bsl R]⟩] (by simp [go_sem]) ?_
         simp [go_sem]
         try omega
       | succ k =>
         have hks : k < s.length :=by omega
         obtain ⟨p,hp⟩ : ∃ p,pre.length + k = p :=⟨_,rfl⟩
         have hp1 : pre.length + (k + 1) = p + 1 :=by omega
         have hi1 : p + 1 < (rowX pre s x po (k + 1)).length :=by omega
         have hi2 : p < (rowX pre s x po (k + 1)).length :=by omega
         have hat : (rowX pre s x po (k + 1))[p + 1] = x :=by
          have :=IN (pre :=pre) (s :=s) (x :=x) (post :=po) hk (by omega)
          simp only [hp1] at this; exact this
         have hpv : (rowX pre s x po (k + 1))[p] = s[k] :=by
          have :=CW (pre :=pre) (s :=s) (x :=x) (post :=po) hks (by omega)
          simp only [hp] at this; exact this
         have hsw :=CX (pre :=pre) (x :=x) (post :=po) hks
         rw [hp,hp1] at hsw
         have hy :=hsm s[k] (List.getElem_mem hks)
         have ht1 : ((p : Int) + 1).toNat = p + 1 :=by omega
         have hwp : IntKind.i64.wrap (p : Int) = (p : Int) :=w64 (by omega) (by omega)
         have hgt : (pre.length : Int) < (p : Int) + 1 :=by omega
         have hgt2 : pre.length < p + 1 :=by omega
         have hpb : p + 1 ≤ 100000 :=by omega
         have hcm :=MX R hok x s[k] hxr ⟨hy.2.1,hy.2.2⟩
         have hneg :=IP R x s[k]
         have hbef : bef (kf R) x s[k] ↔ cmpC R x s[k] < 0 :=by rw [hneg]; unfold bef; omega
         have hdk : bef (kf R) x s[k] → ∀ e ∈ s.drop k,bef (kf R) x e :=fun h e he => by
          rw [List.drop_eq_getElem_cons hks] at he
          rcases List.mem_cons.1 he with rfl | he
          · exact h
          · exact hd e he
         have hup : ¬ bef (kf R) x s[k] → ∀ e ∈ s.take (k + 1),bef (kf R) e x :=fun h e he => by
          have hyx : bef (kf R) s[k] x :=(sW (by omega)).resolve_left h
          rw [List.take_succ_eq_append_getElem hks] at he
          rcases List.mem_append.1 he with he | he
          · obtain ⟨j,hj,rfl⟩ :=List.mem_take_iff_getElem.1 he
            exact sV (List.pairwise_iff_getElem.1 hss j k (by omega) hks (by omega)) hyx
          · simp at he; rw [he]; exact hyx
         rw [hp1]
         obtain ⟨y,hye⟩ : ∃ y,s[k] = y :=⟨_,rfl⟩
         rw [hye] at hpv hsw hcm hbef hdk hup
         generalize rowX pre s x po (k + 1) = D1 at *
         have hzs : zoneEs (((D1.map ii).set (p + 1) (ii y)).set p (ii x)) = true :=by
          rw [← List.map_set,← List.map_set]; exact e8 _ _ (fun _ => rfl)
         have hns : nth ((D1.map ii).set (p + 1) (ii y)) p = ii y :=by
          rw [← List.map_set,eC ii (by simpa using hi2),List.getElem_set_ne (by omega),hpv]
         (repeat (refine aC q7x2 hX a7 rfl ?_; (simp [go_sem,hi1,hi2,hat,hpv,ht1,hwp,hgt,hgt2]; try (refine ⟨by kernel_rfl,?_⟩))))
         (repeat refine And.intro (by first | omega | (unfold maxLen; omega) | kernel_rfl | (refine ⟨by first | omega | (unfold maxLen; omega),by first | omega | (unfold maxLen; omega)⟩) | grind) ?_)
         first | refine i9 [1] (fun hg => hcm) (by simp [go_sem]) (by simp [go_sem]) ?_ | refine fY [1] (fun hg => hcm) (by simp [go_sem]) ?_
         try (simp [go_sem,hi1,hi2,hat,hpv,ht1,hwp,hgt,hgt2]; try (refine ⟨by kernel_rfl,?_⟩))
         refine a8 (b :=decide (cmpC R x y < 0)) (by simp [go_sem]) (fun hd2 => ?_) (fun hd2 => ?_)
         · simp only [decide_eq_true_eq] at hd2
           (repeat (refine aC q7x2 hX a7 rfl ?_; (simp [go_sem,hi1,hi2,hat,hpv,ht1,hwp,hzs]; (try simp (disch :=omega) only [w64,td,tm]); try (refine ⟨by kernel_rfl,?_⟩))))
           try (simp [go_sem,hi1,hi2,hat,hpv,ht1,hwp,hzs]; try (refine ⟨by kernel_rfl,?_⟩))
           (repeat refine And.intro (by first | omega | (unfold maxLen; omega) | kernel_rfl | (refine ⟨by first | omega | (unfold maxLen; omega),by first | omega | (unfold maxLen; omega)⟩) | grind) ?_)
           (repeat (refine aC q7x2 hX a7 rfl ?_; (simp [go_sem,hi1,hi2,hat,hpv,ht1,hwp,hzs]; (try simp (disch :=omega) only [w64,td,tm]); try (refine ⟨by kernel_rfl,?_⟩))))
           refine ⟨k,⟨by omega,hdk (hbef.2 hd2)⟩,by omega,?_⟩
           rw [← hsw]
           refine aA _ [.old 0 ⟨3,1,((D1.set (p + 1) y).set p x).map ii⟩,.old 1 ⟨43,1,[bsl R]⟩] (by simp [go_sem,hns,hzs]) ?_
           simp [go_sem]
           try omega
         · simp only [decide_eq_false_iff_not] at hd2
           (repeat (refine aC q7x2 hX a7 rfl ?_; (simp [go_sem]; (try simp (disch :=omega) only [w64,td,tm]); try (refine ⟨by kernel_rfl,?_⟩))))
           refine ⟨i + 1,by omega,by omega,?_⟩
           rw [← done (hup fun h => hd2 (hbef.1 h))]
           refine aA _ [.old 0 ⟨3,1,D1.map ii⟩,.old 1 ⟨43,1,[bsl R]⟩] (by simp [go_sem]) ?_
           simp [go_sem]
           try omega
   · simp at hc
     have hd2 : r3 pre (srt (kf R) (l.take i)) (l.drop i ++ post) = r3 pre (srt (kf R) l) post :=by
      rw [List.take_of_length_le (by omega),List.drop_of_length_le (by omega)]; rfl
     rw [hd2]
     (repeat (refine aC q7x2 hX a7 rfl ?_; (simp [go_sem]; try (refine ⟨by kernel_rfl,?_⟩))))
     (try refine b8 ?_); (try simp only [thenQ,blkQ,loopQ]); refine j0 [(1000000,.ow 0),(1000001,.ow 1)] [.old 0 ⟨3,1,(r3 pre (srt (kf R) l) post).map ii⟩,.old 1 ⟨43,1,[bsl R]⟩] ?_
     simp [go_sem]
end Go.Proofs.YtknbcehhjffndaaGreat.B

