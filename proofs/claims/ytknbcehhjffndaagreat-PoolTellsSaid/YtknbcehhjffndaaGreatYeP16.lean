/-
  Lemmas for the statement at the top.
-/
import Derived.Test.YtknbcehhjffndaaGreatYeP14
import Derived.Test.YtknbcehhjffndaaGreatYeP15
import Derived.Test.YtknbcehhjffndaaGreatYeP9
import Derived.Test.YtknbcehhjffndaaGreatYeP13
import Derived.Test.YtknbcehhjffndaaGreatYeP12
set_option linter.all false
namespace Go.Ab
def q12x0 : List Nat :=[0,1,4,5,6,7,8,9,10,11,12,13,14,15,16,17,18,19,20,21,22,23,24,25,26,27,28,29,34,40,45,72,88,99,115,126,143,155,171,182,214]
def q12x1 : List Nat :=[0,1,4,5,6,21,25,49,53,88]
def q12x2 : List Nat :=[0,1,4,5,9,13,21]
def q12x3 : List Nat :=[0,1,2,3,4,5,6,7,8,9,10,11,19]
attribute [go_sem] q12x0 q12x1 q12x2 q12x3
end Go.Ab
namespace Go.Proofs.YtknbcehhjffndaaGreat
open Go.RowKit Go.Ab
attribute [local irreducible] AWP Go.Ab.Sub Means MeansH MeansX CallK CallG CallT CallGT CallU
def fewTo (S : List (List Int)) (i : Nat) : Prop :=∀ k,k < i → (S.getD k []).length ≤ 14
def fewP (own : List Int) (S : List (List Int)) : Prop :=own.length ≤ 6 ∧ S.length ≤ 6 ∧ fewTo S S.length
noncomputable instance (own : List Int) (S : List (List Int)) : Decidable (fewP own S) :=Classical.propDecidable _
theorem I7 {S : List (List Int)} {k : Nat} (h : k < S.length) : S.getD k [] = S[k] :=by rw [List.getD_eq_getElem?_getD,List.getElem?_eq_getElem h]; rfl
theorem xP (l : List Int) (hl : l.length ≤ 1000) (h : ∀ x ∈ l,0 ≤ x ∧ x ≤ 1000) : Means false Tryz.prog 48 [il l] (ii (sumI l)) :=by
 refine aB false 18 [.tmp 2] Tryz.func48 rfl rfl rfl (by simp) (by decide) rfl fun X hX => ?_
 (repeat (refine a6 [0,2,3,4,8] hX a7 rfl ?_; (simp [go_sem])))
 refine aF (fun k : Nat => ⟨mkE [(0,il l),(3,ii (sumI (l.take k))),(4,ii k)],[]⟩) (fun k => k ≤ l.length) (fun k => l.length - k) 0 ?_ ?_ ?_
 · refine aA _ [] (by simp [go_sem]) ?_
   simp [go_sem,sumI]
 · omega
 · intro k hk
   (repeat (refine a6 [0,2,3,4,8] hX a7 rfl ?_; (simp [go_sem])))
   refine a8 (b :=decide (k < l.length)) (by simp [go_sem]) (fun hb => ?_) (fun hb => ?_)
   · simp only [decide_eq_true_eq] at hb
     have q1 :=eM hb
     have b1 :=fQ l k h
     have b2 :=fQ l (k + 1) h
     have e : sumI (l.take (k + 1)) = sumI (l.take k) + l[k] :=by rw [List.take_succ_eq_append_getElem hb,cG]
     rw [e] at b2
     have w1 :=w64 (x :=sumI (l.take k) + l[k]) (by omega) (by omega)
     have w2 :=w64 (x :=(k : Int) + 1) (by omega) (by omega)
     (repeat (refine a6 [0,2,3,4,8] hX a7 rfl ?_; (simp [go_sem,hb,q1,w1,w2])))
     refine ⟨k + 1,by omega,by omega,?_⟩
     rw [e]
     refine aA _ [] (by simp [go_sem]) ?_
     simp [go_sem]
   · simp only [decide_eq_false_iff_not] at hb
     have hk2 : k = l.length :=by omega
     subst hk2
     rw [List.take_length]
     (repeat (refine a6 [0,2,3,4,8] hX a7 rfl ?_; (simp [go_sem])))
def cellOk (S : List (List Int)) (k j : Nat) : Prop :=0 ≤ sO S k j ∧ sO S k j ≤ 1000 ∧ (k = j → sO S k j = 0)
noncomputable instance (S : List (List Int)) (k j : Nat) : Decidable (cellOk S k j) :=Classical.propDecidable _
def cellsTo (S : List (List Int)) (k j : Nat) : Prop :=∀ t,t < j → cellOk S k t
def rowsTo (own : List Int) (S : List (List Int)) (i : Nat) : Prop :=∀ k,k < i → rowOk own S k
theorem CP {own : List Int} {S : List (List Int)} {k : Nat} (hk : k < own.length) : rowOk own S k ↔ (0 ≤ wO own k ∧ wO own k ≤ 1099511627776) ∧ (S.getD k []).length = own.length ∧ cellsTo S k own.length :=by
 unfold rowOk cellsTo cellOk
 constructor
 · rintro ⟨h1,h2,h3,h4⟩
   refine ⟨h1,h2,fun t ht => ?_⟩
   have ht' : t < (S.getD k []).length :=by omega
   have : sO S k t = (S.getD k [])[t] :=by unfold sO; exact bF ht'
   have h5 :=h3 _ (List.getElem_mem ht')
   rw [← this] at h5
   exact ⟨h5.1,h5.2,fun e => e ▸ h4⟩
 · rintro ⟨h1,h2,h3⟩
   refine ⟨h1,h2,fun x hx => ?_,(h3 k hk).2.2 rfl⟩
   obtain ⟨t,ht,rfl⟩ :=List.getElem_of_mem hx
   have : sO S k t = (S.getD k [])[t] :=by unfold sO; exact bF ht
   have :=h3 t (by omega)
   omega
set_option maxHeartbeats 8000000 in
set_option maxRecDepth 20000 in
theorem FM (own : List Int) (S : List (List Int)) (hl : own.length ≤ 9223372036854775807) (hS : S.length ≤ 9223372036854775807) : Means false Tryz.prog 75 [il own,ill S] (bb (decide (PR own S))) :=by
 by_cases h0 : 0 < own.length ∧ own.length ≤ 12 ∧ S.length = own.length
 · refine aB false 89 [.tmp 4] Tryz.func75 rfl rfl rfl (by simp) (by decide) rfl fun X hX => ?_
   (repeat (refine a6 q12x1 hX a7 rfl ?_; (simp [go_sem])))
   refine a8 (b :=false) (by simp [go_sem,h0.2.2]; omega) (fun h => by cases h) (fun _ => ?_)
   (repeat (refine a6 q12x1 hX a7 rfl ?_; (simp [go_sem])))
   refine aF (fun k : Nat => ⟨mkE [(0,il own),(1,ill S),(5,ii k)],[]⟩) (fun k => k ≤ own.length ∧ rowsTo own S k) (fun k => own.length - k) 0 ?_ ?_ ?_
   · refine aA _ [] (by simp [go_sem]) ?_
     simp [go_sem]
   · exact ⟨by omega,fun j hj => by omega⟩
   · rintro k ⟨hk,hp⟩
     have wk :=w64 (x :=(k : Int) + 1) (by omega) (by omega)
     (repeat (refine a6 q12x1 hX a7 rfl ?_; (simp [go_sem])))
     refine a8 (b :=decide (k < own.length)) (by simp [go_sem]) (fun hb => ?_) (fun hb => ?_)
     · simp only [decide_eq_true_eq] at hb
       have hkS : k < S.length :=by omega
       have q1 :=eM hb
       have q2 :=jC (L :=S) hkS
       have hg :=I7 hkS
       have hro :=CP (S :=S) hb
       rw [hg,show wO own k = own[k] from bF hb] at hro
       (repeat (refine a6 q12x1 hX a7 rfl ?_; (simp [go_sem,hb,hkS,q1,q2])))
       refine a8 (b :=decide (¬ ((0 ≤ own[k] ∧ own[k] ≤ 1099511627776) ∧ S[k].length = own.length))) (by simp [go_sem,hb,hkS,q1,q2]; try grind) (fun hd => ?_) (fun hd => ?_)
       · have e : ¬ PR own S :=fun h => by
          have :=((jD own S).1 h).2 k hb
          have :=hro.1 this
          simp [this.1,this.2.1] at hd
         (repeat (refine a6 q12x1 hX a7 rfl ?_; (simp [go_sem,e])))
       · have hd : 0 ≤ own[k] ∧ own[k] ≤ 1099511627776 ∧ S[k].length = own.length :=by simpa using hd
         (repeat (refine a6 q12x1 hX a7 rfl ?_; (simp [go_sem])))
         refine aF (fun j : Nat => ⟨mkE [(0,il own),(1,ill S),(5,ii k),(6,ii j)],[]⟩) (fun j => j ≤ own.length ∧ cellsTo S k j) (fun j => own.length - j) 0 ?_ ?_ ?_
         · refine aA _ [] (by simp [go_sem]) ?_
           simp [go_sem]
         · exact ⟨by omega,fun j hj => by omega⟩
         · rintro j ⟨hj,hc⟩
           have wj :=w64 (x :=(j : Int) + 1) (by omega) (by omega)
           (repeat (refine a6 q12x1 hX a7 rfl ?_; (simp [go_sem])))
           refine a8 (b :=decide (j < own.length)) (by simp [go_sem]) (fun hb2 => ?_) (fun hb2 => ?_)
           · simp only [decide_eq_true_eq] at hb2
             have hjS : j < S[k].length :=by omega
             have q3 :=eM hjS
             have hso : S[k][j] = sO S k j :=by unfold sO; rw [hg]; exact (bF hjS).symm
             rw [hso] at q3
             have hco : cellOk S k j ↔ 0 ≤ sO S k j ∧ sO S k j ≤ 1000 ∧ (k = j → sO S k j = 0) :=Iff.rfl
             generalize sO S k j = v at *
             (repeat (refine a6 q12x1 hX a7 rfl ?_; (simp [go_sem,hb2,hkS,hjS,q2,q3])))
             refine ⟨fun h1 h2 h3 => ⟨⟨h1,h2⟩,h3⟩,?_⟩
             refine a8 (b :=decide (v < 0) || decide (1000 < v) || decide ((k : Int) = (j : Int)) && !decide (v = 0)) (by simp [go_sem]) (fun hd2 => ?_) (fun hd2 => ?_)
             · simp only [Bool.or_eq_true,Bool.and_eq_true,Bool.not_eq_true',decide_eq_true_eq,decide_eq_false_iff_not] at hd2
               have e : ¬ PR own S :=fun h => by
                have :=((jD own S).1 h).2 k hb
                have :=hco.1 ((hro.1 this).2.2 j hb2)
                omega
               (repeat (refine a6 q12x1 hX a7 rfl ?_; (simp [go_sem,e])))
             · simp only [Bool.or_eq_false_iff,Bool.and_eq_false_iff,Bool.not_eq_false',decide_eq_true_eq,decide_eq_false_iff_not] at hd2
               have hd2 : cellOk S k j :=hco.2 (by omega)
               (repeat (refine a6 q12x1 hX a7 rfl ?_; (simp [go_sem,wj])))
               refine ⟨j + 1,⟨by omega,fun t ht => ?_⟩,by omega,?_⟩
               · by_cases e : t = j
                 · subst e; exact hd2
                 · exact hc t (by omega)
               · refine aA _ [] (by simp [go_sem]) ?_
                 simp [go_sem]
           · simp only [decide_eq_false_iff_not] at hb2
             have : j = own.length :=by omega
             subst this
             (repeat (refine a6 q12x1 hX a7 rfl ?_; (simp [go_sem,wk])))
             refine ⟨k + 1,⟨by omega,fun t ht => ?_⟩,by omega,?_⟩
             · by_cases e : t = k
               · subst e; exact hro.2 ⟨⟨hd.1,hd.2.1⟩,hd.2.2,hc⟩
               · exact hp t (by omega)
             · refine aA _ [] (by simp [go_sem]) ?_
               simp [go_sem]
     · simp only [decide_eq_false_iff_not] at hb
       have hk2 : k = own.length :=by omega
       subst hk2
       have e : PR own S :=(jD own S).2 ⟨h0,hp⟩
       (repeat (refine a6 q12x1 hX a7 rfl ?_; (simp [go_sem,e])))
 · have e : ¬ PR own S :=fun h => h0 ⟨h.pos,h.most,h.len⟩
   refine aB false 89 [.tmp 4] Tryz.func75 rfl rfl rfl (by simp) (by decide) rfl fun X hX => ?_
   (repeat (refine a6 q12x1 hX a7 rfl ?_; (simp [go_sem])))
   refine a8 (b :=true) (by simp [go_sem]; omega) (fun _ => ?_) (fun h => by cases h)
   (repeat (refine a6 q12x1 hX a7 rfl ?_; (simp [go_sem,e])))
theorem L3 (own : List Int) (S : List (List Int)) (hl : own.length ≤ 9223372036854775807) (hS : S.length ≤ 9223372036854775807) : Means false Tryz.prog 42 [il own,ill S] (ii (badP own S)) :=by
 have c1 :=FM own S hl hS
 refine aB false 22 [.tmp 4] Tryz.func42 rfl rfl rfl (by simp) (by decide) rfl fun X hX => ?_
 (repeat (refine a6 q12x2 hX a7 rfl ?_; (simp [go_sem])))
 refine a9 (c1) ?_
 try (simp [go_sem])
 by_cases h : PR own S
 · refine a8 (b :=false) (by simp [go_sem,h]) (fun h => by cases h) (fun _ => ?_)
   (repeat (refine a6 q12x2 hX a7 rfl ?_; (simp [go_sem])))
   refine aF (fun k : Nat => ⟨mkE [(1,ill S),(5,ii k)],[]⟩) (fun k => k ≤ S.length ∧ ∀ l ∈ S.take k,sumI l < 1000) (fun k => S.length - k) 0 ?_ ?_ ?_
   · refine aA _ [] (by simp [go_sem]) ?_
     simp [go_sem]
   · exact ⟨by omega,by simp⟩
   · rintro k ⟨hk,hp⟩
     have hsl :=h.len
     have hmo :=h.most
     have wk :=w64 (x :=(k : Int) + 1) (by omega) (by omega)
     (repeat (refine a6 q12x2 hX a7 rfl ?_; (simp [go_sem])))
     refine a8 (b :=decide (k < S.length)) (by simp [go_sem]) (fun hb => ?_) (fun hb => ?_)
     · simp only [decide_eq_true_eq] at hb
       have q2 :=jC (L :=S) hb
       have hpr :=iU h (List.getElem_mem hb)
       have c2 :=xP S[k] (by omega) hpr.2
       (repeat (refine a6 q12x2 hX a7 rfl ?_; (simp [go_sem,hb,q2])))
       refine a9 (c2) ?_
       try (simp [go_sem])
       refine a8 (b :=decide (1000 ≤ sumI S[k])) (by simp [go_sem]) (fun hd => ?_) (fun hd => ?_)
       · simp only [decide_eq_true_eq] at hd
         have e : badP own S = 23 :=by
          unfold badP
          rw [if_pos h,if_neg fun hv => by have :=hv.lt _ (List.getElem_mem hb); omega]
         (repeat (refine a6 q12x2 hX a7 rfl ?_; (simp [go_sem,e])))
       · simp only [decide_eq_false_iff_not] at hd
         (repeat (refine a6 q12x2 hX a7 rfl ?_; (simp [go_sem,wk])))
         refine ⟨k + 1,⟨by omega,fun l hl => ?_⟩,by omega,?_⟩
         · rw [List.take_succ_eq_append_getElem hb] at hl
           rcases List.mem_append.1 hl with hl | hl
           · exact hp l hl
           · simp at hl; subst hl; omega
         · refine aA _ [] (by simp [go_sem]) ?_
           simp [go_sem]
     · simp only [decide_eq_false_iff_not] at hb
       rw [List.take_of_length_le (by omega)] at hp
       have e : badP own S = 0 :=by unfold badP; rw [if_pos h,if_pos ⟨h,hp⟩]
       (repeat (refine a6 q12x2 hX a7 rfl ?_; (simp [go_sem,e])))
 · have e : badP own S = 1 :=by unfold badP; rw [if_neg h]
   rw [e]
   refine a8 (b :=true) (by simp [go_sem,h]) (fun _ => ?_) (fun h => by cases h)
   (repeat (refine a6 q12x2 hX a7 rfl ?_; (simp [go_sem])))
end Go.Proofs.YtknbcehhjffndaaGreat

namespace Go.Proofs.YtknbcehhjffndaaGreat
open Go.RowKit Go.Ab
attribute [local irreducible] AWP Go.Ab.Sub Means MeansH CallK CallG CallT CallGT CallU
theorem FN {a b : Rat} (ha : rq a) (hb : rq b) : Means false Tryz.prog 53 [frq a,frq b] (qv (okAdd a b) (a + b)) :=by
 have :=L4 a.num a.den b.num b.den (eF ha) (eF hb)
 obtain ⟨h1,h2⟩ :=eL (iM a b) (nM a b)
 by_cases h : okAdd a b
 · rw [cU h,h1,h2] at this
   rw [iN h]; exact this
 · rw [cA h] at this
   rw [qV h]; exact this
theorem I8 {a b : Rat} (ha : rq a) (hb : rq b) (h : okAdd a b) : Means false Tryz.prog 53 [frq a,frq b] (.tup [frq (a + b),ii 0]) :=by
 have :=FN ha hb
 rwa [iN h] at this
theorem L5 {a b : Rat} (ha : rq a) (hb : rq b) : Means false Tryz.prog 44 [frq a,frq b] (qv (okSub a b) (a - b)) :=by
 have :=L6 a.num a.den b.num b.den (eF ha) (eF hb)
 obtain ⟨h1,h2⟩ :=eL (iM a b) (tJ a b)
 by_cases h : okSub a b
 · rw [cU h,h1,h2] at this
   rw [iN h]; exact this
 · rw [cA h] at this
   rw [qV h]; exact this
theorem B4 {a b : Rat} (ha : rq a) (hb : rq b) (h : okSub a b) : Means false Tryz.prog 44 [frq a,frq b] (.tup [frq (a - b),ii 0]) :=by
 have :=L5 ha hb
 rwa [iN h] at this
theorem L7 {a b : Rat} (ha : rq a) (hb : rq b) : Means false Tryz.prog 47 [frq a,frq b] (qv (okMul a b) (a * b)) :=by
 have :=L8 a.num a.den b.num b.den (eF ha) (eF hb)
 obtain ⟨h1,h2⟩ :=eL (iM a b) (nN a b)
 by_cases h : okMul a b
 · rw [cU h,h1,h2] at this
   rw [iN h]; exact this
 · rw [cA h] at this
   rw [qV h]; exact this
theorem B5 {a b : Rat} (ha : rq a) (hb : rq b) (h : okMul a b) : Means false Tryz.prog 47 [frq a,frq b] (.tup [frq (a * b),ii 0]) :=by
 have :=L7 ha hb
 rwa [iN h] at this
theorem L9 {a b : Rat} (ha : rq a) (hb : rq b) (h0 : b ≠ 0) : Means false Tryz.prog 45 [frq a,frq b] (qv (okDiv a b) (a / b)) :=by
 have :=LA a.num a.den b.num b.den (eF ha) (eF hb) (yF h0)
 obtain ⟨h1,h2⟩ :=eL (DT a h0) (tK a b h0)
 by_cases h : okDiv a b
 · rw [cU h,h1,h2] at this
   rw [iN h]; exact this
 · rw [cA h] at this
   rw [qV h]; exact this
theorem I9 {a b : Rat} (ha : rq a) (hb : rq b) (h0 : b ≠ 0) (h : okDiv a b) : Means false Tryz.prog 45 [frq a,frq b] (.tup [frq (a / b),ii 0]) :=by
 have :=L9 ha hb h0
 rwa [iN h] at this
end Go.Proofs.YtknbcehhjffndaaGreat

namespace Go.Proofs.YtknbcehhjffndaaGreat
open Go.RowKit Go.Ab
attribute [local irreducible] AWP Go.Ab.Sub Means MeansH MeansX CallK CallG CallT CallGT CallU
theorem MU (p q : Int) (hp : -9223372036854775808 ≤ p ∧ p ≤ 9223372036854775807) (hq : -9223372036854775808 ≤ q ∧ q ≤ 9223372036854775807) (h0 : q ≠ 0) : Means false Tryz.prog 76 [ii p,ii q] (.tup [frq ((p : Rat) / (q : Rat)),ii 0]) :=by
 have :=MV p q _ _ 0 hp hq (FO p q (l3 hp) (l3 hq) h0)
 obtain ⟨h1,h2⟩ :=eL (r :=(p : Rat) / (q : Rat)) h0 (ofq h0)
 rwa [h1,h2] at this
theorem FP (p q : Int) (hp : -9223372036854775808 ≤ p ∧ p ≤ 9223372036854775807) (hq : -9223372036854775808 ≤ q ∧ q ≤ 9223372036854775807) (h0 : q ≠ 0) : Means false Tryz.prog 43 [ii p,ii q] (frq ((p : Rat) / (q : Rat))) :=by
 have c1 :=MU p q hp hq h0
 generalize (p : Rat) / (q : Rat) = r at *
 refine aB false 14 [.cell 4 62] Tryz.func43 rfl rfl rfl (by simp) (by decide) rfl fun X hX => ?_
 (repeat (refine a6 [0,1,4,5] hX a7 rfl ?_; (simp [go_sem])))
 refine a9 (c1) ?_
 try (simp [go_sem])
 (repeat (refine a6 [0,1,4,5] hX a7 rfl ?_; (simp [go_sem])))
theorem qC (p : Int) (hp : -9223372036854775808 ≤ p ∧ p ≤ 9223372036854775807) : Means false Tryz.prog 43 [ii p,ii 1] (frq ((p : Int) : Rat)) :=by
 have :=FP p 1 hp (by decide) (by decide)
 rwa [n9] at this
theorem IA {a b c : Rat} (ha : rq a) (hb : rq b) (hc : rq c) (h1 : okMul b c) (h2 : okAdd a (b * c)) : Means false Tryz.prog 46 [frq a,frq b,frq c] (.tup [frq (a + b * c),ii 0]) :=by
 have c1 :=B5 hb hc h1
 have c2 :=I8 ha (DS h1) h2
 generalize a + b * c = r at *
 generalize b * c = m at *
 refine aB false 30 [.cell 6 62,.tmp 7] Tryz.func46 rfl rfl rfl (by simp) (by decide) rfl fun X hX => ?_
 (repeat (refine a6 q12x3 hX a7 rfl ?_; (simp [go_sem])))
 refine a9 (c1) ?_
 try (simp [go_sem])
 (repeat (refine a6 q12x3 hX a7 rfl ?_; (simp [go_sem])))
 refine a8 (b :=false) (by simp [go_sem]) (fun h => by cases h) (fun _ => ?_)
 (repeat (refine a6 q12x3 hX a7 rfl ?_; (simp [go_sem])))
 refine a9 (c2) ?_
 try (simp [go_sem])
 (repeat (refine a6 q12x3 hX a7 rfl ?_; (simp [go_sem])))
end Go.Proofs.YtknbcehhjffndaaGreat

namespace Go.Proofs.YtknbcehhjffndaaGreat
open Go.RowKit Go.Ab
attribute [local irreducible] AWP Go.Ab.Sub Means MeansH MeansX CallK CallG CallT CallGT CallU
abbrev bxC (r : Rat) : Cell :=.row ⟨62,4,[frq r]⟩
theorem nA {X : Ctx} {env : Nat → AV} (L : List (Nat × AV)) (s0 s1 : Src) (a b : Cell) (A : Mx) (n : Nat) (T : List Cell)
  (h0 : okS0 (s0 :: s1 :: .old 2 ⟨43,1,outN 3 n⟩ :: matS (fun k => k + 3) 62 4 0 (mxL A n)) (a :: b :: outC 3 n :: (mxC A n ++ T)) [s0,s1])
  (hd : ([s0,s1].filterMap Src.rid).Nodup) (hi : ∀ x ∈ [s0,s1].filterMap Src.rid,x < 2 ∨ n + 3 ≤ x)
  (hL : okL (s0 :: s1 :: .old 2 ⟨43,1,outN 3 n⟩ :: matS (fun k => k + 3) 62 4 0 (mxL A n)) ⟨env,a :: b :: outC 3 n :: (mxC A n ++ T)⟩ L) :
  Go.Ab.Sub X ⟨mkE L,s0.cell :: s1.cell :: outC 3 n :: mxC A n⟩ ⟨env,a :: b :: outC 3 n :: (mxC A n ++ T)⟩ :=
 mF L s0 s1 a b (mxL A n) T n (aU A n) (fun es he => by
  obtain ⟨j,hj,rfl⟩ :=List.getElem_of_mem he
  exact cV (List.getElem?_eq_getElem hj)) h0 hd hi hL
theorem mG {X : Ctx} {env : Nat → AV} (L : List (Nat × AV)) (s0 s1 : Src) (a b : Cell) (A : Mx) (n : Nat)
  (h0 : okS0 (s0 :: s1 :: .old 2 ⟨43,1,outN 3 n⟩ :: matS (fun k => k + 3) 62 4 0 (mxL A n)) (a :: b :: outC 3 n :: mxC A n) [s0,s1])
  (hd : ([s0,s1].filterMap Src.rid).Nodup) (hi : ∀ x ∈ [s0,s1].filterMap Src.rid,x < 2)
  (hL : okL (s0 :: s1 :: .old 2 ⟨43,1,outN 3 n⟩ :: matS (fun k => k + 3) 62 4 0 (mxL A n)) ⟨env,a :: b :: outC 3 n :: mxC A n⟩ L) :
  Go.Ab.Sub X ⟨mkE L,s0.cell :: s1.cell :: outC 3 n :: mxC A n⟩ ⟨env,a :: b :: outC 3 n :: mxC A n⟩ :=by
 have :=nA (X :=X) (env :=env) L s0 s1 a b A n [] (by rw [List.append_nil]; exact h0) hd (fun x hx => .inl (hi x hx)) (by rw [List.append_nil]; exact hL)
 rwa [List.append_nil] at this
set_option maxHeartbeats 16000000 in
set_option maxRecDepth 100000 in
theorem FQ (own : List Int) (S : List (List Int)) (hv : PV own S) (h6 : own.length ≤ 6) : Means false Tryz.prog 19 [il own,ill S] (.tup [.sl (allL own S),.sl (keptL own S),ii 0]) :=by
 have h :=hv.toPR
 have hn :=hv.most
 have hSl :=hv.len
 have hbad : badP own S = 0 :=by unfold badP; rw [if_pos h,if_pos hv]
 have c0 :=L3 own S (by omega) (by omega)
 rw [hbad] at c0
 have hF :=LB hv h6
 have hend : ∀ j,j < own.length → gR (rM own S) own.length j own.length = allX own S j :=fun j hj => LC hv hj
 have hM0 : gR (rM own S) 0 = rM own S :=rfl
 have hMs : ∀ i,gR (rM own S) (i + 1) = rStep (gR (rM own S) i) i :=fun _ => rfl
 refine aB false 222 [.tmp 4,.tmp 5,.tmp 6] Tryz.func19 rfl rfl rfl (by simp) (by decide) rfl fun X hX => ?_
 (repeat (refine a6 q12x0 hX a7 rfl ?_; (simp [go_sem]; try (refine ⟨by kernel_rfl,?_⟩))))
 first | refine a9 (c0) ?_ | refine aE (c0) ?_
 try (simp [go_sem]; try (refine ⟨by kernel_rfl,?_⟩))
 (repeat (refine a6 q12x0 hX a7 rfl ?_; (simp [go_sem]; try (refine ⟨by kernel_rfl,?_⟩))))
 refine a8 (b :=false) (by simp [go_sem]) (fun h => by cases h) (fun _ => ?_)
 (repeat (refine a6 q12x0 hX a7 rfl ?_; (simp [go_sem]; try (refine ⟨by kernel_rfl,?_⟩))))
 refine aF (fun i : Nat => ⟨mkE [(0,il own),(1,ill S),(8,ii own.length),(9,.ow 2),(10,ii i)],.row ⟨62,4,[]⟩ :: .dead :: outC 3 i :: matC 62 4 ((mxL (rM own S) own.length).take i)⟩) (fun i => i ≤ own.length) (fun i => own.length - i) 0 ?_ ?_ ?_
 · refine bQ (b :=⟨mkE [(0,il own),(1,ill S),(8,ii own.length),(9,.ow 2),(10,ii ((0 : Nat) : Int))],[.row ⟨62,4,[]⟩,.row ⟨62,4,[]⟩,.row ⟨43,1,[]⟩]⟩) ?_ ?_
   · refine aA _ [.old 0 ⟨62,4,[]⟩,.gone 1,.old 2 ⟨43,1,[]⟩] (by simp [go_sem]) ?_
     simp [go_sem]
   · refine aA _ [.birth 62 4,.birth 62 4,.birth 43 1] (by simp [go_sem]) ?_
     simp [go_sem]
 · omega
 · intro i hi
   (repeat (refine a6 q12x0 hX a7 rfl ?_; (simp [go_sem]; try (refine ⟨by kernel_rfl,?_⟩))))
   refine a8 (b :=decide (i < own.length)) (by simp [go_sem]) (fun hb => ?_) (fun hb => ?_)
   · simp only [decide_eq_true_eq] at hb
     clear hF hend hM0 hMs
     have hMl : ((mxL (rM own S) own.length).take i).length = i :=by rw [List.length_take,aU]; omega
     have hMz : ∀ es ∈ (mxL (rM own S) own.length).take i,zoneEs es = true :=fun es he => by
      obtain ⟨j,hj,rfl⟩ :=List.getElem_of_mem (List.mem_of_mem_take he)
      exact cV (List.getElem?_eq_getElem hj)
     have hMs : (mxL (rM own S) own.length).take (i + 1) = (mxL (rM own S) own.length).take i ++ [rowL (rM own S) own.length i] :=by
      have hl : i < (mxL (rM own S) own.length).length :=by rw [aU]; exact hb
      rw [List.take_succ_eq_append_getElem hl]
      have :=cE (A :=rM own S) hb
      rw [List.getElem?_eq_getElem hl] at this
      rw [Option.some.inj this]
     have hRs : ∀ j,j < own.length + 1 → (rowL (rM own S) own.length i).take (j + 1) = (rowL (rM own S) own.length i).take j ++ [frq (rM own S i j)] :=fun j hj => by
      have hl : j < (rowL (rM own S) own.length i).length :=by rw [aS]; exact hj
      rw [List.take_succ_eq_append_getElem hl]
      have :=c6 (A :=rM own S) (n :=own.length) (k :=i) (t :=j) (by omega)
      rw [qD hl] at this
      rw [this]
     have hRl : ∀ j,j ≤ own.length → ((rowL (rM own S) own.length i).take j).length = j :=fun j hj => by rw [List.length_take,aS]; omega
     have hRz : ∀ j,zoneEs ((rowL (rM own S) own.length i).take j) = true :=fun j => mX j _ (mH _ _ _)
     have hRe : (rowL (rM own S) own.length i).take (own.length + 1) = rowL (rM own S) own.length i :=List.take_of_length_le (by rw [aS]; omega)
     have wi :=w64 (x :=(i : Int) + 1) (by omega) (by omega)
     obtain ⟨M,hM⟩ : ∃ M,(mxL (rM own S) own.length).take i = M :=⟨_,rfl⟩
     rw [hM] at hMl hMz hMs ⊢
     clear hM
     have hMC : (matC 62 4 M).length = i :=by rw [aY,hMl]
     (repeat (refine a6 q12x0 hX a7 rfl ?_; (simp [go_sem]; try (refine ⟨by kernel_rfl,?_⟩))))
     refine aF (fun j : Nat => ⟨mkE [(0,il own),(1,ill S),(8,ii own.length),(9,.ow 2),(10,ii i),(11,.ow 1),(12,ii j)],.row ⟨62,4,[]⟩ :: .row ⟨62,4,(rowL (rM own S) own.length i).take j⟩ :: outC 3 i :: matC 62 4 M⟩) (fun j => j ≤ own.length) (fun j => own.length - j) 0 ?_ ?_ ?_
     · have :=mF (X :=X) (env :=mkE [(0,il own),(1,ill S),(8,ii own.length),(9,.ow 2),(10,ii i),(11,.nil),(12,ii (0 : Nat))]) [(0,il own),(1,ill S),(8,ii own.length),(9,.ow 2),(10,ii i),(11,.ow 1),(12,ii (0 : Nat))] (.old 0 ⟨62,4,[]⟩) (.birth 62 4) (.row ⟨62,4,[]⟩) .dead (E1 :=43) (E2 :=62) (k2 :=4) M [] i hMl hMz (by simp [go_sem]) (by simp [Src.rid,List.filterMap_cons]) (by simp [Src.rid,List.filterMap_cons]) (by simp [go_sem])
       rw [List.append_nil] at this
       exact bQ this (b9 _ _ rfl (by simp [go_sem]))
     · omega
     · intro j hj
       (repeat (refine a6 q12x0 hX a7 rfl ?_; (simp [go_sem]; try (refine ⟨by kernel_rfl,?_⟩))))
       refine a8 (b :=decide (j < own.length)) (by simp [go_sem]) (fun hc => ?_) (fun hc => ?_)
       · simp only [decide_eq_true_eq] at hc
         have hjS : j < S.length :=by rw [h.len]; exact hc
         have hlr :=h.row S[j] (List.getElem_mem hjS)
         have hij2 : i < S[j].length :=by omega
         have q1 :=jC (L :=S) hjS
         have q2 :=eM hij2
         have hso : sO S j i = S[j][i] :=by
          unfold sO
          rw [List.getD_eq_getElem?_getD (l :=S),List.getElem?_eq_getElem hjS]
          exact bF hij2
         have hsb :=h.s j i hc hb
         rw [hso] at hsb
         have hA :=xQ (own :=own) (S :=S) (k :=i) hc
         rw [hso] at hA
         have wj :=w64 (x :=(j : Int) + 1) (by omega) (by omega)
         have hRj :=hRs j (by omega)
         have hlj :=hRl j (by omega)
         have hRjz :=hRz j
         have c1 :=FP S[j][i] 1000 (by omega) (by decide) (by decide)
         rw [← hA] at c1
         generalize (rowL (rM own S) own.length i).take j = R at *
         generalize hsv : S[j][i] = sv at *
         generalize rM own S i j = rv at *
         (repeat (refine a6 q12x0 hX a7 rfl ?_; (simp [go_sem,q1,q2,hjS,hij2]; try (refine ⟨by kernel_rfl,?_⟩))))
         first | refine a9 (c1) ?_ | refine aE (c1) ?_
         try (simp [go_sem,hlj]; try (refine ⟨by kernel_rfl,?_⟩))
         (repeat refine And.intro (by first | omega | (unfold maxLen; omega) | (refine ⟨by omega,by omega⟩)) ?_)
         try (repeat (refine a6 q12x0 hX a7 rfl ?_; (simp [go_sem,wj]; try (refine ⟨by kernel_rfl,?_⟩))))
         refine ⟨j + 1,by omega,by omega,?_⟩
         rw [hRj]
         have hfb : ∀ x y : Cell,(matC 62 4 M ++ [x,y])[i + 1]? = some y :=fun x y => by
          rw [List.getElem?_append_right (by rw [aY]; omega),aY,hMl,Nat.add_sub_cancel_left]; rfl
         refine bQ ?_ (b9 [(0,il own),(1,ill S),(8,ii own.length),(9,.ow 2),(10,ii i),(11,.ow (i + 4)),(12,ii ((j + 1 : Nat) : Int))] _ rfl (by simp [go_sem,hMC]))
         exact mF _ (.old 0 ⟨62,4,[]⟩) (.old (i + 4) ⟨62,4,R ++ [frq rv]⟩) (.row ⟨62,4,[]⟩) .dead (E1 :=43) (E2 :=62) (k2 :=4) M _ i hMl hMz (by simp [go_sem,hfb,hRjz]) (by simp [Src.rid,List.filterMap_cons]) (by simp [Src.rid,List.filterMap_cons]) (by simp [go_sem])
       · simp only [decide_eq_false_iff_not] at hc
         have hj2 : j = own.length :=by omega
         subst hj2
         have q1 :=eM hb
         have hw :=h.w i hb
         rw [show wO own i = own[i] from bF hb] at hw
         have hA :=z7 (own :=own) (S :=S) i
         rw [show wO own i = own[i] from bF hb] at hA
         have hRj :=hRs own.length (by omega)
         have hlj :=hRl own.length (by omega)
         rw [hRe,hA] at hRj
         have hRjz :=hRz own.length
         generalize (rowL (rM own S) own.length i).take own.length = R at *
         generalize hov : own[i] = ov at *
         have c1 :=qC ov (by omega)
         generalize ((ov : Int) : Rat) = rv at *
         (repeat (refine a6 q12x0 hX a7 rfl ?_; (simp [go_sem,q1,hb]; try (refine ⟨by kernel_rfl,?_⟩))))
         first | refine a9 (c1) ?_ | refine aE (c1) ?_
         try (simp [go_sem,hlj]; try (refine ⟨by kernel_rfl,?_⟩))
         (repeat refine And.intro (by first | omega | (unfold maxLen; omega) | (refine ⟨by omega,by omega⟩)) ?_)
         refine And.intro (by rw [aX]; exact ⟨by omega,by unfold maxLen; omega⟩) ?_
         try (repeat (refine a6 q12x0 hX a7 rfl ?_; (simp [go_sem,wi]; try (refine ⟨by kernel_rfl,?_⟩))))
         refine ⟨i + 1,by omega,by omega,?_⟩
         rw [hMs,hRj]
         refine bQ ?_ (b9 [(0,il own),(1,ill S),(8,ii own.length),(9,.ow (i + 6)),(10,ii ((i + 1 : Nat) : Int))] _ rfl (by simp [go_sem,hMC]))
         rw [hMC]
         exact B6 _ (.old 0 ⟨62,4,[]⟩) (.gone 0) (.row ⟨62,4,[]⟩) .dead .dead (E1 :=43) (E2 :=62) (k2 :=4) M _ _ _ i hMl hMz (by simp [go_sem,hRjz]) (by simp [go_sem]) (by simp [Src.rid,List.filterMap_cons]) (by simp [Src.rid,List.filterMap_cons]) (by simp [go_sem])
   · simp only [decide_eq_false_iff_not] at hb
     have hi2 : i = own.length :=by omega
     subst hi2
     rw [show (mxL (rM own S) own.length).take own.length = mxL (rM own S) own.length from List.take_of_length_le (by rw [aU]; exact Nat.le_refl _)]
     rw [← hM0]
     generalize hGG : gR (rM own S) = G at *
     generalize hN : own.length = n at *
     have hn6 : n ≤ 6 :=h6
     have hFe : ∀ i j t,i ≤ n → j < n → t ≤ n → rq (G i j t) :=by rw [← hGG]; exact hF.ent
     have hFp : ∀ i,i < n → 1 - G i i i ≠ 0 :=by rw [← hGG]; exact hF.piv
     have hFl : ∀ i,i < n → okSub 1 (G i i i) :=by rw [← hGG]; exact hF.less
     have hFd : ∀ i t,i < n → t ≤ n → okDiv (rO (G i) i t) (1 - G i i i) :=by rw [← hGG]; exact hF.div
     have hFm : ∀ i j t,i < n → j < n → j ≠ i → t ≤ n → okMul (G i j i) (rR (G i) i t) :=by rw [← hGG]; exact hF.mul
     have hFa : ∀ i j t,i < n → j < n → j ≠ i → t ≤ n → okAdd (if t = i then 0 else G i j t) (G i j i * rR (G i) i t) :=by rw [← hGG]; exact hF.add
     clear hF hM0 hGG
     (repeat (refine a6 q12x0 hX a7 rfl ?_; (simp [go_sem]; try (refine ⟨by kernel_rfl,?_⟩))))
     refine aF (fun i : Nat => ⟨mkE [(0,il own),(1,ill S),(8,ii n),(9,.ow 2),(13,ii i)],.dead :: .dead :: outC 3 n :: mxC (G i) n⟩) (fun i => i ≤ n) (fun i => n - i) 0 ?_ ?_ ?_
     · have :=nA (X :=X) (env :=mkE [(0,il own),(1,ill S),(8,ii n),(9,.ow 2),(13,ii (0 : Nat))]) [(0,il own),(1,ill S),(8,ii n),(9,.ow 2),(13,ii (0 : Nat))] (.gone 0) (.gone 0) (.row ⟨62,4,[]⟩) .dead (G 0) n [] (by simp [go_sem]) (by simp [Src.rid,List.filterMap_cons]) (by simp [Src.rid,List.filterMap_cons]) (by simp [go_sem])
       rw [List.append_nil] at this
       exact bQ this (b9 _ _ rfl (by simp [go_sem]))
     · omega
     · intro i hi
       (repeat (refine a6 q12x0 hX a7 rfl ?_; (simp [go_sem]; try (refine ⟨by kernel_rfl,?_⟩))))
       refine a8 (b :=decide (i < n)) (by simp [go_sem]) (fun hb => ?_) (fun hb => ?_)
       · simp only [decide_eq_true_eq] at hb
         have wi :=w64 (x :=(i : Int) + 1) (by omega) (by omega)
         have q1 :=gB (b :=3) hb
         have g1 :=bG (E :=62) (k :=4) (cE (A :=G i) hb)
         have r1 :=c6 (A :=G i) (k :=i) (Nat.le_of_lt hb)
         have e1 :=hFe i i i hi hb (Nat.le_of_lt hb)
         have o1 :=qC 1 (by decide)
         rw [show ((1 : Int) : Rat) = 1 from rfl] at o1
         have o0 :=qC 0 (by decide)
         rw [show ((0 : Int) : Rat) = 0 from rfl] at o0
         have rq1 : rq (1 : Rat) :=kM (z :=1) (by decide)
         have rq0 : rq (0 : Rat) :=kM (z :=0) (by decide)
         have c1 :=B4 rq1 e1 (hFl i hb)
         have hlq : rq (1 - G i i i) :=DR (hFl i hb)
         have hl0 :=hFp i hb
         have hld :=hFd i
         have hBl : (mxC (G i) n).length = n :=by rw [aY,aU]
         have hin : i < n + 1 :=by omega
         have hr : ∀ k,rO (G i) i k / (1 - G i i i) = rR (G i) i k :=fun _ => rfl
         obtain ⟨one,hone⟩ : ∃ r : Rat,1 = r :=⟨_,rfl⟩
         obtain ⟨le,hle⟩ : ∃ r,1 - G i i i = r :=⟨_,rfl⟩
         rw [hle] at c1 hlq hl0 hr
         have hld2 : ∀ t,t ≤ n → okDiv (rO (G i) i t) le :=fun t ht => by rw [← hle]; exact hld t hb ht
         rw [hone] at c1 o1
         obtain ⟨zr,hzr⟩ : ∃ r : Rat,0 = r :=⟨_,rfl⟩
         rw [hzr] at o0
         clear hld hle rq1
         (repeat (refine a6 q12x0 hX a7 rfl ?_; (simp [go_sem]; try (refine ⟨by kernel_rfl,?_⟩))))
         first | refine a9 (o1) ?_ | refine aE (o1) ?_
         try (simp [go_sem,q1,g1,hb,r1,aX,aS,hin])
         try (repeat refine And.intro (by first | omega | (unfold maxLen; omega) | kernel_rfl | (refine ⟨by first | omega | (unfold maxLen; omega),by first | omega | (unfold maxLen; omega)⟩) | grind) ?_)
         first | refine a9 (c1) ?_ | refine aE (c1) ?_
         try (simp [go_sem,q1,g1,hb,r1,aX,aS,hin])
         refine ⟨c7 3 (n + 3) (by simp [mapT,phi,bN,hb,hBl]; kernel_rfl),?_⟩
         (repeat (refine a6 q12x0 hX a7 rfl ?_; (simp [go_sem]; try (refine ⟨by kernel_rfl,?_⟩))))
         refine a8 (b :=false) (by simp [go_sem]) (fun h => by cases h) (fun _ => ?_)
         have hfb : ∀ x : Cell,(mxC (G i) n ++ [x])[n]? = some x :=fun x => by rw [List.getElem?_append_right (by omega),hBl,Nat.sub_self]; rfl
         refine eR (nA [(0,il own),(1,ill S),(8,ii n),(9,.ow 2),(13,ii i),(14,.el 0 4 0 0)] (.old (n + 3) ⟨62,4,[frq le]⟩) (.gone 0) .dead .dead (G i) n [bxC le] (by simp [go_sem,hfb]) (by simp [Src.rid,List.filterMap_cons]) (by simp [Src.rid,List.filterMap_cons]) (by simp [go_sem,hBl])) ?_
         simp only [Src.cell]
         have hset :=nZ (A :=G i) (n :=n) 0 hb (Nat.le_of_lt hb)
         rw [IB] at hset
         rw [hzr] at hset
         (repeat (refine a6 q12x0 hX a7 rfl ?_; (simp [go_sem,q1,g1,hb,r1,aX,aS,hin]; try (refine ⟨by kernel_rfl,?_⟩))))
         try (repeat refine And.intro (by first | omega | (unfold maxLen; omega) | kernel_rfl | (refine ⟨by first | omega | (unfold maxLen; omega),by first | omega | (unfold maxLen; omega)⟩) | grind) ?_)
         first | refine a9 (o0) ?_ | refine aE (o0) ?_
         try (simp [go_sem,q1,g1,hb,r1,aX,aS,hin])
         try (repeat refine And.intro (by first | omega | (unfold maxLen; omega) | (refine ⟨by omega,by omega⟩)) ?_)
         refine ⟨c7 3 (n + 3) (by simp [mapT,phi,bN,hb,hBl]; kernel_rfl),?_⟩
         (repeat (refine a6 q12x0 hX a7 rfl ?_; (simp [go_sem]; try (refine ⟨by kernel_rfl,?_⟩))))
         clear g1 r1 hBl hfb
         refine aF (fun k : Nat => ⟨mkE [(0,il own),(1,ill S),(8,ii n),(9,.ow 2),(13,ii i),(14,.el 0 4 0 0),(16,ii k)],bxC le :: .dead :: outC 3 n :: mxC (rD (G i) i k) n⟩) (fun k => k ≤ n + 1) (fun k => n + 1 - k) 0 ?_ ?_ ?_
         · exact b9 _ _ (by dsimp only [mxC]; rw [← hset,← kZ]) (by simp [go_sem])
         · omega
         · intro k hk
           (repeat (refine a6 q12x0 hX a7 rfl ?_; (simp [go_sem]; try (refine ⟨by kernel_rfl,?_⟩))))
           refine a8 (b :=decide (k ≤ n)) (by simp [go_sem]) (fun hc => ?_) (fun hc => ?_)
           · simp only [decide_eq_true_eq] at hc
             have wk :=w64 (x :=(k : Int) + 1) (by omega) (by omega)
             have g2 :=bG (E :=62) (k :=4) (cE (A :=rD (G i) i k) hb)
             have r2 :=c6 (A :=rD (G i) i k) (k :=i) hc
             rw [MW] at r2
             have e2 : rq (rO (G i) i k) :=by
              unfold rO
              split
              · exact rq0
              · exact hFe i i k hi hb hc
             have c2 :=I9 e2 hlq hl0 (hld2 k hc)
             rw [hr] at c2
             have hset2 :=nZ (A :=rD (G i) i k) (n :=n) (rR (G i) i k) hb hc
             rw [IC] at hset2
             have hkn : k < n + 1 :=by omega
             have hBl : (mxC (rD (G i) i k) n).length = n :=by rw [aY,aU]
             have hfb : ∀ x : Cell,(mxC (rD (G i) i k) n ++ [x])[n]? = some x :=fun x => by rw [List.getElem?_append_right (by omega),hBl,Nat.sub_self]; rfl
             obtain ⟨nv,hnv⟩ : ∃ r,rR (G i) i k = r :=⟨_,rfl⟩
             rw [hnv] at c2 hset2
             (repeat (refine a6 q12x0 hX a7 rfl ?_; (simp [go_sem,q1,g2,hb,r2,aX,aS,hkn]; try (refine ⟨by kernel_rfl,?_⟩))))
             try (repeat refine And.intro (by first | omega | (unfold maxLen; omega) | kernel_rfl | (refine ⟨by first | omega | (unfold maxLen; omega),by first | omega | (unfold maxLen; omega)⟩) | grind) ?_)
             first | refine a9 (c2) ?_ | refine aE (c2) ?_
             try (simp [go_sem,q1,g2,hb,r2,aX,aS,hkn])
             try (repeat refine And.intro (by first | omega | (unfold maxLen; omega) | (refine ⟨by omega,by omega⟩)) ?_)
             refine ⟨c7 3 (n + 3) (by simp [mapT,phi,bN,hb,hBl]; kernel_rfl),?_⟩
             (repeat (refine a6 q12x0 hX a7 rfl ?_; (simp [go_sem]; try (refine ⟨by kernel_rfl,?_⟩))))
             refine a8 (b :=false) (by simp [go_sem]) (fun h => by cases h) (fun _ => ?_)
             refine eR (nA [(0,il own),(1,ill S),(8,ii n),(9,.ow 2),(13,ii i),(14,.el 0 4 0 0),(16,ii k),(17,.el 1 4 0 0)] (.old 0 ⟨62,4,[frq le]⟩) (.old (n + 3) ⟨62,4,[frq nv]⟩) (bxC le) .dead (rD (G i) i k) n [bxC nv] (by simp [go_sem,hfb]) (by simp [Src.rid,List.filterMap_cons]) (by simp [Src.rid,List.filterMap_cons]) (by simp [go_sem,hBl])) ?_
             simp only [Src.cell]
             (repeat (refine a6 q12x0 hX a7 rfl ?_; (simp [go_sem,q1,g2,hb,r2,aX,aS,hkn]; try (refine ⟨by kernel_rfl,?_⟩))))
             try (repeat refine And.intro (by first | omega | (unfold maxLen; omega) | (refine ⟨by omega,by omega⟩)) ?_)
             refine ⟨c7 3 (n + 3) (by simp [mapT,phi,bN,hb,hBl]; kernel_rfl),?_⟩
             (repeat (refine a6 q12x0 hX a7 rfl ?_; (simp [go_sem,wk]; try (refine ⟨by kernel_rfl,?_⟩))))
             refine ⟨k + 1,by omega,by omega,?_⟩
             refine bQ (b :=⟨mkE [(0,il own),(1,ill S),(8,ii n),(9,.ow 2),(13,ii i),(14,.el 0 4 0 0),(16,ii ((k + 1 : Nat) : Int))],bxC le :: bxC nv :: outC 3 n :: mxC (rD (G i) i (k + 1)) n⟩) (mG _ (.old 0 ⟨62,4,[frq le]⟩) (.gone 0) _ _ _ _ (by simp [go_sem]) (by simp [Src.rid,List.filterMap_cons]) (by simp [Src.rid,List.filterMap_cons]) (by simp [go_sem])) (b9 _ _ (by dsimp only [mxC]; rw [← hset2,← kZ]) (by simp [go_sem]))
           · simp only [decide_eq_false_iff_not] at hc
             have hkn : k = n + 1 :=by omega
             subst hkn
             rw [show mxC (rD (G i) i (n + 1)) n = mxC (rJ (G i) i 0 0) n by dsimp only [mxC]; rw [FR]]
             (repeat (refine a6 q12x0 hX a7 rfl ?_; (simp [go_sem]; try (refine ⟨by kernel_rfl,?_⟩))))
             refine aF (fun j : Nat => ⟨mkE [(0,il own),(1,ill S),(8,ii n),(9,.ow 2),(13,ii i),(19,ii j)],.dead :: .dead :: outC 3 n :: mxC (rJ (G i) i j 0) n⟩) (fun j => j ≤ n) (fun j => n - j) 0 ?_ ?_ ?_
             · exact mG _ (.gone 0) (.gone 0) _ _ _ _ (by simp [go_sem]) (by simp [Src.rid,List.filterMap_cons]) (by simp [Src.rid,List.filterMap_cons]) (by simp [go_sem])
             · omega
             · intro j hj
               (repeat (refine a6 q12x0 hX a7 rfl ?_; (simp [go_sem]; try (refine ⟨by kernel_rfl,?_⟩))))
               refine a8 (b :=decide (j < n)) (by simp [go_sem]) (fun hc => ?_) (fun hc => ?_)
               · simp only [decide_eq_true_eq] at hc
                 have wj :=w64 (x :=(j : Int) + 1) (by omega) (by omega)
                 have q2 :=gB (b :=3) hc
                 have g3 :=bG (E :=62) (k :=4) (cE (A :=rJ (G i) i j 0) hc)
                 have r3 :=c6 (A :=rJ (G i) i j 0) (k :=j) (Nat.le_of_lt hb)
                 have hBl : (mxC (rJ (G i) i j 0) n).length = n :=by rw [aY,aU]
                 have hfb : ∀ x : Cell,(mxC (rJ (G i) i j 0) n ++ [x])[n]? = some x :=fun x => by rw [List.getElem?_append_right (by omega),hBl,Nat.sub_self]; rfl
                 have hvj : j ≠ i → rJ (G i) i j 0 j i = G i j i :=fun h => FS h (Nat.zero_le _)
                 obtain ⟨vj,hv2⟩ : ∃ r,rJ (G i) i j 0 j i = r :=⟨_,rfl⟩
                 rw [hv2] at r3 hvj
                 (repeat (refine a6 q12x0 hX a7 rfl ?_; (simp [go_sem,q2,g3,hc,r3,aX,aS,hin]; try (refine ⟨by kernel_rfl,?_⟩))))
                 try (repeat refine And.intro (by first | omega | (unfold maxLen; omega) | (refine ⟨by omega,by omega⟩)) ?_)
                 try (repeat (refine a6 q12x0 hX a7 rfl ?_; (simp [go_sem,hBl]; try (refine ⟨by kernel_rfl,?_⟩))))
                 refine aF (fun k : Nat => ⟨mkE [(0,il own),(1,ill S),(8,ii n),(9,.ow 2),(13,ii i),(19,ii j),(20,.el 1 4 0 0),(21,ii k)],.dead :: bxC vj :: outC 3 n :: mxC (rJ (G i) i j k) n⟩) (fun k => k ≤ n + 1 ∧ (j = i → k = 0)) (fun k => n + 1 - k) 0 ?_ ?_ ?_
                 · exact nA _ (.gone 0) (.old (n + 3) ⟨62,4,[frq vj]⟩) _ _ _ _ _ (by simp [go_sem,hfb]) (by simp [Src.rid,List.filterMap_cons]) (by simp [Src.rid,List.filterMap_cons]) (by simp [go_sem,hBl])
                 · exact ⟨by omega,fun _ => rfl⟩
                 · rintro k ⟨hk,hk0⟩
                   clear hBl hfb g3 r3
                   (repeat (refine a6 q12x0 hX a7 rfl ?_; (simp [go_sem]; try (refine ⟨by kernel_rfl,?_⟩))))
                   refine a8 (b :=decide (k ≤ n ∧ j ≠ i)) (by by_cases h1 : k ≤ n <;> by_cases h2 : j = i <;> simp [go_sem,h1,h2] <;> omega) (fun hd => ?_) (fun hd => ?_)
                   · simp only [decide_eq_true_eq] at hd
                     obtain ⟨hkl,hne⟩ :=hd
                     have hvj :=hvj hne
                     have wk :=w64 (x :=(k : Int) + 1) (by omega) (by omega)
                     have g3 :=bG (E :=62) (k :=4) (cE (A :=rJ (G i) i j k) hc)
                     have g4 :=bG (E :=62) (k :=4) (cE (A :=rJ (G i) i j k) hb)
                     have r3 :=c6 (A :=rJ (G i) i j k) (k :=j) hkl
                     have r4 :=c6 (A :=rJ (G i) i j k) (k :=i) hkl
                     rw [FS hne (Nat.le_refl _)] at r3
                     rw [LD] at r4
                     have hkn : k < n + 1 :=by omega
                     have hBl : (mxC (rJ (G i) i j k) n).length = n :=by rw [aY,aU]
                     have hfb : ∀ x : Cell,(mxC (rJ (G i) i j k) n ++ [x])[n]? = some x :=fun x => by rw [List.getElem?_append_right (by omega),hBl,Nat.sub_self]; rfl
                     have hset3 :=nZ (A :=rJ (G i) i j k) (n :=n) (rStep (G i) i j k) hc hkl
                     rw [ID _ _ _ _ hne] at hset3
                     have hst :=gM (T :=G i) hne k
                     have m1 :=hFm i j k hb hc hne hkl
                     have a1 :=hFa i j k hb hc hne hkl
                     have eo :=hFe i j k hi hc hkl
                     have ei :=hFe i j i hi hc (Nat.le_of_lt hb)
                     have er : rq (rR (G i) i k) :=yG (hFp i hb) (hFd i k hb hkl)
                     have c3 :=IA (a :=if k = i then 0 else G i j k) (by split; exact rq0; exact eo) ei er m1 a1
                     rw [← hst,← hvj] at c3
                     rw [hzr] at c3
                     obtain ⟨nv,hnv⟩ : ∃ r,rStep (G i) i j k = r :=⟨_,rfl⟩
                     rw [hnv] at c3 hset3
                     clear hst m1 a1 eo ei er hnv
                     (repeat (refine a6 q12x0 hX a7 rfl ?_; (simp [go_sem,q2,g3,hc,r3,aX,aS,hkn]; try (refine ⟨by kernel_rfl,?_⟩))))
                     try (repeat refine And.intro (by first | omega | (unfold maxLen; omega) | (refine ⟨by omega,by omega⟩)) ?_)
                     try (repeat (refine a6 q12x0 hX a7 rfl ?_; (simp [go_sem,hBl]; try (refine ⟨by kernel_rfl,?_⟩))))
                     refine eR (nA [(0,il own),(1,ill S),(8,ii n),(9,.ow 2),(13,ii i),(19,ii j),(20,.el 1 4 0 0),(21,ii k),(22,.el 0 4 0 0),(155,bb (decide (k = i)))] (.old (n + 3) ⟨62,4,[frq (G i j k)]⟩) (.old 1 ⟨62,4,[frq vj]⟩) .dead (bxC vj) (rJ (G i) i j k) n [bxC (G i j k)] (by simp [go_sem,hfb]) (by simp [Src.rid,List.filterMap_cons]) (by simp [Src.rid,List.filterMap_cons]) (by simp [go_sem,hBl]; try omega)) ?_
                     simp only [Src.cell]
                     refine gS ⟨mkE [(0,il own),(1,ill S),(8,ii n),(9,.ow 2),(13,ii i),(19,ii j),(20,.el 1 4 0 0),(21,ii k),(22,.el 0 4 0 0)],bxC (if k = i then zr else G i j k) :: bxC vj :: outC 3 n :: mxC (rJ (G i) i j k) n⟩ ?_ ?_
                     · refine a8 (b :=decide (k = i)) (by simp [go_sem]) (fun hq => ?_) (fun hq => ?_)
                       · simp only [decide_eq_true_eq] at hq
                         rw [if_pos hq]
                         (repeat (refine a6 q12x0 hX a7 rfl ?_; (simp [go_sem]; try (refine ⟨by kernel_rfl,?_⟩))))
                         first | refine a9 (o0) ?_ | refine aE (o0) ?_
                         try (simp [go_sem]; try (refine ⟨by kernel_rfl,?_⟩))
                         try (repeat (refine a6 q12x0 hX a7 rfl ?_; (simp [go_sem]; try (refine ⟨by kernel_rfl,?_⟩))))
                         exact b9 _ _ rfl (by simp [go_sem])
                       · simp only [decide_eq_false_iff_not] at hq
                         rw [if_neg hq]
                         (repeat (refine a6 q12x0 hX a7 rfl ?_; (simp [go_sem]; try (refine ⟨by kernel_rfl,?_⟩))))
                         exact b9 _ _ rfl (by simp [go_sem])
                     · obtain ⟨ov,hov⟩ : ∃ r,(if k = i then zr else G i j k) = r :=⟨_,rfl⟩
                       rw [hov] at c3 ⊢
                       generalize rR (G i) i k = rv at *
                       simp only [thenQ]
                       (repeat (refine a6 q12x0 hX a7 rfl ?_; (simp [go_sem,q1,g4,hb,r4,aX,aS,hkn]; try (refine ⟨by kernel_rfl,?_⟩))))
                       try (repeat refine And.intro (by first | omega | (unfold maxLen; omega) | kernel_rfl | (refine ⟨by first | omega | (unfold maxLen; omega),by first | omega | (unfold maxLen; omega)⟩) | grind) ?_)
                       first | refine a9 (c3) ?_ | refine aE (c3) ?_
                       try (simp [go_sem,q1,g4,hb,r4,aX,aS,hkn])
                       try (repeat refine And.intro (by first | omega | (unfold maxLen; omega) | (refine ⟨by omega,by omega⟩)) ?_)
                       refine ⟨c7 3 (n + 3) (by simp [mapT,phi,bN,hb,hBl]; kernel_rfl),?_⟩
                       (repeat (refine a6 q12x0 hX a7 rfl ?_; (simp [go_sem]; try (refine ⟨by kernel_rfl,?_⟩))))
                       refine a8 (b :=false) (by simp [go_sem]) (fun h => by cases h) (fun _ => ?_)
                       refine eR (nA [(0,il own),(1,ill S),(8,ii n),(9,.ow 2),(13,ii i),(19,ii j),(20,.el 1 4 0 0),(21,ii k),(23,.el 0 4 0 0)] (.old (n + 3) ⟨62,4,[frq nv]⟩) (.old 1 ⟨62,4,[frq vj]⟩) (bxC ov) (bxC vj) (rJ (G i) i j k) n [bxC nv] (by simp [go_sem,hfb]) (by simp [Src.rid,List.filterMap_cons]) (by simp [Src.rid,List.filterMap_cons]) (by simp [go_sem,hBl])) ?_
                       simp only [Src.cell]
                       (repeat (refine a6 q12x0 hX a7 rfl ?_; (simp [go_sem,q2,g3,hc,r3,aX,aS,hkn]; try (refine ⟨by kernel_rfl,?_⟩))))
                       try (repeat refine And.intro (by first | omega | (unfold maxLen; omega) | (refine ⟨by omega,by omega⟩)) ?_)
                       refine ⟨c7 3 (n + 3) (by simp [mapT,phi,bN,hc,hBl]; kernel_rfl),?_⟩
                       (repeat (refine a6 q12x0 hX a7 rfl ?_; (simp [go_sem,wk]; try (refine ⟨by kernel_rfl,?_⟩))))
                       refine ⟨k + 1,⟨by omega,fun h => absurd h hne⟩,by omega,?_⟩
                       exact bQ (b :=⟨mkE [(0,il own),(1,ill S),(8,ii n),(9,.ow 2),(13,ii i),(19,ii j),(20,.el 1 4 0 0),(21,ii ((k + 1 : Nat) : Int))],bxC nv :: bxC vj :: outC 3 n :: mxC (rJ (G i) i j (k + 1)) n⟩) (mG _ (.gone 0) (.old 1 ⟨62,4,[frq vj]⟩) _ _ _ _ (by simp [go_sem]) (by simp [Src.rid,List.filterMap_cons]) (by simp [Src.rid,List.filterMap_cons]) (by simp [go_sem])) (b9 _ _ (by dsimp only [mxC]; rw [← hset3,← kZ]) (by simp [go_sem]))
                   · simp only [decide_eq_false_iff_not] at hd
                     have hB : mxC (rJ (G i) i j k) n = mxC (rJ (G i) i (j + 1) 0) n :=by
                      dsimp only [mxC]
                      by_cases hji : j = i
                      · rw [hk0 hji,hji,IE]
                      · have : k = n + 1 :=by omega
                        rw [this,LE]
                     rw [hB]
                     (repeat (refine a6 q12x0 hX a7 rfl ?_; (simp [go_sem,wj]; try (refine ⟨by kernel_rfl,?_⟩))))
                     refine ⟨j + 1,by omega,by omega,?_⟩
                     exact mG _ (.gone 0) (.gone 0) _ _ _ _ (by simp [go_sem]) (by simp [Src.rid,List.filterMap_cons]) (by simp [Src.rid,List.filterMap_cons]) (by simp [go_sem])
               · simp only [decide_eq_false_iff_not] at hc
                 have hjn : j = n :=by omega
                 subst hjn
                 rw [show mxC (rJ (G i) i j 0) j = mxC (G (i + 1)) j by dsimp only [mxC]; rw [IF,hMs]]
                 (repeat (refine a6 q12x0 hX a7 rfl ?_; (simp [go_sem,wi]; try (refine ⟨by kernel_rfl,?_⟩))))
                 refine ⟨i + 1,by omega,by omega,?_⟩
                 exact mG _ (.gone 0) (.gone 0) _ _ _ _ (by simp [go_sem]) (by simp [Src.rid,List.filterMap_cons]) (by simp [Src.rid,List.filterMap_cons]) (by simp [go_sem])
       · simp only [decide_eq_false_iff_not] at hb
         have hi2 : i = n :=by omega
         subst hi2
         have hal : ∀ k,k < i → rq (G i k i) :=fun k hk => hFe i k i (Nat.le_refl _) hk (Nat.le_refl _)
         have hok : ∀ k,k < i → okMul (allX own S k) (((1000 - sumI (S.getD k []) : Int) : Rat) / ((1000 : Int) : Rat)) :=fun k hk => EK hv (by omega) (by omega)
         have hrS : ∀ k (hk : k < S.length),S[k].length ≤ 12 ∧ (∀ x ∈ S[k],0 ≤ x ∧ x ≤ 1000) ∧ sumI S[k] < 1000 :=fun k hk => ⟨(iU h (List.getElem_mem hk)).1,(iU h (List.getElem_mem hk)).2,hv.lt _ (List.getElem_mem hk)⟩
         clear hFe hFp hFl hFd hFm hFa hMs
         (repeat (refine a6 q12x0 hX a7 rfl ?_; (simp [go_sem]; try (refine ⟨by kernel_rfl,?_⟩))))
         refine aF (fun k : Nat => ⟨mkE [(0,il own),(1,ill S),(8,ii i),(9,.ow 2),(25,.ow 0),(26,.ow 1),(27,ii k)],.row ⟨62,4,(List.range k).map fun k => frq (allX own S k)⟩ :: .row ⟨62,4,(List.range k).map fun k => frq (keptX own S k)⟩ :: outC 3 i :: mxC (G i) i⟩) (fun k => k ≤ i) (fun k => i - k) 0 ?_ ?_ ?_
         · exact mG _ (.birth 62 4) (.birth 62 4) _ _ _ _ (by simp [go_sem]) (by simp [Src.rid,List.filterMap_cons]) (by simp [Src.rid,List.filterMap_cons]) (by simp [go_sem])
         · omega
         · intro k hk
           (repeat (refine a6 q12x0 hX a7 rfl ?_; (simp [go_sem]; try (refine ⟨by kernel_rfl,?_⟩))))
           refine a8 (b :=decide (k < i)) (by simp [go_sem]) (fun hc => ?_) (fun hc => ?_)
           · simp only [decide_eq_true_eq] at hc
             have wk :=w64 (x :=(k : Int) + 1) (by omega) (by omega)
             have hkS : k < S.length :=by omega
             have q1 :=gB (b :=3) hc
             have g1 :=bG (E :=62) (k :=4) (cE (A :=G i) hc)
             have r1 :=c6 (A :=G i) (k :=k) (Nat.le_refl i)
             have hrq :=hal k hc
             rw [hend k hc] at r1 hrq
             have p1 :=jC (L :=S) hkS
             obtain ⟨hs1,hs2,hs3⟩ :=hrS k hkS
             have hgv :=xP S[k] (by omega) hs2
             have hsb :=fQ S[k] S[k].length hs2
             rw [List.take_length] at hsb
             have hgd : S.getD k [] = S[k] :=by rw [List.getD_eq_getElem?_getD,List.getElem?_eq_getElem hkS]; rfl
             have hmk :=hok k hc
             have hkx : keptX own S k = allX own S k * (((1000 - sumI S[k] : Int) : Rat) / ((1000 : Int) : Rat)) :=by unfold keptX; rw [hgd]
             rw [hgd] at hmk
             have c1 :=FP (1000 - sumI S[k]) 1000 (by omega) (by decide) (by decide)
             have c2 :=B5 hrq (rL (p :=1000 - sumI S[k]) (q :=1000) (by omega) (by decide) (by decide)) hmk
             rw [← hkx] at c2
             have ws :=w64 (x :=1000 - sumI S[k]) (by omega) (by omega)
             have hki : k < i + 1 :=by omega
             have hBl : (mxC (G i) i).length = i :=by rw [aY,aU]
             have hsn : (List.range (k + 1)).map (fun k => frq (allX own S k)) = (List.range k).map (fun k => frq (allX own S k)) ++ [frq (allX own S k)] :=by rw [List.range_succ,List.map_append]; rfl
             have hsn2 : (List.range (k + 1)).map (fun k => frq (keptX own S k)) = (List.range k).map (fun k => frq (keptX own S k)) ++ [frq (keptX own S k)] :=by rw [List.range_succ,List.map_append]; rfl
             have hl1 : ((List.range k).map fun k => frq (allX own S k)).length = k :=by simp
             have hl2 : ((List.range k).map fun k => frq (keptX own S k)).length = k :=by simp
             have hz1 : zoneEs ((List.range k).map fun k => frq (allX own S k)) = true :=fK fun _ => rfl
             have hz2 : zoneEs ((List.range k).map fun k => frq (keptX own S k)) = true :=fK fun _ => rfl
             clear hal hok hrS hmk hkx hgd hs1 hs2 hrq
             generalize (List.range k).map (fun k => frq (allX own S k)) = XA at *
             generalize (List.range k).map (fun k => frq (keptX own S k)) = XK at *
             generalize keptX own S k = kx at *
             generalize allX own S k = ax at *
             generalize ((1000 - sumI S[k] : Int) : Rat) / ((1000 : Int) : Rat) = sr at *
             generalize sumI S[k] = sg' at *
             have hgT : ∀ T : List Cell,(mxC (G i) i ++ T)[k]? = some (.row ⟨62,4,rowL (G i) i k⟩) :=fun T => by rw [List.getElem?_append_left (by omega)]; exact g1
             (repeat (refine a6 q12x0 hX a7 rfl ?_; (simp [go_sem,q1,g1,hc,r1,aX,aS]; try (refine ⟨by kernel_rfl,?_⟩))))
             try (repeat refine And.intro (by first | omega | (unfold maxLen; omega) | kernel_rfl | (refine ⟨by first | omega | (unfold maxLen; omega),by first | omega | (unfold maxLen; omega)⟩) | grind) ?_)
             try (repeat (refine a6 q12x0 hX a7 rfl ?_; (simp [go_sem,q1,hgT,hc,r1,aX,aS,hkS,p1]; try (refine ⟨by kernel_rfl,?_⟩))))
             try (repeat refine And.intro (by first | omega | (unfold maxLen; omega) | kernel_rfl | (refine ⟨by first | omega | (unfold maxLen; omega),by first | omega | (unfold maxLen; omega)⟩) | grind) ?_)
             first | refine a9 (hgv) ?_ | refine aE (hgv) ?_
             try (simp [go_sem,q1,hgT,hc,r1,aX,aS,hkS,p1,ws])
             try (repeat refine And.intro (by first | omega | (unfold maxLen; omega) | kernel_rfl | (refine ⟨by first | omega | (unfold maxLen; omega),by first | omega | (unfold maxLen; omega)⟩) | grind) ?_)
             first | refine a9 (c1) ?_ | refine aE (c1) ?_
             try (simp [go_sem,q1,hgT,hc,r1,aX,aS,hkS,p1,ws])
             try (repeat refine And.intro (by first | omega | (unfold maxLen; omega) | kernel_rfl | (refine ⟨by first | omega | (unfold maxLen; omega),by first | omega | (unfold maxLen; omega)⟩) | grind) ?_)
             first | refine a9 (c2) ?_ | refine aE (c2) ?_
             try (simp [go_sem,q1,hgT,hc,r1,aX,aS,hkS,p1,ws])
             try (repeat refine And.intro (by first | omega | (unfold maxLen; omega) | (refine ⟨by omega,by omega⟩)) ?_)
             refine ⟨c7 3 (i + 3) (by simp [mapT,phi,bN,hc,hBl,show ¬ i + 2 + 1 + 1 + 1 < 3 by omega,show ¬ i + 2 < i by omega]; kernel_rfl),?_⟩
             (repeat (refine a6 q12x0 hX a7 rfl ?_; (simp [go_sem]; try (refine ⟨by kernel_rfl,?_⟩))))
             refine a8 (b :=false) (by simp [go_sem]) (fun h => by cases h) (fun _ => ?_)
             (repeat (refine a6 q12x0 hX a7 rfl ?_; (simp [go_sem,hBl]; try (refine ⟨by kernel_rfl,?_⟩))))
             try (repeat refine And.intro (by first | omega | (unfold maxLen; omega) | kernel_rfl | (refine ⟨by first | omega | (unfold maxLen; omega),by first | omega | (unfold maxLen; omega)⟩) | grind) ?_)
             (repeat (refine a6 q12x0 hX a7 rfl ?_; (simp [go_sem,wk]; try (refine ⟨by kernel_rfl,?_⟩))))
             refine ⟨k + 1,by omega,by omega,?_⟩
             rw [hsn,hsn2]
             have hf1 : ∀ a b c d e : Cell,(mxC (G i) i ++ [a,b,c,d,e])[i + 1]? = some b :=fun a b c d e => by rw [List.getElem?_append_right (by omega),hBl,Nat.add_sub_cancel_left]; rfl
             have hf4 : ∀ a b c d e : Cell,(mxC (G i) i ++ [a,b,c,d,e])[i + 4]? = some e :=fun a b c d e => by rw [List.getElem?_append_right (by omega),hBl,Nat.add_sub_cancel_left]; rfl
             exact nA _ (.old (i + 4) ⟨62,4,XA ++ [frq ax]⟩) (.old (i + 7) ⟨62,4,XK ++ [frq kx]⟩) _ _ _ _ _ (by simp [go_sem,hf1,hf4,hz1,hz2]) (by simp [Src.rid,List.filterMap_cons]) (by simp [Src.rid,List.filterMap_cons]) (by simp [go_sem])
           · simp only [decide_eq_false_iff_not] at hc
             have hki : k = i :=by omega
             subst hki
             have hz1 : zoneEs ((List.range k).map fun k => frq (allX own S k)) = true :=fK fun _ => rfl
             have hz2 : zoneEs ((List.range k).map fun k => frq (keptX own S k)) = true :=fK fun _ => rfl
             rw [show allL own S = (List.range k).map (fun k => frq (allX own S k)) by show (List.range own.length).map _ = _; rw [hN],show keptL own S = (List.range k).map (fun k => frq (keptX own S k)) by show (List.range own.length).map _ = _; rw [hN]]
             (repeat (refine a6 q12x0 hX a7 rfl ?_; (simp [go_sem,hz1,hz2]; try (refine ⟨by kernel_rfl,?_⟩))))
end Go.Proofs.YtknbcehhjffndaaGreat

namespace Go.Proofs.YtknbcehhjffndaaGreat
open Go.RowKit Go.Ab
attribute [local irreducible] AWP Go.Ab.Sub Means MeansH MeansX CallK CallG CallT CallGT CallU
abbrev okFr (x : Fr) : Prop :=isF x.s1 x.L1 x.s2 x.L2
abbrev szFr (x : Fr) : Prop :=x.L1.length ≤ 100000 ∧ x.L2.length ≤ 100000
theorem IG {x : Fr} (h : okFr x) : ∃ r,rq r ∧ frR r = x :=by
 obtain ⟨p,q,h1,e1,e2,e3,e4⟩ :=z5 h
 obtain ⟨r,hr,rfl,hq⟩ :=M5 h1
 refine ⟨r,hr,?_⟩
 obtain ⟨s1,L1,s2,L2⟩ :=x
 simp only at e1 e2 e3 e4
 subst e1 e2 e3 e4
 unfold frR; rw [hq]
noncomputable def toQ (x : Fr) : Rat :=@dite _ (okFr x) (Classical.propDecidable _) (fun h => Classical.choose (IG h)) (fun _ => 0)
def chkP (own : List Int) (S : List (List Int)) (A K : List Fr) : Prop :=A.length = own.length ∧ K.length = own.length ∧ (∀ x ∈ A,okFr x) ∧ (∀ x ∈ K,okFr x) ∧ chkQ own S (A.map toQ) (K.map toQ)
noncomputable instance (own : List Int) (S : List (List Int)) (A K : List Fr) : Decidable (chkP own S A K) :=Classical.propDecidable _
theorem IH {a b : Rat} (ha : rq a) (hb : rq b) : Means false Tryz.prog 54 [frq a,frq b] (bb (decide (a = b))) :=by
 have :=H8 a.num a.den b.num b.den ha.1 ha.2 hb.1 hb.2
 have e : (a.num = b.num ∧ (a.den : Int) = b.den) ↔ a = b :=⟨fun h => KA h.1 h.2,fun h => by subst h; exact ⟨rfl,rfl⟩⟩
 rwa [show decide (a.num = b.num ∧ (a.den : Int) = b.den) = decide (a = b) from decide_eq_decide.2 e] at this
end Go.Proofs.YtknbcehhjffndaaGreat

namespace Go.Proofs.YtknbcehhjffndaaGreat
end Go.Proofs.YtknbcehhjffndaaGreat

namespace Go.Proofs.YtknbcehhjffndaaGreat
def took (n : Nat) (O : List Int) : List Bool :=(List.range n).map fun i : Nat => decide ((i : Int) ∈ O)
theorem FT (n : Nat) (O : List Int) : (took n O).length = n :=by simp [took]
theorem o5 {n : Nat} {O : List Int} {i : Nat} (h : i < (took n O).length) : (took n O)[i] = decide ((i : Int) ∈ O) :=by simp [took]
theorem CQ (n : Nat) : took n [] = List.replicate n false :=by
 apply List.ext_getElem
 · simp [took]
 · intro i h1 h2; rw [o5 h1]; simp
theorem CR {n : Nat} {O : List Int} {j b : Nat} (hj : j < O.length) (h : O[j] = (b : Int)) : took n (O.take (j + 1)) = (took n (O.take j)).set b true :=by
 apply List.ext_getElem
 · simp [took]
 · intro i h1 h2
   rw [o5 h1,List.getElem_set]
   rw [List.length_set] at h2
   rw [o5 h2,List.take_succ_eq_append_getElem hj,h]
   by_cases e : b = i
   · subst e; simp
   · rw [if_neg e]
     have : ¬ (i : Int) = b :=by omega
     simp [this]
theorem CS {R : List Int} {O : List Int} (hO : O = srt (kR R) (idxI R.length)) {k : Nat} (hk : k < O.length) {b : Nat} (hb : b < R.length) (hnb : ¬ (b : Int) ∈ O.take k)
  (h1 : ∀ j (hj : j < R.length),¬ (j : Int) ∈ O.take k → R[j] ≤ R[b]) (h2 : ∀ j (hj : j < R.length),j < b → ¬ (j : Int) ∈ O.take k → R[j] < R[b]) : O[k] = (b : Int) :=by
 have hp : O.Perm (idxI R.length) :=by rw [hO]; exact dN _ _
 have hnd : O.Nodup :=hp.symm.nodup (dZ _)
 have hmem : ∀ x,x ∈ O ↔ 0 ≤ x ∧ x < R.length :=fun x => by rw [hp.mem_iff]; exact fF
 have hsrt : O.Pairwise (bef (kR R)) :=by rw [hO]; exact kI (dZ _)
 have hx :=(hmem O[k]).1 (List.getElem_mem hk)
 obtain ⟨m,hm⟩ : ∃ m,(O[k]).toNat = m :=⟨_,rfl⟩
 have hmx : (m : Int) = O[k] :=by omega
 have hmR : m < R.length :=by omega
 have hnot : (m : Int) ∉ O.take k :=by
  intro q
  obtain ⟨j,hj,e⟩ :=List.getElem_of_mem q
  rw [List.getElem_take,hmx] at e
  have hjk : j < k :=by rw [List.length_take] at hj; omega
  exact absurd e (List.pairwise_iff_getElem.1 hnd j k (by omega) hk hjk)
 have hle :=h1 m hmR hnot
 have hbO : (b : Int) ∈ O :=(hmem b).2 ⟨by omega,by omega⟩
 obtain ⟨j,hj,e⟩ :=List.getElem_of_mem hbO
 rcases Nat.lt_trichotomy j k with q | q | q
 · exact absurd (by rw [← e]; exact List.mem_take_iff_getElem.2 ⟨j,by omega,rfl⟩) hnb
 · subst q; exact e
 · have hbef :=List.pairwise_iff_getElem.1 hsrt k j hk hj q
   rw [e] at hbef
   have k1 : kR R O[k] = R[m] :=by unfold kR; rw [hm,List.getD_eq_getElem?_getD,List.getElem?_eq_getElem hmR]; rfl
   have k2 : kR R (b : Int) = R[b] :=by unfold kR; rw [Int.toNat_natCast,List.getD_eq_getElem?_getD,List.getElem?_eq_getElem hb]; rfl
   unfold bef at hbef
   rw [k1,k2] at hbef
   rcases hbef with h | ⟨h,h'⟩
   · omega
   · have :=h2 m hmR (by omega) hnot
     omega
def isFree (R : List Int) (O : List Int) (k : Nat) (b : Int) : Prop :=
 (b = -1 ∧ ∀ j,j < k → (j : Int) ∈ O) ∨ ∃ p : Nat,b = p ∧ p < k ∧ ∃ hp : p < R.length,¬ (p : Int) ∈ O ∧ (∀ j (hj : j < R.length),j < k → ¬ (j : Int) ∈ O → R[j] ≤ R[p]) ∧ ∀ j (hj : j < R.length),j < p → ¬ (j : Int) ∈ O → R[j] < R[p]
theorem uY {R O : List Int} {k : Nat} {b : Int} (h : isFree R O k b) (ht : (k : Int) ∈ O) : isFree R O (k + 1) b :=by
 rcases h with ⟨e,h⟩ | ⟨p,e,hp,hpR,h1,h2,h3⟩
 · exact .inl ⟨e,fun j hj => by
    by_cases q : j = k
    · subst q; exact ht
    · exact h j (by omega)⟩
 · exact .inr ⟨p,e,by omega,hpR,h1,fun j hj hjk hn => by
    by_cases q : j = k
    · subst q; exact absurd ht hn
    · exact h2 j hj (by omega) hn,h3⟩
theorem nB {R O : List Int} {k : Nat} {b : Int} (h : isFree R O k b) (hk : k < R.length) (ht : ¬ (k : Int) ∈ O) (hb : b < 0 ∨ ∃ p : Nat,b = p ∧ ∃ hp : p < R.length,R[p] < R[k]) : isFree R O (k + 1) k :=by
 refine .inr ⟨k,rfl,by omega,hk,ht,fun j hj hjk hn => ?_,fun j hj hjk hn => ?_⟩ <;> rcases h with ⟨e,h⟩ | ⟨p,e,hp,hpR,h1,h2,h3⟩
 · by_cases q : j = k
   · subst q; exact Int.le_refl _
   · exact absurd (h j (by omega)) hn
 · by_cases q : j = k
   · subst q; exact Int.le_refl _
   · have :=h2 j hj (by omega) hn
     rcases hb with hb | ⟨p',e',hp',hb⟩
     · omega
     · have : p = p' :=by omega
       subst this; omega
 · exact absurd (h j (by omega)) hn
 · have :=h2 j hj (by omega) hn
   rcases hb with hb | ⟨p',e',hp',hb⟩
   · omega
   · have : p = p' :=by omega
     subst this; omega
theorem xR {R O : List Int} {k : Nat} {p : Nat} (h : isFree R O k p) (hk : k < R.length) (hp : p < R.length) (hb : R[k] ≤ R[p]) : isFree R O (k + 1) p :=by
 rcases h with ⟨e,h⟩ | ⟨p',e,hp',hpR,h1,h2,h3⟩
 · omega
 · have : p = p' :=by omega
   subst this
   exact .inr ⟨p,rfl,by omega,hpR,h1,fun j hj hjk hn => by
    by_cases q : j = k
    · subst q; exact hb
    · exact h2 j hj (by omega) hn,h3⟩
end Go.Proofs.YtknbcehhjffndaaGreat

