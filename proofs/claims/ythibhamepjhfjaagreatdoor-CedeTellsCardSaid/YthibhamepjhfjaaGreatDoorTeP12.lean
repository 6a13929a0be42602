/-
  Lemmas for the statement at the top.
-/
import Derived.Test.YthibhamepjhfjaaGreatDoorTeP11
import Derived.Test.YthibhamepjhfjaaGreatDoorTeP10
set_option linter.all false
namespace Go.Proofs.YthibhamepjhfjaaGreatDoor
def q11x0 : List Nat :=[0,1,2,6,7,8,9,10,11,13,14,15,18,19,20,32,1000000]
def q11x1 : List Nat :=[0,1,4,5,6,7,8,22,23,24,25,26,59]
def q11x2 : List Nat :=[0,1,4,5,6,7,8,9,10,11,12,17,27,28,29,30,53]
def q11x3 : List Nat :=[0,1,4,5,7,8,9,16]
def q11x4 : List Nat :=[0,2,3,5,6,7,8,9]
attribute [go_sem] q11x0 q11x1 q11x2 q11x3 q11x4
def wO (own : List Int) (k : Nat) : Int :=own.getD k 0
def sO (S : List (List Int)) (i j : Nat) : Int :=(S.getD i []).getD j 0
def sumI : List Int → Int
 | [] => 0
 | x :: l => x + sumI l
theorem lS (l : List Int) (x : Int) : sumI (l ++ [x]) = sumI l + x :=by
 induction l with
 | nil => simp [sumI]
 | cons y l ih => simp only [List.cons_append,sumI,ih]; omega
structure PR (own : List Int) (S : List (List Int)) : Prop where
 pos : 0 < own.length
 most : own.length ≤ 12
 len : S.length = own.length
 w : ∀ k,k < own.length → 0 ≤ wO own k ∧ wO own k ≤ 1099511627776
 row : ∀ l ∈ S,l.length = own.length
 s : ∀ i j,i < own.length → j < own.length → 0 ≤ sO S i j ∧ sO S i j ≤ 1000
 d : ∀ i,i < own.length → sO S i i = 0
structure PV (own : List Int) (S : List (List Int)) : Prop extends PR own S where
 lt : ∀ l ∈ S,sumI l < 1000
def poolM (own : List Int) (S : List (List Int)) : Mx :=fun k t => if t = own.length then ((wO own k * 1000 : Int) : Rat) else if k = t then 1000 else ((-(sO S t k) : Int) : Rat)
theorem bS {l : List Int} {j : Nat} (h : j < l.length) : l.getD j 0 = l[j] :=by
 rw [List.getD_eq_getElem?_getD,List.getElem?_eq_getElem h]; rfl
theorem rI {f : Nat → Int} {l : List Int} (h : ∀ j,j < l.length → f j = l.getD j 0) : ∀ m,m ≤ l.length → sumR (fun j => ((f j : Int) : Rat)) m = ((sumI (l.take m) : Int) : Rat)
 | 0,_ => by simp [sumR,sumI]
 | m + 1,hm => by
   have hml : m < l.length :=by omega
   rw [List.take_succ_eq_append_getElem hml,lS,Rat.intCast_add,← rI h m (by omega)]
   simp only [sumR]
   rw [h m hml,bS hml]
theorem zU {own : List Int} {S : List (List Int)} (h : PR own S) {t : Nat} (ht : t < own.length) : ∃ l,l ∈ S ∧ S[t]? = some l ∧ sumR (fun k => ((sO S t k : Int) : Rat)) own.length = ((sumI l : Int) : Rat) :=by
 have hS : t < S.length :=by rw [h.len]; exact ht
 refine ⟨S[t],List.getElem_mem hS,List.getElem?_eq_getElem hS,?_⟩
 have hl :=h.row S[t] (List.getElem_mem hS)
 have :=rI (f :=fun k => sO S t k) (l :=S[t]) (fun j _ => by
  unfold sO
  rw [List.getD_eq_getElem?_getD (l :=S),List.getElem?_eq_getElem hS]; rfl) S[t].length (Nat.le_refl _)
 rw [List.take_length,hl] at this
 exact this
variable {own : List Int} {S : List (List Int)}
theorem nM {k t : Nat} (ht : t < own.length) : poolM own S k t = if k = t then 1000 else ((-(sO S t k) : Int) : Rat) :=if_neg (by omega)
theorem iT (k : Nat) : poolM own S k own.length = ((wO own k * 1000 : Int) : Rat) :=if_pos rfl
theorem pR (h : PR own S) {k t : Nat} (ht : t < own.length) : poolM own S k t = 1 * (if k = t then 1000 else 0) + (-1) * ((sO S t k : Int) : Rat) :=by
 rw [nM ht]
 by_cases hk : k = t
 · subst hk
   rw [if_pos rfl,if_pos rfl,h.d k ht]
   show (1000 : Rat) = 1 * 1000 + -1 * ((0 : Int) : Rat)
   have : ((0 : Int) : Rat) = 0 :=rfl
   rw [this]; grind
 · rw [if_neg hk,if_neg hk,Rat.intCast_neg]; grind
theorem wJ (h : PV own S) {t : Nat} (ht : t < own.length) : 0 < sumR (fun k => poolM own S k t) own.length :=by
 obtain ⟨l,hl,_,hs⟩ :=zU h.toPR ht
 have e : sumR (fun k => poolM own S k t) own.length = sumR (fun k => 1 * (if k = t then 1000 else 0) + (-1) * ((sO S t k : Int) : Rat)) own.length :=b8 fun k _ => pR h.toPR ht
 rw [e,cS,hs,dM (i :=t) ht fun k _ hne => if_neg hne,if_pos rfl]
 have h1 :=h.lt l hl
 have h2 : ((sumI l : Int) : Rat) < ((1000 : Int) : Rat) :=Rat.intCast_lt_intCast.2 h1
 have h3 : ((1000 : Int) : Rat) = 1000 :=rfl
 grind
theorem wK (h : PR own S) {k t : Nat} (hk : k < own.length) (ht : t < own.length) (hne : k ≠ t) : poolM own S k t ≤ 0 :=by
 rw [nM ht,if_neg hne]
 have :=(h.s t k ht hk).1
 have h2 : ((-(sO S t k) : Int) : Rat) ≤ ((0 : Int) : Rat) :=Rat.intCast_le_intCast.2 (by omega)
 exact h2
theorem pS (h : PV own S) : Inv (poolM own S) own.length 0 :=by
 refine ⟨fun k t _ ht _ => by omega,fun k t hk _ ht hne => wK h.toPR hk ht hne,fun t _ ht => ?_,fun k hk => ?_,fun k hk _ => by omega⟩
 · have : sumR (fun k => if 0 ≤ k then poolM own S k t else 0) own.length = sumR (fun k => poolM own S k t) own.length :=b8 fun k _ => if_pos (by omega)
   rw [this]; exact wJ h ht
 · rw [iT]
   have :=(h.w k hk).1
   have h2 : ((0 : Int) : Rat) ≤ ((wO own k * 1000 : Int) : Rat) :=Rat.intCast_le_intCast.2 (by omega)
   exact h2
theorem H3 (h : PV own S) : MM (poolM own S) own.length :=⟨fun k t hk ht hne => wK h.toPR hk ht hne,fun t ht => wJ h ht⟩
theorem pT (h : PR own S) {k t : Nat} (hk : k < own.length) (ht : t < own.length) : intB 1000 (poolM own S k t) :=by
 rw [nM ht]
 have :=h.s t k ht hk
 split
 · exact ⟨1000,rfl,by decide⟩
 · exact ⟨_,rfl,by omega⟩
theorem rL (h : PR own S) {k : Nat} (hk : k < own.length) : intB (2 ^ 50) (poolM own S k own.length) :=by
 rw [iT]
 have :=h.w k hk
 exact ⟨_,rfl,by
  have : (2 : Nat) ^ 50 = 1125899906842624 :=by decide
  omega⟩
theorem EU (h : PR own S) : Stg (poolM own S) own.length 0 10 50 :=by
 refine ⟨1,by decide,by decide,fun k hk => ⟨fun t ht => ?_,?_⟩⟩
 · have e : poolM own S k t * (((1 : Nat) : Int) : Rat) = poolM own S k t :=by
    have : (((1 : Nat) : Int) : Rat) = 1 :=rfl
    rw [this]; grind
   rw [e]
   exact cV (pT h hk ht) (by decide)
 · have e : poolM own S k own.length * (((1 : Nat) : Int) : Rat) = poolM own S k own.length :=by
    have : (((1 : Nat) : Int) : Rat) = 1 :=rfl
    rw [this]; grind
   rw [e]
   exact rL h hk
def allX (own : List Int) (S : List (List Int)) (k : Nat) : Rat :=solx (poolM own S) own.length k
theorem wL (x : Nat → Rat) (h : PR own S) {i : Nat} (hi : i < own.length) : sumR (fun t => poolM own S i t * x t) own.length = 1000 * x i - sumR (fun t => x t * ((sO S t i : Int) : Rat)) own.length :=by
 have e : sumR (fun t => poolM own S i t * x t) own.length = sumR (fun t => 1 * (if i = t then 1000 * x t else 0) + (-1) * (x t * ((sO S t i : Int) : Rat))) own.length :=b8 fun t ht => by
  rw [pR h ht]
  by_cases hit : i = t
  · rw [if_pos hit,if_pos hit]; grind
  · rw [if_neg hit,if_neg hit]; grind
 rw [e,cS,dM (i :=i) hi fun k _ hne => if_neg (fun e => hne e.symm),if_pos rfl]
 grind
theorem C0 (x : Nat → Rat) (h : PR own S) : Sol (poolM own S) own.length x ↔ ∀ i,i < own.length → x i = ((wO own i : Int) : Rat) + sumR (fun t => x t * (((sO S t i : Int) : Rat) / 1000)) own.length :=by
 have key : ∀ i,sumR (fun t => x t * (((sO S t i : Int) : Rat) / 1000)) own.length = sumR (fun t => x t * ((sO S t i : Int) : Rat)) own.length / 1000 :=fun i => by
  have :=cS (fun t => x t * ((sO S t i : Int) : Rat)) (fun _ => 0) (1 / 1000) 0 own.length
  have e : (fun t => x t * (((sO S t i : Int) : Rat) / 1000)) = fun k => 1 / 1000 * (x k * ((sO S k i : Int) : Rat)) + 0 * 0 :=by funext t; grind
  rw [e,this]; grind
 constructor
 · intro hs i hi
   have :=hs i hi
   rw [wL x h hi,iT,Rat.intCast_mul] at this
   rw [key]
   have h3 : ((1000 : Int) : Rat) = 1000 :=rfl
   rw [h3] at this
   grind
 · intro hs i hi
   have :=hs i hi
   rw [key] at this
   rw [wL x h hi,iT,Rat.intCast_mul]
   have h3 : ((1000 : Int) : Rat) = 1000 :=rfl
   rw [h3]
   grind
theorem EV (h : PV own S) {i : Nat} (hi : i < own.length) : allX own S i = ((wO own i : Int) : Rat) + sumR (fun t => allX own S t * (((sO S t i : Int) : Rat) / 1000)) own.length :=
 (C0 _ h.toPR).1 (uR (pS h)) i hi
theorem lT {c : Nat} (hc : 1 ≤ c) : ∀ {n m : Nat},n ≤ m → detN n c ≤ detN m c
 | n,0,h => by have : n = 0 :=by omega
               subst this; exact Nat.le_refl _
 | n,m + 1,h => by
   by_cases he : n = m + 1
   · subst he; exact Nat.le_refl _
   · have h1 :=lT hc (n :=n) (m :=m) (by omega)
     refine Nat.le_trans h1 ?_
     show detN m c ≤ (m + 1) * (c * detN m c)
     have h2 : 1 * detN m c ≤ c * detN m c :=Nat.mul_le_mul_right _ hc
     have h3 : 1 * (c * detN m c) ≤ (m + 1) * (c * detN m c) :=Nat.mul_le_mul_right _ (by omega)
     omega
theorem yK (h : PV own S) (h6 : own.length ≤ 6) {k : Nat} (hk : k < own.length) : bt 310 (allX own S k).num ∧ bt 70 (allX own S k).den :=by
 have hpos :=DC (H3 h)
 obtain ⟨z,hz,hzl⟩ :=sI (n :=own.length) (A :=poolM own S) (c :=1000) fun k t hk ht => pT h.toPR hk ht
 have hc :=IR (uR (pS h)) hk
 have hb :=sI (n :=own.length) (A :=setCol (poolM own S) k fun i => poolM own S i own.length) (c :=2 ^ 50) fun i t hi ht => by
  unfold setCol
  split
  · exact rL h.toPR hi
  · exact cV (pT h.toPR hi ht) (by decide)
 rw [hc] at hb
 have hz0 : 0 < z :=by
  rw [hz] at hpos
  exact Rat.intCast_lt_intCast.1 (show ((0 : Int) : Rat) < (z : Rat) from hpos)
 have hzn : ((z.natAbs : Nat) : Int) = z :=by omega
 obtain ⟨h1,h2⟩ :=jW (D :=z.natAbs) (N :=detN own.length (2 ^ 50)) (r :=allX own S k) ⟨by omega,by rw [hzn,← hz]; exact hb⟩
 refine ⟨?_,?_⟩
 · exact Nat.le_trans h1 (Nat.le_trans (lT (by decide) h6) (by decide +kernel))
 · unfold bt
   simp only [Int.natAbs_natCast]
   exact Nat.le_trans h2 (Nat.le_trans hzl (Nat.le_trans (lT (by decide) h6) (by decide +kernel)))
end Go.Proofs.YthibhamepjhfjaaGreatDoor

namespace Go.Proofs.YthibhamepjhfjaaGreatDoor
open Go.RowKit Go.Ab
attribute [local irreducible] AWP Go.Ab.Sub Means MeansH MeansX CallK CallG CallT CallGT CallU
theorem JO {L : List (Int)} {n : Nat} (h : n < L.length) : nth (L.map ii) n = ii L[n] :=fH _ h
theorem EW (f : FuncId) (p : Int → Bool) (L : List (Int)) (hl : L.length ≤ 9223372036854775807)
  (hf : ∀ b ∈ L,Means false Tryz.prog f [ii b] (bb (p b))) (hcall : callable Tryz.prog f = true) :
  Means false Tryz.prog 86 [.sl (L.map ii),.v (.func (.func f) #[] #[])] (ii (if L.findIdx p < L.length then (L.findIdx p : Int) else -1)) :=by
 refine aF false 19 [.tmp 4] Tryz.func86 rfl rfl rfl (by simp) (by decide) rfl fun X hX => ?_
 (repeat (refine a7 q11x3 hX mixed rfl ?_;simp [go_sem];try refine ⟨by kernel_rfl,?_⟩))
 refine aH (fun n : Nat => ⟨mkE [(0,.sl (L.map ii)),(1,.v (.func (.func f) #[] #[])),(7,ii L.length),(8,ii n)],[]⟩) (fun n => n ≤ L.findIdx p ∧ n ≤ L.length) (fun n => L.length - n) 0 ?_ ?_ ?_
 · refine aG _ [] (by simp [go_sem]) ?_
   simp [go_sem]
 · omega
 · rintro n ⟨hn,hn2⟩
   (repeat (refine a7 q11x3 hX mixed rfl ?_;simp [go_sem];try refine ⟨by kernel_rfl,?_⟩))
   refine aB (b :=decide (n < L.length)) (by simp [go_sem]) (fun hc => ?_) (fun hc => ?_)
   · simp at hc
     have hq :=JO hc
     have wn :=w64 (x :=(n : Int) + 1) (by omega) (by omega)
     (repeat (refine a7 q11x3 hX mixed rfl ?_;simp [go_sem,hc,hq,hcall];try refine ⟨by kernel_rfl,?_⟩))
     first | refine a8 (hf L[n] (List.getElem_mem hc)) ?_ | refine aA (hf L[n] (List.getElem_mem hc)) ?_
     try (simp [go_sem];try refine ⟨by kernel_rfl,?_⟩)
     refine aB (b :=p L[n]) (by simp [go_sem]) (fun hd => ?_) (fun hd => ?_)
     · have e : L.findIdx p = n :=by
        have h1 : ¬ n < L.findIdx p :=fun h => by have :=List.not_of_lt_findIdx h; rw [hd] at this; simp at this
        omega
       (repeat (refine a7 q11x3 hX mixed rfl ?_;simp [go_sem,e,hc];try refine ⟨by kernel_rfl,?_⟩))
       try exact ⟨L[n],List.getElem_mem hc,hd⟩
     · have e : n + 1 ≤ L.findIdx p :=by
        by_cases h : L.findIdx p = n
        · have h2 : L.findIdx p < L.length :=by omega
          have :=List.findIdx_getElem (p :=p) (w :=h2)
          simp only [h] at this
          rw [hd] at this; cases this
        · omega
       (repeat (refine a7 q11x3 hX mixed rfl ?_;simp [go_sem,wn];try refine ⟨by kernel_rfl,?_⟩))
       refine ⟨n + 1,⟨e,by omega⟩,by omega,?_⟩
       refine aG _ [] (by simp [go_sem]) ?_
       simp [go_sem]
   · have e : ¬ L.findIdx p < L.length :=by simp at hc; omega
     (repeat (refine a7 q11x3 hX mixed rfl ?_;simp [go_sem,e];try refine ⟨by kernel_rfl,?_⟩))
     try simpa [List.findIdx_lt_length] using e
theorem C1 {p : Int → Bool} (L : List (Int)) : decide (L.findIdx p < L.length) = L.any p :=by
 rw [Bool.eq_iff_iff]
 simp [List.findIdx_lt_length]
theorem zW (f : FuncId) (p : Int → Bool) (L : List (Int)) (hl : L.length ≤ 9223372036854775807)
  (hf : ∀ b ∈ L,Means false Tryz.prog f [ii b] (bb (p b))) (hcall : callable Tryz.prog f = true) :
  Means false Tryz.prog 54 [.sl (L.map ii),.v (.func (.func f) #[] #[])] (bb (L.any p)) :=by
 have h :=EW f p L hl hf hcall
 rw [← C1]
 generalize L.findIdx p = q at *
 refine aF false 9 [.tmp 4] Tryz.func54 rfl rfl rfl (by simp) (by decide) rfl fun X hX => ?_
 (repeat (refine a7 [0,1,4] hX mixed rfl ?_;simp [go_sem];try refine ⟨by kernel_rfl,?_⟩))
 first | refine a8 (h) ?_ | refine aA (h) ?_
 try (simp [go_sem];try refine ⟨by kernel_rfl,?_⟩)
 by_cases hq : q < L.length
 · (repeat (refine a7 [0,1,4] hX mixed rfl ?_;simp [go_sem,hq];try refine ⟨by kernel_rfl,?_⟩))
 · (repeat (refine a7 [0,1,4] hX mixed rfl ?_;simp [go_sem,hq];try refine ⟨by kernel_rfl,?_⟩))
theorem dW {L : List (List Int)} {n : Nat} (h : n < L.length) : nth (L.map il) n = il L[n] :=fH _ h
theorem EX (f : FuncId) (p : List Int → Bool) (L : List (List Int)) (hl : L.length ≤ 9223372036854775807)
  (hf : ∀ b ∈ L,Means false Tryz.prog f [il b] (bb (p b))) (hcall : callable Tryz.prog f = true) :
  Means false Tryz.prog 99 [.sl (L.map il),.v (.func (.func f) #[] #[])] (ii (if L.findIdx p < L.length then (L.findIdx p : Int) else -1)) :=by
 refine aF false 19 [.tmp 4] Tryz.func99 rfl rfl rfl (by simp) (by decide) rfl fun X hX => ?_
 (repeat (refine a7 q11x3 hX mixed rfl ?_;simp [go_sem];try refine ⟨by kernel_rfl,?_⟩))
 refine aH (fun n : Nat => ⟨mkE [(0,.sl (L.map il)),(1,.v (.func (.func f) #[] #[])),(7,ii L.length),(8,ii n)],[]⟩) (fun n => n ≤ L.findIdx p ∧ n ≤ L.length) (fun n => L.length - n) 0 ?_ ?_ ?_
 · refine aG _ [] (by simp [go_sem]) ?_
   simp [go_sem]
 · omega
 · rintro n ⟨hn,hn2⟩
   (repeat (refine a7 q11x3 hX mixed rfl ?_;simp [go_sem];try refine ⟨by kernel_rfl,?_⟩))
   refine aB (b :=decide (n < L.length)) (by simp [go_sem]) (fun hc => ?_) (fun hc => ?_)
   · simp at hc
     have hq :=dW hc
     have wn :=w64 (x :=(n : Int) + 1) (by omega) (by omega)
     (repeat (refine a7 q11x3 hX mixed rfl ?_;simp [go_sem,hc,hq,hcall];try refine ⟨by kernel_rfl,?_⟩))
     first | refine a8 (hf L[n] (List.getElem_mem hc)) ?_ | refine aA (hf L[n] (List.getElem_mem hc)) ?_
     try (simp [go_sem];try refine ⟨by kernel_rfl,?_⟩)
     refine aB (b :=p L[n]) (by simp [go_sem]) (fun hd => ?_) (fun hd => ?_)
     · have e : L.findIdx p = n :=by
        have h1 : ¬ n < L.findIdx p :=fun h => by have :=List.not_of_lt_findIdx h; rw [hd] at this; simp at this
        omega
       (repeat (refine a7 q11x3 hX mixed rfl ?_;simp [go_sem,e,hc];try refine ⟨by kernel_rfl,?_⟩))
       try exact ⟨L[n],List.getElem_mem hc,hd⟩
     · have e : n + 1 ≤ L.findIdx p :=by
        by_cases h : L.findIdx p = n
        · have h2 : L.findIdx p < L.length :=by omega
          have :=List.findIdx_getElem (p :=p) (w :=h2)
          simp only [h] at this
          rw [hd] at this; cases this
        · omega
       (repeat (refine a7 q11x3 hX mixed rfl ?_;simp [go_sem,wn];try refine ⟨by kernel_rfl,?_⟩))
       refine ⟨n + 1,⟨e,by omega⟩,by omega,?_⟩
       refine aG _ [] (by simp [go_sem]) ?_
       simp [go_sem]
   · have e : ¬ L.findIdx p < L.length :=by simp at hc; omega
     (repeat (refine a7 q11x3 hX mixed rfl ?_;simp [go_sem,e];try refine ⟨by kernel_rfl,?_⟩))
     try simpa [List.findIdx_lt_length] using e
theorem C2 {p : List Int → Bool} (L : List (List Int)) : decide (L.findIdx p < L.length) = L.any p :=by
 rw [Bool.eq_iff_iff]
 simp [List.findIdx_lt_length]
theorem zX (f : FuncId) (p : List Int → Bool) (L : List (List Int)) (hl : L.length ≤ 9223372036854775807)
  (hf : ∀ b ∈ L,Means false Tryz.prog f [il b] (bb (p b))) (hcall : callable Tryz.prog f = true) :
  Means false Tryz.prog 67 [.sl (L.map il),.v (.func (.func f) #[] #[])] (bb (L.any p)) :=by
 have h :=EX f p L hl hf hcall
 rw [← C2]
 generalize L.findIdx p = q at *
 refine aF false 9 [.tmp 4] Tryz.func67 rfl rfl rfl (by simp) (by decide) rfl fun X hX => ?_
 (repeat (refine a7 [0,1,4] hX mixed rfl ?_;simp [go_sem];try refine ⟨by kernel_rfl,?_⟩))
 first | refine a8 (h) ?_ | refine aA (h) ?_
 try (simp [go_sem];try refine ⟨by kernel_rfl,?_⟩)
 by_cases hq : q < L.length
 · (repeat (refine a7 [0,1,4] hX mixed rfl ?_;simp [go_sem,hq];try refine ⟨by kernel_rfl,?_⟩))
 · (repeat (refine a7 [0,1,4] hX mixed rfl ?_;simp [go_sem,hq];try refine ⟨by kernel_rfl,?_⟩))
structure Fr where
 s1 : Int
 L1 : List Int
 s2 : Int
 L2 : List Int
abbrev fv (x : Fr) : AV :=frac4 x.s1 x.L1 x.s2 x.L2
theorem sB {L : List (Fr)} {n : Nat} (h : n < L.length) : nth (L.map fv) n = fv L[n] :=fH _ h
theorem EY (f : FuncId) (p : Fr → Bool) (L : List (Fr)) (hl : L.length ≤ 9223372036854775807)
  (hf : ∀ b ∈ L,Means false Tryz.prog f [fv b] (bb (p b))) (hcall : callable Tryz.prog f = true) :
  Means false Tryz.prog 87 [.sl (L.map fv),.v (.func (.func f) #[] #[])] (ii (if L.findIdx p < L.length then (L.findIdx p : Int) else -1)) :=by
 refine aF false 19 [.tmp 4] Tryz.func87 rfl rfl rfl (by simp) (by decide) rfl fun X hX => ?_
 (repeat (refine a7 q11x3 hX mixed rfl ?_;simp [go_sem];try refine ⟨by kernel_rfl,?_⟩))
 refine aH (fun n : Nat => ⟨mkE [(0,.sl (L.map fv)),(1,.v (.func (.func f) #[] #[])),(7,ii L.length),(8,ii n)],[]⟩) (fun n => n ≤ L.findIdx p ∧ n ≤ L.length) (fun n => L.length - n) 0 ?_ ?_ ?_
 · refine aG _ [] (by simp [go_sem]) ?_
   simp [go_sem]
 · omega
 · rintro n ⟨hn,hn2⟩
   (repeat (refine a7 q11x3 hX mixed rfl ?_;simp [go_sem];try refine ⟨by kernel_rfl,?_⟩))
   refine aB (b :=decide (n < L.length)) (by simp [go_sem]) (fun hc => ?_) (fun hc => ?_)
   · simp at hc
     have hq :=sB hc
     have wn :=w64 (x :=(n : Int) + 1) (by omega) (by omega)
     (repeat (refine a7 q11x3 hX mixed rfl ?_;simp [go_sem,hc,hq,hcall];try refine ⟨by kernel_rfl,?_⟩))
     first | refine a8 (hf L[n] (List.getElem_mem hc)) ?_ | refine aA (hf L[n] (List.getElem_mem hc)) ?_
     try (simp [go_sem];try refine ⟨by kernel_rfl,?_⟩)
     refine aB (b :=p L[n]) (by simp [go_sem]) (fun hd => ?_) (fun hd => ?_)
     · have e : L.findIdx p = n :=by
        have h1 : ¬ n < L.findIdx p :=fun h => by have :=List.not_of_lt_findIdx h; rw [hd] at this; simp at this
        omega
       (repeat (refine a7 q11x3 hX mixed rfl ?_;simp [go_sem,e,hc];try refine ⟨by kernel_rfl,?_⟩))
       try exact ⟨L[n],List.getElem_mem hc,hd⟩
     · have e : n + 1 ≤ L.findIdx p :=by
        by_cases h : L.findIdx p = n
        · have h2 : L.findIdx p < L.length :=by omega
          have :=List.findIdx_getElem (p :=p) (w :=h2)
          simp only [h] at this
          rw [hd] at this; cases this
        · omega
       (repeat (refine a7 q11x3 hX mixed rfl ?_;simp [go_sem,wn];try refine ⟨by kernel_rfl,?_⟩))
       refine ⟨n + 1,⟨e,by omega⟩,by omega,?_⟩
       refine aG _ [] (by simp [go_sem]) ?_
       simp [go_sem]
   · have e : ¬ L.findIdx p < L.length :=by simp at hc; omega
     (repeat (refine a7 q11x3 hX mixed rfl ?_;simp [go_sem,e];try refine ⟨by kernel_rfl,?_⟩))
     try simpa [List.findIdx_lt_length] using e
theorem C3 {p : Fr → Bool} (L : List (Fr)) : decide (L.findIdx p < L.length) = L.any p :=by
 rw [Bool.eq_iff_iff]
 simp [List.findIdx_lt_length]
theorem zY (f : FuncId) (p : Fr → Bool) (L : List (Fr)) (hl : L.length ≤ 9223372036854775807)
  (hf : ∀ b ∈ L,Means false Tryz.prog f [fv b] (bb (p b))) (hcall : callable Tryz.prog f = true) :
  Means false Tryz.prog 56 [.sl (L.map fv),.v (.func (.func f) #[] #[])] (bb (L.any p)) :=by
 have h :=EY f p L hl hf hcall
 rw [← C3]
 generalize L.findIdx p = q at *
 refine aF false 9 [.tmp 4] Tryz.func56 rfl rfl rfl (by simp) (by decide) rfl fun X hX => ?_
 (repeat (refine a7 [0,1,4] hX mixed rfl ?_;simp [go_sem];try refine ⟨by kernel_rfl,?_⟩))
 first | refine a8 (h) ?_ | refine aA (h) ?_
 try (simp [go_sem];try refine ⟨by kernel_rfl,?_⟩)
 by_cases hq : q < L.length
 · (repeat (refine a7 [0,1,4] hX mixed rfl ?_;simp [go_sem,hq];try refine ⟨by kernel_rfl,?_⟩))
 · (repeat (refine a7 [0,1,4] hX mixed rfl ?_;simp [go_sem,hq];try refine ⟨by kernel_rfl,?_⟩))
def wrongS (s : Int) : Bool :=decide (s < 0) || decide (1000 < s)
theorem zZ (s : Int) : Means false Tryz.prog 53 [ii s] (bb (wrongS s)) :=by
 refine aF false 9 [.tmp 2] Tryz.func53 rfl rfl rfl (by simp) (by decide) rfl fun X hX => ?_
 (repeat (refine a7 [0,2] hX mixed rfl ?_;simp [go_sem];try refine ⟨by kernel_rfl,?_⟩))
 simp [wrongS]
theorem C4 {l : List Int} : l.any wrongS = false ↔ ∀ x ∈ l,0 ≤ x ∧ x ≤ 1000 :=by
 rw [List.any_eq_false]
 constructor
 · intro h x hx
   have :=h x hx
   simp [wrongS] at this
   omega
 · intro h x hx
   have :=h x hx
   simp [wrongS]
   omega
theorem eP : ∀ (l : List Int) (k : Nat),(∀ x ∈ l,0 ≤ x ∧ x ≤ 1000) → 0 ≤ sumI (l.take k) ∧ sumI (l.take k) ≤ 1000 * l.length
 | [],k,_ => by simp [sumI]
 | x :: l,0,_ => by simp [sumI]; omega
 | x :: l,k + 1,h => by
   have h1 :=eP l k fun y hy => h y (List.mem_cons_of_mem _ hy)
   have h2 :=h x (by simp)
   simp only [List.take_succ_cons,sumI,List.length_cons]
   omega
theorem nN (l : List Int) (hl : l.length ≤ 1000) (h : ∀ x ∈ l,0 ≤ x ∧ x ≤ 1000) : Means false Tryz.prog 34 [il l] (ii (sumI l)) :=by
 refine aF false 17 [.tmp 2] Tryz.func34 rfl rfl rfl (by simp) (by decide) rfl fun X hX => ?_
 (repeat (refine a7 q11x4 hX mixed rfl ?_;simp [go_sem];try refine ⟨by kernel_rfl,?_⟩))
 refine aH (fun k : Nat => ⟨mkE [(0,il l),(3,ii (sumI (l.take k))),(6,il l),(7,ii l.length),(8,ii k)],[]⟩) (fun k => k ≤ l.length) (fun k => l.length - k) 0 ?_ ?_ ?_
 · refine aG _ [] (by simp [go_sem]) ?_
   simp [go_sem,sumI]
 · omega
 · intro k hk
   (repeat (refine a7 q11x4 hX mixed rfl ?_;simp [go_sem];try refine ⟨by kernel_rfl,?_⟩))
   refine aB (b :=decide (k < l.length)) (by simp [go_sem]) (fun hb => ?_) (fun hb => ?_)
   · simp only [decide_eq_true_eq] at hb
     have q1 :=cX hb
     have b1 :=eP l k h
     have b2 :=eP l (k + 1) h
     have e : sumI (l.take (k + 1)) = sumI (l.take k) + l[k] :=by rw [List.take_succ_eq_append_getElem hb,lS]
     rw [e] at b2
     have w1 :=w64 (x :=sumI (l.take k) + l[k]) (by omega) (by omega)
     have w2 :=w64 (x :=(k : Int) + 1) (by omega) (by omega)
     (repeat (refine a7 q11x4 hX mixed rfl ?_;simp [go_sem,hb,q1,w1,w2];try refine ⟨by kernel_rfl,?_⟩))
     refine ⟨k + 1,by omega,by omega,?_⟩
     rw [e]
     refine aG _ [] (by simp [go_sem]) ?_
     simp [go_sem]
   · simp only [decide_eq_false_iff_not] at hb
     have hk2 : k = l.length :=by omega
     subst hk2
     rw [List.take_length]
     (repeat (refine a7 q11x4 hX mixed rfl ?_;simp [go_sem];try refine ⟨by kernel_rfl,?_⟩))
def rowOk (own : List Int) (S : List (List Int)) (k : Nat) : Prop :=(0 ≤ wO own k ∧ wO own k ≤ 1099511627776) ∧ (S.getD k []).length = own.length ∧ (∀ x ∈ S.getD k [],0 ≤ x ∧ x ≤ 1000) ∧ sO S k k = 0
theorem iU (own : List Int) (S : List (List Int)) : PR own S ↔ (0 < own.length ∧ own.length ≤ 12 ∧ S.length = own.length) ∧ ∀ k,k < own.length → rowOk own S k :=by
 constructor
 · intro h
   refine ⟨⟨h.pos,h.most,h.len⟩,fun k hk => ?_⟩
   have hS : k < S.length :=by rw [h.len]; exact hk
   have hg : S.getD k [] = S[k] :=by rw [List.getD_eq_getElem?_getD,List.getElem?_eq_getElem hS]; rfl
   refine ⟨h.w k hk,by rw [hg]; exact h.row _ (List.getElem_mem hS),fun x hx => ?_,h.d k hk⟩
   obtain ⟨j,hj,rfl⟩ :=List.getElem_of_mem hx
   have hl :=h.row _ (List.getElem_mem hS)
   have hj' : j < own.length :=by rw [← hl,← hg]; exact hj
   have :=h.s k j hk hj'
   unfold sO at this
   rw [bS hj] at this
   exact this
 · rintro ⟨⟨h1,h2,h3⟩,h4⟩
   refine ⟨h1,h2,h3,fun k hk => (h4 k hk).1,fun l hl => ?_,fun i j hi hj => ?_,fun i hi => (h4 i hi).2.2.2⟩
   · obtain ⟨k,hk,rfl⟩ :=List.getElem_of_mem hl
     have hg : S.getD k [] = S[k] :=by rw [List.getD_eq_getElem?_getD,List.getElem?_eq_getElem hk]; rfl
     rw [← hg]
     exact (h4 k (by omega)).2.1
   · obtain ⟨_,h5,h6,_⟩ :=h4 i hi
     have hj' : j < (S.getD i []).length :=by omega
     unfold sO
     rw [bS hj']
     exact h6 _ (List.getElem_mem hj')
theorem H4 {l : List AV} {k : Nat} (h : ¬ k < l.length) : nth l k = .bad :=by
 unfold nth
 rw [List.getD_eq_getElem?_getD,List.getElem?_eq_none (by omega)]; rfl
noncomputable instance (own : List Int) (S : List (List Int)) (k : Nat) : Decidable (rowOk own S k) :=Classical.propDecidable _
noncomputable instance (own : List Int) (S : List (List Int)) : Decidable (PR own S) :=Classical.propDecidable _
noncomputable instance (own : List Int) (S : List (List Int)) : Decidable (PV own S) :=Classical.propDecidable _
abbrev ill (S : List (List Int)) : AV :=.sl (S.map il)
set_option maxHeartbeats 8000000 in
set_option maxRecDepth 20000 in
theorem sD (own : List Int) (S : List (List Int)) (hl : own.length ≤ 9223372036854775807) (hS : S.length ≤ 9223372036854775807) (hr : ∀ l ∈ S,l.length ≤ 9223372036854775807) : Means false Tryz.prog 16 [il own,ill S] (bb (decide (PR own S))) :=by
 by_cases h0 : 0 < own.length ∧ own.length ≤ 12 ∧ S.length = own.length
 · refine aF false 61 [.tmp 4] Tryz.func16 rfl rfl rfl (by simp) (by decide) rfl fun X hX => ?_
   (repeat (refine a7 q11x1 hX mixed rfl ?_;simp [go_sem];try refine ⟨by kernel_rfl,?_⟩))
   have h12 : ¬ (12 : Int) < own.length :=by omega
   have hn0 : ¬ own = [] :=by intro e; rw [e] at h0; simp at h0
   refine aC (by simp [go_sem,h0.2.2,h12,hn0]) ?_
   (repeat (refine a7 q11x1 hX mixed rfl ?_;simp [go_sem];try refine ⟨by kernel_rfl,?_⟩))
   refine aH (fun k : Nat => ⟨mkE [(0,il own),(1,ill S),(5,ii own.length),(23,ill S),(24,ii own.length),(25,ii k)],[]⟩) (fun k => k ≤ own.length ∧ ∀ j,j < k → rowOk own S j) (fun k => own.length - k) 0 ?_ ?_ ?_
   · refine aG _ [] (by simp [go_sem]) ?_
     simp [go_sem,h0.2.2]
   · exact ⟨by omega,fun j hj => by omega⟩
   · rintro k ⟨hk,hp⟩
     (repeat (refine a7 q11x1 hX mixed rfl ?_;simp [go_sem];try refine ⟨by kernel_rfl,?_⟩))
     refine aB (b :=decide (k < own.length)) (by simp [go_sem]) (fun hb => ?_) (fun hb => ?_)
     · simp only [decide_eq_true_eq] at hb
       have hkS : k < S.length :=by omega
       have q1 :=cX hb
       have q2 :=dW (L :=S) hkS
       have hlk :=hr S[k] (List.getElem_mem hkS)
       have hg : S.getD k [] = S[k] :=by rw [List.getD_eq_getElem?_getD,List.getElem?_eq_getElem hkS]; rfl
       have hro : rowOk own S k ↔ (0 ≤ own[k] ∧ own[k] ≤ 1099511627776) ∧ S[k].length = own.length ∧ S[k].any wrongS = false ∧ sO S k k = 0 :=by
        unfold rowOk
        rw [hg,C4,show wO own k = own[k] from bS hb]
       have hso : ∀ h : k < S[k].length,sO S k k = S[k][k] :=fun h => by unfold sO; rw [hg,bS h]
       have wk :=w64 (x :=(k : Int) + 1) (by omega) (by omega)
       by_cases hlen : S[k].length = own.length
       · have hk3 : k < S[k].length :=by omega
         have q3 :=cX hk3
         rw [hso hk3] at hro
         (repeat (refine a7 q11x1 hX mixed rfl ?_;simp [go_sem,hb,hkS,q1,q2];try refine ⟨by kernel_rfl,?_⟩))
         first | refine aP (fun hg => zW 53 wrongS S[k] hlk (fun b _ => zZ b) (by kernel_rfl)) ?_ | refine aM (fun hg => zW 53 wrongS S[k] hlk (fun b _ => zZ b) (by kernel_rfl)) ?_
         try (simp [go_sem,hb,hkS,q1,q2,hk3,q3];try refine ⟨by kernel_rfl,?_⟩)
         refine aB (b :=!(decide (rowOk own S k))) (by simp [go_sem,hro,hlen]; grind) (fun hd => ?_) (fun hd => ?_)
         · have e : ¬ PR own S :=fun h => by
            have :=((iU own S).1 h).2 k hb
            simp [this] at hd
           (repeat (refine a7 q11x1 hX mixed rfl ?_;simp [go_sem,e];try refine ⟨by kernel_rfl,?_⟩))
         · simp only [Bool.not_eq_false',decide_eq_true_eq] at hd
           (repeat (refine a7 q11x1 hX mixed rfl ?_;simp [go_sem,wk];try refine ⟨by kernel_rfl,?_⟩))
           refine ⟨k + 1,⟨by omega,fun j hj => ?_⟩,by omega,?_⟩
           · by_cases hjk : j = k
             · subst hjk; exact hd
             · exact hp j (by omega)
           · refine aG _ [] (by simp [go_sem]) ?_
             simp [go_sem]
       · have hlen2 : ¬ ((S[k].length : Int) = own.length) :=by omega
         have e : ¬ PR own S :=fun h => by
          have :=((iU own S).1 h).2 k hb
          exact hlen (hro.1 this).2.1
         by_cases hk3 : k < S[k].length
         · have q3 :=cX hk3
           (repeat (refine a7 q11x1 hX mixed rfl ?_;simp [go_sem,hb,hkS,q1,q2,q3,hlen2];try refine ⟨by kernel_rfl,?_⟩))
           try first | refine cR rfl ?_ | refine cJ rfl ?_
           try (simp [go_sem,hb,hkS,q1,q2,q3,hlen2];try refine ⟨by kernel_rfl,?_⟩)
           refine aK (by simp [go_sem,hlen2]) ?_
           (repeat (refine a7 q11x1 hX mixed rfl ?_;simp [go_sem,e];try refine ⟨by kernel_rfl,?_⟩))
         · have q3 : nth (S[k].map ii) k = .bad :=H4 (by simpa using hk3)
           (repeat (refine a7 q11x1 hX mixed rfl ?_;simp [go_sem,hb,hkS,q1,q2,q3,hlen2];try refine ⟨by kernel_rfl,?_⟩))
           try first | refine cR rfl ?_ | refine cJ rfl ?_
           try (simp [go_sem,hb,hkS,q1,q2,q3,hlen2];try refine ⟨by kernel_rfl,?_⟩)
           refine aK (by simp [go_sem,hlen2]) ?_
           (repeat (refine a7 q11x1 hX mixed rfl ?_;simp [go_sem,e];try refine ⟨by kernel_rfl,?_⟩))
     · simp only [decide_eq_false_iff_not] at hb
       have hk2 : k = own.length :=by omega
       subst hk2
       have e : PR own S :=(iU own S).2 ⟨h0,hp⟩
       (repeat (refine a7 q11x1 hX mixed rfl ?_;simp [go_sem,e];try refine ⟨by kernel_rfl,?_⟩))
 · have e : ¬ PR own S :=fun h => h0 ((iU own S).1 h).1
   refine aF false 61 [.tmp 4] Tryz.func16 rfl rfl rfl (by simp) (by decide) rfl fun X hX => ?_
   (repeat (refine a7 q11x1 hX mixed rfl ?_;simp [go_sem];try refine ⟨by kernel_rfl,?_⟩))
   refine aB (b :=decide (own = [] ∨ (12 : Int) < own.length ∨ ¬ (S.length : Int) = own.length)) (by simp [go_sem]; grind) (fun _ => ?_) (fun h => ?_)
   · (repeat (refine a7 q11x1 hX mixed rfl ?_;simp [go_sem,e];try refine ⟨by kernel_rfl,?_⟩))
   · exfalso
     simp at h
     have : 0 < own.length :=List.length_pos_iff.2 h.1
     omega
end Go.Proofs.YthibhamepjhfjaaGreatDoor

namespace Go.Proofs.YthibhamepjhfjaaGreatDoor
open Go.RowKit Go.Ab
attribute [local irreducible] AWP Go.Ab.Sub Means MeansH MeansX CallK CallG CallT CallGT CallU
noncomputable def badP (own : List Int) (S : List (List Int)) : Int :=if PR own S then (if PV own S then 0 else 23) else 1
theorem dN {own : List Int} {S : List (List Int)} (h : PR own S) {l : List Int} (hl : l ∈ S) : l.length ≤ 12 ∧ ∀ x ∈ l,0 ≤ x ∧ x ≤ 1000 :=by
 obtain ⟨k,hk,rfl⟩ :=List.getElem_of_mem hl
 have hk2 : k < own.length :=by rw [← h.len]; exact hk
 have hr :=((iU own S).1 h).2 k hk2
 have hg : S.getD k [] = S[k] :=by rw [List.getD_eq_getElem?_getD,List.getElem?_eq_getElem hk]; rfl
 rw [← hg]
 exact ⟨by rw [hr.2.1]; exact h.most,hr.2.2.1⟩
theorem EZ {own : List Int} {S : List (List Int)} (h : PR own S) : S.any (fun l => decide (1000 ≤ sumI l)) = false ↔ PV own S :=by
 rw [List.any_eq_false]
 constructor
 · intro hs
   exact ⟨h,fun l hl => by have :=hs l hl; simp at this; omega⟩
 · intro hv l hl
   have :=hv.lt l hl
   simp; omega
theorem A0 (l : List Int) (hl : l.length ≤ 1000) (h : ∀ x ∈ l,0 ≤ x ∧ x ≤ 1000) : Means false Tryz.prog 68 [il l] (bb (decide (1000 ≤ sumI l))) :=by
 refine aF false 6 [.tmp 2] Tryz.func68 rfl rfl rfl (by simp) (by decide) rfl fun X hX => ?_
 (repeat (refine a7 [0,2] hX mixed rfl ?_;simp [go_sem];try refine ⟨by kernel_rfl,?_⟩))
 first | refine a8 (nN l hl h) ?_ | refine aA (nN l hl h) ?_
 try (simp [go_sem];try refine ⟨by kernel_rfl,?_⟩)
 (repeat (refine a7 [0,2] hX mixed rfl ?_;simp [go_sem];try refine ⟨by kernel_rfl,?_⟩))
theorem fE (own : List Int) (S : List (List Int)) (hl : own.length ≤ 9223372036854775807) (hS : S.length ≤ 9223372036854775807) (hr : ∀ l ∈ S,l.length ≤ 9223372036854775807) : Means false Tryz.prog 29 [il own,ill S] (ii (badP own S)) :=by
 refine aF false 11 [.tmp 4] Tryz.func29 rfl rfl rfl (by simp) (by decide) rfl fun X hX => ?_
 (repeat (refine a7 [0,1,4,8,10] hX mixed rfl ?_;simp [go_sem];try refine ⟨by kernel_rfl,?_⟩))
 first | refine a8 (sD own S hl hS hr) ?_ | refine aA (sD own S hl hS hr) ?_
 try (simp [go_sem];try refine ⟨by kernel_rfl,?_⟩)
 by_cases h : PR own S
 · refine aC (by simp [go_sem,h]) ?_
   (repeat (refine a7 [0,1,4,8,10] hX mixed rfl ?_;simp [go_sem];try refine ⟨by kernel_rfl,?_⟩))
   first | refine a8 (zX 68 (fun l => decide (1000 ≤ sumI l)) S hS (fun l hl => A0 l (by have :=(dN h hl).1; omega) (dN h hl).2) (by kernel_rfl)) ?_ | refine aA (zX 68 (fun l => decide (1000 ≤ sumI l)) S hS (fun l hl => A0 l (by have :=(dN h hl).1; omega) (dN h hl).2) (by kernel_rfl)) ?_
   try (simp [go_sem];try refine ⟨by kernel_rfl,?_⟩)
   by_cases hv : PV own S
   · have e : badP own S = 0 :=by unfold badP; rw [if_pos h,if_pos hv]
     rw [e]
     have ha :=(EZ h).2 hv
     refine aC (by simp [go_sem,ha]) ?_
     (repeat (refine a7 [0,1,4,8,10] hX mixed rfl ?_;simp [go_sem];try refine ⟨by kernel_rfl,?_⟩))
   · have e : badP own S = 23 :=by unfold badP; rw [if_pos h,if_neg hv]
     rw [e]
     have ha : S.any (fun l => decide (1000 ≤ sumI l)) = true :=by
      cases hq : S.any (fun l => decide (1000 ≤ sumI l)) with
      | true => rfl
      | false => exact absurd ((EZ h).1 hq) hv
     refine aK (by simp [go_sem,ha]) ?_
     (repeat (refine a7 [0,1,4,8,10] hX mixed rfl ?_;simp [go_sem];try refine ⟨by kernel_rfl,?_⟩))
 · have e : badP own S = 1 :=by unfold badP; rw [if_neg h]
   rw [e]
   refine aK (by simp [go_sem,h]) ?_
   (repeat (refine a7 [0,1,4,8,10] hX mixed rfl ?_;simp [go_sem];try refine ⟨by kernel_rfl,?_⟩))
theorem mL (z : Int) : ((z : Rat) / ((1 : Int) : Rat)) = (z : Rat) :=by
 have : ((1 : Int) : Rat) = 1 :=rfl
 rw [this]; grind
theorem jU {z : Int} (h : -9223372036854775808 ≤ z ∧ z ≤ 9223372036854775807) : rq (z : Rat) :=by
 rw [← mL]; exact jL h (by decide) (by decide)
theorem wM {p : Int} (hp : -9223372036854775808 ≤ p ∧ p ≤ 9223372036854775807) : MeansH Tryz.prog 33 [calC 0] [.el 0 1 0 0,ii p,ii 1] (frq (p : Rat)) [calC 0] :=by
 have :=z6 hp (q :=1) (by decide) (by decide)
 rwa [mL] at this
theorem JP {p q : Int} (hp : 0 ≤ p ∧ p ≤ 1099511627776) (hq : 0 ≤ q ∧ q ≤ 1000) : MeansH Tryz.prog 32 [calC 0] [.el 0 1 0 0,frq (p : Rat),frq (q : Rat)] (frq ((p * q : Int) : Rat)) [calC 0] :=by
 have :=oH (jU (z :=p) (by omega)) (jU (z :=q) (by omega)) (by
  refine f0 (k :=40) (m :=0) (k' :=10) (m' :=0) ?_ ?_ ?_ ?_ (by omega) (by omega)
  · rw [Rat.num_intCast]; unfold bt; have : (2 : Nat) ^ 40 = 1099511627776 :=by decide
    omega
  · rw [Rat.den_intCast]; show 1 ≤ 2 ^ 0; decide
  · rw [Rat.num_intCast]; unfold bt; have : (2 : Nat) ^ 10 = 1024 :=by decide
    omega
  · rw [Rat.den_intCast]; show 1 ≤ 2 ^ 0; decide)
 rwa [← Rat.intCast_mul] at this
set_option maxHeartbeats 8000000 in
set_option maxRecDepth 20000 in
theorem JQ (own : List Int) (S : List (List Int)) (h : PR own S) : MeansH Tryz.prog 31 [calC 0] [.el 0 1 0 0,il own,ill S] (.ow 1) (calC 0 :: outC 2 own.length :: mxC (poolM own S) own.length) :=by
 have hn :=h.most
 refine bP 1 58 [.tmp 6] Tryz.func31 rfl rfl rfl (by simp) (by decide) rfl fun X hX => ?_
 (repeat (refine aD q11x0 hX mixed rfl ?_;simp [go_sem];try refine ⟨by kernel_rfl,?_⟩))
 refine aH (fun i : Nat => ⟨mkE [(0,.el 0 1 0 0),(1,il own),(2,ill S),(7,.ow 2),(13,ii own.length),(14,ii i),(1000000,.ow 0)],calC 0 :: .dead :: outC 3 i :: matC 41 4 ((mxL (poolM own S) own.length).take i)⟩) (fun i => i ≤ own.length) (fun i => own.length - i) 0 ?_ ?_ ?_
 · refine aG _ [.old 0 ⟨56,1,[.agg [ii 0]]⟩,.gone 0,.birth 24 1] (by simp [go_sem]) ?_
   simp [go_sem]
 · omega
 · intro i hi
   (repeat (refine aD q11x0 hX mixed rfl ?_;simp [go_sem];try refine ⟨by kernel_rfl,?_⟩))
   refine aB (b :=decide (i < own.length)) (by simp [go_sem]) (fun hb => ?_) (fun hb => ?_)
   · simp only [decide_eq_true_eq] at hb
     have hMl : ((mxL (poolM own S) own.length).take i).length = i :=by rw [List.length_take,aX]; omega
     have hMz : ∀ es ∈ (mxL (poolM own S) own.length).take i,zoneEs es = true :=fun es he => by
      obtain ⟨j,hj,rfl⟩ :=List.getElem_of_mem (List.mem_of_mem_take he)
      exact d7 (List.getElem?_eq_getElem hj)
     have hMs : (mxL (poolM own S) own.length).take (i + 1) = (mxL (poolM own S) own.length).take i ++ [rowL (poolM own S) own.length i] :=by
      have hl : i < (mxL (poolM own S) own.length).length :=by rw [aX]; exact hb
      rw [List.take_succ_eq_append_getElem hl]
      have :=cL (A :=poolM own S) hb
      rw [List.getElem?_eq_getElem hl] at this
      rw [Option.some.inj this]
     have hRs : ∀ j,j < own.length + 1 → (rowL (poolM own S) own.length i).take (j + 1) = (rowL (poolM own S) own.length i).take j ++ [frq (poolM own S i j)] :=fun j hj => by
      have hl : j < (rowL (poolM own S) own.length i).length :=by rw [aW]; exact hj
      rw [List.take_succ_eq_append_getElem hl]
      have :=cD (A :=poolM own S) (n :=own.length) (k :=i) (t :=j) (by omega)
      rw [oK hl] at this
      rw [this]
     have hRl : ∀ j,j ≤ own.length → ((rowL (poolM own S) own.length i).take j).length = j :=fun j hj => by rw [List.length_take,aW]; omega
     have hRz : ∀ j,zoneEs ((rowL (poolM own S) own.length i).take j) = true :=fun j => m8 j _ (lE _ _ _)
     have hRe : (rowL (poolM own S) own.length i).take (own.length + 1) = rowL (poolM own S) own.length i :=List.take_of_length_le (by rw [aW]; omega)
     have wi :=w64 (x :=(i : Int) + 1) (by omega) (by omega)
     obtain ⟨M,hM⟩ : ∃ M,(mxL (poolM own S) own.length).take i = M :=⟨_,rfl⟩
     rw [hM] at hMl hMz hMs ⊢
     clear hM
     (repeat (refine aD q11x0 hX mixed rfl ?_;simp [go_sem];try refine ⟨by kernel_rfl,?_⟩))
     refine aH (fun j : Nat => ⟨mkE [(0,.el 0 1 0 0),(1,il own),(2,ill S),(7,.ow 2),(8,ii i),(9,.ow 1),(13,ii own.length),(14,ii i),(18,ii own.length),(19,ii j),(1000000,.ow 0)],calC 0 :: .row ⟨41,4,(rowL (poolM own S) own.length i).take j⟩ :: outC 3 i :: matC 41 4 M⟩) (fun j => j ≤ own.length) (fun j => own.length - j) 0 ?_ ?_ ?_
     · have :=lD (X :=X) (env :=mkE [(0,.el 0 1 0 0),(1,il own),(2,ill S),(7,.ow 2),(8,ii i),(9,.nil),(13,ii own.length),(14,ii i),(18,ii own.length),(19,ii (0 : Nat)),(1000000,.ow 0)]) [(0,.el 0 1 0 0),(1,il own),(2,ill S),(7,.ow 2),(8,ii i),(9,.ow 1),(13,ii own.length),(14,ii i),(18,ii own.length),(19,ii (0 : Nat)),(1000000,.ow 0)] (.old 0 ⟨56,1,[.agg [ii 0]]⟩) (.birth 41 4) (calC 0) .dead (E1 :=24) (E2 :=41) (k2 :=4) M [] i hMl hMz (by simp [go_sem]) (by simp [Src.rid,List.filterMap_cons]) (by simp [Src.rid,List.filterMap_cons]) (by simp [go_sem])
       rw [List.append_nil] at this
       exact c8 this (bJ _ _ rfl (by simp [go_sem]))
     · omega
     · intro j hj
       (repeat (refine aD q11x0 hX mixed rfl ?_;simp [go_sem];try refine ⟨by kernel_rfl,?_⟩))
       refine aB (b :=decide (j < own.length)) (by simp [go_sem]) (fun hc => ?_) (fun hc => ?_)
       · simp only [decide_eq_true_eq] at hc
         have hjS : j < S.length :=by rw [h.len]; exact hc
         have hlr :=h.row S[j] (List.getElem_mem hjS)
         have hij2 : i < S[j].length :=by omega
         have q1 :=dW (L :=S) hjS
         have q2 :=cX hij2
         have hso : sO S j i = S[j][i] :=by
          unfold sO
          rw [List.getD_eq_getElem?_getD (l :=S),List.getElem?_eq_getElem hjS]
          exact bS hij2
         have hsb :=h.s j i hc hb
         rw [hso] at hsb
         have hA :=nM (S :=S) (k :=i) hc
         rw [hso] at hA
         have wj :=w64 (x :=(j : Int) + 1) (by omega) (by omega)
         have wv :=w64 (x :=-S[j][i]) (by omega) (by omega)
         have wv0 : (0 : Int) - S[j][i] = -S[j][i] :=by omega
         have hRj :=hRs j (by omega)
         have hlj :=hRl j (by omega)
         have hRjz :=hRz j
         generalize (rowL (poolM own S) own.length i).take j = R at *
         generalize hsv : S[j][i] = sv at *
         (repeat (refine aD q11x0 hX mixed rfl ?_;simp [go_sem,q1,q2,hjS,hij2,wv,wv0];try refine ⟨by kernel_rfl,?_⟩))
         by_cases hij : i = j
         · have hAj : poolM own S i j = ((1000 : Int) : Rat) :=by rw [hA,if_pos hij]; rfl
           refine aB (b :=true) (by simp [go_sem]; try omega) (fun h => ?_) (fun h => by cases h)
           (repeat (refine aD q11x0 hX mixed rfl ?_;simp [go_sem];try refine ⟨by kernel_rfl,?_⟩))
           have c1 :=wM (p :=1000) (by omega)
           first | refine aL [0] (c1) (by simp [go_sem]) ?_ | refine aJ [0] (c1) (by simp [go_sem]) ?_ | refine aI [0] (c1) (by simp [go_sem]) ?_
           try (simp [go_sem,hlj];try refine ⟨by kernel_rfl,?_⟩)
           (repeat refine And.intro (by first | omega | (unfold maxLen; omega) | (refine ⟨by omega,by omega⟩)) ?_)
           try (repeat (refine aD q11x0 hX mixed rfl ?_;simp [go_sem,wj];try refine ⟨by kernel_rfl,?_⟩))
           refine ⟨j + 1,by omega,by omega,?_⟩
           rw [hRj,hAj]
           have hfb : ∀ x y : Cell,(matC 41 4 M ++ [x,y])[i + 1]? = some y :=fun x y => by
            rw [List.getElem?_append_right (by rw [b9]; omega),b9,hMl,Nat.add_sub_cancel_left]; rfl
           have hMC : (matC 41 4 M).length = i :=by rw [b9,hMl]
           refine c8 ?_ (bJ [(0,.el 0 1 0 0),(1,il own),(2,ill S),(7,.ow 2),(8,ii i),(9,.ow (i + 4)),(13,ii own.length),(14,ii i),(18,ii own.length),(19,ii ((j + 1 : Nat) : Int)),(1000000,.ow 0)] _ rfl (by simp [go_sem,hMC]))
           exact lD _ (.old 0 ⟨56,1,[.agg [ii 0]]⟩) (.old (i + 4) ⟨41,4,R ++ [frq ((1000 : Int) : Rat)]⟩) (calC 0) .dead (E1 :=24) (E2 :=41) (k2 :=4) M _ i hMl hMz (by simp [go_sem,hfb,hRjz]) (by simp [Src.rid,List.filterMap_cons]) (by simp [Src.rid,List.filterMap_cons]) (by simp [go_sem])
         · have hAj : poolM own S i j = ((-sv : Int) : Rat) :=by rw [hA,if_neg hij]
           refine aB (b :=false) (by simp [go_sem]; try omega) (fun h => by cases h) (fun h => ?_)
           (repeat (refine aD q11x0 hX mixed rfl ?_;simp [go_sem];try refine ⟨by kernel_rfl,?_⟩))
           have c1 :=wM (p :=-sv) (by omega)
           first | refine aL [0] (c1) (by simp [go_sem]) ?_ | refine aJ [0] (c1) (by simp [go_sem]) ?_ | refine aI [0] (c1) (by simp [go_sem]) ?_
           try (simp [go_sem,hlj];try refine ⟨by kernel_rfl,?_⟩)
           (repeat refine And.intro (by first | omega | (unfold maxLen; omega) | (refine ⟨by omega,by omega⟩)) ?_)
           try (repeat (refine aD q11x0 hX mixed rfl ?_;simp [go_sem,wj];try refine ⟨by kernel_rfl,?_⟩))
           refine ⟨j + 1,by omega,by omega,?_⟩
           rw [hRj,hAj]
           have hfb : ∀ x y : Cell,(matC 41 4 M ++ [x,y])[i + 1]? = some y :=fun x y => by
            rw [List.getElem?_append_right (by rw [b9]; omega),b9,hMl,Nat.add_sub_cancel_left]; rfl
           have hMC : (matC 41 4 M).length = i :=by rw [b9,hMl]
           refine c8 ?_ (bJ [(0,.el 0 1 0 0),(1,il own),(2,ill S),(7,.ow 2),(8,ii i),(9,.ow (i + 4)),(13,ii own.length),(14,ii i),(18,ii own.length),(19,ii ((j + 1 : Nat) : Int)),(1000000,.ow 0)] _ rfl (by simp [go_sem,hMC]))
           exact lD _ (.old 0 ⟨56,1,[.agg [ii 0]]⟩) (.old (i + 4) ⟨41,4,R ++ [frq ((-sv : Int) : Rat)]⟩) (calC 0) .dead (E1 :=24) (E2 :=41) (k2 :=4) M _ i hMl hMz (by simp [go_sem,hfb,hRjz]) (by simp [Src.rid,List.filterMap_cons]) (by simp [Src.rid,List.filterMap_cons]) (by simp [go_sem])
       · simp only [decide_eq_false_iff_not] at hc
         have hj2 : j = own.length :=by omega
         subst hj2
         have q1 :=cX hb
         have hw :=h.w i hb
         rw [show wO own i = own[i] from bS hb] at hw
         have hA :=iT (own :=own) (S :=S) i
         rw [show wO own i = own[i] from bS hb] at hA
         have hRj :=hRs own.length (by omega)
         have hlj :=hRl own.length (by omega)
         rw [hRe,hA] at hRj
         have hRjz :=hRz own.length
         generalize (rowL (poolM own S) own.length i).take own.length = R at *
         generalize hov : own[i] = ov at *
         have c1 :=wM (p :=ov) (by omega)
         have c2 :=wM (p :=1000) (by omega)
         have c3 :=JP (p :=ov) (q :=1000) (by omega) (by omega)
         have hMC : (matC 41 4 M).length = i :=by rw [b9,hMl]
         (repeat (refine aD q11x0 hX mixed rfl ?_;simp [go_sem,q1,hb];try refine ⟨by kernel_rfl,?_⟩))
         first | refine aL [0] (c1) (by simp [go_sem]) ?_ | refine aJ [0] (c1) (by simp [go_sem]) ?_ | refine aI [0] (c1) (by simp [go_sem]) ?_
         try (simp [go_sem,hlj];try refine ⟨by kernel_rfl,?_⟩)
         first | refine aL [0] (c2) (by simp [go_sem]) ?_ | refine aJ [0] (c2) (by simp [go_sem]) ?_ | refine aI [0] (c2) (by simp [go_sem]) ?_
         try (simp [go_sem,hlj];try refine ⟨by kernel_rfl,?_⟩)
         first | refine aL [0] (c3) (by simp [go_sem]) ?_ | refine aJ [0] (c3) (by simp [go_sem]) ?_ | refine aI [0] (c3) (by simp [go_sem]) ?_
         try (simp [go_sem,hlj];try refine ⟨by kernel_rfl,?_⟩)
         (repeat refine And.intro (by first | omega | (unfold maxLen; omega) | (refine ⟨by omega,by omega⟩)) ?_)
         refine And.intro (by rw [b7]; exact ⟨by omega,by unfold maxLen; omega⟩) ?_
         try (repeat (refine aD q11x0 hX mixed rfl ?_;simp [go_sem,wi];try refine ⟨by kernel_rfl,?_⟩))
         refine ⟨i + 1,by omega,by omega,?_⟩
         have hcast : ((ov * 1000 : Int) : Rat) = (ov : Rat) * 1000 :=by rw [Rat.intCast_mul]; rfl
         rw [hMs,hRj,hcast]
         refine c8 ?_ (bJ [(0,.el 0 1 0 0),(1,il own),(2,ill S),(7,.ow (i + 6)),(13,ii own.length),(14,ii ((i + 1 : Nat) : Int)),(1000000,.ow 0)] _ rfl (by simp [go_sem,hMC]))
         rw [hMC]
         exact yZ _ (.old 0 ⟨56,1,[.agg [ii 0]]⟩) (.gone 0) (calC 0) .dead .dead (E1 :=24) (E2 :=41) (k2 :=4) M _ _ _ i hMl hMz (by simp [go_sem,hRjz]) (by simp [go_sem]) (by simp [Src.rid,List.filterMap_cons]) (by simp [Src.rid,List.filterMap_cons]) (by simp [go_sem])
   · simp only [decide_eq_false_iff_not] at hb
     have hi2 : i = own.length :=by omega
     subst hi2
     (repeat (refine aD q11x0 hX mixed rfl ?_;simp [go_sem];try refine ⟨by kernel_rfl,?_⟩))
     rw [show (mxL (poolM own S) own.length).take own.length = mxL (poolM own S) own.length from List.take_of_length_le (by rw [aX]; exact Nat.le_refl _)]
     refine bN ?_
     refine bO [(6,.ow 1),(1000000,.ow 0)] ([.old 0 ⟨56,1,[.agg [ii 0]]⟩] ++ .old 2 ⟨24,1,outN ([Src.old 0 ⟨56,1,[.agg [ii 0]]⟩].length + 1) (mxL (poolM own S) own.length).length⟩ :: matS (fun k => k + 3) 41 4 0 (mxL (poolM own S) own.length)) ⟨G4 _ 2 (fun k => k + 3) _ (by simp [outN,aX]) (fun j es h => ⟨bM h,d7 h⟩) (by simp [go_sem]) (m6 (by simp [Src.rid,List.filterMap_cons]) (by simp [Src.rid,List.filterMap_cons]) (by simp [Src.rid,List.filterMap_cons]) (by simp)),by simp [go_sem],by simp [j7,aX,Src.cell],by simp,by simp [go_sem],.inl ?_⟩
     simp [go_sem,j7]
end Go.Proofs.YthibhamepjhfjaaGreatDoor

namespace Go.Proofs.YthibhamepjhfjaaGreatDoor
open Go.RowKit Go.Ab
attribute [local irreducible] AWP Go.Ab.Sub Means MeansH MeansX CallK CallG CallT CallGT CallU
theorem F2 (A : Mx) (n m : Nat) (h : n + 2 ≤ m) : okRowIds m (calC 0 :: outC 2 n :: mxC A n) :=by
 refine ⟨.inl rfl,.inr fun e he => ?_,?_⟩
 · simp only [outN,List.mem_flatMap,List.mem_map] at he
   obtain ⟨x,⟨k,hk,rfl⟩,he⟩ :=he
   have : k < n :=by simpa using hk
   simp only [AV.flat,List.mem_singleton] at he
   subst he
   show k + 2 < m
   omega
 · have : ∀ M : List (List AV),(∀ es ∈ M,zoneEs es = true) → okRowIds m (matC 41 4 M) :=by
    intro M
    induction M with
    | nil => intro _; trivial
    | cons es M ih => exact fun hz => ⟨.inl (hz es (by simp)),ih fun e he => hz e (List.mem_cons_of_mem _ he)⟩
   exact this _ fun es he => by
    obtain ⟨j,hj,rfl⟩ :=List.getElem_of_mem he
    exact d7 (List.getElem?_eq_getElem hj)
def keptX (own : List Int) (S : List (List Int)) (k : Nat) : Rat :=allX own S k * (((1000 - sumI (S.getD k []) : Int) : Rat) / ((1000 : Int) : Rat))
abbrev allL (own : List Int) (S : List (List Int)) : List AV :=(List.range own.length).map fun k => frq (allX own S k)
abbrev keptL (own : List Int) (S : List (List Int)) : List AV :=(List.range own.length).map fun k => frq (keptX own S k)
theorem rQ (own : List Int) (S : List (List Int)) : zoneEs (allL own S) = true :=by
 unfold zoneEs
 rw [List.all_eq_true]
 intro e he
 obtain ⟨k,_,rfl⟩ :=List.mem_map.1 he
 rfl
set_option maxHeartbeats 8000000 in
set_option maxRecDepth 20000 in
theorem H5 (own : List Int) (S : List (List Int)) (hv : PV own S) (hF : Fit (poolM own S) own.length) (hk : ∀ k,k < own.length → okMul (allX own S k) (((1000 - sumI (S.getD k []) : Int) : Rat) / ((1000 : Int) : Rat))) :
  Means false Tryz.prog 10 [il own,ill S] (.tup [.sl (allL own S),.sl (keptL own S),ii 0]) :=by
 have hn :=hv.most
 have hSl :=hv.len
 have hbad : badP own S = 0 :=by unfold badP; rw [if_pos hv.toPR,if_pos hv]
 have c1 :=fE own S (by omega) (by omega) fun l hl => by have :=(dN hv.toPR hl).1; omega
 rw [hbad] at c1
 have c2 :=JQ own S hv.toPR
 have c3 :=IX (poolM own S) own.length (by omega) hF
 have hMC : (mxC (poolM own S) own.length).length = own.length :=by rw [b9,aX]
 refine aF false 60 [.tmp 4,.tmp 5,.tmp 6] Tryz.func10 rfl rfl rfl (by simp) (by decide) rfl fun X hX => ?_
 (repeat (refine a7 q11x2 hX mixed rfl ?_;simp [go_sem];try refine ⟨by kernel_rfl,?_⟩))
 first | refine a8 (c1) ?_ | refine aA (c1) ?_
 try (simp [go_sem];try refine ⟨by kernel_rfl,?_⟩)
 (repeat (refine a7 q11x2 hX mixed rfl ?_;simp [go_sem];try refine ⟨by kernel_rfl,?_⟩))
 refine aC (by simp [go_sem]) ?_
 (repeat (refine a7 q11x2 hX mixed rfl ?_;simp [go_sem];try refine ⟨by kernel_rfl,?_⟩))
 refine B9 c2 rfl ?_ ?_ ?_ ?_
 · simp [go_sem]
 · simp [go_sem]
 · simp
 try (simp [go_sem];try refine ⟨by kernel_rfl,?_⟩)
 refine BB (c0 :=calC 0) (R :=outC 2 own.length :: mxC (poolM own S) own.length) c3 rfl (F2 _ _ _ (by rw [List.length_cons,hMC]; omega)) ?_ ?_ (rQ own S) fun D hD => ?_
 · simp [go_sem]
 · simp [go_sem]
 try (simp [go_sem];try refine ⟨by kernel_rfl,?_⟩)
 refine And.intro (by rw [hD]; simp) ?_
 have hD2 : D.length = own.length + 1 :=by rw [hD,List.length_cons,hMC]
 have hgx : ∀ x : Cell,(D ++ [x])[own.length + 1]? = some x :=fun x => by
  rw [List.getElem?_append_right (by omega),hD2,Nat.sub_self]; rfl
 have hXe : (List.range own.length).map (fun k => frq (solx (poolM own S) own.length k)) = allL own S :=rfl
 rw [hMC,hXe]
 have hz :=rQ own S
 refine eO (aG [(0,il own),(1,ill S),(8,.el 0 1 0 0),(9,.ow 1)] [.old 0 ⟨56,1,[.agg [ii 0]]⟩,.old (own.length + 2) ⟨41,4,allL own S⟩] (by simp [go_sem,hgx,hz]) (by simp [go_sem])) ?_
 simp only [List.map_cons,List.map_nil,Src.cell]
 clear hgx hD hD2 D c2 c3 hMC hbad c1 hXe
 have hal : (allL own S).length = own.length :=by simp
 have hag : ∀ k,k < own.length → nth (allL own S) k = frq (allX own S k) :=fun k hk => f6 (by simp [hk])
 have hrx : ∀ k,k < own.length → rq (allX own S k) :=fun k hk => by
  have :=xQ (hF.dpos k hk) (hF.fin k hk)
  exact this
 obtain ⟨AL,hAL⟩ : ∃ AL,allL own S = AL :=⟨_,rfl⟩
 rw [hAL] at hal hag hz ⊢
 (repeat (refine a7 q11x2 hX mixed rfl ?_;simp [go_sem];try refine ⟨by kernel_rfl,?_⟩))
 refine aH (fun i : Nat => ⟨mkE [(0,il own),(1,ill S),(8,.el 0 1 0 0),(9,.ow 1),(10,.ow 2),(27,ill S),(28,ii own.length),(29,ii i)],[calC 0,.row ⟨41,4,AL⟩,.row ⟨41,4,(List.range i).map fun k => frq (keptX own S k)⟩]⟩) (fun i => i ≤ own.length) (fun i => own.length - i) 0 ?_ ?_ ?_
 · refine aG _ [.old 0 ⟨56,1,[.agg [ii 0]]⟩,.old 1 ⟨41,4,AL⟩,.birth 41 4] (by simp [go_sem,hz]) ?_
   simp [go_sem,hSl]
 · omega
 · intro i hi
   (repeat (refine a7 q11x2 hX mixed rfl ?_;simp [go_sem];try refine ⟨by kernel_rfl,?_⟩))
   refine aB (b :=decide (i < own.length)) (by simp [go_sem]) (fun hb => ?_) (fun hb => ?_)
   · simp only [decide_eq_true_eq] at hb
     have hbS : i < S.length :=by omega
     have q1 :=dW (L :=S) hbS
     have q2 :=hag i hb
     have hpr :=dN hv.toPR (List.getElem_mem hbS)
     have hgv :=nN S[i] (by omega) hpr.2
     have hsb :=eP S[i] S[i].length hpr.2
     rw [List.take_length] at hsb
     have hlt :=hv.lt S[i] (List.getElem_mem hbS)
     have hgd : S.getD i [] = S[i] :=by rw [List.getD_eq_getElem?_getD,List.getElem?_eq_getElem hbS]; rfl
     have hmk :=hk i hb
     have hkx : keptX own S i = allX own S i * (((1000 - sumI S[i] : Int) : Rat) / ((1000 : Int) : Rat)) :=by unfold keptX; rw [hgd]
     rw [hgd] at hmk
     have c1 :=z6 (p :=1000 - sumI S[i]) (q :=1000) (by omega) (by decide) (by decide)
     have c2 :=oH (hrx i hb) (jL (p :=1000 - sumI S[i]) (q :=1000) (by omega) (by decide) (by decide)) hmk
     rw [← hkx] at c2
     have hsn : (List.range (i + 1)).map (fun k => frq (keptX own S k)) = (List.range i).map (fun k => frq (keptX own S k)) ++ [frq (keptX own S i)] :=by rw [List.range_succ,List.map_append]; rfl
     have wi :=w64 (x :=(i : Int) + 1) (by omega) (by omega)
     have ws :=w64 (x :=1000 - sumI S[i]) (by omega) (by omega)
     have hail : i < AL.length :=by omega
     (repeat (refine a7 q11x2 hX mixed rfl ?_;simp [go_sem,q1,q2,hbS,hail];try refine ⟨by kernel_rfl,?_⟩))
     first | refine a8 (hgv) ?_ | refine aA (hgv) ?_
     try (simp [go_sem,q1,q2,hbS,hail,ws];try refine ⟨by kernel_rfl,?_⟩)
     try (repeat refine And.intro (by first | omega | (unfold maxLen;omega) | kernel_rfl | (constructor <;> first | omega | (unfold maxLen;omega)) | grind) ?_)
     first | refine aL [0] (c1) (by simp [go_sem]) ?_ | refine aJ [0] (c1) (by simp [go_sem]) ?_ | refine aI [0] (c1) (by simp [go_sem]) ?_
     try (simp [go_sem,q1,q2,hbS,hail];try refine ⟨by kernel_rfl,?_⟩)
     try (repeat refine And.intro (by first | omega | (unfold maxLen;omega) | kernel_rfl | (constructor <;> first | omega | (unfold maxLen;omega)) | grind) ?_)
     first | refine aL [0] (c2) (by simp [go_sem]) ?_ | refine aJ [0] (c2) (by simp [go_sem]) ?_ | refine aI [0] (c2) (by simp [go_sem]) ?_
     try (simp [go_sem,q1,q2,hbS,hail];try refine ⟨by kernel_rfl,?_⟩)
     (repeat refine And.intro (by first | omega | (unfold maxLen;omega) | kernel_rfl | (constructor <;> first | omega | (unfold maxLen;omega)) | grind) ?_)
     try (repeat (refine a7 q11x2 hX mixed rfl ?_;simp [go_sem,wi];try refine ⟨by kernel_rfl,?_⟩))
     refine ⟨i + 1,by omega,by omega,?_⟩
     rw [hsn]
     refine aG _ [.old 0 ⟨56,1,[.agg [ii 0]]⟩,.old 1 ⟨41,4,AL⟩,.old 4 ⟨41,4,(List.range i).map (fun k => frq (keptX own S k)) ++ [frq (keptX own S i)]⟩] (by simp [go_sem,hz]) ?_
     simp [go_sem]
   · simp only [decide_eq_false_iff_not] at hb
     have hin : i = own.length :=by omega
     subst hin
     (repeat (refine a7 q11x2 hX mixed rfl ?_;simp [go_sem];try refine ⟨by kernel_rfl,?_⟩))
     refine aC (by simp [go_sem]) ?_
     have hzk : zoneEs ((List.range own.length).map fun k => frq (keptX own S k)) = true :=by
      unfold zoneEs
      rw [List.all_eq_true]
      intro e he
      obtain ⟨k,_,rfl⟩ :=List.mem_map.1 he
      rfl
     (repeat (refine a7 q11x2 hX mixed rfl ?_;simp [go_sem,hz,hzk];try refine ⟨by kernel_rfl,?_⟩))
     trace_state
end Go.Proofs.YthibhamepjhfjaaGreatDoor

namespace Go.Proofs.YthibhamepjhfjaaGreatDoor
open Go.RowKit Go.Ab
attribute [local irreducible] AWP Go.Ab.Sub Means MeansH MeansX CallK CallG CallT CallGT CallU
def cmpR (a b : Rat) : Int :=cmpI (a.num * b.den) (b.num * a.den)
theorem eX {a b : Rat} (ha : rq a) (hb : rq b) : Means false Tryz.prog 22 [frq a,frq b] (ii (cmpR a b)) :=C5 a.num a.den b.num b.den (dL ha) (dL hb)
theorem tS (a b : Rat) : cmpR a b < 0 ↔ a < b :=by
 rw [Rat.lt_iff]
 unfold cmpR cmpI
 split
 · simp; assumption
 · split <;> simp <;> omega
theorem mQ (a b : Rat) : 0 < cmpR a b ↔ b < a :=by
 rw [Rat.lt_iff]
 unfold cmpR cmpI
 split
 · simp; omega
 · split <;> simp <;> omega
theorem tT (a b : Rat) : cmpR a b = 0 ↔ a = b :=by
 have h1 :=tS a b
 have h2 :=mQ a b
 constructor
 · intro h
   have h3 : ¬ a < b :=fun e => by have :=h1.2 e; omega
   have h4 : ¬ b < a :=fun e => by have :=h2.2 e; omega
   grind
 · rintro rfl
   have h3 : ¬ a < a :=by grind
   have h5 : ¬ cmpR a a < 0 :=fun e => h3 (h1.1 e)
   have h6 : ¬ 0 < cmpR a a :=fun e => h3 (h2.1 e)
   omega
theorem tU {p q : Int} {r : Rat} {k m : Nat} (hq : q ≠ 0) (h : r * (q : Rat) = p) (hp : bt k p) (hm : bt m q) : bt k r.num ∧ bt m r.den :=by
 obtain ⟨h1,h2⟩ :=eM hq h
 obtain ⟨_,_,_,h4,h5,_⟩ :=pU (p :=p) hq
 rw [h1] at h4
 rw [h2] at h5
 rw [mX,mX] at h4
 rw [mX] at h5
 unfold bt at *
 refine ⟨by omega,?_⟩
 simp only [Int.natAbs_natCast]
 omega
theorem yL {a b : Rat} {k m k' m' : Nat} (h1 : bt k a.num) (h2 : bt m a.den) (h3 : bt k' b.num) (h4 : bt m' b.den) : bt (k + k') (a * b).num ∧ bt (m + m') (a * b).den :=
 tU (iW a b) (nO a b) (dE h1 h3) (dE h2 h4)
theorem F3 {a b : Rat} {k m k' m' c : Nat} (h1 : bt k a.num) (h2 : bt m a.den) (h3 : bt k' b.num) (h4 : bt m' b.den) (hc1 : k + m' ≤ c) (hc2 : k' + m ≤ c) : bt (c + 1) (a + b).num ∧ bt (m + m') (a + b).den :=
 tU (iW a b) (nP a b) (xK (bR (dE h1 h4) hc1) (bR (dE h3 h2) hc2)) (dE h2 h4)
theorem JR {z : Int} {k : Nat} (h : bt k z) : bt k ((z : Rat)).num ∧ bt 0 ((z : Rat)).den :=by
 rw [Rat.num_intCast,Rat.den_intCast]
 exact ⟨h,by show 1 ≤ 2 ^ 0; decide⟩
theorem F4 {p q : Int} {k m : Nat} (hq : q ≠ 0) (hp : bt k p) (hm : bt m q) : bt k ((p : Rat) / (q : Rat)).num ∧ bt m ((p : Rat) / (q : Rat)).den :=tU hq (ofq hq) hp hm
theorem jE {z : Int} (h : 0 ≤ z ∧ z ≤ 1000) : bt 10 z :=by
 unfold bt
 have : (2 : Nat) ^ 10 = 1024 :=by decide
 omega
theorem KY {z : Int} (h : 0 ≤ z ∧ z ≤ 1099511627776) : bt 40 z :=by
 unfold bt
 have : (2 : Nat) ^ 40 = 1099511627776 :=by decide
 omega
def psum (own : List Int) (S : List (List Int)) (xs : List Rat) (i j : Nat) : Rat :=((wO own i : Int) : Rat) + sumR (fun t => xs.getD t 0 * (((sO S t i : Int) : Rat) / ((1000 : Int) : Rat))) j
theorem yM (own : List Int) (S : List (List Int)) (xs : List Rat) (i : Nat) : psum own S xs i 0 = ((wO own i : Int) : Rat) :=by
 unfold psum; simp only [sumR]; grind
theorem lU (own : List Int) (S : List (List Int)) (xs : List Rat) (i j : Nat) : psum own S xs i (j + 1) = psum own S xs i j + xs.getD j 0 * (((sO S j i : Int) : Rat) / ((1000 : Int) : Rat)) :=by
 unfold psum; simp only [sumR]; grind
variable {own : List Int} {S : List (List Int)} {xs : List Rat}
theorem A4 (h : PR own S) (hx : ∀ x ∈ xs,bt 310 x.num ∧ bt 160 x.den) (hl : xs.length = own.length) {i j : Nat} (hi : i < own.length) (hj : j < own.length) :
  bt 10 (((sO S j i : Int) : Rat) / ((1000 : Int) : Rat)).num ∧ bt 10 (((sO S j i : Int) : Rat) / ((1000 : Int) : Rat)).den ∧ bt 310 (xs.getD j 0).num ∧ bt 160 (xs.getD j 0).den ∧
   bt 320 (xs.getD j 0 * (((sO S j i : Int) : Rat) / ((1000 : Int) : Rat))).num ∧ bt 170 (xs.getD j 0 * (((sO S j i : Int) : Rat) / ((1000 : Int) : Rat))).den :=by
 have hjl : j < xs.length :=by omega
 have hg : xs.getD j 0 = xs[j] :=by rw [List.getD_eq_getElem?_getD,List.getElem?_eq_getElem hjl]; rfl
 obtain ⟨h1,h2⟩ :=F4 (p :=sO S j i) (q :=1000) (by decide) (jE (h.s j i hj hi)) (jE (by decide))
 obtain ⟨h3,h4⟩ :=hx xs[j] (List.getElem_mem hjl)
 rw [hg]
 obtain ⟨h5,h6⟩ :=yL h3 h4 h1 h2
 exact ⟨h1,h2,h3,h4,h5,h6⟩
theorem jF (h : PR own S) (hx : ∀ x ∈ xs,bt 310 x.num ∧ bt 160 x.den) (hl : xs.length = own.length) {i : Nat} (hi : i < own.length) : ∀ j,j ≤ own.length → bt (150 + 171 * j) (psum own S xs i j).num ∧ bt (170 * j) (psum own S xs i j).den
 | 0,_ => by
   rw [yM]
   obtain ⟨h1,h2⟩ :=JR (KY (h.w i hi))
   exact ⟨bR h1 (by omega),bR h2 (by omega)⟩
 | j + 1,hj => by
   obtain ⟨h1,h2⟩ :=jF h hx hl hi j (by omega)
   obtain ⟨_,_,_,_,h3,h4⟩ :=A4 h hx hl hi (j :=j) (by omega)
   rw [lU]
   obtain ⟨h5,h6⟩ :=F3 (c :=320 + 171 * j) h1 h2 h3 h4 (by omega) (by omega)
   exact ⟨bR h5 (by omega),bR h6 (by omega)⟩
theorem A5 (h : PR own S) (h6 : own.length ≤ 6) (hx : ∀ x ∈ xs,bt 310 x.num ∧ bt 160 x.den) (hl : xs.length = own.length) {i j : Nat} (hi : i < own.length) (hj : j < own.length) :
  okMul (xs.getD j 0) (((sO S j i : Int) : Rat) / ((1000 : Int) : Rat)) ∧ okAdd (psum own S xs i j) (xs.getD j 0 * (((sO S j i : Int) : Rat) / ((1000 : Int) : Rat))) :=by
 obtain ⟨h1,h2⟩ :=jF h hx hl hi j (by omega)
 obtain ⟨a1,a2,a3,a4,a5,a6⟩ :=A4 h hx hl hi (j :=j) hj
 exact ⟨f0 a3 a4 a1 a2 (by omega) (by omega),oC h1 h2 a5 a6 (by omega) (by omega) (by omega)⟩
def chkQ (own : List Int) (S : List (List Int)) (xs ys : List Rat) : Prop :=∀ i,i < own.length → psum own S xs i own.length = xs.getD i 0 ∧ xs.getD i 0 * (((1000 - sumI (S.getD i []) : Int) : Rat) / ((1000 : Int) : Rat)) = ys.getD i 0
noncomputable instance (own : List Int) (S : List (List Int)) (xs ys : List Rat) : Decidable (chkQ own S xs ys) :=Classical.propDecidable _
theorem A6 (h : PV own S) (hx : ∀ x ∈ xs,bt 310 x.num ∧ bt 160 x.den) (hl : xs.length = own.length) {i : Nat} (hi : i < own.length) :
  (0 ≤ 1000 - sumI (S.getD i []) ∧ 1000 - sumI (S.getD i []) ≤ 1000) ∧ okMul (xs.getD i 0) (((1000 - sumI (S.getD i []) : Int) : Rat) / ((1000 : Int) : Rat)) :=by
 have hS : i < S.length :=by rw [h.len]; exact hi
 have hg : S.getD i [] = S[i] :=by rw [List.getD_eq_getElem?_getD,List.getElem?_eq_getElem hS]; rfl
 have hpr :=dN h.toPR (List.getElem_mem hS)
 have hsb :=eP S[i] S[i].length hpr.2
 rw [List.take_length] at hsb
 have hlt :=h.lt S[i] (List.getElem_mem hS)
 rw [hg]
 have hb : 0 ≤ 1000 - sumI S[i] ∧ 1000 - sumI S[i] ≤ 1000 :=by omega
 obtain ⟨h1,h2⟩ :=F4 (p :=1000 - sumI S[i]) (q :=1000) (by decide) (jE hb) (jE (by decide))
 have hjl : i < xs.length :=by omega
 have hg2 : xs.getD i 0 = xs[i] :=by rw [List.getD_eq_getElem?_getD,List.getElem?_eq_getElem hjl]; rfl
 obtain ⟨h3,h4⟩ :=hx xs[i] (List.getElem_mem hjl)
 rw [hg2]
 exact ⟨hb,f0 h3 h4 h1 h2 (by omega) (by omega)⟩
end Go.Proofs.YthibhamepjhfjaaGreatDoor

