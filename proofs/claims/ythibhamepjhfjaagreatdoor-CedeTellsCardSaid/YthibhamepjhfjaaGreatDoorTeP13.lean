/-
  Lemmas for the statement at the top.
-/
import Derived.Test.YthibhamepjhfjaaGreatDoorTeP12
import Derived.Test.YthibhamepjhfjaaGreatDoorTeFw4
import Derived.Test.YthibhamepjhfjaaGreatDoorTeP9
set_option linter.all false
namespace Go.Proofs.YthibhamepjhfjaaGreatDoor
open Go.RowKit Go.Ab
def q12x0 : List Nat :=[0,1,2,3,8,9,10,11,12,13,14,15,20,43,47,48,49,58,59,60,117]
def q12x1 : List Nat :=[0,1,2,3,8,9,14,34,1000000,1000001]
def q12x2 : List Nat :=[0,1,4,5,6,7,8,9,19,29]
def q12x3 : List Nat :=[0,1,4,5,6,7,8,12,26]
def q12x4 : List Nat :=[0,1,4,5,6,7,8,22]
def q12x5 : List Nat :=[0,1,4,5,13,22]
def q12x6 : List Nat :=[0,2,3,15]
attribute [go_sem] q12x0 q12x1 q12x2 q12x3 q12x4 q12x5 q12x6
attribute [local irreducible] AWP Go.Ab.Sub Means MeansH MeansX CallK CallG CallT CallGT CallU
def frR (r : Rat) : Fr :=⟨sg r.num,dg (ab r.num),sg r.den,dg (ab (r.den : Int))⟩
abbrev fql (xs : List Rat) : AV :=.sl (xs.map frq)
theorem K5 (xs : List Rat) : fql xs = .sl ((xs.map frR).map fv) :=by rw [List.map_map]; rfl
theorem FI (x : Rat) (h : rq x) : Means false Tryz.prog 55 [frq x] (bb false) :=by
 refine aF false 6 [.tmp 2] Tryz.func55 rfl rfl rfl (by simp) (by decide) rfl fun X hX => ?_
 (repeat (refine a7 [0,1,2] hX mixed rfl ?_;simp [go_sem];try refine ⟨by kernel_rfl,?_⟩))
 first | refine a8 (bG x.num x.den (dL h)) ?_ | refine aA (bG x.num x.den (dL h)) ?_
 try (simp [go_sem];try refine ⟨by kernel_rfl,?_⟩)
 (repeat (refine a7 [0,1,2] hX mixed rfl ?_;simp [go_sem];try refine ⟨by kernel_rfl,?_⟩))
theorem AJ (xs : List Rat) (hl : xs.length ≤ 9223372036854775807) (h : ∀ x ∈ xs,rq x) : Means false Tryz.prog 56 [fql xs,.v (.func (.func 55) #[] #[])] (bb false) :=by
 have :=zY 55 (fun _ => false) (xs.map frR) (by simpa using hl) (fun b hb => by
  obtain ⟨x,hx,rfl⟩ :=List.mem_map.1 hb
  exact FI x (h x hx)) (by kernel_rfl)
 rw [← K5,show (xs.map frR).any (fun _ => false) = false by rw [List.any_eq_false]; simp] at this
 exact this
theorem dD {xs : List Rat} {k : Nat} (h : k < xs.length) : nth (xs.map frq) k = frq (xs.getD k 0) :=by
 rw [List.getD_eq_getElem?_getD,List.getElem?_eq_getElem h]
 exact fH _ h
theorem d8 {xs : List Rat} {k : Nat} (hk : k < xs.length) (h : ∀ x ∈ xs,rq x) : rq (xs.getD k 0) :=by
 rw [List.getD_eq_getElem?_getD,List.getElem?_eq_getElem hk]
 exact h _ (List.getElem_mem hk)
def chkTo (own : List Int) (S : List (List Int)) (xs ys : List Rat) (i : Nat) : Prop :=∀ k,k < i → psum own S xs k own.length = xs.getD k 0 ∧ xs.getD k 0 * (((1000 - sumI (S.getD k []) : Int) : Rat) / ((1000 : Int) : Rat)) = ys.getD k 0
set_option maxHeartbeats 8000000 in
set_option maxRecDepth 20000 in
theorem AK (own : List Int) (S : List (List Int)) (hv : PV own S) (h6 : own.length ≤ 6) (xs ys : List Rat) (hxl : xs.length = own.length) (hyl : ys.length = own.length) (hx : ∀ x ∈ xs,bt 310 x.num ∧ bt 160 x.den) (hy : ∀ y ∈ ys,rq y) :
  Means false Tryz.prog 18 [il own,ill S,fql xs,fql ys] (ii (if chkQ own S xs ys then 0 else 21)) :=by
 have hSl :=hv.len
 have hxq : ∀ x ∈ xs,rq x :=fun x hx' => hI (hx x hx').1 (hx x hx').2 (by omega) (by omega)
 have hbad : badP own S = 0 :=by unfold badP; rw [if_pos hv.toPR,if_pos hv]
 have c1 :=fE own S (by omega) (by omega) fun l hl => by have :=(dN hv.toPR hl).1; omega
 rw [hbad] at c1
 have c2 :=AJ xs (by omega) hxq
 have c3 :=AJ ys (by omega) hy
 have hzx : zoneEs (xs.map frq) = true :=jV _ _ fun _ => rfl
 refine aF false 119 [.tmp 8] Tryz.func18 rfl rfl rfl (by simp) (by decide) rfl fun X hX => ?_
 (repeat (refine a7 q12x0 hX mixed rfl ?_;simp [go_sem];try refine ⟨by kernel_rfl,?_⟩))
 first | refine a8 (c1) ?_ | refine aA (c1) ?_
 try (simp [go_sem];try refine ⟨by kernel_rfl,?_⟩)
 (repeat (refine a7 q12x0 hX mixed rfl ?_;simp [go_sem];try refine ⟨by kernel_rfl,?_⟩))
 refine aC (by simp [go_sem]) ?_
 (repeat (refine a7 q12x0 hX mixed rfl ?_;simp [go_sem];try refine ⟨by kernel_rfl,?_⟩))
 first | refine aP (fun hg => c2) ?_ | refine aM (fun hg => c2) ?_
 try (simp [go_sem];try refine ⟨by kernel_rfl,?_⟩)
 first | refine aP (fun hg => c3) ?_ | refine aM (fun hg => c3) ?_
 try (simp [go_sem];try refine ⟨by kernel_rfl,?_⟩)
 refine aC (by simp [go_sem,hxl,hyl]) ?_
 (repeat (refine a7 q12x0 hX mixed rfl ?_;simp [go_sem];try refine ⟨by kernel_rfl,?_⟩))
 refine aH (fun i : Nat => ⟨mkE [(0,il own),(1,ill S),(2,fql xs),(3,fql ys),(11,.el 0 1 0 0),(47,ii own.length),(48,ii i)],[calC 0]⟩) (fun i => i ≤ own.length ∧ chkTo own S xs ys i) (fun i => own.length - i) 0 ?_ ?_ ?_
 · refine aG _ [.old 0 ⟨56,1,[.agg [ii 0]]⟩] (by simp [go_sem]) ?_
   simp [go_sem]
 · exact ⟨by omega,fun k hk => by omega⟩
 · rintro i ⟨hi,hp⟩
   (repeat (refine a7 q12x0 hX mixed rfl ?_;simp [go_sem];try refine ⟨by kernel_rfl,?_⟩))
   refine aB (b :=decide (i < own.length)) (by simp [go_sem]) (fun hb => ?_) (fun hb => ?_)
   · simp only [decide_eq_true_eq] at hb
     have wi :=w64 (x :=(i : Int) + 1) (by omega) (by omega)
     have q1 :=cX hb
     have hw :=hv.w i hb
     rw [show wO own i = own[i] from bS hb] at hw
     have k1 :=wM (p :=own[i]) (by omega)
     rw [show own[i] = wO own i from (bS hb).symm] at k1 q1
     (repeat (refine a7 q12x0 hX mixed rfl ?_;simp [go_sem,hb,q1];try refine ⟨by kernel_rfl,?_⟩))
     first | refine aL [0] (k1) (by simp [go_sem]) ?_ | refine aJ [0] (k1) (by simp [go_sem]) ?_ | refine aI [0] (k1) (by simp [go_sem]) ?_
     try (simp [go_sem,hb,q1];try refine ⟨by kernel_rfl,?_⟩)
     (repeat (refine a7 q12x0 hX mixed rfl ?_;simp [go_sem];try refine ⟨by kernel_rfl,?_⟩))
     refine aH (fun j : Nat => ⟨mkE [(0,il own),(1,ill S),(2,fql xs),(3,fql ys),(11,.el 0 1 0 0),(12,ii i),(13,.el 1 4 0 0),(47,ii own.length),(48,ii i),(58,ii own.length),(59,ii j)],[calC 0,.row ⟨41,4,[frq (psum own S xs i j)]⟩]⟩) (fun j => j ≤ own.length) (fun j => own.length - j) 0 ?_ ?_ ?_
     · rw [yM]
       refine aG _ [.old 0 ⟨56,1,[.agg [ii 0]]⟩,.old 1 ⟨41,4,[frq ((wO own i : Int) : Rat)]⟩] (by simp [go_sem]) ?_
       simp [go_sem]
     · omega
     · intro j hj
       (repeat (refine a7 q12x0 hX mixed rfl ?_;simp [go_sem];try refine ⟨by kernel_rfl,?_⟩))
       refine aB (b :=decide (j < own.length)) (by simp [go_sem]) (fun hc => ?_) (fun hc => ?_)
       · simp only [decide_eq_true_eq] at hc
         have wj :=w64 (x :=(j : Int) + 1) (by omega) (by omega)
         have hjS : j < S.length :=by omega
         have hjx : j < xs.length :=by omega
         have hlr :=hv.row S[j] (List.getElem_mem hjS)
         have hij2 : i < S[j].length :=by omega
         have p1 :=dW (L :=S) hjS
         have p2 :=cX hij2
         have p3 :=dD hjx
         have hso : S[j][i] = sO S j i :=by
          unfold sO
          rw [List.getD_eq_getElem?_getD (l :=S),List.getElem?_eq_getElem hjS]
          exact (bS hij2).symm
         rw [hso] at p2
         have hsb :=hv.s j i hc hb
         obtain ⟨o1,o2⟩ :=A5 hv.toPR h6 hx hxl hb hc
         have hps :=lU own S xs i j
         obtain ⟨u1,u2⟩ :=jF hv.toPR hx hxl hb j (by omega)
         have k2 :=z6 (p :=sO S j i) (q :=1000) (by omega) (by decide) (by decide)
         have k3 :=oH (d8 hjx hxq) (jL (p :=sO S j i) (q :=1000) (by omega) (by decide) (by decide)) o1
         have k4 : MeansH Tryz.prog 44 [calC 0] [.el 0 1 0 0,frq (psum own S xs i j),frq (xs.getD j 0 * (((sO S j i : Int) : Rat) / ((1000 : Int) : Rat)))] (frq (psum own S xs i (j + 1))) [calC 0] :=by
          rw [hps]
          exact AD 0 (K0 (hI u1 u2 (by omega) (by omega)) (oJ o1) o2)
         obtain ⟨pj1,hpj1⟩ : ∃ q,psum own S xs i (j + 1) = q :=⟨_,rfl⟩
         rw [hpj1] at k4
         generalize psum own S xs i j = pj at *
         generalize xs.getD j 0 = xj at *
         (repeat (refine a7 q12x0 hX mixed rfl ?_;simp [go_sem,hjS,hjx,hij2,p1,p2,p3];try refine ⟨by kernel_rfl,?_⟩))
         first | refine aL [0] (k2) (by simp [go_sem]) ?_ | refine aJ [0] (k2) (by simp [go_sem]) ?_ | refine aI [0] (k2) (by simp [go_sem]) ?_
         try (simp [go_sem,hjS,hjx,hij2,p1,p2,p3];try refine ⟨by kernel_rfl,?_⟩)
         first | refine aL [0] (k3) (by simp [go_sem]) ?_ | refine aJ [0] (k3) (by simp [go_sem]) ?_ | refine aI [0] (k3) (by simp [go_sem]) ?_
         try (simp [go_sem,hjS,hjx,hij2,p1,p2,p3];try refine ⟨by kernel_rfl,?_⟩)
         first | refine aL [0] (k4) (by simp [go_sem]) ?_ | refine aJ [0] (k4) (by simp [go_sem]) ?_ | refine aI [0] (k4) (by simp [go_sem]) ?_
         try (simp [go_sem,hjS,hjx,hij2,p1,p2,p3];try refine ⟨by kernel_rfl,?_⟩)
         try (repeat (refine a7 q12x0 hX mixed rfl ?_;simp [go_sem,wj];try refine ⟨by kernel_rfl,?_⟩))
         refine ⟨j + 1,by omega,by omega,?_⟩
         rw [hpj1]
         refine aG _ [.old 0 ⟨56,1,[.agg [ii 0]]⟩,.old 1 ⟨41,4,[frq pj1]⟩] (by simp [go_sem]) ?_
         simp [go_sem]
       · simp only [decide_eq_false_iff_not] at hc
         have hjn : j = own.length :=by omega
         subst hjn
         have hiS : i < S.length :=by omega
         have hix : i < xs.length :=by omega
         have hiy : i < ys.length :=by omega
         have p1 :=dW (L :=S) hiS
         have p3 :=dD hix
         have p4 :=dD hiy
         have hpr :=dN hv.toPR (List.getElem_mem hiS)
         have hgv :=nN S[i] (by omega) hpr.2
         have hgd : S.getD i [] = S[i] :=by rw [List.getD_eq_getElem?_getD,List.getElem?_eq_getElem hiS]; rfl
         obtain ⟨hgb,o1⟩ :=A6 hv hx hxl hb
         obtain ⟨u1,u2⟩ :=jF hv.toPR hx hxl hb own.length (Nat.le_refl _)
         have hpq :=hI u1 u2 (by omega) (by omega)
         have hpi :=hp
         rw [← hgd] at hgv
         have hst : chkQ own S xs ys → _ :=fun h => h i hb
         have hin : chkTo own S xs ys i → (psum own S xs i own.length = xs.getD i 0 ∧ xs.getD i 0 * (((1000 - sumI (S.getD i []) : Int) : Rat) / ((1000 : Int) : Rat)) = ys.getD i 0) → chkTo own S xs ys (i + 1) :=fun h1 h2 k hk => by
          by_cases e : k = i
          · subst e; exact h2
          · exact h1 k (by omega)
         have k2 :=z6 (p :=1000 - sumI (S.getD i [])) (q :=1000) (by omega) (by decide) (by decide)
         have k3 :=oH (d8 hix hxq) (jL (p :=1000 - sumI (S.getD i [])) (q :=1000) (by omega) (by decide) (by decide)) o1
         have m1 :=eX hpq (d8 hix hxq)
         have m2 :=eX (oJ o1) (d8 hiy hy)
         have z1 :=tT (psum own S xs i own.length) (xs.getD i 0)
         have z2 :=tT (xs.getD i 0 * (((1000 - sumI (S.getD i []) : Int) : Rat) / ((1000 : Int) : Rat))) (ys.getD i 0)
         have ws :=w64 (x :=1000 - sumI (S.getD i [])) (by omega) (by omega)
         rw [← hgd] at p1
         have hSi : nth (S.map il) i = il (S.getD i []) :=p1
         clear p1 hgd hpr u1 u2 hpi
         generalize psum own S xs i own.length = pn at *
         generalize xs.getD i 0 = xi at *
         generalize ys.getD i 0 = yi at *
         generalize hgs : sumI (S.getD i []) = gs at *
         generalize S.getD i [] = Si at *
         generalize hpt : xi * (((1000 - gs : Int) : Rat) / ((1000 : Int) : Rat)) = pt at *
         (repeat (refine a7 q12x0 hX mixed rfl ?_;simp [go_sem,hiS,hix,hSi,p3];try refine ⟨by kernel_rfl,?_⟩))
         first | refine a8 (hgv) ?_ | refine aA (hgv) ?_
         try (simp [go_sem,hiS,hix,hSi,p3,ws];try refine ⟨by kernel_rfl,?_⟩)
         try (repeat refine And.intro (by first | omega | (unfold maxLen;omega) | kernel_rfl | (constructor <;> first | omega | (unfold maxLen;omega)) | grind) ?_)
         first | refine aL [0] (k2) (by simp [go_sem]) ?_ | refine aJ [0] (k2) (by simp [go_sem]) ?_ | refine aI [0] (k2) (by simp [go_sem]) ?_
         try (simp [go_sem,hiS,hix,hSi,p3];try refine ⟨by kernel_rfl,?_⟩)
         first | refine aL [0] (k3) (by simp [go_sem]) ?_ | refine aJ [0] (k3) (by simp [go_sem]) ?_ | refine aI [0] (k3) (by simp [go_sem]) ?_
         try (simp [go_sem,hiS,hix,hSi,p3];try refine ⟨by kernel_rfl,?_⟩)
         (repeat (refine a7 q12x0 hX mixed rfl ?_;simp [go_sem,hiS,hix,hiy,p3,p4];try refine ⟨by kernel_rfl,?_⟩))
         first | refine aP (fun hg => m1) ?_ | refine aM (fun hg => m1) ?_
         try (simp [go_sem,hiS,hix,hiy,p3,p4];try refine ⟨by kernel_rfl,?_⟩)
         first | refine aP (fun hg => m2) ?_ | refine aM (fun hg => m2) ?_
         try (simp [go_sem,hiS,hix,hiy,p3,p4];try refine ⟨by kernel_rfl,?_⟩)
         refine aB (b :=!decide (pn = xi ∧ pt = yi)) (by simp [go_sem,z1,z2,bne]; try grind) (fun hd => ?_) (fun hd => ?_)
         · have e : ¬ chkQ own S xs ys :=fun h => by
            have :=hst h
            simp [this] at hd
           (repeat (refine a7 q12x0 hX mixed rfl ?_;simp [go_sem,e];try refine ⟨by kernel_rfl,?_⟩))
         · simp only [Bool.not_eq_false',decide_eq_true_eq] at hd
           (repeat (refine a7 q12x0 hX mixed rfl ?_;simp [go_sem,wi];try refine ⟨by kernel_rfl,?_⟩))
           refine ⟨i + 1,⟨by omega,hin hp hd⟩,by omega,?_⟩
           refine aG _ [.old 0 ⟨56,1,[.agg [ii 0]]⟩] (by simp [go_sem]) ?_
           simp [go_sem]
   · simp only [decide_eq_false_iff_not] at hb
     have hin : i = own.length :=by omega
     subst hin
     have e : chkQ own S xs ys :=hp
     (repeat (refine a7 q12x0 hX mixed rfl ?_;simp [go_sem,e];try refine ⟨by kernel_rfl,?_⟩))
end Go.Proofs.YthibhamepjhfjaaGreatDoor

namespace Go.Proofs.YthibhamepjhfjaaGreatDoor
def bef (K : Int → Int) (x y : Int) : Prop :=K y < K x ∨ (K x = K y ∧ x < y)
instance (K : Int → Int) (x y : Int) : Decidable (bef K x y) :=by unfold bef; infer_instance
theorem rU {K : Int → Int} {x y z : Int} (h1 : bef K x y) (h2 : bef K y z) : bef K x z :=by unfold bef at *; omega
theorem rV {K : Int → Int} {x y : Int} (h : x ≠ y) : bef K x y ∨ bef K y x :=by unfold bef; omega
theorem CD {K : Int → Int} {x y : Int} (h1 : bef K x y) : ¬ bef K y x :=by unfold bef at *; omega
def insB (K : Int → Int) (x : Int) : List Int → List Int
 | [] => [x]
 | y :: l => if bef K x y then x :: y :: l else y :: insB K x l
def srt (K : Int → Int) (l : List Int) : List Int :=l.foldl (fun s x => insB K x s) []
theorem pY (K : Int → Int) (l : List Int) (x : Int) : srt K (l ++ [x]) = insB K x (srt K l) :=by unfold srt; rw [List.foldl_append]; rfl
theorem iY (K : Int → Int) (x : Int) : ∀ l,(insB K x l).Perm (x :: l)
 | [] => .refl _
 | y :: l => by
   unfold insB
   split
   · exact .refl _
   · exact ((iY K x l).cons y).trans (.swap x y l)
theorem eY (K : Int → Int) (l : List Int) : (srt K l).Perm l :=by
 have : ∀ k,k ≤ l.length → (srt K (l.take k)).Perm (l.take k) :=by
  intro k
  induction k with
  | zero => intro _; exact .refl _
  | succ k ih =>
    intro hk
    rw [List.take_succ_eq_append_getElem (by omega),pY]
    exact (iY K _ _).trans (((ih (by omega)).cons _).trans (List.perm_append_singleton _ _).symm)
 have :=this l.length (Nat.le_refl _)
 rwa [List.take_length] at this
theorem mM {K : Int → Int} {x : Int} : ∀ {l : List Int},l.Pairwise (bef K) → x ∉ l → (insB K x l).Pairwise (bef K)
 | [],_,_ => by simp [insB]
 | y :: l,h,hx => by
   rw [List.pairwise_cons] at h
   simp only [List.mem_cons,not_or] at hx
   unfold insB
   split
   · rename_i hb
     refine List.pairwise_cons.2 ⟨fun z hz => ?_,List.pairwise_cons.2 h⟩
     rcases List.mem_cons.1 hz with rfl | hz
     · exact hb
     · exact rU hb (h.1 z hz)
   · rename_i hb
     refine List.pairwise_cons.2 ⟨fun z hz => ?_,mM h.2 hx.2⟩
     rcases List.mem_cons.1 ((iY K x l).mem_iff.1 hz) with rfl | hz
     · exact (rV hx.1).resolve_left hb
     · exact h.1 z hz
theorem pZ {K : Int → Int} {l : List Int} (hn : l.Nodup) : (srt K l).Pairwise (bef K) :=by
 have : ∀ k,k ≤ l.length → (srt K (l.take k)).Pairwise (bef K) :=by
  intro k
  induction k with
  | zero => intro _; exact List.Pairwise.nil
  | succ k ih =>
    intro hk
    have hkl : k < l.length :=by omega
    rw [List.take_succ_eq_append_getElem hkl,pY]
    refine mM (ih (by omega)) fun hm => ?_
    have hm :=(eY K _).mem_iff.1 hm
    obtain ⟨j,hj,e⟩ :=List.mem_take_iff_getElem.1 hm
    have :=(List.getElem_inj hn).1 e
    omega
 have :=this l.length (Nat.le_refl _)
 rwa [List.take_length] at this
theorem s8 (K : Int → Int) (l : List Int) : (srt K l).length = l.length :=(eY K l).length_eq
theorem AM {K : Int → Int} {x : Int} : ∀ {s : List Int} (k : Nat),s.Pairwise (bef K) → k ≤ s.length → (∀ e ∈ s.take k,bef K e x) → (∀ e ∈ s.drop k,bef K x e) → insB K x s = s.take k ++ x :: s.drop k
 | [],k,_,_,_,_ => by simp [insB]
 | y :: s,0,_,_,_,h2 => by
   have :=h2 y (by simp)
   simp [insB,this]
 | y :: s,k + 1,h,hk,h1,h2 => by
   have hy : bef K y x :=h1 y (by simp)
   rw [List.pairwise_cons] at h
   have ih :=AM k h.2 (by simpa using hk) (fun e he => h1 e (by simp [he])) (fun e he => h2 e (by simpa using he))
   unfold insB
   rw [if_neg (CD hy),ih]
   rfl
def r3 (a b c : List Int) : List Int :=a ++ b ++ c
@[simp] theorem r3_len (a b c : List Int) : (r3 a b c).length = a.length + b.length + c.length :=by simp [r3]; omega
def rowX (pre s : List Int) (x : Int) (post : List Int) (k : Nat) : List Int :=pre ++ (s.take k ++ x :: s.drop k) ++ post
theorem FJ {pre s : List Int} {x : Int} {post : List Int} {k : Nat} (h : k ≤ s.length) : (rowX pre s x post k).length = pre.length + s.length + 1 + post.length :=by
 simp [rowX]; omega
theorem HF {pre s : List Int} {x : Int} {post : List Int} {k : Nat} (h : k ≤ s.length) (hl : pre.length + k < (rowX pre s x post k).length) : (rowX pre s x post k)[pre.length + k] = x :=by
 simp only [rowX,List.append_assoc]
 rw [List.getElem_append_right (by omega),List.getElem_append_right (by simp; omega)]
 simp [Nat.min_eq_left h]
theorem CE {pre s : List Int} {x : Int} {post : List Int} {k : Nat} (h : k < s.length) (hl : pre.length + k < (rowX pre s x post (k + 1)).length) : (rowX pre s x post (k + 1))[pre.length + k] = s[k] :=by
 simp only [rowX,List.append_assoc]
 rw [List.getElem_append_right (by omega),List.getElem_append_left (by simp; omega)]
 simp
theorem CF {pre s : List Int} {x : Int} {post : List Int} {k : Nat} (h : k < s.length) : ((rowX pre s x post (k + 1)).set (pre.length + (k + 1)) s[k]).set (pre.length + k) x = rowX pre s x post k :=by
 have e1 : s.take (k + 1) = s.take k ++ [s[k]] :=List.take_succ_eq_append_getElem h
 have e2 : s.drop k = s[k] :: s.drop (k + 1) :=List.drop_eq_getElem_cons h
 have hk : (s.take k).length = k :=by simp; omega
 simp only [rowX,e1,e2,List.append_assoc]
 rw [List.set_append_right _ _ (by omega),List.set_append_right _ _ (by omega)]
 congr 1
 rw [show pre.length + (k + 1) - pre.length = k + 1 by omega,show pre.length + k - pre.length = k by omega]
 rw [List.set_append_right _ _ (by omega),List.set_append_right _ _ (by omega),hk]
 congr 1
 simp
 rw [e2]; rfl
end Go.Proofs.YthibhamepjhfjaaGreatDoor

namespace Go.Proofs.YthibhamepjhfjaaGreatDoor
open Go.RowKit Go.Ab
attribute [local irreducible] AWP Go.Ab.Sub Means MeansH CallK CallG CallT CallGT CallU
abbrev rowI (L : List Int) : Cell :=.row ⟨3,1,L.map ii⟩
theorem dC (L : List Int) (hl : L.length ≤ 100000) (ho : okD L) : Means true Tryz.prog 122 [il L] (il (dg (val L))) :=by
 refine aF true 23 [.tmp 2] Tryz.func122 rfl rfl rfl (by simp) (by decide) rfl fun X hX => ?_
 (repeat (refine a7 q12x6 hX mixed rfl ?_;simp [go_sem];try refine ⟨by kernel_rfl,?_⟩))
 refine aH (fun n : Nat => ⟨mkE [(0,il L),(3,ii n)],[]⟩) (fun n => n ≤ L.length ∧ zeroFrom L n) (fun n => n) L.length ?_ ?_ ?_
 · refine aG _ [] (by simp [go_sem]) ?_
   simp [go_sem]
 · exact ⟨Nat.le_refl _,fun j h h2 => by omega⟩
 · rintro n ⟨hn,hz⟩
   cases n with
   | zero =>
     have hz0 : il (dg (val L)) = il [] :=by rw [jH ho hn hz (.inl rfl)]; rfl
     rw [hz0]
     clear ho hz hz0
     cases L with
     | nil =>
       (repeat (refine a7 q12x6 hX mixed rfl ?_;simp [go_sem];try refine ⟨by kernel_rfl,?_⟩))
       refine aB (b :=false) (by simp [go_sem]) (fun hb => by cases hb) (fun _ => ?_)
       (repeat (refine a7 q12x6 hX mixed rfl ?_;simp [go_sem];try refine ⟨by kernel_rfl,?_⟩))
     | cons x xs =>
       (repeat (refine a7 q12x6 hX mixed rfl ?_;simp [go_sem,iM];try refine ⟨by kernel_rfl,?_⟩))
       refine aB (b :=false) (by simp [go_sem]) (fun hb => by cases hb) (fun _ => ?_)
       (repeat (refine a7 q12x6 hX mixed rfl ?_;simp [go_sem];try refine ⟨by kernel_rfl,?_⟩))
       (repeat refine And.intro (by first | omega | (unfold maxLen;omega) | kernel_rfl | (constructor <;> first | omega | (unfold maxLen;omega)) | grind) ?_)
       (repeat (refine a7 q12x6 hX mixed rfl ?_;simp [go_sem];try refine ⟨by kernel_rfl,?_⟩))
   | succ n =>
     have h1 : n < L.length :=by omega
     (repeat (refine a7 q12x6 hX mixed rfl ?_;simp [go_sem]; (try simp (disch :=omega) only [w64,td,tm]);try refine ⟨by kernel_rfl,?_⟩))
     (repeat refine And.intro (by first | omega | (unfold maxLen;omega) | kernel_rfl | (constructor <;> first | omega | (unfold maxLen;omega)) | grind) ?_)
     try (simp [go_sem,h1];try refine ⟨by kernel_rfl,?_⟩)
     refine aB (b :=decide (L[n] = 0)) (by simp [go_sem,h1]; try omega) (fun hb => ?_) (fun hb => ?_)
     · simp at hb
       (repeat (refine a7 q12x6 hX mixed rfl ?_;simp [go_sem]; (try simp (disch :=omega) only [w64,td,tm]);try refine ⟨by kernel_rfl,?_⟩))
       refine ⟨n,⟨by omega,u6 hz h1 hb⟩,by omega,?_⟩
       refine aG _ [] (by simp [go_sem]) ?_
       simp [go_sem]
     · simp at hb
       (repeat (refine a7 q12x6 hX mixed rfl ?_;simp [go_sem];try refine ⟨by kernel_rfl,?_⟩))
       (repeat refine And.intro (by first | omega | (unfold maxLen;omega) | kernel_rfl | (constructor <;> first | omega | (unfold maxLen;omega)) | grind) ?_)
       try (simp [go_sem];try refine ⟨by kernel_rfl,?_⟩)
       rw [jH ho hn hz (.inr ⟨h1,hb⟩)]
       refine ⟨⟨⟨by omega,by unfold maxLen; omega⟩,fun a ha => ?_⟩,?_⟩
       · obtain ⟨x,_,rfl⟩ :=List.mem_map.1 (List.mem_of_mem_take ha)
         exact ⟨rfl,rfl⟩
       rw [← List.map_take]
       generalize L.take (n + 1) = D
       (repeat (refine a7 q12x6 hX mixed rfl ?_;simp [go_sem];try refine ⟨by kernel_rfl,?_⟩))
def dgt (l : List Int) (i : Nat) : Int :=l.getD i 0
theorem gV {l : List Int} {i : Nat} (h : i < l.length) : dgt l i = l[i] :=by unfold dgt; rw [List.getD_eq_getElem?_getD,List.getElem?_eq_getElem h]; rfl
theorem k8 {l : List Int} {i : Nat} (h : l.length ≤ i) : dgt l i = 0 :=by unfold dgt; rw [List.getD_eq_getElem?_getD,List.getElem?_eq_none h]; rfl
theorem bW (l : List Int) (hl : l.length ≤ 100000) (i : Nat) (hi : i ≤ 1000000) : Means true Tryz.prog 123 [il l,ii i] (ii (dgt l i)) :=by
 refine aF true 13 [.tmp 4] Tryz.func123 rfl rfl rfl (by simp) (by decide) rfl fun X hX => ?_
 (repeat (refine a7 [0,1,4,8] hX mixed rfl ?_;simp [go_sem];try refine ⟨by kernel_rfl,?_⟩))
 refine aB (b :=decide (i < l.length)) (by simp [go_sem]) (fun hc => ?_) (fun hc => ?_)
 · simp at hc
   rw [gV hc]
   (repeat (refine a7 [0,1,4,8] hX mixed rfl ?_;simp [go_sem,hc];try refine ⟨by kernel_rfl,?_⟩))
 · simp at hc
   rw [k8 hc]
   (repeat (refine a7 [0,1,4,8] hX mixed rfl ?_;simp [go_sem];try refine ⟨by kernel_rfl,?_⟩))
theorem nK (s : Int) (L : List Int) (hl : L.length ≤ 100000) (ho : okD L) : Means false Tryz.prog 103 [ii s,il L] (big2 (if val L = 0 then 0 else s) (dg (val L))) :=by
 have hv :=aT ho
 refine aF false 15 [.cell 4 39] Tryz.func103 rfl rfl rfl (by simp) (by decide) rfl fun X hX => ?_
 (repeat (refine a7 [0,1,4,5,10] hX mixed rfl ?_;simp [go_sem];try refine ⟨by kernel_rfl,?_⟩))
 first | refine a8 (dC L hl ho) ?_ | refine aA (dC L hl ho) ?_
 try (simp [go_sem];try refine ⟨by kernel_rfl,?_⟩)
 by_cases h0 : val L = 0
 · have e : dg (val L) = [] :=cB.2 (by omega)
   rw [e,if_pos h0]
   (repeat (refine a7 [0,1,4,5,10] hX mixed rfl ?_;simp [go_sem];try refine ⟨by kernel_rfl,?_⟩))
   refine aK (by simp [go_sem]) ?_
   (repeat (refine a7 [0,1,4,5,10] hX mixed rfl ?_;simp [go_sem];try refine ⟨by kernel_rfl,?_⟩))
 · have e : dg (val L) ≠ [] :=fun h => by have :=cB.1 h; omega
   have e2 : 0 < (dg (val L)).length :=List.length_pos_iff.2 e
   rw [if_neg h0]
   generalize dg (val L) = D at *
   (repeat (refine a7 [0,1,4,5,10] hX mixed rfl ?_;simp [go_sem];try refine ⟨by kernel_rfl,?_⟩))
   refine aC (by simp [go_sem,e]) ?_
   (repeat (refine a7 [0,1,4,5,10] hX mixed rfl ?_;simp [go_sem];try refine ⟨by kernel_rfl,?_⟩))
theorem gD : ∀ (n : Nat) (l : List Int),val l = val (l.take n) + 1048576 ^ n * val (l.drop n)
 | 0,l => by simp [val]
 | n + 1,[] => by simp [val]
 | n + 1,x :: l => by
   have ih :=gD n l
   simp only [List.take_succ_cons,List.drop_succ_cons,val]
   rw [ih,Int.pow_succ,Int.mul_add,← Int.mul_assoc,Int.mul_comm 1048576 (1048576 ^ n)]; omega
theorem dR (l : List Int) (n : Nat) : val (l.drop n) = dgt l n + 1048576 * val (l.drop (n + 1)) :=by
 by_cases h : n < l.length
 · rw [List.drop_eq_getElem_cons h,gV h]; rfl
 · rw [List.drop_of_length_le (by omega),List.drop_of_length_le (by omega),k8 (by omega)]; simp [val]
theorem fS {l : List Int} (h : okD l) (n : Nat) : 0 ≤ val (l.take n) ∧ val (l.take n) < 1048576 ^ n :=by
 refine ⟨aT (bL h n),Int.lt_of_lt_of_le (dF (bL h n)) ?_⟩
 have : ((1048576 ^ (l.take n).length : Nat) : Int) ≤ (1048576 ^ n : Nat) :=by
  have :=Nat.pow_le_pow_right (n :=1048576) (by omega) (show (l.take n).length ≤ n by simp; omega)
  omega
 simpa using this
theorem mN {a b : List Int} (ha : okD a) (hb : okD b) {n : Nat} (h : val (a.drop n) < val (b.drop n)) : val a < val b :=by
 have h1 :=fS ha n
 have h2 :=fS hb n
 have e1 :=gD n a
 have e2 :=gD n b
 have h3 : (1048576 : Int) ^ n * (val (a.drop n) + 1) ≤ 1048576 ^ n * val (b.drop n) :=Int.mul_le_mul_of_nonneg_left (by omega) (by omega)
 rw [Int.mul_add] at h3
 omega
theorem k9 {l : List Int} (h : okD l) (i : Nat) : 0 ≤ dgt l i ∧ dgt l i < 1048576 :=by
 by_cases hi : i < l.length
 · rw [gV hi]; exact bH h hi
 · rw [k8 (by omega)]; decide
set_option maxHeartbeats 4000000 in
theorem tL (a b : List Int) (hla : a.length ≤ 100000) (hlb : b.length ≤ 100000) (ha : okD a) (hb : okD b) : Means true Tryz.prog 110 [il a,il b] (bb (decide (val a < val b))) :=by
 have m1 : max (a.length : Int) b.length = ((max a.length b.length : Nat) : Int) :=by omega
 obtain ⟨N,hN⟩ : ∃ N,max a.length b.length = N :=⟨_,rfl⟩
 rw [hN] at m1
 have hw0 :=w64 (x :=(N : Int) - 1) (by omega) (by omega)
 refine aF true 30 [.tmp 4] Tryz.func110 rfl rfl rfl (by simp) (by decide) rfl fun X hX => ?_
 (repeat (refine a7 q12x5 hX mixed rfl ?_;simp [go_sem,m1,hw0];try refine ⟨by kernel_rfl,?_⟩))
 refine aH (fun n : Nat => ⟨mkE [(0,il a),(1,il b),(5,ii ((n : Int) - 1))],[]⟩) (fun n => n ≤ N ∧ val (a.drop n) = val (b.drop n)) (fun n => n) N ?_ ?_ ?_
 · refine aG _ [] (by simp [go_sem]) ?_
   simp [go_sem]
 · refine ⟨Nat.le_refl _,?_⟩
   rw [List.drop_of_length_le (by omega),List.drop_of_length_le (by omega)]
 · rintro n ⟨hn,he⟩
   cases n with
   | zero =>
     have e : decide (val a < val b) = false :=by
      simp only [List.drop_zero] at he
      rw [he]; simp
     rw [e]
     (repeat (refine a7 q12x5 hX mixed rfl ?_;simp [go_sem];try refine ⟨by kernel_rfl,?_⟩))
     refine aC (by simp [go_sem]) ?_
     (repeat (refine a7 q12x5 hX mixed rfl ?_;simp [go_sem];try refine ⟨by kernel_rfl,?_⟩))
   | succ n =>
     have hn1 : ((n + 1 : Nat) : Int) - 1 = n :=by omega
     have hnn : ¬ (n : Int) < 0 :=by omega
     have d1 :=dR a n
     have d2 :=dR b n
     rw [hn1]
     have hw :=w64 (x :=(n : Int) - 1) (by omega) (by omega)
     (repeat (refine a7 q12x5 hX mixed rfl ?_;simp [go_sem];try refine ⟨by kernel_rfl,?_⟩))
     refine aK (by simp [go_sem]; try omega) ?_
     (repeat (refine a7 q12x5 hX mixed rfl ?_;simp [go_sem];try refine ⟨by kernel_rfl,?_⟩))
     first | refine a8 (bW a hla n (by omega)) ?_ | refine aA (bW a hla n (by omega)) ?_
     try (simp [go_sem];try refine ⟨by kernel_rfl,?_⟩)
     first | refine a8 (bW b hlb n (by omega)) ?_ | refine aA (bW b hlb n (by omega)) ?_
     try (simp [go_sem];try refine ⟨by kernel_rfl,?_⟩)
     by_cases hd : dgt a n = dgt b n
     · refine aC (by simp [go_sem,hd]) ?_
       (repeat (refine a7 q12x5 hX mixed rfl ?_;simp [go_sem,hw];try refine ⟨by kernel_rfl,?_⟩))
       refine ⟨n,⟨by omega,by omega⟩,by omega,?_⟩
       refine aG _ [] (by simp [go_sem]) ?_
       simp [go_sem]
     · have e : decide (val a < val b) = decide (dgt a n < dgt b n) :=by
        rw [decide_eq_decide]
        have b1 :=k9 ha n
        have b2 :=k9 hb n
        constructor
        · intro h
          rcases Int.lt_trichotomy (dgt a n) (dgt b n) with q | q | q
          · exact q
          · exact absurd q hd
          · have :=mN hb ha (n :=n) (by omega); omega
        · intro h; exact mN ha hb (n :=n) (by omega)
       rw [e]
       refine aK (by simp [go_sem,hd]) ?_
       (repeat (refine a7 q12x5 hX mixed rfl ?_;simp [go_sem];try refine ⟨by kernel_rfl,?_⟩))
       first | refine a8 (bW a hla n (by omega)) ?_ | refine aA (bW a hla n (by omega)) ?_
       try (simp [go_sem];try refine ⟨by kernel_rfl,?_⟩)
       first | refine a8 (bW b hlb n (by omega)) ?_ | refine aA (bW b hlb n (by omega)) ?_
       try (simp [go_sem];try refine ⟨by kernel_rfl,?_⟩)
       (repeat (refine a7 q12x5 hX mixed rfl ?_;simp [go_sem];try refine ⟨by kernel_rfl,?_⟩))
set_option maxHeartbeats 4000000 in
set_option maxRecDepth 20000 in
theorem zS (a b : List Int) (hla : a.length ≤ 10000) (hlb : b.length ≤ 10000) (ha : okD a) (hb : okD b) : Means false Tryz.prog 111 [il a,il b] (il (dg (val a + val b))) :=by
 obtain ⟨N,hN⟩ : ∃ N,max a.length b.length = N :=⟨_,rfl⟩
 refine aF false 43 [.tmp 4] Tryz.func111 rfl rfl rfl (by simp) (by decide) rfl fun X hX => ?_
 (repeat (refine a7 q12x4 hX mixed rfl ?_;simp [go_sem];try refine ⟨by kernel_rfl,?_⟩))
 refine aH (fun x : List Int × Int => ⟨mkE [(0,il a),(1,il b),(5,.ow 0),(6,ii x.2),(7,ii x.1.length)],[rowI x.1]⟩)
  (fun x => okD x.1 ∧ x.1.length ≤ N + 1 ∧ 0 ≤ x.2 ∧ x.2 ≤ 1 ∧ (x.1.length = N + 1 → x.2 = 0) ∧ val x.1 + 1048576 ^ x.1.length * (x.2 + (val (a.drop x.1.length) + val (b.drop x.1.length))) = val a + val b) (fun x => N + 1 - x.1.length) ([],0) ?_ ?_ ?_
 · refine aG _ [.birth 3 1] (by simp [go_sem]) ?_
   simp [go_sem]
 · exact ⟨cP,by simp,by simp,by simp,by simp,by simp [val]⟩
 · rintro ⟨o,c⟩ ⟨h1,h2,h3,h4,h5,h6⟩
   simp only [] at h1 h2 h3 h4 h5 h6
   (repeat (refine a7 q12x4 hX mixed rfl ?_;simp [go_sem];try refine ⟨by kernel_rfl,?_⟩))
   refine aB (b :=decide (o.length < a.length) || decide (o.length < b.length) || decide (0 < c)) (by simp [go_sem]) (fun hc => ?_) (fun hc => ?_)
   · have hc' : o.length < a.length ∨ o.length < b.length ∨ 0 < c :=by simpa [or_assoc] using hc
     have hlt : o.length < N + 1 :=by
      rcases hc' with h | h | h
      · omega
      · omega
      · rcases Nat.lt_or_ge o.length (N + 1) with q | q
        · exact q
        · have :=h5 (by omega); omega
     obtain ⟨n,hn⟩ : ∃ n,o.length = n :=⟨_,rfl⟩
     rw [hn] at h2 h5 h6 hlt ⊢
     have d1 :=k9 ha n
     have d2 :=k9 hb n
     have v1 :=dR a n
     have v2 :=dR b n
     have z1 : n = N → dgt a n = 0 ∧ dgt b n = 0 :=fun h => ⟨k8 (by omega),k8 (by omega)⟩
     (repeat (refine a7 q12x4 hX mixed rfl ?_;simp [go_sem];try refine ⟨by kernel_rfl,?_⟩))
     first | refine a8 (bW a (by omega) n (by omega)) ?_ | refine aA (bW a (by omega) n (by omega)) ?_
     try (simp [go_sem];try refine ⟨by kernel_rfl,?_⟩)
     first | refine a8 (bW b (by omega) n (by omega)) ?_ | refine aA (bW b (by omega) n (by omega)) ?_
     try (simp [go_sem];try refine ⟨by kernel_rfl,?_⟩)
     obtain ⟨x,hx⟩ : ∃ x,dgt a n + dgt b n + c = x :=⟨_,rfl⟩
     have hwx :=w64 (x :=x) (by omega) (by omega)
     have hwx2 :=w64 (x :=dgt a n + dgt b n) (by omega) (by omega)
     have hm : x.tmod 1048576 = x % 1048576 :=Int.tmod_eq_emod_of_nonneg (by omega)
     have hd : x.tdiv 1048576 = x / 1048576 :=Int.tdiv_eq_ediv_of_nonneg (by omega)
     obtain ⟨r,hr⟩ : ∃ r,x % 1048576 = r :=⟨_,rfl⟩
     obtain ⟨q,hq⟩ : ∃ q,x / 1048576 = q :=⟨_,rfl⟩
     have hrq : x = r + 1048576 * q :=by omega
     have hwr :=w64 (x :=r) (by omega) (by omega)
     have hwq :=w64 (x :=q) (by omega) (by omega)
     have hwn :=w64 (x :=(n : Int) + 1) (by omega) (by omega)
     rw [hr] at hm
     rw [hq] at hd
     (repeat (refine a7 q12x4 hX mixed rfl ?_;simp [go_sem,hwx2,hx,hwx,hm,hd,hn,hwr,hwq,hwn];try refine ⟨by kernel_rfl,?_⟩))
     try (repeat refine And.intro (by first | omega | (unfold maxLen;omega) | kernel_rfl | (constructor <;> first | omega | (unfold maxLen;omega)) | grind) ?_)
     try (repeat (refine a7 q12x4 hX mixed rfl ?_;simp [go_sem,hwx2,hx,hwx,hm,hd,hn,hwr,hwq,hwn];try refine ⟨by kernel_rfl,?_⟩))
     have hlen : (o ++ [r]).length = n + 1 :=by simp [hn]
     refine ⟨o ++ [r],q,⟨eD.2 ⟨h1,aU.2 ⟨by omega,cP⟩⟩,by omega,by omega,by omega,fun h => ?_,?_⟩,by omega,?_⟩
     · have :=z1 (by omega)
       omega
     · rw [hlen,eC,hn,Int.pow_succ,← h6,v1,v2]
       simp only [val]
       have e : (1048576 : Int) ^ n * 1048576 * (q + (val (a.drop (n + 1)) + val (b.drop (n + 1)))) = 1048576 ^ n * (1048576 * q + (1048576 * val (a.drop (n + 1)) + 1048576 * val (b.drop (n + 1)))) :=by
        rw [Int.mul_assoc]; congr 1; omega
       rw [e,Int.mul_zero,Int.add_zero,Int.add_assoc,← Int.mul_add]
       congr 2; omega
     · rw [hlen]
       refine aG _ [.old 2 ⟨3,1,(o ++ [r]).map ii⟩] (by simp [go_sem]) ?_
       simp [go_sem]
       try omega
   · have hc' : ¬ o.length < a.length ∧ ¬ o.length < b.length ∧ ¬ 0 < c :=by
      simp at hc; omega
     have e : val o = val a + val b :=by
      rw [List.drop_of_length_le (l :=a) (by omega),List.drop_of_length_le (l :=b) (by omega),show c = 0 by omega] at h6
      simpa [val] using h6
     rw [← e]
     (repeat (refine a7 q12x4 hX mixed rfl ?_;simp [go_sem];try refine ⟨by kernel_rfl,?_⟩))
     first | refine a8 (dC o (by omega) h1) ?_ | refine aA (dC o (by omega) h1) ?_
     try (simp [go_sem];try refine ⟨by kernel_rfl,?_⟩)
     (repeat (refine a7 q12x4 hX mixed rfl ?_;simp [go_sem];try refine ⟨by kernel_rfl,?_⟩))
set_option maxHeartbeats 4000000 in
set_option maxRecDepth 20000 in
theorem l3 (a b : List Int) (hla : a.length ≤ 10000) (hlb : b.length ≤ 10000) (ha : okD a) (hb : okD b) (hle : val b ≤ val a) : Means false Tryz.prog 112 [il a,il b] (il (dg (val a - val b))) :=by
 refine aF false 35 [.tmp 4] Tryz.func112 rfl rfl rfl (by simp) (by decide) rfl fun X hX => ?_
 (repeat (refine a7 q12x3 hX mixed rfl ?_;simp [go_sem];try refine ⟨by kernel_rfl,?_⟩))
 refine aH (fun x : List Int × Int => ⟨mkE [(0,il a),(1,il b),(5,.ow 0),(6,ii x.2),(7,ii x.1.length)],[rowI x.1]⟩)
  (fun x => okD x.1 ∧ x.1.length ≤ a.length ∧ 0 ≤ x.2 ∧ x.2 ≤ 1 ∧ val x.1 + 1048576 ^ x.1.length * (val (a.drop x.1.length) - val (b.drop x.1.length) - x.2) = val a - val b) (fun x => a.length - x.1.length) ([],0) ?_ ?_ ?_
 · refine aG _ [.birth 3 1] (by simp [go_sem]) ?_
   simp [go_sem]
 · exact ⟨cP,by simp,by simp,by simp,by simp [val]⟩
 · rintro ⟨o,c⟩ ⟨h1,h2,h3,h4,h6⟩
   simp only [] at h1 h2 h3 h4 h6
   (repeat (refine a7 q12x3 hX mixed rfl ?_;simp [go_sem];try refine ⟨by kernel_rfl,?_⟩))
   refine aB (b :=decide (o.length < a.length)) (by simp [go_sem]) (fun hc => ?_) (fun hc => ?_)
   · simp at hc
     obtain ⟨n,hn⟩ : ∃ n,o.length = n :=⟨_,rfl⟩
     rw [hn] at h2 h6 hc ⊢
     have d1 :=bH ha hc
     have d2 :=k9 hb n
     have v1 :=dR a n
     have v2 :=dR b n
     rw [gV hc] at v1
     have hlen : ∀ r,(o ++ [r]).length = n + 1 :=fun r => by simp [hn]
     have hwn :=w64 (x :=(n : Int) + 1) (by omega) (by omega)
     (repeat (refine a7 q12x3 hX mixed rfl ?_;simp [go_sem,hc];try refine ⟨by kernel_rfl,?_⟩))
     first | refine a8 (bW b (by omega) n (by omega)) ?_ | refine aA (bW b (by omega) n (by omega)) ?_
     try (simp [go_sem];try refine ⟨by kernel_rfl,?_⟩)
     obtain ⟨x,hx⟩ : ∃ x,a[n] - dgt b n - c = x :=⟨_,rfl⟩
     have hwx :=w64 (x :=x) (by omega) (by omega)
     have hwx2 :=w64 (x :=a[n] - dgt b n) (by omega) (by omega)
     have step : ∀ r q : Int,x = r - 1048576 * q → val (o ++ [r]) + 1048576 ^ (n + 1) * (val (a.drop (n + 1)) - val (b.drop (n + 1)) - q) = val a - val b :=fun r q e => by
      rw [eC,hn,Int.pow_succ,← h6,v1,v2]
      simp only [val]
      have e2 : (1048576 : Int) ^ n * 1048576 * (val (a.drop (n + 1)) - val (b.drop (n + 1)) - q) = 1048576 ^ n * (1048576 * val (a.drop (n + 1)) - 1048576 * val (b.drop (n + 1)) - 1048576 * q) :=by
       rw [Int.mul_assoc]; congr 1; omega
      rw [e2,Int.mul_zero,Int.add_zero,Int.add_assoc,← Int.mul_add]
      congr 2; omega
     (repeat (refine a7 q12x3 hX mixed rfl ?_;simp [go_sem,hwx2,hx,hwx];try refine ⟨by kernel_rfl,?_⟩))
     refine aB (b :=decide (x < 0)) (by simp [go_sem]) (fun hd => ?_) (fun hd => ?_)
     · simp at hd
       have hwr :=w64 (x :=x + 1048576) (by omega) (by omega)
       (repeat (refine a7 q12x3 hX mixed rfl ?_;simp [go_sem,hwr,hn,hwn];try refine ⟨by kernel_rfl,?_⟩))
       try (repeat refine And.intro (by first | omega | (unfold maxLen;omega) | kernel_rfl | (constructor <;> first | omega | (unfold maxLen;omega)) | grind) ?_)
       try (repeat (refine a7 q12x3 hX mixed rfl ?_;simp [go_sem,hwr,hn,hwn];try refine ⟨by kernel_rfl,?_⟩))
       refine ⟨o ++ [x + 1048576],1,⟨eD.2 ⟨h1,aU.2 ⟨by omega,cP⟩⟩,by rw [hlen]; omega,by omega,by omega,by rw [hlen]; exact step _ _ (by omega)⟩,by rw [hlen]; omega,?_⟩
       rw [hlen]
       refine aG _ [.old 2 ⟨3,1,(o ++ [x + 1048576]).map ii⟩] (by simp [go_sem]) ?_
       simp [go_sem]
       try omega
     · simp at hd
       (repeat (refine a7 q12x3 hX mixed rfl ?_;simp [go_sem,hn,hwn];try refine ⟨by kernel_rfl,?_⟩))
       try (repeat refine And.intro (by first | omega | (unfold maxLen;omega) | kernel_rfl | (constructor <;> first | omega | (unfold maxLen;omega)) | grind) ?_)
       try (repeat (refine a7 q12x3 hX mixed rfl ?_;simp [go_sem,hn,hwn];try refine ⟨by kernel_rfl,?_⟩))
       refine ⟨o ++ [x],0,⟨eD.2 ⟨h1,aU.2 ⟨by omega,cP⟩⟩,by rw [hlen]; omega,by omega,by omega,by rw [hlen]; exact step _ _ (by omega)⟩,by rw [hlen]; omega,?_⟩
       rw [hlen]
       refine aG _ [.old 2 ⟨3,1,(o ++ [x]).map ii⟩] (by simp [go_sem]) ?_
       simp [go_sem]
       try omega
   · have hl : o.length = a.length :=by simp at hc; omega
     have e : val o = val a - val b :=by
      rw [List.drop_of_length_le (l :=a) (by omega)] at h6
      have hlt :=dF h1
      have h0 :=aT h1
      have hb0 :=aT (bU hb o.length)
      have hp :=bV o.length
      simp only [val] at h6
      obtain ⟨t,ht⟩ : ∃ t,val (b.drop o.length) + c = t :=⟨_,rfl⟩
      have e2 : (0 : Int) - val (b.drop o.length) - c = -t :=by omega
      rw [e2,Int.mul_neg] at h6
      rcases Int.lt_or_le 0 t with q | q
      · have :=Int.mul_le_mul_of_nonneg_left (show 1 ≤ t by omega) (show 0 ≤ (1048576 : Int) ^ o.length by omega)
        rw [Int.mul_one] at this; omega
      · have : t = 0 :=by omega
        subst this; simpa using h6
     rw [← e]
     (repeat (refine a7 q12x3 hX mixed rfl ?_;simp [go_sem];try refine ⟨by kernel_rfl,?_⟩))
     first | refine a8 (dC o (by omega) h1) ?_ | refine aA (dC o (by omega) h1) ?_
     try (simp [go_sem];try refine ⟨by kernel_rfl,?_⟩)
     (repeat (refine a7 q12x3 hX mixed rfl ?_;simp [go_sem];try refine ⟨by kernel_rfl,?_⟩))
theorem AN : ∀ (l : List Int) (j : Nat) (v : Int) (h : j < l.length),val (l.set j v) = val l + 1048576 ^ j * (v - l[j])
 | x :: l,0,v,_ => by simp [val]; omega
 | x :: l,j + 1,v,h => by
   have ih :=AN l j v (by simpa using h)
   simp only [List.set_cons_succ,val,List.getElem_cons_succ]
   rw [ih,Int.pow_succ,Int.mul_comm (1048576 ^ j) 1048576,Int.mul_assoc,Int.mul_add]; omega
theorem wV (b : List Int) (k : Nat) : val (b.take (k + 1)) = val (b.take k) + 1048576 ^ k * dgt b k :=by
 by_cases h : k < b.length
 · rw [List.take_succ_eq_append_getElem h,eC,gV h,List.length_take,Nat.min_eq_left (by omega)]; simp [val]
 · rw [List.take_of_length_le (by omega),List.take_of_length_le (by omega),k8 (by omega)]; simp
theorem FK {l : List Int} (ho : okD l) {n : Nat} (h : val l < 1048576 ^ n) : dgt l n = 0 :=by
 have e :=gD n l
 have h1 :=fS ho n
 have h2 :=aT (bU ho n)
 have hp :=bV n
 have h3 : val (l.drop n) = 0 :=by
  rcases Int.lt_or_le 0 (val (l.drop n)) with q | q
  · have :=Int.mul_le_mul_of_nonneg_left (show 1 ≤ val (l.drop n) by omega) (show 0 ≤ (1048576 : Int) ^ n by omega)
    rw [Int.mul_one] at this; omega
  · omega
 have h4 :=dR l n
 have h5 :=aT (bU ho (n + 1))
 have h6 :=k9 ho n
 omega
set_option maxHeartbeats 8000000 in
set_option maxRecDepth 20000 in
theorem pO (a b : List Int) (hla : a.length ≤ 1000) (hlb : b.length ≤ 1000) (ha : okD a) (hb : okD b) : Means false Tryz.prog 104 [il a,il b] (il (dg (val a * val b))) :=by
 obtain ⟨N,hN⟩ : ∃ N,a.length + b.length = N :=⟨_,rfl⟩
 have hNi : (a.length : Int) + b.length = N :=by omega
 have hwN :=w64 (x :=(N : Int)) (by omega) (by omega)
 refine aF false 60 [.tmp 4] Tryz.func104 rfl rfl rfl (by simp) (by decide) rfl fun X hX => ?_
 (repeat (refine a7 q12x2 hX mixed rfl ?_;simp [go_sem,hNi,hwN];try refine ⟨by kernel_rfl,?_⟩))
 (repeat refine And.intro (by first | omega | (unfold maxLen;omega) | kernel_rfl | (constructor <;> first | omega | (unfold maxLen;omega)) | grind) ?_)
 (repeat (refine a7 q12x2 hX mixed rfl ?_;simp [go_sem];try refine ⟨by kernel_rfl,?_⟩))
 refine aH (fun x : Nat × List Int => ⟨mkE [(0,il a),(1,il b),(5,.ow 0),(6,ii x.1)],[rowI x.2]⟩) (fun x => x.1 ≤ a.length ∧ okD x.2 ∧ x.2.length = N ∧ val x.2 = val (a.take x.1) * val b) (fun x => a.length - x.1) (0,List.replicate N 0) ?_ ?_ ?_
 · refine aG _ [.old 0 ⟨3,1,(List.replicate N (0 : Int)).map ii⟩] (by simp [go_sem,List.map_replicate]) ?_
   simp [go_sem,List.map_replicate]
 · exact ⟨by simp,eB N,by simp,by rw [gB]; simp [val]⟩
 · rintro ⟨i,o⟩ ⟨h1,h2,h3,h4⟩
   simp only [] at h1 h2 h3 h4
   (repeat (refine a7 q12x2 hX mixed rfl ?_;simp [go_sem];try refine ⟨by kernel_rfl,?_⟩))
   refine aB (b :=decide (i < a.length)) (by simp [go_sem]) (fun hc => ?_) (fun hc => ?_)
   · simp at hc
     have hx :=bH ha hc
     have hai :=wV a i
     rw [gV hc] at hai
     have hob : val o < 1048576 ^ (i + b.length) :=by
      have a1 :=fS ha i
      have b1 :=dF hb
      have b0 :=aT hb
      rw [h4,Int.pow_add]
      have e1 : val (a.take i) * val b ≤ val (a.take i) * 1048576 ^ b.length :=Int.mul_le_mul_of_nonneg_left (by omega) a1.1
      have e2 : val (a.take i) * 1048576 ^ b.length < 1048576 ^ i * 1048576 ^ b.length :=Int.mul_lt_mul_of_pos_right a1.2 (bV _)
      omega
     have hz :=FK h2 hob
     obtain ⟨x,hxe⟩ : ∃ x,a[i] = x :=⟨_,rfl⟩
     rw [hxe] at hx hai
     (repeat (refine a7 q12x2 hX mixed rfl ?_;simp [go_sem];try refine ⟨by kernel_rfl,?_⟩))
     refine aH (fun z : Nat × List Int × Int => ⟨mkE [(0,il a),(1,il b),(5,.ow 0),(6,ii i),(7,ii z.2.2),(8,ii z.1)],[rowI z.2.1]⟩)
      (fun z => z.1 ≤ b.length + 1 ∧ okD z.2.1 ∧ z.2.1.length = N ∧ 0 ≤ z.2.2 ∧ z.2.2 < 1048576 ∧ (z.1 = b.length + 1 → z.2.2 = 0) ∧ (z.1 ≤ b.length → dgt z.2.1 (i + b.length) = 0) ∧ val z.2.1 + 1048576 ^ (i + z.1) * z.2.2 = val o + 1048576 ^ i * (x * val (b.take z.1))) (fun z => b.length + 1 - z.1) (0,o,0) ?_ ?_ ?_
     · refine aG _ [.old 0 ⟨3,1,o.map ii⟩] (by simp [go_sem]) ?_
       simp [go_sem]
     · exact ⟨by simp,h2,h3,by simp,by simp,by simp,fun _ => hz,by simp [val]⟩
     · rintro ⟨k,p,c⟩ ⟨g1,g2,g3,g4,g5,g6,g7,g8⟩
       simp only [] at g1 g2 g3 g4 g5 g6 g7 g8
       (repeat (refine a7 q12x2 hX mixed rfl ?_;simp [go_sem];try refine ⟨by kernel_rfl,?_⟩))
       refine aB (b :=decide (k < b.length) || decide (0 < c)) (by simp [go_sem]) (fun hd => ?_) (fun hd => ?_)
       · have hd' : k < b.length ∨ 0 < c :=by simpa using hd
         have hk : k ≤ b.length :=by
          rcases hd' with h | h
          · omega
          · rcases Nat.lt_or_ge b.length k with q | q
            · have :=g6 (by omega); omega
            · exact q
         obtain ⟨j,hj⟩ : ∃ j,i + k = j :=⟨_,rfl⟩
         have hj' : (i : Int) + k = j :=by omega
         have hjl : j < p.length :=by omega
         have hpj :=bH g2 hjl
         have hb1 :=k9 hb k
         have hbk :=wV b k
         have hpu :=fun v => AN p j v hjl
         have hmb :=k7 hx hb1
         have hb0 : k = b.length → dgt b k = 0 ∧ p[j] = 0 :=fun h => ⟨k8 (by omega),by have :=g7 hk; rw [show i + b.length = j by omega,gV hjl] at this; exact this⟩
         obtain ⟨y,hy⟩ : ∃ y,dgt b k = y :=⟨_,rfl⟩
         obtain ⟨w,hw⟩ : ∃ w,p[j] = w :=⟨_,rfl⟩
         obtain ⟨xy,hxy⟩ : ∃ xy,x * y = xy :=⟨_,rfl⟩
         rw [hy] at hb1 hbk hmb hb0
         rw [hw] at hpj hb0
         rw [hxy] at hmb
         simp only [hw] at hpu
         obtain ⟨n,hn⟩ : ∃ n,w + xy + c = n :=⟨_,rfl⟩
         obtain ⟨r,hr⟩ : ∃ r,n % 1048576 = r :=⟨_,rfl⟩
         obtain ⟨q,hq⟩ : ∃ q,n / 1048576 = q :=⟨_,rfl⟩
         have hm : n.tmod 1048576 = r :=by rw [← hr]; exact Int.tmod_eq_emod_of_nonneg (by omega)
         have hdv : n.tdiv 1048576 = q :=by rw [← hq]; exact Int.tdiv_eq_ediv_of_nonneg (by omega)
         have w1 :=w64 (x :=xy) (by omega) (by omega)
         have w2 :=w64 (x :=w + xy) (by omega) (by omega)
         have w3 :=w64 (x :=n) (by omega) (by omega)
         have w4 :=w64 (x :=(j : Int)) (by omega) (by omega)
         have w5 :=w64 (x :=r) (by omega) (by omega)
         have w6 :=w64 (x :=q) (by omega) (by omega)
         have w7 :=w64 (x :=(k : Int) + 1) (by omega) (by omega)
         (repeat (refine a7 q12x2 hX mixed rfl ?_;simp [go_sem,hj',w4,hjl,hw,hc,hxe];try refine ⟨by kernel_rfl,?_⟩))
         first | refine a8 (bW b (by omega) k (by omega)) ?_ | refine aA (bW b (by omega) k (by omega)) ?_
         try (simp [go_sem,hy,hxy,w1,w2,hn,w3];try refine ⟨by kernel_rfl,?_⟩)
         (repeat (refine a7 q12x2 hX mixed rfl ?_;simp [go_sem,hj',w4,hjl,hw,hc,hxe,hy,hxy,w1,w2,hn,w3,hm,hdv,w5,w6,w7];try refine ⟨by kernel_rfl,?_⟩))
         have hxy0 : y = 0 → xy = 0 :=fun h => by rw [← hxy,h,Int.mul_zero]
         refine ⟨k + 1,p.set j r,q,⟨by omega,gT g2 j ⟨by omega,by omega⟩,by simpa using g3,by omega,by omega,fun h => ?_,fun h => ?_,?_⟩,by omega,?_⟩
         · have :=hb0 (by omega)
           have :=hxy0 this.1
           omega
         · have :=g7 hk
           unfold dgt at this ⊢
           rw [List.getD_eq_getElem?_getD,List.getElem?_set_ne (by omega),← List.getD_eq_getElem?_getD]
           exact this
         · rw [hpu r,hbk,show i + (k + 1) = j + 1 by omega,Int.pow_succ]
           have e1 : (1048576 : Int) ^ j * 1048576 * q = 1048576 ^ j * (1048576 * q) :=by rw [Int.mul_assoc]
           have e2 : (1048576 : Int) ^ i * (x * (val (b.take k) + 1048576 ^ k * y)) = 1048576 ^ i * (x * val (b.take k)) + 1048576 ^ j * xy :=by
            rw [Int.mul_add x,Int.mul_add,← hj,Int.pow_add,← hxy,Int.mul_assoc (1048576 ^ i),Int.mul_left_comm x]
           rw [hj] at g8
           rw [e1,e2,← Int.add_assoc,← g8,Int.add_assoc,← Int.mul_add,Int.add_assoc,← Int.mul_add]
           congr 2; omega
         · refine aG _ [.old 0 ⟨3,1,(p.set j r).map ii⟩] (by simp [go_sem]) ?_
           simp [go_sem]
           try omega
       · have hd' : ¬ k < b.length ∧ ¬ 0 < c :=by simp at hd; omega
         have e0 : b.take k = b :=List.take_of_length_le (by omega)
         have ec : c = 0 :=by omega
         rw [e0,ec,Int.mul_zero,Int.add_zero] at g8
         have hwi :=w64 (x :=(i : Int) + 1) (by omega) (by omega)
         (repeat (refine a7 q12x2 hX mixed rfl ?_;simp [go_sem,hwi];try refine ⟨by kernel_rfl,?_⟩))
         refine ⟨i + 1,p,⟨by omega,g2,g3,?_⟩,by omega,?_⟩
         · rw [g8,hai,h4,Int.add_mul,Int.mul_assoc]
         · refine aG _ [.old 0 ⟨3,1,p.map ii⟩] (by simp [go_sem]) ?_
           simp [go_sem]
   · have e : a.take i = a :=List.take_of_length_le (by simp at hc; omega)
     rw [e] at h4
     rw [← h4]
     (repeat (refine a7 q12x2 hX mixed rfl ?_;simp [go_sem];try refine ⟨by kernel_rfl,?_⟩))
     first | refine a8 (dC o (by omega) h2) ?_ | refine aA (dC o (by omega) h2) ?_
     try (simp [go_sem];try refine ⟨by kernel_rfl,?_⟩)
     (repeat (refine a7 q12x2 hX mixed rfl ?_;simp [go_sem];try refine ⟨by kernel_rfl,?_⟩))
end Go.Proofs.YthibhamepjhfjaaGreatDoor

namespace Go.Proofs.YthibhamepjhfjaaGreatDoor
open Go.RowKit Go.Ab
attribute [local irreducible] AWP Go.Ab.Sub Means MeansH CallK CallG CallT CallGT CallU
theorem u7 {L : List Rat} {j : Nat} (h : j < L.length) : L.getD j 0 = L[j] :=by rw [List.getD_eq_getElem?_getD,List.getElem?_eq_getElem h]; rfl
def cden : List Rat → Int
 | [] => 1
 | r :: R => r.den * cden R
theorem wW : ∀ R : List Rat,0 < cden R
 | [] => by decide
 | r :: R => Int.mul_pos (by have :=r.den_pos; omega) (wW R)
theorem wX : ∀ (R : List Rat) (r : Rat),r ∈ R → ∃ m : Int,r * (cden R : Rat) = (m : Rat)
 | a :: R,r,h => by
   rcases List.mem_cons.1 h with rfl | h
   · refine ⟨r.num * cden R,?_⟩
     show r * (((r.den : Int) * cden R : Int) : Rat) = _
     rw [Rat.intCast_mul,Rat.intCast_mul,cQ r]; grind
   · obtain ⟨m,e⟩ :=wX R r h
     refine ⟨a.den * m,?_⟩
     show r * (((a.den : Int) * cden R : Int) : Rat) = _
     rw [Rat.intCast_mul,Rat.intCast_mul,← e]; grind
namespace B
abbrev bsl (R : List Rat) : AV :=fql R
def okR (R : List Rat) : Prop :=∀ r ∈ R,rq r
def kf (R : List Rat) (x : Int) : Int :=(R.getD x.toNat 0 * (cden R : Rat)).num
theorem IE (R : List Rat) (x : Int) : (kf R x : Rat) = R.getD x.toNat 0 * (cden R : Rat) :=by
 unfold kf
 have : ∃ m : Int,R.getD x.toNat 0 * (cden R : Rat) = (m : Rat) :=by
  by_cases h : x.toNat < R.length
  · rw [u7 h]; exact wX R _ (List.getElem_mem h)
  · rw [List.getD_eq_getElem?_getD,List.getElem?_eq_none (by omega)]
    exact ⟨0,by show (0 : Rat) * _ = ((0 : Int) : Rat); rw [Rat.zero_mul]; rfl⟩
 obtain ⟨m,e⟩ :=this
 rw [e,Rat.num_intCast]
theorem kf_lt (R : List Rat) (x y : Int) : kf R x < kf R y ↔ R.getD x.toNat 0 < R.getD y.toNat 0 :=by
 rw [← Rat.intCast_lt_intCast,IE,IE]
 exact Rat.mul_lt_mul_right (by have :=wW R; exact Rat.intCast_pos.2 this)
def cmpC (R : List Rat) (x y : Int) : Int :=cmpR (R.getD y.toNat 0) (R.getD x.toNat 0)
theorem HG (R : List Rat) (x y : Int) : cmpC R x y < 0 ↔ kf R y < kf R x :=by unfold cmpC; rw [tS,kf_lt]
set_option maxHeartbeats 4000000 in
set_option maxRecDepth 20000 in
theorem LH (R : List Rat) (hok : okR R) (x y : Int) (hx : 0 ≤ x ∧ x < R.length) (hy : 0 ≤ y ∧ y < R.length) : MeansH Tryz.prog 46 [.row ⟨24,1,[bsl R]⟩] [ii x,ii y,.el 0 1 0 0] (ii (cmpC R x y)) [.row ⟨24,1,[bsl R]⟩] :=by
 obtain ⟨i,hi,rfl⟩ : ∃ i,∃ _ : i < R.length,x = (i : Int) :=⟨x.toNat,by omega,by omega⟩
 obtain ⟨j,hj,rfl⟩ : ∃ i,∃ _ : i < R.length,y = (i : Int) :=⟨y.toNat,by omega,by omega⟩
 unfold cmpC
 rw [Int.toNat_natCast,Int.toNat_natCast,u7 hi,u7 hj]
 have n1 :=dD hi
 have n2 :=dD hj
 have c :=eX (hok _ (List.getElem_mem hj)) (hok _ (List.getElem_mem hi))
 refine bP 1 15 [.tmp 5] Tryz.func46 rfl rfl rfl (by simp) (by decide) rfl fun X hX => ?_
 (repeat (refine aD [0,1,2,5,1000000] hX mixed rfl ?_;simp [go_sem,hi,hj,n1,n2];try refine ⟨by kernel_rfl,?_⟩))
 first | refine a8 (c) ?_ | refine aA (c) ?_
 try (simp [go_sem];try refine ⟨by kernel_rfl,?_⟩)
 (repeat (refine aD [0,1,2,5,1000000] hX mixed rfl ?_;simp [go_sem];try refine ⟨by kernel_rfl,?_⟩))
 refine bN ?_; (try simp only [thenQ,blkQ,loopQ]); refine bO [(5,ii (cmpR R[j] R[i])),(1000000,.ow 0)] [.old 0 ⟨24,1,[bsl R]⟩] ?_
 simp [go_sem]
end B
end Go.Proofs.YthibhamepjhfjaaGreatDoor

namespace Go.Proofs.YthibhamepjhfjaaGreatDoor.B
open Go.RowKit Go.Ab
attribute [local irreducible] AWP Go.Ab.Sub Means MeansH CallK CallG CallT CallGT
abbrev clo : AV :=.fn 46 [] [.el 1 1 0 0]
abbrev sH (D : List Int) (R : List Rat) : List Cell :=[rowI D,.row ⟨24,1,[bsl R]⟩]
theorem FL {K : Int → Int} {pre s : List Int} {x : Int} {post : List Int} {k : Nat} (hs : s.Pairwise (bef K)) (hk : k ≤ s.length) (h1 : ∀ e ∈ s.take k,bef K e x) (h2 : ∀ e ∈ s.drop k,bef K x e) : rowX pre s x post k = r3 pre (insB K x s) post :=by
 rw [AM k hs hk h1 h2]; rfl
set_option maxHeartbeats 4000000 in
set_option maxRecDepth 20000 in
theorem CG (pre l post : List Int) (R : List Rat) (hn : l.Nodup) (hord : ∀ i j (hi : i < l.length) (hj : j < l.length),i < j → l[i] < l[j]) (hr : ∀ x ∈ l,0 ≤ x ∧ x < R.length) (hb : pre.length + l.length + post.length ≤ 100000) (hR : R.length ≤ 100000) (hok : okR R) :
  MeansH Tryz.prog 106 (sH (r3 pre l post) R) [.ow 0,ii pre.length,ii (pre.length + l.length : Nat),clo] (.tup []) (sH (r3 pre (srt (kf R) l) post) R) :=by
 refine bP 2 53 [] Tryz.func106 rfl rfl rfl (by simp) (by decide) rfl fun X hX => ?_
 (repeat (refine aD q12x1 hX mixed rfl ?_;simp [go_sem]; (try simp (disch :=omega) only [w64,td,tm]);try refine ⟨by kernel_rfl,?_⟩))
 refine aH (fun i : Nat => ⟨mkE [(0,.ow 0),(1,ii pre.length),(2,ii (pre.length + l.length : Nat)),(3,clo),(8,ii (pre.length + i : Nat)),(1000000,.ow 0),(1000001,.ow 1)],sH (r3 pre (srt (kf R) (l.take i)) (l.drop i ++ post)) R⟩) (fun i => i ≤ l.length + (1 - l.length)) (fun i => l.length - i) 1 ?_ ?_ ?_
 · have e : srt (kf R) (l.take 1) ++ l.drop 1 = l :=by
    cases l with
    | nil => rfl
    | cons a l => rfl
   have e2 : r3 pre (srt (kf R) (l.take 1)) (l.drop 1 ++ post) = r3 pre l post :=by unfold r3; rw [← List.append_assoc,List.append_assoc pre,e]
   rw [e2]
   refine aG _ [.old 0 ⟨3,1,(r3 pre l post).map ii⟩,.old 1 ⟨24,1,[bsl R]⟩] (by simp [go_sem]) ?_
   simp [go_sem]
 · omega
 · intro i hi
   (repeat (refine aD q12x1 hX mixed rfl ?_;simp [go_sem]; (try simp (disch :=omega) only [w64,td,tm]);try refine ⟨by kernel_rfl,?_⟩))
   refine aB (b :=decide (i < l.length)) (by simp [go_sem]; try omega) (fun hc => ?_) (fun hc => ?_)
   · simp at hc
     obtain ⟨s,hs⟩ : ∃ s,srt (kf R) (l.take i) = s :=⟨_,rfl⟩
     have hsl : s.length = i :=by rw [← hs,s8]; simp; omega
     have hnt : (l.take i).Nodup :=hn.sublist (List.take_sublist _ _)
     have hss : s.Pairwise (bef (kf R)) :=by rw [← hs]; exact pZ hnt
     have hsm : ∀ e ∈ s,e < l[i] ∧ 0 ≤ e ∧ e < R.length :=fun e he => by
      rw [← hs] at he
      have :=(eY _ _).mem_iff.1 he
      obtain ⟨j,hj,rfl⟩ :=List.mem_take_iff_getElem.1 this
      exact ⟨hord j i (by omega) hc (by omega),hr _ (List.getElem_mem _)⟩
     have hxr :=hr l[i] (List.getElem_mem hc)
     obtain ⟨x,hx⟩ : ∃ x,l[i] = x :=⟨_,rfl⟩
     obtain ⟨po,hpo⟩ : ∃ po,l.drop (i + 1) ++ post = po :=⟨_,rfl⟩
     have hpl : pre.length + s.length + 1 + po.length ≤ 100000 :=by rw [← hpo]; simp; omega
     have e0 : r3 pre s (l.drop i ++ post) = rowX pre s x po s.length :=by
      rw [List.drop_eq_getElem_cons hc,hx,← hpo]
      simp [rowX,r3]
     have e1 : r3 pre (srt (kf R) (l.take (i + 1))) (l.drop (i + 1) ++ post) = r3 pre (insB (kf R) x s) po :=by
      rw [List.take_succ_eq_append_getElem hc,pY,hs,hx,hpo]
     have e2 : i = s.length :=hsl.symm
     rw [hx] at hsm hxr
     rw [hs,e0]
     (repeat (refine aD q12x1 hX mixed rfl ?_;simp [go_sem];try refine ⟨by kernel_rfl,?_⟩))
     refine aH (fun k : Nat => ⟨mkE [(0,.ow 0),(1,ii pre.length),(2,ii (pre.length + l.length : Nat)),(3,clo),(8,ii (pre.length + i : Nat)),(9,ii (pre.length + k : Nat)),(1000000,.ow 0),(1000001,.ow 1)],sH (rowX pre s x po k) R⟩) (fun k => k ≤ s.length ∧ ∀ e ∈ s.drop k,bef (kf R) x e) (fun k => k) s.length ?_ ?_ ?_
     · refine aG _ [.old 0 ⟨3,1,(rowX pre s x po s.length).map ii⟩,.old 1 ⟨24,1,[bsl R]⟩] (by simp [go_sem]) ?_
       simp [go_sem,e2]
     · simp
     · rintro k ⟨hk,hd⟩
       have hlen :=FJ (pre :=pre) (x :=x) (post :=po) hk
       have done : (∀ e ∈ s.take k,bef (kf R) e x) → rowX pre s x po k = r3 pre (srt (kf R) (l.take (i + 1))) (l.drop (i + 1) ++ post) :=fun h1 => by rw [e1,FL hss hk h1 hd]
       cases k with
       | zero =>
         have hdone :=done (by simp)
         have hi0 : pre.length < (rowX pre s x po 0).length :=by omega
         have hi1 : pre.length - 1 < (rowX pre s x po 0).length :=by omega
         have hwz : IntKind.i64.wrap ((pre.length : Int) - 1) = (pre.length : Int) - 1 :=w64 (by omega) (by omega)
         have htz : ((pre.length : Int) - 1).toNat = pre.length - 1 :=by omega
         generalize rowX pre s x po 0 = D1 at *
         (repeat (refine aD q12x1 hX mixed rfl ?_;simp [go_sem,hi0,hi1,hwz,htz];try refine ⟨by kernel_rfl,?_⟩))
         first | refine cR rfl ?_ | refine cJ rfl ?_
         try (simp [go_sem];try refine ⟨by kernel_rfl,?_⟩)
         refine aC (by simp [go_sem]) ?_
         (repeat (refine aD q12x1 hX mixed rfl ?_;simp [go_sem]; (try simp (disch :=omega) only [w64,td,tm]);try refine ⟨by kernel_rfl,?_⟩))
         refine ⟨i + 1,by omega,by omega,?_⟩
         rw [← hdone]
         refine aG _ [.old 0 ⟨3,1,D1.map ii⟩,.old 1 ⟨24,1,[bsl R]⟩] (by simp [go_sem]) ?_
         simp [go_sem]
         try omega
       | succ k =>
         have hks : k < s.length :=by omega
         obtain ⟨p,hp⟩ : ∃ p,pre.length + k = p :=⟨_,rfl⟩
         have hp1 : pre.length + (k + 1) = p + 1 :=by omega
         have hi1 : p + 1 < (rowX pre s x po (k + 1)).length :=by omega
         have hi2 : p < (rowX pre s x po (k + 1)).length :=by omega
         have hat : (rowX pre s x po (k + 1))[p + 1] = x :=by
          have :=HF (pre :=pre) (s :=s) (x :=x) (post :=po) hk (by omega)
          simp only [hp1] at this; exact this
         have hpv : (rowX pre s x po (k + 1))[p] = s[k] :=by
          have :=CE (pre :=pre) (s :=s) (x :=x) (post :=po) hks (by omega)
          simp only [hp] at this; exact this
         have hsw :=CF (pre :=pre) (x :=x) (post :=po) hks
         rw [hp,hp1] at hsw
         have hy :=hsm s[k] (List.getElem_mem hks)
         have ht1 : ((p : Int) + 1).toNat = p + 1 :=by omega
         have hwp : IntKind.i64.wrap (p : Int) = (p : Int) :=w64 (by omega) (by omega)
         have hgt : (pre.length : Int) < (p : Int) + 1 :=by omega
         have hgt2 : pre.length < p + 1 :=by omega
         have hpb : p + 1 ≤ 100000 :=by omega
         have hcm :=LH R hok x s[k] hxr ⟨hy.2.1,hy.2.2⟩
         have hneg :=HG R x s[k]
         have hbef : bef (kf R) x s[k] ↔ cmpC R x s[k] < 0 :=by rw [hneg]; unfold bef; omega
         have hdk : bef (kf R) x s[k] → ∀ e ∈ s.drop k,bef (kf R) x e :=fun h e he => by
          rw [List.drop_eq_getElem_cons hks] at he
          rcases List.mem_cons.1 he with rfl | he
          · exact h
          · exact hd e he
         have hup : ¬ bef (kf R) x s[k] → ∀ e ∈ s.take (k + 1),bef (kf R) e x :=fun h e he => by
          have hyx : bef (kf R) s[k] x :=(rV (by omega)).resolve_left h
          rw [List.take_succ_eq_append_getElem hks] at he
          rcases List.mem_append.1 he with he | he
          · obtain ⟨j,hj,rfl⟩ :=List.mem_take_iff_getElem.1 he
            exact rU (List.pairwise_iff_getElem.1 hss j k (by omega) hks (by omega)) hyx
          · simp at he; rw [he]; exact hyx
         rw [hp1]
         obtain ⟨y,hye⟩ : ∃ y,s[k] = y :=⟨_,rfl⟩
         rw [hye] at hpv hsw hcm hbef hdk hup
         generalize rowX pre s x po (k + 1) = D1 at *
         have hzs : zoneEs (((D1.map ii).set (p + 1) (ii y)).set p (ii x)) = true :=by
          rw [← List.map_set,← List.map_set]; exact jV _ _ (fun _ => rfl)
         have hns : nth ((D1.map ii).set (p + 1) (ii y)) p = ii y :=by
          rw [← List.map_set,fH ii (by simpa using hi2),List.getElem_set_ne (by omega),hpv]
         (repeat (refine aD q12x1 hX mixed rfl ?_;simp [go_sem,hi1,hi2,hat,hpv,ht1,hwp,hgt,hgt2];try refine ⟨by kernel_rfl,?_⟩))
         (repeat refine And.intro (by first | omega | (unfold maxLen;omega) | kernel_rfl | (constructor <;> first | omega | (unfold maxLen;omega)) | grind) ?_)
         first | refine kQ [1] (fun hg => hcm) (by simp [go_sem]) (by simp [go_sem]) ?_ | refine jQ [1] (fun hg => hcm) (by simp [go_sem]) ?_
         try (simp [go_sem,hi1,hi2,hat,hpv,ht1,hwp,hgt,hgt2];try refine ⟨by kernel_rfl,?_⟩)
         refine aB (b :=decide (cmpC R x y < 0)) (by simp [go_sem]) (fun hd2 => ?_) (fun hd2 => ?_)
         · simp only [decide_eq_true_eq] at hd2
           (repeat (refine aD q12x1 hX mixed rfl ?_;simp [go_sem,hi1,hi2,hat,hpv,ht1,hwp,hzs]; (try simp (disch :=omega) only [w64,td,tm]);try refine ⟨by kernel_rfl,?_⟩))
           try (simp [go_sem,hi1,hi2,hat,hpv,ht1,hwp,hzs];try refine ⟨by kernel_rfl,?_⟩)
           (repeat refine And.intro (by first | omega | (unfold maxLen;omega) | kernel_rfl | (constructor <;> first | omega | (unfold maxLen;omega)) | grind) ?_)
           (repeat (refine aD q12x1 hX mixed rfl ?_;simp [go_sem,hi1,hi2,hat,hpv,ht1,hwp,hzs]; (try simp (disch :=omega) only [w64,td,tm]);try refine ⟨by kernel_rfl,?_⟩))
           refine ⟨k,⟨by omega,hdk (hbef.2 hd2)⟩,by omega,?_⟩
           rw [← hsw]
           refine aG _ [.old 0 ⟨3,1,((D1.set (p + 1) y).set p x).map ii⟩,.old 1 ⟨24,1,[bsl R]⟩] (by simp [go_sem,hns,hzs]) ?_
           simp [go_sem]
           try omega
         · simp only [decide_eq_false_iff_not] at hd2
           (repeat (refine aD q12x1 hX mixed rfl ?_;simp [go_sem]; (try simp (disch :=omega) only [w64,td,tm]);try refine ⟨by kernel_rfl,?_⟩))
           refine ⟨i + 1,by omega,by omega,?_⟩
           rw [← done (hup fun h => hd2 (hbef.1 h))]
           refine aG _ [.old 0 ⟨3,1,D1.map ii⟩,.old 1 ⟨24,1,[bsl R]⟩] (by simp [go_sem]) ?_
           simp [go_sem]
           try omega
   · simp at hc
     have hd2 : r3 pre (srt (kf R) (l.take i)) (l.drop i ++ post) = r3 pre (srt (kf R) l) post :=by
      rw [List.take_of_length_le (by omega),List.drop_of_length_le (by omega)]; rfl
     rw [hd2]
     (repeat (refine aD q12x1 hX mixed rfl ?_;simp [go_sem];try refine ⟨by kernel_rfl,?_⟩))
     (try refine bN ?_); (try simp only [thenQ,blkQ,loopQ]); refine iN [(1000000,.ow 0),(1000001,.ow 1)] [.old 0 ⟨3,1,(r3 pre (srt (kf R) l) post).map ii⟩,.old 1 ⟨24,1,[bsl R]⟩] ?_
     simp [go_sem]
end Go.Proofs.YthibhamepjhfjaaGreatDoor.B

