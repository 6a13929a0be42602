/-
  Lemmas for the statement at the top.
-/
import Derived.Test.YthibhamepjhfjaaGreatDoorTeP19
import Derived.Test.YthibhamepjhfjaaGreatDoorTeCedLb
import Derived.Test.YthibhamepjhfjaaGreatDoorTeP17
import Derived.Test.YthibhamepjhfjaaGreatDoorRows
import Derived.Test.YthibhamepjhfjaaGreatDoorTeFw5
import Derived.Test.YthibhamepjhfjaaGreatDoorTeP12
set_option linter.all false
namespace Go.Proofs.YthibhamepjhfjaaGreatDoor
open Go.RowKit Go.Ab
def q18x0 : List Nat :=[0,2,3,4,5,6,7,8,9,11,12,13,14,15,17,18,19,20,28,32,40,56,61,84,93,114,120,126,150]
def q18x1 : List Nat :=[0,1,2,3,8,9,10,11,12,13,14,15,16,17,18,19,20,35]
def q18x2 : List Nat :=[0,1,4,5,6,7,8,9,10,11,12,13,14,15,16,17,18,19,20,21,22,23,24,25,26,27,28,29,34,40,45,72,88,99,115,126,143,155,171,182,214]
def q18x3 : List Nat :=[0,1,4,5,10,14,26]
def q18x4 : List Nat :=[0,2,3,11,19]
attribute [go_sem] q18x0 q18x1 q18x2 q18x3 q18x4
attribute [local irreducible] AWP Go.Ab.Sub Means MeansH MeansX CallK CallG CallT CallGT CallU
theorem nW {K K' : Int → Int} {x : Int} (hx : K x = K' x) : ∀ {l : List Int},(∀ y ∈ l,K y = K' y) → insB K x l = insB K' x l
 | [],_ => rfl
 | y :: l,h => by
   unfold insB
   have hy :=h y (by simp)
   have e : bef K x y ↔ bef K' x y :=by unfold bef; rw [hx,hy]
   rw [nW hx (l :=l) fun z hz => h z (by simp [hz])]
   by_cases hb : bef K x y
   · rw [if_pos hb,if_pos (e.1 hb)]
   · rw [if_neg hb,if_neg fun h' => hb (e.2 h')]
theorem AY {K K' : Int → Int} {l : List Int} (h : ∀ x ∈ l,K x = K' x) : srt K l = srt K' l :=by
 have : ∀ (l acc : List Int),(∀ x ∈ l,K x = K' x) → (∀ x ∈ acc,K x = K' x) → l.foldl (fun s x => insB K x s) acc = l.foldl (fun s x => insB K' x s) acc :=by
  intro l
  induction l with
  | nil => intro acc _ _; rfl
  | cons x l ih =>
    intro acc h1 h2
    simp only [List.foldl_cons]
    rw [nW (h1 x (by simp)) h2]
    refine ih _ (fun y hy => h1 y (by simp [hy])) fun y hy => ?_
    rcases List.mem_cons.1 ((iY K' x acc).mem_iff.1 hy) with rfl | hy
    · exact h1 y (by simp)
    · exact h2 y hy
 exact this l [] h (by simp)
def kz (R : List Rat) : List Int :=(idxI R.length).map (B.kf R)
theorem x8 (R : List Rat) : (kz R).length = R.length :=by unfold kz; rw [List.length_map,kB]
theorem CP {R : List Rat} {i : Nat} (h : i < (kz R).length) : (kz R)[i] = B.kf R (i : Int) :=by
 simp [kz,idxI]
theorem KI {R : List Rat} {i j : Nat} (h : i < (kz R).length) (h' : j < (kz R).length) : (kz R)[i] < (kz R)[j] ↔ R.getD i 0 < R.getD j 0 :=by
 rw [CP,CP,B.kf_lt,Int.toNat_natCast,Int.toNat_natCast]
theorem IL (R : List Rat) : srt (B.kf R) (idxI R.length) = srt (kR (kz R)) (idxI (kz R).length) :=by
 rw [x8]
 refine AY fun x hx => ?_
 obtain ⟨h0,h1⟩ :=gY.1 hx
 obtain ⟨i,rfl⟩ : ∃ i : Nat,x = (i : Int) :=⟨x.toNat,by omega⟩
 have hi : i < (kz R).length :=by rw [x8]; omega
 unfold kR
 rw [Int.toNat_natCast,List.getD_eq_getElem?_getD,List.getElem?_eq_getElem hi,← CP hi]; rfl
theorem CQ {z : Int} (h : -9223372036854775808 ≤ z ∧ z ≤ 9223372036854775807) : Means false Tryz.prog 49 [bigZ z] (.tup [ii z,bb true]) :=by
 have :=IM z (jK h)
 have e : inI z = true :=by unfold inI; simpa using h
 rwa [e,if_pos rfl] at this
theorem nX {a b : Rat} (ha : rq a) (hb : rq b) : Means false Tryz.prog 48 [frq a,frq b] (ii (cmpR a b)) :=x9 a.num a.den b.num b.den (dL ha) (dL hb)
theorem IN (r : Rat) : sg r.num < 0 ↔ r < 0 :=by
 have h : r.num < 0 ↔ r < 0 :=by
  have :=Rat.num_nonneg (q :=r)
  constructor
  · intro h1; exact Rat.not_le.1 fun h2 => absurd (this.2 h2) (by omega)
  · intro h1; exact Int.not_le.1 fun h2 => absurd (this.1 h2) (Rat.not_le.2 h1)
 rw [← h]
 unfold sg
 repeat' split
 all_goals omega
set_option maxHeartbeats 16000000 in
set_option maxRecDepth 20000 in
theorem CR (ks : List Rat) (L : List Fr) (hq : ∀ k ∈ ks,rq k) (hL : L = [] ∨ ∃ x L',L = x :: L' ∧ ¬ okFr x ∧ szFr x) (hl : ks.length + L.length ≤ 100000) : Means false Tryz.prog 13 [.sl (ks.map frq ++ L.map fv)] (coinV ks (L.map fv)) :=by
 obtain ⟨V,hV⟩ : ∃ V,coinV ks (L.map fv) = V :=⟨_,rfl⟩
 have o1 :=lX 4503599627370496 (by decide)
 have hmr : ((4503599627370496 : Int) : Rat) = most :=rfl
 have hmq : rq most :=jU (z :=4503599627370496) (by decide)
 rw [hmr] at o1
 obtain ⟨mr,hmr2⟩ : ∃ m,most = m :=⟨_,rfl⟩
 rw [hmr2] at o1 hmq
 rw [hV]
 refine aF false 162 [.tmp 2,.tmp 3] Tryz.func13 rfl rfl rfl (by simp) (by decide) rfl fun X hX => ?_
 (repeat (refine a7 q18x0 hX mixed rfl ?_;simp [go_sem];try refine ⟨by kernel_rfl,?_⟩))
 by_cases hlen : ks.length + L.length = 0 ∨ 12 < ks.length + L.length
 · have e : V = .tup [.sl [],ii 1] :=by rw [← hV]; exact if_pos (.inl (by rw [List.length_map]; exact hlen))
   rw [e]
   refine aK (by simp [go_sem]; omega) ?_
   (repeat (refine a7 q18x0 hX mixed rfl ?_;simp [go_sem];try refine ⟨by kernel_rfl,?_⟩))
 refine aC (by simp [go_sem]; omega) ?_
 have hn0 : ks.length + L.length ≤ 12 :=by omega
 (repeat (refine a7 q18x0 hX mixed rfl ?_;simp [go_sem];try refine ⟨by kernel_rfl,?_⟩))
 refine aH (fun i : Nat => ⟨mkE [(0,.sl (ks.map frq ++ L.map fv)),(4,ii i)],[]⟩) (fun i => i ≤ ks.length ∧ okTo ks i) (fun i => ks.length + L.length - i) 0 ?_ ?_ ?_
 · refine aG _ [] (by simp [go_sem]) ?_
   simp [go_sem]
 · exact ⟨by omega,fun k hk => by omega⟩
 · rintro i ⟨hi,hp⟩
   have wi :=w64 (x :=(i : Int) + 1) (by omega) (by omega)
   (repeat (refine a7 q18x0 hX mixed rfl ?_;simp [go_sem];try refine ⟨by kernel_rfl,?_⟩))
   refine aB (b :=decide (i < ks.length + L.length)) (by simp [go_sem]; try omega) (fun hb => ?_) (fun hb => ?_)
   · simp only [decide_eq_true_eq] at hb
     have hil : (i : Int) < (ks.length : Int) + (L.length : Int) :=by omega
     by_cases hik : i < ks.length
     · have hgi : ks.getD i 0 = ks[i] :=by rw [List.getD_eq_getElem?_getD,List.getElem?_eq_getElem hik]; rfl
       have hfq : rq (ks.getD i 0) :=by rw [hgi]; exact hq _ (List.getElem_mem hik)
       have q1 : nth (ks.map frq ++ L.map fv) i = frq (ks.getD i 0) :=CS (by simp [hik])
       have r1 :=bI _ _ (dL hfq)
       have m2 :=nX hfq hmq
       have z2 :=mQ (ks.getD i 0) mr
       have z1 :=IN (ks.getD i 0)
       have hmem : ks.getD i 0 ∈ ks :=by rw [hgi]; exact List.getElem_mem hik
       obtain ⟨f,hf⟩ : ∃ f,ks.getD i 0 = f :=⟨_,rfl⟩
       rw [hf] at hfq q1 r1 m2 z1 z2 hmem
       generalize cmpR f mr = cm at *
       (repeat (refine a7 q18x0 hX mixed rfl ?_;simp [go_sem,hil,q1];try refine ⟨by kernel_rfl,?_⟩))
       first | refine a8 (r1) ?_ | refine aA (r1) ?_
       try (simp [go_sem,hil,q1];try refine ⟨by kernel_rfl,?_⟩)
       refine aC (by simp [go_sem]) ?_
       (repeat (refine a7 q18x0 hX mixed rfl ?_;simp [go_sem,hil,q1];try refine ⟨by kernel_rfl,?_⟩))
       first | refine aP (fun hg => o1) ?_ | refine aM (fun hg => o1) ?_
       try (simp [go_sem,hil,q1];try refine ⟨by kernel_rfl,?_⟩)
       first | refine aP (fun hg => m2) ?_ | refine aM (fun hg => m2) ?_
       try (simp [go_sem,hil,q1];try refine ⟨by kernel_rfl,?_⟩)
       refine aB (b :=decide (f < 0 ∨ mr < f)) (by by_cases h1 : f < 0 <;> by_cases h2 : mr < f <;> simp [go_sem,z1,z2,h1,h2]) (fun hd => ?_) (fun hd => ?_)
       · simp only [decide_eq_true_eq] at hd
         have e : V = .tup [.sl [],ii 1] :=by
          rw [← hV]
          refine if_pos (.inr (.inr ⟨f,hmem,?_⟩))
          rw [hmr2]; exact hd
         rw [e]
         (repeat (refine a7 q18x0 hX mixed rfl ?_;simp [go_sem];try refine ⟨by kernel_rfl,?_⟩))
       · simp only [decide_eq_false_iff_not,not_or] at hd
         obtain ⟨hd1,hd2⟩ :=hd
         (repeat (refine a7 q18x0 hX mixed rfl ?_;simp [go_sem,wi];try refine ⟨by kernel_rfl,?_⟩))
         refine ⟨i + 1,⟨by omega,qJ hp hf (Rat.not_lt.1 hd1) (by rw [hmr2]; exact Rat.not_lt.1 hd2)⟩,by omega,?_⟩
         refine aG _ [] (by simp [go_sem]) ?_
         simp [go_sem]
     · have hin : i = ks.length :=by omega
       rcases hL with rfl | ⟨x,L',rfl,hx,hsx⟩
       · simp at hb; omega
       · have q1 : nth (ks.map frq ++ (x :: L').map fv) i = fv x :=s6 (by simp [hin])
         have e : V = .tup [.sl [],ii 1] :=by rw [← hV]; exact if_pos (.inr (.inl (by simp)))
         have r1 : Means false Tryz.prog 47 [fv x] (bb false) :=by
          have :=kC x.s1 x.L1 (by omega) x.s2 x.L2 (by omega)
          rwa [decide_eq_false hx] at this
         obtain ⟨u1,u2,u3,u4⟩ :=x
         simp only [List.map_cons] at q1
         have hil : (i : Int) < (ks.length : Int) + ((L'.length : Int) + 1) :=by simp at hb; omega
         (repeat (refine a7 q18x0 hX mixed rfl ?_;simp [go_sem,hil,q1];try refine ⟨by kernel_rfl,?_⟩))
         first | refine a8 (r1) ?_ | refine aA (r1) ?_
         try (simp [go_sem,hil,q1];try refine ⟨by kernel_rfl,?_⟩)
         refine aK (by simp [go_sem]) ?_
         rw [e]
         (repeat (refine a7 q18x0 hX mixed rfl ?_;simp [go_sem];try refine ⟨by kernel_rfl,?_⟩))
   · simp only [decide_eq_false_iff_not] at hb
     have hin : i = ks.length :=by omega
     have hL0 : L = [] :=List.eq_nil_of_length_eq_zero (by omega)
     subst hin hL0
     have hcB : ¬ ((ks.length + (([] : List Fr).map fv).length = 0 ∨ 12 < ks.length + (([] : List Fr).map fv).length) ∨ cArg ks (([] : List Fr).map fv)) :=fun h => by
      rcases h with h | h | ⟨k,hk,h⟩
      · exact hlen h
      · exact h rfl
      · obtain ⟨j,hj,rfl⟩ :=List.getElem_of_mem hk
        have :=hp j hj
        rw [List.getD_eq_getElem?_getD,List.getElem?_eq_getElem hj] at this
        have h1 : 0 ≤ ks[j] :=this.1
        have h2 : ks[j] ≤ most :=this.2
        rcases h with h | h
        · exact absurd h (Rat.not_lt.2 h1)
        · exact absurd h (Rat.not_lt.2 h2)
     have hlen' : ¬ (ks.length = 0 ∨ 12 < ks.length) :=hlen
     have hks : 0 < ks.length :=by omega
     have hk12 : ks.length ≤ 12 :=by omega
     have hVf : ¬ okS ks ks.length → V = .tup [.sl [],ii 6] :=fun h => by
      rw [← hV]; unfold coinV; rw [if_neg hcB,if_neg h]
     have hVt : okS ks ks.length → V = if rsum ks ks.length = ((fl (rsum ks ks.length) : Int) : Rat) then .tup [il (coinL ks),ii 0] else .tup [.sl [],ii 1] :=fun h => by
      rw [← hV]; unfold coinV; rw [if_neg hcB,if_pos h]
     have o2 :=lX 0 (by decide)
     rw [show ((0 : Int) : Rat) = rsum ks 0 from rfl] at o2
     obtain ⟨s0,hs0⟩ : ∃ r,rsum ks 0 = r :=⟨_,rfl⟩
     rw [hs0] at o2
     simp only [List.map_nil,List.append_nil]
     clear hV hcB hL
     (repeat (refine a7 q18x0 hX mixed rfl ?_;simp [go_sem];try refine ⟨by kernel_rfl,?_⟩))
     first | refine a8 (o2) ?_ | refine aA (o2) ?_
     try (simp [go_sem];try refine ⟨by kernel_rfl,?_⟩)
     (repeat (refine a7 q18x0 hX mixed rfl ?_;simp [go_sem];try refine ⟨by kernel_rfl,?_⟩))
     refine aH (fun i : Nat => ⟨mkE [(0,.sl (ks.map frq)),(5,.ow 2),(6,.ow 1),(7,.el 0 4 0 0),(8,ii i)],[.row ⟨41,4,[frq (rsum ks i)]⟩,.row ⟨41,4,restA ks i⟩,.row ⟨3,1,outA ks i⟩]⟩) (fun i => i ≤ ks.length ∧ okS ks i) (fun i => ks.length - i) 0 ?_ ?_ ?_
     · rw [hs0]
       refine aG _ [.old 0 ⟨41,4,[frq s0]⟩,.birth 41 4,.birth 3 1] (by simp [go_sem]) ?_
       simp [go_sem]
     · exact ⟨by omega,CT ks⟩
     · rintro i ⟨hi,ho⟩
       have wi :=w64 (x :=(i : Int) + 1) (by omega) (by omega)
       (repeat (refine a7 q18x0 hX mixed rfl ?_;simp [go_sem];try refine ⟨by kernel_rfl,?_⟩))
       refine aB (b :=decide (i < ks.length)) (by simp [go_sem]; try omega) (fun hb => ?_) (fun hb => ?_)
       · simp only [decide_eq_true_eq] at hb
         have hgi : ks.getD i 0 = ks[i] :=by rw [List.getD_eq_getElem?_getD,List.getElem?_eq_getElem hb]; rfl
         have hfq : rq (ks.getD i 0) :=by rw [hgi]; exact hq _ (List.getElem_mem hb)
         have q1 : nth (ks.map frq) i = frq (ks.getD i 0) :=dD hb
         obtain ⟨hf0,hfm⟩ :=hp i hb
         obtain ⟨hfl0,hfl1⟩ :=qK (B :=4503599627370496) hf0 hfm
         have c1 :=uH _ _ (dL hfq)
         have c1 : Means false Tryz.prog 50 [frq (ks.getD i 0)] (bigZ (fl (ks.getD i 0))) :=c1
         have c2 :=CQ (z :=fl (ks.getD i 0)) (by omega)
         have c3 :=lX (fl (ks.getD i 0)) (by omega)
         have hfiq :=jU (z :=fl (ks.getD i 0)) (by omega)
         have c4 :=yQ hfq hfiq (nY hfq hf0)
         have c4 : Means false Tryz.prog 36 [frq (ks.getD i 0),frq ((fl (ks.getD i 0) : Int) : Rat)] (.tup [frq (rs (ks.getD i 0)),ii 0]) :=c4
         have c5 :=CU (mR ho) (yR hfq hf0)
         have hos2 : okAdd (rsum ks i) (rs (ks.getD i 0)) → okS ks (i + 1) :=fun h j hj => by
          by_cases e : j = i
          · subst e; exact h
          · exact ho j (by omega)
         have hof2 : ¬ okAdd (rsum ks i) (rs (ks.getD i 0)) → ¬ okS ks ks.length :=fun h h' => h (h' i hb)
         rw [← fW] at c5
         have hrs :=nZ ks i
         have hos :=qL ks i
         have hrl :=qM ks i
         have hol :=uI ks i
         have hrz :=gG ks i
         have hoz :=iZ ks i
         clear hf0 hfm hp hfiq hgi hfq ho
         generalize restA ks i = RA at *
         generalize outA ks i = OA at *
         generalize ks.getD i 0 = f at *
         generalize rsum ks i = su at *
         obtain ⟨su2,hsu2⟩ : ∃ r,rsum ks (i + 1) = r :=⟨_,rfl⟩
         rw [hsu2] at c5
         generalize fl f = fi at *
         generalize rs f = rf' at *
         generalize ((fi : Int) : Rat) = fr' at *
         by_cases hoa : okAdd su rf'
         · rw [gX hoa] at c5
           have hos2 :=hos2 hoa
           clear hoa hof2
           (repeat (refine a7 q18x0 hX mixed rfl ?_;simp [go_sem,hb,q1];try refine ⟨by kernel_rfl,?_⟩))
           first | refine a8 (c1) ?_ | refine aA (c1) ?_
           try (simp [go_sem,hb,q1];try refine ⟨by kernel_rfl,?_⟩)
           first | refine a8 (c2) ?_ | refine aA (c2) ?_
           try (simp [go_sem,hb,q1];try refine ⟨by kernel_rfl,?_⟩)
           (repeat (refine a7 q18x0 hX mixed rfl ?_;simp [go_sem,hb,q1];try refine ⟨by kernel_rfl,?_⟩))
           first | refine a8 (c3) ?_ | refine aA (c3) ?_
           try (simp [go_sem,hb,q1];try refine ⟨by kernel_rfl,?_⟩)
           try (repeat refine And.intro (by first | omega | (unfold maxLen;omega) | kernel_rfl | (constructor <;> first | omega | (unfold maxLen;omega)) | grind) ?_)
           first | refine a8 (c4) ?_ | refine aA (c4) ?_
           try (simp [go_sem,hb,q1];try refine ⟨by kernel_rfl,?_⟩)
           try (repeat refine And.intro (by first | omega | (unfold maxLen;omega) | kernel_rfl | (constructor <;> first | omega | (unfold maxLen;omega)) | grind) ?_)
           try (repeat (refine a7 q18x0 hX mixed rfl ?_;simp [go_sem];try refine ⟨by kernel_rfl,?_⟩))
           refine aC (by simp [go_sem]) ?_
           (repeat (refine a7 q18x0 hX mixed rfl ?_;simp [go_sem];try refine ⟨by kernel_rfl,?_⟩))
           first | refine a8 (c5) ?_ | refine aA (c5) ?_
           try (simp [go_sem];try refine ⟨by kernel_rfl,?_⟩)
           (repeat (refine a7 q18x0 hX mixed rfl ?_;simp [go_sem];try refine ⟨by kernel_rfl,?_⟩))
           refine aC (by simp [go_sem]) ?_
           (repeat (refine a7 q18x0 hX mixed rfl ?_;simp [go_sem];try refine ⟨by kernel_rfl,?_⟩))
           try (repeat refine And.intro (by first | omega | (unfold maxLen;omega) | kernel_rfl | (constructor <;> first | omega | (unfold maxLen;omega)) | grind) ?_)
           try (repeat (refine a7 q18x0 hX mixed rfl ?_;simp [go_sem];try refine ⟨by kernel_rfl,?_⟩))
           try (repeat refine And.intro (by first | omega | (unfold maxLen;omega) | kernel_rfl | (constructor <;> first | omega | (unfold maxLen;omega)) | grind) ?_)
           try (repeat (refine a7 q18x0 hX mixed rfl ?_;simp [go_sem,wi];try refine ⟨by kernel_rfl,?_⟩))
           refine ⟨i + 1,⟨by omega,hos2⟩,by omega,?_⟩
           rw [hsu2,hrs,hos]
           refine aG _ [.old 0 ⟨41,4,[frq su2]⟩,.old 8 ⟨41,4,RA ++ [frq rf']⟩,.old 6 ⟨3,1,OA ++ [ii fi]⟩] (by simp [go_sem,hrz,hoz]) ?_
           simp [go_sem]
         · rw [qA hoa] at c5
           have e :=hVf (hof2 hoa)
           clear hoa hof2 hos2
           rw [e]
           (repeat (refine a7 q18x0 hX mixed rfl ?_;simp [go_sem,hb,q1];try refine ⟨by kernel_rfl,?_⟩))
           first | refine a8 (c1) ?_ | refine aA (c1) ?_
           try (simp [go_sem,hb,q1];try refine ⟨by kernel_rfl,?_⟩)
           first | refine a8 (c2) ?_ | refine aA (c2) ?_
           try (simp [go_sem,hb,q1];try refine ⟨by kernel_rfl,?_⟩)
           (repeat (refine a7 q18x0 hX mixed rfl ?_;simp [go_sem,hb,q1];try refine ⟨by kernel_rfl,?_⟩))
           first | refine a8 (c3) ?_ | refine aA (c3) ?_
           try (simp [go_sem,hb,q1];try refine ⟨by kernel_rfl,?_⟩)
           try (repeat refine And.intro (by first | omega | (unfold maxLen;omega) | kernel_rfl | (constructor <;> first | omega | (unfold maxLen;omega)) | grind) ?_)
           first | refine a8 (c4) ?_ | refine aA (c4) ?_
           try (simp [go_sem,hb,q1];try refine ⟨by kernel_rfl,?_⟩)
           try (repeat refine And.intro (by first | omega | (unfold maxLen;omega) | kernel_rfl | (constructor <;> first | omega | (unfold maxLen;omega)) | grind) ?_)
           try (repeat (refine a7 q18x0 hX mixed rfl ?_;simp [go_sem];try refine ⟨by kernel_rfl,?_⟩))
           refine aC (by simp [go_sem]) ?_
           (repeat (refine a7 q18x0 hX mixed rfl ?_;simp [go_sem];try refine ⟨by kernel_rfl,?_⟩))
           first | refine a8 (c5) ?_ | refine aA (c5) ?_
           try (simp [go_sem];try refine ⟨by kernel_rfl,?_⟩)
           (repeat (refine a7 q18x0 hX mixed rfl ?_;simp [go_sem];try refine ⟨by kernel_rfl,?_⟩))
           refine aK (by simp [go_sem]) ?_
           (repeat (refine a7 q18x0 hX mixed rfl ?_;simp [go_sem];try refine ⟨by kernel_rfl,?_⟩))
       · simp only [decide_eq_false_iff_not] at hb
         have hin : i = ks.length :=by omega
         subst hin
         have hV2 :=hVt ho
         have hsq :=mR ho
         obtain ⟨b1,b2⟩ :=s7 ks ks.length
         obtain ⟨b3,b4⟩ :=qK (B :=(ks.length : Int)) b1 b2
         have hcl : coinL ks = bumps (ks.map fl) ((srt (B.kf (ks.map rs)) (idxI ks.length)).take (fl (rsum ks ks.length)).toNat) :=rfl
         have c1 : Means false Tryz.prog 50 [frq (rsum ks ks.length)] (bigZ (fl (rsum ks ks.length))) :=uH _ _ (dL hsq)
         have hrz :=gG ks ks.length
         have hoz :=iZ ks ks.length
         have hrf : restA ks ks.length = (ks.map rs).map frq :=o5 ks
         have hof :=qN ks
         have hfq : ∀ v ∈ ks.map fl,0 ≤ v ∧ v ≤ 4503599627370496 :=fun v hv => by
          obtain ⟨k,hk,rfl⟩ :=List.mem_map.1 hv
          obtain ⟨j,hj,rfl⟩ :=List.getElem_of_mem hk
          have :=hp j hj
          rw [List.getD_eq_getElem?_getD,List.getElem?_eq_getElem hj] at this
          exact qK this.1 this.2
         have hrl : (ks.map rs).length = ks.length :=by simp
         have hRq : ∀ r ∈ ks.map rs,rq r :=fun r hr => by
          obtain ⟨k,hk,rfl⟩ :=List.mem_map.1 hr
          obtain ⟨j,hj,rfl⟩ :=List.getElem_of_mem hk
          have :=hp j hj
          rw [List.getD_eq_getElem?_getD,List.getElem?_eq_getElem hj] at this
          exact yR (hq _ hk) this.1
         have hks2 :=IL (ks.map rs)
         rw [hrl] at hks2
         rw [hks2] at hcl
         have hQl : (ks.map fl).length = ks.length :=by simp
         obtain ⟨m,hm⟩ : ∃ m : Nat,(m : Int) = fl (rsum ks ks.length) :=⟨(fl (rsum ks ks.length)).toNat,by omega⟩
         have hmt : (fl (rsum ks ks.length)).toNat = m :=by omega
         rw [hmt] at hcl
         rw [← hm] at c1 hV2 b3 b4
         have c2 :=CQ (z :=(m : Int)) (by omega)
         have c3 :=lX (m : Int) (by omega)
         have c4 :=mS hsq (jU (z :=(m : Int)) (by omega))
         rw [hrf,hof]
         rw [hrf] at hrz
         rw [hof] at hoz
         clear hrf hof hks2 hm hmt hVf hVt o2 hs0 ho hp hq hlen hlen' hn0 hb hi b1 b2 hsq
         generalize ks.map fl = Q at *
         generalize hRR : ks.map rs = R at *
         generalize rsum ks ks.length = su at *
         have hzl :=x8 R
         have hzt :=fun {i j : Nat} (h : i < (kz R).length) (h' : j < (kz R).length) => KI (R :=R) h h'
         obtain ⟨Z,hZ⟩ : ∃ Z,kz R = Z :=⟨_,rfl⟩
         rw [hZ] at hcl hzl
         have hzt : ∀ i j (h : i < Z.length) (h' : j < Z.length),Z[i] < Z[j] ↔ R.getD i 0 < R.getD j 0 :=by
          subst hZ; exact fun i j h h' => hzt h h'
         obtain ⟨O,hO⟩ : ∃ O,srt (kR Z) (idxI Z.length) = O :=⟨_,rfl⟩
         rw [hO] at hcl
         have hOl : O.length = ks.length :=by rw [← hO,s8,kB,hzl,hrl]
         have hOm : ∀ x ∈ O,0 ≤ x ∧ x < ks.length :=fun x hx => by
          rw [← hO] at hx
          have :=gY.1 ((eY _ _).mem_iff.1 hx)
          omega
         have hOn : O.Nodup :=by
          rw [← hO]
          exact ((eY _ _).symm.nodup (gH _))
         have hnf :=fun {k : Nat} (hk : k < O.length) {b : Nat} (hb : b < Z.length) => AZ (R :=Z) hO.symm hk (b :=b) hb
         have hOR : ∀ j,j < O.length → ∃ p0 : Nat,p0 < ks.length ∧ ¬ (p0 : Int) ∈ O.take j :=fun j hj => by
          have hx :=hOm O[j] (List.getElem_mem hj)
          refine ⟨(O[j]).toNat,by omega,fun q => ?_⟩
          obtain ⟨i,hi,e⟩ :=List.getElem_of_mem q
          rw [List.getElem_take] at e
          have hij : i < j :=by rw [List.length_take] at hi; omega
          have :=List.pairwise_iff_getElem.1 hOn i j (by omega) (by omega) hij
          exact this (by omega)
         clear hO hZ hRR hOn
         (repeat (refine a7 q18x0 hX mixed rfl ?_;simp [go_sem];try refine ⟨by kernel_rfl,?_⟩))
         first | refine a8 (c1) ?_ | refine aA (c1) ?_
         try (simp [go_sem];try refine ⟨by kernel_rfl,?_⟩)
         first | refine a8 (c2) ?_ | refine aA (c2) ?_
         try (simp [go_sem];try refine ⟨by kernel_rfl,?_⟩)
         (repeat (refine a7 q18x0 hX mixed rfl ?_;simp [go_sem];try refine ⟨by kernel_rfl,?_⟩))
         first | refine a8 (c3) ?_ | refine aA (c3) ?_
         try (simp [go_sem];try refine ⟨by kernel_rfl,?_⟩)
         try (repeat refine And.intro (by first | omega | (unfold maxLen;omega) | kernel_rfl | (constructor <;> first | omega | (unfold maxLen;omega)) | grind) ?_)
         first | refine a8 (c4) ?_ | refine aA (c4) ?_
         try (simp [go_sem];try refine ⟨by kernel_rfl,?_⟩)
         try (repeat refine And.intro (by first | omega | (unfold maxLen;omega) | kernel_rfl | (constructor <;> first | omega | (unfold maxLen;omega)) | grind) ?_)
         refine aB (b :=!decide (su = (((m : Nat) : Int) : Rat))) (by simp [go_sem]) (fun hd => ?_) (fun hd => ?_)
         · have e : V = .tup [.sl [],ii 1] :=by rw [hV2]; exact if_neg (by simpa using hd)
           rw [e]
           (repeat (refine a7 q18x0 hX mixed rfl ?_;simp [go_sem];try refine ⟨by kernel_rfl,?_⟩))
         simp only [Bool.not_eq_false',decide_eq_true_eq] at hd
         have e : V = .tup [il (coinL ks),ii 0] :=by rw [hV2]; exact if_pos hd
         rw [e,hcl]
         clear c1 c2 c3 c4 hV2 e hcl hd
         have hQ8 : (Q.length : Int) ≤ 12 :=by omega
         (repeat (refine a7 q18x0 hX mixed rfl ?_;simp [go_sem];try refine ⟨by kernel_rfl,?_⟩))
         try (repeat refine And.intro (by first | omega | (unfold maxLen;omega) | kernel_rfl | (constructor <;> first | omega | (unfold maxLen;omega)) | grind) ?_)
         try (repeat (refine a7 q18x0 hX mixed rfl ?_;simp [go_sem];try refine ⟨by kernel_rfl,?_⟩))
         have ht0 : (took ks.length (O.take 0)).map bb = List.replicate Q.length (bb false) :=by rw [List.take_zero,B0,List.map_replicate,hQl]
         have hbz : ∀ M : List Bool,zoneEs (M.map bb) = true :=fun M => jV _ _ fun _ => rfl
         have hmO : m ≤ O.length :=by omega
         have hRl : R.length = ks.length :=hrl
         generalize ks.length = n at *
         refine aH (fun j : Nat => ⟨mkE [(5,.ow 0),(6,.ow 1),(15,ii m),(17,.ow 2),(18,ii j)],[rowI (bumps Q (O.take j)),.row ⟨41,4,R.map frq⟩,.row ⟨4,1,(took n (O.take j)).map bb⟩]⟩) (fun j => j ≤ m) (fun j => m - j) 0 ?_ ?_ ?_
         · rw [ht0]
           refine aG _ [.old 2 ⟨3,1,Q.map ii⟩,.old 1 ⟨41,4,R.map frq⟩,.old 3 ⟨4,1,List.replicate Q.length (bb false)⟩] (by simp [go_sem,hrz,bumps]) ?_
           simp [go_sem]
         · omega
         · intro j hj
           have wj :=w64 (x :=(j : Int) + 1) (by omega) (by omega)
           (repeat (refine a7 q18x0 hX mixed rfl ?_;simp [go_sem];try refine ⟨by kernel_rfl,?_⟩))
           refine aB (b :=decide (j < m)) (by simp [go_sem]) (fun hd => ?_) (fun hd => ?_)
           · simp only [decide_eq_true_eq] at hd
             have hjO : j < O.length :=by omega
             have n1 :=fun {b : Nat} (hb : b < Z.length) => hnf hjO hb
             have n3 :=o6 (L :=Q) hjO
             have n4 :=o7 (O.take j) hfq
             have n5 :=j0 (O.take j) Q
             obtain ⟨p0,hp0,hp0T⟩ :=hOR j hjO
             have n7 :=fun b h => B1 (n :=n) (O :=O) (j :=j) (b :=b) hjO h
             have n8 : (O.take j).length ≤ 12 :=by rw [List.length_take]; omega
             have tl :=CV n (O.take j)
             have ta :=fun i h => mT (n :=n) (O :=O.take j) (i :=i) h
             generalize O.take j = T at *
             generalize bumps Q T = B at *
             generalize hTM : took n T = M at *
             have mz :=hbz M
             (repeat (refine a7 q18x0 hX mixed rfl ?_;simp [go_sem];try refine ⟨by kernel_rfl,?_⟩))
             refine aH (fun x : Nat × Int => ⟨mkE [(5,.ow 0),(6,.ow 1),(15,ii m),(17,.ow 2),(18,ii j),(19,ii x.2),(20,ii x.1)],[rowI B,.row ⟨41,4,R.map frq⟩,.row ⟨4,1,M.map bb⟩]⟩) (fun x => x.1 ≤ n ∧ isFree Z T x.1 x.2) (fun x => n - x.1) (0,-1) ?_ ?_ ?_
             · refine aG _ [.old 0 ⟨3,1,B.map ii⟩,.old 1 ⟨41,4,R.map frq⟩,.old 2 ⟨4,1,M.map bb⟩] (by simp [go_sem,hrz,mz]) ?_
               simp [go_sem]
             · exact ⟨Nat.zero_le _,.inl ⟨rfl,fun j hj => absurd hj (Nat.not_lt_zero _)⟩⟩
             · rintro ⟨k,b⟩ ⟨g1,g2⟩
               simp only [] at g1 g2
               have wk :=w64 (x :=(k : Int) + 1) (by omega) (by omega)
               (repeat (refine a7 q18x0 hX mixed rfl ?_;simp [go_sem];try refine ⟨by kernel_rfl,?_⟩))
               refine aB (b :=decide (k < n)) (by simp [go_sem,n5,hQl]) (fun he => ?_) (fun he => ?_)
               · simp only [decide_eq_true_eq] at he
                 have hkM : k < M.length :=by omega
                 have hkZ : k < Z.length :=by omega
                 have hkR : k < R.length :=by omega
                 have tk :=ta k hkM
                 have q1 : nth (M.map bb) k = bb M[k] :=fH _ hkM
                 have q2 :=dD (xs :=R) hkR
                 have h0R : 0 < R.length :=by omega
                 have q0 :=dD (xs :=R) h0R
                 have hmx : max (-1 : Int) 0 = 0 :=by decide
                 by_cases ht : (k : Int) ∈ T
                 · have hMk : M[k] = true :=by rw [tk]; exact decide_eq_true ht
                   have nx :=s9 g2 ht
                   have hb : b = -1 ∨ ∃ p : Nat,b = p ∧ p < n :=by
                    rcases g2 with ⟨e,_⟩ | ⟨p,e,hp,_⟩
                    · exact .inl e
                    · exact .inr ⟨p,e,by omega⟩
                   rcases hb with hb | ⟨p,hb,hpW⟩
                   · subst hb
                     (repeat (refine a7 q18x0 hX mixed rfl ?_;simp [go_sem,hkM,q1,hMk,hkR,h0R,q2,q0,hmx];try refine ⟨by kernel_rfl,?_⟩))
                     first | refine cR rfl ?_ | refine cJ rfl ?_
                     try (simp [go_sem];try refine ⟨by kernel_rfl,?_⟩)
                     try (repeat refine And.intro (by first | omega | (unfold maxLen;omega) | kernel_rfl | (constructor <;> first | omega | (unfold maxLen;omega)) | grind) ?_)
                     refine aC (by simp [go_sem]) ?_
                     (repeat (refine a7 q18x0 hX mixed rfl ?_;simp [go_sem,wk];try refine ⟨by kernel_rfl,?_⟩))
                     refine ⟨k + 1,-1,⟨by omega,nx⟩,by omega,?_⟩
                     refine aG _ [.old 0 ⟨3,1,B.map ii⟩,.old 1 ⟨41,4,R.map frq⟩,.old 2 ⟨4,1,M.map bb⟩] (by simp [go_sem,hrz,mz]) ?_
                     simp [go_sem]
                   · subst hb
                     have hpm : max (p : Int) 0 = p :=by omega
                     have hpm2 : max 0 (p : Int) = p :=by omega
                     have hpR : p < R.length :=by omega
                     have q3 :=dD (xs :=R) hpR
                     (repeat (refine a7 q18x0 hX mixed rfl ?_;simp [go_sem,hkM,q1,hMk,hkR,hpR,q2,q3,hpm,hpm2];try refine ⟨by kernel_rfl,?_⟩))
                     first | refine cR rfl ?_ | refine cJ rfl ?_
                     try (simp [go_sem];try refine ⟨by kernel_rfl,?_⟩)
                     try (repeat refine And.intro (by first | omega | (unfold maxLen;omega) | kernel_rfl | (constructor <;> first | omega | (unfold maxLen;omega)) | grind) ?_)
                     refine aC (by simp [go_sem]) ?_
                     (repeat (refine a7 q18x0 hX mixed rfl ?_;simp [go_sem,wk];try refine ⟨by kernel_rfl,?_⟩))
                     refine ⟨k + 1,p,⟨by omega,nx⟩,by omega,?_⟩
                     refine aG _ [.old 0 ⟨3,1,B.map ii⟩,.old 1 ⟨41,4,R.map frq⟩,.old 2 ⟨4,1,M.map bb⟩] (by simp [go_sem,hrz,mz]) ?_
                     simp [go_sem]
                 · have hMk : M[k] = false :=by rw [tk]; exact decide_eq_false ht
                   by_cases hb : b < 0
                   · have nx :=lY g2 hkZ ht (.inl hb)
                     have hb1 : b = -1 :=by
                      rcases g2 with ⟨e,_⟩ | ⟨p,e,_⟩ <;> omega
                     subst hb1
                     (repeat (refine a7 q18x0 hX mixed rfl ?_;simp [go_sem,hkM,q1,hMk,hkR,h0R,q2,q0,hmx];try refine ⟨by kernel_rfl,?_⟩))
                     first | refine cR rfl ?_ | refine cJ rfl ?_
                     try (simp [go_sem];try refine ⟨by kernel_rfl,?_⟩)
                     try (repeat refine And.intro (by first | omega | (unfold maxLen;omega) | kernel_rfl | (constructor <;> first | omega | (unfold maxLen;omega)) | grind) ?_)
                     refine aK (by simp [go_sem]) ?_
                     (repeat (refine a7 q18x0 hX mixed rfl ?_;simp [go_sem,wk];try refine ⟨by kernel_rfl,?_⟩))
                     refine ⟨k + 1,k,⟨by omega,nx⟩,by omega,?_⟩
                     refine aG _ [.old 0 ⟨3,1,B.map ii⟩,.old 1 ⟨41,4,R.map frq⟩,.old 2 ⟨4,1,M.map bb⟩] (by simp [go_sem,hrz,mz]) ?_
                     simp [go_sem]
                   · obtain ⟨p,hp,hpk,hpZ,hpT,_,_⟩ : ∃ p : Nat,b = p ∧ p < k ∧ ∃ hp : p < Z.length,¬ (p : Int) ∈ T ∧ (∀ j (hj : j < Z.length),j < k → ¬ (j : Int) ∈ T → Z[j] ≤ Z[p]) ∧ ∀ j (hj : j < Z.length),j < p → ¬ (j : Int) ∈ T → Z[j] < Z[p] :=by
                      rcases g2 with ⟨e,_⟩ | h
                      · omega
                      · exact h
                     subst hp
                     have hpR : p < R.length :=by omega
                     have q3 :=dD (xs :=R) hpR
                     have hpn : ¬ (p : Int) < 0 :=by omega
                     have hpm : max (p : Int) 0 = p :=by omega
                     have hpm2 : max 0 (p : Int) = p :=by omega
                     have nx1 :=fun h => lY g2 hkZ ht (.inr ⟨p,rfl,hpZ,h⟩)
                     have nx2 :=fun h => uJ g2 hkZ hpZ h
                     have hz :=hzt p k hpZ hkZ
                     have cc :=nX (d8 hkR hRq) (d8 hpR hRq)
                     have zz :=mQ (R.getD k 0) (R.getD p 0)
                     rw [← hz] at zz
                     generalize cmpR (R.getD k 0) (R.getD p 0) = cm at *
                     generalize R.getD k 0 = rk at *
                     generalize R.getD p 0 = rp at *
                     (repeat (refine a7 q18x0 hX mixed rfl ?_;simp [go_sem,hkM,q1,hMk,hkR,hpR,q2,q3,hpm,hpm2,hpn];try refine ⟨by kernel_rfl,?_⟩))
                     first | refine aP (fun hg => cc) ?_ | refine aM (fun hg => cc) ?_
                     try (simp [go_sem,hpn];try refine ⟨by kernel_rfl,?_⟩)
                     try (repeat refine And.intro (by first | omega | (unfold maxLen;omega) | kernel_rfl | (constructor <;> first | omega | (unfold maxLen;omega)) | grind) ?_)
                     refine aB (b :=decide (0 < cm)) (by simp [go_sem]) (fun hf => ?_) (fun hf => ?_)
                     · simp only [decide_eq_true_eq] at hf
                       (repeat (refine a7 q18x0 hX mixed rfl ?_;simp [go_sem,wk];try refine ⟨by kernel_rfl,?_⟩))
                       refine ⟨k + 1,k,⟨by omega,nx1 (zz.1 hf)⟩,by omega,?_⟩
                       refine aG _ [.old 0 ⟨3,1,B.map ii⟩,.old 1 ⟨41,4,R.map frq⟩,.old 2 ⟨4,1,M.map bb⟩] (by simp [go_sem,hrz,mz]) ?_
                       simp [go_sem]
                     · simp only [decide_eq_false_iff_not] at hf
                       (repeat (refine a7 q18x0 hX mixed rfl ?_;simp [go_sem,wk];try refine ⟨by kernel_rfl,?_⟩))
                       refine ⟨k + 1,p,⟨by omega,nx2 (Int.not_lt.1 fun h => hf (zz.2 h))⟩,by omega,?_⟩
                       refine aG _ [.old 0 ⟨3,1,B.map ii⟩,.old 1 ⟨41,4,R.map frq⟩,.old 2 ⟨4,1,M.map bb⟩] (by simp [go_sem,hrz,mz]) ?_
                       simp [go_sem]
               · have hkl : k = n :=by simp only [decide_eq_false_iff_not] at he; omega
                 obtain ⟨p,hp,hpk,hpZ,hpT,h1,h2⟩ : ∃ p : Nat,b = p ∧ p < k ∧ ∃ hp : p < Z.length,¬ (p : Int) ∈ T ∧ (∀ j (hj : j < Z.length),j < k → ¬ (j : Int) ∈ T → Z[j] ≤ Z[p]) ∧ ∀ j (hj : j < Z.length),j < p → ¬ (j : Int) ∈ T → Z[j] < Z[p] :=by
                  rcases g2 with ⟨_,h⟩ | h
                  · exact absurd (h p0 (by omega)) hp0T
                  · exact h
                 subst hp
                 have e :=n1 hpZ hpT (fun i hi hn => h1 i hi (by omega) hn) (fun i hi hip hn => h2 i hi hip hn)
                 rw [e] at n3
                 have n7 :=n7 p e
                 have hpB : p < B.length :=by omega
                 have hpM : p < M.length :=by omega
                 have hv :=n4 B[p] (List.getElem_mem hpB)
                 have wv :=w64 (x :=B[p] + 1) (by omega) (by omega)
                 have hbe : bump B (p : Int) = B.set p (B[p] + 1) :=by
                  unfold bump
                  rw [Int.toNat_natCast,List.getD_eq_getElem?_getD,List.getElem?_eq_getElem hpB]; rfl
                 rw [hbe] at n3
                 have q4 :=cX hpB
                 have q5 : nth (M.map bb) p = bb M[p] :=fH _ hpM
                 have mz2 :=hbz (M.set p true)
                 (repeat (refine a7 q18x0 hX mixed rfl ?_;simp [go_sem,hpB,hpM,wv,wj,q4,q5];try refine ⟨by kernel_rfl,?_⟩))
                 try (repeat refine And.intro (by first | omega | (unfold maxLen;omega) | kernel_rfl | (constructor <;> first | omega | (unfold maxLen;omega)) | grind) ?_)
                 try (repeat (refine a7 q18x0 hX mixed rfl ?_;simp [go_sem,hpB,hpM,wv,wj,q4,q5];try refine ⟨by kernel_rfl,?_⟩))
                 try (repeat refine And.intro (by first | omega | (unfold maxLen;omega) | kernel_rfl | (constructor <;> first | omega | (unfold maxLen;omega)) | grind) ?_)
                 try (repeat (refine a7 q18x0 hX mixed rfl ?_;simp [go_sem,hpB,hpM,wv,wj,q4,q5];try refine ⟨by kernel_rfl,?_⟩))
                 refine ⟨j + 1,by omega,by omega,?_⟩
                 rw [n3,n7]
                 refine aG _ [.old 0 ⟨3,1,(B.set p (B[p] + 1)).map ii⟩,.old 1 ⟨41,4,R.map frq⟩,.old 2 ⟨4,1,(M.set p true).map bb⟩] (by simp [go_sem,hrz,mz2]) ?_
                 simp [go_sem]
           · have : j = m :=by simp only [decide_eq_false_iff_not] at hd; omega
             subst this
             (repeat (refine a7 q18x0 hX mixed rfl ?_;simp [go_sem];try refine ⟨by kernel_rfl,?_⟩))
end Go.Proofs.YthibhamepjhfjaaGreatDoor

namespace Go.Proofs.YthibhamepjhfjaaGreatDoor
open Go.RowKit Go.Ab
attribute [local irreducible] AWP Go.Ab.Sub Means MeansH MeansX CallK CallG CallT CallGT CallU
theorem xA (own : List Int) (S : List (List Int)) (hf : fewP own S) (hb : badP own S ≠ 0) : Means false Tryz.prog 11 [il own,ill S] (.tup [.sl [],.sl [],ii (badP own S)]) :=by
 have c1 :=xB own S (by have :=hf.1; omega) (by have :=hf.2.1; omega)
 generalize badP own S = e at *
 refine aF false 222 [.tmp 4,.tmp 5,.tmp 6] Tryz.func11 rfl rfl rfl (by simp) (by decide) rfl fun X hX => ?_
 (repeat (refine a7 q18x2 hX mixed rfl ?_;simp [go_sem];try refine ⟨by kernel_rfl,?_⟩))
 first | refine a8 (c1) ?_ | refine aA (c1) ?_
 try (simp [go_sem];try refine ⟨by kernel_rfl,?_⟩)
 (repeat (refine a7 q18x2 hX mixed rfl ?_;simp [go_sem];try refine ⟨by kernel_rfl,?_⟩))
 refine aK (by simp [go_sem]; omega) ?_
 (repeat (refine a7 q18x2 hX mixed rfl ?_;simp [go_sem];try refine ⟨by kernel_rfl,?_⟩))
theorem xC (own : List Int) (S : List (List Int)) (hf : fewP own S) : ∃ (X Y : List Rat) (e : Int),Means false Tryz.prog 10 [il own,ill S] (.tup [fql X,fql Y,ii e]) ∧ Means false Tryz.prog 11 [il own,ill S] (.tup [fql X,fql Y,ii e]) ∧
  (∀ x ∈ X,bt 310 x.num ∧ bt 160 x.den) ∧ (∀ y ∈ Y,rq y) ∧ X.length ≤ 6 ∧ Y.length ≤ 6 :=by
 have h6 :=hf.1
 by_cases h0 : badP own S = 0
 · have hv :=xD h0
   have e1 : (allQ own S).map frq = allL own S :=by unfold allQ; rw [List.map_map]; rfl
   have e2 : (keptQ own S).map frq = keptL own S :=by unfold keptQ; rw [List.map_map]; rfl
   have h2 :=CW own S hv h6
   rw [← e1,← e2] at h2
   exact ⟨allQ own S,keptQ own S,0,mU hv h6,h2,fun x hx => ⟨(gZ hv h6 x hx).1,bR (gZ hv h6 x hx).2 (by decide)⟩,fun y hy => kD (j1 hv h6 y hy) (by decide) (by decide),by rw [CX]; exact h6,by rw [B2]; exact h6⟩
 · exact ⟨[],[],badP own S,qO own S (by omega) (by have :=hf.2.1; omega) (mV hf) h0,xA own S hf h0,by simp,by simp,by simp,by simp⟩
theorem CY (xs : List Rat) (hq : ∀ x ∈ xs,rq x) (hl : xs.length ≤ 1000) : Means false Tryz.prog 14 [fql xs,fql xs] (bb true) :=by
 refine aF false 27 [.tmp 4] Tryz.func14 rfl rfl rfl (by simp) (by decide) rfl fun X hX => ?_
 (repeat (refine a7 q18x3 hX mixed rfl ?_;simp [go_sem];try refine ⟨by kernel_rfl,?_⟩))
 refine aC (by simp [go_sem]) ?_
 (repeat (refine a7 q18x3 hX mixed rfl ?_;simp [go_sem];try refine ⟨by kernel_rfl,?_⟩))
 refine aH (fun i : Nat => ⟨mkE [(0,fql xs),(1,fql xs),(5,ii i)],[]⟩) (fun i => i ≤ xs.length) (fun i => xs.length - i) 0 ?_ ?_ ?_
 · refine aG _ [] (by simp [go_sem]) ?_
   simp [go_sem]
 · omega
 · intro i hi
   (repeat (refine a7 q18x3 hX mixed rfl ?_;simp [go_sem];try refine ⟨by kernel_rfl,?_⟩))
   refine aB (b :=decide (i < xs.length)) (by simp [go_sem]) (fun hb => ?_) (fun hb => ?_)
   · simp only [decide_eq_true_eq] at hb
     have wi :=w64 (x :=(i : Int) + 1) (by omega) (by omega)
     have q1 :=dD hb
     have c1 :=mS (d8 hb hq) (d8 hb hq)
     rw [decide_eq_true rfl] at c1
     generalize xs.getD i 0 = x at *
     (repeat (refine a7 q18x3 hX mixed rfl ?_;simp [go_sem,hb,q1];try refine ⟨by kernel_rfl,?_⟩))
     first | refine a8 (c1) ?_ | refine aA (c1) ?_
     try (simp [go_sem,hb,q1];try refine ⟨by kernel_rfl,?_⟩)
     refine aC (by simp [go_sem]) ?_
     (repeat (refine a7 q18x3 hX mixed rfl ?_;simp [go_sem,wi];try refine ⟨by kernel_rfl,?_⟩))
     refine ⟨i + 1,by omega,by omega,?_⟩
     refine aG _ [] (by simp [go_sem]) ?_
     simp [go_sem]
   · (repeat (refine a7 q18x3 hX mixed rfl ?_;simp [go_sem];try refine ⟨by kernel_rfl,?_⟩))
def lightP (L : List Fr) : Prop :=L.length ≤ 14 ∧ ∀ x ∈ L,x.L1.length ≤ 8 ∧ x.L2.length ≤ 8
noncomputable instance (L : List Fr) : Decidable (lightP L) :=Classical.propDecidable _
abbrev hgFr (L : List Fr) : Prop :=∀ x ∈ L,x.L1.length ≤ 9223372036854775807 ∧ x.L2.length ≤ 9223372036854775807
theorem yS (L : List Fr) (hl : L.length ≤ 9223372036854775807) (hL : hgFr L) : Means false Tryz.prog 9 [.sl (L.map fv)] (bb (decide (lightP L))) :=by
 refine aF false 23 [.tmp 2] Tryz.func9 rfl rfl rfl (by simp) (by decide) rfl fun X hX => ?_
 (repeat (refine a7 q18x4 hX mixed rfl ?_;simp [go_sem];try refine ⟨by kernel_rfl,?_⟩))
 refine aH (fun i : Nat => ⟨mkE [(0,.sl (L.map fv)),(3,ii i)],[]⟩) (fun i => (i ≤ L.length ∧ i ≤ 15) ∧ ∀ k (h : k < L.length),k < i → L[k].L1.length ≤ 8 ∧ L[k].L2.length ≤ 8) (fun i => L.length - i) 0 ?_ ?_ ?_
 · refine aG _ [] (by simp [go_sem]) ?_
   simp [go_sem]
 · exact ⟨⟨by omega,by omega⟩,fun k _ hk => by omega⟩
 · rintro i ⟨⟨hi,hi5⟩,hp⟩
   (repeat (refine a7 q18x4 hX mixed rfl ?_;simp [go_sem];try refine ⟨by kernel_rfl,?_⟩))
   refine aB (b :=decide (i < L.length ∧ i < 15)) (by by_cases h1 : i < L.length <;> by_cases h2 : i < 15 <;> simp [go_sem,h1,h2] <;> omega) (fun hb => ?_) (fun hb => ?_)
   · simp only [decide_eq_true_eq] at hb
     obtain ⟨hb,hb5⟩ :=hb
     have wi :=w64 (x :=(i : Int) + 1) (by omega) (by omega)
     have q1 :=sB hb
     have hx :=hL _ (List.getElem_mem hb)
     have c1 :=IP L[i].s1 L[i].L1 hx.1 L[i].s2 L[i].L2 hx.2 8
     have hno : ¬ ((L[i].L1.length : Int) ≤ 8 ∧ (L[i].L2.length : Int) ≤ 8) → ¬ lightP L :=fun h h' => h (by have :=h'.2 _ (List.getElem_mem hb); omega)
     have hyes : ((L[i].L1.length : Int) ≤ 8 ∧ (L[i].L2.length : Int) ≤ 8) → ∀ k (h : k < L.length),k < i + 1 → L[k].L1.length ≤ 8 ∧ L[k].L2.length ≤ 8 :=fun h k hk hki => by
      by_cases e : k = i
      · subst e; omega
      · exact hp k hk (by omega)
     generalize L[i] = x at *
     obtain ⟨u1,u2,u3,u4⟩ :=x
     simp only at c1 hno hyes
     (repeat (refine a7 q18x4 hX mixed rfl ?_;simp [go_sem,hb,q1];try refine ⟨by kernel_rfl,?_⟩))
     first | refine a8 (c1) ?_ | refine aA (c1) ?_
     try (simp [go_sem,hb,q1];try refine ⟨by kernel_rfl,?_⟩)
     refine aB (b :=!decide ((u2.length : Int) ≤ 8 ∧ (u4.length : Int) ≤ 8)) (by simp [go_sem]) (fun hd => ?_) (fun hd => ?_)
     · have e : ¬ lightP L :=hno (by simp only [Bool.not_eq_true',decide_eq_false_iff_not] at hd; exact hd)
       (repeat (refine a7 q18x4 hX mixed rfl ?_;simp [go_sem,e];try refine ⟨by kernel_rfl,?_⟩))
     · simp only [Bool.not_eq_false',decide_eq_true_eq] at hd
       (repeat (refine a7 q18x4 hX mixed rfl ?_;simp [go_sem,wi];try refine ⟨by kernel_rfl,?_⟩))
       refine ⟨i + 1,⟨⟨by omega,by omega⟩,hyes hd⟩,by omega,?_⟩
       refine aG _ [] (by simp [go_sem]) ?_
       simp [go_sem]
   · simp only [decide_eq_false_iff_not] at hb
     have e : lightP L ↔ L.length ≤ 14 :=⟨fun h => h.1,fun h => ⟨h,fun x hx => by
      obtain ⟨k,hk,rfl⟩ :=List.getElem_of_mem hx
      exact hp k hk (by omega)⟩⟩
     (repeat (refine a7 q18x4 hX mixed rfl ?_;simp [go_sem,e];try refine ⟨by kernel_rfl,?_⟩))
     omega
theorem uK : ∀ (L : List Fr),(∀ x ∈ L,szFr x) → ∃ (ks : List Rat) (T : List Fr),L = ks.map frR ++ T ∧ (∀ k ∈ ks,rq k) ∧ (T = [] ∨ ∃ x T',T = x :: T' ∧ ¬ okFr x ∧ szFr x)
 | [],_ => ⟨[],[],rfl,by simp,.inl rfl⟩
 | x :: L,h => by
   by_cases hx : okFr x
   · obtain ⟨ks,T,e,h1,h2⟩ :=uK L fun y hy => h y (by simp [hy])
     obtain ⟨r,hr,rfl⟩ :=sC hx
     exact ⟨r :: ks,T,by rw [e]; rfl,fun k hk => by
      rcases List.mem_cons.1 hk with rfl | hk
      · exact hr
      · exact h1 k hk,h2⟩
   · exact ⟨[],x :: L,rfl,by simp,.inr ⟨x,L,rfl,hx,h x (by simp)⟩⟩
theorem B3 (ks : List Rat) (T : List AV) : ∃ (l : List Int) (e : Int),coinV ks T = .tup [il l,ii e] ∧ l.length ≤ ks.length :=by
 unfold coinV
 split
 · exact ⟨[],1,rfl,by simp⟩
 · split
   · split
     · exact ⟨coinL ks,0,rfl,by unfold coinL; rw [j0,List.length_map]; exact Nat.le_refl _⟩
     · exact ⟨[],1,rfl,by simp⟩
   · exact ⟨[],6,rfl,by simp⟩
theorem xE (L : List Fr) (h : ∀ x ∈ L,szFr x) (hl : L.length ≤ 14) : ∃ (l : List Int) (e : Int),Means false Tryz.prog 12 [.sl (L.map fv)] (.tup [il l,ii e]) ∧ Means false Tryz.prog 13 [.sl (L.map fv)] (.tup [il l,ii e]) ∧ l.length ≤ 14 :=by
 obtain ⟨ks,T,e,h1,h2⟩ :=uK L h
 have hlen : ks.length + T.length = L.length :=by rw [e]; simp
 have hm : L.map fv = ks.map frq ++ T.map fv :=by rw [e,List.map_append,xF]
 have ht : tailOk (T.map fv) :=by
  rcases h2 with rfl | ⟨x,T',rfl,hx,hs⟩
  · exact .inl rfl
  · refine .inr ⟨x,T'.map fv,rfl,?_⟩
    have :=j2 x.s1 x.L1 (by omega) x.s2 x.L2 (by omega)
    rwa [decide_eq_false hx] at this
 have c1 :=yT ks (T.map fv) h1 ht (by rw [List.length_map]; omega)
 have c2 :=CR ks T h1 h2 (by omega)
 obtain ⟨l,er,hc,hle⟩ :=B3 ks (T.map fv)
 rw [hc] at c1 c2
 rw [hm]
 exact ⟨l,er,c1,c2,by omega⟩
theorem uL {x : Fr} (hx : okFr x) (h : x.L1.length ≤ 8 ∧ x.L2.length ≤ 8) : bt 310 (toQ x).num ∧ bt 160 (toQ x).den :=by
 obtain ⟨hr,he⟩ :=o8 hx
 generalize toQ x = r at *
 subst he
 have h1 :=(aR 8).1 h.1
 have h2 :=(aR 8).1 h.2
 have e8 : (1048576 : Int) ^ 8 = 1461501637330902918203684832716283019655932542976 :=by decide
 have e160 : (2 : Nat) ^ 160 = 1461501637330902918203684832716283019655932542976 :=by decide
 refine ⟨bR (k :=160) ?_ (by decide),?_⟩
 · unfold bt; rw [e160]
   unfold ab at h1; split at h1 <;> omega
 · unfold bt; rw [e160]
   unfold ab at h2; split at h2 <;> omega
set_option maxHeartbeats 16000000 in
set_option maxRecDepth 100000 in
theorem uM (own : List Int) (hl : own.length ≤ 9223372036854775807) (S : List (List Int)) (hS : S.length ≤ 9223372036854775807) (A : List Fr) (hA : A.length ≤ 9223372036854775807 ∧ hgFr A) (K : List Fr) (hK : K.length ≤ 9223372036854775807 ∧ hgFr K) :
  Means false Tryz.prog 3 [il own,ill S,.sl (A.map fv),.sl (K.map fv)] (bb true) :=by
 have cs :=FZ
 have cf :=KJ own S
 have cA :=yS A hA.1 hA.2
 have cK :=yS K hK.1 hK.2
 refine aF false 123 [.tmp 8] Tryz.func3 rfl rfl rfl (by simp) (by decide) rfl fun X hX => ?_
 (repeat (refine a7 q18x1 hX mixed rfl ?_;simp [go_sem];try refine ⟨by kernel_rfl,?_⟩))
 first | refine a8 (cs) ?_ | refine aA (cs) ?_
 try (simp [go_sem];try refine ⟨by kernel_rfl,?_⟩)
 (repeat (refine a7 q18x1 hX mixed rfl ?_;simp [go_sem];try refine ⟨by kernel_rfl,?_⟩))
 first | refine a8 (cf) ?_ | refine aA (cf) ?_
 try (simp [go_sem];try refine ⟨by kernel_rfl,?_⟩)
 first | refine aP (fun hg => cA) ?_ | refine aM (fun hg => cA) ?_
 try (simp [go_sem];try refine ⟨by kernel_rfl,?_⟩)
 first | refine aP (fun hg => cK) ?_ | refine aM (fun hg => cK) ?_
 try (simp [go_sem];try refine ⟨by kernel_rfl,?_⟩)
 by_cases hgo : fewP own S ∧ lightP A ∧ lightP K
 · refine aC (by simp [go_sem,hgo.1,hgo.2.1,hgo.2.2]) ?_
   obtain ⟨hf,hpA,hpK⟩ :=hgo
   have sA : ∀ x ∈ A,szFr x :=fun x hx => by have :=hpA.2 x hx; exact ⟨by omega,by omega⟩
   have sK : ∀ x ∈ K,szFr x :=fun x hx => by have :=hpK.2 x hx; exact ⟨by omega,by omega⟩
   obtain ⟨X,Y,e,c1,c2,hX,hY,hXl,hYl⟩ :=xC own S hf
   obtain ⟨l,ec,c3,c4,hll⟩ :=xE K sK hpK.1
   have hXq : ∀ x ∈ X,rq x :=fun x hx => hI (hX x hx).1 (hX x hx).2 (by decide) (by decide)
   have m1 :=CY X hXq (by omega)
   have m2 :=CY Y hY (by omega)
   have m3 :=xG l l (by omega) (by omega)
   rw [decide_eq_true rfl] at m3
   have r1 :=sD own S hl hS (mV hf)
   have r2 :=uN own S hl hS
   have hA1 :=hpA.1
   have hK1 :=hpK.1
   have k1 :=yU own S hf A K (by omega) (by omega) sA sK fun x hx ho => uL ho (hpA.2 x hx)
   have k2 :=uO own S hf A K (by omega) (by omega) sA sK fun x hx ho => uL ho (hpA.2 x hx)
   have sz : ∀ {r : Rat},rq r → szFr (frR r) :=fun {r} hr => ⟨by have :=(aR 60).2 hr.1; show (dg (ab r.num)).length ≤ 100000; omega,by have :=(aR 60).2 hr.2; show (dg (ab (r.den : Int))).length ≤ 100000; omega⟩
   have sX : ∀ x ∈ X.map frR,szFr x :=fun x hx => by
    obtain ⟨r,hr,rfl⟩ :=List.mem_map.1 hx
    exact sz (hXq r hr)
   have sY : ∀ x ∈ Y.map frR,szFr x :=fun x hx => by
    obtain ⟨r,hr,rfl⟩ :=List.mem_map.1 hx
    exact sz (hY r hr)
   have bX : ∀ x ∈ X.map frR,okFr x → bt 310 (toQ x).num ∧ bt 160 (toQ x).den :=fun x hx _ => by
    obtain ⟨r,hr,rfl⟩ :=List.mem_map.1 hx
    rw [G1 (hXq r hr)]; exact hX r hr
   have k3 :=yU own S hf (X.map frR) (Y.map frR) (by rw [List.length_map]; omega) (by rw [List.length_map]; omega) sX sY bX
   have k4 :=uO own S hf (X.map frR) (Y.map frR) (by rw [List.length_map]; omega) (by rw [List.length_map]; omega) sX sY bX
   rw [xF,xF] at k3 k4
   generalize chkE own S A K = v1 at *
   generalize chkE own S (X.map frR) (Y.map frR) = v2 at *
   generalize decide (PR own S) = pr at *
   clear cs cf cA cK hA hK sA sK hX hY hXq sX sY bX sz
   (repeat (refine a7 q18x1 hX mixed rfl ?_;simp [go_sem];try refine ⟨by kernel_rfl,?_⟩))
   first | refine a8 (c1) ?_ | refine aA (c1) ?_
   try (simp [go_sem];try refine ⟨by kernel_rfl,?_⟩)
   (repeat (refine a7 q18x1 hX mixed rfl ?_;simp [go_sem];try refine ⟨by kernel_rfl,?_⟩))
   first | refine a8 (c2) ?_ | refine aA (c2) ?_
   try (simp [go_sem];try refine ⟨by kernel_rfl,?_⟩)
   (repeat (refine a7 q18x1 hX mixed rfl ?_;simp [go_sem];try refine ⟨by kernel_rfl,?_⟩))
   first | refine a8 (c3) ?_ | refine aA (c3) ?_
   try (simp [go_sem];try refine ⟨by kernel_rfl,?_⟩)
   (repeat (refine a7 q18x1 hX mixed rfl ?_;simp [go_sem];try refine ⟨by kernel_rfl,?_⟩))
   first | refine a8 (c4) ?_ | refine aA (c4) ?_
   try (simp [go_sem];try refine ⟨by kernel_rfl,?_⟩)
   (repeat (refine a7 q18x1 hX mixed rfl ?_;simp [go_sem];try refine ⟨by kernel_rfl,?_⟩))
   first | refine aP (fun hg => m1) ?_ | refine aM (fun hg => m1) ?_
   try (simp [go_sem];try refine ⟨by kernel_rfl,?_⟩)
   first | refine aP (fun hg => m2) ?_ | refine aM (fun hg => m2) ?_
   try (simp [go_sem];try refine ⟨by kernel_rfl,?_⟩)
   first | refine aP (fun hg => m3) ?_ | refine aM (fun hg => m3) ?_
   try (simp [go_sem];try refine ⟨by kernel_rfl,?_⟩)
   first | refine aP (fun hg => r1) ?_ | refine aM (fun hg => r1) ?_
   try (simp [go_sem];try refine ⟨by kernel_rfl,?_⟩)
   first | refine aP (fun hg => r2) ?_ | refine aM (fun hg => r2) ?_
   try (simp [go_sem];try refine ⟨by kernel_rfl,?_⟩)
   (repeat (refine a7 q18x1 hX mixed rfl ?_;simp [go_sem];try refine ⟨by kernel_rfl,?_⟩))
   first | refine aP (fun hg => k1) ?_ | refine aM (fun hg => k1) ?_
   try (simp [go_sem];try refine ⟨by kernel_rfl,?_⟩)
   first | refine aP (fun hg => k2) ?_ | refine aM (fun hg => k2) ?_
   try (simp [go_sem];try refine ⟨by kernel_rfl,?_⟩)
   first | refine aP (fun hg => k3) ?_ | refine aM (fun hg => k3) ?_
   try (simp [go_sem];try refine ⟨by kernel_rfl,?_⟩)
   first | refine aP (fun hg => k4) ?_ | refine aM (fun hg => k4) ?_
   try (simp [go_sem];try refine ⟨by kernel_rfl,?_⟩)
   (repeat (refine a7 q18x1 hX mixed rfl ?_;simp [go_sem];try refine ⟨by kernel_rfl,?_⟩))
 · refine aK (by
    by_cases h1 : fewP own S <;> by_cases h2 : lightP A <;> by_cases h3 : lightP K <;> simp [go_sem,h1,h2,h3]
    exact hgo ⟨h1,h2,h3⟩) ?_
   (repeat (refine a7 q18x1 hX mixed rfl ?_;simp [go_sem];try refine ⟨by kernel_rfl,?_⟩))
end Go.Proofs.YthibhamepjhfjaaGreatDoor

namespace Go.Proofs.YthibhamepjhfjaaGreatDoor
open Go.ChangeShapes Go.WideShapes Go.ChangeAt Go.RowKit Go.Ab
theorem Tryz.own : ownKnob Tryz.prog.godebug = none :=by kernel_rfl
theorem Tryz.laidOut : laidOutB Tryz.prog = true :=by kernel_rfl
set_option maxRecDepth 100000 in
theorem IQ {H : Type} {enc : TypeId × Value → H} {W : World} {base : Nat} {v : Value} {d : DataW H} {p : List MemPlace} {M : Nat → Prop} {r : Go.Reach} {b0 : Nat} (hM : ∀ b,b < W.heap.size → M b)
  (hval : Value.okWide Tryz.prog W r b0 22 v) (h : DataW.Trod enc Tryz.prog W base (fun _ => true) true 22 v d p) : ∃ L : List Int,L.length ≤ maxLen ∧ RepZ W M v (.sl (L.map ii)) :=
 jT ii 1 (by decide) (fun _ => rfl) Tryz.underlying22 (by kernel_rfl) hM (x7 Tryz.underlying3) hval h
set_option maxRecDepth 100000 in
theorem KK {H : Type} {enc : TypeId × Value → H} {W : World} {base : Nat} {M : Nat → Prop} (hM : ∀ b,b < W.heap.size → M b) : ∀ n cs y,DataW.trod enc Tryz.prog W base (fun _ => true) true n 22 cs = some y → cs.length = 1 → ∃ x : List Int,∀ (j : Nat) (c : Value) (z : AV),cs[j]? = some c → (il x).flat[j]? = some z → RepZ W M c z :=by
 intro n cs y h hl
 match cs,hl with
 | [c0],_ =>
   obtain ⟨v,hv,L,hL,hr⟩ :=l8 (M :=M) ii 1 (by decide) (fun _ => rfl) Tryz.underlying22 (by kernel_rfl) hM (x7 Tryz.underlying3) h
   have : v = c0 :=by simpa using hv.symm
   subst this
   refine ⟨L,fun j x z hx hz => ?_⟩
   match j with
   | 0 => simp [AV.flat] at hx hz; subst hx; subst hz; exact hr
   | j + 1 => simp at hx
set_option maxRecDepth 100000 in
theorem G2 {H : Type} {enc : TypeId × Value → H} {W : World} {base : Nat} {v : Value} {d : DataW H} {p : List MemPlace} {M : Nat → Prop} {r : Go.Reach} {b0 : Nat} (hM : ∀ b,b < W.heap.size → M b)
  (hval : Value.okWide Tryz.prog W r b0 23 v) (h : DataW.Trod enc Tryz.prog W base (fun _ => true) true 23 v d p) : ∃ L : List (List Int),L.length ≤ maxLen ∧ RepZ W M v (ill L) :=
 jT il 1 (by decide) (fun _ => rfl) Tryz.underlying23 (by kernel_rfl) hM (KK hM) hval h
set_option maxRecDepth 100000 in
theorem sE {W : World} (h : laidMet Tryz.prog Rows.cedeCoinsRow.laid W) : GlobW W (fun b => b < W.heap.size) :=
 B4 (g :=0) (cs :=Lib.pow10Tab.map fun z => Value.int .u64 z) (by rw [globs]; kernel_rfl)
  (B5 (zs := Lib.pow10Tab) h (n := "internal/strconv.uint64pow10") (List.mem_of_getElem? (i := 2) (by kernel_rfl)) (len := 20) (by kernel_rfl) (by kernel_rfl) Tryz.underlying149 Tryz.underlying88 (by kernel_rfl) (by kernel_rfl))
  (fun g hg => by rw [globI] at hg; simp at hg)
noncomputable def laidWorld (os : Os) : World :=layAll Tryz.prog (World.holding Tryz.prog os ⟨#[],#[],[]⟩) Rows.cedeCoinsRow.laid
set_option maxRecDepth 100000 in
theorem CZ (os : Os) (args : Array Value) : laidMet Tryz.prog Rows.cedeCoinsRow.laid ((laidWorld os).forCall (fun _ _ => 0) ⟨#[],args,[]⟩).memory :=
 laidMet_of_run3 8 (by kernel_rfl) (by kernel_rfl) (by kernel_rfl)
end Go.Proofs.YthibhamepjhfjaaGreatDoor

