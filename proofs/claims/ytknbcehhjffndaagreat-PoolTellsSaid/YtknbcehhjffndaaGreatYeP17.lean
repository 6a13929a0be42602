/-
  Lemmas for the statement at the top.
-/
import Derived.Test.YtknbcehhjffndaaGreatYeP16
import Derived.Test.YtknbcehhjffndaaGreatYeP15
import Derived.Test.YtknbcehhjffndaaGreatYeP14
set_option linter.all false
namespace Go.Ab
def q13x0 : List Nat :=[0,2,3,4,5,6,7,8,9,11,12,13,14,15,17,18,19,20,28,32,40,56,61,84,93,114,120,126,150]
def q13x1 : List Nat :=[0,1,4,5,6,7,8,9,10,14,18,28,51,59]
def q13x2 : List Nat :=[0,2,3,4,5,6,8,9,10,11,14,18,45]
def q13x3 : List Nat :=[0,1,4,5,6,7,8,10,16,31]
attribute [go_sem] q13x0 q13x1 q13x2 q13x3
end Go.Ab
namespace Go.Proofs.YtknbcehhjffndaaGreat
open Go.RowKit Go.Ab
attribute [local irreducible] AWP Go.Ab.Sub Means MeansH MeansX CallK CallG CallT CallGT CallU
theorem qQ {K K' : Int → Int} {x : Int} (hx : K x = K' x) : ∀ {l : List Int},(∀ y ∈ l,K y = K' y) → insB K x l = insB K' x l
 | [],_ => rfl
 | y :: l,h => by
   unfold insB
   have hy :=h y (by simp)
   have e : bef K x y ↔ bef K' x y :=by unfold bef; rw [hx,hy]
   rw [qQ hx (l :=l) fun z hz => h z (by simp [hz])]
   by_cases hb : bef K x y
   · rw [if_pos hb,if_pos (e.1 hb)]
   · rw [if_neg hb,if_neg fun h' => hb (e.2 h')]
theorem DD {K K' : Int → Int} {l : List Int} (h : ∀ x ∈ l,K x = K' x) : srt K l = srt K' l :=by
 have : ∀ (l acc : List Int),(∀ x ∈ l,K x = K' x) → (∀ x ∈ acc,K x = K' x) → l.foldl (fun s x => insB K x s) acc = l.foldl (fun s x => insB K' x s) acc :=by
  intro l
  induction l with
  | nil => intro acc _ _; rfl
  | cons x l ih =>
    intro acc h1 h2
    simp only [List.foldl_cons]
    rw [qQ (h1 x (by simp)) h2]
    refine ih _ (fun y hy => h1 y (by simp [hy])) fun y hy => ?_
    rcases List.mem_cons.1 ((k6 K' x acc).mem_iff.1 hy) with rfl | hy
    · exact h1 y (by simp)
    · exact h2 y hy
 exact this l [] h (by simp)
def kz (R : List Rat) : List Int :=(idxI R.length).map (B.kf R)
theorem zJ (R : List Rat) : (kz R).length = R.length :=by unfold kz; rw [List.length_map,iX]
theorem GS {R : List Rat} {i : Nat} (h : i < (kz R).length) : (kz R)[i] = B.kf R (i : Int) :=by
 simp [kz,idxI]
theorem N9 {R : List Rat} {i j : Nat} (h : i < (kz R).length) (h' : j < (kz R).length) : (kz R)[i] < (kz R)[j] ↔ R.getD i 0 < R.getD j 0 :=by
 rw [GS,GS,B.kf_lt,Int.toNat_natCast,Int.toNat_natCast]
theorem LV (R : List Rat) : srt (B.kf R) (idxI R.length) = srt (kR (kz R)) (idxI (kz R).length) :=by
 rw [zJ]
 refine DD fun x hx => ?_
 obtain ⟨h0,h1⟩ :=fF.1 hx
 obtain ⟨i,rfl⟩ : ∃ i : Nat,x = (i : Int) :=⟨x.toNat,by omega⟩
 have hi : i < (kz R).length :=by rw [zJ]; omega
 unfold kR
 rw [Int.toNat_natCast,List.getD_eq_getElem?_getD,List.getElem?_eq_getElem hi,← GS hi]; rfl
theorem GT {z : Int} (h : -9223372036854775808 ≤ z ∧ z ≤ 9223372036854775807) : Means false Tryz.prog 51 [bigZ z] (.tup [ii z,bb true]) :=by
 have :=KP z (l3 h)
 have e : inI z = true :=by unfold inI; simpa using h
 rwa [e,if_pos rfl] at this
theorem qR {a b : Rat} (ha : rq a) (hb : rq b) : Means false Tryz.prog 50 [frq a,frq b] (ii (cmpR a b)) :=zG a.num a.den b.num b.den (eF ha) (eF hb)
theorem LW (r : Rat) : sg r.num < 0 ↔ r < 0 :=by
 have h : r.num < 0 ↔ r < 0 :=by
  have :=Rat.num_nonneg (q :=r)
  constructor
  · intro h1; exact Rat.not_le.1 fun h2 => absurd (this.2 h2) (by omega)
  · intro h1; exact Int.not_le.1 fun h2 => absurd (this.1 h2) (Rat.not_le.2 h1)
 rw [← h]
 unfold sg
 repeat' split
 all_goals omega
set_option maxHeartbeats 16000000 in
set_option maxRecDepth 20000 in
theorem GU (ks : List Rat) (L : List Fr) (hq : ∀ k ∈ ks,rq k) (hL : L = [] ∨ ∃ x L',L = x :: L' ∧ ¬ okFr x ∧ szFr x) (hl : ks.length + L.length ≤ 100000) : Means false Tryz.prog 20 [.sl (ks.map frq ++ L.map fv)] (coinV ks (L.map fv)) :=by
 obtain ⟨V,hV⟩ : ∃ V,coinV ks (L.map fv) = V :=⟨_,rfl⟩
 have o1 :=qC 4503599627370496 (by decide)
 have hmr : ((4503599627370496 : Int) : Rat) = most :=rfl
 have hmq : rq most :=kM (z :=4503599627370496) (by decide)
 rw [hmr] at o1
 obtain ⟨mr,hmr2⟩ : ∃ m,most = m :=⟨_,rfl⟩
 rw [hmr2] at o1 hmq
 rw [hV]
 refine aB false 162 [.tmp 2,.tmp 3] Tryz.func20 rfl rfl rfl (by simp) (by decide) rfl fun X hX => ?_
 (repeat (refine a6 q13x0 hX a7 rfl ?_; (simp [go_sem]; try (refine ⟨by kernel_rfl,?_⟩))))
 by_cases hlen : ks.length + L.length = 0 ∨ 12 < ks.length + L.length
 · have e : V = .tup [.sl [],ii 1] :=by rw [← hV]; exact if_pos (.inl (by rw [List.length_map]; exact hlen))
   rw [e]
   refine a8 (b :=true) (by simp [go_sem]; omega) (fun _ => ?_) (fun h => by cases h)
   (repeat (refine a6 q13x0 hX a7 rfl ?_; (simp [go_sem]; try (refine ⟨by kernel_rfl,?_⟩))))
 refine a8 (b :=false) (by simp [go_sem]; omega) (fun h => by cases h) (fun _ => ?_)
 have hn0 : ks.length + L.length ≤ 12 :=by omega
 (repeat (refine a6 q13x0 hX a7 rfl ?_; (simp [go_sem]; try (refine ⟨by kernel_rfl,?_⟩))))
 refine aF (fun i : Nat => ⟨mkE [(0,.sl (ks.map frq ++ L.map fv)),(4,ii i)],[]⟩) (fun i => i ≤ ks.length ∧ okTo ks i) (fun i => ks.length + L.length - i) 0 ?_ ?_ ?_
 · refine aA _ [] (by simp [go_sem]) ?_
   simp [go_sem]
 · exact ⟨by omega,fun k hk => by omega⟩
 · rintro i ⟨hi,hp⟩
   have wi :=w64 (x :=(i : Int) + 1) (by omega) (by omega)
   (repeat (refine a6 q13x0 hX a7 rfl ?_; (simp [go_sem]; try (refine ⟨by kernel_rfl,?_⟩))))
   refine a8 (b :=decide (i < ks.length + L.length)) (by simp [go_sem]; try omega) (fun hb => ?_) (fun hb => ?_)
   · simp only [decide_eq_true_eq] at hb
     have hil : (i : Int) < (ks.length : Int) + (L.length : Int) :=by omega
     by_cases hik : i < ks.length
     · have hgi : ks.getD i 0 = ks[i] :=by rw [List.getD_eq_getElem?_getD,List.getElem?_eq_getElem hik]; rfl
       have hfq : rq (ks.getD i 0) :=by rw [hgi]; exact hq _ (List.getElem_mem hik)
       have q1 : nth (ks.map frq ++ L.map fv) i = frq (ks.getD i 0) :=G8 (by simp [hik])
       have r1 :=cF _ _ (eF hfq)
       have m2 :=qR hfq hmq
       have z2 :=o7 (ks.getD i 0) mr
       have z1 :=LW (ks.getD i 0)
       have hmem : ks.getD i 0 ∈ ks :=by rw [hgi]; exact List.getElem_mem hik
       obtain ⟨f,hf⟩ : ∃ f,ks.getD i 0 = f :=⟨_,rfl⟩
       rw [hf] at hfq q1 r1 m2 z1 z2 hmem
       generalize cmpR f mr = cm at *
       (repeat (refine a6 q13x0 hX a7 rfl ?_; (simp [go_sem,hil,q1]; try (refine ⟨by kernel_rfl,?_⟩))))
       first | refine a9 (r1) ?_ | refine aE (r1) ?_
       try (simp [go_sem,hil,q1]; try (refine ⟨by kernel_rfl,?_⟩))
       refine a8 (b :=false) (by simp [go_sem]) (fun h => by cases h) (fun _ => ?_)
       (repeat (refine a6 q13x0 hX a7 rfl ?_; (simp [go_sem,hil,q1]; try (refine ⟨by kernel_rfl,?_⟩))))
       first | refine aJ (fun hg => o1) ?_ | refine aZ (fun hg => o1) ?_
       try (simp [go_sem,hil,q1]; try (refine ⟨by kernel_rfl,?_⟩))
       first | refine aJ (fun hg => m2) ?_ | refine aZ (fun hg => m2) ?_
       try (simp [go_sem,hil,q1]; try (refine ⟨by kernel_rfl,?_⟩))
       refine a8 (b :=decide (f < 0 ∨ mr < f)) (by by_cases h1 : f < 0 <;> by_cases h2 : mr < f <;> simp [go_sem,z1,z2,h1,h2]) (fun hd => ?_) (fun hd => ?_)
       · simp only [decide_eq_true_eq] at hd
         have e : V = .tup [.sl [],ii 1] :=by
          rw [← hV]
          refine if_pos (.inr (.inr ⟨f,hmem,?_⟩))
          rw [hmr2]; exact hd
         rw [e]
         (repeat (refine a6 q13x0 hX a7 rfl ?_; (simp [go_sem]; try (refine ⟨by kernel_rfl,?_⟩))))
       · simp only [decide_eq_false_iff_not,not_or] at hd
         obtain ⟨hd1,hd2⟩ :=hd
         (repeat (refine a6 q13x0 hX a7 rfl ?_; (simp [go_sem,wi]; try (refine ⟨by kernel_rfl,?_⟩))))
         refine ⟨i + 1,⟨by omega,sY hp hf (Rat.not_lt.1 hd1) (by rw [hmr2]; exact Rat.not_lt.1 hd2)⟩,by omega,?_⟩
         refine aA _ [] (by simp [go_sem]) ?_
         simp [go_sem]
     · have hin : i = ks.length :=by omega
       rcases hL with rfl | ⟨x,L',rfl,hx,hsx⟩
       · simp at hb; omega
       · have q1 : nth (ks.map frq ++ (x :: L').map fv) i = fv x :=oC (by simp [hin])
         have e : V = .tup [.sl [],ii 1] :=by rw [← hV]; exact if_pos (.inr (.inl (by simp)))
         have r1 : Means false Tryz.prog 49 [fv x] (bb false) :=by
          have :=xW x.s1 x.L1 (by omega) x.s2 x.L2 (by omega)
          rwa [decide_eq_false hx] at this
         obtain ⟨u1,u2,u3,u4⟩ :=x
         simp only [List.map_cons] at q1
         have hil : (i : Int) < (ks.length : Int) + ((L'.length : Int) + 1) :=by simp at hb; omega
         (repeat (refine a6 q13x0 hX a7 rfl ?_; (simp [go_sem,hil,q1]; try (refine ⟨by kernel_rfl,?_⟩))))
         first | refine a9 (r1) ?_ | refine aE (r1) ?_
         try (simp [go_sem,hil,q1]; try (refine ⟨by kernel_rfl,?_⟩))
         refine a8 (b :=true) (by simp [go_sem]) (fun _ => ?_) (fun h => by cases h)
         rw [e]
         (repeat (refine a6 q13x0 hX a7 rfl ?_; (simp [go_sem]; try (refine ⟨by kernel_rfl,?_⟩))))
   · simp only [decide_eq_false_iff_not] at hb
     have hin : i = ks.length :=by omega
     have hL0 : L = [] :=List.eq_nil_of_length_eq_zero (by omega)
     subst hin hL0
     have hcB : ¬ ((ks.length + (([] : List Fr).map fv).length = 0 ∨ 12 < ks.length + (([] : List Fr).map fv).length) ∨ cArg ks (([] : List Fr).map fv)) :=fun h => by
      rcases h with h | h | ⟨k,hk,h⟩
      · exact hlen h
      · exact h rfl
      · obtain ⟨j,hj,rfl⟩ :=List.getElem_of_mem hk
        have :=hp j hj
        rw [List.getD_eq_getElem?_getD,List.getElem?_eq_getElem hj] at this
        have h1 : 0 ≤ ks[j] :=this.1
        have h2 : ks[j] ≤ most :=this.2
        rcases h with h | h
        · exact absurd h (Rat.not_lt.2 h1)
        · exact absurd h (Rat.not_lt.2 h2)
     have hlen' : ¬ (ks.length = 0 ∨ 12 < ks.length) :=hlen
     have hks : 0 < ks.length :=by omega
     have hk12 : ks.length ≤ 12 :=by omega
     have hVf : ¬ okS ks ks.length → V = .tup [.sl [],ii 6] :=fun h => by
      rw [← hV]; unfold coinV; rw [if_neg hcB,if_neg h]
     have hVt : okS ks ks.length → V = if rsum ks ks.length = ((fl (rsum ks ks.length) : Int) : Rat) then .tup [il (coinL ks),ii 0] else .tup [.sl [],ii 1] :=fun h => by
      rw [← hV]; unfold coinV; rw [if_neg hcB,if_pos h]
     have o2 :=qC 0 (by decide)
     rw [show ((0 : Int) : Rat) = rsum ks 0 from rfl] at o2
     obtain ⟨s0,hs0⟩ : ∃ r,rsum ks 0 = r :=⟨_,rfl⟩
     rw [hs0] at o2
     simp only [List.map_nil,List.append_nil]
     clear hV hcB hL
     (repeat (refine a6 q13x0 hX a7 rfl ?_; (simp [go_sem]; try (refine ⟨by kernel_rfl,?_⟩))))
     first | refine a9 (o2) ?_ | refine aE (o2) ?_
     try (simp [go_sem]; try (refine ⟨by kernel_rfl,?_⟩))
     (repeat (refine a6 q13x0 hX a7 rfl ?_; (simp [go_sem]; try (refine ⟨by kernel_rfl,?_⟩))))
     refine aF (fun i : Nat => ⟨mkE [(0,.sl (ks.map frq)),(5,.ow 2),(6,.ow 1),(7,.el 0 4 0 0),(8,ii i)],[.row ⟨62,4,[frq (rsum ks i)]⟩,.row ⟨62,4,restA ks i⟩,.row ⟨3,1,outA ks i⟩]⟩) (fun i => i ≤ ks.length ∧ okS ks i) (fun i => ks.length - i) 0 ?_ ?_ ?_
     · rw [hs0]
       refine aA _ [.old 0 ⟨62,4,[frq s0]⟩,.birth 62 4,.birth 3 1] (by simp [go_sem]) ?_
       simp [go_sem]
     · exact ⟨by omega,G6 ks⟩
     · rintro i ⟨hi,ho⟩
       have wi :=w64 (x :=(i : Int) + 1) (by omega) (by omega)
       (repeat (refine a6 q13x0 hX a7 rfl ?_; (simp [go_sem]; try (refine ⟨by kernel_rfl,?_⟩))))
       refine a8 (b :=decide (i < ks.length)) (by simp [go_sem]; try omega) (fun hb => ?_) (fun hb => ?_)
       · simp only [decide_eq_true_eq] at hb
         have hgi : ks.getD i 0 = ks[i] :=by rw [List.getD_eq_getElem?_getD,List.getElem?_eq_getElem hb]; rfl
         have hfq : rq (ks.getD i 0) :=by rw [hgi]; exact hq _ (List.getElem_mem hb)
         have q1 : nth (ks.map frq) i = frq (ks.getD i 0) :=kN hb
         obtain ⟨hf0,hfm⟩ :=hp i hb
         obtain ⟨hfl0,hfl1⟩ :=pP (B :=4503599627370496) hf0 hfm
         have c1 :=xX _ _ (eF hfq)
         have c1 : Means false Tryz.prog 52 [frq (ks.getD i 0)] (bigZ (fl (ks.getD i 0))) :=c1
         have c2 :=GT (z :=fl (ks.getD i 0)) (by omega)
         have c3 :=qC (fl (ks.getD i 0)) (by omega)
         have hfiq :=kM (z :=fl (ks.getD i 0)) (by omega)
         have c4 :=B4 hfq hfiq (qJ hfq hf0)
         have c4 : Means false Tryz.prog 44 [frq (ks.getD i 0),frq ((fl (ks.getD i 0) : Int) : Rat)] (.tup [frq (rs (ks.getD i 0)),ii 0]) :=c4
         have c5 :=FN (oB ho) (BF hfq hf0)
         have hos2 : okAdd (rsum ks i) (rs (ks.getD i 0)) → okS ks (i + 1) :=fun h j hj => by
          by_cases e : j = i
          · subst e; exact h
          · exact ho j (by omega)
         have hof2 : ¬ okAdd (rsum ks i) (rs (ks.getD i 0)) → ¬ okS ks ks.length :=fun h h' => h (h' i hb)
         rw [← eW] at c5
         have hrs :=qK ks i
         have hos :=sZ ks i
         have hrl :=t0 ks i
         have hol :=xZ ks i
         have hrz :=iE ks i
         have hoz :=k8 ks i
         clear hf0 hfm hp hfiq hgi hfq ho
         generalize restA ks i = RA at *
         generalize outA ks i = OA at *
         generalize ks.getD i 0 = f at *
         generalize rsum ks i = su at *
         obtain ⟨su2,hsu2⟩ : ∃ r,rsum ks (i + 1) = r :=⟨_,rfl⟩
         rw [hsu2] at c5
         generalize fl f = fi at *
         generalize rs f = rf' at *
         generalize ((fi : Int) : Rat) = fr' at *
         by_cases hoa : okAdd su rf'
         · rw [iN hoa] at c5
           have hos2 :=hos2 hoa
           clear hoa hof2
           (repeat (refine a6 q13x0 hX a7 rfl ?_; (simp [go_sem,hb,q1]; try (refine ⟨by kernel_rfl,?_⟩))))
           first | refine a9 (c1) ?_ | refine aE (c1) ?_
           try (simp [go_sem,hb,q1]; try (refine ⟨by kernel_rfl,?_⟩))
           first | refine a9 (c2) ?_ | refine aE (c2) ?_
           try (simp [go_sem,hb,q1]; try (refine ⟨by kernel_rfl,?_⟩))
           (repeat (refine a6 q13x0 hX a7 rfl ?_; (simp [go_sem,hb,q1]; try (refine ⟨by kernel_rfl,?_⟩))))
           first | refine a9 (c3) ?_ | refine aE (c3) ?_
           try (simp [go_sem,hb,q1]; try (refine ⟨by kernel_rfl,?_⟩))
           try (repeat refine And.intro (by first | omega | (unfold maxLen; omega) | kernel_rfl | (refine ⟨by first | omega | (unfold maxLen; omega),by first | omega | (unfold maxLen; omega)⟩) | grind) ?_)
           first | refine a9 (c4) ?_ | refine aE (c4) ?_
           try (simp [go_sem,hb,q1]; try (refine ⟨by kernel_rfl,?_⟩))
           try (repeat refine And.intro (by first | omega | (unfold maxLen; omega) | kernel_rfl | (refine ⟨by first | omega | (unfold maxLen; omega),by first | omega | (unfold maxLen; omega)⟩) | grind) ?_)
           try (repeat (refine a6 q13x0 hX a7 rfl ?_; (simp [go_sem]; try (refine ⟨by kernel_rfl,?_⟩))))
           refine a8 (b :=false) (by simp [go_sem]) (fun h => by cases h) (fun _ => ?_)
           (repeat (refine a6 q13x0 hX a7 rfl ?_; (simp [go_sem]; try (refine ⟨by kernel_rfl,?_⟩))))
           first | refine a9 (c5) ?_ | refine aE (c5) ?_
           try (simp [go_sem]; try (refine ⟨by kernel_rfl,?_⟩))
           (repeat (refine a6 q13x0 hX a7 rfl ?_; (simp [go_sem]; try (refine ⟨by kernel_rfl,?_⟩))))
           refine a8 (b :=false) (by simp [go_sem]) (fun h => by cases h) (fun _ => ?_)
           (repeat (refine a6 q13x0 hX a7 rfl ?_; (simp [go_sem]; try (refine ⟨by kernel_rfl,?_⟩))))
           try (repeat refine And.intro (by first | omega | (unfold maxLen; omega) | kernel_rfl | (refine ⟨by first | omega | (unfold maxLen; omega),by first | omega | (unfold maxLen; omega)⟩) | grind) ?_)
           try (repeat (refine a6 q13x0 hX a7 rfl ?_; (simp [go_sem]; try (refine ⟨by kernel_rfl,?_⟩))))
           try (repeat refine And.intro (by first | omega | (unfold maxLen; omega) | kernel_rfl | (refine ⟨by first | omega | (unfold maxLen; omega),by first | omega | (unfold maxLen; omega)⟩) | grind) ?_)
           try (repeat (refine a6 q13x0 hX a7 rfl ?_; (simp [go_sem,wi]; try (refine ⟨by kernel_rfl,?_⟩))))
           refine ⟨i + 1,⟨by omega,hos2⟩,by omega,?_⟩
           rw [hsu2,hrs,hos]
           refine aA _ [.old 0 ⟨62,4,[frq su2]⟩,.old 8 ⟨62,4,RA ++ [frq rf']⟩,.old 6 ⟨3,1,OA ++ [ii fi]⟩] (by simp [go_sem,hrz,hoz]) ?_
           simp [go_sem]
         · rw [qV hoa] at c5
           have e :=hVf (hof2 hoa)
           clear hoa hof2 hos2
           rw [e]
           (repeat (refine a6 q13x0 hX a7 rfl ?_; (simp [go_sem,hb,q1]; try (refine ⟨by kernel_rfl,?_⟩))))
           first | refine a9 (c1) ?_ | refine aE (c1) ?_
           try (simp [go_sem,hb,q1]; try (refine ⟨by kernel_rfl,?_⟩))
           first | refine a9 (c2) ?_ | refine aE (c2) ?_
           try (simp [go_sem,hb,q1]; try (refine ⟨by kernel_rfl,?_⟩))
           (repeat (refine a6 q13x0 hX a7 rfl ?_; (simp [go_sem,hb,q1]; try (refine ⟨by kernel_rfl,?_⟩))))
           first | refine a9 (c3) ?_ | refine aE (c3) ?_
           try (simp [go_sem,hb,q1]; try (refine ⟨by kernel_rfl,?_⟩))
           try (repeat refine And.intro (by first | omega | (unfold maxLen; omega) | kernel_rfl | (refine ⟨by first | omega | (unfold maxLen; omega),by first | omega | (unfold maxLen; omega)⟩) | grind) ?_)
           first | refine a9 (c4) ?_ | refine aE (c4) ?_
           try (simp [go_sem,hb,q1]; try (refine ⟨by kernel_rfl,?_⟩))
           try (repeat refine And.intro (by first | omega | (unfold maxLen; omega) | kernel_rfl | (refine ⟨by first | omega | (unfold maxLen; omega),by first | omega | (unfold maxLen; omega)⟩) | grind) ?_)
           try (repeat (refine a6 q13x0 hX a7 rfl ?_; (simp [go_sem]; try (refine ⟨by kernel_rfl,?_⟩))))
           refine a8 (b :=false) (by simp [go_sem]) (fun h => by cases h) (fun _ => ?_)
           (repeat (refine a6 q13x0 hX a7 rfl ?_; (simp [go_sem]; try (refine ⟨by kernel_rfl,?_⟩))))
           first | refine a9 (c5) ?_ | refine aE (c5) ?_
           try (simp [go_sem]; try (refine ⟨by kernel_rfl,?_⟩))
           (repeat (refine a6 q13x0 hX a7 rfl ?_; (simp [go_sem]; try (refine ⟨by kernel_rfl,?_⟩))))
           refine a8 (b :=true) (by simp [go_sem]) (fun _ => ?_) (fun h => by cases h)
           (repeat (refine a6 q13x0 hX a7 rfl ?_; (simp [go_sem]; try (refine ⟨by kernel_rfl,?_⟩))))
       · simp only [decide_eq_false_iff_not] at hb
         have hin : i = ks.length :=by omega
         subst hin
         have hV2 :=hVt ho
         have hsq :=oB ho
         obtain ⟨b1,b2⟩ :=l6 ks ks.length
         obtain ⟨b3,b4⟩ :=pP (B :=(ks.length : Int)) b1 b2
         have hcl : coinL ks = bumps (ks.map fl) ((srt (B.kf (ks.map rs)) (idxI ks.length)).take (fl (rsum ks ks.length)).toNat) :=rfl
         have c1 : Means false Tryz.prog 52 [frq (rsum ks ks.length)] (bigZ (fl (rsum ks ks.length))) :=xX _ _ (eF hsq)
         have hrz :=iE ks ks.length
         have hoz :=k8 ks ks.length
         have hrf : restA ks ks.length = (ks.map rs).map frq :=qM ks
         have hof :=t3 ks
         have hfq : ∀ v ∈ ks.map fl,0 ≤ v ∧ v ≤ 4503599627370496 :=fun v hv => by
          obtain ⟨k,hk,rfl⟩ :=List.mem_map.1 hv
          obtain ⟨j,hj,rfl⟩ :=List.getElem_of_mem hk
          have :=hp j hj
          rw [List.getD_eq_getElem?_getD,List.getElem?_eq_getElem hj] at this
          exact pP this.1 this.2
         have hrl : (ks.map rs).length = ks.length :=by simp
         have hRq : ∀ r ∈ ks.map rs,rq r :=fun r hr => by
          obtain ⟨k,hk,rfl⟩ :=List.mem_map.1 hr
          obtain ⟨j,hj,rfl⟩ :=List.getElem_of_mem hk
          have :=hp j hj
          rw [List.getD_eq_getElem?_getD,List.getElem?_eq_getElem hj] at this
          exact BF (hq _ hk) this.1
         have hks2 :=LV (ks.map rs)
         rw [hrl] at hks2
         rw [hks2] at hcl
         have hQl : (ks.map fl).length = ks.length :=by simp
         obtain ⟨m,hm⟩ : ∃ m : Nat,(m : Int) = fl (rsum ks ks.length) :=⟨(fl (rsum ks ks.length)).toNat,by omega⟩
         have hmt : (fl (rsum ks ks.length)).toNat = m :=by omega
         rw [hmt] at hcl
         rw [← hm] at c1 hV2 b3 b4
         have c2 :=GT (z :=(m : Int)) (by omega)
         have c3 :=qC (m : Int) (by omega)
         have c4 :=IH hsq (kM (z :=(m : Int)) (by omega))
         rw [hrf,hof]
         rw [hrf] at hrz
         rw [hof] at hoz
         clear hrf hof hks2 hm hmt hVf hVt o2 hs0 ho hp hq hlen hlen' hn0 hb hi b1 b2 hsq
         generalize ks.map fl = Q at *
         generalize hRR : ks.map rs = R at *
         generalize rsum ks ks.length = su at *
         have hzl :=zJ R
         have hzt :=fun {i j : Nat} (h : i < (kz R).length) (h' : j < (kz R).length) => N9 (R :=R) h h'
         obtain ⟨Z,hZ⟩ : ∃ Z,kz R = Z :=⟨_,rfl⟩
         rw [hZ] at hcl hzl
         have hzt : ∀ i j (h : i < Z.length) (h' : j < Z.length),Z[i] < Z[j] ↔ R.getD i 0 < R.getD j 0 :=by
          subst hZ; exact fun i j h h' => hzt h h'
         obtain ⟨O,hO⟩ : ∃ O,srt (kR Z) (idxI Z.length) = O :=⟨_,rfl⟩
         rw [hO] at hcl
         have hOl : O.length = ks.length :=by rw [← hO,v5,iX,hzl,hrl]
         have hOm : ∀ x ∈ O,0 ≤ x ∧ x < ks.length :=fun x hx => by
          rw [← hO] at hx
          have :=fF.1 ((dN _ _).mem_iff.1 hx)
          omega
         have hOn : O.Nodup :=by
          rw [← hO]
          exact ((dN _ _).symm.nodup (dZ _))
         have hnf :=fun {k : Nat} (hk : k < O.length) {b : Nat} (hb : b < Z.length) => CS (R :=Z) hO.symm hk (b :=b) hb
         have hOR : ∀ j,j < O.length → ∃ p0 : Nat,p0 < ks.length ∧ ¬ (p0 : Int) ∈ O.take j :=fun j hj => by
          have hx :=hOm O[j] (List.getElem_mem hj)
          refine ⟨(O[j]).toNat,by omega,fun q => ?_⟩
          obtain ⟨i,hi,e⟩ :=List.getElem_of_mem q
          rw [List.getElem_take] at e
          have hij : i < j :=by rw [List.length_take] at hi; omega
          have :=List.pairwise_iff_getElem.1 hOn i j (by omega) (by omega) hij
          exact this (by omega)
         clear hO hZ hRR hOn
         (repeat (refine a6 q13x0 hX a7 rfl ?_; (simp [go_sem]; try (refine ⟨by kernel_rfl,?_⟩))))
         first | refine a9 (c1) ?_ | refine aE (c1) ?_
         try (simp [go_sem]; try (refine ⟨by kernel_rfl,?_⟩))
         first | refine a9 (c2) ?_ | refine aE (c2) ?_
         try (simp [go_sem]; try (refine ⟨by kernel_rfl,?_⟩))
         (repeat (refine a6 q13x0 hX a7 rfl ?_; (simp [go_sem]; try (refine ⟨by kernel_rfl,?_⟩))))
         first | refine a9 (c3) ?_ | refine aE (c3) ?_
         try (simp [go_sem]; try (refine ⟨by kernel_rfl,?_⟩))
         try (repeat refine And.intro (by first | omega | (unfold maxLen; omega) | kernel_rfl | (refine ⟨by first | omega | (unfold maxLen; omega),by first | omega | (unfold maxLen; omega)⟩) | grind) ?_)
         first | refine a9 (c4) ?_ | refine aE (c4) ?_
         try (simp [go_sem]; try (refine ⟨by kernel_rfl,?_⟩))
         try (repeat refine And.intro (by first | omega | (unfold maxLen; omega) | kernel_rfl | (refine ⟨by first | omega | (unfold maxLen; omega),by first | omega | (unfold maxLen; omega)⟩) | grind) ?_)
         refine a8 (b :=!decide (su = (((m : Nat) : Int) : Rat))) (by simp [go_sem]) (fun hd => ?_) (fun hd => ?_)
         · have e : V = .tup [.sl [],ii 1] :=by rw [hV2]; exact if_neg (by simpa using hd)
           rw [e]
           (repeat (refine a6 q13x0 hX a7 rfl ?_; (simp [go_sem]; try (refine ⟨by kernel_rfl,?_⟩))))
         simp only [Bool.not_eq_false',decide_eq_true_eq] at hd
         have e : V = .tup [il (coinL ks),ii 0] :=by rw [hV2]; exact if_pos hd
         rw [e,hcl]
         clear c1 c2 c3 c4 hV2 e hcl hd
         have hQ8 : (Q.length : Int) ≤ 12 :=by omega
         (repeat (refine a6 q13x0 hX a7 rfl ?_; (simp [go_sem]; try (refine ⟨by kernel_rfl,?_⟩))))
         try (repeat refine And.intro (by first | omega | (unfold maxLen; omega) | kernel_rfl | (refine ⟨by first | omega | (unfold maxLen; omega),by first | omega | (unfold maxLen; omega)⟩) | grind) ?_)
         try (repeat (refine a6 q13x0 hX a7 rfl ?_; (simp [go_sem]; try (refine ⟨by kernel_rfl,?_⟩))))
         have ht0 : (took ks.length (O.take 0)).map bb = List.replicate Q.length (bb false) :=by rw [List.take_zero,CQ,List.map_replicate,hQl]
         have hbz : ∀ M : List Bool,zoneEs (M.map bb) = true :=fun M => e8 _ _ fun _ => rfl
         have hmO : m ≤ O.length :=by omega
         have hRl : R.length = ks.length :=hrl
         generalize ks.length = n at *
         refine aF (fun j : Nat => ⟨mkE [(5,.ow 0),(6,.ow 1),(15,ii m),(17,.ow 2),(18,ii j)],[rowI (bumps Q (O.take j)),.row ⟨62,4,R.map frq⟩,.row ⟨4,1,(took n (O.take j)).map bb⟩]⟩) (fun j => j ≤ m) (fun j => m - j) 0 ?_ ?_ ?_
         · rw [ht0]
           refine aA _ [.old 2 ⟨3,1,Q.map ii⟩,.old 1 ⟨62,4,R.map frq⟩,.old 3 ⟨4,1,List.replicate Q.length (bb false)⟩] (by simp [go_sem,hrz,bumps]) ?_
           simp [go_sem]
         · omega
         · intro j hj
           have wj :=w64 (x :=(j : Int) + 1) (by omega) (by omega)
           (repeat (refine a6 q13x0 hX a7 rfl ?_; (simp [go_sem]; try (refine ⟨by kernel_rfl,?_⟩))))
           refine a8 (b :=decide (j < m)) (by simp [go_sem]) (fun hd => ?_) (fun hd => ?_)
           · simp only [decide_eq_true_eq] at hd
             have hjO : j < O.length :=by omega
             have n1 :=fun {b : Nat} (hb : b < Z.length) => hnf hjO hb
             have n3 :=pQ (L :=Q) hjO
             have n4 :=pR (O.take j) hfq
             have n5 :=eX (O.take j) Q
             obtain ⟨p0,hp0,hp0T⟩ :=hOR j hjO
             have n7 :=fun b h => CR (n :=n) (O :=O) (j :=j) (b :=b) hjO h
             have n8 : (O.take j).length ≤ 12 :=by rw [List.length_take]; omega
             have tl :=FT n (O.take j)
             have ta :=fun i h => o5 (n :=n) (O :=O.take j) (i :=i) h
             generalize O.take j = T at *
             generalize bumps Q T = B at *
             generalize hTM : took n T = M at *
             have mz :=hbz M
             (repeat (refine a6 q13x0 hX a7 rfl ?_; (simp [go_sem]; try (refine ⟨by kernel_rfl,?_⟩))))
             refine aF (fun x : Nat × Int => ⟨mkE [(5,.ow 0),(6,.ow 1),(15,ii m),(17,.ow 2),(18,ii j),(19,ii x.2),(20,ii x.1)],[rowI B,.row ⟨62,4,R.map frq⟩,.row ⟨4,1,M.map bb⟩]⟩) (fun x => x.1 ≤ n ∧ isFree Z T x.1 x.2) (fun x => n - x.1) (0,-1) ?_ ?_ ?_
             · refine aA _ [.old 0 ⟨3,1,B.map ii⟩,.old 1 ⟨62,4,R.map frq⟩,.old 2 ⟨4,1,M.map bb⟩] (by simp [go_sem,hrz,mz]) ?_
               simp [go_sem]
             · exact ⟨Nat.zero_le _,.inl ⟨rfl,fun j hj => absurd hj (Nat.not_lt_zero _)⟩⟩
             · rintro ⟨k,b⟩ ⟨g1,g2⟩
               simp only [] at g1 g2
               have wk :=w64 (x :=(k : Int) + 1) (by omega) (by omega)
               (repeat (refine a6 q13x0 hX a7 rfl ?_; (simp [go_sem]; try (refine ⟨by kernel_rfl,?_⟩))))
               refine a8 (b :=decide (k < n)) (by simp [go_sem,n5,hQl]) (fun he => ?_) (fun he => ?_)
               · simp only [decide_eq_true_eq] at he
                 have hkM : k < M.length :=by omega
                 have hkZ : k < Z.length :=by omega
                 have hkR : k < R.length :=by omega
                 have tk :=ta k hkM
                 have q1 : nth (M.map bb) k = bb M[k] :=eC _ hkM
                 have q2 :=kN (xs :=R) hkR
                 have h0R : 0 < R.length :=by omega
                 have q0 :=kN (xs :=R) h0R
                 have hmx : max (-1 : Int) 0 = 0 :=by decide
                 by_cases ht : (k : Int) ∈ T
                 · have hMk : M[k] = true :=by rw [tk]; exact decide_eq_true ht
                   have nx :=uY g2 ht
                   have hb : b = -1 ∨ ∃ p : Nat,b = p ∧ p < n :=by
                    rcases g2 with ⟨e,_⟩ | ⟨p,e,hp,_⟩
                    · exact .inl e
                    · exact .inr ⟨p,e,by omega⟩
                   rcases hb with hb | ⟨p,hb,hpW⟩
                   · subst hb
                     (repeat (refine a6 q13x0 hX a7 rfl ?_; (simp [go_sem,hkM,q1,hMk,hkR,h0R,q2,q0,hmx]; try (refine ⟨by kernel_rfl,?_⟩))))
                     first | refine cB rfl ?_ | refine bY rfl ?_
                     try (simp [go_sem]; try (refine ⟨by kernel_rfl,?_⟩))
                     try (repeat refine And.intro (by first | omega | (unfold maxLen; omega) | kernel_rfl | (refine ⟨by first | omega | (unfold maxLen; omega),by first | omega | (unfold maxLen; omega)⟩) | grind) ?_)
                     refine a8 (b :=false) (by simp [go_sem]) (fun h => by cases h) (fun _ => ?_)
                     (repeat (refine a6 q13x0 hX a7 rfl ?_; (simp [go_sem,wk]; try (refine ⟨by kernel_rfl,?_⟩))))
                     refine ⟨k + 1,-1,⟨by omega,nx⟩,by omega,?_⟩
                     refine aA _ [.old 0 ⟨3,1,B.map ii⟩,.old 1 ⟨62,4,R.map frq⟩,.old 2 ⟨4,1,M.map bb⟩] (by simp [go_sem,hrz,mz]) ?_
                     simp [go_sem]
                   · subst hb
                     have hpm : max (p : Int) 0 = p :=by omega
                     have hpm2 : max 0 (p : Int) = p :=by omega
                     have hpR : p < R.length :=by omega
                     have q3 :=kN (xs :=R) hpR
                     (repeat (refine a6 q13x0 hX a7 rfl ?_; (simp [go_sem,hkM,q1,hMk,hkR,hpR,q2,q3,hpm,hpm2]; try (refine ⟨by kernel_rfl,?_⟩))))
                     first | refine cB rfl ?_ | refine bY rfl ?_
                     try (simp [go_sem]; try (refine ⟨by kernel_rfl,?_⟩))
                     try (repeat refine And.intro (by first | omega | (unfold maxLen; omega) | kernel_rfl | (refine ⟨by first | omega | (unfold maxLen; omega),by first | omega | (unfold maxLen; omega)⟩) | grind) ?_)
                     refine a8 (b :=false) (by simp [go_sem]) (fun h => by cases h) (fun _ => ?_)
                     (repeat (refine a6 q13x0 hX a7 rfl ?_; (simp [go_sem,wk]; try (refine ⟨by kernel_rfl,?_⟩))))
                     refine ⟨k + 1,p,⟨by omega,nx⟩,by omega,?_⟩
                     refine aA _ [.old 0 ⟨3,1,B.map ii⟩,.old 1 ⟨62,4,R.map frq⟩,.old 2 ⟨4,1,M.map bb⟩] (by simp [go_sem,hrz,mz]) ?_
                     simp [go_sem]
                 · have hMk : M[k] = false :=by rw [tk]; exact decide_eq_false ht
                   by_cases hb : b < 0
                   · have nx :=nB g2 hkZ ht (.inl hb)
                     have hb1 : b = -1 :=by
                      rcases g2 with ⟨e,_⟩ | ⟨p,e,_⟩ <;> omega
                     subst hb1
                     (repeat (refine a6 q13x0 hX a7 rfl ?_; (simp [go_sem,hkM,q1,hMk,hkR,h0R,q2,q0,hmx]; try (refine ⟨by kernel_rfl,?_⟩))))
                     first | refine cB rfl ?_ | refine bY rfl ?_
                     try (simp [go_sem]; try (refine ⟨by kernel_rfl,?_⟩))
                     try (repeat refine And.intro (by first | omega | (unfold maxLen; omega) | kernel_rfl | (refine ⟨by first | omega | (unfold maxLen; omega),by first | omega | (unfold maxLen; omega)⟩) | grind) ?_)
                     refine a8 (b :=true) (by simp [go_sem]) (fun _ => ?_) (fun h => by cases h)
                     (repeat (refine a6 q13x0 hX a7 rfl ?_; (simp [go_sem,wk]; try (refine ⟨by kernel_rfl,?_⟩))))
                     refine ⟨k + 1,k,⟨by omega,nx⟩,by omega,?_⟩
                     refine aA _ [.old 0 ⟨3,1,B.map ii⟩,.old 1 ⟨62,4,R.map frq⟩,.old 2 ⟨4,1,M.map bb⟩] (by simp [go_sem,hrz,mz]) ?_
                     simp [go_sem]
                   · obtain ⟨p,hp,hpk,hpZ,hpT,_,_⟩ : ∃ p : Nat,b = p ∧ p < k ∧ ∃ hp : p < Z.length,¬ (p : Int) ∈ T ∧ (∀ j (hj : j < Z.length),j < k → ¬ (j : Int) ∈ T → Z[j] ≤ Z[p]) ∧ ∀ j (hj : j < Z.length),j < p → ¬ (j : Int) ∈ T → Z[j] < Z[p] :=by
                      rcases g2 with ⟨e,_⟩ | h
                      · omega
                      · exact h
                     subst hp
                     have hpR : p < R.length :=by omega
                     have q3 :=kN (xs :=R) hpR
                     have hpn : ¬ (p : Int) < 0 :=by omega
                     have hpm : max (p : Int) 0 = p :=by omega
                     have hpm2 : max 0 (p : Int) = p :=by omega
                     have nx1 :=fun h => nB g2 hkZ ht (.inr ⟨p,rfl,hpZ,h⟩)
                     have nx2 :=fun h => xR g2 hkZ hpZ h
                     have hz :=hzt p k hpZ hkZ
                     have cc :=qR (B9 hkR hRq) (B9 hpR hRq)
                     have zz :=o7 (R.getD k 0) (R.getD p 0)
                     rw [← hz] at zz
                     generalize cmpR (R.getD k 0) (R.getD p 0) = cm at *
                     generalize R.getD k 0 = rk at *
                     generalize R.getD p 0 = rp at *
                     (repeat (refine a6 q13x0 hX a7 rfl ?_; (simp [go_sem,hkM,q1,hMk,hkR,hpR,q2,q3,hpm,hpm2,hpn]; try (refine ⟨by kernel_rfl,?_⟩))))
                     first | refine aJ (fun hg => cc) ?_ | refine aZ (fun hg => cc) ?_
                     try (simp [go_sem,hpn]; try (refine ⟨by kernel_rfl,?_⟩))
                     try (repeat refine And.intro (by first | omega | (unfold maxLen; omega) | kernel_rfl | (refine ⟨by first | omega | (unfold maxLen; omega),by first | omega | (unfold maxLen; omega)⟩) | grind) ?_)
                     refine a8 (b :=decide (0 < cm)) (by simp [go_sem]) (fun hf => ?_) (fun hf => ?_)
                     · simp only [decide_eq_true_eq] at hf
                       (repeat (refine a6 q13x0 hX a7 rfl ?_; (simp [go_sem,wk]; try (refine ⟨by kernel_rfl,?_⟩))))
                       refine ⟨k + 1,k,⟨by omega,nx1 (zz.1 hf)⟩,by omega,?_⟩
                       refine aA _ [.old 0 ⟨3,1,B.map ii⟩,.old 1 ⟨62,4,R.map frq⟩,.old 2 ⟨4,1,M.map bb⟩] (by simp [go_sem,hrz,mz]) ?_
                       simp [go_sem]
                     · simp only [decide_eq_false_iff_not] at hf
                       (repeat (refine a6 q13x0 hX a7 rfl ?_; (simp [go_sem,wk]; try (refine ⟨by kernel_rfl,?_⟩))))
                       refine ⟨k + 1,p,⟨by omega,nx2 (Int.not_lt.1 fun h => hf (zz.2 h))⟩,by omega,?_⟩
                       refine aA _ [.old 0 ⟨3,1,B.map ii⟩,.old 1 ⟨62,4,R.map frq⟩,.old 2 ⟨4,1,M.map bb⟩] (by simp [go_sem,hrz,mz]) ?_
                       simp [go_sem]
               · have hkl : k = n :=by simp only [decide_eq_false_iff_not] at he; omega
                 obtain ⟨p,hp,hpk,hpZ,hpT,h1,h2⟩ : ∃ p : Nat,b = p ∧ p < k ∧ ∃ hp : p < Z.length,¬ (p : Int) ∈ T ∧ (∀ j (hj : j < Z.length),j < k → ¬ (j : Int) ∈ T → Z[j] ≤ Z[p]) ∧ ∀ j (hj : j < Z.length),j < p → ¬ (j : Int) ∈ T → Z[j] < Z[p] :=by
                  rcases g2 with ⟨_,h⟩ | h
                  · exact absurd (h p0 (by omega)) hp0T
                  · exact h
                 subst hp
                 have e :=n1 hpZ hpT (fun i hi hn => h1 i hi (by omega) hn) (fun i hi hip hn => h2 i hi hip hn)
                 rw [e] at n3
                 have n7 :=n7 p e
                 have hpB : p < B.length :=by omega
                 have hpM : p < M.length :=by omega
                 have hv :=n4 B[p] (List.getElem_mem hpB)
                 have wv :=w64 (x :=B[p] + 1) (by omega) (by omega)
                 have hbe : bump B (p : Int) = B.set p (B[p] + 1) :=by
                  unfold bump
                  rw [Int.toNat_natCast,List.getD_eq_getElem?_getD,List.getElem?_eq_getElem hpB]; rfl
                 rw [hbe] at n3
                 have q4 :=eM hpB
                 have q5 : nth (M.map bb) p = bb M[p] :=eC _ hpM
                 have mz2 :=hbz (M.set p true)
                 (repeat (refine a6 q13x0 hX a7 rfl ?_; (simp [go_sem,hpB,hpM,wv,wj,q4,q5]; try (refine ⟨by kernel_rfl,?_⟩))))
                 try (repeat refine And.intro (by first | omega | (unfold maxLen; omega) | kernel_rfl | (refine ⟨by first | omega | (unfold maxLen; omega),by first | omega | (unfold maxLen; omega)⟩) | grind) ?_)
                 try (repeat (refine a6 q13x0 hX a7 rfl ?_; (simp [go_sem,hpB,hpM,wv,wj,q4,q5]; try (refine ⟨by kernel_rfl,?_⟩))))
                 try (repeat refine And.intro (by first | omega | (unfold maxLen; omega) | kernel_rfl | (refine ⟨by first | omega | (unfold maxLen; omega),by first | omega | (unfold maxLen; omega)⟩) | grind) ?_)
                 try (repeat (refine a6 q13x0 hX a7 rfl ?_; (simp [go_sem,hpB,hpM,wv,wj,q4,q5]; try (refine ⟨by kernel_rfl,?_⟩))))
                 refine ⟨j + 1,by omega,by omega,?_⟩
                 rw [n3,n7]
                 refine aA _ [.old 0 ⟨3,1,(B.set p (B[p] + 1)).map ii⟩,.old 1 ⟨62,4,R.map frq⟩,.old 2 ⟨4,1,(M.set p true).map bb⟩] (by simp [go_sem,hrz,mz2]) ?_
                 simp [go_sem]
           · have : j = m :=by simp only [decide_eq_false_iff_not] at hd; omega
             subst this
             (repeat (refine a6 q13x0 hX a7 rfl ?_; (simp [go_sem]; try (refine ⟨by kernel_rfl,?_⟩))))
end Go.Proofs.YtknbcehhjffndaaGreat

namespace Go.Proofs.YtknbcehhjffndaaGreat
open Go.RowKit Go.Ab
attribute [-simp] List.map_take
attribute [local irreducible] AWP Go.Ab.Sub Means MeansH CallK CallG CallT CallGT CallU
theorem DE {own : List Int} {S : List (List Int)} (hv : PV own S) (h6 : own.length ≤ 6) : Means false Tryz.prog 20 [fql (keptQ own S)] (.tup [il (coinL (keptQ own S)),ii 0]) :=by
 have hsum : sumR (fun t => (keptQ own S).getD t 0) (keptQ own S).length = ((sumI own : Int) : Rat) :=by
  rw [jS,← pF hv]
  exact aR fun t ht => wK ht
 have hri :=wL hsum
 have hkb :=rT hv h6
 have hKl : (keptQ own S).length = own.length :=jS _ _
 have hK0 : ∀ x ∈ keptQ own S,0 ≤ x ∧ x ≤ ((6597069766656 : Int) : Rat) :=fun x hx => by
  obtain ⟨k,hk,rfl⟩ :=List.mem_map.1 hx
  have hk : k < own.length :=by simpa using hk
  exact ⟨iW hv hk,rV hv h6 hk⟩
 have hmost : ((6597069766656 : Int) : Rat) ≤ most :=Rat.intCast_le_intCast.2 (by decide)
 have hpos :=hv.pos
 have hc :=GU (keptQ own S) [] (fun k hk => JN (hkb k hk) (by omega) (by omega)) (.inl rfl) (by simp; omega)
 rw [List.map_nil,List.append_nil] at hc
 have e : coinV (keptQ own S) [] = .tup [il (coinL (keptQ own S)),ii 0] :=by
  unfold coinV
  rw [if_neg,if_pos (JP (fun k hk => ⟨(hK0 k hk).1,(hkb k hk).2⟩) (by omega)),if_pos (by rw [hri,yO])]
  rintro (h1 | h1 | ⟨k,hk,h1 | h1⟩)
  · simp only [List.length_nil] at h1; omega
  · exact h1 rfl
  · exact absurd h1 (Rat.not_lt.2 (hK0 k hk).1)
  · exact absurd h1 (Rat.not_lt.2 (Rat.le_trans (hK0 k hk).2 hmost))
 rwa [e] at hc
theorem DF {own : List Int} {S : List (List Int)} (hv : PV own S) (h6 : own.length ≤ 6) : Means false Tryz.prog 19 [il own,ill S] (.tup [fql (allQ own S),fql (keptQ own S),ii 0]) :=by
 have :=FQ own S hv h6
 have e1 : (allQ own S).map frq = allL own S :=by unfold allQ; rw [List.map_map]; rfl
 have e2 : (keptQ own S).map frq = keptL own S :=by unfold keptQ; rw [List.map_map]; rfl
 unfold fql
 rw [e1,e2]; exact this
theorem t7 (F : List Fd) (hf : fewV F = true) (hr : rightV F = false) : Means false Tryz.prog 7 [.sl (F.map fo)] (.tup [.sl [],ii 1]) :=by
 have c1 :=mK F hf
 refine aB false 54 [.tmp 2,.tmp 3] Tryz.func7 rfl rfl rfl (by simp) (by decide) rfl fun X hX => ?_
 (repeat (refine a6 q13x2 hX a7 rfl ?_; (simp [go_sem])))
 refine a9 (c1) ?_
 try (simp [go_sem])
 refine a8 (b :=true) (by simp [go_sem,hr]) (fun _ => ?_) (fun h => by cases h)
 (repeat (refine a6 q13x2 hX a7 rfl ?_; (simp [go_sem])))
set_option maxHeartbeats 4000000 in
set_option maxRecDepth 20000 in
theorem BK (F : List Fd) (hf : fewV F = true) (hr : rightV F = true) : Means false Tryz.prog 7 [.sl (F.map fo)] (.tup [il (owedL F),ii 0]) :=by
 have c1 :=mK F hf
 have h5 :=mS hf
 have hv :=s8 hr
 have hp :=EU hv
 have c2 :=DF hp (by rw [bK]; omega)
 have c3 :=DE hp (by rw [bK]; omega)
 have hoL :=bK F
 have hcL :=iZ F
 refine aB false 54 [.tmp 2,.tmp 3] Tryz.func7 rfl rfl rfl (by simp) (by decide) rfl fun X hX => ?_
 (repeat (refine a6 q13x2 hX a7 rfl ?_; (simp [go_sem])))
 refine a9 (c1) ?_
 try (simp [go_sem])
 refine a8 (b :=false) (by simp [go_sem,hr]) (fun h => by cases h) (fun _ => ?_)
 (repeat (refine a6 q13x2 hX a7 rfl ?_; (simp [go_sem])))
 refine aF (fun k : Nat => ⟨mkE [(0,.sl (F.map fo)),(6,ii k),(4,.ow 0),(5,.ow 1)],[.row ⟨3,1,((ownL F).take k).map ii⟩,.row ⟨25,1,((cedL F).take k).map il⟩]⟩) (fun k => k ≤ F.length) (fun k => F.length - k) 0 ?_ ?_ ?_
 · refine aA _ [.birth 3 1,.birth 25 1] (by simp [go_sem]) ?_
   simp [go_sem]
 · omega
 · intro k hk
   have l1 : ((ownL F).take k).length = k :=by rw [List.length_take]; omega
   have l2 : ((cedL F).take k).length = k :=by rw [List.length_take]; omega
   (repeat (refine a6 q13x2 hX a7 rfl ?_; (simp [go_sem])))
   refine a8 (b :=decide (k < F.length)) (by simp [go_sem]) (fun hb => ?_) (fun hb => ?_)
   · simp at hb
     have d3 :=GJ F[k] (by have :=(fG hf (List.getElem_mem hb)).1; omega)
     rw [if_pos (hv.at' k hb).cla] at d3
     have e1 :=mB hb
     have e2 :=sD hb
     (repeat (refine a6 q13x2 hX a7 rfl ?_; (simp [go_sem,hb])))
     refine a9 (d3) ?_
     try (simp [go_sem,l1])
     (repeat refine And.intro (by first | omega | (unfold maxLen; omega) | kernel_rfl | (refine ⟨by first | omega | (unfold maxLen; omega),by first | omega | (unfold maxLen; omega)⟩) | grind) ?_)
     (repeat (refine a6 q13x2 hX a7 rfl ?_; (simp [go_sem,hb,l1,l2])))
     (repeat refine And.intro (by first | omega | (unfold maxLen; omega) | kernel_rfl | (refine ⟨by first | omega | (unfold maxLen; omega),by first | omega | (unfold maxLen; omega)⟩) | grind) ?_)
     (repeat (refine a6 q13x2 hX a7 rfl ?_; (simp [go_sem,hb,l1,l2]; (try simp (disch :=omega) only [w64,td,tm]))))
     refine ⟨k + 1,by omega,by omega,?_⟩
     refine aA _ [.old 3 ⟨3,1,((ownL F).take (k + 1)).map ii⟩,.old 5 ⟨25,1,((cedL F).take (k + 1)).map il⟩] (by simp [go_sem,e1,e2]) ?_
     simp [go_sem]
   · have hkl : k = F.length :=by simp at hb; omega
     subst hkl
     rw [List.take_of_length_le (by omega),List.take_of_length_le (by omega)]
     (repeat (refine a6 q13x2 hX a7 rfl ?_; (simp [go_sem])))
     refine dO (c2) rfl rfl ?_
     try (simp [go_sem])
     (repeat (refine a6 q13x2 hX a7 rfl ?_; (simp [go_sem])))
     refine a8 (b :=false) (by simp [go_sem]) (fun h => by cases h) (fun _ => ?_)
     (repeat (refine a6 q13x2 hX a7 rfl ?_; (simp [go_sem])))
     refine a9 (c3) ?_
     try (simp [go_sem])
     (repeat (refine a6 q13x2 hX a7 rfl ?_; (simp [go_sem])))
     try rfl
end Go.Proofs.YtknbcehhjffndaaGreat

namespace Go.Proofs.YtknbcehhjffndaaGreat
open Go.RowKit Go.Ab
structure YearOk (F : List Fd) (o G : List Int) : Prop where
 ol : o.length = F.length
 ob : ∀ x ∈ o,0 ≤ x ∧ x ≤ 6597069766657
 os : sumI o = sumI (ownL F)
 gl : G.length = (asksK F F.length).length
 al : (asksK F F.length).length ≤ 40
 ge : G = share (asksK F F.length) (paidK F o F.length)
 ok : okC' (asksK F F.length) = true
 pb : 0 ≤ paidK F o F.length
 gs : sumI G = paidK F o F.length
 gb : ∀ (t : Nat) (h : t < G.length) (h' : t < (asksK F F.length).length),0 ≤ G[t] ∧ G[t] ≤ (asksK F F.length)[t]
theorem y8 (F : List Fd) : ∀ k,k ≤ F.length → sumI (asksK F k) = sumI ((ownL F).take k)
 | 0,_ => by simp [asksK,sumI]
 | k + 1,h => by
   rw [d9 (by omega),wT,y8 F k (by omega),mB (show k < F.length by omega),cG]
theorem BM {F : List Fd} {o : List Int} (ho : o.length = F.length) : ∀ k,k ≤ F.length → paidK F o k ≤ sumI (o.take k)
 | 0,_ => by simp [paidK,sumI]
 | k + 1,hk => by
   rw [i6 (by omega) (by omega),jT (show k < o.length by omega)]
   have :=BM ho k (by omega)
   have : payV F[k] o[k] ≤ o[k] :=by simp only [payV]; omega
   omega
theorem BL {F : List Fd} (hf : fewV F = true) (hr : rightV F = true) : YearOk F (owedL F) (gets F) :=by
 have h5 :=mS hf
 have hv :=s8 hr
 have hc :=JT hv h5
 have hoL :=bK F
 have hol : (owedL F).length = F.length :=by have :=hc.len; unfold owedL; omega
 have hpb :=oF hv hol fun x hx => (hc.bd x hx).1
 have ham :=jW hf F.length (Nat.le_refl _)
 have hal : (asksK F F.length).length ≤ 40 :=by rw [jV F F.length (Nat.le_refl _)]; omega
 have hpn :=hpb F.length (Nat.le_refl _)
 have hok : okC' (asksK F F.length) = true :=BG hv _
 have hgl : (gets F).length = (asksK F F.length).length :=rY hok hpn.1
 have hle :=BM hol F.length (Nat.le_refl _)
 rw [List.take_of_length_le (by omega)] at hle
 have hs : sumI (owedL F) = sumI (ownL F) :=hc.sum
 have ha :=y8 F F.length (Nat.le_refl _)
 rw [List.take_of_length_le (by omega)] at ha
 refine ⟨hol,hc.bd,hs,hgl,hal,rfl,hok,hpn.1,?_,fun t h h' => ET hok hpn.1 h' h⟩
 have :=C3 hok hpn.1
 rw [pG]
 show sumL (share _ _) = _
 rw [this,← pG,ha]
 omega
theorem y7 {F : List Fd} {i : Nat} (h : i < F.length) : (asksK F (i + 1)).length = (asksK F i).length + F[i].claims.length :=by rw [d9 h,List.length_append,l8]
theorem vA {F : List Fd} {i : Nat} (h : i ≤ F.length) : (asksK F i).length ≤ (asksK F F.length).length :=by
 have : asksK F F.length = asksK F i ++ (F.drop i).flatMap fun f => nums f.claims :=by
  unfold asksK; rw [← List.flatMap_append,List.take_append_drop,List.take_length]
 rw [this,List.length_append]; omega
end Go.Proofs.YtknbcehhjffndaaGreat

namespace Go.Proofs.YtknbcehhjffndaaGreat
open Go.RowKit Go.Ab
attribute [local irreducible] AWP Go.Ab.Sub Means MeansH CallK CallG CallT CallGT CallU
theorem GV {C : List Int} {k : Nat} (h : k < C.length) (l : Int) : (C.take (k + 1)).map (fun c => min c l) = (C.take k).map (fun c => min c l) ++ [min C[k] l] :=by
 rw [List.take_succ_eq_append_getElem h,List.map_append]; rfl
theorem BN {C : List Int} (hok : okC' C = true) {l : Int} (hl : 0 ≤ l) : 0 ≤ fill C l :=by
 have :=jX hl C
 rw [gH hok] at this; exact this
def half2 (l q : Int) (C : List Int) (i : Nat) : List Int :=shr l q (C.take i) ++ (C.drop i).map fun c => min c l
theorem t8 (l q : Int) (C : List Int) (i : Nat) : (half2 l q C i).length = C.length :=by
 simp [half2,fR]; omega
theorem y9 (l q : Int) {C : List Int} {i : Nat} (h : i < C.length) (h' : i < (half2 l q C i).length) : (half2 l q C i)[i] = min C[i] l :=by
 have hl : (shr l q (C.take i)).length = i :=by rw [fR,List.length_take]; omega
 simp only [half2]
 rw [List.getElem_append_right (by omega)]
 simp [hl]
theorem qS (l q : Int) {C : List Int} {i : Nat} (h : i < C.length) : half2 l q C (i + 1) = (half2 l q C i).set i (share1 l (leftA l q (C.take i)) C[i]) :=by
 have hl : (shr l q (C.take i)).length = i :=by rw [fR,List.length_take]; omega
 unfold half2
 rw [wR h,List.drop_eq_getElem_cons h,List.map_cons,List.set_append_right _ _ (by omega),hl,Nat.sub_self,List.set_cons_zero,List.append_assoc]
 rfl
theorem zK (l q : Int) (C : List Int) (i : Nat) (h : C.length ≤ i ∨ leftA l q (C.take i) = 0) : half2 l q C i = shr l q C :=by
 unfold half2
 rcases h with h | h
 · rw [List.take_of_length_le h,List.drop_of_length_le h]; simp
 · conv => rhs; rw [← List.take_append_drop i C]
   rw [uB,h,wS]
theorem zL (l q : Int) {C : List Int} {i : Nat} (h : i < C.length) (hn : ¬ l < C[i]) : half2 l q C (i + 1) = half2 l q C i :=by
 have h' : i < (half2 l q C i).length :=by rw [t8]; exact h
 have e : share1 l (leftA l q (C.take i)) C[i] = (half2 l q C i)[i] :=by
  rw [y9 l q h h',share1,if_neg (by omega)]
 rw [qS l q h,e,List.set_getElem_self]
set_option maxHeartbeats 4000000 in
set_option maxRecDepth 20000 in
theorem J9 (C : List Int) (hl : C.length ≤ 400) (hok : okC' C = true) (h : Int) (hh : 0 ≤ h) (hs : ¬ sumL C ≤ h) (l0 : Int) (hl0 : isLv C h l0) : Means true Tryz.prog 59 [il C,ii h] (ii l0) :=by
 have hsb :=m9 hok
 have pw : ∀ j : Nat,j ≤ 41 → (2 : Int) ^ j ≤ 2199023255552 ∧ 0 < (2 : Int) ^ j :=fun j hj => by
  have h1 : (2 : Nat) ^ j ≤ 2 ^ 41 :=Nat.pow_le_pow_right (by omega) hj
  have h2 : 0 < (2 : Nat) ^ j :=Nat.pow_pos (by omega)
  have e : ((2 : Nat) ^ j : Nat) = ((2 : Int) ^ j) :=by simp
  have e41 : (2 : Nat) ^ 41 = 2199023255552 :=by decide
  omega
 have half : ∀ j : Nat,(2 : Int) ^ (j + 1) / 2 = 2 ^ j ∧ (2 : Int) ^ (j + 1) = 2 * 2 ^ j :=fun j => by
  rw [Int.pow_succ]; omega
 refine aB true 36 [.tmp 4] Tryz.func59 rfl rfl rfl (by simp) (by decide) rfl fun X hX => ?_
 (repeat (refine a6 q13x3 hX a7 rfl ?_; (simp [go_sem])))
 refine aF (fun z : Int × Nat => ⟨mkE [(0,il C),(1,ii h),(5,ii z.1),(6,ii ((2 : Int) ^ z.2 / 2))],[]⟩) (fun z => z.2 ≤ 41 ∧ 0 ≤ z.1 ∧ z.1 + 2 ^ z.2 ≤ 2199023255552 ∧ fill C z.1 ≤ h ∧ h < fill C (z.1 + 2 ^ z.2)) (fun z => z.2) (0,41) ?_ ?_ ?_
 · refine aA _ [] (by simp [go_sem]) ?_
   simp [go_sem]
 · refine ⟨by omega,by simp,by simp,by rw [gH hok]; exact hh,?_⟩
   simp only []
   rw [iY fun c hc => by have :=hI hok hc; omega]; omega
 · rintro ⟨l,j⟩ ⟨h1,h2,h3,h4,h5⟩
   simp only [] at h1 h2 h3 h4 h5
   cases j with
   | zero =>
     (repeat (refine a6 q13x3 hX a7 rfl ?_; (simp [go_sem])))
     refine a8 (b :=false) (by simp [go_sem]) (fun h => by cases h) (fun _ => ?_)
     have e : l0 = l :=mC hl0 ⟨h2,h4,by simpa using h5⟩
     subst e
     (repeat (refine a6 q13x3 hX a7 rfl ?_; (simp [go_sem])))
   | succ j =>
     obtain ⟨e1,e2⟩ :=half j
     obtain ⟨p1,p2⟩ :=pw j (by omega)
     rw [e2] at h3 h5
     simp only [e1]
     have hq2 : ((2 : Int) ^ j).tdiv 2 = 2 ^ j / 2 :=Int.tdiv_eq_ediv_of_nonneg (by omega)
     obtain ⟨b,hb⟩ : ∃ b,(2 : Int) ^ j = b :=⟨_,rfl⟩
     rw [hb] at h3 h5 p1 p2 hq2 ⊢
     (repeat (refine a6 q13x3 hX a7 rfl ?_; (simp [go_sem])))
     refine a8 (b :=true) (by simp [go_sem]; omega) (fun _ => ?_) (fun h => by cases h)
     (repeat (refine a6 q13x3 hX a7 rfl ?_; (simp [go_sem])))
     have hwb :=w64 (x :=l + b) (by omega) (by omega)
     refine aF (fun k : Nat => ⟨mkE [(0,il C),(1,ii h),(5,ii l),(6,ii b),(7,ii (fill (C.take k) (l + b))),(8,ii k)],[]⟩) (fun k => k ≤ C.length) (fun k => C.length - k) 0 ?_ ?_ ?_
     · refine aA _ [] (by simp [go_sem,fill]) ?_
       simp [go_sem,fill]
     · omega
     · intro k hk
       (repeat (refine a6 q13x3 hX a7 rfl ?_; (simp [go_sem])))
       refine a8 (b :=decide (k < C.length)) (by simp [go_sem]) (fun hc => ?_) (fun hc => ?_)
       · simp at hc
         have e :=rX hc (l + b)
         have f1 :=BN (pJ hok (k + 1)) (show 0 ≤ l + b by omega)
         have f2 :=AN (l + b) (C.take (k + 1))
         have f3 :=m9 (pJ hok (k + 1))
         rw [List.length_take] at f3
         rw [e] at f1 f2
         (repeat (refine a6 q13x3 hX a7 rfl ?_; (simp [go_sem,hc,hwb]; (try simp (disch :=omega) only [w64,td,tm]))))
         refine ⟨k + 1,by omega,by omega,?_⟩
         rw [e]
         refine aA _ [] (by simp [go_sem]) ?_
         simp [go_sem]
       · have hkl : k = C.length :=by simp at hc; omega
         subst hkl
         rw [List.take_length]
         (repeat (refine a6 q13x3 hX a7 rfl ?_; (simp [go_sem])))
         refine a8 (b :=decide (fill C (l + b) ≤ h)) (by simp [go_sem]) (fun hd => ?_) (fun hd => ?_)
         · simp at hd
           (repeat (refine a6 q13x3 hX a7 rfl ?_; (simp [go_sem,hwb,hq2]; (try simp (disch :=omega) only [w64,td,tm]))))
           try (simp [go_sem,hwb,hq2])
           refine ⟨l + b,j,⟨by omega,by omega,by rw [hb]; omega,hd,by rw [hb,show l + b + b = l + 2 * b by omega]; exact h5⟩,by omega,?_⟩
           rw [hb]
           refine aA _ [] (by simp [go_sem]) ?_
           simp [go_sem]
         · simp at hd
           (repeat (refine a6 q13x3 hX a7 rfl ?_; (simp [go_sem,hq2]; (try simp (disch :=omega) only [w64,td,tm]))))
           try (simp [go_sem,hq2])
           refine ⟨l,j,⟨by omega,h2,by rw [hb]; omega,h4,by rw [hb]; omega⟩,by omega,?_⟩
           rw [hb]
           refine aA _ [] (by simp [go_sem]) ?_
           simp [go_sem]
end Go.Proofs.YtknbcehhjffndaaGreat

namespace Go.Proofs.YtknbcehhjffndaaGreat
open Go.RowKit Go.Ab
attribute [local irreducible] AWP Go.Ab.Sub Means MeansH CallK CallG CallT CallGT CallU
theorem GW (C : List Int) (l : Int) : sumL (C.map fun c => min c l) = fill C l :=rfl
set_option maxHeartbeats 8000000 in
set_option maxRecDepth 20000 in
theorem GR (C : List Int) (hC : C.length ≤ 9223372036854775807) (h : Int) : Means true Tryz.prog 24 [il C,ii h] (.tup [il (if rightC C h then share C h else []),ii (if rightC C h then 0 else 1)]) :=by
 cases hr : rightC C h with
 | false =>
   rw [if_neg (by simp),if_neg (by simp)]
   refine aB true 71 [.tmp 4,.tmp 5] Tryz.func24 rfl rfl rfl (by simp) (by decide) rfl fun X hX => ?_
   (repeat (refine a6 q13x1 hX a7 rfl ?_; (simp [go_sem])))
   refine a9 (wN C hC h) ?_
   try (simp [go_sem])
   refine a8 (b :=true) (by simp [go_sem,hr]) (fun _ => ?_) (fun h => by cases h)
   (repeat (refine a6 q13x1 hX a7 rfl ?_; (simp [go_sem])))
 | true =>
   have hr2 :=hr
   simp only [rightC,okH,Bool.and_eq_true,decide_eq_true_eq] at hr2
   obtain ⟨hok,⟨hlen,hh0⟩,hh1⟩ :=hr2
   have hsb :=m9 hok
   have hCb : ∀ x ∈ C,0 ≤ x ∧ x ≤ 1099511627776 :=fun x hx => hI hok hx
   have cS :=AK C (by omega) (fun x hx => by have :=hCb x hx; omega)
   rw [if_pos rfl,if_pos rfl]
   refine aB true 71 [.tmp 4,.tmp 5] Tryz.func24 rfl rfl rfl (by simp) (by decide) rfl fun X hX => ?_
   (repeat (refine a6 q13x1 hX a7 rfl ?_; (simp [go_sem])))
   refine a9 (wN C hC h) ?_
   try (simp [go_sem])
   refine a8 (b :=false) (by simp [go_sem,hr]) (fun h => by cases h) (fun _ => ?_)
   (repeat (refine a6 q13x1 hX a7 rfl ?_; (simp [go_sem])))
   refine a9 (cS) ?_
   try (simp [go_sem])
   by_cases hs : sumL C ≤ h
   · have e : share C h = C :=if_pos hs
     rw [e]
     refine a8 (b :=true) (by simp [go_sem,hs]) (fun _ => ?_) (fun h => by cases h)
     (repeat (refine a6 q13x1 hX a7 rfl ?_; (simp [go_sem])))
     (repeat refine And.intro (by first | omega | (unfold maxLen; omega) | kernel_rfl | (refine ⟨by first | omega | (unfold maxLen; omega),by first | omega | (unfold maxLen; omega)⟩) | grind) ?_)
     (repeat (refine a6 q13x1 hX a7 rfl ?_; (simp [go_sem])))
   · obtain ⟨l,hl⟩ :=JR hok hh0 hs
     have e : share C h = shr l (h - fill C l) C :=by rw [share,if_neg hs,yP hl]
     have hq :=mA hl
     have hl0 :=hl.low
     have hf0 :=BN hok hl0
     have hfl :=hl.le
     have hlt : l < 1099511627776 :=by
      rcases Int.lt_or_le l 1099511627776 with q | q
      · exact q
      · have : fill C l = sumL C :=iY fun c hc => by have :=hI hok hc; omega
        omega
     rw [e]
     obtain ⟨q,hqe⟩ : ∃ q,h - fill C l = q :=⟨_,rfl⟩
     rw [hqe] at hq ⊢
     refine a8 (b :=false) (by simp [go_sem]; omega) (fun h => by cases h) (fun _ => ?_)
     (repeat (refine a6 q13x1 hX a7 rfl ?_; (simp [go_sem])))
     refine a9 (J9 C (by omega) hok h hh0 hs l hl) ?_
     try (simp [go_sem])
     (repeat (refine a6 q13x1 hX a7 rfl ?_; (simp [go_sem])))
     have cM :=AK (C.map fun c => min c l) (by simp; omega) (fun x hx => by
      simp only [List.mem_map] at hx
      obtain ⟨c,hc,rfl⟩ :=hx
      have :=hCb c hc; omega)
     rw [GW] at cM
     have h20 : (C.map fun c => min c l) = half2 l q C 0 :=by simp [half2,shr]
     have hMl : (C.map fun c => min c l).length = C.length :=by simp
     have hMs : ∀ k (hk : k < C.length),(C.map fun c => min c l).take (k + 1) = (C.map fun c => min c l).take k ++ [min C[k] l] :=fun k hk => by
      rw [← List.map_take,← List.map_take]; exact GV hk l
     generalize (C.map fun c => min c l) = M at *
     refine aF (fun k : Nat => ⟨mkE [(0,il C),(1,ii h),(6,ii l),(7,.ow 0),(8,ii k)],[rowI (M.take k)]⟩) (fun k => k ≤ C.length) (fun k => C.length - k) 0 ?_ ?_ ?_
     · refine aA _ [.birth 3 1] (by simp [go_sem]) ?_
       simp [go_sem]
     · omega
     · intro k hk
       have hll : (M.take k).length = k :=by rw [List.length_take]; omega
       (repeat (refine a6 q13x1 hX a7 rfl ?_; (simp [go_sem])))
       refine a8 (b :=decide (k < C.length)) (by simp [go_sem]) (fun hc => ?_) (fun hc => ?_)
       · simp at hc
         have e1 :=hMs k hc
         generalize hD : M.take k = D at *
         (repeat (refine a6 q13x1 hX a7 rfl ?_; (simp [go_sem,hc,hll])))
         (repeat refine And.intro (by first | omega | (unfold maxLen; omega) | kernel_rfl | (refine ⟨by first | omega | (unfold maxLen; omega),by first | omega | (unfold maxLen; omega)⟩) | grind) ?_)
         (repeat (refine a6 q13x1 hX a7 rfl ?_; (simp [go_sem,hc,hll]; (try simp (disch :=omega) only [w64,td,tm]))))
         refine ⟨k + 1,by omega,by omega,?_⟩
         rw [e1]
         refine aA _ [.old 2 ⟨3,1,(D ++ [min C[k] l]).map ii⟩] (by simp [go_sem]) ?_
         simp [go_sem]
         try omega
       · have hkl : k = C.length :=by simp at hc; omega
         subst hkl
         rw [List.take_of_length_le (Nat.le_of_eq hMl)]
         rw [h20] at cM ⊢
         have hwq : IntKind.i64.wrap (h - fill C l) = q :=by rw [w64 (by omega) (by omega)]; exact hqe
         (repeat (refine a6 q13x1 hX a7 rfl ?_; (simp [go_sem])))
         refine a9 (cM) ?_
         try (simp [go_sem,hwq])
         (repeat (refine a6 q13x1 hX a7 rfl ?_; (simp [go_sem,hwq])))
         refine aF (fun i : Nat => ⟨mkE [(0,il C),(6,ii l),(7,.ow 0),(9,ii (leftA l q (C.take i))),(10,ii i)],[rowI (half2 l q C i)]⟩) (fun i => i ≤ C.length) (fun i => C.length - i) 0 ?_ ?_ ?_
         · refine aA _ [.old 0 ⟨3,1,(half2 l q C 0).map ii⟩] (by simp [go_sem,leftA]) ?_
           simp [go_sem,leftA]
         · omega
         · intro i hi
           have hb :=l7 l (C.take i) q hq.1
           have hln :=t8 l q C i
           (repeat (refine a6 q13x1 hX a7 rfl ?_; (simp [go_sem,hln])))
           refine a8 (b :=decide (i < C.length) && decide (0 < leftA l q (C.take i))) (by simp [go_sem,hln]) (fun hd => ?_) (fun hd => ?_)
           · simp at hd
             obtain ⟨hd1,hd2⟩ :=hd
             have hiD : i < (half2 l q C i).length :=by omega
             have hat :=y9 l q hd1 hiD
             have el :=pK (l :=l) (left :=q) hd1
             have es :=qS l q hd1
             have ek :=zL l q hd1
             have hcr :=hCb _ (List.getElem_mem hd1)
             (repeat (refine a6 q13x1 hX a7 rfl ?_; (simp [go_sem,hd1])))
             refine a8 (b :=decide (l < C[i])) (by simp [go_sem,hd1]) (fun hf => ?_) (fun hf => ?_)
             · simp at hf
               rw [if_pos ⟨hf,hd2⟩] at el
               rw [share1,if_pos ⟨hf,hd2⟩] at es
               have hml : min C[i] l = l :=by omega
               rw [hml] at hat
               generalize half2 l q C i = D at *
               (repeat (refine a6 q13x1 hX a7 rfl ?_; (simp [go_sem,hiD,hat]; (try simp (disch :=omega) only [w64,td,tm]))))
               try (simp [go_sem,hiD,hat])
               (repeat refine And.intro (by first | omega | (unfold maxLen; omega) | kernel_rfl | (refine ⟨by first | omega | (unfold maxLen; omega),by first | omega | (unfold maxLen; omega)⟩) | grind) ?_)
               (repeat (refine a6 q13x1 hX a7 rfl ?_; (simp [go_sem,hiD,hat]; (try simp (disch :=omega) only [w64,td,tm]))))
               refine ⟨i + 1,by omega,by omega,?_⟩
               rw [es,el]
               refine aA _ [.old 0 ⟨3,1,(D.set i (l + 1)).map ii⟩] (by simp [go_sem]) ?_
               simp [go_sem]
               try omega
             · simp at hf
               rw [if_neg (by omega),Int.sub_zero] at el
               (repeat (refine a6 q13x1 hX a7 rfl ?_; (simp [go_sem]; (try simp (disch :=omega) only [w64,td,tm]))))
               refine ⟨i + 1,by omega,by omega,?_⟩
               rw [el,ek (by omega)]
               refine aA _ [.old 0 ⟨3,1,(half2 l q C i).map ii⟩] (by simp [go_sem]) ?_
               simp [go_sem]
           · have hdn : half2 l q C i = shr l q C :=zK l q C i (by
              simp at hd
              rcases Nat.lt_or_ge i C.length with h' | h'
              · have :=hd h'; right; omega
              · exact .inl h')
             rw [hdn]
             (repeat (refine a6 q13x1 hX a7 rfl ?_; (simp [go_sem])))
end Go.Proofs.YtknbcehhjffndaaGreat

