/-
  Lemmas for the statement at the top.
-/
import Derived.Test.YthibhamepjhfjaaGreatDoorTeP17
import Derived.Test.YthibhamepjhfjaaGreatDoorTeP14
set_option linter.all false
namespace Go.Proofs.YthibhamepjhfjaaGreatDoor
open Go.RowKit Go.Ab
def q17x0 : List Nat :=[0,1,2,3,8,9,10,11,12,13,14,15,16,17,22,35,39,55,59,70,91,127]
def q17x1 : List Nat :=[0,1,2,3,8,9,10,11,12,13,14,15,20,43,47,48,49,58,59,60,117]
attribute [go_sem] q17x0 q17x1
attribute [local irreducible] AWP Go.Ab.Sub Means MeansH MeansX CallK CallG CallT CallGT CallU
abbrev okFr (x : Fr) : Prop :=isF x.s1 x.L1 x.s2 x.L2
abbrev szFr (x : Fr) : Prop :=x.L1.length ≤ 100000 ∧ x.L2.length ≤ 100000
theorem sC {x : Fr} (h : okFr x) : ∃ r,rq r ∧ frR r = x :=by
 obtain ⟨p,q,h1,e1,e2,e3,e4⟩ :=yG h
 obtain ⟨r,hr,rfl,hq⟩ :=L4 h1
 refine ⟨r,hr,?_⟩
 obtain ⟨s1,L1,s2,L2⟩ :=x
 simp only at e1 e2 e3 e4
 subst e1 e2 e3 e4
 unfold frR; rw [hq]
noncomputable def toQ (x : Fr) : Rat :=@dite _ (okFr x) (Classical.propDecidable _) (fun h => Classical.choose (sC h)) (fun _ => 0)
theorem o8 {x : Fr} (h : okFr x) : rq (toQ x) ∧ frR (toQ x) = x :=by
 unfold toQ; rw [dif_pos h]; exact Classical.choose_spec (sC h)
theorem FT {r : Rat} (h : rq r) : okFr (frR r) :=yH (dL h)
theorem HN {a b : Rat} (h : frR a = frR b) : a = b :=by
 have h1 :=congrArg (fun x : Fr => zv x.s1 x.L1) h
 have h2 :=congrArg (fun x : Fr => zv x.s2 x.L2) h
 simp only [frR,eE] at h1 h2
 exact FB h1 h2
theorem G1 {r : Rat} (h : rq r) : toQ (frR r) = r :=HN (o8 (FT h)).2
theorem KB {L : List Fr} (h : ∀ x ∈ L,okFr x) : (L.map toQ).map frR = L :=by
 rw [List.map_map]
 conv => rhs; rw [← List.map_id L]
 exact List.map_congr_left fun x hx => (o8 (h x hx)).2
theorem uA {L : List Fr} (h : ∀ x ∈ L,okFr x) : L.map fv = (L.map toQ).map frq :=by
 conv => lhs; rw [← KB h]
 rw [List.map_map]; rfl
theorem xF (xs : List Rat) : (xs.map frR).map fv = xs.map frq :=by rw [List.map_map]; rfl
theorem FU (x : Fr) (h : szFr x) : Means false Tryz.prog 55 [fv x] (bb (!decide (okFr x))) :=by
 have c1 :=j2 x.s1 x.L1 (by omega) x.s2 x.L2 (by omega)
 refine aF false 6 [.tmp 2] Tryz.func55 rfl rfl rfl (by simp) (by decide) rfl fun X hX => ?_
 (repeat (refine a7 [0,1,2] hX mixed rfl ?_;simp [go_sem];try refine ⟨by kernel_rfl,?_⟩))
 first | refine a8 (c1) ?_ | refine aA (c1) ?_
 try (simp [go_sem];try refine ⟨by kernel_rfl,?_⟩)
 (repeat (refine a7 [0,1,2] hX mixed rfl ?_;simp [go_sem];try refine ⟨by kernel_rfl,?_⟩))
theorem AQ (L : List Fr) (hl : L.length ≤ 9223372036854775807) (h : ∀ x ∈ L,szFr x) : Means false Tryz.prog 56 [.sl (L.map fv),.v (.func (.func 55) #[] #[])] (bb (L.any fun x => !decide (okFr x))) :=
 zY 55 (fun x => !decide (okFr x)) L hl (fun b hb => FU b (h b hb)) (by kernel_rfl)
def chkP (own : List Int) (S : List (List Int)) (A K : List Fr) : Prop :=A.length = own.length ∧ K.length = own.length ∧ (∀ x ∈ A,okFr x) ∧ (∀ x ∈ K,okFr x) ∧ chkQ own S (A.map toQ) (K.map toQ)
noncomputable instance (own : List Int) (S : List (List Int)) (A K : List Fr) : Decidable (chkP own S A K) :=Classical.propDecidable _
noncomputable def chkE (own : List Int) (S : List (List Int)) (A K : List Fr) : Int :=if badP own S = 0 then (if chkP own S A K then 0 else 21) else badP own S
theorem xD {own : List Int} {S : List (List Int)} (h : badP own S = 0) : PV own S :=by
 unfold badP at h
 split at h
 · split at h
   · assumption
   · cases h
 · cases h
theorem mV {own : List Int} {S : List (List Int)} (hf : fewP own S) : ∀ l ∈ S,l.length ≤ 9223372036854775807 :=fun l hl => by
 obtain ⟨k,hk,rfl⟩ :=List.getElem_of_mem hl
 have :=hf.2.2 k hk
 rw [u9 hk] at this
 omega
theorem rZ {L : List Fr} : (L.any fun x => !decide (okFr x)) = false ↔ ∀ x ∈ L,okFr x :=by
 rw [List.any_eq_false]
 constructor
 · intro h x hx; have :=h x hx; simpa using this
 · intro h x hx; simpa using h x hx
set_option maxHeartbeats 8000000 in
set_option maxRecDepth 20000 in
theorem yU (own : List Int) (S : List (List Int)) (hf : fewP own S) (A K : List Fr) (hlA : A.length ≤ 1000) (hlK : K.length ≤ 1000) (hA : ∀ x ∈ A,szFr x) (hK : ∀ x ∈ K,szFr x) (hb : ∀ x ∈ A,okFr x → bt 310 (toQ x).num ∧ bt 160 (toQ x).den) :
  Means false Tryz.prog 18 [il own,ill S,.sl (A.map fv),.sl (K.map fv)] (ii (chkE own S A K)) :=by
 have h6 :=hf.1
 by_cases h0 : badP own S = 0
 · have hv :=xD h0
   have e0 : chkE own S A K = if chkP own S A K then 0 else 21 :=if_pos h0
   rw [e0]
   by_cases hc : A.length = own.length ∧ K.length = own.length ∧ (∀ x ∈ A,okFr x) ∧ (∀ x ∈ K,okFr x)
   · obtain ⟨h1,h2,h3,h4⟩ :=hc
     have :=AK own S hv h6 (A.map toQ) (K.map toQ) (by simpa using h1) (by simpa using h2) (fun x hx => by
      obtain ⟨y,hy,rfl⟩ :=List.mem_map.1 hx
      exact hb y hy (h3 y hy)) (fun x hx => by
      obtain ⟨y,hy,rfl⟩ :=List.mem_map.1 hx
      exact (o8 (h4 y hy)).1)
     rw [uA h3,uA h4]
     have e : (if chkP own S A K then (0 : Int) else 21) = if chkQ own S (A.map toQ) (K.map toQ) then 0 else 21 :=by
      by_cases hq : chkQ own S (A.map toQ) (K.map toQ)
      · rw [if_pos hq,if_pos ⟨h1,h2,h3,h4,hq⟩]
      · rw [if_neg hq,if_neg fun h => hq h.2.2.2.2]
     rw [e]; exact this
   · rw [if_neg fun h : chkP own S A K => hc ⟨h.1,h.2.1,h.2.2.1,h.2.2.2.1⟩]
     have c1 :=fE own S (by omega) (by have :=hf.2.1; omega) (mV hf)
     rw [h0] at c1
     have c2 :=AQ A (by omega) hA
     have c3 :=AQ K (by omega) hK
     have z1 :=rZ (L :=A)
     have z2 :=rZ (L :=K)
     generalize (A.any fun x => !decide (okFr x)) = ba at *
     generalize (K.any fun x => !decide (okFr x)) = bk at *
     refine aF false 119 [.tmp 8] Tryz.func18 rfl rfl rfl (by simp) (by decide) rfl fun X hX => ?_
     (repeat (refine a7 q17x1 hX mixed rfl ?_;simp [go_sem];try refine ⟨by kernel_rfl,?_⟩))
     first | refine a8 (c1) ?_ | refine aA (c1) ?_
     try (simp [go_sem];try refine ⟨by kernel_rfl,?_⟩)
     (repeat (refine a7 q17x1 hX mixed rfl ?_;simp [go_sem];try refine ⟨by kernel_rfl,?_⟩))
     refine aC (by simp [go_sem]) ?_
     (repeat (refine a7 q17x1 hX mixed rfl ?_;simp [go_sem];try refine ⟨by kernel_rfl,?_⟩))
     first | refine aP (fun hg => c2) ?_ | refine aM (fun hg => c2) ?_
     try (simp [go_sem];try refine ⟨by kernel_rfl,?_⟩)
     first | refine aP (fun hg => c3) ?_ | refine aM (fun hg => c3) ?_
     try (simp [go_sem];try refine ⟨by kernel_rfl,?_⟩)
     refine aB (b :=true) ?_ (fun _ => ?_) (fun h => by cases h)
     · simp only [← z1,← z2] at hc
       cases ba <;> cases bk <;> simp [go_sem] at hc ⊢ <;> omega
     · (repeat (refine a7 q17x1 hX mixed rfl ?_;simp [go_sem];try refine ⟨by kernel_rfl,?_⟩))
 · have e0 : chkE own S A K = badP own S :=if_neg h0
   rw [e0]
   have c1 :=fE own S (by omega) (by have :=hf.2.1; omega) (mV hf)
   generalize badP own S = e at *
   refine aF false 119 [.tmp 8] Tryz.func18 rfl rfl rfl (by simp) (by decide) rfl fun X hX => ?_
   (repeat (refine a7 q17x1 hX mixed rfl ?_;simp [go_sem];try refine ⟨by kernel_rfl,?_⟩))
   first | refine a8 (c1) ?_ | refine aA (c1) ?_
   try (simp [go_sem];try refine ⟨by kernel_rfl,?_⟩)
   (repeat (refine a7 q17x1 hX mixed rfl ?_;simp [go_sem];try refine ⟨by kernel_rfl,?_⟩))
   refine aK (by simp [go_sem]; omega) ?_
   (repeat (refine a7 q17x1 hX mixed rfl ?_;simp [go_sem];try refine ⟨by kernel_rfl,?_⟩))
theorem mS {a b : Rat} (ha : rq a) (hb : rq b) : Means false Tryz.prog 52 [frq a,frq b] (bb (decide (a = b))) :=by
 have :=HA a.num a.den b.num b.den ha.1 ha.2 hb.1 hb.2
 have e : (a.num = b.num ∧ (a.den : Int) = b.den) ↔ a = b :=⟨fun h => FB h.1 h.2,fun h => by subst h; exact ⟨rfl,rfl⟩⟩
 rwa [show decide (a.num = b.num ∧ (a.den : Int) = b.den) = decide (a = b) from decide_eq_decide.2 e] at this
set_option maxHeartbeats 8000000 in
set_option maxRecDepth 20000 in
theorem uO (own : List Int) (S : List (List Int)) (hf : fewP own S) (A K : List Fr) (hlA : A.length ≤ 1000) (hlK : K.length ≤ 1000) (hA : ∀ x ∈ A,szFr x) (hK : ∀ x ∈ K,szFr x) (hbA : ∀ x ∈ A,okFr x → bt 310 (toQ x).num ∧ bt 160 (toQ x).den) :
  Means false Tryz.prog 19 [il own,ill S,.sl (A.map fv),.sl (K.map fv)] (ii (chkE own S A K)) :=by
 have h6 :=hf.1
 have c1 :=xB own S (by omega) (by have :=hf.2.1; omega)
 by_cases h0 : badP own S = 0
 · have hv :=xD h0
   have e0 : chkE own S A K = if chkP own S A K then 0 else 21 :=if_pos h0
   rw [e0]
   rw [h0] at c1
   have hSl :=hv.len
   have hcl : chkP own S A K → A.length = own.length ∧ K.length = own.length :=fun h => ⟨h.1,h.2.1⟩
   have hcr : chkP own S A K → (∀ x ∈ A,okFr x) ∧ (∀ x ∈ K,okFr x) :=fun h => ⟨h.2.2.1,h.2.2.2.1⟩
   have hcq : (A.length = own.length ∧ K.length = own.length) → (∀ x ∈ A,okFr x) ∧ (∀ x ∈ K,okFr x) → (chkP own S A K ↔ chkQ own S (A.map toQ) (K.map toQ)) :=fun h1 h2 => ⟨fun h => h.2.2.2.2,fun h => ⟨h1.1,h1.2,h2.1,h2.2,h⟩⟩
   obtain ⟨V,hV⟩ : ∃ V,(if chkP own S A K then (0 : Int) else 21) = V :=⟨_,rfl⟩
   have hV0 : chkP own S A K → V = 0 :=fun h => by rw [← hV,if_pos h]
   have hV1 : ¬ chkP own S A K → V = 21 :=fun h => by rw [← hV,if_neg h]
   rw [hV]
   clear hV e0
   generalize chkP own S A K = C at *
   refine aF false 128 [.tmp 8] Tryz.func19 rfl rfl rfl (by simp) (by decide) rfl fun X hX => ?_
   (repeat (refine a7 q17x0 hX mixed rfl ?_;simp [go_sem];try refine ⟨by kernel_rfl,?_⟩))
   first | refine a8 (c1) ?_ | refine aA (c1) ?_
   try (simp [go_sem];try refine ⟨by kernel_rfl,?_⟩)
   (repeat (refine a7 q17x0 hX mixed rfl ?_;simp [go_sem];try refine ⟨by kernel_rfl,?_⟩))
   refine aC (by simp [go_sem]) ?_
   (repeat (refine a7 q17x0 hX mixed rfl ?_;simp [go_sem];try refine ⟨by kernel_rfl,?_⟩))
   by_cases hlen : A.length = own.length ∧ K.length = own.length
   · refine aC (by simp [go_sem,hlen.1,hlen.2]) ?_
     obtain ⟨hAl,hKl⟩ :=hlen
     (repeat (refine a7 q17x0 hX mixed rfl ?_;simp [go_sem];try refine ⟨by kernel_rfl,?_⟩))
     refine aH (fun i : Nat => ⟨mkE [(0,il own),(1,ill S),(2,.sl (A.map fv)),(3,.sl (K.map fv)),(10,ii i)],[]⟩) (fun i => i ≤ own.length ∧ (∀ k (h : k < A.length),k < i → okFr A[k]) ∧ (∀ k (h : k < K.length),k < i → okFr K[k])) (fun i => own.length - i) 0 ?_ ?_ ?_
     · refine aG _ [] (by simp [go_sem]) ?_
       simp [go_sem]
     · exact ⟨by omega,fun k _ hk => by omega,fun k _ hk => by omega⟩
     · rintro i ⟨hi,hpA,hpK⟩
       (repeat (refine a7 q17x0 hX mixed rfl ?_;simp [go_sem];try refine ⟨by kernel_rfl,?_⟩))
       refine aB (b :=decide (i < own.length)) (by simp [go_sem]) (fun hb => ?_) (fun hb => ?_)
       · simp only [decide_eq_true_eq] at hb
         have wi :=w64 (x :=(i : Int) + 1) (by omega) (by omega)
         have hiA : i < A.length :=by omega
         have hiK : i < K.length :=by omega
         have q1 :=sB hiA
         have q2 :=sB hiK
         have sA :=hA _ (List.getElem_mem hiA)
         have sK :=hK _ (List.getElem_mem hiK)
         have r1 : Means false Tryz.prog 47 [fv A[i]] (bb (decide (okFr A[i]))) :=kC A[i].s1 A[i].L1 (by omega) A[i].s2 A[i].L2 (by omega)
         have r2 : Means false Tryz.prog 47 [fv K[i]] (bb (decide (okFr K[i]))) :=kC K[i].s1 K[i].L1 (by omega) K[i].s2 K[i].L2 (by omega)
         have hmA : decide (okFr A[i]) = false → ¬ C :=fun h h' => of_decide_eq_false h ((hcr h').1 _ (List.getElem_mem hiA))
         have hmK : decide (okFr K[i]) = false → ¬ C :=fun h h' => of_decide_eq_false h ((hcr h').2 _ (List.getElem_mem hiK))
         have hpA2 : decide (okFr A[i]) = true → ∀ k (h : k < A.length),k < i + 1 → okFr A[k] :=fun h k hk hki => by
          by_cases e : k = i
          · subst e; exact of_decide_eq_true h
          · exact hpA k hk (by omega)
         have hpK2 : decide (okFr K[i]) = true → ∀ k (h : k < K.length),k < i + 1 → okFr K[k] :=fun h k hk hki => by
          by_cases e : k = i
          · subst e; exact of_decide_eq_true h
          · exact hpK k hk (by omega)
         generalize decide (okFr A[i]) = pa at *
         generalize decide (okFr K[i]) = pk at *
         generalize A[i] = fa at *
         generalize K[i] = fk at *
         obtain ⟨u1,u2,u3,u4⟩ :=fa
         obtain ⟨v1,v2,v3,v4⟩ :=fk
         (repeat (refine a7 q17x0 hX mixed rfl ?_;simp [go_sem,hiA,hiK,q1,q2];try refine ⟨by kernel_rfl,?_⟩))
         first | refine a8 (r1) ?_ | refine aA (r1) ?_
         try (simp [go_sem,hiA,hiK,q1,q2];try refine ⟨by kernel_rfl,?_⟩)
         first | refine aP (fun hg => r2) ?_ | refine aM (fun hg => r2) ?_
         try (simp [go_sem,hiA,hiK,q1,q2];try refine ⟨by kernel_rfl,?_⟩)
         refine aB (b :=!(pa && pk)) (by cases pa <;> cases pk <;> simp [go_sem]) (fun hd => ?_) (fun hd => ?_)
         · have e : ¬ C :=by
            cases pa
            · exact hmA rfl
            · cases pk
              · exact hmK rfl
              · cases hd
           rw [hV1 e]
           (repeat (refine a7 q17x0 hX mixed rfl ?_;simp [go_sem];try refine ⟨by kernel_rfl,?_⟩))
         · have e : pa = true ∧ pk = true :=by cases pa <;> cases pk <;> simp at hd ⊢
           (repeat (refine a7 q17x0 hX mixed rfl ?_;simp [go_sem,wi];try refine ⟨by kernel_rfl,?_⟩))
           refine ⟨i + 1,⟨by omega,hpA2 e.1,hpK2 e.2⟩,by omega,?_⟩
           refine aG _ [] (by simp [go_sem]) ?_
           simp [go_sem]
       · simp only [decide_eq_false_iff_not] at hb
         have hin : i = own.length :=by omega
         subst hin
         have rA : ∀ x ∈ A,okFr x :=fun x hx => by
          obtain ⟨k,hk,rfl⟩ :=List.getElem_of_mem hx
          exact hpA k hk (by omega)
         have rK : ∀ x ∈ K,okFr x :=fun x hx => by
          obtain ⟨k,hk,rfl⟩ :=List.getElem_of_mem hx
          exact hpK k hk (by omega)
         rw [uA rA,uA rK]
         have hcq2 :=hcq ⟨hAl,hKl⟩ ⟨rA,rK⟩
         have hx : ∀ x ∈ A.map toQ,bt 310 x.num ∧ bt 160 x.den :=fun x hx => by
          obtain ⟨y,hy,rfl⟩ :=List.mem_map.1 hx
          exact hbA y hy (rA y hy)
         have hy : ∀ x ∈ K.map toQ,rq x :=fun x hx => by
          obtain ⟨y,hy,rfl⟩ :=List.mem_map.1 hx
          exact (o8 (rK y hy)).1
         have hxl : (A.map toQ).length = own.length :=by rw [List.length_map]; exact hAl
         have hyl : (K.map toQ).length = own.length :=by rw [List.length_map]; exact hKl
         clear hcq hcr hcl hpA hpK hbA hA hK rA rK hAl hKl hlA hlK
         generalize A.map toQ = xs at *
         generalize K.map toQ = ys at *
         have hxq : ∀ x ∈ xs,rq x :=fun x hx' => hI (hx x hx').1 (hx x hx').2 (by omega) (by omega)
         have hC : V = if chkQ own S xs ys then 0 else 21 :=by
          by_cases h : chkQ own S xs ys
          · rw [if_pos h,hV0 (hcq2.2 h)]
          · rw [if_neg h,hV1 fun h' => h (hcq2.1 h')]
         rw [hC]
         clear hC hcq2
         (repeat (refine a7 q17x0 hX mixed rfl ?_;simp [go_sem];try refine ⟨by kernel_rfl,?_⟩))
         refine aH (fun i : Nat => ⟨mkE [(0,il own),(1,ill S),(2,fql xs),(3,fql ys),(11,ii i)],[]⟩) (fun i => i ≤ own.length ∧ chkTo own S xs ys i) (fun i => own.length - i) 0 ?_ ?_ ?_
         · refine aG _ [] (by simp [go_sem]) ?_
           simp [go_sem]
         · exact ⟨by omega,fun k hk => by omega⟩
         · rintro i ⟨hi,hp⟩
           (repeat (refine a7 q17x0 hX mixed rfl ?_;simp [go_sem];try refine ⟨by kernel_rfl,?_⟩))
           refine aB (b :=decide (i < own.length)) (by simp [go_sem]) (fun hb => ?_) (fun hb => ?_)
           · simp only [decide_eq_true_eq] at hb
             have wi :=w64 (x :=(i : Int) + 1) (by omega) (by omega)
             have q1 :=cX hb
             have hw :=hv.w i hb
             rw [show wO own i = own[i] from bS hb] at hw
             have k1 :=lX own[i] (by omega)
             rw [show own[i] = wO own i from (bS hb).symm] at k1 q1
             (repeat (refine a7 q17x0 hX mixed rfl ?_;simp [go_sem,hb,q1];try refine ⟨by kernel_rfl,?_⟩))
             first | refine a8 (k1) ?_ | refine aA (k1) ?_
             try (simp [go_sem,hb,q1];try refine ⟨by kernel_rfl,?_⟩)
             (repeat (refine a7 q17x0 hX mixed rfl ?_;simp [go_sem];try refine ⟨by kernel_rfl,?_⟩))
             refine aH (fun j : Nat => ⟨mkE [(0,il own),(1,ill S),(2,fql xs),(3,fql ys),(11,ii i),(12,.el 0 4 0 0),(13,ii j)],[.row ⟨41,4,[frq (psum own S xs i j)]⟩]⟩) (fun j => j ≤ own.length) (fun j => own.length - j) 0 ?_ ?_ ?_
             · rw [yM]
               refine aG _ [.old 0 ⟨41,4,[frq ((wO own i : Int) : Rat)]⟩] (by simp [go_sem]) ?_
               simp [go_sem]
             · omega
             · intro j hj
               (repeat (refine a7 q17x0 hX mixed rfl ?_;simp [go_sem];try refine ⟨by kernel_rfl,?_⟩))
               refine aB (b :=decide (j < own.length)) (by simp [go_sem]) (fun hc => ?_) (fun hc => ?_)
               · simp only [decide_eq_true_eq] at hc
                 have wj :=w64 (x :=(j : Int) + 1) (by omega) (by omega)
                 have hjS : j < S.length :=by omega
                 have hjx : j < xs.length :=by omega
                 have hlr :=hv.row S[j] (List.getElem_mem hjS)
                 have hij2 : i < S[j].length :=by omega
                 have p1 :=dW (L :=S) hjS
                 have p2 :=cX hij2
                 have p3 :=dD hjx
                 have hso : S[j][i] = sO S j i :=by
                  unfold sO
                  rw [List.getD_eq_getElem?_getD (l :=S),List.getElem?_eq_getElem hjS]
                  exact (bS hij2).symm
                 rw [hso] at p2
                 have hsb :=hv.s j i hc hb
                 obtain ⟨o1,o2⟩ :=A5 hv.toPR h6 hx hxl hb hc
                 have hps :=lU own S xs i j
                 obtain ⟨u1,u2⟩ :=jF hv.toPR hx hxl hb j (by omega)
                 have k2 :=uX (sO S j i) 1000 (by omega) (by decide) (by decide)
                 have k3 :=z7 (hI u1 u2 (by omega) (by omega)) (d8 hjx hxq) (jL (p :=sO S j i) (q :=1000) (by omega) (by decide) (by decide)) o1 o2
                 rw [← hps] at k3
                 clear u1 u2 o1 o2 hps
                 obtain ⟨pj1,hpj1⟩ : ∃ q,psum own S xs i (j + 1) = q :=⟨_,rfl⟩
                 rw [hpj1] at k3
                 generalize psum own S xs i j = pj at *
                 generalize xs.getD j 0 = xj at *
                 generalize ((sO S j i : Int) : Rat) / ((1000 : Int) : Rat) = sr at *
                 (repeat (refine a7 q17x0 hX mixed rfl ?_;simp [go_sem,hjS,hjx,hij2,p1,p2,p3];try refine ⟨by kernel_rfl,?_⟩))
                 first | refine a8 (k2) ?_ | refine aA (k2) ?_
                 try (simp [go_sem,hjS,hjx,hij2,p1,p2,p3];try refine ⟨by kernel_rfl,?_⟩)
                 try (repeat refine And.intro (by first | omega | (unfold maxLen;omega) | kernel_rfl | (constructor <;> first | omega | (unfold maxLen;omega)) | grind) ?_)
                 first | refine a8 (k3) ?_ | refine aA (k3) ?_
                 try (simp [go_sem,hjS,hjx,hij2,p1,p2,p3];try refine ⟨by kernel_rfl,?_⟩)
                 try (repeat refine And.intro (by first | omega | (unfold maxLen;omega) | kernel_rfl | (constructor <;> first | omega | (unfold maxLen;omega)) | grind) ?_)
                 try (repeat (refine a7 q17x0 hX mixed rfl ?_;simp [go_sem];try refine ⟨by kernel_rfl,?_⟩))
                 refine aC (by simp [go_sem]) ?_
                 (repeat (refine a7 q17x0 hX mixed rfl ?_;simp [go_sem,wj];try refine ⟨by kernel_rfl,?_⟩))
                 refine ⟨j + 1,by omega,by omega,?_⟩
                 rw [hpj1]
                 refine aG _ [.old 0 ⟨41,4,[frq pj1]⟩] (by simp [go_sem]) ?_
                 simp [go_sem]
               · simp only [decide_eq_false_iff_not] at hc
                 have hjn : j = own.length :=by omega
                 subst hjn
                 have hiS : i < S.length :=by omega
                 have hix : i < xs.length :=by omega
                 have hiy : i < ys.length :=by omega
                 have p1 :=dW (L :=S) hiS
                 have p3 :=dD hix
                 have p4 :=dD hiy
                 have hpr :=dN hv.toPR (List.getElem_mem hiS)
                 have hgv :=oL S[i] (by omega) hpr.2
                 have hgd : S.getD i [] = S[i] :=by rw [List.getD_eq_getElem?_getD,List.getElem?_eq_getElem hiS]; rfl
                 obtain ⟨hgb,o1⟩ :=A6 hv hx hxl hb
                 obtain ⟨u1,u2⟩ :=jF hv.toPR hx hxl hb own.length (Nat.le_refl _)
                 have hpq :=hI u1 u2 (by omega) (by omega)
                 rw [← hgd] at hgv
                 have hst : chkQ own S xs ys → _ :=fun h => h i hb
                 have hin : chkTo own S xs ys i → (psum own S xs i own.length = xs.getD i 0 ∧ xs.getD i 0 * (((1000 - sumI (S.getD i []) : Int) : Rat) / ((1000 : Int) : Rat)) = ys.getD i 0) → chkTo own S xs ys (i + 1) :=fun h1 h2 k hk => by
                  by_cases e : k = i
                  · subst e; exact h2
                  · exact h1 k (by omega)
                 have k2 :=uX (1000 - sumI (S.getD i [])) 1000 (by omega) (by decide) (by decide)
                 have k3 :=sM (d8 hix hxq) (jL (p :=1000 - sumI (S.getD i [])) (q :=1000) (by omega) (by decide) (by decide)) o1
                 have m1 :=mS hpq (d8 hix hxq)
                 have m2 :=mS (oJ o1) (d8 hiy hy)
                 have ws :=w64 (x :=1000 - sumI (S.getD i [])) (by omega) (by omega)
                 rw [← hgd] at p1
                 have hSi : nth (S.map il) i = il (S.getD i []) :=p1
                 clear p1 hgd hpr u1 u2
                 generalize psum own S xs i own.length = pn at *
                 generalize xs.getD i 0 = xi at *
                 generalize ys.getD i 0 = yi at *
                 generalize hgs : sumI (S.getD i []) = gs at *
                 generalize S.getD i [] = Si at *
                 generalize hpt : xi * (((1000 - gs : Int) : Rat) / ((1000 : Int) : Rat)) = pt at *
                 generalize ((1000 - gs : Int) : Rat) / ((1000 : Int) : Rat) = gr at *
                 (repeat (refine a7 q17x0 hX mixed rfl ?_;simp [go_sem,hiS,hix,hSi,p3];try refine ⟨by kernel_rfl,?_⟩))
                 first | refine a8 (hgv) ?_ | refine aA (hgv) ?_
                 try (simp [go_sem,hiS,hix,hSi,p3,ws];try refine ⟨by kernel_rfl,?_⟩)
                 try (repeat refine And.intro (by first | omega | (unfold maxLen;omega) | kernel_rfl | (constructor <;> first | omega | (unfold maxLen;omega)) | grind) ?_)
                 first | refine a8 (k2) ?_ | refine aA (k2) ?_
                 try (simp [go_sem,hiS,hix,hSi,p3];try refine ⟨by kernel_rfl,?_⟩)
                 try (repeat refine And.intro (by first | omega | (unfold maxLen;omega) | kernel_rfl | (constructor <;> first | omega | (unfold maxLen;omega)) | grind) ?_)
                 first | refine a8 (k3) ?_ | refine aA (k3) ?_
                 try (simp [go_sem,hiS,hix,hSi,p3];try refine ⟨by kernel_rfl,?_⟩)
                 try (repeat refine And.intro (by first | omega | (unfold maxLen;omega) | kernel_rfl | (constructor <;> first | omega | (unfold maxLen;omega)) | grind) ?_)
                 (repeat (refine a7 q17x0 hX mixed rfl ?_;simp [go_sem,hiS,hix,hiy,p3,p4];try refine ⟨by kernel_rfl,?_⟩))
                 first | refine aP (fun hg => m1) ?_ | refine aM (fun hg => m1) ?_
                 try (simp [go_sem,hiS,hix,hiy,p3,p4];try refine ⟨by kernel_rfl,?_⟩)
                 first | refine aP (fun hg => m2) ?_ | refine aM (fun hg => m2) ?_
                 try (simp [go_sem,hiS,hix,hiy,p3,p4];try refine ⟨by kernel_rfl,?_⟩)
                 refine aB (b :=!decide (pn = xi ∧ pt = yi)) (by by_cases z1 : pn = xi <;> by_cases z2 : pt = yi <;> simp [go_sem,z1,z2]) (fun hd => ?_) (fun hd => ?_)
                 · have e : ¬ chkQ own S xs ys :=fun h => by
                    have :=hst h
                    simp [this] at hd
                   rw [if_neg e]
                   (repeat (refine a7 q17x0 hX mixed rfl ?_;simp [go_sem];try refine ⟨by kernel_rfl,?_⟩))
                 · simp only [Bool.not_eq_false',decide_eq_true_eq] at hd
                   (repeat (refine a7 q17x0 hX mixed rfl ?_;simp [go_sem,wi];try refine ⟨by kernel_rfl,?_⟩))
                   refine ⟨i + 1,⟨by omega,hin hp hd⟩,by omega,?_⟩
                   refine aG _ [] (by simp [go_sem]) ?_
                   simp [go_sem]
           · simp only [decide_eq_false_iff_not] at hb
             have hin : i = own.length :=by omega
             subst hin
             have e : chkQ own S xs ys :=hp
             rw [if_pos e]
             (repeat (refine a7 q17x0 hX mixed rfl ?_;simp [go_sem];try refine ⟨by kernel_rfl,?_⟩))
   · have e : ¬ C :=fun h => hlen (hcl h)
     rw [hV1 e]
     refine aK (by simp [go_sem]; omega) ?_
     (repeat (refine a7 q17x0 hX mixed rfl ?_;simp [go_sem];try refine ⟨by kernel_rfl,?_⟩))
 · have e0 : chkE own S A K = badP own S :=if_neg h0
   rw [e0]
   generalize badP own S = e at *
   refine aF false 128 [.tmp 8] Tryz.func19 rfl rfl rfl (by simp) (by decide) rfl fun X hX => ?_
   (repeat (refine a7 q17x0 hX mixed rfl ?_;simp [go_sem];try refine ⟨by kernel_rfl,?_⟩))
   first | refine a8 (c1) ?_ | refine aA (c1) ?_
   try (simp [go_sem];try refine ⟨by kernel_rfl,?_⟩)
   (repeat (refine a7 q17x0 hX mixed rfl ?_;simp [go_sem];try refine ⟨by kernel_rfl,?_⟩))
   refine aK (by simp [go_sem]; omega) ?_
   (repeat (refine a7 q17x0 hX mixed rfl ?_;simp [go_sem];try refine ⟨by kernel_rfl,?_⟩))
end Go.Proofs.YthibhamepjhfjaaGreatDoor

namespace Go.Proofs.YthibhamepjhfjaaGreatDoor
end Go.Proofs.YthibhamepjhfjaaGreatDoor

namespace Go.Proofs.YthibhamepjhfjaaGreatDoor
def took (n : Nat) (O : List Int) : List Bool :=(List.range n).map fun i : Nat => decide ((i : Int) ∈ O)
theorem CV (n : Nat) (O : List Int) : (took n O).length = n :=by simp [took]
theorem mT {n : Nat} {O : List Int} {i : Nat} (h : i < (took n O).length) : (took n O)[i] = decide ((i : Int) ∈ O) :=by simp [took]
theorem B0 (n : Nat) : took n [] = List.replicate n false :=by
 apply List.ext_getElem
 · simp [took]
 · intro i h1 h2; rw [mT h1]; simp
theorem B1 {n : Nat} {O : List Int} {j b : Nat} (hj : j < O.length) (h : O[j] = (b : Int)) : took n (O.take (j + 1)) = (took n (O.take j)).set b true :=by
 apply List.ext_getElem
 · simp [took]
 · intro i h1 h2
   rw [mT h1,List.getElem_set]
   rw [List.length_set] at h2
   rw [mT h2,List.take_succ_eq_append_getElem hj,h]
   by_cases e : b = i
   · subst e; simp
   · rw [if_neg e]
     have : ¬ (i : Int) = b :=by omega
     simp [this]
theorem AZ {R : List Int} {O : List Int} (hO : O = srt (kR R) (idxI R.length)) {k : Nat} (hk : k < O.length) {b : Nat} (hb : b < R.length) (hnb : ¬ (b : Int) ∈ O.take k)
  (h1 : ∀ j (hj : j < R.length),¬ (j : Int) ∈ O.take k → R[j] ≤ R[b]) (h2 : ∀ j (hj : j < R.length),j < b → ¬ (j : Int) ∈ O.take k → R[j] < R[b]) : O[k] = (b : Int) :=by
 have hp : O.Perm (idxI R.length) :=by rw [hO]; exact eY _ _
 have hnd : O.Nodup :=hp.symm.nodup (gH _)
 have hmem : ∀ x,x ∈ O ↔ 0 ≤ x ∧ x < R.length :=fun x => by rw [hp.mem_iff]; exact gY
 have hsrt : O.Pairwise (bef (kR R)) :=by rw [hO]; exact pZ (gH _)
 have hx :=(hmem O[k]).1 (List.getElem_mem hk)
 obtain ⟨m,hm⟩ : ∃ m,(O[k]).toNat = m :=⟨_,rfl⟩
 have hmx : (m : Int) = O[k] :=by omega
 have hmR : m < R.length :=by omega
 have hnot : (m : Int) ∉ O.take k :=by
  intro q
  obtain ⟨j,hj,e⟩ :=List.getElem_of_mem q
  rw [List.getElem_take,hmx] at e
  have hjk : j < k :=by rw [List.length_take] at hj; omega
  exact absurd e (List.pairwise_iff_getElem.1 hnd j k (by omega) hk hjk)
 have hle :=h1 m hmR hnot
 have hbO : (b : Int) ∈ O :=(hmem b).2 ⟨by omega,by omega⟩
 obtain ⟨j,hj,e⟩ :=List.getElem_of_mem hbO
 rcases Nat.lt_trichotomy j k with q | q | q
 · exact absurd (by rw [← e]; exact List.mem_take_iff_getElem.2 ⟨j,by omega,rfl⟩) hnb
 · subst q; exact e
 · have hbef :=List.pairwise_iff_getElem.1 hsrt k j hk hj q
   rw [e] at hbef
   have k1 : kR R O[k] = R[m] :=by unfold kR; rw [hm,List.getD_eq_getElem?_getD,List.getElem?_eq_getElem hmR]; rfl
   have k2 : kR R (b : Int) = R[b] :=by unfold kR; rw [Int.toNat_natCast,List.getD_eq_getElem?_getD,List.getElem?_eq_getElem hb]; rfl
   unfold bef at hbef
   rw [k1,k2] at hbef
   rcases hbef with h | ⟨h,h'⟩
   · omega
   · have :=h2 m hmR (by omega) hnot
     omega
def isFree (R : List Int) (O : List Int) (k : Nat) (b : Int) : Prop :=
 (b = -1 ∧ ∀ j,j < k → (j : Int) ∈ O) ∨ ∃ p : Nat,b = p ∧ p < k ∧ ∃ hp : p < R.length,¬ (p : Int) ∈ O ∧ (∀ j (hj : j < R.length),j < k → ¬ (j : Int) ∈ O → R[j] ≤ R[p]) ∧ ∀ j (hj : j < R.length),j < p → ¬ (j : Int) ∈ O → R[j] < R[p]
theorem s9 {R O : List Int} {k : Nat} {b : Int} (h : isFree R O k b) (ht : (k : Int) ∈ O) : isFree R O (k + 1) b :=by
 rcases h with ⟨e,h⟩ | ⟨p,e,hp,hpR,h1,h2,h3⟩
 · exact .inl ⟨e,fun j hj => by
    by_cases q : j = k
    · subst q; exact ht
    · exact h j (by omega)⟩
 · exact .inr ⟨p,e,by omega,hpR,h1,fun j hj hjk hn => by
    by_cases q : j = k
    · subst q; exact absurd ht hn
    · exact h2 j hj (by omega) hn,h3⟩
theorem lY {R O : List Int} {k : Nat} {b : Int} (h : isFree R O k b) (hk : k < R.length) (ht : ¬ (k : Int) ∈ O) (hb : b < 0 ∨ ∃ p : Nat,b = p ∧ ∃ hp : p < R.length,R[p] < R[k]) : isFree R O (k + 1) k :=by
 refine .inr ⟨k,rfl,by omega,hk,ht,fun j hj hjk hn => ?_,fun j hj hjk hn => ?_⟩ <;> rcases h with ⟨e,h⟩ | ⟨p,e,hp,hpR,h1,h2,h3⟩
 · by_cases q : j = k
   · subst q; exact Int.le_refl _
   · exact absurd (h j (by omega)) hn
 · by_cases q : j = k
   · subst q; exact Int.le_refl _
   · have :=h2 j hj (by omega) hn
     rcases hb with hb | ⟨p',e',hp',hb⟩
     · omega
     · have : p = p' :=by omega
       subst this; omega
 · exact absurd (h j (by omega)) hn
 · have :=h2 j hj (by omega) hn
   rcases hb with hb | ⟨p',e',hp',hb⟩
   · omega
   · have : p = p' :=by omega
     subst this; omega
theorem uJ {R O : List Int} {k : Nat} {p : Nat} (h : isFree R O k p) (hk : k < R.length) (hp : p < R.length) (hb : R[k] ≤ R[p]) : isFree R O (k + 1) p :=by
 rcases h with ⟨e,h⟩ | ⟨p',e,hp',hpR,h1,h2,h3⟩
 · omega
 · have : p = p' :=by omega
   subst this
   exact .inr ⟨p,rfl,by omega,hpR,h1,fun j hj hjk hn => by
    by_cases q : j = k
    · subst q; exact hb
    · exact h2 j hj (by omega) hn,h3⟩
end Go.Proofs.YthibhamepjhfjaaGreatDoor

