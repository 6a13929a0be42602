import Derived.Test.YthibhamepjhfjaaGreatDoorTeP17
set_option linter.all false
namespace Go.Proofs.YthibhamepjhfjaaGreatDoor
open Go.RowKit Go.Ab
def q1x0 : List Nat :=[0,1,4,5,6,7,8,9,10,11,12,13,14,15,16,17,18,19,20,21,22,23,24,25,26,27,28,29,34,40,45,72,88,99,115,126,143,155,171,182,214]
attribute [go_sem] q1x0
attribute [local irreducible] AWP Go.Ab.Sub Means MeansH MeansX CallK CallG CallT CallGT CallU
abbrev bxC (r : Rat) : Cell :=.row ⟨41,4,[frq r]⟩
theorem m7 {X : Ctx} {env : Nat → AV} (L : List (Nat × AV)) (s0 s1 : Src) (a b : Cell) (A : Mx) (n : Nat) (T : List Cell)
  (h0 : okS0 (s0 :: s1 :: .old 2 ⟨24,1,outN 3 n⟩ :: matS (fun k => k + 3) 41 4 0 (mxL A n)) (a :: b :: outC 3 n :: (mxC A n ++ T)) [s0,s1])
  (hd : ([s0,s1].filterMap Src.rid).Nodup) (hi : ∀ x ∈ [s0,s1].filterMap Src.rid,x < 2 ∨ n + 3 ≤ x)
  (hL : okL (s0 :: s1 :: .old 2 ⟨24,1,outN 3 n⟩ :: matS (fun k => k + 3) 41 4 0 (mxL A n)) ⟨env,a :: b :: outC 3 n :: (mxC A n ++ T)⟩ L) :
  Go.Ab.Sub X ⟨mkE L,s0.cell :: s1.cell :: outC 3 n :: mxC A n⟩ ⟨env,a :: b :: outC 3 n :: (mxC A n ++ T)⟩ :=
 lD L s0 s1 a b (mxL A n) T n (aX A n) (fun es he => by
  obtain ⟨j,hj,rfl⟩ :=List.getElem_of_mem he
  exact d7 (List.getElem?_eq_getElem hj)) h0 hd hi hL
theorem lF {X : Ctx} {env : Nat → AV} (L : List (Nat × AV)) (s0 s1 : Src) (a b : Cell) (A : Mx) (n : Nat)
  (h0 : okS0 (s0 :: s1 :: .old 2 ⟨24,1,outN 3 n⟩ :: matS (fun k => k + 3) 41 4 0 (mxL A n)) (a :: b :: outC 3 n :: mxC A n) [s0,s1])
  (hd : ([s0,s1].filterMap Src.rid).Nodup) (hi : ∀ x ∈ [s0,s1].filterMap Src.rid,x < 2)
  (hL : okL (s0 :: s1 :: .old 2 ⟨24,1,outN 3 n⟩ :: matS (fun k => k + 3) 41 4 0 (mxL A n)) ⟨env,a :: b :: outC 3 n :: mxC A n⟩ L) :
  Go.Ab.Sub X ⟨mkE L,s0.cell :: s1.cell :: outC 3 n :: mxC A n⟩ ⟨env,a :: b :: outC 3 n :: mxC A n⟩ :=by
 have :=m7 (X :=X) (env :=env) L s0 s1 a b A n [] (by rw [List.append_nil]; exact h0) hd (fun x hx => .inl (hi x hx)) (by rw [List.append_nil]; exact hL)
 rwa [List.append_nil] at this
set_option maxHeartbeats 16000000 in
set_option maxRecDepth 100000 in
theorem CW (own : List Int) (S : List (List Int)) (hv : PV own S) (h6 : own.length ≤ 6) : Means false Tryz.prog 11 [il own,ill S] (.tup [.sl (allL own S),.sl (keptL own S),ii 0]) :=by
 have h :=hv.toPR
 have hn :=hv.most
 have hSl :=hv.len
 have hbad : badP own S = 0 :=by unfold badP; rw [if_pos h,if_pos hv]
 have c0 :=xB own S (by omega) (by omega)
 rw [hbad] at c0
 have hF :=IY hv h6
 have hend : ∀ j,j < own.length → gR (rM own S) own.length j own.length = allX own S j :=fun j hj => IZ hv hj
 have hM0 : gR (rM own S) 0 = rM own S :=rfl
 have hMs : ∀ i,gR (rM own S) (i + 1) = rStep (gR (rM own S) i) i :=fun _ => rfl
 refine aF false 222 [.tmp 4,.tmp 5,.tmp 6] Tryz.func11 rfl rfl rfl (by simp) (by decide) rfl fun X hX => ?_
 (repeat (refine a7 q1x0 hX mixed rfl ?_;simp [go_sem];try refine ⟨by kernel_rfl,?_⟩))
 first | refine a8 (c0) ?_ | refine aA (c0) ?_
 try (simp [go_sem];try refine ⟨by kernel_rfl,?_⟩)
 (repeat (refine a7 q1x0 hX mixed rfl ?_;simp [go_sem];try refine ⟨by kernel_rfl,?_⟩))
 refine aC (by simp [go_sem]) ?_
 (repeat (refine a7 q1x0 hX mixed rfl ?_;simp [go_sem];try refine ⟨by kernel_rfl,?_⟩))
 refine aH (fun i : Nat => ⟨mkE [(0,il own),(1,ill S),(8,ii own.length),(9,.ow 2),(10,ii i)],.row ⟨41,4,[]⟩ :: .dead :: outC 3 i :: matC 41 4 ((mxL (rM own S) own.length).take i)⟩) (fun i => i ≤ own.length) (fun i => own.length - i) 0 ?_ ?_ ?_
 · refine c8 (b :=⟨mkE [(0,il own),(1,ill S),(8,ii own.length),(9,.ow 2),(10,ii ((0 : Nat) : Int))],[.row ⟨41,4,[]⟩,.row ⟨41,4,[]⟩,.row ⟨24,1,[]⟩]⟩) ?_ ?_
   · refine aG _ [.old 0 ⟨41,4,[]⟩,.gone 1,.old 2 ⟨24,1,[]⟩] (by simp [go_sem]) ?_
     simp [go_sem]
   · refine aG _ [.birth 41 4,.birth 41 4,.birth 24 1] (by simp [go_sem]) ?_
     simp [go_sem]
 · omega
 · intro i hi
   (repeat (refine a7 q1x0 hX mixed rfl ?_;simp [go_sem];try refine ⟨by kernel_rfl,?_⟩))
   refine aB (b :=decide (i < own.length)) (by simp [go_sem]) (fun hb => ?_) (fun hb => ?_)
   · simp only [decide_eq_true_eq] at hb
     clear hF hend hM0 hMs
     have hMl : ((mxL (rM own S) own.length).take i).length = i :=by rw [List.length_take,aX]; omega
     have hMz : ∀ es ∈ (mxL (rM own S) own.length).take i,zoneEs es = true :=fun es he => by
      obtain ⟨j,hj,rfl⟩ :=List.getElem_of_mem (List.mem_of_mem_take he)
      exact d7 (List.getElem?_eq_getElem hj)
     have hMs : (mxL (rM own S) own.length).take (i + 1) = (mxL (rM own S) own.length).take i ++ [rowL (rM own S) own.length i] :=by
      have hl : i < (mxL (rM own S) own.length).length :=by rw [aX]; exact hb
      rw [List.take_succ_eq_append_getElem hl]
      have :=cL (A :=rM own S) hb
      rw [List.getElem?_eq_getElem hl] at this
      rw [Option.some.inj this]
     have hRs : ∀ j,j < own.length + 1 → (rowL (rM own S) own.length i).take (j + 1) = (rowL (rM own S) own.length i).take j ++ [frq (rM own S i j)] :=fun j hj => by
      have hl : j < (rowL (rM own S) own.length i).length :=by rw [aW]; exact hj
      rw [List.take_succ_eq_append_getElem hl]
      have :=cD (A :=rM own S) (n :=own.length) (k :=i) (t :=j) (by omega)
      rw [oK hl] at this
      rw [this]
     have hRl : ∀ j,j ≤ own.length → ((rowL (rM own S) own.length i).take j).length = j :=fun j hj => by rw [List.length_take,aW]; omega
     have hRz : ∀ j,zoneEs ((rowL (rM own S) own.length i).take j) = true :=fun j => m8 j _ (lE _ _ _)
     have hRe : (rowL (rM own S) own.length i).take (own.length + 1) = rowL (rM own S) own.length i :=List.take_of_length_le (by rw [aW]; omega)
     have wi :=w64 (x :=(i : Int) + 1) (by omega) (by omega)
     obtain ⟨M,hM⟩ : ∃ M,(mxL (rM own S) own.length).take i = M :=⟨_,rfl⟩
     rw [hM] at hMl hMz hMs ⊢
     clear hM
     have hMC : (matC 41 4 M).length = i :=by rw [b9,hMl]
     (repeat (refine a7 q1x0 hX mixed rfl ?_;simp [go_sem];try refine ⟨by kernel_rfl,?_⟩))
     refine aH (fun j : Nat => ⟨mkE [(0,il own),(1,ill S),(8,ii own.length),(9,.ow 2),(10,ii i),(11,.ow 1),(12,ii j)],.row ⟨41,4,[]⟩ :: .row ⟨41,4,(rowL (rM own S) own.length i).take j⟩ :: outC 3 i :: matC 41 4 M⟩) (fun j => j ≤ own.length) (fun j => own.length - j) 0 ?_ ?_ ?_
     · have :=lD (X :=X) (env :=mkE [(0,il own),(1,ill S),(8,ii own.length),(9,.ow 2),(10,ii i),(11,.nil),(12,ii (0 : Nat))]) [(0,il own),(1,ill S),(8,ii own.length),(9,.ow 2),(10,ii i),(11,.ow 1),(12,ii (0 : Nat))] (.old 0 ⟨41,4,[]⟩) (.birth 41 4) (.row ⟨41,4,[]⟩) .dead (E1 :=24) (E2 :=41) (k2 :=4) M [] i hMl hMz (by simp [go_sem]) (by simp [Src.rid,List.filterMap_cons]) (by simp [Src.rid,List.filterMap_cons]) (by simp [go_sem])
       rw [List.append_nil] at this
       exact c8 this (bJ _ _ rfl (by simp [go_sem]))
     · omega
     · intro j hj
       (repeat (refine a7 q1x0 hX mixed rfl ?_;simp [go_sem];try refine ⟨by kernel_rfl,?_⟩))
       refine aB (b :=decide (j < own.length)) (by simp [go_sem]) (fun hc => ?_) (fun hc => ?_)
       · simp only [decide_eq_true_eq] at hc
         have hjS : j < S.length :=by rw [h.len]; exact hc
         have hlr :=h.row S[j] (List.getElem_mem hjS)
         have hij2 : i < S[j].length :=by omega
         have q1 :=dW (L :=S) hjS
         have q2 :=cX hij2
         have hso : sO S j i = S[j][i] :=by
          unfold sO
          rw [List.getD_eq_getElem?_getD (l :=S),List.getElem?_eq_getElem hjS]
          exact bS hij2
         have hsb :=h.s j i hc hb
         rw [hso] at hsb
         have hA :=uW (own :=own) (S :=S) (k :=i) hc
         rw [hso] at hA
         have wj :=w64 (x :=(j : Int) + 1) (by omega) (by omega)
         have hRj :=hRs j (by omega)
         have hlj :=hRl j (by omega)
         have hRjz :=hRz j
         have c1 :=uX S[j][i] 1000 (by omega) (by decide) (by decide)
         rw [← hA] at c1
         generalize (rowL (rM own S) own.length i).take j = R at *
         generalize hsv : S[j][i] = sv at *
         generalize rM own S i j = rv at *
         (repeat (refine a7 q1x0 hX mixed rfl ?_;simp [go_sem,q1,q2,hjS,hij2];try refine ⟨by kernel_rfl,?_⟩))
         first | refine a8 (c1) ?_ | refine aA (c1) ?_
         try (simp [go_sem,hlj];try refine ⟨by kernel_rfl,?_⟩)
         (repeat refine And.intro (by first | omega | (unfold maxLen; omega) | (refine ⟨by omega,by omega⟩)) ?_)
         try (repeat (refine a7 q1x0 hX mixed rfl ?_;simp [go_sem,wj];try refine ⟨by kernel_rfl,?_⟩))
         refine ⟨j + 1,by omega,by omega,?_⟩
         rw [hRj]
         have hfb : ∀ x y : Cell,(matC 41 4 M ++ [x,y])[i + 1]? = some y :=fun x y => by
          rw [List.getElem?_append_right (by rw [b9]; omega),b9,hMl,Nat.add_sub_cancel_left]; rfl
         refine c8 ?_ (bJ [(0,il own),(1,ill S),(8,ii own.length),(9,.ow 2),(10,ii i),(11,.ow (i + 4)),(12,ii ((j + 1 : Nat) : Int))] _ rfl (by simp [go_sem,hMC]))
         exact lD _ (.old 0 ⟨41,4,[]⟩) (.old (i + 4) ⟨41,4,R ++ [frq rv]⟩) (.row ⟨41,4,[]⟩) .dead (E1 :=24) (E2 :=41) (k2 :=4) M _ i hMl hMz (by simp [go_sem,hfb,hRjz]) (by simp [Src.rid,List.filterMap_cons]) (by simp [Src.rid,List.filterMap_cons]) (by simp [go_sem])
       · simp only [decide_eq_false_iff_not] at hc
         have hj2 : j = own.length :=by omega
         subst hj2
         have q1 :=cX hb
         have hw :=h.w i hb
         rw [show wO own i = own[i] from bS hb] at hw
         have hA :=xR (own :=own) (S :=S) i
         rw [show wO own i = own[i] from bS hb] at hA
         have hRj :=hRs own.length (by omega)
         have hlj :=hRl own.length (by omega)
         rw [hRe,hA] at hRj
         have hRjz :=hRz own.length
         generalize (rowL (rM own S) own.length i).take own.length = R at *
         generalize hov : own[i] = ov at *
         have c1 :=lX ov (by omega)
         generalize ((ov : Int) : Rat) = rv at *
         (repeat (refine a7 q1x0 hX mixed rfl ?_;simp [go_sem,q1,hb];try refine ⟨by kernel_rfl,?_⟩))
         first | refine a8 (c1) ?_ | refine aA (c1) ?_
         try (simp [go_sem,hlj];try refine ⟨by kernel_rfl,?_⟩)
         (repeat refine And.intro (by first | omega | (unfold maxLen; omega) | (refine ⟨by omega,by omega⟩)) ?_)
         refine And.intro (by rw [b7]; exact ⟨by omega,by unfold maxLen; omega⟩) ?_
         try (repeat (refine a7 q1x0 hX mixed rfl ?_;simp [go_sem,wi];try refine ⟨by kernel_rfl,?_⟩))
         refine ⟨i + 1,by omega,by omega,?_⟩
         rw [hMs,hRj]
         refine c8 ?_ (bJ [(0,il own),(1,ill S),(8,ii own.length),(9,.ow (i + 6)),(10,ii ((i + 1 : Nat) : Int))] _ rfl (by simp [go_sem,hMC]))
         rw [hMC]
         exact yZ _ (.old 0 ⟨41,4,[]⟩) (.gone 0) (.row ⟨41,4,[]⟩) .dead .dead (E1 :=24) (E2 :=41) (k2 :=4) M _ _ _ i hMl hMz (by simp [go_sem,hRjz]) (by simp [go_sem]) (by simp [Src.rid,List.filterMap_cons]) (by simp [Src.rid,List.filterMap_cons]) (by simp [go_sem])
   · simp only [decide_eq_false_iff_not] at hb
     have hi2 : i = own.length :=by omega
     subst hi2
     rw [show (mxL (rM own S) own.length).take own.length = mxL (rM own S) own.length from List.take_of_length_le (by rw [aX]; exact Nat.le_refl _)]
     rw [← hM0]
     generalize hGG : gR (rM own S) = G at *
     generalize hN : own.length = n at *
     have hn6 : n ≤ 6 :=h6
     have hFe : ∀ i j t,i ≤ n → j < n → t ≤ n → rq (G i j t) :=by rw [← hGG]; exact hF.ent
     have hFp : ∀ i,i < n → 1 - G i i i ≠ 0 :=by rw [← hGG]; exact hF.piv
     have hFl : ∀ i,i < n → okSub 1 (G i i i) :=by rw [← hGG]; exact hF.less
     have hFd : ∀ i t,i < n → t ≤ n → okDiv (rO (G i) i t) (1 - G i i i) :=by rw [← hGG]; exact hF.div
     have hFm : ∀ i j t,i < n → j < n → j ≠ i → t ≤ n → okMul (G i j i) (rR (G i) i t) :=by rw [← hGG]; exact hF.mul
     have hFa : ∀ i j t,i < n → j < n → j ≠ i → t ≤ n → okAdd (if t = i then 0 else G i j t) (G i j i * rR (G i) i t) :=by rw [← hGG]; exact hF.add
     clear hF hM0 hGG
     (repeat (refine a7 q1x0 hX mixed rfl ?_;simp [go_sem];try refine ⟨by kernel_rfl,?_⟩))
     refine aH (fun i : Nat => ⟨mkE [(0,il own),(1,ill S),(8,ii n),(9,.ow 2),(13,ii i)],.dead :: .dead :: outC 3 n :: mxC (G i) n⟩) (fun i => i ≤ n) (fun i => n - i) 0 ?_ ?_ ?_
     · have :=m7 (X :=X) (env :=mkE [(0,il own),(1,ill S),(8,ii n),(9,.ow 2),(13,ii (0 : Nat))]) [(0,il own),(1,ill S),(8,ii n),(9,.ow 2),(13,ii (0 : Nat))] (.gone 0) (.gone 0) (.row ⟨41,4,[]⟩) .dead (G 0) n [] (by simp [go_sem]) (by simp [Src.rid,List.filterMap_cons]) (by simp [Src.rid,List.filterMap_cons]) (by simp [go_sem])
       rw [List.append_nil] at this
       exact c8 this (bJ _ _ rfl (by simp [go_sem]))
     · omega
     · intro i hi
       (repeat (refine a7 q1x0 hX mixed rfl ?_;simp [go_sem];try refine ⟨by kernel_rfl,?_⟩))
       refine aB (b :=decide (i < n)) (by simp [go_sem]) (fun hb => ?_) (fun hb => ?_)
       · simp only [decide_eq_true_eq] at hb
         have wi :=w64 (x :=(i : Int) + 1) (by omega) (by omega)
         have q1 :=fX (b :=3) hb
         have g1 :=bM (E :=41) (k :=4) (cL (A :=G i) hb)
         have r1 :=cD (A :=G i) (k :=i) (Nat.le_of_lt hb)
         have e1 :=hFe i i i hi hb (Nat.le_of_lt hb)
         have o1 :=lX 1 (by decide)
         rw [show ((1 : Int) : Rat) = 1 from rfl] at o1
         have o0 :=lX 0 (by decide)
         rw [show ((0 : Int) : Rat) = 0 from rfl] at o0
         have rq1 : rq (1 : Rat) :=jU (z :=1) (by decide)
         have rq0 : rq (0 : Rat) :=jU (z :=0) (by decide)
         have c1 :=yQ rq1 e1 (hFl i hb)
         have hlq : rq (1 - G i i i) :=DM (hFl i hb)
         have hl0 :=hFp i hb
         have hld :=hFd i
         have hBl : (mxC (G i) n).length = n :=by rw [b9,aX]
         have hin : i < n + 1 :=by omega
         have hr : ∀ k,rO (G i) i k / (1 - G i i i) = rR (G i) i k :=fun _ => rfl
         obtain ⟨one,hone⟩ : ∃ r : Rat,1 = r :=⟨_,rfl⟩
         obtain ⟨le,hle⟩ : ∃ r,1 - G i i i = r :=⟨_,rfl⟩
         rw [hle] at c1 hlq hl0 hr
         have hld2 : ∀ t,t ≤ n → okDiv (rO (G i) i t) le :=fun t ht => by rw [← hle]; exact hld t hb ht
         rw [hone] at c1 o1
         obtain ⟨zr,hzr⟩ : ∃ r : Rat,0 = r :=⟨_,rfl⟩
         rw [hzr] at o0
         clear hld hle rq1
         (repeat (refine a7 q1x0 hX mixed rfl ?_;simp [go_sem];try refine ⟨by kernel_rfl,?_⟩))
         first | refine a8 (o1) ?_ | refine aA (o1) ?_
         try (simp [go_sem,q1,g1,hb,r1,b7,aW,hin])
         try (repeat refine And.intro (by first | omega | (unfold maxLen;omega) | kernel_rfl | (constructor <;> first | omega | (unfold maxLen;omega)) | grind) ?_)
         first | refine a8 (c1) ?_ | refine aA (c1) ?_
         try (simp [go_sem,q1,g1,hb,r1,b7,aW,hin])
         refine ⟨cF 3 (n + 3) (by simp [mapT,phi,bT,hb,hBl]; kernel_rfl),?_⟩
         (repeat (refine a7 q1x0 hX mixed rfl ?_;simp [go_sem];try refine ⟨by kernel_rfl,?_⟩))
         refine aC (by simp [go_sem]) ?_
         have hfb : ∀ x : Cell,(mxC (G i) n ++ [x])[n]? = some x :=fun x => by rw [List.getElem?_append_right (by omega),hBl,Nat.sub_self]; rfl
         refine eO (m7 [(0,il own),(1,ill S),(8,ii n),(9,.ow 2),(13,ii i),(14,.el 0 4 0 0)] (.old (n + 3) ⟨41,4,[frq le]⟩) (.gone 0) .dead .dead (G i) n [bxC le] (by simp [go_sem,hfb]) (by simp [Src.rid,List.filterMap_cons]) (by simp [Src.rid,List.filterMap_cons]) (by simp [go_sem,hBl])) ?_
         simp only [Src.cell]
         have hset :=mZ (A :=G i) (n :=n) 0 hb (Nat.le_of_lt hb)
         rw [GB] at hset
         rw [hzr] at hset
         (repeat (refine a7 q1x0 hX mixed rfl ?_;simp [go_sem,q1,g1,hb,r1,b7,aW,hin];try refine ⟨by kernel_rfl,?_⟩))
         try (repeat refine And.intro (by first | omega | (unfold maxLen;omega) | kernel_rfl | (constructor <;> first | omega | (unfold maxLen;omega)) | grind) ?_)
         first | refine a8 (o0) ?_ | refine aA (o0) ?_
         try (simp [go_sem,q1,g1,hb,r1,b7,aW,hin])
         try (repeat refine And.intro (by first | omega | (unfold maxLen; omega) | (refine ⟨by omega,by omega⟩)) ?_)
         refine ⟨cF 3 (n + 3) (by simp [mapT,phi,bT,hb,hBl]; kernel_rfl),?_⟩
         (repeat (refine a7 q1x0 hX mixed rfl ?_;simp [go_sem];try refine ⟨by kernel_rfl,?_⟩))
         clear g1 r1 hBl hfb
         refine aH (fun k : Nat => ⟨mkE [(0,il own),(1,ill S),(8,ii n),(9,.ow 2),(13,ii i),(14,.el 0 4 0 0),(16,ii k)],bxC le :: .dead :: outC 3 n :: mxC (rD (G i) i k) n⟩) (fun k => k ≤ n + 1) (fun k => n + 1 - k) 0 ?_ ?_ ?_
         · exact bJ _ _ (by dsimp only [mxC]; rw [← hset,← kF]) (by simp [go_sem])
         · omega
         · intro k hk
           (repeat (refine a7 q1x0 hX mixed rfl ?_;simp [go_sem];try refine ⟨by kernel_rfl,?_⟩))
           refine aB (b :=decide (k ≤ n)) (by simp [go_sem]) (fun hc => ?_) (fun hc => ?_)
           · simp only [decide_eq_true_eq] at hc
             have wk :=w64 (x :=(k : Int) + 1) (by omega) (by omega)
             have g2 :=bM (E :=41) (k :=4) (cL (A :=rD (G i) i k) hb)
             have r2 :=cD (A :=rD (G i) i k) (k :=i) hc
             rw [KQ] at r2
             have e2 : rq (rO (G i) i k) :=by
              unfold rO
              split
              · exact rq0
              · exact hFe i i k hi hb hc
             have c2 :=GC e2 hlq hl0 (hld2 k hc)
             rw [hr] at c2
             have hset2 :=mZ (A :=rD (G i) i k) (n :=n) (rR (G i) i k) hb hc
             rw [GD] at hset2
             have hkn : k < n + 1 :=by omega
             have hBl : (mxC (rD (G i) i k) n).length = n :=by rw [b9,aX]
             have hfb : ∀ x : Cell,(mxC (rD (G i) i k) n ++ [x])[n]? = some x :=fun x => by rw [List.getElem?_append_right (by omega),hBl,Nat.sub_self]; rfl
             obtain ⟨nv,hnv⟩ : ∃ r,rR (G i) i k = r :=⟨_,rfl⟩
             rw [hnv] at c2 hset2
             (repeat (refine a7 q1x0 hX mixed rfl ?_;simp [go_sem,q1,g2,hb,r2,b7,aW,hkn];try refine ⟨by kernel_rfl,?_⟩))
             try (repeat refine And.intro (by first | omega | (unfold maxLen;omega) | kernel_rfl | (constructor <;> first | omega | (unfold maxLen;omega)) | grind) ?_)
             first | refine a8 (c2) ?_ | refine aA (c2) ?_
             try (simp [go_sem,q1,g2,hb,r2,b7,aW,hkn])
             try (repeat refine And.intro (by first | omega | (unfold maxLen; omega) | (refine ⟨by omega,by omega⟩)) ?_)
             refine ⟨cF 3 (n + 3) (by simp [mapT,phi,bT,hb,hBl]; kernel_rfl),?_⟩
             (repeat (refine a7 q1x0 hX mixed rfl ?_;simp [go_sem];try refine ⟨by kernel_rfl,?_⟩))
             refine aC (by simp [go_sem]) ?_
             refine eO (m7 [(0,il own),(1,ill S),(8,ii n),(9,.ow 2),(13,ii i),(14,.el 0 4 0 0),(16,ii k),(17,.el 1 4 0 0)] (.old 0 ⟨41,4,[frq le]⟩) (.old (n + 3) ⟨41,4,[frq nv]⟩) (bxC le) .dead (rD (G i) i k) n [bxC nv] (by simp [go_sem,hfb]) (by simp [Src.rid,List.filterMap_cons]) (by simp [Src.rid,List.filterMap_cons]) (by simp [go_sem,hBl])) ?_
             simp only [Src.cell]
             (repeat (refine a7 q1x0 hX mixed rfl ?_;simp [go_sem,q1,g2,hb,r2,b7,aW,hkn];try refine ⟨by kernel_rfl,?_⟩))
             try (repeat refine And.intro (by first | omega | (unfold maxLen; omega) | (refine ⟨by omega,by omega⟩)) ?_)
             refine ⟨cF 3 (n + 3) (by simp [mapT,phi,bT,hb,hBl]; kernel_rfl),?_⟩
             (repeat (refine a7 q1x0 hX mixed rfl ?_;simp [go_sem,wk];try refine ⟨by kernel_rfl,?_⟩))
             refine ⟨k + 1,by omega,by omega,?_⟩
             refine c8 (b :=⟨mkE [(0,il own),(1,ill S),(8,ii n),(9,.ow 2),(13,ii i),(14,.el 0 4 0 0),(16,ii ((k + 1 : Nat) : Int))],bxC le :: bxC nv :: outC 3 n :: mxC (rD (G i) i (k + 1)) n⟩) (lF _ (.old 0 ⟨41,4,[frq le]⟩) (.gone 0) _ _ _ _ (by simp [go_sem]) (by simp [Src.rid,List.filterMap_cons]) (by simp [Src.rid,List.filterMap_cons]) (by simp [go_sem])) (bJ _ _ (by dsimp only [mxC]; rw [← hset2,← kF]) (by simp [go_sem]))
           · simp only [decide_eq_false_iff_not] at hc
             have hkn : k = n + 1 :=by omega
             subst hkn
             rw [show mxC (rD (G i) i (n + 1)) n = mxC (rJ (G i) i 0 0) n by dsimp only [mxC]; rw [DN]]
             (repeat (refine a7 q1x0 hX mixed rfl ?_;simp [go_sem];try refine ⟨by kernel_rfl,?_⟩))
             refine aH (fun j : Nat => ⟨mkE [(0,il own),(1,ill S),(8,ii n),(9,.ow 2),(13,ii i),(19,ii j)],.dead :: .dead :: outC 3 n :: mxC (rJ (G i) i j 0) n⟩) (fun j => j ≤ n) (fun j => n - j) 0 ?_ ?_ ?_
             · exact lF _ (.gone 0) (.gone 0) _ _ _ _ (by simp [go_sem]) (by simp [Src.rid,List.filterMap_cons]) (by simp [Src.rid,List.filterMap_cons]) (by simp [go_sem])
             · omega
             · intro j hj
               (repeat (refine a7 q1x0 hX mixed rfl ?_;simp [go_sem];try refine ⟨by kernel_rfl,?_⟩))
               refine aB (b :=decide (j < n)) (by simp [go_sem]) (fun hc => ?_) (fun hc => ?_)
               · simp only [decide_eq_true_eq] at hc
                 have wj :=w64 (x :=(j : Int) + 1) (by omega) (by omega)
                 have q2 :=fX (b :=3) hc
                 have g3 :=bM (E :=41) (k :=4) (cL (A :=rJ (G i) i j 0) hc)
                 have r3 :=cD (A :=rJ (G i) i j 0) (k :=j) (Nat.le_of_lt hb)
                 have hBl : (mxC (rJ (G i) i j 0) n).length = n :=by rw [b9,aX]
                 have hfb : ∀ x : Cell,(mxC (rJ (G i) i j 0) n ++ [x])[n]? = some x :=fun x => by rw [List.getElem?_append_right (by omega),hBl,Nat.sub_self]; rfl
                 have hvj : j ≠ i → rJ (G i) i j 0 j i = G i j i :=fun h => DO h (Nat.zero_le _)
                 obtain ⟨vj,hv2⟩ : ∃ r,rJ (G i) i j 0 j i = r :=⟨_,rfl⟩
                 rw [hv2] at r3 hvj
                 (repeat (refine a7 q1x0 hX mixed rfl ?_;simp [go_sem,q2,g3,hc,r3,b7,aW,hin];try refine ⟨by kernel_rfl,?_⟩))
                 try (repeat refine And.intro (by first | omega | (unfold maxLen; omega) | (refine ⟨by omega,by omega⟩)) ?_)
                 try (repeat (refine a7 q1x0 hX mixed rfl ?_;simp [go_sem,hBl];try refine ⟨by kernel_rfl,?_⟩))
                 refine aH (fun k : Nat => ⟨mkE [(0,il own),(1,ill S),(8,ii n),(9,.ow 2),(13,ii i),(19,ii j),(20,.el 1 4 0 0),(21,ii k)],.dead :: bxC vj :: outC 3 n :: mxC (rJ (G i) i j k) n⟩) (fun k => k ≤ n + 1 ∧ (j = i → k = 0)) (fun k => n + 1 - k) 0 ?_ ?_ ?_
                 · exact m7 _ (.gone 0) (.old (n + 3) ⟨41,4,[frq vj]⟩) _ _ _ _ _ (by simp [go_sem,hfb]) (by simp [Src.rid,List.filterMap_cons]) (by simp [Src.rid,List.filterMap_cons]) (by simp [go_sem,hBl])
                 · exact ⟨by omega,fun _ => rfl⟩
                 · rintro k ⟨hk,hk0⟩
                   clear hBl hfb g3 r3
                   (repeat (refine a7 q1x0 hX mixed rfl ?_;simp [go_sem];try refine ⟨by kernel_rfl,?_⟩))
                   refine aB (b :=decide (k ≤ n ∧ j ≠ i)) (by by_cases h1 : k ≤ n <;> by_cases h2 : j = i <;> simp [go_sem,h1,h2] <;> omega) (fun hd => ?_) (fun hd => ?_)
                   · simp only [decide_eq_true_eq] at hd
                     obtain ⟨hkl,hne⟩ :=hd
                     have hvj :=hvj hne
                     have wk :=w64 (x :=(k : Int) + 1) (by omega) (by omega)
                     have g3 :=bM (E :=41) (k :=4) (cL (A :=rJ (G i) i j k) hc)
                     have g4 :=bM (E :=41) (k :=4) (cL (A :=rJ (G i) i j k) hb)
                     have r3 :=cD (A :=rJ (G i) i j k) (k :=j) hkl
                     have r4 :=cD (A :=rJ (G i) i j k) (k :=i) hkl
                     rw [DO hne (Nat.le_refl _)] at r3
                     rw [J0] at r4
                     have hkn : k < n + 1 :=by omega
                     have hBl : (mxC (rJ (G i) i j k) n).length = n :=by rw [b9,aX]
                     have hfb : ∀ x : Cell,(mxC (rJ (G i) i j k) n ++ [x])[n]? = some x :=fun x => by rw [List.getElem?_append_right (by omega),hBl,Nat.sub_self]; rfl
                     have hset3 :=mZ (A :=rJ (G i) i j k) (n :=n) (rStep (G i) i j k) hc hkl
                     rw [GE _ _ _ _ hne] at hset3
                     have hst :=fY (T :=G i) hne k
                     have m1 :=hFm i j k hb hc hne hkl
                     have a1 :=hFa i j k hb hc hne hkl
                     have eo :=hFe i j k hi hc hkl
                     have ei :=hFe i j i hi hc (Nat.le_of_lt hb)
                     have er : rq (rR (G i) i k) :=xQ (hFp i hb) (hFd i k hb hkl)
                     have c3 :=z7 (a :=if k = i then 0 else G i j k) (by split; exact rq0; exact eo) ei er m1 a1
                     rw [← hst,← hvj] at c3
                     rw [hzr] at c3
                     obtain ⟨nv,hnv⟩ : ∃ r,rStep (G i) i j k = r :=⟨_,rfl⟩
                     rw [hnv] at c3 hset3
                     clear hst m1 a1 eo ei er hnv
                     (repeat (refine a7 q1x0 hX mixed rfl ?_;simp [go_sem,q2,g3,hc,r3,b7,aW,hkn];try refine ⟨by kernel_rfl,?_⟩))
                     try (repeat refine And.intro (by first | omega | (unfold maxLen; omega) | (refine ⟨by omega,by omega⟩)) ?_)
                     try (repeat (refine a7 q1x0 hX mixed rfl ?_;simp [go_sem,hBl];try refine ⟨by kernel_rfl,?_⟩))
                     refine eO (m7 [(0,il own),(1,ill S),(8,ii n),(9,.ow 2),(13,ii i),(19,ii j),(20,.el 1 4 0 0),(21,ii k),(22,.el 0 4 0 0),(155,bb (decide (k = i)))] (.old (n + 3) ⟨41,4,[frq (G i j k)]⟩) (.old 1 ⟨41,4,[frq vj]⟩) .dead (bxC vj) (rJ (G i) i j k) n [bxC (G i j k)] (by simp [go_sem,hfb]) (by simp [Src.rid,List.filterMap_cons]) (by simp [Src.rid,List.filterMap_cons]) (by simp [go_sem,hBl]; try omega)) ?_
                     simp only [Src.cell]
                     refine j5 ⟨mkE [(0,il own),(1,ill S),(8,ii n),(9,.ow 2),(13,ii i),(19,ii j),(20,.el 1 4 0 0),(21,ii k),(22,.el 0 4 0 0)],bxC (if k = i then zr else G i j k) :: bxC vj :: outC 3 n :: mxC (rJ (G i) i j k) n⟩ ?_ ?_
                     · refine aB (b :=decide (k = i)) (by simp [go_sem]) (fun hq => ?_) (fun hq => ?_)
                       · simp only [decide_eq_true_eq] at hq
                         rw [if_pos hq]
                         (repeat (refine a7 q1x0 hX mixed rfl ?_;simp [go_sem];try refine ⟨by kernel_rfl,?_⟩))
                         first | refine a8 (o0) ?_ | refine aA (o0) ?_
                         try (simp [go_sem];try refine ⟨by kernel_rfl,?_⟩)
                         try (repeat (refine a7 q1x0 hX mixed rfl ?_;simp [go_sem];try refine ⟨by kernel_rfl,?_⟩))
                         exact bJ _ _ rfl (by simp [go_sem])
                       · simp only [decide_eq_false_iff_not] at hq
                         rw [if_neg hq]
                         (repeat (refine a7 q1x0 hX mixed rfl ?_;simp [go_sem];try refine ⟨by kernel_rfl,?_⟩))
                         exact bJ _ _ rfl (by simp [go_sem])
                     · obtain ⟨ov,hov⟩ : ∃ r,(if k = i then zr else G i j k) = r :=⟨_,rfl⟩
                       rw [hov] at c3 ⊢
                       generalize rR (G i) i k = rv at *
                       simp only [thenQ]
                       (repeat (refine a7 q1x0 hX mixed rfl ?_;simp [go_sem,q1,g4,hb,r4,b7,aW,hkn];try refine ⟨by kernel_rfl,?_⟩))
                       try (repeat refine And.intro (by first | omega | (unfold maxLen;omega) | kernel_rfl | (constructor <;> first | omega | (unfold maxLen;omega)) | grind) ?_)
                       first | refine a8 (c3) ?_ | refine aA (c3) ?_
                       try (simp [go_sem,q1,g4,hb,r4,b7,aW,hkn])
                       try (repeat refine And.intro (by first | omega | (unfold maxLen; omega) | (refine ⟨by omega,by omega⟩)) ?_)
                       refine ⟨cF 3 (n + 3) (by simp [mapT,phi,bT,hb,hBl]; kernel_rfl),?_⟩
                       (repeat (refine a7 q1x0 hX mixed rfl ?_;simp [go_sem];try refine ⟨by kernel_rfl,?_⟩))
                       refine aC (by simp [go_sem]) ?_
                       refine eO (m7 [(0,il own),(1,ill S),(8,ii n),(9,.ow 2),(13,ii i),(19,ii j),(20,.el 1 4 0 0),(21,ii k),(23,.el 0 4 0 0)] (.old (n + 3) ⟨41,4,[frq nv]⟩) (.old 1 ⟨41,4,[frq vj]⟩) (bxC ov) (bxC vj) (rJ (G i) i j k) n [bxC nv] (by simp [go_sem,hfb]) (by simp [Src.rid,List.filterMap_cons]) (by simp [Src.rid,List.filterMap_cons]) (by simp [go_sem,hBl])) ?_
                       simp only [Src.cell]
                       (repeat (refine a7 q1x0 hX mixed rfl ?_;simp [go_sem,q2,g3,hc,r3,b7,aW,hkn];try refine ⟨by kernel_rfl,?_⟩))
                       try (repeat refine And.intro (by first | omega | (unfold maxLen; omega) | (refine ⟨by omega,by omega⟩)) ?_)
                       refine ⟨cF 3 (n + 3) (by simp [mapT,phi,bT,hc,hBl]; kernel_rfl),?_⟩
                       (repeat (refine a7 q1x0 hX mixed rfl ?_;simp [go_sem,wk];try refine ⟨by kernel_rfl,?_⟩))
                       refine ⟨k + 1,⟨by omega,fun h => absurd h hne⟩,by omega,?_⟩
                       exact c8 (b :=⟨mkE [(0,il own),(1,ill S),(8,ii n),(9,.ow 2),(13,ii i),(19,ii j),(20,.el 1 4 0 0),(21,ii ((k + 1 : Nat) : Int))],bxC nv :: bxC vj :: outC 3 n :: mxC (rJ (G i) i j (k + 1)) n⟩) (lF _ (.gone 0) (.old 1 ⟨41,4,[frq vj]⟩) _ _ _ _ (by simp [go_sem]) (by simp [Src.rid,List.filterMap_cons]) (by simp [Src.rid,List.filterMap_cons]) (by simp [go_sem])) (bJ _ _ (by dsimp only [mxC]; rw [← hset3,← kF]) (by simp [go_sem]))
                   · simp only [decide_eq_false_iff_not] at hd
                     have hB : mxC (rJ (G i) i j k) n = mxC (rJ (G i) i (j + 1) 0) n :=by
                      dsimp only [mxC]
                      by_cases hji : j = i
                      · rw [hk0 hji,hji,GF]
                      · have : k = n + 1 :=by omega
                        rw [this,J1]
                     rw [hB]
                     (repeat (refine a7 q1x0 hX mixed rfl ?_;simp [go_sem,wj];try refine ⟨by kernel_rfl,?_⟩))
                     refine ⟨j + 1,by omega,by omega,?_⟩
                     exact lF _ (.gone 0) (.gone 0) _ _ _ _ (by simp [go_sem]) (by simp [Src.rid,List.filterMap_cons]) (by simp [Src.rid,List.filterMap_cons]) (by simp [go_sem])
               · simp only [decide_eq_false_iff_not] at hc
                 have hjn : j = n :=by omega
                 subst hjn
                 rw [show mxC (rJ (G i) i j 0) j = mxC (G (i + 1)) j by dsimp only [mxC]; rw [GG,hMs]]
                 (repeat (refine a7 q1x0 hX mixed rfl ?_;simp [go_sem,wi];try refine ⟨by kernel_rfl,?_⟩))
                 refine ⟨i + 1,by omega,by omega,?_⟩
                 exact lF _ (.gone 0) (.gone 0) _ _ _ _ (by simp [go_sem]) (by simp [Src.rid,List.filterMap_cons]) (by simp [Src.rid,List.filterMap_cons]) (by simp [go_sem])
       · simp only [decide_eq_false_iff_not] at hb
         have hi2 : i = n :=by omega
         subst hi2
         have hal : ∀ k,k < i → rq (G i k i) :=fun k hk => hFe i k i (Nat.le_refl _) hk (Nat.le_refl _)
         have hok : ∀ k,k < i → okMul (allX own S k) (((1000 - sumI (S.getD k []) : Int) : Rat) / ((1000 : Int) : Rat)) :=fun k hk => DP hv (by omega) (by omega)
         have hrS : ∀ k (hk : k < S.length),S[k].length ≤ 12 ∧ (∀ x ∈ S[k],0 ≤ x ∧ x ≤ 1000) ∧ sumI S[k] < 1000 :=fun k hk => ⟨(dN h (List.getElem_mem hk)).1,(dN h (List.getElem_mem hk)).2,hv.lt _ (List.getElem_mem hk)⟩
         clear hFe hFp hFl hFd hFm hFa hMs
         (repeat (refine a7 q1x0 hX mixed rfl ?_;simp [go_sem];try refine ⟨by kernel_rfl,?_⟩))
         refine aH (fun k : Nat => ⟨mkE [(0,il own),(1,ill S),(8,ii i),(9,.ow 2),(25,.ow 0),(26,.ow 1),(27,ii k)],.row ⟨41,4,(List.range k).map fun k => frq (allX own S k)⟩ :: .row ⟨41,4,(List.range k).map fun k => frq (keptX own S k)⟩ :: outC 3 i :: mxC (G i) i⟩) (fun k => k ≤ i) (fun k => i - k) 0 ?_ ?_ ?_
         · exact lF _ (.birth 41 4) (.birth 41 4) _ _ _ _ (by simp [go_sem]) (by simp [Src.rid,List.filterMap_cons]) (by simp [Src.rid,List.filterMap_cons]) (by simp [go_sem])
         · omega
         · intro k hk
           (repeat (refine a7 q1x0 hX mixed rfl ?_;simp [go_sem];try refine ⟨by kernel_rfl,?_⟩))
           refine aB (b :=decide (k < i)) (by simp [go_sem]) (fun hc => ?_) (fun hc => ?_)
           · simp only [decide_eq_true_eq] at hc
             have wk :=w64 (x :=(k : Int) + 1) (by omega) (by omega)
             have hkS : k < S.length :=by omega
             have q1 :=fX (b :=3) hc
             have g1 :=bM (E :=41) (k :=4) (cL (A :=G i) hc)
             have r1 :=cD (A :=G i) (k :=k) (Nat.le_refl i)
             have hrq :=hal k hc
             rw [hend k hc] at r1 hrq
             have p1 :=dW (L :=S) hkS
             obtain ⟨hs1,hs2,hs3⟩ :=hrS k hkS
             have hgv :=oL S[k] (by omega) hs2
             have hsb :=eP S[k] S[k].length hs2
             rw [List.take_length] at hsb
             have hgd : S.getD k [] = S[k] :=by rw [List.getD_eq_getElem?_getD,List.getElem?_eq_getElem hkS]; rfl
             have hmk :=hok k hc
             have hkx : keptX own S k = allX own S k * (((1000 - sumI S[k] : Int) : Rat) / ((1000 : Int) : Rat)) :=by unfold keptX; rw [hgd]
             rw [hgd] at hmk
             have c1 :=uX (1000 - sumI S[k]) 1000 (by omega) (by decide) (by decide)
             have c2 :=sM hrq (jL (p :=1000 - sumI S[k]) (q :=1000) (by omega) (by decide) (by decide)) hmk
             rw [← hkx] at c2
             have ws :=w64 (x :=1000 - sumI S[k]) (by omega) (by omega)
             have hki : k < i + 1 :=by omega
             have hBl : (mxC (G i) i).length = i :=by rw [b9,aX]
             have hsn : (List.range (k + 1)).map (fun k => frq (allX own S k)) = (List.range k).map (fun k => frq (allX own S k)) ++ [frq (allX own S k)] :=by rw [List.range_succ,List.map_append]; rfl
             have hsn2 : (List.range (k + 1)).map (fun k => frq (keptX own S k)) = (List.range k).map (fun k => frq (keptX own S k)) ++ [frq (keptX own S k)] :=by rw [List.range_succ,List.map_append]; rfl
             have hl1 : ((List.range k).map fun k => frq (allX own S k)).length = k :=by simp
             have hl2 : ((List.range k).map fun k => frq (keptX own S k)).length = k :=by simp
             have hz1 : zoneEs ((List.range k).map fun k => frq (allX own S k)) = true :=f7 fun _ => rfl
             have hz2 : zoneEs ((List.range k).map fun k => frq (keptX own S k)) = true :=f7 fun _ => rfl
             clear hal hok hrS hmk hkx hgd hs1 hs2 hrq
             generalize (List.range k).map (fun k => frq (allX own S k)) = XA at *
             generalize (List.range k).map (fun k => frq (keptX own S k)) = XK at *
             generalize keptX own S k = kx at *
             generalize allX own S k = ax at *
             generalize ((1000 - sumI S[k] : Int) : Rat) / ((1000 : Int) : Rat) = sr at *
             generalize sumI S[k] = sg' at *
             have hgT : ∀ T : List Cell,(mxC (G i) i ++ T)[k]? = some (.row ⟨41,4,rowL (G i) i k⟩) :=fun T => by rw [List.getElem?_append_left (by omega)]; exact g1
             (repeat (refine a7 q1x0 hX mixed rfl ?_;simp [go_sem,q1,g1,hc,r1,b7,aW];try refine ⟨by kernel_rfl,?_⟩))
             try (repeat refine And.intro (by first | omega | (unfold maxLen;omega) | kernel_rfl | (constructor <;> first | omega | (unfold maxLen;omega)) | grind) ?_)
             try (repeat (refine a7 q1x0 hX mixed rfl ?_;simp [go_sem,q1,hgT,hc,r1,b7,aW,hkS,p1];try refine ⟨by kernel_rfl,?_⟩))
             try (repeat refine And.intro (by first | omega | (unfold maxLen;omega) | kernel_rfl | (constructor <;> first | omega | (unfold maxLen;omega)) | grind) ?_)
             first | refine a8 (hgv) ?_ | refine aA (hgv) ?_
             try (simp [go_sem,q1,hgT,hc,r1,b7,aW,hkS,p1,ws])
             try (repeat refine And.intro (by first | omega | (unfold maxLen;omega) | kernel_rfl | (constructor <;> first | omega | (unfold maxLen;omega)) | grind) ?_)
             first | refine a8 (c1) ?_ | refine aA (c1) ?_
             try (simp [go_sem,q1,hgT,hc,r1,b7,aW,hkS,p1,ws])
             try (repeat refine And.intro (by first | omega | (unfold maxLen;omega) | kernel_rfl | (constructor <;> first | omega | (unfold maxLen;omega)) | grind) ?_)
             first | refine a8 (c2) ?_ | refine aA (c2) ?_
             try (simp [go_sem,q1,hgT,hc,r1,b7,aW,hkS,p1,ws])
             try (repeat refine And.intro (by first | omega | (unfold maxLen; omega) | (refine ⟨by omega,by omega⟩)) ?_)
             refine ⟨cF 3 (i + 3) (by simp [mapT,phi,bT,hc,hBl,show ¬ i + 2 + 1 + 1 + 1 < 3 by omega,show ¬ i + 2 < i by omega]; kernel_rfl),?_⟩
             (repeat (refine a7 q1x0 hX mixed rfl ?_;simp [go_sem];try refine ⟨by kernel_rfl,?_⟩))
             refine aC (by simp [go_sem]) ?_
             (repeat (refine a7 q1x0 hX mixed rfl ?_;simp [go_sem,hBl];try refine ⟨by kernel_rfl,?_⟩))
             try (repeat refine And.intro (by first | omega | (unfold maxLen;omega) | kernel_rfl | (constructor <;> first | omega | (unfold maxLen;omega)) | grind) ?_)
             (repeat (refine a7 q1x0 hX mixed rfl ?_;simp [go_sem,wk];try refine ⟨by kernel_rfl,?_⟩))
             refine ⟨k + 1,by omega,by omega,?_⟩
             rw [hsn,hsn2]
             have hf1 : ∀ a b c d e : Cell,(mxC (G i) i ++ [a,b,c,d,e])[i + 1]? = some b :=fun a b c d e => by rw [List.getElem?_append_right (by omega),hBl,Nat.add_sub_cancel_left]; rfl
             have hf4 : ∀ a b c d e : Cell,(mxC (G i) i ++ [a,b,c,d,e])[i + 4]? = some e :=fun a b c d e => by rw [List.getElem?_append_right (by omega),hBl,Nat.add_sub_cancel_left]; rfl
             exact m7 _ (.old (i + 4) ⟨41,4,XA ++ [frq ax]⟩) (.old (i + 7) ⟨41,4,XK ++ [frq kx]⟩) _ _ _ _ _ (by simp [go_sem,hf1,hf4,hz1,hz2]) (by simp [Src.rid,List.filterMap_cons]) (by simp [Src.rid,List.filterMap_cons]) (by simp [go_sem])
           · simp only [decide_eq_false_iff_not] at hc
             have hki : k = i :=by omega
             subst hki
             have hz1 : zoneEs ((List.range k).map fun k => frq (allX own S k)) = true :=f7 fun _ => rfl
             have hz2 : zoneEs ((List.range k).map fun k => frq (keptX own S k)) = true :=f7 fun _ => rfl
             rw [show allL own S = (List.range k).map (fun k => frq (allX own S k)) by show (List.range own.length).map _ = _; rw [hN],show keptL own S = (List.range k).map (fun k => frq (keptX own S k)) by show (List.range own.length).map _ = _; rw [hN]]
             (repeat (refine a7 q1x0 hX mixed rfl ?_;simp [go_sem,hz1,hz2];try refine ⟨by kernel_rfl,?_⟩))
end Go.Proofs.YthibhamepjhfjaaGreatDoor

