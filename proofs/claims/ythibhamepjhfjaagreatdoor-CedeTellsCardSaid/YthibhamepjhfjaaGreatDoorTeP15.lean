/-
  Lemmas for the statement at the top.
-/
import Derived.Test.YthibhamepjhfjaaGreatDoorTeP14
import Derived.Test.YthibhamepjhfjaaGreatDoorTeP6
import Derived.Test.YthibhamepjhfjaaGreatDoorTeFw5
import Derived.Test.YthibhamepjhfjaaGreatDoorTeP9
set_option linter.all false
namespace Go.Proofs.YthibhamepjhfjaaGreatDoor
open Go.RowKit Go.Ab
def q14x0 : List Nat :=[0,1,2,3,4,5,6,7,8,9,10,11,12,13,21]
def q14x1 : List Nat :=[0,1,2,3,4,5,6,8,11,21,25,29]
def q14x2 : List Nat :=[0,1,2,3,4,5,6,7,8,16,21,42]
def q14x3 : List Nat :=[0,1,2,3,4,5,13,29,48]
def q14x4 : List Nat :=[0,1,2,3,4,5,6,7,8,9,17,22]
def q14x5 : List Nat :=[0,1,2,3,4,5,6,7,9,17,25]
def q14x6 : List Nat :=[0,1,2,3,4,5,6,7,8,9,17]
def q14x7 : List Nat :=[0,1,2,3,4,6,7,8]
attribute [go_sem] q14x0 q14x1 q14x2 q14x3 q14x4 q14x5 q14x6 q14x7
attribute [local irreducible] AWP Go.Ab.Sub Means MeansH CallK CallG CallT CallGT CallU
theorem zR (x : Int) (hl : (dg (ab x)).length ≤ 100000) : Means false Tryz.prog 102 [bigZ x] (res x) :=by
 by_cases h : (dg (ab x)).length ≤ 60
 · have hr : rz x :=(aR 60).1 h
   rw [res,cN hr,yE hr]
   exact GX _ _ h
 · have hr : ¬ rz x :=fun q => h ((aR 60).2 q)
   have e : res x = .tup [big2 0 [],ii 6] :=by rw [res,r60,e60,if_neg hr,if_neg hr]; rfl
   rw [e]
   exact GY _ _ h hl
theorem eS (s x : Int) (L : List Int) (hl : L.length ≤ 100000) (ho : okD L) (h1 : val L = ab x) (h2 : x ≠ 0 → s = sg x) : Means false Tryz.prog 103 [ii s,il L] (bigZ x) :=by
 have hm :=nK s L hl ho
 have e : big2 (if val L = 0 then 0 else s) (dg (val L)) = bigZ x :=by
  show _ = big2 (sg x) (dg (ab x))
  rw [h1]
  by_cases q : x = 0
  · subst q; rfl
  · have : ab x ≠ 0 :=by unfold ab; split <;> omega
    rw [if_neg this,h2 q]
 rwa [e] at hm
theorem lP (z : Int) (hz : rz z) : Means false Tryz.prog 105 [bigZ z] (bigZ (-z)) :=by
 have hlz :=bQ hz
 have hb :=fC z
 have hww :=w64 (x :=- sg z) (by omega) (by omega)
 have cm :=eS (- sg z) (-z) (dg (ab z)) (by omega) (aO _) (by rw [aS,pN]) (fun _ => (tK z).symm)
 refine aF false 13 [.cell 2 39] Tryz.func105 rfl rfl rfl (by simp) (by decide) rfl fun X hX => ?_
 (repeat (refine a7 [0,1,2,5] hX mixed rfl ?_;simp [go_sem];try refine ⟨by kernel_rfl,?_⟩))
 first | refine a8 (aQ z hz) ?_ | refine aA (aQ z hz) ?_
 try (simp [go_sem];try refine ⟨by kernel_rfl,?_⟩)
 refine aC (by simp [go_sem]) ?_
 (repeat (refine a7 [0,1,2,5] hX mixed rfl ?_;simp [go_sem,hww];try refine ⟨by kernel_rfl,?_⟩))
 first | refine a8 (cm) ?_ | refine aA (cm) ?_
 try (simp [go_sem];try refine ⟨by kernel_rfl,?_⟩)
 (repeat (refine a7 [0,1,2,5] hX mixed rfl ?_;simp [go_sem];try refine ⟨by kernel_rfl,?_⟩))
theorem KT (z w : Int) (h : sg z = 0 ∨ sg w = 0 ∨ sg z = sg w) : orI .i64 (sg z) (sg w) = (if sg z = 0 then sg w else sg z) :=by
 rcases aE z with ⟨a,_⟩ | ⟨a,_⟩ | ⟨a,_⟩ <;> rcases aE w with ⟨b,_⟩ | ⟨b,_⟩ | ⟨b,_⟩ <;> rw [a,b] at h ⊢ <;> first | (exact absurd h (by decide)) | rfl | decide
set_option maxHeartbeats 4000000 in
set_option maxRecDepth 20000 in
theorem EN (z w : Int) (hz : rz z) (hw : rz w) : Means false Tryz.prog 84 [bigZ z,bigZ w] (res (z + w)) :=by
 have hlz :=bQ hz
 have hlw :=bQ hw
 have hza :=aV z
 have hwa :=aV w
 have hsum : ab (z + w) ≤ ab z + ab w :=by rcases aE z with h | h | h <;> rcases aE w with h2 | h2 | h2 <;> rcases aE (z + w) with h3 | h3 | h3 <;> omega
 have hl61 : (dg (ab z + ab w)).length ≤ 61 :=by
  rw [aR]
  unfold rz at hz hw
  have : (1048576 : Int) ^ 61 = 1048576 ^ 60 * 1048576 :=Int.pow_succ _ _
  omega
 have hlr : (dg (ab (z + w))).length ≤ 61 :=Nat.le_trans (aY hsum) hl61
 have ck :=zR (z + w) (by omega)
 by_cases hc : sg z = 0 ∨ sg w = 0 ∨ sg z = sg w
 · have cp :=zS (dg (ab z)) (dg (ab w)) (by omega) (by omega) (aO _) (aO _)
   rw [aS,aS] at cp
   have hab : ab z + ab w = ab (z + w) :=by rcases aE z with h | h | h <;> rcases aE w with h2 | h2 | h2 <;> rcases aE (z + w) with h3 | h3 | h3 <;> omega
   rw [hab] at cp
   have hor :=KT z w hc
   have cm :=eS (if sg z = 0 then sg w else sg z) (z + w) (dg (ab (z + w))) (by omega) (aO _) (by rw [aS]) (fun h => by
    rcases aE z with h1 | h1 | h1 <;> rcases aE w with h2 | h2 | h2 <;> rcases aE (z + w) with h3 | h3 | h3 <;> rw [h1.1,h2.1,h3.1] <;> first | omega | (simp; done) | (exfalso; omega))
   have hcb : (decide (sg z = 0) || (decide (sg w = 0) || decide (sg z = sg w))) = true :=by simpa using hc
   refine aF false 71 [.cell 4 39,.tmp 5] Tryz.func84 rfl rfl rfl (by simp) (by decide) rfl fun X hX => ?_
   (repeat (refine a7 q14x3 hX mixed rfl ?_;simp [go_sem];try refine ⟨by kernel_rfl,?_⟩))
   first | refine a8 (aQ z hz) ?_ | refine aA (aQ z hz) ?_
   try (simp [go_sem];try refine ⟨by kernel_rfl,?_⟩)
   first | refine aP (fun hg => aQ w hw) ?_ | refine aM (fun hg => aQ w hw) ?_
   try (simp [go_sem];try refine ⟨by kernel_rfl,?_⟩)
   refine aC (by simp [go_sem]) ?_
   (repeat (refine a7 q14x3 hX mixed rfl ?_;simp [go_sem];try refine ⟨by kernel_rfl,?_⟩))
   refine aK (by simp [go_sem,Bool.or_assoc]; simpa using hc) ?_
   (repeat (refine a7 q14x3 hX mixed rfl ?_;simp [go_sem,hor];try refine ⟨by kernel_rfl,?_⟩))
   first | refine a8 (cp) ?_ | refine aA (cp) ?_
   try (simp [go_sem,hor];try refine ⟨by kernel_rfl,?_⟩)
   first | refine a8 (cm) ?_ | refine aA (cm) ?_
   try (simp [go_sem];try refine ⟨by kernel_rfl,?_⟩)
   first | refine a8 (ck) ?_ | refine aA (ck) ?_
   try (simp [go_sem];try refine ⟨by kernel_rfl,?_⟩)
   (repeat (refine a7 q14x3 hX mixed rfl ?_;simp [go_sem];try refine ⟨by kernel_rfl,?_⟩))
 · have hc0 : ¬ sg z = 0 :=fun h => hc (.inl h)
   have hc1 : ¬ sg w = 0 :=fun h => hc (.inr (.inl h))
   have hc2 : ¬ sg z = sg w :=fun h => hc (.inr (.inr h))
   have cl :=tL (dg (ab z)) (dg (ab w)) (by omega) (by omega) (aO _) (aO _)
   rw [aS,aS] at cl
   by_cases hlt : ab z < ab w
   · have cn :=l3 (dg (ab w)) (dg (ab z)) (by omega) (by omega) (aO _) (aO _) (by rw [aS,aS]; omega)
     rw [aS,aS] at cn
     have hab : ab w - ab z = ab (z + w) :=by rcases aE z with h | h | h <;> rcases aE w with h2 | h2 | h2 <;> rcases aE (z + w) with h3 | h3 | h3 <;> omega
     rw [hab] at cn
     have cm :=eS (sg w) (z + w) (dg (ab (z + w))) (by omega) (aO _) (by rw [aS]) (fun h => by rcases aE z with h1 | h1 | h1 <;> rcases aE w with h2 | h2 | h2 <;> rcases aE (z + w) with h3 | h3 | h3 <;> omega)
     rw [decide_eq_true hlt] at cl
     refine aF false 71 [.cell 4 39,.tmp 5] Tryz.func84 rfl rfl rfl (by simp) (by decide) rfl fun X hX => ?_
     (repeat (refine a7 q14x3 hX mixed rfl ?_;simp [go_sem];try refine ⟨by kernel_rfl,?_⟩))
     first | refine a8 (aQ z hz) ?_ | refine aA (aQ z hz) ?_
     try (simp [go_sem];try refine ⟨by kernel_rfl,?_⟩)
     first | refine aP (fun hg => aQ w hw) ?_ | refine aM (fun hg => aQ w hw) ?_
     try (simp [go_sem];try refine ⟨by kernel_rfl,?_⟩)
     refine aC (by simp [go_sem]) ?_
     (repeat (refine a7 q14x3 hX mixed rfl ?_;simp [go_sem];try refine ⟨by kernel_rfl,?_⟩))
     refine aC (by simp [go_sem,hc0,hc1,hc2]) ?_
     (repeat (refine a7 q14x3 hX mixed rfl ?_;simp [go_sem];try refine ⟨by kernel_rfl,?_⟩))
     first | refine a8 (cl) ?_ | refine aA (cl) ?_
     try (simp [go_sem];try refine ⟨by kernel_rfl,?_⟩)
     refine aK (by simp [go_sem]) ?_
     (repeat (refine a7 q14x3 hX mixed rfl ?_;simp [go_sem];try refine ⟨by kernel_rfl,?_⟩))
     first | refine a8 (cn) ?_ | refine aA (cn) ?_
     try (simp [go_sem];try refine ⟨by kernel_rfl,?_⟩)
     first | refine a8 (cm) ?_ | refine aA (cm) ?_
     try (simp [go_sem];try refine ⟨by kernel_rfl,?_⟩)
     first | refine a8 (ck) ?_ | refine aA (ck) ?_
     try (simp [go_sem];try refine ⟨by kernel_rfl,?_⟩)
     (repeat (refine a7 q14x3 hX mixed rfl ?_;simp [go_sem];try refine ⟨by kernel_rfl,?_⟩))
   · have cn :=l3 (dg (ab z)) (dg (ab w)) (by omega) (by omega) (aO _) (aO _) (by rw [aS,aS]; omega)
     rw [aS,aS] at cn
     have hab : ab z - ab w = ab (z + w) :=by rcases aE z with h | h | h <;> rcases aE w with h2 | h2 | h2 <;> rcases aE (z + w) with h3 | h3 | h3 <;> omega
     rw [hab] at cn
     have cm :=eS (sg z) (z + w) (dg (ab (z + w))) (by omega) (aO _) (by rw [aS]) (fun h => by rcases aE z with h1 | h1 | h1 <;> rcases aE w with h2 | h2 | h2 <;> rcases aE (z + w) with h3 | h3 | h3 <;> omega)
     rw [decide_eq_false hlt] at cl
     refine aF false 71 [.cell 4 39,.tmp 5] Tryz.func84 rfl rfl rfl (by simp) (by decide) rfl fun X hX => ?_
     (repeat (refine a7 q14x3 hX mixed rfl ?_;simp [go_sem];try refine ⟨by kernel_rfl,?_⟩))
     first | refine a8 (aQ z hz) ?_ | refine aA (aQ z hz) ?_
     try (simp [go_sem];try refine ⟨by kernel_rfl,?_⟩)
     first | refine aP (fun hg => aQ w hw) ?_ | refine aM (fun hg => aQ w hw) ?_
     try (simp [go_sem];try refine ⟨by kernel_rfl,?_⟩)
     refine aC (by simp [go_sem]) ?_
     (repeat (refine a7 q14x3 hX mixed rfl ?_;simp [go_sem];try refine ⟨by kernel_rfl,?_⟩))
     refine aC (by simp [go_sem,hc0,hc1,hc2]) ?_
     (repeat (refine a7 q14x3 hX mixed rfl ?_;simp [go_sem];try refine ⟨by kernel_rfl,?_⟩))
     first | refine a8 (cl) ?_ | refine aA (cl) ?_
     try (simp [go_sem];try refine ⟨by kernel_rfl,?_⟩)
     refine aC (by simp [go_sem]) ?_
     (repeat (refine a7 q14x3 hX mixed rfl ?_;simp [go_sem];try refine ⟨by kernel_rfl,?_⟩))
     first | refine a8 (cn) ?_ | refine aA (cn) ?_
     try (simp [go_sem];try refine ⟨by kernel_rfl,?_⟩)
     first | refine a8 (cm) ?_ | refine aA (cm) ?_
     try (simp [go_sem];try refine ⟨by kernel_rfl,?_⟩)
     first | refine a8 (ck) ?_ | refine aA (ck) ?_
     try (simp [go_sem];try refine ⟨by kernel_rfl,?_⟩)
     (repeat (refine a7 q14x3 hX mixed rfl ?_;simp [go_sem];try refine ⟨by kernel_rfl,?_⟩))
theorem JH (z w : Int) (hz : rz z) (hw : rz w) : Means false Tryz.prog 73 [bigZ z,bigZ w] (res (z - w)) :=by
 have hadd :=EN z (-w) hz (iQ hw)
 rw [← Int.sub_eq_add_neg] at hadd
 refine aF false 21 [.cell 4 39,.tmp 5] Tryz.func73 rfl rfl rfl (by simp) (by decide) rfl fun X hX => ?_
 (repeat (refine a7 [0,1,2,3,4,5,6,7,10] hX mixed rfl ?_;simp [go_sem];try refine ⟨by kernel_rfl,?_⟩))
 first | refine a8 (aQ w hw) ?_ | refine aA (aQ w hw) ?_
 try (simp [go_sem];try refine ⟨by kernel_rfl,?_⟩)
 refine aC (by simp [go_sem]) ?_
 (repeat (refine a7 [0,1,2,3,4,5,6,7,10] hX mixed rfl ?_;simp [go_sem];try refine ⟨by kernel_rfl,?_⟩))
 first | refine a8 (lP w hw) ?_ | refine aA (lP w hw) ?_
 try (simp [go_sem];try refine ⟨by kernel_rfl,?_⟩)
 first | refine a8 (hadd) ?_ | refine aA (hadd) ?_
 try (simp [go_sem];try refine ⟨by kernel_rfl,?_⟩)
 try (repeat refine And.intro (by first | omega | (unfold maxLen;omega) | kernel_rfl | (constructor <;> first | omega | (unfold maxLen;omega)) | grind) ?_)
 (repeat (refine a7 [0,1,2,3,4,5,6,7,10] hX mixed rfl ?_;simp [go_sem];try refine ⟨by kernel_rfl,?_⟩))
set_option maxHeartbeats 4000000 in
theorem fU (z w : Int) (hz : rz z) (hw : rz w) : Means false Tryz.prog 72 [bigZ z,bigZ w] (res (z * w)) :=by
 have hlz :=bQ hz
 have hlw :=bQ hw
 have ht :=pO (dg (ab z)) (dg (ab w)) (by omega) (by omega) (aO _) (aO _)
 rw [aS,aS] at ht
 have eab : ab z * ab w = ab (z * w) :=(pP z w).symm
 rw [eab] at ht
 have hl120 : (dg (ab (z * w))).length ≤ 120 :=by
  rw [aR,← eab]
  unfold rz at hz hw
  have e : (1048576 : Int) ^ 120 = 1048576 ^ 60 * 1048576 ^ 60 :=by rw [← Int.pow_add]
  rw [e]
  have h1 :=aV z
  have h2 :=aV w
  rcases Int.lt_or_le 0 (ab w) with q | q
  · exact Int.lt_of_lt_of_le (Int.mul_lt_mul_of_pos_right hz q) (Int.mul_le_mul_of_nonneg_left (by omega) (by omega))
  · have : ab w = 0 :=by omega
    rw [this,Int.mul_zero]; exact Int.mul_pos (bV 60) (bV 60)
 have hm :=eS (sg z * sg w) (z * w) (dg (ab (z * w))) (by omega) (aO _) (by rw [aS]) (fun _ => (iR z w).symm)
 have hws : IntKind.i64.wrap (sg z * sg w) = sg z * sg w :=by
  rw [← iR]
  have :=fC (z * w)
  exact w64 (by omega) (by omega)
 have ck :=zR (z * w) (by omega)
 refine aF false 29 [.cell 4 39,.tmp 5] Tryz.func72 rfl rfl rfl (by simp) (by decide) rfl fun X hX => ?_
 (repeat (refine a7 [0,1,2,3,4,5,13] hX mixed rfl ?_;simp [go_sem];try refine ⟨by kernel_rfl,?_⟩))
 first | refine a8 (aQ z hz) ?_ | refine aA (aQ z hz) ?_
 try (simp [go_sem];try refine ⟨by kernel_rfl,?_⟩)
 first | refine aP (fun hg => aQ w hw) ?_ | refine aM (fun hg => aQ w hw) ?_
 try (simp [go_sem];try refine ⟨by kernel_rfl,?_⟩)
 refine aC (by simp [go_sem]) ?_
 (repeat (refine a7 [0,1,2,3,4,5,13] hX mixed rfl ?_;simp [go_sem,hws];try refine ⟨by kernel_rfl,?_⟩))
 first | refine a8 (ht) ?_ | refine aA (ht) ?_
 try (simp [go_sem,hws];try refine ⟨by kernel_rfl,?_⟩)
 first | refine a8 (hm) ?_ | refine aA (hm) ?_
 try (simp [go_sem];try refine ⟨by kernel_rfl,?_⟩)
 first | refine a8 (ck) ?_ | refine aA (ck) ?_
 try (simp [go_sem];try refine ⟨by kernel_rfl,?_⟩)
 (repeat (refine a7 [0,1,2,3,4,5,13] hX mixed rfl ?_;simp [go_sem];try refine ⟨by kernel_rfl,?_⟩))
end Go.Proofs.YthibhamepjhfjaaGreatDoor

namespace Go.Proofs.YthibhamepjhfjaaGreatDoor
open Go.RowKit Go.Ab
theorem qE {P : Program} {f : FuncId} {E k : Nat} {es : List AV} (pre : List AV) {rest : List AV} {r : AV} (hz : zoneEs es = true) (hpre : ∀ e ∈ pre,e.zone = true) (hrest : ∀ e ∈ rest,e.zone = true) (hrz : r.zone = true)
  (h : Means false P f (pre ++ .sl es :: rest) r) : MeansH P f [.row ⟨E,k,es⟩] (pre ++ .ow 0 :: rest) r [.dead] :=by
 intro w M loc vs hM hg hS hsz hargs
 have hob :=hS.obj 0 ⟨E,k,es⟩ rfl
 obtain ⟨xs,hown,hxs⟩ :=hob.own
 have hlt : ∀ g,(loc 0).ownBlock = some g → g < w.heap.size :=fun g hg => (hown.lt g hg).2
 let MM : Nat → Prop :=fun b => M b ∨ (loc 0).ownBlock = some b
 have hMM : ∀ b,MM b → b < w.heap.size :=fun b hb => hb.elim (hM b) (hlt b)
 have hfr : RepZ w MM (loc 0) (.sl es) :=by
  rcases hown.2 with ⟨hn,h0⟩ | ⟨g,cap,cur,hn,hbg,hheap,hnc,hcm,hcs,htake⟩
  · have hes : es = [] :=List.eq_nil_of_length_eq_zero h0
    rw [hn,hes]
    exact .sl none 0 k [] (fun _ => undef) (by simp) (by simp) (by simp) (by simp) (by simp) (by simp)
  · have hcells :=hown.cells (g :=g) (by rw [hn]; rfl)
    have hb' : MM g :=.inr (by rw [hn]; rfl)
    rw [hn]
    refine .sl _ cap k es (fun j => xs.getD j undef) hob.flat (fun _ => ⟨_,rfl,hb'⟩) (fun ad had j hj => ?_) (fun j e he => ?_) hnc hcm
    · cases had
      have hx : xs[j]? = some (xs[j]'(by rw [hown.1]; exact hj)) :=List.getElem?_eq_getElem _
      rw [hcells j _ hx,List.getD_eq_getElem?_getD,hx]; rfl
    · obtain ⟨x,hx,hr⟩ :=hxs j e he
      have : xs.getD j undef = x :=by rw [List.getD_eq_getElem?_getD,hx]; rfl
      rw [this]
      exact (hr.1.repZ (eJ hz he)).mono (fun _ _ => rfl) (fun b hb => .inl hb)
 refine (h MM w vs hMM (hg.mono (fun _ _ => rfl) fun _ hb => .inl hb) (by rw [hsz]; simp) fun j x e hx he => ?_).mono fun e w' ⟨x,he,hb,hr⟩ => ?_
 · rcases Nat.lt_trichotomy j pre.length with q | q | q
   · rw [List.getElem?_append_left q] at he
     have hra :=(hargs j x e hx (by rw [List.getElem?_append_left q]; exact he)).1
     exact (hra.repZ (hpre e (List.mem_of_getElem? he))).mono (fun _ _ => rfl) (fun b hb => .inl hb)
   · subst q
     rw [List.getElem?_append_right (Nat.le_refl _),Nat.sub_self,List.getElem?_cons_zero,Option.some.injEq] at he
     subst he
     have :=(hargs pre.length x (.ow 0) hx (by rw [List.getElem?_append_right (Nat.le_refl _),Nat.sub_self]; rfl)).1
     have e1 : x = loc 0 :=this
     rw [e1]; exact hfr
   · obtain ⟨m,hm⟩ : ∃ m,j - pre.length = m + 1 :=⟨j - pre.length - 1,by omega⟩
     rw [List.getElem?_append_right (by omega),hm,List.getElem?_cons_succ] at he
     have hra :=(hargs j x e hx (by rw [List.getElem?_append_right (by omega),hm,List.getElem?_cons_succ]; exact he)).1
     exact (hra.repZ (hrest e (List.mem_of_getElem? he))).mono (fun _ _ => rfl) (fun b hb => .inl hb)
 · refine ⟨x,fun b => b < w'.heap.size ∧ (w.heap.size ≤ b ∨ MM b),loc,he,⟨fun id o ho => ?_,fun i j oi oj _ hi => ?_,fun id m hm => ?_,fun i j mi mj _ hi => ?_,fun id hid => ?_⟩,⟨hb.os,hb.tape,hb.output,hb.size,fun k hk _ => hb.block k hk⟩,
    fun b hb' => ⟨Nat.lt_of_lt_of_le (hM b hb') hb.size,.inr (.inl hb')⟩,fun b hb' => ⟨hb'.1,?_⟩,fun _ _ => rfl,(hr.mono (fun _ _ => rfl) fun b hb' => ⟨hb'.1,hb'.2.imp id (·.2)⟩).rep,c9 hrz _,Nat.le_refl _⟩
   · cases id with
     | zero => simp at ho
     | succ id => simp at ho
   · cases i with
     | zero => simp at hi
     | succ i => simp at hi
   · cases id with
     | zero => simp at hm
     | succ id => simp at hm
   · cases i with
     | zero => simp at hi
     | succ i => simp at hi
   · exact hS.one id hid
   · rcases hb'.2 with q | q | q
     · exact .inr (.inl q)
     · exact .inl q
     · exact .inr (.inr (.inl ⟨0,_,rfl,q⟩))
end Go.Proofs.YthibhamepjhfjaaGreatDoor

namespace Go.Proofs.YthibhamepjhfjaaGreatDoor
open Go.RowKit Go.Ab
attribute [local irreducible] AWP Go.Ab.Sub Means MeansH CallK CallG CallT CallGT CallU
theorem sab {s t x : Int} (h : x = s * t) (h0 : 0 ≤ t) (hs : s = -1 ∨ (s = 0 ∧ t = 0) ∨ s = 1) : ab x = t ∧ (x ≠ 0 → s = sg x) :=by
 subst h
 rcases hs with rfl | ⟨rfl,rfl⟩ | rfl
 · rcases aE (-1 * t) with h | h | h <;> refine ⟨by omega,fun _ => by omega⟩
 · simp [ab]
 · rcases aE (1 * t) with h | h | h <;> refine ⟨by omega,fun _ => by omega⟩
set_option maxHeartbeats 8000000 in
set_option maxRecDepth 20000 in
theorem JI (z w : Int) (hz : rz z) (hw : rz w) (h0 : w ≠ 0) : Means false Tryz.prog 83 [bigZ z,bigZ w] (.tup [bigZ (dq z w),bigZ (dr z w),ii 0]) :=by
 have hlz :=bQ hz
 have hlw :=bQ hw
 have hza :=aV z
 have hD : 0 < ab w :=by rcases aE w with h | h | h <;> omega
 have hs : sg w ≠ 0 :=by rcases aE w with h | h | h <;> omega
 have hmm : -1 ≤ sg z * sg w ∧ sg z * sg w ≤ 1 :=by rw [← iR]; exact fC _
 have hww :=w64 (x :=sg z * sg w) (by omega) (by omega)
 have hov :=zT (dg (ab z)) (dg (ab w)) (by omega) (by omega) (aO _) (aO _) (by rw [aS]; exact hD)
 rw [aS,aS] at hov
 have h1 :=Int.emod_nonneg (ab z) (show ab w ≠ 0 by omega)
 have h2 :=Int.emod_lt_of_pos (ab z) hD
 have h3 :=Int.ediv_nonneg hza (show 0 ≤ ab w by omega)
 have h4 :=Int.ediv_le_self (ab w) hza
 obtain ⟨df1,df2⟩ :=rF (z :=z) h0
 have hlq : (dg (ab z / ab w)).length ≤ 60 :=Nat.le_trans (aY h4) hlz
 have hlr : (dg (ab z % ab w)).length ≤ 60 :=Nat.le_trans (aY (by omega)) hlw
 have hq1 : (dg (ab z / ab w + 1)).length ≤ 61 :=by
  rw [aR] at hlq ⊢
  have : (1048576 : Int) ^ 61 = 1048576 ^ 60 * 1048576 :=Int.pow_succ _ _
  omega
 have hlm : (dg (ab w - ab z % ab w)).length ≤ 60 :=Nat.le_trans (aY (by omega)) hlw
 have hrl : (dg (ab z % ab w)).length = 0 ↔ ab z % ab w = 0 :=by rw [List.length_eq_zero_iff,cB]; omega
 have hzq : z = 0 → ab z / ab w = 0 ∧ ab z % ab w = 0 :=fun h => by subst h; rw [show ab 0 = 0 from rfl]; simp
 by_cases hc : sg z * sg w < 0 ∧ ab z % ab w ≠ 0
 · obtain ⟨e1,e2⟩ :=df1 hc
   obtain ⟨hc1,hc2⟩ :=hc
   have cp :=zS (dg (ab z / ab w)) [1] (by omega) (by simp) (aO _) (aU.2 ⟨by omega,cP⟩)
   rw [bF h3,show val [1] = 1 from rfl] at cp
   have cn :=l3 (dg (ab w)) (dg (ab z % ab w)) (by omega) (by omega) (aO _) (aO _) (by rw [aS,bF h1]; omega)
   rw [aS,bF h1] at cn
   obtain ⟨p1,p2⟩ :=sab (s :=-1) (t :=ab z / ab w + 1) (x :=dq z w) (by rw [e1]; omega) (by omega) (.inl rfl)
   obtain ⟨p3,p4⟩ :=sab (s :=sg w) (t :=ab w - ab z % ab w) (x :=dr z w) e2 (by omega) (by rcases aE w with h | h | h <;> omega)
   have m1 :=eS (-1) (dq z w) (dg (ab z / ab w + 1)) (by omega) (aO _) (by rw [bF (by omega),p1]) p2
   have m2 :=eS (sg w) (dr z w) (dg (ab w - ab z % ab w)) (by omega) (aO _) (by rw [bF (by omega),p3]) p4
   have hn1 : ¬ 0 ≤ sg z * sg w :=by omega
   have hn2 : ¬ (dg (ab z % ab w)).length = 0 :=fun q => hc2 (hrl.1 q)
   have hn3 : ¬ dg (ab z % ab w) = [] :=fun q => hn2 (by rw [q]; rfl)
   have cK :=qE (E :=3) (k :=1) [il (dg (ab z / ab w))] (es :=[ii 1]) (rest :=[]) rfl (by simp [AV.zone]) (by simp) rfl cp
   generalize dq z w = x at *
   generalize dr z w = y at *
   generalize dg (ab z / ab w) = Lq at *
   generalize dg (ab z % ab w) = Lr at *
   generalize dg (ab z / ab w + 1) = Lp at *
   generalize dg (ab w - ab z % ab w) = Lm at *
   refine aF false 65 [.cell 4 39,.cell 5 39,.tmp 6] Tryz.func83 rfl rfl rfl (by simp) (by decide) rfl fun X hX => ?_
   (repeat (refine a7 q14x2 hX mixed rfl ?_;simp [go_sem];try refine ⟨by kernel_rfl,?_⟩))
   first | refine a8 (aQ z hz) ?_ | refine aA (aQ z hz) ?_
   try (simp [go_sem];try refine ⟨by kernel_rfl,?_⟩)
   first | refine aP (fun hg => aQ w hw) ?_ | refine aM (fun hg => aQ w hw) ?_
   try (simp [go_sem];try refine ⟨by kernel_rfl,?_⟩)
   refine aC (by simp [go_sem]) ?_
   (repeat (refine a7 q14x2 hX mixed rfl ?_;simp [go_sem];try refine ⟨by kernel_rfl,?_⟩))
   refine aC (by simp [go_sem,hs]) ?_
   (repeat (refine a7 q14x2 hX mixed rfl ?_;simp [go_sem];try refine ⟨by kernel_rfl,?_⟩))
   first | refine a8 (hov) ?_ | refine aA (hov) ?_
   try (simp [go_sem];try refine ⟨by kernel_rfl,?_⟩)
   (repeat (refine a7 q14x2 hX mixed rfl ?_;simp [go_sem,hww,hn1];try refine ⟨by kernel_rfl,?_⟩))
   refine aC (by simp [go_sem,hww,hn1,hn2,hn3]; try omega) ?_
   (repeat (refine a7 q14x2 hX mixed rfl ?_;simp [go_sem];try refine ⟨by kernel_rfl,?_⟩))
   refine aI [4] cK (by simp [go_sem]) ?_
   try (simp [go_sem];try refine ⟨by kernel_rfl,?_⟩)
   first | refine a8 (m1) ?_ | refine aA (m1) ?_
   try (simp [go_sem];try refine ⟨by kernel_rfl,?_⟩)
   first | refine a8 (cn) ?_ | refine aA (cn) ?_
   try (simp [go_sem];try refine ⟨by kernel_rfl,?_⟩)
   first | refine a8 (m2) ?_ | refine aA (m2) ?_
   try (simp [go_sem];try refine ⟨by kernel_rfl,?_⟩)
   (repeat (refine a7 q14x2 hX mixed rfl ?_;simp [go_sem];try refine ⟨by kernel_rfl,?_⟩))
 · obtain ⟨e1,e2⟩ :=df2 hc
   have hss : sg z * sg w = -1 ∨ (sg z * sg w = 0 ∧ ab z / ab w = 0) ∨ sg z * sg w = 1 :=by
    rcases aE z with h | h | h
    · rcases aE w with h' | h' | h' <;> rw [h.1,h'.1] <;> omega
    · right; left; exact ⟨by rw [h.1]; simp,(hzq h.2.1).1⟩
    · rcases aE w with h' | h' | h' <;> rw [h.1,h'.1] <;> omega
   obtain ⟨p1,p2⟩ :=sab (s :=sg z * sg w) (t :=ab z / ab w) (x :=dq z w) e1 h3 hss
   obtain ⟨p3,p4⟩ :=sab (s :=sg z) (t :=ab z % ab w) (x :=dr z w) e2 h1 (by
    rcases aE z with h | h | h
    · omega
    · have :=hzq h.2.1; omega
    · omega)
   have m1 :=eS (sg z * sg w) (dq z w) (dg (ab z / ab w)) (by omega) (aO _) (by rw [bF h3,p1]) p2
   have m2 :=eS (sg z) (dr z w) (dg (ab z % ab w)) (by omega) (aO _) (by rw [bF h1,p3]) p4
   have hcb : 0 ≤ sg z * sg w ∨ (dg (ab z % ab w)).length = 0 :=by
    rcases Int.lt_or_le (sg z * sg w) 0 with q | q
    · right; exact hrl.2 (Classical.byContradiction fun r => hc ⟨q,r⟩)
    · exact .inl q
   generalize dq z w = x at *
   generalize dr z w = y at *
   generalize dg (ab z / ab w) = Lq at *
   generalize dg (ab z % ab w) = Lr at *
   refine aF false 65 [.cell 4 39,.cell 5 39,.tmp 6] Tryz.func83 rfl rfl rfl (by simp) (by decide) rfl fun X hX => ?_
   (repeat (refine a7 q14x2 hX mixed rfl ?_;simp [go_sem];try refine ⟨by kernel_rfl,?_⟩))
   first | refine a8 (aQ z hz) ?_ | refine aA (aQ z hz) ?_
   try (simp [go_sem];try refine ⟨by kernel_rfl,?_⟩)
   first | refine aP (fun hg => aQ w hw) ?_ | refine aM (fun hg => aQ w hw) ?_
   try (simp [go_sem];try refine ⟨by kernel_rfl,?_⟩)
   refine aC (by simp [go_sem]) ?_
   (repeat (refine a7 q14x2 hX mixed rfl ?_;simp [go_sem];try refine ⟨by kernel_rfl,?_⟩))
   refine aC (by simp [go_sem,hs]) ?_
   (repeat (refine a7 q14x2 hX mixed rfl ?_;simp [go_sem];try refine ⟨by kernel_rfl,?_⟩))
   first | refine a8 (hov) ?_ | refine aA (hov) ?_
   try (simp [go_sem];try refine ⟨by kernel_rfl,?_⟩)
   (repeat (refine a7 q14x2 hX mixed rfl ?_;simp [go_sem,hww];try refine ⟨by kernel_rfl,?_⟩))
   refine aK (by rcases hcb with q | q <;> simp [go_sem,hww,q]; try (right; exact List.length_eq_zero_iff.1 q)) ?_
   (repeat (refine a7 q14x2 hX mixed rfl ?_;simp [go_sem,hww];try refine ⟨by kernel_rfl,?_⟩))
   first | refine a8 (m1) ?_ | refine aA (m1) ?_
   try (simp [go_sem,hww];try refine ⟨by kernel_rfl,?_⟩)
   first | refine a8 (m2) ?_ | refine aA (m2) ?_
   try (simp [go_sem];try refine ⟨by kernel_rfl,?_⟩)
   (repeat (refine a7 q14x2 hX mixed rfl ?_;simp [go_sem];try refine ⟨by kernel_rfl,?_⟩))
end Go.Proofs.YthibhamepjhfjaaGreatDoor

namespace Go.Proofs.YthibhamepjhfjaaGreatDoor
open Go.RowKit Go.Ab
attribute [local irreducible] AWP Go.Ab.Sub Means MeansH CallK CallG CallT CallGT CallU
end Go.Proofs.YthibhamepjhfjaaGreatDoor

namespace Go.Proofs.YthibhamepjhfjaaGreatDoor
open Go.RowKit Go.Ab
attribute [local irreducible] AWP Go.Ab.Sub Means MeansH CallK CallG CallT CallGT CallU
theorem tM (z : Int) : ab z = (z.natAbs : Int) :=by unfold ab; split <;> omega
theorem JJ {n : Nat} (h : n ≠ 0) : sg (n : Int) = 1 :=by rcases aE (n : Int) with q | q | q <;> omega
theorem KU (n : Nat) : ab (n : Int) = n :=by unfold ab; rw [if_neg (by omega)]
set_option maxHeartbeats 4000000 in
set_option maxRecDepth 20000 in
theorem yF (z w : Int) (hz : rz z) (hw : rz w) : Means false Tryz.prog 79 [bigZ z,bigZ w] (.tup [bigZ (Int.gcd z w : Int),ii 0]) :=by
 have hlz :=bQ hz
 have hlw :=bQ hw
 rw [tM] at hlz hlw
 have hzz : bigZ z = big2 (sg z) (dg (z.natAbs : Int)) :=by show big2 _ (dg (ab z)) = _; rw [tM]
 have hww : bigZ w = big2 (sg w) (dg (w.natAbs : Int)) :=by show big2 _ (dg (ab w)) = _; rw [tM]
 have hg : Int.gcd z w = Nat.gcd z.natAbs w.natAbs :=rfl
 rw [hg]
 have r1 :=aQ z hz
 have r2 :=aQ w hw
 rw [hzz] at r1
 rw [hww] at r2
 rw [hzz,hww]
 have hsz :=sg z
 generalize sg z = s1 at *
 generalize sg w = s2 at *
 generalize z.natAbs = m at *
 generalize w.natAbs = n at *
 refine aF false 36 [.cell 4 39,.tmp 5] Tryz.func79 rfl rfl rfl (by simp) (by decide) rfl fun X hX => ?_
 (repeat (refine a7 q14x5 hX mixed rfl ?_;simp [go_sem];try refine ⟨by kernel_rfl,?_⟩))
 first | refine a8 (r1) ?_ | refine aA (r1) ?_
 try (simp [go_sem];try refine ⟨by kernel_rfl,?_⟩)
 first | refine aP (fun hg => r2) ?_ | refine aM (fun hg => r2) ?_
 try (simp [go_sem];try refine ⟨by kernel_rfl,?_⟩)
 refine aC (by simp [go_sem]) ?_
 (repeat (refine a7 q14x5 hX mixed rfl ?_;simp [go_sem];try refine ⟨by kernel_rfl,?_⟩))
 refine aH (fun x : Nat × Nat => ⟨mkE [(4,.el 2 2 0 0),(6,il (dg (x.1 : Int))),(7,il (dg (x.2 : Int)))],[.row ⟨39,2,[big2 s1 (dg (m : Int))]⟩,.row ⟨39,2,[big2 s2 (dg (n : Int))]⟩,.row ⟨39,2,[.agg [ii 0,.nil]]⟩]⟩)
  (fun x => (dg (x.1 : Int)).length ≤ 60 ∧ (dg (x.2 : Int)).length ≤ 60 ∧ Nat.gcd x.1 x.2 = Nat.gcd m n) (fun x => x.2) (m,n) ?_ ?_ ?_
 · refine aG _ [.old 0 ⟨39,2,[big2 s1 (dg (m : Int))]⟩,.old 1 ⟨39,2,[big2 s2 (dg (n : Int))]⟩,.old 2 ⟨39,2,[.agg [ii 0,.nil]]⟩] (by simp [go_sem]) ?_
   simp [go_sem]
 · exact ⟨hlz,hlw,rfl⟩
 · rintro ⟨x,y⟩ ⟨h1,h2,h3⟩
   simp only [] at h1 h2 h3
   have hy : 0 < (dg (y : Int)).length ↔ ¬ y = 0 :=by rw [List.length_pos_iff,Ne,cB]; omega
   (repeat (refine a7 q14x5 hX mixed rfl ?_;simp [go_sem];try refine ⟨by kernel_rfl,?_⟩))
   refine aB (b :=decide (y ≠ 0)) (by simp [go_sem,hy]) (fun hd => ?_) (fun hd => ?_)
   · simp only [decide_eq_true_eq] at hd
     have co :=zT (dg (x : Int)) (dg (y : Int)) (by omega) (by omega) (aO _) (aO _) (by rw [bF (by omega)]; omega)
     rw [bF (by omega),bF (by omega)] at co
     have em : (x : Int) % (y : Int) = ((x % y : Nat) : Int) :=by omega
     rw [em] at co
     have hlt :=Nat.mod_lt x (show 0 < y by omega)
     have hle : (dg ((x % y : Nat) : Int)).length ≤ 60 :=Nat.le_trans (aY (by omega)) h2
     have hgc : Nat.gcd y (x % y) = Nat.gcd m n :=by rw [← h3,Nat.gcd_comm x y,Nat.gcd_rec y x,Nat.gcd_comm]
     generalize x % y = z' at *
     (repeat (refine a7 q14x5 hX mixed rfl ?_;simp [go_sem];try refine ⟨by kernel_rfl,?_⟩))
     first | refine a8 (co) ?_ | refine aA (co) ?_
     try (simp [go_sem];try refine ⟨by kernel_rfl,?_⟩)
     (repeat (refine a7 q14x5 hX mixed rfl ?_;simp [go_sem];try refine ⟨by kernel_rfl,?_⟩))
     refine ⟨y,z',⟨h2,hle,hgc⟩,hlt,?_⟩
     refine aG _ [.old 0 ⟨39,2,[big2 s1 (dg (m : Int))]⟩,.old 1 ⟨39,2,[big2 s2 (dg (n : Int))]⟩,.old 2 ⟨39,2,[.agg [ii 0,.nil]]⟩] (by simp [go_sem]) ?_
     simp [go_sem]
   · have hy0 : y = 0 :=by simpa using hd
     subst hy0
     rw [Nat.gcd_zero_right] at h3
     rw [← h3]
     have cm :=nK 1 (dg (x : Int)) (by omega) (aO _)
     rw [bF (by omega)] at cm
     have e : big2 (if (x : Int) = 0 then 0 else 1) (dg (x : Int)) = bigZ (x : Int) :=by
      show _ = big2 (sg (x : Int)) (dg (ab (x : Int)))
      rw [KU]
      by_cases q : x = 0
      · subst q; rfl
      · rw [if_neg (by omega),JJ q]
     rw [e] at cm
     (repeat (refine a7 q14x5 hX mixed rfl ?_;simp [go_sem];try refine ⟨by kernel_rfl,?_⟩))
     first | refine a8 (cm) ?_ | refine aA (cm) ?_
     try (simp [go_sem];try refine ⟨by kernel_rfl,?_⟩)
     (repeat (refine a7 q14x5 hX mixed rfl ?_;simp [go_sem];try refine ⟨by kernel_rfl,?_⟩))
end Go.Proofs.YthibhamepjhfjaaGreatDoor

namespace Go.Proofs.YthibhamepjhfjaaGreatDoor
open Go.RowKit Go.Ab
attribute [local irreducible] AWP Go.Ab.Sub Means MeansH CallK CallG CallT CallGT CallU
theorem dB {z w q r : Int} (hz : rz z) (hw : rz w) (h0 : w ≠ 0) (hq : dq z w = q) (hr : dr z w = r) : Means false Tryz.prog 83 [bigZ z,bigZ w] (.tup [bigZ q,bigZ r,ii 0]) :=by
 have :=JI z w hz hw h0
 rwa [hq,hr] at this
theorem nL {z w g : Int} (hz : rz z) (hw : rz w) (hg : (Int.gcd z w : Int) = g) : Means false Tryz.prog 79 [bigZ z,bigZ w] (.tup [bigZ g,ii 0]) :=by
 have :=yF z w hz hw
 rwa [hg] at this
theorem tN (x : Int) : rz (r60 x) :=by
 unfold r60
 by_cases h : rz x
 · rwa [if_pos h]
 · rw [if_neg h]; exact GZ (by decide)
set_option maxHeartbeats 4000000 in
set_option maxRecDepth 20000 in
theorem kC (s1 : Int) (L1 : List Int) (l1 : L1.length ≤ 9223372036854775807) (s2 : Int) (L2 : List Int) (l2 : L2.length ≤ 9223372036854775807) : Means false Tryz.prog 47 [frac4 s1 L1 s2 L2] (bb (decide (isF s1 L1 s2 L2))) :=by
 refine aF false 33 [.tmp 2] Tryz.func47 rfl rfl rfl (by simp) (by decide) rfl fun X hX => ?_
 (repeat (refine a7 [0,1,2,3,20] hX mixed rfl ?_;simp [go_sem];try refine ⟨by kernel_rfl,?_⟩))
 first | refine a8 (iS s1 L1 l1) ?_ | refine aA (iS s1 L1 l1) ?_
 try (simp [go_sem];try refine ⟨by kernel_rfl,?_⟩)
 first | refine aP (fun hg => iS s2 L2 l2) ?_ | refine aM (fun hg => iS s2 L2 l2) ?_
 try (simp [go_sem];try refine ⟨by kernel_rfl,?_⟩)
 by_cases h : isR s1 L1 ∧ isR s2 L2 ∧ ¬ s2 < 1
 · obtain ⟨h1,h2,h3⟩ :=h
   have h3' : ¬ s2 ≤ 0 :=by omega
   refine aC (by simp [go_sem,h1,h2]; omega) ?_
   obtain ⟨p,hp,rfl,rfl⟩ :=pQ h1
   obtain ⟨q,hq,rfl,rfl⟩ :=pQ h2
   have hq0 : 0 < q :=by rcases aE q with h | h | h <;> omega
   have e : isF (sg p) (dg (ab p)) (sg q) (dg (ab q)) ↔ (Int.gcd p q : Int) = 1 :=by
    unfold isF rf
    rw [eE,eE]
    constructor
    · rintro ⟨_,_,_,_,_,h⟩; omega
    · intro h; exact ⟨h1,h2,hp,hq,hq0,by omega⟩
   have zg : rz (Int.gcd p q : Int) :=tO hp hq
   have hc :=jD (Int.gcd p q : Int) 1
   (repeat (refine a7 [0,1,2,3,20] hX mixed rfl ?_;simp [go_sem];try refine ⟨by kernel_rfl,?_⟩))
   first | refine a8 (yF p q hp hq) ?_ | refine aA (yF p q hp hq) ?_
   try (simp [go_sem];try refine ⟨by kernel_rfl,?_⟩)
   (repeat (refine a7 [0,1,2,3,20] hX mixed rfl ?_;simp [go_sem];try refine ⟨by kernel_rfl,?_⟩))
   first | refine a8 (jS 1 (by decide)) ?_ | refine aA (jS 1 (by decide)) ?_
   try (simp [go_sem];try refine ⟨by kernel_rfl,?_⟩)
   first | refine a8 (fD _ 1 zg (GZ (by decide))) ?_ | refine aA (fD _ 1 zg (GZ (by decide))) ?_
   try (simp [go_sem];try refine ⟨by kernel_rfl,?_⟩)
   (repeat (refine a7 [0,1,2,3,20] hX mixed rfl ?_;simp [go_sem,e,hc];try refine ⟨by kernel_rfl,?_⟩))
 · have e : ¬ isF s1 L1 s2 L2 :=fun hf => h ⟨hf.1,hf.2.1,by
    obtain ⟨p,q,hr,_,_,rfl,_⟩ :=yG hf
    have :=hr.2.2.1
    rcases aE q with h | h | h <;> omega⟩
   refine aK (by simp [go_sem]; grind) ?_
   (repeat (refine a7 [0,1,2,3,20] hX mixed rfl ?_;simp [go_sem,e];try refine ⟨by kernel_rfl,?_⟩))
theorem bI (p q : Int) (h : rf p q) : Means false Tryz.prog 47 [frZ p q] (bb true) :=by
 have :=kC (sg p) (dg (ab p)) (by have :=bQ h.1; omega) (sg q) (dg (ab q)) (by have :=bQ h.2.1; omega)
 rwa [decide_eq_true (yH h)] at this
set_option maxHeartbeats 4000000 in
set_option maxRecDepth 20000 in
theorem yI (p q : Int) (hp : rz p) (hq : rz q) (h0 : q ≠ 0) : Means false Tryz.prog 101 [bigZ p,bigZ q] (.tup [frZ (np p q) (nq p q),ii 0]) :=by
 have hs0 : ¬ sg q = 0 :=by rcases aE q with h | h | h <;> omega
 have hgp :=tP (p :=p) h0
 have hg0 : (Int.gcd p q : Int) ≠ 0 :=by omega
 have zg : rz (Int.gcd p q : Int) :=tO hp hq
 have znp :=iQ hp
 have znq :=iQ hq
 refine aF false 57 [.cell 4 41,.tmp 5] Tryz.func101 rfl rfl rfl (by simp) (by decide) rfl fun X hX => ?_
 (repeat (refine a7 q14x1 hX mixed rfl ?_;simp [go_sem];try refine ⟨by kernel_rfl,?_⟩))
 first | refine a8 (aQ p hp) ?_ | refine aA (aQ p hp) ?_
 try (simp [go_sem];try refine ⟨by kernel_rfl,?_⟩)
 first | refine aP (fun hg => aQ q hq) ?_ | refine aM (fun hg => aQ q hq) ?_
 try (simp [go_sem];try refine ⟨by kernel_rfl,?_⟩)
 refine aC (by simp [go_sem]) ?_
 (repeat (refine a7 q14x1 hX mixed rfl ?_;simp [go_sem];try refine ⟨by kernel_rfl,?_⟩))
 refine aC (by simp [go_sem,hs0]) ?_
 (repeat (refine a7 q14x1 hX mixed rfl ?_;simp [go_sem];try refine ⟨by kernel_rfl,?_⟩))
 by_cases hn : q < 0
 · have hsq : sg q = -1 :=by unfold sg; rw [if_pos hn]
   refine aK (by simp [go_sem,hsq]) ?_
   (repeat (refine a7 q14x1 hX mixed rfl ?_;simp [go_sem];try refine ⟨by kernel_rfl,?_⟩))
   first | refine a8 (lP p hp) ?_ | refine aA (lP p hp) ?_
   try (simp [go_sem];try refine ⟨by kernel_rfl,?_⟩)
   (repeat (refine a7 q14x1 hX mixed rfl ?_;simp [go_sem];try refine ⟨by kernel_rfl,?_⟩))
   first | refine a8 (lP q hq) ?_ | refine aA (lP q hq) ?_
   try (simp [go_sem];try refine ⟨by kernel_rfl,?_⟩)
   (repeat (refine a7 q14x1 hX mixed rfl ?_;simp [go_sem];try refine ⟨by kernel_rfl,?_⟩))
   first | refine a8 (nL (g :=(Int.gcd p q : Int)) znp znq (by rw [Int.neg_gcd,Int.gcd_neg])) ?_ | refine aA (nL (g :=(Int.gcd p q : Int)) znp znq (by rw [Int.neg_gcd,Int.gcd_neg])) ?_
   try (simp [go_sem];try refine ⟨by kernel_rfl,?_⟩)
   (repeat (refine a7 q14x1 hX mixed rfl ?_;simp [go_sem];try refine ⟨by kernel_rfl,?_⟩))
   first | refine a8 (dB znp zg hg0 (mH h0 (by rw [hsq,Int.neg_one_mul]) hgp) rfl) ?_ | refine aA (dB znp zg hg0 (mH h0 (by rw [hsq,Int.neg_one_mul]) hgp) rfl) ?_
   try (simp [go_sem];try refine ⟨by kernel_rfl,?_⟩)
   (repeat (refine a7 q14x1 hX mixed rfl ?_;simp [go_sem];try refine ⟨by kernel_rfl,?_⟩))
   first | refine a8 (dB znq zg hg0 (mI (by unfold ab; rw [if_pos hn]) hgp) rfl) ?_ | refine aA (dB znq zg hg0 (mI (by unfold ab; rw [if_pos hn]) hgp) rfl) ?_
   try (simp [go_sem];try refine ⟨by kernel_rfl,?_⟩)
   (repeat (refine a7 q14x1 hX mixed rfl ?_;simp [go_sem];try refine ⟨by kernel_rfl,?_⟩))
 · have hsq : sg q = 1 :=by rcases aE q with h | h | h <;> omega
   refine aC (by simp [go_sem,hsq]) ?_
   (repeat (refine a7 q14x1 hX mixed rfl ?_;simp [go_sem];try refine ⟨by kernel_rfl,?_⟩))
   first | refine a8 (nL (g :=(Int.gcd p q : Int)) hp hq (rfl)) ?_ | refine aA (nL (g :=(Int.gcd p q : Int)) hp hq (rfl)) ?_
   try (simp [go_sem];try refine ⟨by kernel_rfl,?_⟩)
   (repeat (refine a7 q14x1 hX mixed rfl ?_;simp [go_sem];try refine ⟨by kernel_rfl,?_⟩))
   first | refine a8 (dB hp zg hg0 (mH h0 (by rw [hsq,Int.one_mul]) hgp) rfl) ?_ | refine aA (dB hp zg hg0 (mH h0 (by rw [hsq,Int.one_mul]) hgp) rfl) ?_
   try (simp [go_sem];try refine ⟨by kernel_rfl,?_⟩)
   (repeat (refine a7 q14x1 hX mixed rfl ?_;simp [go_sem];try refine ⟨by kernel_rfl,?_⟩))
   first | refine a8 (dB hq zg hg0 (mI (by unfold ab; rw [if_neg hn]) hgp) rfl) ?_ | refine aA (dB hq zg hg0 (mI (by unfold ab; rw [if_neg hn]) hgp) rfl) ?_
   try (simp [go_sem];try refine ⟨by kernel_rfl,?_⟩)
   (repeat (refine a7 q14x1 hX mixed rfl ?_;simp [go_sem];try refine ⟨by kernel_rfl,?_⟩))
theorem KV (p q x y e : Int) (hp : -9223372036854775808 ≤ p ∧ p ≤ 9223372036854775807) (hq : -9223372036854775808 ≤ q ∧ q ≤ 9223372036854775807) (h : Means false Tryz.prog 101 [bigZ p,bigZ q] (.tup [frZ x y,ii e])) : Means false Tryz.prog 71 [ii p,ii q] (.tup [frZ x y,ii e]) :=by
 refine aF false 13 [.cell 4 41,.tmp 5] Tryz.func71 rfl rfl rfl (by simp) (by decide) rfl fun X hX => ?_
 (repeat (refine a7 [0,1,4,5] hX mixed rfl ?_;simp [go_sem];try refine ⟨by kernel_rfl,?_⟩))
 first | refine a8 (jS p hp) ?_ | refine aA (jS p hp) ?_
 try (simp [go_sem];try refine ⟨by kernel_rfl,?_⟩)
 first | refine a8 (jS q hq) ?_ | refine aA (jS q hq) ?_
 try (simp [go_sem];try refine ⟨by kernel_rfl,?_⟩)
 first | refine a8 (h) ?_ | refine aA (h) ?_
 try (simp [go_sem];try refine ⟨by kernel_rfl,?_⟩)
 (repeat (refine a7 [0,1,4,5] hX mixed rfl ?_;simp [go_sem];try refine ⟨by kernel_rfl,?_⟩))
theorem fQ {bad : Bool} (p q : Int) (hp : rz p) (hq : rz q) (h0 : q ≠ 0) (hb : bad = false) : Means false Tryz.prog 74 [bigZ p,bigZ q,bb bad] (.tup [frZ (np p q) (nq p q),ii 0]) :=by
 subst hb
 refine aF false 15 [.cell 6 41,.tmp 7] Tryz.func74 rfl rfl rfl (by simp) (by decide) rfl fun X hX => ?_
 (repeat (refine a7 q14x7 hX mixed rfl ?_;simp [go_sem];try refine ⟨by kernel_rfl,?_⟩))
 refine aC (by simp [go_sem]) ?_
 (repeat (refine a7 q14x7 hX mixed rfl ?_;simp [go_sem];try refine ⟨by kernel_rfl,?_⟩))
 first | refine a8 (yI p q hp hq h0) ?_ | refine aA (yI p q hp hq h0) ?_
 try (simp [go_sem];try refine ⟨by kernel_rfl,?_⟩)
 (repeat (refine a7 q14x7 hX mixed rfl ?_;simp [go_sem];try refine ⟨by kernel_rfl,?_⟩))
theorem fR {bad : Bool} (p q : Int) (hb : bad = true) : Means false Tryz.prog 74 [bigZ p,bigZ q,bb bad] (.tup [frZ 0 0,ii 6]) :=by
 subst hb
 refine aF false 15 [.cell 6 41,.tmp 7] Tryz.func74 rfl rfl rfl (by simp) (by decide) rfl fun X hX => ?_
 (repeat (refine a7 q14x7 hX mixed rfl ?_;simp [go_sem];try refine ⟨by kernel_rfl,?_⟩))
 refine aK (by simp [go_sem]) ?_
 (repeat (refine a7 q14x7 hX mixed rfl ?_;simp [go_sem];try refine ⟨by kernel_rfl,?_⟩))
end Go.Proofs.YthibhamepjhfjaaGreatDoor

namespace Go.Proofs.YthibhamepjhfjaaGreatDoor
open Go.RowKit Go.Ab
attribute [local irreducible] AWP Go.Ab.Sub Means MeansH CallK CallG CallT CallGT CallU
theorem eN (x : Int) : e60 x = 0 ↔ rz x :=by
 unfold e60
 by_cases h : rz x
 · rw [if_pos h]; simp [h]
 · rw [if_neg h]; simp [h]
set_option maxHeartbeats 4000000 in
set_option maxRecDepth 20000 in
theorem JK (a b c d : Int) (hab : rf a b) (hcd : rf c d) : Means false Tryz.prog 51 [frZ a b,frZ c d] (resF (sumP a d c b ∧ rz (b * d)) (a * d + c * b) (b * d)) :=by
 have hb0 :=hab.2.2.1
 have hd0 :=hcd.2.2.1
 have hbd : b * d ≠ 0 :=Int.mul_ne_zero (by omega) (by omega)
 have m1 :=fU a d hab.1 hcd.2.1
 have m2 :=fU c b hcd.1 hab.2.1
 have m3 :=fU b d hab.2.1 hcd.2.1
 have m4 :=EN (r60 (a * d)) (r60 (c * b)) (tN _) (tN _)
 refine aF false 72 [.cell 4 41,.tmp 5] Tryz.func51 rfl rfl rfl (by simp) (by decide) rfl fun X hX => ?_
 (repeat (refine a7 q14x0 hX mixed rfl ?_;simp [go_sem];try refine ⟨by kernel_rfl,?_⟩))
 first | refine a8 (bI a b hab) ?_ | refine aA (bI a b hab) ?_
 try (simp [go_sem];try refine ⟨by kernel_rfl,?_⟩)
 first | refine aP (fun hg => bI c d hcd) ?_ | refine aM (fun hg => bI c d hcd) ?_
 try (simp [go_sem];try refine ⟨by kernel_rfl,?_⟩)
 refine aC (by simp [go_sem]) ?_
 (repeat (refine a7 q14x0 hX mixed rfl ?_;simp [go_sem];try refine ⟨by kernel_rfl,?_⟩))
 first | refine a8 (m1) ?_ | refine aA (m1) ?_
 try (simp [go_sem];try refine ⟨by kernel_rfl,?_⟩)
 (repeat (refine a7 q14x0 hX mixed rfl ?_;simp [go_sem];try refine ⟨by kernel_rfl,?_⟩))
 first | refine a8 (m2) ?_ | refine aA (m2) ?_
 try (simp [go_sem];try refine ⟨by kernel_rfl,?_⟩)
 (repeat (refine a7 q14x0 hX mixed rfl ?_;simp [go_sem];try refine ⟨by kernel_rfl,?_⟩))
 first | refine a8 (m3) ?_ | refine aA (m3) ?_
 try (simp [go_sem];try refine ⟨by kernel_rfl,?_⟩)
 (repeat (refine a7 q14x0 hX mixed rfl ?_;simp [go_sem];try refine ⟨by kernel_rfl,?_⟩))
 first | refine a8 (m4) ?_ | refine aA (m4) ?_
 try (simp [go_sem];try refine ⟨by kernel_rfl,?_⟩)
 (repeat (refine a7 q14x0 hX mixed rfl ?_;simp [go_sem];try refine ⟨by kernel_rfl,?_⟩))
 by_cases hok : sumP a d c b ∧ rz (b * d)
 · obtain ⟨⟨o1,o2,o4⟩,o3⟩ :=hok
   rw [cY ⟨⟨o1,o2,o4⟩,o3⟩,cN o1,cN o2,cN o3,cN o4]
   first | refine a8 (fQ _ _ o4 o3 hbd (by simp [eN,o1,o2,o3,o4])) ?_ | refine aA (fQ _ _ o4 o3 hbd (by simp [eN,o1,o2,o3,o4])) ?_
   try (simp [go_sem];try refine ⟨by kernel_rfl,?_⟩)
   (repeat (refine a7 q14x0 hX mixed rfl ?_;simp [go_sem];try refine ⟨by kernel_rfl,?_⟩))
 · have hno : ((¬ rz (a * d) ∨ ¬ rz (c * b)) ∨ ¬ rz (b * d)) ∨ ¬ rz (r60 (a * d) + r60 (c * b)) :=Classical.byContradiction fun q => by
    simp only [not_or,Classical.not_not] at q
    obtain ⟨⟨⟨o1,o2⟩,o3⟩,o4⟩ :=q
    rw [cN o1,cN o2] at o4; exact hok ⟨⟨o1,o2,o4⟩,o3⟩
   rw [cO hok]
   first | refine a8 (fR _ _ (by simp [eN]; exact hno)) ?_ | refine aA (fR _ _ (by simp [eN]; exact hno)) ?_
   try (simp [go_sem];try refine ⟨by kernel_rfl,?_⟩)
   (repeat (refine a7 q14x0 hX mixed rfl ?_;simp [go_sem];try refine ⟨by kernel_rfl,?_⟩))
set_option maxHeartbeats 4000000 in
set_option maxRecDepth 20000 in
theorem JL (a b c d : Int) (hab : rf a b) (hcd : rf c d) : Means false Tryz.prog 36 [frZ a b,frZ c d] (resF (sumP a d (-c) b ∧ rz (b * d)) (a * d + -c * b) (b * d)) :=by
 have hb0 :=hab.2.2.1
 have hd0 :=hcd.2.2.1
 have hbd : b * d ≠ 0 :=Int.mul_ne_zero (by omega) (by omega)
 have es : a * d + -c * b = a * d - c * b :=by rw [Int.neg_mul]; omega
 have m1 :=fU a d hab.1 hcd.2.1
 have m2 :=fU c b hcd.1 hab.2.1
 have m3 :=fU b d hab.2.1 hcd.2.1
 have m4 :=JH (r60 (a * d)) (r60 (c * b)) (tN _) (tN _)
 refine aF false 72 [.cell 4 41,.tmp 5] Tryz.func36 rfl rfl rfl (by simp) (by decide) rfl fun X hX => ?_
 (repeat (refine a7 q14x0 hX mixed rfl ?_;simp [go_sem];try refine ⟨by kernel_rfl,?_⟩))
 first | refine a8 (bI a b hab) ?_ | refine aA (bI a b hab) ?_
 try (simp [go_sem];try refine ⟨by kernel_rfl,?_⟩)
 first | refine aP (fun hg => bI c d hcd) ?_ | refine aM (fun hg => bI c d hcd) ?_
 try (simp [go_sem];try refine ⟨by kernel_rfl,?_⟩)
 refine aC (by simp [go_sem]) ?_
 (repeat (refine a7 q14x0 hX mixed rfl ?_;simp [go_sem];try refine ⟨by kernel_rfl,?_⟩))
 first | refine a8 (m1) ?_ | refine aA (m1) ?_
 try (simp [go_sem];try refine ⟨by kernel_rfl,?_⟩)
 (repeat (refine a7 q14x0 hX mixed rfl ?_;simp [go_sem];try refine ⟨by kernel_rfl,?_⟩))
 first | refine a8 (m2) ?_ | refine aA (m2) ?_
 try (simp [go_sem];try refine ⟨by kernel_rfl,?_⟩)
 (repeat (refine a7 q14x0 hX mixed rfl ?_;simp [go_sem];try refine ⟨by kernel_rfl,?_⟩))
 first | refine a8 (m3) ?_ | refine aA (m3) ?_
 try (simp [go_sem];try refine ⟨by kernel_rfl,?_⟩)
 (repeat (refine a7 q14x0 hX mixed rfl ?_;simp [go_sem];try refine ⟨by kernel_rfl,?_⟩))
 first | refine a8 (m4) ?_ | refine aA (m4) ?_
 try (simp [go_sem];try refine ⟨by kernel_rfl,?_⟩)
 (repeat (refine a7 q14x0 hX mixed rfl ?_;simp [go_sem];try refine ⟨by kernel_rfl,?_⟩))
 by_cases hok : sumP a d (-c) b ∧ rz (b * d)
 · obtain ⟨⟨o1,o2,o4⟩,o3⟩ :=hok
   rw [cY ⟨⟨o1,o2,o4⟩,o3⟩]
   rw [es] at o4 ⊢
   have o2 : rz (c * b) :=by rw [Int.neg_mul] at o2; have :=iQ o2; rwa [Int.neg_neg] at this
   rw [cN o1,cN o2,cN o3,cN o4]
   first | refine a8 (fQ _ _ o4 o3 hbd (by simp [eN,o1,o2,o3,o4])) ?_ | refine aA (fQ _ _ o4 o3 hbd (by simp [eN,o1,o2,o3,o4])) ?_
   try (simp [go_sem];try refine ⟨by kernel_rfl,?_⟩)
   (repeat (refine a7 q14x0 hX mixed rfl ?_;simp [go_sem];try refine ⟨by kernel_rfl,?_⟩))
 · have hno : ((¬ rz (a * d) ∨ ¬ rz (c * b)) ∨ ¬ rz (b * d)) ∨ ¬ rz (r60 (a * d) - r60 (c * b)) :=Classical.byContradiction fun q => by
    simp only [not_or,Classical.not_not] at q
    obtain ⟨⟨⟨o1,o2⟩,o3⟩,o4⟩ :=q
    rw [cN o1,cN o2] at o4; exact hok ⟨⟨o1,by rw [Int.neg_mul]; exact iQ o2,by rw [es]; exact o4⟩,o3⟩
   rw [cO hok]
   first | refine a8 (fR _ _ (by simp [eN]; exact hno)) ?_ | refine aA (fR _ _ (by simp [eN]; exact hno)) ?_
   try (simp [go_sem];try refine ⟨by kernel_rfl,?_⟩)
   (repeat (refine a7 q14x0 hX mixed rfl ?_;simp [go_sem];try refine ⟨by kernel_rfl,?_⟩))
set_option maxHeartbeats 4000000 in
set_option maxRecDepth 20000 in
theorem JM (a b c d : Int) (hab : rf a b) (hcd : rf c d) : Means false Tryz.prog 39 [frZ a b,frZ c d] (resF (rz (a * c) ∧ rz (b * d)) (a * c) (b * d)) :=by
 have hb0 :=hab.2.2.1
 have hd0 :=hcd.2.2.1
 have hbd : b * d ≠ 0 :=Int.mul_ne_zero (by omega) (by omega)
 have m1 :=fU a c hab.1 hcd.1
 have m2 :=fU b d hab.2.1 hcd.2.1
 refine aF false 46 [.cell 4 41,.tmp 5] Tryz.func39 rfl rfl rfl (by simp) (by decide) rfl fun X hX => ?_
 (repeat (refine a7 q14x6 hX mixed rfl ?_;simp [go_sem];try refine ⟨by kernel_rfl,?_⟩))
 first | refine a8 (bI a b hab) ?_ | refine aA (bI a b hab) ?_
 try (simp [go_sem];try refine ⟨by kernel_rfl,?_⟩)
 first | refine aP (fun hg => bI c d hcd) ?_ | refine aM (fun hg => bI c d hcd) ?_
 try (simp [go_sem];try refine ⟨by kernel_rfl,?_⟩)
 refine aC (by simp [go_sem]) ?_
 (repeat (refine a7 q14x6 hX mixed rfl ?_;simp [go_sem];try refine ⟨by kernel_rfl,?_⟩))
 first | refine a8 (m1) ?_ | refine aA (m1) ?_
 try (simp [go_sem];try refine ⟨by kernel_rfl,?_⟩)
 (repeat (refine a7 q14x6 hX mixed rfl ?_;simp [go_sem];try refine ⟨by kernel_rfl,?_⟩))
 first | refine a8 (m2) ?_ | refine aA (m2) ?_
 try (simp [go_sem];try refine ⟨by kernel_rfl,?_⟩)
 (repeat (refine a7 q14x6 hX mixed rfl ?_;simp [go_sem];try refine ⟨by kernel_rfl,?_⟩))
 by_cases hok : rz (a * c) ∧ rz (b * d)
 · obtain ⟨o1,o2⟩ :=hok
   rw [cY ⟨o1,o2⟩,cN o1,cN o2]
   first | refine a8 (fQ _ _ o1 o2 hbd (by simp [eN,o1,o2])) ?_ | refine aA (fQ _ _ o1 o2 hbd (by simp [eN,o1,o2])) ?_
   try (simp [go_sem];try refine ⟨by kernel_rfl,?_⟩)
   (repeat (refine a7 q14x6 hX mixed rfl ?_;simp [go_sem];try refine ⟨by kernel_rfl,?_⟩))
 · have hno : ¬ rz (a * c) ∨ ¬ rz (b * d) :=Classical.byContradiction fun q => by
    simp only [not_or,Classical.not_not] at q
    obtain ⟨o1,o2⟩ :=q
    exact hok ⟨o1,o2⟩
   rw [cO hok]
   first | refine a8 (fR _ _ (by simp [eN]; exact hno)) ?_ | refine aA (fR _ _ (by simp [eN]; exact hno)) ?_
   try (simp [go_sem];try refine ⟨by kernel_rfl,?_⟩)
   (repeat (refine a7 q14x6 hX mixed rfl ?_;simp [go_sem];try refine ⟨by kernel_rfl,?_⟩))
set_option maxHeartbeats 4000000 in
set_option maxRecDepth 20000 in
theorem JN (a b c d : Int) (hab : rf a b) (hcd : rf c d) (h0 : c ≠ 0) : Means false Tryz.prog 37 [frZ a b,frZ c d] (resF (rz (a * d) ∧ rz (b * c)) (a * d) (b * c)) :=by
 have hb0 :=hab.2.2.1
 have hd0 :=hcd.2.2.1
 have hbd : b * c ≠ 0 :=Int.mul_ne_zero (by omega) h0
 have hsc : ¬ sg c = 0 :=by rcases aE c with h | h | h <;> omega
 have m1 :=fU a d hab.1 hcd.2.1
 have m2 :=fU b c hab.2.1 hcd.1
 refine aF false 51 [.cell 4 41,.tmp 5] Tryz.func37 rfl rfl rfl (by simp) (by decide) rfl fun X hX => ?_
 (repeat (refine a7 q14x4 hX mixed rfl ?_;simp [go_sem];try refine ⟨by kernel_rfl,?_⟩))
 first | refine a8 (bI a b hab) ?_ | refine aA (bI a b hab) ?_
 try (simp [go_sem];try refine ⟨by kernel_rfl,?_⟩)
 first | refine aP (fun hg => bI c d hcd) ?_ | refine aM (fun hg => bI c d hcd) ?_
 try (simp [go_sem];try refine ⟨by kernel_rfl,?_⟩)
 refine aC (by simp [go_sem]) ?_
 (repeat (refine a7 q14x4 hX mixed rfl ?_;simp [go_sem];try refine ⟨by kernel_rfl,?_⟩))
 refine aC (by simp [go_sem,hsc]) ?_
 (repeat (refine a7 q14x4 hX mixed rfl ?_;simp [go_sem];try refine ⟨by kernel_rfl,?_⟩))
 first | refine a8 (m1) ?_ | refine aA (m1) ?_
 try (simp [go_sem];try refine ⟨by kernel_rfl,?_⟩)
 (repeat (refine a7 q14x4 hX mixed rfl ?_;simp [go_sem];try refine ⟨by kernel_rfl,?_⟩))
 first | refine a8 (m2) ?_ | refine aA (m2) ?_
 try (simp [go_sem];try refine ⟨by kernel_rfl,?_⟩)
 (repeat (refine a7 q14x4 hX mixed rfl ?_;simp [go_sem];try refine ⟨by kernel_rfl,?_⟩))
 by_cases hok : rz (a * d) ∧ rz (b * c)
 · obtain ⟨o1,o2⟩ :=hok
   rw [cY ⟨o1,o2⟩,cN o1,cN o2]
   first | refine a8 (fQ _ _ o1 o2 hbd (by simp [eN,o1,o2])) ?_ | refine aA (fQ _ _ o1 o2 hbd (by simp [eN,o1,o2])) ?_
   try (simp [go_sem];try refine ⟨by kernel_rfl,?_⟩)
   (repeat (refine a7 q14x4 hX mixed rfl ?_;simp [go_sem];try refine ⟨by kernel_rfl,?_⟩))
 · have hno : ¬ rz (a * d) ∨ ¬ rz (b * c) :=Classical.byContradiction fun q => by
    simp only [not_or,Classical.not_not] at q
    obtain ⟨o1,o2⟩ :=q
    exact hok ⟨o1,o2⟩
   rw [cO hok]
   first | refine a8 (fR _ _ (by simp [eN]; exact hno)) ?_ | refine aA (fR _ _ (by simp [eN]; exact hno)) ?_
   try (simp [go_sem];try refine ⟨by kernel_rfl,?_⟩)
   (repeat (refine a7 q14x4 hX mixed rfl ?_;simp [go_sem];try refine ⟨by kernel_rfl,?_⟩))
end Go.Proofs.YthibhamepjhfjaaGreatDoor

